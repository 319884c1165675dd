-- Printed by mkprint.py (a program of this session, over the kit's print). Lean checks it.
import Derived.Test.YtnecmclnokikoaaPx0
import Derived.Test.YtnecmclnokikoaaPx1
import Derived.Test.YtnecmclnokikoaaHandRun
namespace Go.Proofs.Ytnecmclnokikoaa.P
open Go.RowKit Go.Proofs.YtnecmclnokikoaaW.PrintWords Go.Proofs.YtnecmclnokikoaaW.PrintLast Go.Proofs.YtnecmclnokikoaaW.PrintMore
attribute [local go_sem] max2_int min2_int max_two min_two max_three min_three max_four min_four   -- for this text's walks alone
set_option linter.unusedVariables false
set_option linter.unusedSimpArgs false

/-! ### thyrsuslaw12_RunPrims: function 4 -/
def thyrsuslaw12_RunPrims.j0 : Nat → Int → Int → Int → Int → Bool → Int → Int → List (S34) → Option (Bool)
  | 0, _, _, _, _, _, _, _, _ => none
  | k + 1, x0, x1, x8, x11, x47, x189000, x189001, x189002 => if x47 = true then (if x11 = 18 then (some (x189000 == 0)) else (none)) else (if x8 = 0 then (if x11 = 0 then (if x189000 = 1 then (if x189001 = (wrap64 (x0 + x1)) then (some ((x189002.length : Int) == 0)) else (none)) else (none)) else (none)) else (if x8 = 1 then (if x11 = 0 then (if x189000 = 1 then (if x189001 = (wrap64 (x0 - x1)) then (some ((x189002.length : Int) == 0)) else (none)) else (none)) else (none)) else (if x8 = 2 then (if x11 = 0 then (if x189000 = 1 then (if x189001 = (wrap64 (x0 * x1)) then (some ((x189002.length : Int) == 0)) else (none)) else (none)) else (none)) else (if x8 = 3 then (if x1 = (-1) then (if x11 = 0 then (if x189000 = 1 then (if x189001 = (wrap64 (-x0)) then (some ((x189002.length : Int) == 0)) else (none)) else (none)) else (none)) else (if x1 = 0 then (none) else (if x11 = 0 then (if x189000 = 1 then (if x189001 = (wrap64 (Int.tdiv x0 x1)) then (some ((x189002.length : Int) == 0)) else (none)) else (none)) else (none)))) else (if x8 = 4 then (if x0 < x1 then (if x11 = 0 then (if x189000 = 1 then (if x189001 = 1 then (some ((x189002.length : Int) == 0)) else (none)) else (none)) else (none)) else (if x11 = 0 then (if x189000 = 1 then (if x189001 = 0 then (some ((x189002.length : Int) == 0)) else (none)) else (none)) else (none))) else (if x11 = 0 then (if x189000 = 1 then (if x189001 = 0 then (some ((x189002.length : Int) == 0)) else (none)) else (none)) else (none)))))))
def thyrsuslaw12_RunPrims.f (k : Nat) (a0 : Int) (a1 : Int) (a2 : Int) : Option (Bool) := (thyrsuslaw12_known.f k).bind fun t154 => (if t154 = true then ((some (([(-9223372036854775808), 9223372036854775807, 0, 1, (-1), a0] : List Int) : List Int)).bind fun y155 => ((thyrsuslaw12_within.f a0 6).bind fun t158 => (if 0 ≤ t158 then (if t158 < (y155.length : Int) then ((some (([a1, 0, (-1), (-9223372036854775808), 7] : List Int) : List Int)).bind fun y160 => ((thyrsuslaw12_within.f (wrap64 (Int.tdiv a2 5)) 5).bind fun t163 => (if 0 ≤ t163 then (if t163 < (y160.length : Int) then ((thyrsuslaw12_within.f a2 5).bind fun t165 => ((thyrsusref4_Int.f (rd y155 t158)).bind fun bt166 => ((thyrsusref4_Int.f (rd y160 t163)).bind fun bt171 => ((thyrsuslaw12_prim.f t165 bt166.1 bt166.2.1 bt166.2.2 bt171.1 bt171.2.1 bt171.2.2).bind fun bt176 => ((run_Run.f k bt176.1 bt176.2.1 bt176.2.2 0).bind fun bt181 => (if t165 = 3 then (thyrsuslaw12_RunPrims.j0 k (rd y155 t158) (rd y160 t163) t165 bt181.2.2.2.2 ((rd y160 t163) == 0) bt181.1 bt181.2.1 bt181.2.2.1) else (thyrsuslaw12_RunPrims.j0 k (rd y155 t158) (rd y160 t163) t165 bt181.2.2.2.2 false bt181.1 bt181.2.1 bt181.2.2.1))))))) else (none)) else (none)))) else (none)) else (none)))) else (none))
theorem thyrsuslaw12_RunPrims.mono_l : ∀ k, (∀ y0 y1 y2 y3 y4 y5 y6 y7, LeO (thyrsuslaw12_RunPrims.j0 k y0 y1 y2 y3 y4 y5 y6 y7) (thyrsuslaw12_RunPrims.j0 (k + 1) y0 y1 y2 y3 y4 y5 y6 y7))
  | 0 => fun _ _ _ _ _ _ _ _ r h => by simp [thyrsuslaw12_RunPrims.j0] at h
  | k + 1 => by
    have ih0 := thyrsuslaw12_RunPrims.mono_l k
    · intro y0 y1 y2 y3 y4 y5 y6 y7
      unfold thyrsuslaw12_RunPrims.j0
      repeat' first
      | (with_reducible exact ih0 _ _ _ _ _ _ _ _)
      | (with_reducible exact run_Run.mono _ _ _ _ _)
      | (with_reducible exact thyrsuslaw12_known.mono _)
      | (with_reducible exact LeO.refl _)
      | (with_reducible exact LeO.none _)
      | (with_reducible refine LeO.ite ?_ ?_)
      | (with_reducible refine LeO.bind ?_ (fun _ => ?_))
      | exact ih0 _ _ _ _ _ _ _ _
      | exact run_Run.mono _ _ _ _ _
      | exact thyrsuslaw12_known.mono _
      | exact LeO.none _
      | refine LeO.ite ?_ ?_
      | refine LeO.bind ?_ (fun _ => ?_)
theorem thyrsuslaw12_RunPrims.mono : ∀ a0 a1 a2 k, LeO (thyrsuslaw12_RunPrims.f k a0 a1 a2) (thyrsuslaw12_RunPrims.f (k + 1) a0 a1 a2) := by
  intro a0 a1 a2 k
  have ih0 := thyrsuslaw12_RunPrims.mono_l k
  unfold thyrsuslaw12_RunPrims.f
  repeat' first
      | (with_reducible exact ih0 _ _ _ _ _ _ _ _)
      | (with_reducible exact run_Run.mono _ _ _ _ _)
      | (with_reducible exact thyrsuslaw12_known.mono _)
      | (with_reducible exact LeO.refl _)
      | (with_reducible exact LeO.none _)
      | (with_reducible refine LeO.ite ?_ ?_)
      | (with_reducible refine LeO.bind ?_ (fun _ => ?_))
      | exact ih0 _ _ _ _ _ _ _ _
      | exact run_Run.mono _ _ _ _ _
      | exact thyrsuslaw12_known.mono _
      | exact LeO.none _
      | refine LeO.ite ?_ ?_
      | refine LeO.bind ?_ (fun _ => ?_)
def thyrsuslaw12_RunPrims.T4 : Bool × List (List Nat × List Nat) := (true, [([], []), ([], []), ([1], [1]), ([0, 2], [0, 2]), ([3], [3]), ([], []), ([5], [5]), ([], []), ([7], [7]), ([8, 2], [8]), ([6, 9], [6, 9]), ([10], [10]), ([4, 9, 0, 1, 2, 3, 4], [1, 4]), ([11, 12, 0, 1, 2, 3, 4, 5, 6, 7, 8, 9, 10, 11, 12], [5, 11])])
def thyrsuslaw12_RunPrims.B4 : List Nat := [0, 0, 2, 7, 15, 0, 32, 0, 128, 390, 998, 2022, 927, 8191]
theorem thyrsuslaw12_RunPrims.tab4 : rtab .any (opsOf Try.f4 4) = thyrsuslaw12_RunPrims.T4 := by kernel_rfl
theorem thyrsuslaw12_RunPrims.bits4 : waitsOk thyrsuslaw12_RunPrims.T4.2 thyrsuslaw12_RunPrims.B4 = true := by kernel_rfl
set_option maxHeartbeats 8000000 in
set_option maxRecDepth 100000 in
theorem thyrsuslaw12_RunPrims.calls (k : Nat) (a0 : Int) (a1 : Int) (a2 : Int) (r : Bool) (w : World) (h : thyrsuslaw12_RunPrims.f k a0 a1 a2 = some r) :
    Calls Try.prog 4 #[.int .i64 a0, .int .i64 a1, .int .i64 a2] w fun e w' => e = .returned (.bool r) ∧ Below w.heap.size w w' := by
  have hu34 := Try.underlying34
  have HB := Aside0.mk (Below.refl w.heap.size w)
  have H : ((thyrsuslaw12_known.f k).bind fun t154 => (if t154 = true then ((some (([(-9223372036854775808), 9223372036854775807, 0, 1, (-1), a0] : List Int) : List Int)).bind fun y155 => ((thyrsuslaw12_within.f a0 6).bind fun t158 => (if 0 ≤ t158 then (if t158 < (y155.length : Int) then ((some (([a1, 0, (-1), (-9223372036854775808), 7] : List Int) : List Int)).bind fun y160 => ((thyrsuslaw12_within.f (wrap64 (Int.tdiv a2 5)) 5).bind fun t163 => (if 0 ≤ t163 then (if t163 < (y160.length : Int) then ((thyrsuslaw12_within.f a2 5).bind fun t165 => ((thyrsusref4_Int.f (rd y155 t158)).bind fun bt166 => ((thyrsusref4_Int.f (rd y160 t163)).bind fun bt171 => ((thyrsuslaw12_prim.f t165 bt166.1 bt166.2.1 bt166.2.2 bt171.1 bt171.2.1 bt171.2.2).bind fun bt176 => ((run_Run.f k bt176.1 bt176.2.1 bt176.2.2 0).bind fun bt181 => (if t165 = 3 then (thyrsuslaw12_RunPrims.j0 k (rd y155 t158) (rd y160 t163) t165 bt181.2.2.2.2 ((rd y160 t163) == 0) bt181.1 bt181.2.1 bt181.2.2.1) else (thyrsuslaw12_RunPrims.j0 k (rd y155 t158) (rd y160 t163) t165 bt181.2.2.2.2 false bt181.1 bt181.2.1 bt181.2.2.1))))))) else (none)) else (none)))) else (none)) else (none)))) else (none))) = some r := h
  clear h
  replace H := Option.bind_eq_some_iff.mp H
  obtain ⟨t154, A40, H⟩ := H
  replace H : (if t154 = true then ((some (([(-9223372036854775808), 9223372036854775807, 0, 1, (-1), a0] : List Int) : List Int)).bind fun y155 => ((thyrsuslaw12_within.f a0 6).bind fun t158 => (if 0 ≤ t158 then (if t158 < (y155.length : Int) then ((some (([a1, 0, (-1), (-9223372036854775808), 7] : List Int) : List Int)).bind fun y160 => ((thyrsuslaw12_within.f (wrap64 (Int.tdiv a2 5)) 5).bind fun t163 => (if 0 ≤ t163 then (if t163 < (y160.length : Int) then ((thyrsuslaw12_within.f a2 5).bind fun t165 => ((thyrsusref4_Int.f (rd y155 t158)).bind fun bt166 => ((thyrsusref4_Int.f (rd y160 t163)).bind fun bt171 => ((thyrsuslaw12_prim.f t165 bt166.1 bt166.2.1 bt166.2.2 bt171.1 bt171.2.1 bt171.2.2).bind fun bt176 => ((run_Run.f k bt176.1 bt176.2.1 bt176.2.2 0).bind fun bt181 => (if t165 = 3 then (thyrsuslaw12_RunPrims.j0 k (rd y155 t158) (rd y160 t163) t165 bt181.2.2.2.2 ((rd y160 t163) == 0) bt181.1 bt181.2.1 bt181.2.2.1) else (thyrsuslaw12_RunPrims.j0 k (rd y155 t158) (rd y160 t163) t165 bt181.2.2.2.2 false bt181.1 bt181.2.1 bt181.2.2.1))))))) else (none)) else (none)))) else (none)) else (none)))) else (none)) = some r := H
  have A4 := Aside0.mk A40
  clear A40
  by_cases c5 : t154 = true
  · subst c5
    have H1 : ((some (([(-9223372036854775808), 9223372036854775807, 0, 1, (-1), a0] : List Int) : List Int)).bind fun y155 => ((thyrsuslaw12_within.f a0 6).bind fun t158 => (if 0 ≤ t158 then (if t158 < (y155.length : Int) then ((some (([a1, 0, (-1), (-9223372036854775808), 7] : List Int) : List Int)).bind fun y160 => ((thyrsuslaw12_within.f (wrap64 (Int.tdiv a2 5)) 5).bind fun t163 => (if 0 ≤ t163 then (if t163 < (y160.length : Int) then ((thyrsuslaw12_within.f a2 5).bind fun t165 => ((thyrsusref4_Int.f (rd y155 t158)).bind fun bt166 => ((thyrsusref4_Int.f (rd y160 t163)).bind fun bt171 => ((thyrsuslaw12_prim.f t165 bt166.1 bt166.2.1 bt166.2.2 bt171.1 bt171.2.1 bt171.2.2).bind fun bt176 => ((run_Run.f k bt176.1 bt176.2.1 bt176.2.2 0).bind fun bt181 => (if t165 = 3 then (thyrsuslaw12_RunPrims.j0 k (rd y155 t158) (rd y160 t163) t165 bt181.2.2.2.2 ((rd y160 t163) == 0) bt181.1 bt181.2.1 bt181.2.2.1) else (thyrsuslaw12_RunPrims.j0 k (rd y155 t158) (rd y160 t163) t165 bt181.2.2.2.2 false bt181.1 bt181.2.1 bt181.2.2.1))))))) else (none)) else (none)))) else (none)) else (none)))) = some r := by rw [if_pos rfl] at H; exact H
    clear H
    have H := H1
    clear H1
    obtain ⟨y155, hy155⟩ : ∃ y_ : List Int, y_ = (([(-9223372036854775808), 9223372036854775807, 0, 1, (-1), a0] : List Int)) := ⟨_, rfl⟩
    replace H : ((thyrsuslaw12_within.f a0 6).bind fun t158 => (if 0 ≤ t158 then (if t158 < (y155.length : Int) then ((some (([a1, 0, (-1), (-9223372036854775808), 7] : List Int) : List Int)).bind fun y160 => ((thyrsuslaw12_within.f (wrap64 (Int.tdiv a2 5)) 5).bind fun t163 => (if 0 ≤ t163 then (if t163 < (y160.length : Int) then ((thyrsuslaw12_within.f a2 5).bind fun t165 => ((thyrsusref4_Int.f (rd y155 t158)).bind fun bt166 => ((thyrsusref4_Int.f (rd y160 t163)).bind fun bt171 => ((thyrsuslaw12_prim.f t165 bt166.1 bt166.2.1 bt166.2.2 bt171.1 bt171.2.1 bt171.2.2).bind fun bt176 => ((run_Run.f k bt176.1 bt176.2.1 bt176.2.2 0).bind fun bt181 => (if t165 = 3 then (thyrsuslaw12_RunPrims.j0 k (rd y155 t158) (rd y160 t163) t165 bt181.2.2.2.2 ((rd y160 t163) == 0) bt181.1 bt181.2.1 bt181.2.2.1) else (thyrsuslaw12_RunPrims.j0 k (rd y155 t158) (rd y160 t163) t165 bt181.2.2.2.2 false bt181.1 bt181.2.1 bt181.2.2.1))))))) else (none)) else (none)))) else (none)) else (none))) = some r := by first | (rw [hy155]; with_reducible exact H) | (have H2_ := (Option.bind_some _ _).symm.trans H; rw [hy155]; with_reducible exact H2_) | (have H2_ := (Option.bind_some _ _).symm.trans H; with_reducible exact H2_) | with_reducible exact H | (rw [hy155]; exact H) | exact H
    have Ny155 := Aside0.mk hy155
    clear hy155
    replace H := Option.bind_eq_some_iff.mp H
    obtain ⟨t158, A60, H⟩ := H
    replace H : (if 0 ≤ t158 then (if t158 < (y155.length : Int) then ((some (([a1, 0, (-1), (-9223372036854775808), 7] : List Int) : List Int)).bind fun y160 => ((thyrsuslaw12_within.f (wrap64 (Int.tdiv a2 5)) 5).bind fun t163 => (if 0 ≤ t163 then (if t163 < (y160.length : Int) then ((thyrsuslaw12_within.f a2 5).bind fun t165 => ((thyrsusref4_Int.f (rd y155 t158)).bind fun bt166 => ((thyrsusref4_Int.f (rd y160 t163)).bind fun bt171 => ((thyrsuslaw12_prim.f t165 bt166.1 bt166.2.1 bt166.2.2 bt171.1 bt171.2.1 bt171.2.2).bind fun bt176 => ((run_Run.f k bt176.1 bt176.2.1 bt176.2.2 0).bind fun bt181 => (if t165 = 3 then (thyrsuslaw12_RunPrims.j0 k (rd y155 t158) (rd y160 t163) t165 bt181.2.2.2.2 ((rd y160 t163) == 0) bt181.1 bt181.2.1 bt181.2.2.1) else (thyrsuslaw12_RunPrims.j0 k (rd y155 t158) (rd y160 t163) t165 bt181.2.2.2.2 false bt181.1 bt181.2.1 bt181.2.2.1))))))) else (none)) else (none)))) else (none)) else (none)) = some r := H
    have A6 := Aside0.mk A60
    clear A60
    by_cases c7 : 0 ≤ t158
    · rw [if_pos c7] at H
      have c7b0 : decide (0 ≤ t158) = true := decide_eq_true c7
      clear c7
      by_cases c8 : t158 < (y155.length : Int)
      · rw [if_pos c8] at H
        have c8b0 : decide (t158 < (y155.length : Int)) = true := decide_eq_true c8
        clear c8
        obtain ⟨y160, hy160⟩ : ∃ y_ : List Int, y_ = (([a1, 0, (-1), (-9223372036854775808), 7] : List Int)) := ⟨_, rfl⟩
        replace H : ((thyrsuslaw12_within.f (wrap64 (Int.tdiv a2 5)) 5).bind fun t163 => (if 0 ≤ t163 then (if t163 < (y160.length : Int) then ((thyrsuslaw12_within.f a2 5).bind fun t165 => ((thyrsusref4_Int.f (rd y155 t158)).bind fun bt166 => ((thyrsusref4_Int.f (rd y160 t163)).bind fun bt171 => ((thyrsuslaw12_prim.f t165 bt166.1 bt166.2.1 bt166.2.2 bt171.1 bt171.2.1 bt171.2.2).bind fun bt176 => ((run_Run.f k bt176.1 bt176.2.1 bt176.2.2 0).bind fun bt181 => (if t165 = 3 then (thyrsuslaw12_RunPrims.j0 k (rd y155 t158) (rd y160 t163) t165 bt181.2.2.2.2 ((rd y160 t163) == 0) bt181.1 bt181.2.1 bt181.2.2.1) else (thyrsuslaw12_RunPrims.j0 k (rd y155 t158) (rd y160 t163) t165 bt181.2.2.2.2 false bt181.1 bt181.2.1 bt181.2.2.1))))))) else (none)) else (none))) = some r := by first | (rw [hy160]; with_reducible exact H) | (have H2_ := (Option.bind_some _ _).symm.trans H; rw [hy160]; with_reducible exact H2_) | (have H2_ := (Option.bind_some _ _).symm.trans H; with_reducible exact H2_) | with_reducible exact H | (rw [hy160]; exact H) | exact H
        have Ny160 := Aside0.mk hy160
        clear hy160
        replace H := Option.bind_eq_some_iff.mp H
        obtain ⟨t163, A90, H⟩ := H
        replace H : (if 0 ≤ t163 then (if t163 < (y160.length : Int) then ((thyrsuslaw12_within.f a2 5).bind fun t165 => ((thyrsusref4_Int.f (rd y155 t158)).bind fun bt166 => ((thyrsusref4_Int.f (rd y160 t163)).bind fun bt171 => ((thyrsuslaw12_prim.f t165 bt166.1 bt166.2.1 bt166.2.2 bt171.1 bt171.2.1 bt171.2.2).bind fun bt176 => ((run_Run.f k bt176.1 bt176.2.1 bt176.2.2 0).bind fun bt181 => (if t165 = 3 then (thyrsuslaw12_RunPrims.j0 k (rd y155 t158) (rd y160 t163) t165 bt181.2.2.2.2 ((rd y160 t163) == 0) bt181.1 bt181.2.1 bt181.2.2.1) else (thyrsuslaw12_RunPrims.j0 k (rd y155 t158) (rd y160 t163) t165 bt181.2.2.2.2 false bt181.1 bt181.2.1 bt181.2.2.1))))))) else (none)) else (none)) = some r := H
        have A9 := Aside0.mk A90
        clear A90
        by_cases c10 : 0 ≤ t163
        · rw [if_pos c10] at H
          have c10b0 : decide (0 ≤ t163) = true := decide_eq_true c10
          clear c10
          by_cases c11 : t163 < (y160.length : Int)
          · rw [if_pos c11] at H
            have c11b0 : decide (t163 < (y160.length : Int)) = true := decide_eq_true c11
            clear c11
            replace H := Option.bind_eq_some_iff.mp H
            obtain ⟨t165, A120, H⟩ := H
            replace H : ((thyrsusref4_Int.f (rd y155 t158)).bind fun bt166 => ((thyrsusref4_Int.f (rd y160 t163)).bind fun bt171 => ((thyrsuslaw12_prim.f t165 bt166.1 bt166.2.1 bt166.2.2 bt171.1 bt171.2.1 bt171.2.2).bind fun bt176 => ((run_Run.f k bt176.1 bt176.2.1 bt176.2.2 0).bind fun bt181 => (if t165 = 3 then (thyrsuslaw12_RunPrims.j0 k (rd y155 t158) (rd y160 t163) t165 bt181.2.2.2.2 ((rd y160 t163) == 0) bt181.1 bt181.2.1 bt181.2.2.1) else (thyrsuslaw12_RunPrims.j0 k (rd y155 t158) (rd y160 t163) t165 bt181.2.2.2.2 false bt181.1 bt181.2.1 bt181.2.2.1)))))) = some r := H
            have A12 := Aside0.mk A120
            clear A120
            replace H := Option.bind_eq_some_iff.mp H
            obtain ⟨⟨t166, t167, t168⟩, A130, H⟩ := H
            replace H : ((thyrsusref4_Int.f (rd y160 t163)).bind fun bt171 => ((thyrsuslaw12_prim.f t165 t166 t167 t168 bt171.1 bt171.2.1 bt171.2.2).bind fun bt176 => ((run_Run.f k bt176.1 bt176.2.1 bt176.2.2 0).bind fun bt181 => (if t165 = 3 then (thyrsuslaw12_RunPrims.j0 k (rd y155 t158) (rd y160 t163) t165 bt181.2.2.2.2 ((rd y160 t163) == 0) bt181.1 bt181.2.1 bt181.2.2.1) else (thyrsuslaw12_RunPrims.j0 k (rd y155 t158) (rd y160 t163) t165 bt181.2.2.2.2 false bt181.1 bt181.2.1 bt181.2.2.1))))) = some r := H
            have A13 := Aside0.mk A130
            clear A130
            replace H := Option.bind_eq_some_iff.mp H
            obtain ⟨⟨t171, t172, t173⟩, A140, H⟩ := H
            replace H : ((thyrsuslaw12_prim.f t165 t166 t167 t168 t171 t172 t173).bind fun bt176 => ((run_Run.f k bt176.1 bt176.2.1 bt176.2.2 0).bind fun bt181 => (if t165 = 3 then (thyrsuslaw12_RunPrims.j0 k (rd y155 t158) (rd y160 t163) t165 bt181.2.2.2.2 ((rd y160 t163) == 0) bt181.1 bt181.2.1 bt181.2.2.1) else (thyrsuslaw12_RunPrims.j0 k (rd y155 t158) (rd y160 t163) t165 bt181.2.2.2.2 false bt181.1 bt181.2.1 bt181.2.2.1)))) = some r := H
            have A14 := Aside0.mk A140
            clear A140
            replace H := Option.bind_eq_some_iff.mp H
            obtain ⟨⟨t176, t177, t178⟩, A150, H⟩ := H
            replace H : ((run_Run.f k t176 t177 t178 0).bind fun bt181 => (if t165 = 3 then (thyrsuslaw12_RunPrims.j0 k (rd y155 t158) (rd y160 t163) t165 bt181.2.2.2.2 ((rd y160 t163) == 0) bt181.1 bt181.2.1 bt181.2.2.1) else (thyrsuslaw12_RunPrims.j0 k (rd y155 t158) (rd y160 t163) t165 bt181.2.2.2.2 false bt181.1 bt181.2.1 bt181.2.2.1))) = some r := H
            have A15 := Aside0.mk A150
            clear A150
            replace H := Option.bind_eq_some_iff.mp H
            obtain ⟨⟨t181, t182, t183, t186, t187⟩, A160, H⟩ := H
            replace H : (if t165 = 3 then (thyrsuslaw12_RunPrims.j0 k (rd y155 t158) (rd y160 t163) t165 t187 ((rd y160 t163) == 0) t181 t182 t183) else (thyrsuslaw12_RunPrims.j0 k (rd y155 t158) (rd y160 t163) t165 t187 false t181 t182 t183)) = some r := H
            have A16 := Aside0.mk A160
            clear A160
            have HC17 := Aside0.mk H
            clear H
            go_enter Try.func4, Try.ntmps4
            try go_wp2_with (first | ((with_reducible refine gate_callee (f := 9) rfl ?_); refine goesL_ (some 13) rfl rfl Try.func9 (by kernel_rfl) rfl #[] rfl (by (try simp only [List.map_toArray, List.map_cons, List.map_nil]); first | done | rfl | (simp only [List.length_drop, List.length_take]; rfl)) ?_; (with_reducible refine (thyrsuslaw12_known.calls k  true _ A4.out).mono ?_); rintro e w18 ⟨rfl, hb⟩; refine ⟨_, rfl, ?_⟩; have n0_ := Aside0.mk (below_step (by repeat (first | (with_reducible first | exact HB.out | apply below_alloc | apply pw_below_drewN | apply below_drew1) | exact HB.out)) hb); clear HB; have HB := n0_; clear n0_; (try clear hb); (try clear hb2); (try clear hk); (try clear hi)) | ((with_reducible refine gate_dst (N := 16) rfl ?_); (try (refine gate_guard (by rfl) ?_; dsimp only)); refine Kd.R_lit (Kd.int .i64) _ 3 ?hg (N := 16) ?hd (xs := ([(-9223372036854775808), 9223372036854775807, 0, 1, (-1), a0] : List Int)) (inner := [.int .i64 (-9223372036854775808), .int .i64 9223372036854775807, .int .i64 0, .int .i64 1, .int .i64 (-1), .int .i64 a0]) (ok := fun _ => True) (okp := fun _ => True) ?hr ?hp (fun _ hk => hk) trivial (Below.refl _ _) (Nat.le_refl _) (by simp) ?_; (case hd => rfl); (case hg => rfl); (case hr => first | (go_simp; done) | (go_simp; rfl)); (case hp => exact (Reps.one (show Kd.M (Kd.int .i64) _ _ _ (-9223372036854775808) [.int .i64 (-9223372036854775808)] from rfl) (Reps.one (show Kd.M (Kd.int .i64) _ _ _ 9223372036854775807 [.int .i64 9223372036854775807] from rfl) (Reps.one (show Kd.M (Kd.int .i64) _ _ _ 0 [.int .i64 0] from rfl) (Reps.one (show Kd.M (Kd.int .i64) _ _ _ 1 [.int .i64 1] from rfl) (Reps.one (show Kd.M (Kd.int .i64) _ _ _ (-1) [.int .i64 (-1)] from rfl) (Reps.one (show Kd.M (Kd.int .i64) _ _ _ a0 [.int .i64 a0] from rfl) (Reps.none _ _)))))))); intro v156 w19 ho20 hb hg_ hnew_; clear hg_ hnew_; (first | rw [← Ny155.out] at ho20 | (simp only [Int.reduceToNat] at ho20; rw [← Ny155.out] at ho20)); have n0_ := Aside0.mk (Kd.R_lower ho20 (below_size (by repeat (first | (with_reducible first | exact HB.out | apply below_alloc | apply pw_below_drewN | apply below_drew1) | exact HB.out)))); have n1_ := Aside0.mk (below_step (by repeat (first | (with_reducible first | exact HB.out | apply below_alloc | apply pw_below_drewN | apply below_drew1) | exact HB.out)) hb); clear HB; have HO157 := n0_; have HB := n1_; clear n0_ n1_; clear hb ho20))
            have pi164 : (0 ≤ (t163 : Int)) = True := eq_true (of_decide_eq_true (by first | (with_reducible assumption) | assumption))
            have qi164 : (t163 < (y160.length : Int)) = True := eq_true (of_decide_eq_true (by first | (with_reducible assumption) | assumption))
            have n0_ := Aside0.mk (Kd.R_drew HO157.out)
            have n1_ := Aside0.mk (below_drew1 HB.out)
            clear HO157
            clear HB
            have HO157 := n0_
            have HB := n1_
            clear n0_ n1_
            have p159 : 0 ≤ (t158 : Int) := of_decide_eq_true (by first | (with_reducible assumption) | assumption)
            have q159 : t158 < (y155.length : Int) := of_decide_eq_true (by first | (with_reducible assumption) | assumption)
            obtain ⟨Ao156_, co156_, eo156_⟩ := Kd.R_slice HO157.out
            subst eo156_
            obtain ⟨ad159, e159, hx159_0⟩ := Kd.at_int (Kd.R_reads' HO157.out).2.2 t158 p159 q159
            cases e159
            replace p159 := eq_true p159
            replace q159 := eq_true q159
            refine start_ (n := 14) (S := fun w' => w'.cell? (ad159.add (t158).toNat) = some (.int .i64 (rd y155 t158))) (ds := []) #[false, false, false, false, false, false, false, false, false, false, false, false, false, false] (by kernel_rfl) rfl rfl (hx159_0) (fun hHeld => ?_); refine with_tabW thyrsuslaw12_RunPrims.tab4 thyrsuslaw12_RunPrims.bits4 (fun HT_ HW_ => ?_)
            generalize w19.drew = w21 at HO157 HB hx159_0 hHeld ⊢
            refine pure_ (i := 0) (N := some 17) (v := ?_) (a' := ?_) #[true, false, false, false, false, false, false, false, false, false, false, false, false, false] rfl rfl (any_of HT_.out (by kernel_rfl)) (fun _ _ _ h => h) (Or.inl ⟨by rfl, ?_⟩) ?_ ?_
            rotate_left
            · intro w'
              go_simp
              with_reducible rfl
            rotate_left
            · simp only [Act.put, List.setIfInBounds_toArray, List.set_cons_zero, List.set_cons_succ, i64_w, i32_w, u8_w, u32_w]
              rfl
            refine pure_ (i := 1) (N := some 18) (v := ?_) (a' := ?_) #[true, true, false, false, false, false, false, false, false, false, false, false, false, false] rfl rfl (any_of HT_.out (by kernel_rfl)) (fun _ _ _ h => h) (Or.inl ⟨by rfl, ?_⟩) ?_ ?_
            rotate_left
            · intro w'
              go_simp
              with_reducible rfl
            rotate_left
            · simp only [Act.put, List.setIfInBounds_toArray, List.set_cons_zero, List.set_cons_succ, i64_w, i32_w, u8_w, u32_w]
              rfl
            refine pure_ (i := 5) (N := some 22) (v := ?_) (a' := ?_) #[true, true, false, false, false, true, false, false, false, false, false, false, false, false] rfl rfl (any_of HT_.out (by kernel_rfl)) (fun _ _ _ h => h) (Or.inl ⟨by rfl, ?_⟩) ?_ ?_
            rotate_left
            · intro w'
              go_simp
              with_reducible rfl
            rotate_left
            · simp only [Act.put, List.setIfInBounds_toArray, List.set_cons_zero, List.set_cons_succ, i64_w, i32_w, u8_w, u32_w]
              rfl
            refine pure_ (i := 7) (N := some 24) (v := ?_) (a' := ?_) #[true, true, false, false, false, true, false, true, false, false, false, false, false, false] rfl rfl (any_of HT_.out (by kernel_rfl)) (fun _ _ _ h => h) (Or.inl ⟨by rfl, ?_⟩) ?_ ?_
            rotate_left
            · intro w'
              go_simp
              with_reducible rfl
            rotate_left
            · simp only [Act.put, List.setIfInBounds_toArray, List.set_cons_zero, List.set_cons_succ, i64_w, i32_w, u8_w, u32_w]
              rfl
            refine pure_ (i := 8) (N := some 25) (v := ?_) (a' := ?_) #[true, true, false, false, false, true, false, true, true, false, false, false, false, false] rfl rfl (any_of HT_.out (by kernel_rfl)) (fun _ _ _ h => h) (Or.inl ⟨by rfl, ?_⟩) ?_ ?_
            rotate_left
            · intro w'
              go_simp
              with_reducible rfl
            rotate_left
            · simp only [Act.put, List.setIfInBounds_toArray, List.set_cons_zero, List.set_cons_succ, i64_w, i32_w, u8_w, u32_w]
              rfl
            refine join_ (σ := Value × Addr) 3 #[true, true, true, true, true, true, true, true, true, true, false, false, true, false] (fun s_ => [(19, .int .i64 t158), (23, s_.1), (26, .int .i64 t163), (20, .pointer (some (ad159.add (t158).toNat))), (21, .int .i64 (rd y155 t158)), (0, .int .i64 (rd y155 t158))]) (fun s_ w' => (w'.cell? (ad159.add (t158).toNat) = some (.int .i64 (rd y155 t158))) ∧ (Kd.R (Kd.int .i64) 3 w' w.heap.size (fun k_ => some k_ ≠ (s_.1 : Value).ownBlock) (.slice (some ad159) y155.length co156_) y155) ∧ (Kd.R (Kd.int .i64) 3 w' w.heap.size (fun k_ => some k_ ≠ ((.slice (some ad159) y155.length co156_) : Value).ownBlock) s_.1 y160) ∧ (∃ c_, (s_.1 : Value) = .slice (some s_.2) y160.length c_) ∧ (Below w.heap.size w w')) ?_ ?_
            rotate_left
            · intro hCont
              refine two_ (i := 2) (j := 6) (Ni := some 19) (Nj := some 23) #[true, true, true, false, false, true, false, true, true, false, false, false, false, false] #[true, true, false, false, false, true, true, true, true, false, false, false, false, false] rfl rfl rfl rfl (two_of HT_.out (by kernel_rfl)) (by decide) (by decide) (fun K hK => ?_) (fun K hK => ?_)
              · skip
                refine goes_ Try.func13 (by kernel_rfl) rfl #[.int .i64 a0, .int .i64 6] (by rfl) rfl rfl (by (try simp only [List.map_toArray, List.map_cons, List.map_nil]); first | done | rfl | (simp only [List.length_drop, List.length_take]; rfl)) ?_
                with_reducible refine (thyrsuslaw12_within.calls a0 6 t158 _ A6.out).mono ?_
                rintro e w' ⟨rfl, ⟨nd, rfl⟩⟩
                refine ⟨_, rfl, ?_⟩
                refine hK.out _ _ (hHeld) (fun hHeld => ?_)
                clear hK K
                refine norm_ (a' := ?_) ?_ ?_
                rotate_left
                · show Act.put _ (some 19) _ = _
                  simp only [Act.put, List.setIfInBounds_toArray, List.set_cons_zero, List.set_cons_succ, i64_w, i32_w, u8_w, u32_w]
                  rfl
                refine pure_ (i := 3) (N := some 20) (v := ?_) (a' := ?_) #[true, true, true, true, false, true, false, true, true, false, false, false, false, false] rfl rfl (any_of HT_.out (by kernel_rfl)) (fun _ _ _ h => h) (Or.inl ⟨by rfl, ?_⟩) ?_ ?_
                rotate_left
                · intro w'
                  go_simp
                  with_reducible rfl
                rotate_left
                · simp only [Act.put, List.setIfInBounds_toArray, List.set_cons_zero, List.set_cons_succ, i64_w, i32_w, u8_w, u32_w]
                  rfl
                refine take_ (i := 4) (N := some 21) (v := ?_) (a' := ?_) #[true, true, true, true, true, true, false, true, true, false, false, false, false, false] rfl rfl (take_ofW HT_.out HW_.out (by kernel_rfl)) (fun _ _ _ h => h) (Or.inl ⟨by rfl, ?_⟩) hHeld ?_ ?_
                rotate_left
                · intro w' s0
                  go_simp
                  with_reducible rfl
                rotate_left
                · simp only [Act.put, List.setIfInBounds_toArray, List.set_cons_zero, List.set_cons_succ, i64_w, i32_w, u8_w, u32_w]
                  rfl
                refine two_ (i := 6) (j := 9) (Ni := some 23) (Nj := some 26) #[true, true, true, true, true, true, true, true, true, false, false, false, false, false] #[true, true, true, true, true, true, false, true, true, true, false, false, false, false] rfl rfl rfl rfl (two_of HT_.out (by kernel_rfl)) (by decide) (by decide) (fun K hK => ?_) (fun K hK => ?_)
                · skip
                  refine Kd.R_lit_step (Kd.int .i64) _ 3 ?hg (N := 23) ?hd (xs := ([a1, 0, (-1), (-9223372036854775808), 7] : List Int)) (inner := [.int .i64 a1, .int .i64 0, .int .i64 (-1), .int .i64 (-9223372036854775808), .int .i64 7]) (ok := fun _ => True) (okp := fun _ => True) ?hr ?hp (fun _ hk => hk) trivial (Below.refl _ _) (Nat.le_refl _) (by simp) ?_; (case hd => rfl); (case hg => rfl); (case hr => first | (go_simp; done) | (go_simp; rfl)); (case hp => exact (Reps.one (show Kd.M (Kd.int .i64) _ _ _ a1 [.int .i64 a1] from rfl) (Reps.one (show Kd.M (Kd.int .i64) _ _ _ 0 [.int .i64 0] from rfl) (Reps.one (show Kd.M (Kd.int .i64) _ _ _ (-1) [.int .i64 (-1)] from rfl) (Reps.one (show Kd.M (Kd.int .i64) _ _ _ (-9223372036854775808) [.int .i64 (-9223372036854775808)] from rfl) (Reps.one (show Kd.M (Kd.int .i64) _ _ _ 7 [.int .i64 7] from rfl) (Reps.none _ _)))))))
                  intro v161 w22 ho23 hb hg_ hnew_
                  have HS0_ := (hb.cell (World.block_lt_of_cell? _ _ (hHeld))).trans (hHeld)
                  clear hg_ hnew_
                  (first | rw [← Ny160.out] at ho23 | (simp only [Int.reduceToNat] at ho23; rw [← Ny160.out] at ho23))
                  have n0_ := Aside0.mk (Kd.R_elder' (by (with_reducible repeat (first | apply Kd.R_alloc | apply Kd.R_drewN | apply Kd.R_drew)); exact HO157.out) (Kd.R_base ho23) hb)
                  have n1_ := Aside0.mk (Kd.R_lower (Kd.R_new' ho23 (Kd.R_lt (by (with_reducible repeat (first | apply Kd.R_alloc | apply Kd.R_drewN | apply Kd.R_drew)); exact HO157.out))) (below_size (by repeat (first | (with_reducible first | exact HB.out | apply below_alloc | apply pw_below_drewN | apply below_drew1) | exact HB.out))))
                  have n2_ := Aside0.mk (below_step (by repeat (first | (with_reducible first | exact HB.out | apply below_alloc | apply pw_below_drewN | apply below_drew1) | exact HB.out)) hb)
                  clear HO157
                  clear HB
                  have HO157 := n0_
                  have HO162 := n1_
                  have HB := n2_
                  clear n0_ n1_ n2_
                  clear hb ho23
                  obtain ⟨Ao24, co24, eo24⟩ := Kd.R_slice HO162.out
                  subst eo24
                  obtain ⟨ado24, fo24, _⟩ := Kd.at_int (Kd.R_reads' HO162.out).2.2 0 (by decide) (by rw [Ny160.out]; simp)
                  cases fo24
                  refine hK.out _ _ (HS0_) (fun hHeld => ?_)
                  clear hK K
                  refine norm_ (a' := ?_) ?_ ?_
                  rotate_left
                  · show Act.put _ (some 23) _ = _
                    simp only [Act.put, List.setIfInBounds_toArray, List.set_cons_zero, List.set_cons_succ, i64_w, i32_w, u8_w, u32_w]
                    rfl
                  refine one_ (i := 9) (N := some 26) #[true, true, true, true, true, true, true, true, true, true, false, false, false, false] rfl rfl (one_of HT_.out (by kernel_rfl)) (by decide) (fun K hK => ?_)
                  refine goes_ Try.func13 (by kernel_rfl) rfl #[.int .i64 (wrap64 (Int.tdiv a2 5)), .int .i64 5] (by rfl) rfl rfl (by (try simp only [List.map_toArray, List.map_cons, List.map_nil]); first | done | rfl | (simp only [List.length_drop, List.length_take]; rfl)) ?_
                  with_reducible refine (thyrsuslaw12_within.calls (wrap64 (Int.tdiv a2 5)) 5 t163 _ A9.out).mono ?_
                  rintro e w' ⟨rfl, ⟨nd, rfl⟩⟩
                  refine ⟨_, rfl, ?_⟩
                  refine hK.out _ _ (hHeld) (fun hHeld => ?_)
                  clear hK K
                  refine norm_ (a' := ?_) ?_ ?_
                  rotate_left
                  · show Act.put _ (some 26) _ = _
                    simp only [Act.put, List.setIfInBounds_toArray, List.set_cons_zero, List.set_cons_succ, i64_w, i32_w, u8_w, u32_w]
                    rfl
                  refine pure_ (i := 12) (N := some 0) (v := ?_) (a' := ?_) #[true, true, true, true, true, true, true, true, true, true, false, false, true, false] rfl rfl (any_of HT_.out (by kernel_rfl)) (fun _ _ _ h => h) (Or.inl ⟨by rfl, ?_⟩) ?_ ?_
                  rotate_left
                  · intro w'
                    go_simp
                    with_reducible rfl
                  rotate_left
                  · simp only [Act.put, List.setIfInBounds_toArray, List.set_cons_zero, List.set_cons_succ, i64_w, i32_w, u8_w, u32_w]
                    rfl
                  exact norm_ (by simp only [putAll, Act.put, List.setIfInBounds_toArray, List.set_cons_zero, List.set_cons_succ]) (hCont (.slice (some ado24) y160.length co24, ado24) _ ⟨hHeld, (by (with_reducible repeat (first | apply Kd.R_alloc | apply Kd.R_drewN | apply Kd.R_drew)); exact Kd.R_mono HO157.out (fun _ hk => hk.2)), (by (with_reducible repeat (first | apply Kd.R_alloc | apply Kd.R_drewN | apply Kd.R_drew)); exact Kd.R_mono HO162.out (fun _ hk => hk.2)), ⟨_, rfl⟩, (by repeat (first | (with_reducible first | exact HB.out | apply below_alloc | apply pw_below_drewN | apply below_drew1) | exact HB.out))⟩)
                · skip
                  refine goes_ Try.func13 (by kernel_rfl) rfl #[.int .i64 (wrap64 (Int.tdiv a2 5)), .int .i64 5] (by rfl) rfl rfl (by (try simp only [List.map_toArray, List.map_cons, List.map_nil]); first | done | rfl | (simp only [List.length_drop, List.length_take]; rfl)) ?_
                  with_reducible refine (thyrsuslaw12_within.calls (wrap64 (Int.tdiv a2 5)) 5 t163 _ A9.out).mono ?_
                  rintro e w' ⟨rfl, ⟨nd, rfl⟩⟩
                  refine ⟨_, rfl, ?_⟩
                  refine hK.out _ _ (hHeld) (fun hHeld => ?_)
                  clear hK K
                  refine norm_ (a' := ?_) ?_ ?_
                  rotate_left
                  · show Act.put _ (some 26) _ = _
                    simp only [Act.put, List.setIfInBounds_toArray, List.set_cons_zero, List.set_cons_succ, i64_w, i32_w, u8_w, u32_w]
                    rfl
                  refine pure_ (i := 12) (N := some 0) (v := ?_) (a' := ?_) #[true, true, true, true, true, true, false, true, true, true, false, false, true, false] rfl rfl (any_of HT_.out (by kernel_rfl)) (fun _ _ _ h => h) (Or.inl ⟨by rfl, ?_⟩) ?_ ?_
                  rotate_left
                  · intro w'
                    go_simp
                    with_reducible rfl
                  rotate_left
                  · simp only [Act.put, List.setIfInBounds_toArray, List.set_cons_zero, List.set_cons_succ, i64_w, i32_w, u8_w, u32_w]
                    rfl
                  refine one_ (i := 6) (N := some 23) #[true, true, true, true, true, true, true, true, true, true, false, false, true, false] rfl rfl (one_of HT_.out (by kernel_rfl)) (by decide) (fun K hK => ?_)
                  refine Kd.R_lit_step (Kd.int .i64) _ 3 ?hg (N := 23) ?hd (xs := ([a1, 0, (-1), (-9223372036854775808), 7] : List Int)) (inner := [.int .i64 a1, .int .i64 0, .int .i64 (-1), .int .i64 (-9223372036854775808), .int .i64 7]) (ok := fun _ => True) (okp := fun _ => True) ?hr ?hp (fun _ hk => hk) trivial (Below.refl _ _) (Nat.le_refl _) (by simp) ?_; (case hd => rfl); (case hg => rfl); (case hr => first | (go_simp; done) | (go_simp; rfl)); (case hp => exact (Reps.one (show Kd.M (Kd.int .i64) _ _ _ a1 [.int .i64 a1] from rfl) (Reps.one (show Kd.M (Kd.int .i64) _ _ _ 0 [.int .i64 0] from rfl) (Reps.one (show Kd.M (Kd.int .i64) _ _ _ (-1) [.int .i64 (-1)] from rfl) (Reps.one (show Kd.M (Kd.int .i64) _ _ _ (-9223372036854775808) [.int .i64 (-9223372036854775808)] from rfl) (Reps.one (show Kd.M (Kd.int .i64) _ _ _ 7 [.int .i64 7] from rfl) (Reps.none _ _)))))))
                  intro v161 w22 ho23 hb hg_ hnew_
                  have HS0_ := (hb.cell (World.block_lt_of_cell? _ _ (hHeld))).trans (hHeld)
                  clear hg_ hnew_
                  (first | rw [← Ny160.out] at ho23 | (simp only [Int.reduceToNat] at ho23; rw [← Ny160.out] at ho23))
                  have n0_ := Aside0.mk (Kd.R_elder' (by (with_reducible repeat (first | apply Kd.R_alloc | apply Kd.R_drewN | apply Kd.R_drew)); exact HO157.out) (Kd.R_base ho23) hb)
                  have n1_ := Aside0.mk (Kd.R_lower (Kd.R_new' ho23 (Kd.R_lt (by (with_reducible repeat (first | apply Kd.R_alloc | apply Kd.R_drewN | apply Kd.R_drew)); exact HO157.out))) (below_size (by repeat (first | (with_reducible first | exact HB.out | apply below_alloc | apply pw_below_drewN | apply below_drew1) | exact HB.out))))
                  have n2_ := Aside0.mk (below_step (by repeat (first | (with_reducible first | exact HB.out | apply below_alloc | apply pw_below_drewN | apply below_drew1) | exact HB.out)) hb)
                  clear HO157
                  clear HB
                  have HO157 := n0_
                  have HO162 := n1_
                  have HB := n2_
                  clear n0_ n1_ n2_
                  clear hb ho23
                  obtain ⟨Ao24, co24, eo24⟩ := Kd.R_slice HO162.out
                  subst eo24
                  obtain ⟨ado24, fo24, _⟩ := Kd.at_int (Kd.R_reads' HO162.out).2.2 0 (by decide) (by rw [Ny160.out]; simp)
                  cases fo24
                  refine hK.out _ _ (HS0_) (fun hHeld => ?_)
                  clear hK K
                  refine norm_ (a' := ?_) ?_ ?_
                  rotate_left
                  · show Act.put _ (some 23) _ = _
                    simp only [Act.put, List.setIfInBounds_toArray, List.set_cons_zero, List.set_cons_succ, i64_w, i32_w, u8_w, u32_w]
                    rfl
                  exact norm_ (by simp only [putAll, Act.put, List.setIfInBounds_toArray, List.set_cons_zero, List.set_cons_succ]) (hCont (.slice (some ado24) y160.length co24, ado24) _ ⟨hHeld, (by (with_reducible repeat (first | apply Kd.R_alloc | apply Kd.R_drewN | apply Kd.R_drew)); exact Kd.R_mono HO157.out (fun _ hk => hk.2)), (by (with_reducible repeat (first | apply Kd.R_alloc | apply Kd.R_drewN | apply Kd.R_drew)); exact Kd.R_mono HO162.out (fun _ hk => hk.2)), ⟨_, rfl⟩, (by repeat (first | (with_reducible first | exact HB.out | apply below_alloc | apply pw_below_drewN | apply below_drew1) | exact HB.out))⟩)
              · skip
                refine Kd.R_lit_step (Kd.int .i64) _ 3 ?hg (N := 23) ?hd (xs := ([a1, 0, (-1), (-9223372036854775808), 7] : List Int)) (inner := [.int .i64 a1, .int .i64 0, .int .i64 (-1), .int .i64 (-9223372036854775808), .int .i64 7]) (ok := fun _ => True) (okp := fun _ => True) ?hr ?hp (fun _ hk => hk) trivial (Below.refl _ _) (Nat.le_refl _) (by simp) ?_; (case hd => rfl); (case hg => rfl); (case hr => first | (go_simp; done) | (go_simp; rfl)); (case hp => exact (Reps.one (show Kd.M (Kd.int .i64) _ _ _ a1 [.int .i64 a1] from rfl) (Reps.one (show Kd.M (Kd.int .i64) _ _ _ 0 [.int .i64 0] from rfl) (Reps.one (show Kd.M (Kd.int .i64) _ _ _ (-1) [.int .i64 (-1)] from rfl) (Reps.one (show Kd.M (Kd.int .i64) _ _ _ (-9223372036854775808) [.int .i64 (-9223372036854775808)] from rfl) (Reps.one (show Kd.M (Kd.int .i64) _ _ _ 7 [.int .i64 7] from rfl) (Reps.none _ _)))))))
                intro v161 w22 ho23 hb hg_ hnew_
                have HS0_ := (hb.cell (World.block_lt_of_cell? _ _ (hHeld))).trans (hHeld)
                clear hg_ hnew_
                (first | rw [← Ny160.out] at ho23 | (simp only [Int.reduceToNat] at ho23; rw [← Ny160.out] at ho23))
                have n0_ := Aside0.mk (Kd.R_elder' (by (with_reducible repeat (first | apply Kd.R_alloc | apply Kd.R_drewN | apply Kd.R_drew)); exact HO157.out) (Kd.R_base ho23) hb)
                have n1_ := Aside0.mk (Kd.R_lower (Kd.R_new' ho23 (Kd.R_lt (by (with_reducible repeat (first | apply Kd.R_alloc | apply Kd.R_drewN | apply Kd.R_drew)); exact HO157.out))) (below_size (by repeat (first | (with_reducible first | exact HB.out | apply below_alloc | apply pw_below_drewN | apply below_drew1) | exact HB.out))))
                have n2_ := Aside0.mk (below_step (by repeat (first | (with_reducible first | exact HB.out | apply below_alloc | apply pw_below_drewN | apply below_drew1) | exact HB.out)) hb)
                clear HO157
                clear HB
                have HO157 := n0_
                have HO162 := n1_
                have HB := n2_
                clear n0_ n1_ n2_
                clear hb ho23
                obtain ⟨Ao24, co24, eo24⟩ := Kd.R_slice HO162.out
                subst eo24
                obtain ⟨ado24, fo24, _⟩ := Kd.at_int (Kd.R_reads' HO162.out).2.2 0 (by decide) (by rw [Ny160.out]; simp)
                cases fo24
                refine hK.out _ _ (HS0_) (fun hHeld => ?_)
                clear hK K
                refine norm_ (a' := ?_) ?_ ?_
                rotate_left
                · show Act.put _ (some 23) _ = _
                  simp only [Act.put, List.setIfInBounds_toArray, List.set_cons_zero, List.set_cons_succ, i64_w, i32_w, u8_w, u32_w]
                  rfl
                refine one_ (i := 2) (N := some 19) #[true, true, true, false, false, true, true, true, true, false, false, false, false, false] rfl rfl (one_of HT_.out (by kernel_rfl)) (by decide) (fun K hK => ?_)
                refine goes_ Try.func13 (by kernel_rfl) rfl #[.int .i64 a0, .int .i64 6] (by rfl) rfl rfl (by (try simp only [List.map_toArray, List.map_cons, List.map_nil]); first | done | rfl | (simp only [List.length_drop, List.length_take]; rfl)) ?_
                with_reducible refine (thyrsuslaw12_within.calls a0 6 t158 _ A6.out).mono ?_
                rintro e w' ⟨rfl, ⟨nd, rfl⟩⟩
                refine ⟨_, rfl, ?_⟩
                refine hK.out _ _ (hHeld) (fun hHeld => ?_)
                clear hK K
                refine norm_ (a' := ?_) ?_ ?_
                rotate_left
                · show Act.put _ (some 19) _ = _
                  simp only [Act.put, List.setIfInBounds_toArray, List.set_cons_zero, List.set_cons_succ, i64_w, i32_w, u8_w, u32_w]
                  rfl
                refine pure_ (i := 3) (N := some 20) (v := ?_) (a' := ?_) #[true, true, true, true, false, true, true, true, true, false, false, false, false, false] rfl rfl (any_of HT_.out (by kernel_rfl)) (fun _ _ _ h => h) (Or.inl ⟨by rfl, ?_⟩) ?_ ?_
                rotate_left
                · intro w'
                  go_simp
                  with_reducible rfl
                rotate_left
                · simp only [Act.put, List.setIfInBounds_toArray, List.set_cons_zero, List.set_cons_succ, i64_w, i32_w, u8_w, u32_w]
                  rfl
                refine take_ (i := 4) (N := some 21) (v := ?_) (a' := ?_) #[true, true, true, true, true, true, true, true, true, false, false, false, false, false] rfl rfl (take_ofW HT_.out HW_.out (by kernel_rfl)) (fun _ _ _ h => h) (Or.inl ⟨by rfl, ?_⟩) hHeld ?_ ?_
                rotate_left
                · intro w' s0
                  go_simp
                  with_reducible rfl
                rotate_left
                · simp only [Act.put, List.setIfInBounds_toArray, List.set_cons_zero, List.set_cons_succ, i64_w, i32_w, u8_w, u32_w]
                  rfl
                refine one_ (i := 9) (N := some 26) #[true, true, true, true, true, true, true, true, true, true, false, false, false, false] rfl rfl (one_of HT_.out (by kernel_rfl)) (by decide) (fun K hK => ?_)
                refine goes_ Try.func13 (by kernel_rfl) rfl #[.int .i64 (wrap64 (Int.tdiv a2 5)), .int .i64 5] (by rfl) rfl rfl (by (try simp only [List.map_toArray, List.map_cons, List.map_nil]); first | done | rfl | (simp only [List.length_drop, List.length_take]; rfl)) ?_
                with_reducible refine (thyrsuslaw12_within.calls (wrap64 (Int.tdiv a2 5)) 5 t163 _ A9.out).mono ?_
                rintro e w' ⟨rfl, ⟨nd, rfl⟩⟩
                refine ⟨_, rfl, ?_⟩
                refine hK.out _ _ (hHeld) (fun hHeld => ?_)
                clear hK K
                refine norm_ (a' := ?_) ?_ ?_
                rotate_left
                · show Act.put _ (some 26) _ = _
                  simp only [Act.put, List.setIfInBounds_toArray, List.set_cons_zero, List.set_cons_succ, i64_w, i32_w, u8_w, u32_w]
                  rfl
                refine pure_ (i := 12) (N := some 0) (v := ?_) (a' := ?_) #[true, true, true, true, true, true, true, true, true, true, false, false, true, false] rfl rfl (any_of HT_.out (by kernel_rfl)) (fun _ _ _ h => h) (Or.inl ⟨by rfl, ?_⟩) ?_ ?_
                rotate_left
                · intro w'
                  go_simp
                  with_reducible rfl
                rotate_left
                · simp only [Act.put, List.setIfInBounds_toArray, List.set_cons_zero, List.set_cons_succ, i64_w, i32_w, u8_w, u32_w]
                  rfl
                exact norm_ (by simp only [putAll, Act.put, List.setIfInBounds_toArray, List.set_cons_zero, List.set_cons_succ]) (hCont (.slice (some ado24) y160.length co24, ado24) _ ⟨hHeld, (by (with_reducible repeat (first | apply Kd.R_alloc | apply Kd.R_drewN | apply Kd.R_drew)); exact Kd.R_mono HO157.out (fun _ hk => hk.2)), (by (with_reducible repeat (first | apply Kd.R_alloc | apply Kd.R_drewN | apply Kd.R_drew)); exact Kd.R_mono HO162.out (fun _ hk => hk.2)), ⟨_, rfl⟩, (by repeat (first | (with_reducible first | exact HB.out | apply below_alloc | apply pw_below_drewN | apply below_drew1) | exact HB.out))⟩)
            rintro ⟨v161, adz_v161⟩ w25 ⟨hS_, h0_, h1_, h2_, h3_⟩
            have n0_ : Aside0 (Kd.R (Kd.int .i64) 3 w25 w.heap.size (fun k_ => some k_ ≠ (v161 : Value).ownBlock) (.slice (some ad159) y155.length co156_) y155) := ⟨h0_⟩
            have n1_ : Aside0 (Kd.R (Kd.int .i64) 3 w25 w.heap.size (fun k_ => some k_ ≠ ((.slice (some ad159) y155.length co156_) : Value).ownBlock) v161 y160) := ⟨h1_⟩
            have n2_ : Aside0 (∃ c_, (v161 : Value) = .slice (some adz_v161) y160.length c_) := ⟨h2_⟩
            have n3_ : Aside0 (Below w.heap.size w w25) := ⟨h3_⟩
            clear HO157
            clear HB
            clear h0_ h1_ h2_ h3_
            have HO157 := n0_
            have HO162 := n1_
            have HA_HO162 := n2_
            have HB := n3_
            clear n0_ n1_ n2_ n3_
            have hHeld : w25.cell? (ad159.add (t158).toNat) = some (.int .i64 (rd y155 t158)) := hS_
            obtain ⟨co26, eo26⟩ := HA_HO162.out
            clear HA_HO162
            subst eo26
            skip
            skip
            refine norm_ (a' := ?_) ?_ ?_
            rotate_left
            · simp only [putAll, Act.put, List.setIfInBounds_toArray, List.set_cons_zero, List.set_cons_succ]
              rfl
            refine pure_ (i := 10) (N := some 27) (v := ?_) (a' := ?_) #[true, true, true, true, true, true, true, true, true, true, true, false, true, false] rfl rfl (any_of HT_.out (by kernel_rfl)) (fun _ _ _ h => h) (Or.inl ⟨by rfl, ?_⟩) ?_ ?_
            rotate_left
            · intro w'
              go_simp
              with_reducible rfl
            rotate_left
            · simp only [Act.put, List.setIfInBounds_toArray, List.set_cons_zero, List.set_cons_succ, i64_w, i32_w, u8_w, u32_w]
              rfl
            refine one_ (i := 11) (N := some 28) #[true, true, true, true, true, true, true, true, true, true, true, true, true, false] rfl rfl (one_of HT_.out (by kernel_rfl)) (by decide) (fun K hK => ?_)
            (have p164 : 0 ≤ (t163 : Int) := of_decide_eq_true (by first | (with_reducible assumption) | assumption); have q164 : t163 < (y160.length : Int) := of_decide_eq_true (by first | (with_reducible assumption) | assumption); obtain ⟨ad164, e164, hx164_0⟩ := Kd.at_int (Kd.R_reads' HO162.out).2.2 t163 p164 q164; obtain rfl : adz_v161 = ad164 := (by injection e164))
            refine value_ (w1 := ?_) (v := ?_) (by rfl) rfl ?_ ?_
            rotate_left 2
            · go_simp
              constructor
              · rfl
              · rfl
            clear hx164_0
            refine hK.out _ _ (hHeld) (fun hHeld => ?_)
            clear hK K
            refine norm_ (a' := ?_) ?_ ?_
            rotate_left
            · show Act.put _ (some 28) _ = _
              simp only [Act.put, List.setIfInBounds_toArray, List.set_cons_zero, List.set_cons_succ, i64_w, i32_w, u8_w, u32_w]
              rfl
            refine pure_ (i := 13) (N := some 1) (v := ?_) (a' := ?_) #[true, true, true, true, true, true, true, true, true, true, true, true, true, true] rfl rfl (any_of HT_.out (by kernel_rfl)) (fun _ _ _ h => h) (Or.inl ⟨by rfl, ?_⟩) ?_ ?_
            rotate_left
            · intro w'
              go_simp
              with_reducible rfl
            rotate_left
            · simp only [Act.put, List.setIfInBounds_toArray, List.set_cons_zero, List.set_cons_succ, i64_w, i32_w, u8_w, u32_w]
              rfl
            refine done_ (done_of HT_.out (by kernel_rfl)) ?_
            go_upto_region 7 with (first | ((with_reducible refine gate_callee (f := 13) rfl ?_); refine goesL_ (some 30) rfl rfl Try.func13 (by kernel_rfl) rfl #[.int .i64 a2, .int .i64 5] rfl (by (try simp only [List.map_toArray, List.map_cons, List.map_nil]); first | done | rfl | (simp only [List.length_drop, List.length_take]; rfl)) ?_; (with_reducible refine (thyrsuslaw12_within.calls a2 5 t165 _ A12.out).mono ?_); rintro e w' ⟨rfl, ⟨nd, rfl⟩⟩; refine ⟨_, rfl, ?_⟩; (try (rw [drewN_self w25]; generalize hq_ : World.drewN w25 _ = w25; have n0_ : Aside0 (Kd.R (Kd.int .i64) 3 w25 w.heap.size (fun k_ => some k_ ≠ (.slice (some adz_v161) y160.length co26 : Value).ownBlock) (.slice (some ad159) y155.length co156_) y155) := ⟨by rw [← hq_]; exact (by (with_reducible repeat (first | apply Kd.R_alloc | apply Kd.R_drewN | apply Kd.R_drew)); exact HO157.out)⟩; have n1_ : Aside0 (Kd.R (Kd.int .i64) 3 w25 w.heap.size (fun k_ => some k_ ≠ (.slice (some ad159) y155.length co156_ : Value).ownBlock) (.slice (some adz_v161) y160.length co26) y160) := ⟨by rw [← hq_]; exact (by (with_reducible repeat (first | apply Kd.R_alloc | apply Kd.R_drewN | apply Kd.R_drew)); exact HO162.out)⟩; have n2_ : Aside0 (Below w.heap.size w w25) := ⟨by rw [← hq_]; exact (by repeat (first | (with_reducible first | exact HB.out | apply below_alloc | apply pw_below_drewN | apply below_drew1) | exact HB.out))⟩; clear HO157 HO162 HB hq_; have HO157 := n0_; have HO162 := n1_; have HB := n2_; clear n0_ n1_ n2_))) | ((with_reducible refine gate_callee (f := 16) rfl ?_); refine goesL_ (some 34) rfl rfl Try.func16 (by kernel_rfl) rfl #[.int .i64 (rd y155 t158)] rfl (by (try simp only [List.map_toArray, List.map_cons, List.map_nil]); first | done | rfl | (simp only [List.length_drop, List.length_take]; rfl)) ?_; (with_reducible refine (thyrsusref4_Int.calls (rd y155 t158) t166 t167 t168 _ A13.out).mono ?_); rintro e w28 ⟨v169, rfl, ho0, hb⟩; refine ⟨_, rfl, ?_⟩; have n0_ := Aside0.mk (Kd.R_below (by (with_reducible repeat (first | apply Kd.R_alloc | apply Kd.R_drewN | apply Kd.R_drew)); exact HO157.out) hb); have n1_ := Aside0.mk (Kd.R_below (by (with_reducible repeat (first | apply Kd.R_alloc | apply Kd.R_drewN | apply Kd.R_drew)); exact HO162.out) hb); have n2_ := Aside0.mk (Kd.N_lower (Kd.N_mono (ok' := fun k_ => some k_ ≠ (.slice (some ad159) y155.length co156_ : Value).ownBlock ∧ some k_ ≠ (.slice (some adz_v161) y160.length co26 : Value).ownBlock) (Kd.R_N (Kd.R_bound ho0)) (fun k_ hk_ => ⟨(Kd.fresh' (Kd.R_lt (by (with_reducible repeat (first | apply Kd.R_alloc | apply Kd.R_drewN | apply Kd.R_drew)); exact HO157.out)) k_ hk_.2.1), (Kd.fresh' (Kd.R_lt (by (with_reducible repeat (first | apply Kd.R_alloc | apply Kd.R_drewN | apply Kd.R_drew)); exact HO162.out)) k_ hk_.2.1)⟩)) (below_size (by repeat (first | (with_reducible first | exact HB.out | apply below_alloc | apply pw_below_drewN | apply below_drew1) | exact HB.out)))); have n3_ := Aside0.mk (below_step (by repeat (first | (with_reducible first | exact HB.out | apply below_alloc | apply pw_below_drewN | apply below_drew1) | exact HB.out)) hb); clear HO157; clear HO162; clear HB; have HO157 := n0_; have HO162 := n1_; have HO170 := n2_; have HB := n3_; clear n0_ n1_ n2_ n3_; (try clear hb); (try clear hb2); (try clear hk); (try clear hi); (try clear ho0)) | ((with_reducible refine gate_callee (f := 16) rfl ?_); refine goesL_ (some 36) rfl rfl Try.func16 (by kernel_rfl) rfl #[.int .i64 (rd y160 t163)] rfl (by (try simp only [List.map_toArray, List.map_cons, List.map_nil]); first | done | rfl | (simp only [List.length_drop, List.length_take]; rfl)) ?_; (with_reducible refine (thyrsusref4_Int.calls (rd y160 t163) t171 t172 t173 _ A14.out).mono ?_); rintro e w29 ⟨v174, rfl, ho0, hb⟩; refine ⟨_, rfl, ?_⟩; have n0_ := Aside0.mk (Kd.R_below (by (with_reducible repeat (first | apply Kd.R_alloc | apply Kd.R_drewN | apply Kd.R_drew)); exact HO157.out) hb); have n1_ := Aside0.mk (Kd.R_below (by (with_reducible repeat (first | apply Kd.R_alloc | apply Kd.R_drewN | apply Kd.R_drew)); exact HO162.out) hb); have n2_ := Aside0.mk (Kd.N_elder' (by (with_reducible repeat (first | apply Kd.N_alloc | apply Kd.N_drewN | apply Kd.N_drew)); exact HO170.out) (by first | exact Kd.N_base ho0 | exact Kd.R_base ho0) hb); have n3_ := Aside0.mk (Kd.N_lower (Kd.N_mono (ok' := fun k_ => some k_ ≠ (.slice (some ad159) y155.length co156_ : Value).ownBlock ∧ some k_ ≠ (.slice (some adz_v161) y160.length co26 : Value).ownBlock ∧ some k_ ≠ (v169 : Value).ownBlock) (Kd.R_N (Kd.R_bound ho0)) (fun k_ hk_ => ⟨(Kd.fresh' (Kd.R_lt (by (with_reducible repeat (first | apply Kd.R_alloc | apply Kd.R_drewN | apply Kd.R_drew)); exact HO157.out)) k_ hk_.2.1), (Kd.fresh' (Kd.R_lt (by (with_reducible repeat (first | apply Kd.R_alloc | apply Kd.R_drewN | apply Kd.R_drew)); exact HO162.out)) k_ hk_.2.1), (Kd.fresh' (Kd.N_lt (by (with_reducible repeat (first | apply Kd.N_alloc | apply Kd.N_drewN | apply Kd.N_drew)); exact HO170.out)) k_ hk_.2.1)⟩)) (below_size (by repeat (first | (with_reducible first | exact HB.out | apply below_alloc | apply pw_below_drewN | apply below_drew1) | exact HB.out)))); have n4_ := Aside0.mk (below_step (by repeat (first | (with_reducible first | exact HB.out | apply below_alloc | apply pw_below_drewN | apply below_drew1) | exact HB.out)) hb); clear HO157; clear HO162; clear HO170; clear HB; have HO157 := n0_; have HO162 := n1_; have HO170 := n2_; have HO175 := n3_; have HB := n4_; clear n0_ n1_ n2_ n3_ n4_; (try clear hb); (try clear hb2); (try clear hk); (try clear hi); (try clear ho0); obtain ⟨Ao30, co30, eo30⟩ := Kd.N_slice HO170.out; subst eo30; obtain ⟨Ao31, co31, eo31⟩ := Kd.N_slice HO175.out; subst eo31) | ((with_reducible refine gate_callee (f := 15) rfl ?_); refine goesL_ (some 37) rfl rfl Try.func15 (by kernel_rfl) rfl #[.int .i64 t165, .agg #[.int .i64 t166, .int .i64 t167, .slice Ao30 t168.length co30], .agg #[.int .i64 t171, .int .i64 t172, .slice Ao31 t173.length co31]] rfl (by (try simp only [List.map_toArray, List.map_cons, List.map_nil]); first | done | rfl | (simp only [List.length_drop, List.length_take]; rfl)) ?_; (with_reducible refine (thyrsuslaw12_prim.calls t165 t166 t167 (fun k_ => ((some k_ ≠ (.slice (some ad159) y155.length co156_ : Value).ownBlock ∧ some k_ ≠ (.slice (some adz_v161) y160.length co26 : Value).ownBlock) ∧ some k_ ≠ (.slice Ao31 t173.length co31 : Value).ownBlock)) _ _ t168 t171 t172 (fun k_ => (some k_ ≠ (.slice (some ad159) y155.length co156_ : Value).ownBlock ∧ (some k_ ≠ (.slice (some adz_v161) y160.length co26 : Value).ownBlock ∧ some k_ ≠ (.slice Ao30 t168.length co30 : Value).ownBlock))) _ _ t173 t176 t177 t178 _ ?side1 ?side2 A15.out).mono ?_); (case side1 => exact Kd.N_V (HO170.out)); (case side2 => exact Kd.N_V (HO175.out)); rintro e w32 ⟨v179, rfl, ho0, hb⟩; refine ⟨_, rfl, ?_⟩; have n0_ := Aside0.mk (Kd.R_below (by (with_reducible repeat (first | apply Kd.R_alloc | apply Kd.R_drewN | apply Kd.R_drew)); exact HO157.out) hb); have n1_ := Aside0.mk (Kd.R_below (by (with_reducible repeat (first | apply Kd.R_alloc | apply Kd.R_drewN | apply Kd.R_drew)); exact HO162.out) hb); have n2_ := Aside0.mk (Kd.N_elder' (by (with_reducible repeat (first | apply Kd.N_alloc | apply Kd.N_drewN | apply Kd.N_drew)); exact HO170.out) (by first | exact Kd.N_base ho0 | exact Kd.R_base ho0) hb); have n3_ := Aside0.mk (Kd.N_elder' (by (with_reducible repeat (first | apply Kd.N_alloc | apply Kd.N_drewN | apply Kd.N_drew)); exact HO175.out) (by first | exact Kd.N_base ho0 | exact Kd.R_base ho0) hb); have n4_ := Aside0.mk (Kd.N_lower (Kd.N_mono (ok' := fun k_ => some k_ ≠ (.slice (some ad159) y155.length co156_ : Value).ownBlock ∧ some k_ ≠ (.slice (some adz_v161) y160.length co26 : Value).ownBlock) ho0 (fun k_ hk_ => ⟨Or.elim hk_ (fun hs_ => Or.elim hs_ (fun hs_ => hs_.1.1) (fun hs_ => hs_.1)) (fun hn_ => (Kd.fresh' (Kd.R_lt (by (with_reducible repeat (first | apply Kd.R_alloc | apply Kd.R_drewN | apply Kd.R_drew)); exact HO157.out)) k_ hn_)), Or.elim hk_ (fun hs_ => Or.elim hs_ (fun hs_ => hs_.1.2) (fun hs_ => hs_.2.1)) (fun hn_ => (Kd.fresh' (Kd.R_lt (by (with_reducible repeat (first | apply Kd.R_alloc | apply Kd.R_drewN | apply Kd.R_drew)); exact HO162.out)) k_ hn_))⟩)) (below_size (by repeat (first | (with_reducible first | exact HB.out | apply below_alloc | apply pw_below_drewN | apply below_drew1) | exact HB.out)))); have n5_ := Aside0.mk (below_step (by repeat (first | (with_reducible first | exact HB.out | apply below_alloc | apply pw_below_drewN | apply below_drew1) | exact HB.out)) hb); clear HO157; clear HO162; clear HO170; clear HO175; clear HB; have HO157 := n0_; have HO162 := n1_; have HO170 := n2_; have HO175 := n3_; have HO180 := n4_; have HB := n5_; clear n0_ n1_ n2_ n3_ n4_ n5_; (try clear hb); (try clear hb2); (try clear hk); (try clear hi); (try clear ho0); obtain ⟨Ao33, co33, eo33⟩ := Kd.N_slice HO180.out; subst eo33) | ((with_reducible refine gate_callee (f := 12) rfl ?_); refine goesL_ (some 38) rfl rfl Try.func12 (by kernel_rfl) rfl #[.agg #[.int .i64 t176, .int .i64 t177, .slice Ao33 t178.length co33], .int .i64 0] rfl (by (try simp only [List.map_toArray, List.map_cons, List.map_nil]); first | done | rfl | (simp only [List.length_drop, List.length_take]; rfl)) ?_; (with_reducible refine (run_Run.calls k t176 t177 _ _ t178 0 t181 t182 t183 t186 t187 _ ?side1 ?side2 A16.out).mono ?_); (case side1 => repeat (first | exact (Kd.N_reads' HO180.out).2.2 | (with_reducible refine Kd.C_alloc ?_ _) | (with_reducible refine Kd.C_drewN ?_ _) | (with_reducible refine Kd.C_drew ?_))); (case side2 => exact (Kd.N_reads' HO180.out).2.1); rintro e w34 ⟨v184, rfl, ho0, hb⟩; refine ⟨_, rfl, ?_⟩; have n0_ := Aside0.mk (Kd.R_below (by (with_reducible repeat (first | apply Kd.R_alloc | apply Kd.R_drewN | apply Kd.R_drew)); exact HO157.out) hb); have n1_ := Aside0.mk (Kd.R_below (by (with_reducible repeat (first | apply Kd.R_alloc | apply Kd.R_drewN | apply Kd.R_drew)); exact HO162.out) hb); have n2_ := Aside0.mk (Kd.N_elder' (by (with_reducible repeat (first | apply Kd.N_alloc | apply Kd.N_drewN | apply Kd.N_drew)); exact HO170.out) (by first | exact Kd.N_base ho0 | exact Kd.R_base ho0) hb); have n3_ := Aside0.mk (Kd.N_elder' (by (with_reducible repeat (first | apply Kd.N_alloc | apply Kd.N_drewN | apply Kd.N_drew)); exact HO175.out) (by first | exact Kd.N_base ho0 | exact Kd.R_base ho0) hb); have n4_ := Aside0.mk (Kd.N_elder' (by (with_reducible repeat (first | apply Kd.N_alloc | apply Kd.N_drewN | apply Kd.N_drew)); exact HO180.out) (by first | exact Kd.N_base ho0 | exact Kd.R_base ho0) hb); have n5_ := Aside0.mk (Kd.N_lower (Kd.N_mono (ok' := fun k_ => some k_ ≠ (.slice (some ad159) y155.length co156_ : Value).ownBlock ∧ some k_ ≠ (.slice (some adz_v161) y160.length co26 : Value).ownBlock ∧ some k_ ≠ (.slice Ao30 t168.length co30 : Value).ownBlock ∧ some k_ ≠ (.slice Ao31 t173.length co31 : Value).ownBlock ∧ some k_ ≠ (.slice Ao33 t178.length co33 : Value).ownBlock) (Kd.R_N (Kd.R_bound ho0)) (fun k_ hk_ => ⟨(Kd.fresh' (Kd.R_lt (by (with_reducible repeat (first | apply Kd.R_alloc | apply Kd.R_drewN | apply Kd.R_drew)); exact HO157.out)) k_ hk_.2.1), (Kd.fresh' (Kd.R_lt (by (with_reducible repeat (first | apply Kd.R_alloc | apply Kd.R_drewN | apply Kd.R_drew)); exact HO162.out)) k_ hk_.2.1), (Kd.fresh' (Kd.N_lt (by (with_reducible repeat (first | apply Kd.N_alloc | apply Kd.N_drewN | apply Kd.N_drew)); exact HO170.out)) k_ hk_.2.1), (Kd.fresh' (Kd.N_lt (by (with_reducible repeat (first | apply Kd.N_alloc | apply Kd.N_drewN | apply Kd.N_drew)); exact HO175.out)) k_ hk_.2.1), (Kd.fresh' (Kd.N_lt (by (with_reducible repeat (first | apply Kd.N_alloc | apply Kd.N_drewN | apply Kd.N_drew)); exact HO180.out)) k_ hk_.2.1)⟩)) (below_size (by repeat (first | (with_reducible first | exact HB.out | apply below_alloc | apply pw_below_drewN | apply below_drew1) | exact HB.out)))); have n6_ := Aside0.mk (below_step (by repeat (first | (with_reducible first | exact HB.out | apply below_alloc | apply pw_below_drewN | apply below_drew1) | exact HB.out)) hb); clear HO157; clear HO162; clear HO170; clear HO175; clear HO180; clear HB; have HO157 := n0_; have HO162 := n1_; have HO170 := n2_; have HO175 := n3_; have HO180 := n4_; have HO185 := n5_; have HB := n6_; clear n0_ n1_ n2_ n3_ n4_ n5_ n6_; (try clear hb); (try clear hb2); (try clear hk); (try clear hi); (try clear ho0)) | ((with_reducible refine gate_dst (N := 9) rfl ?_); (try (refine gate_guard (by rfl) ?_; dsimp only)); refine box_event ?hg (N := 9) ?hd (cs := #[.int .i64 0, .int .i64 0, .slice none 0 0]) (t := 34) ?hr ?_; (case hd => rfl); (case hg => rfl); (case hr => first | (go_simp; done) | (go_simp; rfl)); intro gb188 hg w35 hbox hb; have n0_ := Aside0.mk (Kd.R_below (by (with_reducible repeat (first | apply Kd.R_alloc | apply Kd.R_drewN | apply Kd.R_drew)); exact HO157.out) hb); have n1_ := Aside0.mk (Kd.R_below (by (with_reducible repeat (first | apply Kd.R_alloc | apply Kd.R_drewN | apply Kd.R_drew)); exact HO162.out) hb); have n2_ := Aside0.mk (Kd.N_below (Kd.N_elderB (by (with_reducible repeat (first | apply Kd.N_alloc | apply Kd.N_drewN | apply Kd.N_drew)); exact HO170.out) gb188 (Nat.le_of_eq hg.symm)) hb); have n3_ := Aside0.mk (Kd.N_below (Kd.N_elderB (by (with_reducible repeat (first | apply Kd.N_alloc | apply Kd.N_drewN | apply Kd.N_drew)); exact HO175.out) gb188 (Nat.le_of_eq hg.symm)) hb); have n4_ := Aside0.mk (Kd.N_below (Kd.N_elderB (by (with_reducible repeat (first | apply Kd.N_alloc | apply Kd.N_drewN | apply Kd.N_drew)); exact HO180.out) gb188 (Nat.le_of_eq hg.symm)) hb); have n5_ := Aside0.mk (Kd.N_below (Kd.N_elderB (by (with_reducible repeat (first | apply Kd.N_alloc | apply Kd.N_drewN | apply Kd.N_drew)); exact HO185.out) gb188 (Nat.le_of_eq hg.symm)) hb); have n6_ := Aside0.mk (below_step (by repeat (first | (with_reducible first | exact HB.out | apply below_alloc | apply pw_below_drewN | apply below_drew1) | exact HB.out)) hb); have n7_ := Aside0.mk (hbox); have n8_ := Aside0.mk ((by rw [hg]; exact (below_size (by repeat (first | (with_reducible first | exact HB.out | apply below_alloc | apply pw_below_drewN | apply below_drew1) | exact HB.out))) : w.heap.size ≤ gb188)); have n9_ := Aside0.mk ((by rw [hg]; exact (below_size (by repeat (first | (with_reducible first | exact HB.out | apply below_alloc | apply pw_below_drewN | apply below_drew1) | exact HB.out))) : w.heap.size ≤ gb188)); clear HO157; clear HO162; clear HO170; clear HO175; clear HO180; clear HO185; clear HB; have HO157 := n0_; have HO162 := n1_; have HO170 := n2_; have HO175 := n3_; have HO180 := n4_; have HO185 := n5_; have HB := n6_; have BK188 := n7_; have GW188 := n8_; have GE188 := n9_; clear n0_ n1_ n2_ n3_ n4_ n5_ n6_ n7_ n8_ n9_; clear hb hbox hg; have hcz36_0 : w35.cell? ⟨gb188, 0, none⟩ = some (.int .i64 0) := (blk_cell BK188.out 0).trans rfl; have hcz36_1 : w35.cell? ⟨gb188, 1, none⟩ = some (.int .i64 0) := (blk_cell BK188.out 1).trans rfl; have hcz36_2 : w35.cell? ⟨gb188, 2, none⟩ = some (.slice none 0 0) := (blk_cell BK188.out 2).trans rfl; have hfz36_0 := blk_frozen BK188.out 0; have hfz36_1 := blk_frozen BK188.out 1; have hfz36_2 := blk_frozen BK188.out 2; obtain ⟨Ao37, co37, eo37⟩ := Kd.N_slice HO185.out; subst eo37))
            (try simp only [Act.put, List.setIfInBounds_toArray, List.set_cons_zero, List.set_cons_succ])
            go_cut [47] (fun v47 wc => ∃ (kq : Nat) (x47_16 : Bool), v47 = .bool x47_16 ∧ Aside0 (thyrsuslaw12_RunPrims.j0 kq (rd y155 t158) (rd y160 t163) t165 t187 x47_16 t181 t182 t183 = some r) ∧ Aside0 (kq ≤ k) ∧ Aside0 (Kd.N k34 34 wc w.heap.size (fun k_ => k_ ≠ gb188) (.slice Ao37 t183.length co37) t183) ∧ Aside0 (wc.heap[gb188]? = some (.cells #[.int .i64 t181, .int .i64 t182, (.slice Ao37 t183.length co37)] 34 (0, 0))) ∧ Aside0 (Below w.heap.size w wc))
            case first =>
              have H := HC17.out
              clear HC17
              by_cases c38 : t165 = 3
              · rw [if_pos c38] at H
                have c38b0 : (t165 == 3) = true := beq_iff_eq.mpr c38
                have c38b1 : (t165 != 3) = false := bne_eq_false_iff_eq.mpr c38
                clear c38
                (first | rw [c38b0] | (simp only [i64_w, i32_w, u8_w, u32_w]; rw [c38b0]) | skip)
                have H' := Aside0.mk H
                clear H
                go_wp2
                go_meet
                case rel => exact ⟨_, (((rd y160 t163) == 0)), (by first | rfl | (simp; done) | (simp [*]; done)), H', ⟨by first | omega | exact Nat.le_refl _⟩, ⟨by (with_reducible repeat (first | apply Kd.N_alloc | apply Kd.N_drewN | apply Kd.N_drew)); exact Kd.N_mono (Kd.N_far (p := ⟨gb188, 2, none⟩) (Kd.N_far (p := ⟨gb188, 1, none⟩) (Kd.N_far (p := ⟨gb188, 0, none⟩) (Kd.N_mono HO185.out (fun k_ hk => (⟨hk, hk.2⟩ : _ ∧ k_ ≠ gb188))) (fun _ hk => hk.2) (.int .i64 t181)) (fun _ hk => hk.2) (.int .i64 t182)) (fun _ hk => hk.2) (.slice Ao37 t183.length co37)) (fun _ hk => hk.1.2)⟩, ⟨by (with_reducible repeat (first | refine blk_drewN ?_ _ | refine blk_drew ?_ | refine blk_alloc ?_ _)); refine blk_put (cs := #[.int .i64 t181, .int .i64 t182, .slice none 0 0]) ?_ 2 _ rfl; (with_reducible repeat (first | refine blk_drewN ?_ _ | refine blk_drew ?_ | refine blk_alloc ?_ _)); refine blk_put (cs := #[.int .i64 t181, .int .i64 0, .slice none 0 0]) ?_ 1 _ rfl; (with_reducible repeat (first | refine blk_drewN ?_ _ | refine blk_drew ?_ | refine blk_alloc ?_ _)); refine blk_put (cs := #[.int .i64 0, .int .i64 0, .slice none 0 0]) ?_ 0 _ rfl; (with_reducible repeat (first | refine blk_drewN ?_ _ | refine blk_drew ?_ | refine blk_alloc ?_ _)); exact BK188.out⟩, ⟨by repeat (first | (with_reducible first | exact HB.out | apply below_alloc | apply pw_below_drewN | apply below_drew1 | refine below_set ?_ GE188.out) | exact HB.out)⟩⟩
              · rw [if_neg c38] at H
                have c38b0 : (t165 == 3) = false := beq_eq_false_iff_ne.mpr c38
                have c38b1 : (t165 != 3) = true := bne_iff_ne.mpr c38
                (first | rw [c38b0] | (simp only [i64_w, i32_w, u8_w, u32_w]; rw [c38b0]) | skip)
                have H' := Aside0.mk H
                clear H
                go_wp2
                go_meet
                case rel => exact ⟨_, (false), (by first | rfl | (simp; done) | (simp [*]; done)), H', ⟨by first | omega | exact Nat.le_refl _⟩, ⟨by (with_reducible repeat (first | apply Kd.N_alloc | apply Kd.N_drewN | apply Kd.N_drew)); exact Kd.N_mono (Kd.N_far (p := ⟨gb188, 2, none⟩) (Kd.N_far (p := ⟨gb188, 1, none⟩) (Kd.N_far (p := ⟨gb188, 0, none⟩) (Kd.N_mono HO185.out (fun k_ hk => (⟨hk, hk.2⟩ : _ ∧ k_ ≠ gb188))) (fun _ hk => hk.2) (.int .i64 t181)) (fun _ hk => hk.2) (.int .i64 t182)) (fun _ hk => hk.2) (.slice Ao37 t183.length co37)) (fun _ hk => hk.1.2)⟩, ⟨by (with_reducible repeat (first | refine blk_drewN ?_ _ | refine blk_drew ?_ | refine blk_alloc ?_ _)); refine blk_put (cs := #[.int .i64 t181, .int .i64 t182, .slice none 0 0]) ?_ 2 _ rfl; (with_reducible repeat (first | refine blk_drewN ?_ _ | refine blk_drew ?_ | refine blk_alloc ?_ _)); refine blk_put (cs := #[.int .i64 t181, .int .i64 0, .slice none 0 0]) ?_ 1 _ rfl; (with_reducible repeat (first | refine blk_drewN ?_ _ | refine blk_drew ?_ | refine blk_alloc ?_ _)); refine blk_put (cs := #[.int .i64 0, .int .i64 0, .slice none 0 0]) ?_ 0 _ rfl; (with_reducible repeat (first | refine blk_drewN ?_ _ | refine blk_drew ?_ | refine blk_alloc ?_ _)); exact BK188.out⟩, ⟨by repeat (first | (with_reducible first | exact HB.out | apply below_alloc | apply pw_below_drewN | apply below_drew1 | refine below_set ?_ GE188.out) | exact HB.out)⟩⟩
            case rest =>
              clear HC17
              try clear c1
              try clear p1
              try clear q1
              try clear hx1
              try clear qi1
              try clear p2
              try clear c3
              try clear c4
              try clear c5
              try clear p6
              try clear c7
              try clear c7b0
              try clear c8
              try clear c8b0
              try clear c9
              try clear c10
              try clear c10b0
              try clear c11
              try clear c11b0
              try clear c12
              try clear c13
              try clear c15
              try clear p15
              try clear q15
              try clear hx15
              try clear c16
              try clear p16
              try clear q16
              try clear hx16
              try clear qi16
              try clear c38
              try clear c38b0
              try clear c38b1
              try clear hcz36_0
              try clear hcz36_1
              try clear hcz36_2
              try clear hfz36_0
              try clear hfz36_1
              try clear hfz36_2
              try clear hx159_0
              try clear hx164_0
              try clear p159
              try clear p164
              try clear q159
              try clear q164
              obtain ⟨kq, x47_16, rfl, HA, HJ16, HO_189002, BK188, HB⟩ := hcut
              cases kq with
              | zero => exact absurd HA.out (by simp [thyrsuslaw12_RunPrims.j0])
              | succ kj16 =>
                have H := HA.out
                clear HA
                simp only [thyrsuslaw12_RunPrims.j0] at H
                by_cases c39 : x47_16 = true
                · subst c39
                  have H1 : (if t187 = 18 then (some (t181 == 0)) else (none)) = some r := by rw [if_pos rfl] at H; exact H
                  clear H
                  have H := H1
                  clear H1
                  by_cases c40 : t187 = 18
                  · rw [if_pos c40] at H
                    have c40b0 : (t187 == 18) = true := beq_iff_eq.mpr c40
                    have c40b1 : (t187 != 18) = false := bne_eq_false_iff_eq.mpr c40
                    clear c40
                    obtain rfl := Option.some.inj H
                    have hcz41_0 : wc.cell? ⟨gb188, 0, none⟩ = some (.int .i64 t181) := (blk_cell BK188.out 0).trans rfl
                    have hcz41_1 : wc.cell? ⟨gb188, 1, none⟩ = some (.int .i64 t182) := (blk_cell BK188.out 1).trans rfl
                    have hcz41_2 : wc.cell? ⟨gb188, 2, none⟩ = some (.slice Ao37 t183.length co37) := (blk_cell BK188.out 2).trans rfl
                    have hfz41_0 := blk_frozen BK188.out 0
                    have hfz41_1 := blk_frozen BK188.out 1
                    have hfz41_2 := blk_frozen BK188.out 2
                    go_wp2
                    go_ret
                    exact ⟨by first | rfl | (simp [errW_none, errW_some] <;> rfl) | (simp [*, errW_none, errW_some] <;> rfl), by repeat (first | (with_reducible first | exact HB.out | apply below_alloc | apply pw_below_drewN | apply below_drew1 | refine below_set ?_ GE188.out) | exact HB.out)⟩
                  · rw [if_neg c40] at H
                    exact absurd H (by simp)
                · replace c39 := Bool.eq_false_iff.mpr c39
                  subst c39
                  have H1 : (if t165 = 0 then (if t187 = 0 then (if t181 = 1 then (if t182 = (wrap64 ((rd y155 t158) + (rd y160 t163))) then (some ((t183.length : Int) == 0)) else (none)) else (none)) else (none)) else (if t165 = 1 then (if t187 = 0 then (if t181 = 1 then (if t182 = (wrap64 ((rd y155 t158) - (rd y160 t163))) then (some ((t183.length : Int) == 0)) else (none)) else (none)) else (none)) else (if t165 = 2 then (if t187 = 0 then (if t181 = 1 then (if t182 = (wrap64 ((rd y155 t158) * (rd y160 t163))) then (some ((t183.length : Int) == 0)) else (none)) else (none)) else (none)) else (if t165 = 3 then (if (rd y160 t163) = (-1) then (if t187 = 0 then (if t181 = 1 then (if t182 = (wrap64 (-(rd y155 t158))) then (some ((t183.length : Int) == 0)) else (none)) else (none)) else (none)) else (if (rd y160 t163) = 0 then (none) else (if t187 = 0 then (if t181 = 1 then (if t182 = (wrap64 (Int.tdiv (rd y155 t158) (rd y160 t163))) then (some ((t183.length : Int) == 0)) else (none)) else (none)) else (none)))) else (if t165 = 4 then (if (rd y155 t158) < (rd y160 t163) then (if t187 = 0 then (if t181 = 1 then (if t182 = 1 then (some ((t183.length : Int) == 0)) else (none)) else (none)) else (none)) else (if t187 = 0 then (if t181 = 1 then (if t182 = 0 then (some ((t183.length : Int) == 0)) else (none)) else (none)) else (none))) else (if t187 = 0 then (if t181 = 1 then (if t182 = 0 then (some ((t183.length : Int) == 0)) else (none)) else (none)) else (none))))))) = some r := by rw [if_neg (show ¬ (false = true) by decide)] at H; exact H
                  clear H
                  have H := H1
                  clear H1
                  by_cases c42 : t165 = 0
                  · rw [if_pos c42] at H
                    have c42b0 : (t165 == 0) = true := beq_iff_eq.mpr c42
                    have c42b1 : (t165 != 0) = false := bne_eq_false_iff_eq.mpr c42
                    clear c42
                    by_cases c43 : t187 = 0
                    · rw [if_pos c43] at H
                      have c43b0 : (t187 == 0) = true := beq_iff_eq.mpr c43
                      have c43b1 : (t187 != 0) = false := bne_eq_false_iff_eq.mpr c43
                      clear c43
                      by_cases c44 : t181 = 1
                      · rw [if_pos c44] at H
                        have c44b0 : (t181 == 1) = true := beq_iff_eq.mpr c44
                        have c44b1 : (t181 != 1) = false := bne_eq_false_iff_eq.mpr c44
                        clear c44
                        by_cases c45 : t182 = (wrap64 ((rd y155 t158) + (rd y160 t163)))
                        · rw [if_pos c45] at H
                          have c45b0 : (t182 == (wrap64 ((rd y155 t158) + (rd y160 t163)))) = true := beq_iff_eq.mpr c45
                          have c45b1 : (t182 != (wrap64 ((rd y155 t158) + (rd y160 t163)))) = false := bne_eq_false_iff_eq.mpr c45
                          clear c45
                          obtain rfl := Option.some.inj H
                          have hcz46_0 : wc.cell? ⟨gb188, 0, none⟩ = some (.int .i64 t181) := (blk_cell BK188.out 0).trans rfl
                          have hcz46_1 : wc.cell? ⟨gb188, 1, none⟩ = some (.int .i64 t182) := (blk_cell BK188.out 1).trans rfl
                          have hcz46_2 : wc.cell? ⟨gb188, 2, none⟩ = some (.slice Ao37 t183.length co37) := (blk_cell BK188.out 2).trans rfl
                          have hfz46_0 := blk_frozen BK188.out 0
                          have hfz46_1 := blk_frozen BK188.out 1
                          have hfz46_2 := blk_frozen BK188.out 2
                          go_wp2
                          go_ret
                          exact ⟨by first | rfl | (simp [errW_none, errW_some] <;> rfl) | (simp [*, errW_none, errW_some] <;> rfl), by repeat (first | (with_reducible first | exact HB.out | apply below_alloc | apply pw_below_drewN | apply below_drew1 | refine below_set ?_ GE188.out) | exact HB.out)⟩
                        · rw [if_neg c45] at H
                          exact absurd H (by simp)
                      · rw [if_neg c44] at H
                        exact absurd H (by simp)
                    · rw [if_neg c43] at H
                      exact absurd H (by simp)
                  · rw [if_neg c42] at H
                    have c42b0 : (t165 == 0) = false := beq_eq_false_iff_ne.mpr c42
                    have c42b1 : (t165 != 0) = true := bne_iff_ne.mpr c42
                    by_cases c47 : t165 = 1
                    · rw [if_pos c47] at H
                      have c47b0 : (t165 == 1) = true := beq_iff_eq.mpr c47
                      have c47b1 : (t165 != 1) = false := bne_eq_false_iff_eq.mpr c47
                      clear c47
                      by_cases c48 : t187 = 0
                      · rw [if_pos c48] at H
                        have c48b0 : (t187 == 0) = true := beq_iff_eq.mpr c48
                        have c48b1 : (t187 != 0) = false := bne_eq_false_iff_eq.mpr c48
                        clear c48
                        by_cases c49 : t181 = 1
                        · rw [if_pos c49] at H
                          have c49b0 : (t181 == 1) = true := beq_iff_eq.mpr c49
                          have c49b1 : (t181 != 1) = false := bne_eq_false_iff_eq.mpr c49
                          clear c49
                          by_cases c50 : t182 = (wrap64 ((rd y155 t158) - (rd y160 t163)))
                          · rw [if_pos c50] at H
                            have c50b0 : (t182 == (wrap64 ((rd y155 t158) - (rd y160 t163)))) = true := beq_iff_eq.mpr c50
                            have c50b1 : (t182 != (wrap64 ((rd y155 t158) - (rd y160 t163)))) = false := bne_eq_false_iff_eq.mpr c50
                            clear c50
                            obtain rfl := Option.some.inj H
                            have hcz51_0 : wc.cell? ⟨gb188, 0, none⟩ = some (.int .i64 t181) := (blk_cell BK188.out 0).trans rfl
                            have hcz51_1 : wc.cell? ⟨gb188, 1, none⟩ = some (.int .i64 t182) := (blk_cell BK188.out 1).trans rfl
                            have hcz51_2 : wc.cell? ⟨gb188, 2, none⟩ = some (.slice Ao37 t183.length co37) := (blk_cell BK188.out 2).trans rfl
                            have hfz51_0 := blk_frozen BK188.out 0
                            have hfz51_1 := blk_frozen BK188.out 1
                            have hfz51_2 := blk_frozen BK188.out 2
                            go_wp2
                            go_ret
                            exact ⟨by first | rfl | (simp [errW_none, errW_some] <;> rfl) | (simp [*, errW_none, errW_some] <;> rfl), by repeat (first | (with_reducible first | exact HB.out | apply below_alloc | apply pw_below_drewN | apply below_drew1 | refine below_set ?_ GE188.out) | exact HB.out)⟩
                          · rw [if_neg c50] at H
                            exact absurd H (by simp)
                        · rw [if_neg c49] at H
                          exact absurd H (by simp)
                      · rw [if_neg c48] at H
                        exact absurd H (by simp)
                    · rw [if_neg c47] at H
                      have c47b0 : (t165 == 1) = false := beq_eq_false_iff_ne.mpr c47
                      have c47b1 : (t165 != 1) = true := bne_iff_ne.mpr c47
                      by_cases c52 : t165 = 2
                      · rw [if_pos c52] at H
                        have c52b0 : (t165 == 2) = true := beq_iff_eq.mpr c52
                        have c52b1 : (t165 != 2) = false := bne_eq_false_iff_eq.mpr c52
                        clear c52
                        by_cases c53 : t187 = 0
                        · rw [if_pos c53] at H
                          have c53b0 : (t187 == 0) = true := beq_iff_eq.mpr c53
                          have c53b1 : (t187 != 0) = false := bne_eq_false_iff_eq.mpr c53
                          clear c53
                          by_cases c54 : t181 = 1
                          · rw [if_pos c54] at H
                            have c54b0 : (t181 == 1) = true := beq_iff_eq.mpr c54
                            have c54b1 : (t181 != 1) = false := bne_eq_false_iff_eq.mpr c54
                            clear c54
                            by_cases c55 : t182 = (wrap64 ((rd y155 t158) * (rd y160 t163)))
                            · rw [if_pos c55] at H
                              have c55b0 : (t182 == (wrap64 ((rd y155 t158) * (rd y160 t163)))) = true := beq_iff_eq.mpr c55
                              have c55b1 : (t182 != (wrap64 ((rd y155 t158) * (rd y160 t163)))) = false := bne_eq_false_iff_eq.mpr c55
                              clear c55
                              obtain rfl := Option.some.inj H
                              have hcz56_0 : wc.cell? ⟨gb188, 0, none⟩ = some (.int .i64 t181) := (blk_cell BK188.out 0).trans rfl
                              have hcz56_1 : wc.cell? ⟨gb188, 1, none⟩ = some (.int .i64 t182) := (blk_cell BK188.out 1).trans rfl
                              have hcz56_2 : wc.cell? ⟨gb188, 2, none⟩ = some (.slice Ao37 t183.length co37) := (blk_cell BK188.out 2).trans rfl
                              have hfz56_0 := blk_frozen BK188.out 0
                              have hfz56_1 := blk_frozen BK188.out 1
                              have hfz56_2 := blk_frozen BK188.out 2
                              go_wp2
                              go_ret
                              exact ⟨by first | rfl | (simp [errW_none, errW_some] <;> rfl) | (simp [*, errW_none, errW_some] <;> rfl), by repeat (first | (with_reducible first | exact HB.out | apply below_alloc | apply pw_below_drewN | apply below_drew1 | refine below_set ?_ GE188.out) | exact HB.out)⟩
                            · rw [if_neg c55] at H
                              exact absurd H (by simp)
                          · rw [if_neg c54] at H
                            exact absurd H (by simp)
                        · rw [if_neg c53] at H
                          exact absurd H (by simp)
                      · rw [if_neg c52] at H
                        have c52b0 : (t165 == 2) = false := beq_eq_false_iff_ne.mpr c52
                        have c52b1 : (t165 != 2) = true := bne_iff_ne.mpr c52
                        by_cases c57 : t165 = 3
                        · rw [if_pos c57] at H
                          have c57b0 : (t165 == 3) = true := beq_iff_eq.mpr c57
                          have c57b1 : (t165 != 3) = false := bne_eq_false_iff_eq.mpr c57
                          clear c57
                          by_cases c58 : (rd y160 t163) = (-1)
                          · rw [if_pos c58] at H
                            have c58b0 : ((rd y160 t163) == (-1)) = true := beq_iff_eq.mpr c58
                            have c58b1 : ((rd y160 t163) != (-1)) = false := bne_eq_false_iff_eq.mpr c58
                            clear c58
                            by_cases c59 : t187 = 0
                            · rw [if_pos c59] at H
                              have c59b0 : (t187 == 0) = true := beq_iff_eq.mpr c59
                              have c59b1 : (t187 != 0) = false := bne_eq_false_iff_eq.mpr c59
                              clear c59
                              by_cases c60 : t181 = 1
                              · rw [if_pos c60] at H
                                have c60b0 : (t181 == 1) = true := beq_iff_eq.mpr c60
                                have c60b1 : (t181 != 1) = false := bne_eq_false_iff_eq.mpr c60
                                clear c60
                                by_cases c61 : t182 = (wrap64 (-(rd y155 t158)))
                                · rw [if_pos c61] at H
                                  have c61b0 : (t182 == (wrap64 (-(rd y155 t158)))) = true := beq_iff_eq.mpr c61
                                  have c61b1 : (t182 != (wrap64 (-(rd y155 t158)))) = false := bne_eq_false_iff_eq.mpr c61
                                  clear c61
                                  obtain rfl := Option.some.inj H
                                  have hcz62_0 : wc.cell? ⟨gb188, 0, none⟩ = some (.int .i64 t181) := (blk_cell BK188.out 0).trans rfl
                                  have hcz62_1 : wc.cell? ⟨gb188, 1, none⟩ = some (.int .i64 t182) := (blk_cell BK188.out 1).trans rfl
                                  have hcz62_2 : wc.cell? ⟨gb188, 2, none⟩ = some (.slice Ao37 t183.length co37) := (blk_cell BK188.out 2).trans rfl
                                  have hfz62_0 := blk_frozen BK188.out 0
                                  have hfz62_1 := blk_frozen BK188.out 1
                                  have hfz62_2 := blk_frozen BK188.out 2
                                  go_wp2
                                  go_ret
                                  exact ⟨by first | rfl | (simp [errW_none, errW_some] <;> rfl) | (simp [*, errW_none, errW_some] <;> rfl), by repeat (first | (with_reducible first | exact HB.out | apply below_alloc | apply pw_below_drewN | apply below_drew1 | refine below_set ?_ GE188.out) | exact HB.out)⟩
                                · rw [if_neg c61] at H
                                  exact absurd H (by simp)
                              · rw [if_neg c60] at H
                                exact absurd H (by simp)
                            · rw [if_neg c59] at H
                              exact absurd H (by simp)
                          · rw [if_neg c58] at H
                            have c58b0 : ((rd y160 t163) == (-1)) = false := beq_eq_false_iff_ne.mpr c58
                            have c58b1 : ((rd y160 t163) != (-1)) = true := bne_iff_ne.mpr c58
                            by_cases c63 : (rd y160 t163) = 0
                            · rw [if_pos c63] at H
                              exact absurd H (by simp)
                            · rw [if_neg c63] at H
                              have c63b0 : ((rd y160 t163) == 0) = false := beq_eq_false_iff_ne.mpr c63
                              have c63b1 : ((rd y160 t163) != 0) = true := bne_iff_ne.mpr c63
                              by_cases c64 : t187 = 0
                              · rw [if_pos c64] at H
                                have c64b0 : (t187 == 0) = true := beq_iff_eq.mpr c64
                                have c64b1 : (t187 != 0) = false := bne_eq_false_iff_eq.mpr c64
                                clear c64
                                by_cases c65 : t181 = 1
                                · rw [if_pos c65] at H
                                  have c65b0 : (t181 == 1) = true := beq_iff_eq.mpr c65
                                  have c65b1 : (t181 != 1) = false := bne_eq_false_iff_eq.mpr c65
                                  clear c65
                                  by_cases c66 : t182 = (wrap64 (Int.tdiv (rd y155 t158) (rd y160 t163)))
                                  · rw [if_pos c66] at H
                                    have c66b0 : (t182 == (wrap64 (Int.tdiv (rd y155 t158) (rd y160 t163)))) = true := beq_iff_eq.mpr c66
                                    have c66b1 : (t182 != (wrap64 (Int.tdiv (rd y155 t158) (rd y160 t163)))) = false := bne_eq_false_iff_eq.mpr c66
                                    clear c66
                                    obtain rfl := Option.some.inj H
                                    have hcz67_0 : wc.cell? ⟨gb188, 0, none⟩ = some (.int .i64 t181) := (blk_cell BK188.out 0).trans rfl
                                    have hcz67_1 : wc.cell? ⟨gb188, 1, none⟩ = some (.int .i64 t182) := (blk_cell BK188.out 1).trans rfl
                                    have hcz67_2 : wc.cell? ⟨gb188, 2, none⟩ = some (.slice Ao37 t183.length co37) := (blk_cell BK188.out 2).trans rfl
                                    have hfz67_0 := blk_frozen BK188.out 0
                                    have hfz67_1 := blk_frozen BK188.out 1
                                    have hfz67_2 := blk_frozen BK188.out 2
                                    go_wp2
                                    go_ret
                                    exact ⟨by first | rfl | (simp [errW_none, errW_some] <;> rfl) | (simp [*, errW_none, errW_some] <;> rfl), by repeat (first | (with_reducible first | exact HB.out | apply below_alloc | apply pw_below_drewN | apply below_drew1 | refine below_set ?_ GE188.out) | exact HB.out)⟩
                                  · rw [if_neg c66] at H
                                    exact absurd H (by simp)
                                · rw [if_neg c65] at H
                                  exact absurd H (by simp)
                              · rw [if_neg c64] at H
                                exact absurd H (by simp)
                        · rw [if_neg c57] at H
                          have c57b0 : (t165 == 3) = false := beq_eq_false_iff_ne.mpr c57
                          have c57b1 : (t165 != 3) = true := bne_iff_ne.mpr c57
                          by_cases c68 : t165 = 4
                          · rw [if_pos c68] at H
                            have c68b0 : (t165 == 4) = true := beq_iff_eq.mpr c68
                            have c68b1 : (t165 != 4) = false := bne_eq_false_iff_eq.mpr c68
                            clear c68
                            by_cases c69 : (rd y155 t158) < (rd y160 t163)
                            · rw [if_pos c69] at H
                              have c69b0 : decide ((rd y155 t158) < (rd y160 t163)) = true := decide_eq_true c69
                              clear c69
                              by_cases c70 : t187 = 0
                              · rw [if_pos c70] at H
                                have c70b0 : (t187 == 0) = true := beq_iff_eq.mpr c70
                                have c70b1 : (t187 != 0) = false := bne_eq_false_iff_eq.mpr c70
                                clear c70
                                by_cases c71 : t181 = 1
                                · rw [if_pos c71] at H
                                  have c71b0 : (t181 == 1) = true := beq_iff_eq.mpr c71
                                  have c71b1 : (t181 != 1) = false := bne_eq_false_iff_eq.mpr c71
                                  clear c71
                                  by_cases c72 : t182 = 1
                                  · rw [if_pos c72] at H
                                    have c72b0 : (t182 == 1) = true := beq_iff_eq.mpr c72
                                    have c72b1 : (t182 != 1) = false := bne_eq_false_iff_eq.mpr c72
                                    clear c72
                                    obtain rfl := Option.some.inj H
                                    have hcz73_0 : wc.cell? ⟨gb188, 0, none⟩ = some (.int .i64 t181) := (blk_cell BK188.out 0).trans rfl
                                    have hcz73_1 : wc.cell? ⟨gb188, 1, none⟩ = some (.int .i64 t182) := (blk_cell BK188.out 1).trans rfl
                                    have hcz73_2 : wc.cell? ⟨gb188, 2, none⟩ = some (.slice Ao37 t183.length co37) := (blk_cell BK188.out 2).trans rfl
                                    have hfz73_0 := blk_frozen BK188.out 0
                                    have hfz73_1 := blk_frozen BK188.out 1
                                    have hfz73_2 := blk_frozen BK188.out 2
                                    go_wp2
                                    go_ret
                                    exact ⟨by first | rfl | (simp [errW_none, errW_some] <;> rfl) | (simp [*, errW_none, errW_some] <;> rfl), by repeat (first | (with_reducible first | exact HB.out | apply below_alloc | apply pw_below_drewN | apply below_drew1 | refine below_set ?_ GE188.out) | exact HB.out)⟩
                                  · rw [if_neg c72] at H
                                    exact absurd H (by simp)
                                · rw [if_neg c71] at H
                                  exact absurd H (by simp)
                              · rw [if_neg c70] at H
                                exact absurd H (by simp)
                            · rw [if_neg c69] at H
                              have c69b0 : decide ((rd y155 t158) < (rd y160 t163)) = false := decide_eq_false c69
                              clear c69
                              by_cases c74 : t187 = 0
                              · rw [if_pos c74] at H
                                have c74b0 : (t187 == 0) = true := beq_iff_eq.mpr c74
                                have c74b1 : (t187 != 0) = false := bne_eq_false_iff_eq.mpr c74
                                clear c74
                                by_cases c75 : t181 = 1
                                · rw [if_pos c75] at H
                                  have c75b0 : (t181 == 1) = true := beq_iff_eq.mpr c75
                                  have c75b1 : (t181 != 1) = false := bne_eq_false_iff_eq.mpr c75
                                  clear c75
                                  by_cases c76 : t182 = 0
                                  · rw [if_pos c76] at H
                                    have c76b0 : (t182 == 0) = true := beq_iff_eq.mpr c76
                                    have c76b1 : (t182 != 0) = false := bne_eq_false_iff_eq.mpr c76
                                    clear c76
                                    obtain rfl := Option.some.inj H
                                    have hcz77_0 : wc.cell? ⟨gb188, 0, none⟩ = some (.int .i64 t181) := (blk_cell BK188.out 0).trans rfl
                                    have hcz77_1 : wc.cell? ⟨gb188, 1, none⟩ = some (.int .i64 t182) := (blk_cell BK188.out 1).trans rfl
                                    have hcz77_2 : wc.cell? ⟨gb188, 2, none⟩ = some (.slice Ao37 t183.length co37) := (blk_cell BK188.out 2).trans rfl
                                    have hfz77_0 := blk_frozen BK188.out 0
                                    have hfz77_1 := blk_frozen BK188.out 1
                                    have hfz77_2 := blk_frozen BK188.out 2
                                    go_wp2
                                    go_ret
                                    exact ⟨by first | rfl | (simp [errW_none, errW_some] <;> rfl) | (simp [*, errW_none, errW_some] <;> rfl), by repeat (first | (with_reducible first | exact HB.out | apply below_alloc | apply pw_below_drewN | apply below_drew1 | refine below_set ?_ GE188.out) | exact HB.out)⟩
                                  · rw [if_neg c76] at H
                                    exact absurd H (by simp)
                                · rw [if_neg c75] at H
                                  exact absurd H (by simp)
                              · rw [if_neg c74] at H
                                exact absurd H (by simp)
                          · rw [if_neg c68] at H
                            have c68b0 : (t165 == 4) = false := beq_eq_false_iff_ne.mpr c68
                            have c68b1 : (t165 != 4) = true := bne_iff_ne.mpr c68
                            by_cases c78 : t187 = 0
                            · rw [if_pos c78] at H
                              have c78b0 : (t187 == 0) = true := beq_iff_eq.mpr c78
                              have c78b1 : (t187 != 0) = false := bne_eq_false_iff_eq.mpr c78
                              clear c78
                              by_cases c79 : t181 = 1
                              · rw [if_pos c79] at H
                                have c79b0 : (t181 == 1) = true := beq_iff_eq.mpr c79
                                have c79b1 : (t181 != 1) = false := bne_eq_false_iff_eq.mpr c79
                                clear c79
                                by_cases c80 : t182 = 0
                                · rw [if_pos c80] at H
                                  have c80b0 : (t182 == 0) = true := beq_iff_eq.mpr c80
                                  have c80b1 : (t182 != 0) = false := bne_eq_false_iff_eq.mpr c80
                                  clear c80
                                  obtain rfl := Option.some.inj H
                                  have hcz81_0 : wc.cell? ⟨gb188, 0, none⟩ = some (.int .i64 t181) := (blk_cell BK188.out 0).trans rfl
                                  have hcz81_1 : wc.cell? ⟨gb188, 1, none⟩ = some (.int .i64 t182) := (blk_cell BK188.out 1).trans rfl
                                  have hcz81_2 : wc.cell? ⟨gb188, 2, none⟩ = some (.slice Ao37 t183.length co37) := (blk_cell BK188.out 2).trans rfl
                                  have hfz81_0 := blk_frozen BK188.out 0
                                  have hfz81_1 := blk_frozen BK188.out 1
                                  have hfz81_2 := blk_frozen BK188.out 2
                                  go_wp2
                                  go_ret
                                  exact ⟨by first | rfl | (simp [errW_none, errW_some] <;> rfl) | (simp [*, errW_none, errW_some] <;> rfl), by repeat (first | (with_reducible first | exact HB.out | apply below_alloc | apply pw_below_drewN | apply below_drew1 | refine below_set ?_ GE188.out) | exact HB.out)⟩
                                · rw [if_neg c80] at H
                                  exact absurd H (by simp)
                              · rw [if_neg c79] at H
                                exact absurd H (by simp)
                            · rw [if_neg c78] at H
                              exact absurd H (by simp)
          · rw [if_neg c11] at H
            exact absurd H (by simp)
        · rw [if_neg c10] at H
          exact absurd H (by simp)
      · rw [if_neg c8] at H
        exact absurd H (by simp)
    · rw [if_neg c7] at H
      exact absurd H (by simp)
  · replace c5 := Bool.eq_false_iff.mpr c5
    subst c5
    have H1 : (none) = some r := by rw [if_neg (show ¬ (false = true) by decide)] at H; exact H
    clear H
    have H := H1
    clear H1
    exact absurd H (by simp)

/-- THE ONE PURE STATEMENT of thyrsuslaw12_RunPrims: yours. -/
def thyrsuslaw12_RunPrims.Pure : Prop := ∀ (a0 : Int) (a1 : Int) (a2 : Int), (Lit.int .i64 a0).wf = true → (Lit.int .i64 a1).wf = true → (Lit.int .i64 a2).wf = true → ∃ k, thyrsuslaw12_RunPrims.f k a0 a1 a2 = some true
theorem thyrsuslaw12_RunPrims.walk (P : thyrsuslaw12_RunPrims.Pure) (a0 : Int) (a1 : Int) (a2 : Int) (w : World) (w0 : (Lit.int .i64 a0).wf = true) (w1 : (Lit.int .i64 a1).wf = true) (w2 : (Lit.int .i64 a2).wf = true) :
    Calls Try.prog 4 #[.int .i64 a0, .int .i64 a1, .int .i64 a2] w fun e w' => e = .returned (.bool true) ∧ Below w.heap.size w w' := by
  obtain ⟨k, h⟩ := P a0 a1 a2 w0 w1 w2
  refine (thyrsuslaw12_RunPrims.calls k a0 a1 a2 true w h).mono ?_
  rintro e w' ⟨rfl, hd⟩
  exact ⟨rfl, hd⟩

end Go.Proofs.Ytnecmclnokikoaa.P
