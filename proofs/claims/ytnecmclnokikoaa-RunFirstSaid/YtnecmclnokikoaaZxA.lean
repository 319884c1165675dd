-- Printed by mkprint.py (a program of this session, over the kit's print). Lean checks it.
import Derived.Test.YtnecmclnokikoaaPx0
import Derived.Test.YtnecmclnokikoaaPx1
import Derived.Test.YtnecmclnokikoaaPx3
import Derived.Test.YtnecmclnokikoaaPx5
import Derived.Test.YtnecmclnokikoaaPx6
import Derived.Test.YtnecmclnokikoaaHandRun
namespace Go.Proofs.Ytnecmclnokikoaa.P
open Go.RowKit Go.Proofs.YtnecmclnokikoaaW.PrintWords Go.Proofs.YtnecmclnokikoaaW.PrintLast Go.Proofs.YtnecmclnokikoaaW.PrintMore
attribute [local go_sem] max2_int min2_int max_two min_two max_three min_three max_four min_four   -- for this text's walks alone
set_option linter.unusedVariables false
set_option linter.unusedSimpArgs false

/-! ### thyrsuslaw12_RunFirst: function 6 -/
mutual
def thyrsuslaw12_RunFirst.l0 : Nat → Int → Int → Int → Int → Int → Int → List (S29) → Int → Int → List (S29) → Int → Int → List (S29) → Option (Bool)
  | 0, _, _, _, _, _, _, _, _, _, _, _, _, _ => none
  | k + 1, x0, x1, x2, x11, x192000, x192001, x192002, x213000, x213001, x213002, x214000, x214001, x214002 => if x11 < x0 then ((thyrsusref4_T.f 21 (([(⟨x192000, x192001, x192002⟩ : S29), (⟨x213000, x213001, x213002⟩ : S29)] : List (S29)))).bind fun bt217 => (thyrsuslaw12_RunFirst.l0 k x0 x1 x2 (wrap64 (x11 + 1)) x192000 x192001 x192002 bt217.1 bt217.2.1 bt217.2.2 x214000 x214001 x214002)) else (thyrsuslaw12_RunFirst.l1 k x0 x1 x2 0 x192000 x192001 x192002 x213000 x213001 x213002 x214000 x214001 x214002)
def thyrsuslaw12_RunFirst.l1 : Nat → Int → Int → Int → Int → Int → Int → List (S29) → Int → Int → List (S29) → Int → Int → List (S29) → Option (Bool)
  | 0, _, _, _, _, _, _, _, _, _, _, _, _, _ => none
  | k + 1, x0, x1, x2, x12, x192000, x192001, x192002, x213000, x213001, x213002, x214000, x214001, x214002 => if x12 < x1 then ((thyrsusref4_T.f 21 (([(⟨x192000, x192001, x192002⟩ : S29), (⟨x214000, x214001, x214002⟩ : S29)] : List (S29)))).bind fun bt225 => (thyrsuslaw12_RunFirst.l1 k x0 x1 x2 (wrap64 (x12 + 1)) x192000 x192001 x192002 x213000 x213001 x213002 bt225.1 bt225.2.1 bt225.2.2)) else ((thyrsusref4_T.f 22 (([(⟨x213000, x213001, x213002⟩ : S29), (⟨x214000, x214001, x214002⟩ : S29)] : List (S29)))).bind fun bt233 => ((thyrsuslaw12_within.f x2 4).bind fun t239 => (if t239 = 1 then ((thyrsusref4_T.f 22 (([(⟨x214000, x214001, x214002⟩ : S29), (⟨x213000, x213001, x213002⟩ : S29)] : List (S29)))).bind fun bt243 => ((run_Run.f k bt243.1 bt243.2.1 bt243.2.2 50).bind fun bt248 => (if bt248.2.2.2.2 = 18 then (some (bt248.2.2.2.1 == 0)) else (none)))) else (if t239 = 2 then ((thyrsuslaw12_prim.f 0 x213000 x213001 x213002 x214000 x214001 x214002).bind fun bt256 => ((run_Run.f k bt256.1 bt256.2.1 bt256.2.2 50).bind fun bt261 => (if bt261.2.2.2.2 = 18 then (some (bt261.2.2.2.1 == x0)) else (none)))) else (if t239 = 3 then ((thyrsusref4_Shift.f k x214000 x214001 x214002 1 0).bind fun bt269 => ((thyrsusref4_T.f 28 (([(⟨x213000, x213001, x213002⟩ : S29), (⟨bt269.1, bt269.2.1, bt269.2.2⟩ : S29)] : List (S29)))).bind fun bt277 => ((run_Run.f k bt277.1 bt277.2.1 bt277.2.2 50).bind fun bt282 => (if bt282.2.2.2.2 = 18 then (some (bt282.2.2.2.1 == x0)) else (none))))) else ((run_Run.f k bt233.1 bt233.2.1 bt233.2.2 50).bind fun bt290 => (if bt290.2.2.2.2 = 18 then (some (bt290.2.2.2.1 == x0)) else (none))))))))
end
def thyrsuslaw12_RunFirst.f (k : Nat) (a0 : Int) (a1 : Int) (a2 : Int) : Option (Bool) := (thyrsuslaw12_known.f k).bind fun t169 => (if t169 = true then ((thyrsuslaw12_within.f a0 8).bind fun t170 => ((thyrsuslaw12_within.f a1 8).bind fun t171 => ((thyrsusref4_T.f 15 ([] : List (S29))).bind fun bt172 => ((thyrsusref4_V.f 0).bind fun bt178 => ((thyrsusref4_T.f 20 (([(⟨bt172.1, bt172.2.1, bt172.2.2⟩ : S29), (⟨bt178.1, bt178.2.1, bt178.2.2⟩ : S29)] : List (S29)))).bind fun bt186 => ((thyrsusref4_Int.f 1).bind fun bt192 => ((thyrsusref4_Int.f 1).bind fun bt197 => ((thyrsusref4_Int.f 0).bind fun bt202 => ((thyrsuslaw12_prim.f 3 bt197.1 bt197.2.1 bt197.2.2 bt202.1 bt202.2.1 bt202.2.2).bind fun bt207 => (thyrsuslaw12_RunFirst.l0 k t170 t171 a2 0 bt186.1 bt186.2.1 bt186.2.2 bt192.1 bt192.2.1 bt192.2.2 bt207.1 bt207.2.1 bt207.2.2)))))))))) else (none))
theorem thyrsuslaw12_RunFirst.mono_l : ∀ k, (∀ y0 y1 y2 y3 y4 y5 y6 y7 y8 y9 y10 y11 y12, LeO (thyrsuslaw12_RunFirst.l0 k y0 y1 y2 y3 y4 y5 y6 y7 y8 y9 y10 y11 y12) (thyrsuslaw12_RunFirst.l0 (k + 1) y0 y1 y2 y3 y4 y5 y6 y7 y8 y9 y10 y11 y12)) ∧ (∀ y0 y1 y2 y3 y4 y5 y6 y7 y8 y9 y10 y11 y12, LeO (thyrsuslaw12_RunFirst.l1 k y0 y1 y2 y3 y4 y5 y6 y7 y8 y9 y10 y11 y12) (thyrsuslaw12_RunFirst.l1 (k + 1) y0 y1 y2 y3 y4 y5 y6 y7 y8 y9 y10 y11 y12))
  | 0 => ⟨fun _ _ _ _ _ _ _ _ _ _ _ _ _ r h => by simp [thyrsuslaw12_RunFirst.l0] at h, fun _ _ _ _ _ _ _ _ _ _ _ _ _ r h => by simp [thyrsuslaw12_RunFirst.l1] at h⟩
  | k + 1 => by
    obtain ⟨ih0, ih1⟩ := thyrsuslaw12_RunFirst.mono_l k
    refine ⟨?_, ?_⟩
    · intro y0 y1 y2 y3 y4 y5 y6 y7 y8 y9 y10 y11 y12
      unfold thyrsuslaw12_RunFirst.l0
      repeat' first
      | (with_reducible exact ih0 _ _ _ _ _ _ _ _ _ _ _ _ _)
      | (with_reducible exact ih1 _ _ _ _ _ _ _ _ _ _ _ _ _)
      | (with_reducible exact run_Run.mono _ _ _ _ _)
      | (with_reducible exact thyrsuslaw12_known.mono _)
      | (with_reducible exact thyrsusref4_Shift.mono _ _ _ _ _ _)
      | (with_reducible exact LeO.refl _)
      | (with_reducible exact LeO.none _)
      | (with_reducible refine LeO.ite ?_ ?_)
      | (with_reducible refine LeO.bind ?_ (fun _ => ?_))
      | exact ih0 _ _ _ _ _ _ _ _ _ _ _ _ _
      | exact ih1 _ _ _ _ _ _ _ _ _ _ _ _ _
      | exact run_Run.mono _ _ _ _ _
      | exact thyrsuslaw12_known.mono _
      | exact thyrsusref4_Shift.mono _ _ _ _ _ _
      | exact LeO.none _
      | refine LeO.ite ?_ ?_
      | refine LeO.bind ?_ (fun _ => ?_)
    · intro y0 y1 y2 y3 y4 y5 y6 y7 y8 y9 y10 y11 y12
      unfold thyrsuslaw12_RunFirst.l1
      repeat' first
      | (with_reducible exact ih0 _ _ _ _ _ _ _ _ _ _ _ _ _)
      | (with_reducible exact ih1 _ _ _ _ _ _ _ _ _ _ _ _ _)
      | (with_reducible exact run_Run.mono _ _ _ _ _)
      | (with_reducible exact thyrsuslaw12_known.mono _)
      | (with_reducible exact thyrsusref4_Shift.mono _ _ _ _ _ _)
      | (with_reducible exact LeO.refl _)
      | (with_reducible exact LeO.none _)
      | (with_reducible refine LeO.ite ?_ ?_)
      | (with_reducible refine LeO.bind ?_ (fun _ => ?_))
      | exact ih0 _ _ _ _ _ _ _ _ _ _ _ _ _
      | exact ih1 _ _ _ _ _ _ _ _ _ _ _ _ _
      | exact run_Run.mono _ _ _ _ _
      | exact thyrsuslaw12_known.mono _
      | exact thyrsusref4_Shift.mono _ _ _ _ _ _
      | exact LeO.none _
      | refine LeO.ite ?_ ?_
      | refine LeO.bind ?_ (fun _ => ?_)
theorem thyrsuslaw12_RunFirst.mono : ∀ a0 a1 a2 k, LeO (thyrsuslaw12_RunFirst.f k a0 a1 a2) (thyrsuslaw12_RunFirst.f (k + 1) a0 a1 a2) := by
  intro a0 a1 a2 k
  obtain ⟨ih0, ih1⟩ := thyrsuslaw12_RunFirst.mono_l k
  unfold thyrsuslaw12_RunFirst.f
  repeat' first
      | (with_reducible exact ih0 _ _ _ _ _ _ _ _ _ _ _ _ _)
      | (with_reducible exact ih1 _ _ _ _ _ _ _ _ _ _ _ _ _)
      | (with_reducible exact run_Run.mono _ _ _ _ _)
      | (with_reducible exact thyrsuslaw12_known.mono _)
      | (with_reducible exact thyrsusref4_Shift.mono _ _ _ _ _ _)
      | (with_reducible exact LeO.refl _)
      | (with_reducible exact LeO.none _)
      | (with_reducible refine LeO.ite ?_ ?_)
      | (with_reducible refine LeO.bind ?_ (fun _ => ?_))
      | exact ih0 _ _ _ _ _ _ _ _ _ _ _ _ _
      | exact ih1 _ _ _ _ _ _ _ _ _ _ _ _ _
      | exact run_Run.mono _ _ _ _ _
      | exact thyrsuslaw12_known.mono _
      | exact thyrsusref4_Shift.mono _ _ _ _ _ _
      | exact LeO.none _
      | refine LeO.ite ?_ ?_
      | refine LeO.bind ?_ (fun _ => ?_)
def thyrsuslaw12_RunFirst.T23 : Bool × List (List Nat × List Nat) := (true, [([], []), ([], []), ([1], [1]), ([0, 2], [0, 2]), ([3, 2], [3]), ([], []), ([4, 4, 0, 1, 2, 3, 4], [4]), ([5, 6, 0, 1, 2, 3, 4, 5, 6], [5])])
def thyrsuslaw12_RunFirst.B23 : List Nat := [0, 0, 2, 7, 15, 0, 31, 127]
theorem thyrsuslaw12_RunFirst.tab23 : rtab .any (opsOf Try.f6 23) = thyrsuslaw12_RunFirst.T23 := by kernel_rfl
theorem thyrsuslaw12_RunFirst.bits23 : waitsOk thyrsuslaw12_RunFirst.T23.2 thyrsuslaw12_RunFirst.B23 = true := by kernel_rfl
end Go.Proofs.Ytnecmclnokikoaa.P
