/- RunFirst, the plain law: parts are run from the left: the first error counts, and the steps ahead of it. No conditions but that the numbers are whole numbers of 64 bits. -/
import Derived.Test.YtnecmclnokikoaaPureA
import Derived.Test.YtnecmclnokikoaaZxC
namespace Go.Proofs.Ytnecmclnokikoaa.Pure
open Go.RowKit Go.Proofs.Ytnecmclnokikoaa.P Go.Proofs.YtnecmclnokikoaaW.PrintWords Go.Proofs.YtnecmclnokikoaaW.PrintLast Go.Proofs.Ytnecmclnokikoaa.Run
theorem first_congr {a b : Int} (h : thyrsuslaw12_within.f a 4 = thyrsuslaw12_within.f b 4) : ∀ k,
    (∀ x0 x1 x11 i0 i1 i2 a0 a1 a2 b0 b1 b2, thyrsuslaw12_RunFirst.l0 k x0 x1 a x11 i0 i1 i2 a0 a1 a2 b0 b1 b2 = thyrsuslaw12_RunFirst.l0 k x0 x1 b x11 i0 i1 i2 a0 a1 a2 b0 b1 b2) ∧
    (∀ x0 x1 x11 i0 i1 i2 a0 a1 a2 b0 b1 b2, thyrsuslaw12_RunFirst.l1 k x0 x1 a x11 i0 i1 i2 a0 a1 a2 b0 b1 b2 = thyrsuslaw12_RunFirst.l1 k x0 x1 b x11 i0 i1 i2 a0 a1 a2 b0 b1 b2)
  | 0 => ⟨fun _ _ _ _ _ _ _ _ _ _ _ _ => rfl, fun _ _ _ _ _ _ _ _ _ _ _ _ => rfl⟩
  | k + 1 => by
    obtain ⟨ih0, ih1⟩ := first_congr h k
    refine ⟨?_, ?_⟩
    · intro x0 x1 x11 i0 i1 i2 a0 a1 a2 b0 b1 b2
      simp only [thyrsuslaw12_RunFirst.l0, ih0, ih1]
    · intro x0 x1 x11 i0 i1 i2 a0 a1 a2 b0 b1 b2
      simp only [thyrsuslaw12_RunFirst.l1, ih1, h]
theorem first_all : ∀ p : Fin 8, ∀ q : Fin 8, ∀ c : Fin 4, thyrsuslaw12_RunFirst.l0 120 (p : Nat) (q : Nat) ((c : Nat) : Int) 0 20 0 [⟨15, 0, []⟩, ⟨1, 0, []⟩] 25 1 [] 26 3 [⟨25, 1, []⟩, ⟨25, 0, []⟩] = some true := by decide +kernel
theorem RunFirst : thyrsuslaw12_RunFirst.Pure := by
  intro a0 a1 a2 w0 w1 w2
  obtain ⟨p, hp, ep⟩ := within_ex (i64_of w0) (n := 8) (by decide) (by decide)
  obtain ⟨q, hq, eq⟩ := within_ex (i64_of w1) (n := 8) (by decide) (by decide)
  obtain ⟨c, hc, ec⟩ := within_ex (i64_of w2) (n := 4) (by decide) (by decide)
  have e4 : thyrsuslaw12_within.f a2 4 = thyrsuslaw12_within.f (c : Int) 4 := by
    rw [ec, within_val ⟨by omega, by omega⟩ (by decide) (by decide), Int.emod_eq_of_lt (by omega) hc]
  refine ⟨20 + 100, ?_⟩
  unfold thyrsuslaw12_RunFirst.f
  rw [known_f, Option.bind_some, if_pos rfl, ep, Option.bind_some, eq, Option.bind_some]
  refine ((first_congr e4 120).1 _ _ _ _ _ _ _ _ _ _ _ _).trans ?_
  exact first_all ⟨p, by omega⟩ ⟨q, by omega⟩ ⟨c, by omega⟩
end Go.Proofs.Ytnecmclnokikoaa.Pure
