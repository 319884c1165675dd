/- Package term: Binders, in the print's form. -/
import Derived.Test.YtcchfblekaaalaaDoorCHandX
namespace Go.Proofs.YtcchfblekaaalaaDoor.P
open Go.RowKit Go.Proofs.YtcchfblekaaalaaDoorW.PrintWords Go.Proofs.YtcchfblekaaalaaDoorW.PrintLast Go.Proofs.YtcchfblekaaalaaDoorW.PrintMore
set_option linter.unusedVariables false
set_option linter.unusedSimpArgs false
/-- How many binders stand ahead of an Op's kid. -/
def bnd (o i : Int) : Int :=
  if o = 3 ∨ o = 4 ∨ o = 6 ∨ o = 20 ∨ o = 28 ∨ o = 29 then (if i = 1 then 1 else 0)
  else if o = 13 then (if i = 0 then 1 else if i = 2 then 2 else 0) else 0
theorem bnd_f (o i : Int) : term_op_binders.f 1 o i = some (bnd o i) := by
  unfold term_op_binders.f term_op_binders.j0 bnd
  by_cases h3 : o = 3
  · subst h3; by_cases h : i = 1 <;> simp [h]
  by_cases h4 : o = 4
  · subst h4; by_cases h : i = 1 <;> simp [h]
  by_cases h6 : o = 6
  · subst h6; by_cases h : i = 1 <;> simp [h]
  by_cases h20 : o = 20
  · subst h20; by_cases h : i = 1 <;> simp [h]
  by_cases h28 : o = 28
  · subst h28; by_cases h : i = 1 <;> simp [h]
  by_cases h29 : o = 29
  · subst h29; by_cases h : i = 1 <;> simp [h]
  simp only [h3, h4, h6, h20, h28, h29, or_self, if_false]
  by_cases h13 : o = 13
  · subst h13
    by_cases h : i = 0
    · simp [h]
    · by_cases h2 : i = 2 <;> simp [h, h2]
  · simp [h13, h29]
theorem bnd_range (o i : Int) : 0 ≤ bnd o i ∧ bnd o i ≤ 2 := by
  unfold bnd
  split
  · split <;> omega
  · split
    · split
      · omega
      · split <;> omega
    · omega
def term_Binders.f (a0 a1 : Int) : Option Int := some (bnd a0 a1)
theorem binders53 (a0 a1 : Int) (w : World) : Calls Tryd.prog 53 #[.int .i64 a0, .int .i64 a1] w fun e w' => e = .returned (.int .i64 (bnd a0 a1)) ∧ w' = w := term_op_binders.calls 1 a0 a1 _ w (bnd_f a0 a1)
theorem binders26 (a0 a1 : Int) (w : World) : Calls Tryd.prog 26 #[.int .i64 a0, .int .i64 a1] w fun e w' => e = .returned (.int .i64 (bnd a0 a1)) ∧ w' = w := by
  go_enter Tryd.func26, Tryd.ntmps26
  go_wp2_with (first | (go_at_call 53; refine (binders53 _ _ _).mono ?_; rintro e w1 ⟨rfl, rfl⟩))
  go_ret
  exact ⟨rfl, rfl⟩
theorem term_Binders.calls (a0 a1 r : Int) (w : World) (h : term_Binders.f a0 a1 = some r) :
    Calls Tryd.prog 26 #[.int .i64 a0, .int .i64 a1] w fun e w' => e = .returned (.int .i64 r) ∧ Drawn0 w w' := by
  cases Option.some.inj h
  exact (binders26 a0 a1 w).mono fun e w' ⟨h1, h2⟩ => ⟨h1, by subst h2; exact Drawn0.refl _⟩
end Go.Proofs.YtcchfblekaaalaaDoor.P
