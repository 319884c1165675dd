/- LexKnown, the plain law: these texts' tokens are just these, or none, with their place. No conditions but that the number is a whole number of 64 bits. -/
import Derived.Test.YtleepjnpnbkgdaaKnoC
import Derived.Test.YtleepjnpnbkgdaaPureE
namespace Go.Proofs.Ytleepjnpnbkgdaa.Pure
open Go.RowKit Go.Proofs.Ytleepjnpnbkgdaa.P Go.Proofs.YtleepjnpnbkgdaaW.PrintWords Go.Proofs.YtleepjnpnbkgdaaW.PrintLast Go.Proofs.Ytleepjnpnbkgdaa.Lex
set_option maxRecDepth 10000 in
theorem LexKnown : thyrsuslaw2_LexKnown.Pure := by
  intro a0 w0
  have w0 := i64_of w0
  refine ⟨40, ?_⟩
  unfold thyrsuslaw2_LexKnown.f
  rw [known_f, Option.bind_some, if_pos rfl, Option.bind_some, Option.bind_some, Option.bind_some]
  obtain ⟨t, ht, e⟩ := within_ex w0 (n := 17) (by decide) (by decide)
  refine bind_of (a := (t : Int)) e ?_
  have : t = 0 ∨ t = 1 ∨ t = 2 ∨ t = 3 ∨ t = 4 ∨ t = 5 ∨ t = 6 ∨ t = 7 ∨ t = 8 ∨ t = 9 ∨ t = 10 ∨ t = 11 ∨ t = 12 ∨ t = 13 ∨ t = 14 ∨ t = 15 ∨ t = 16 := by omega
  clear e ht
  rcases this with rfl | rfl | rfl | rfl | rfl | rfl | rfl | rfl | rfl | rfl | rfl | rfl | rfl | rfl | rfl | rfl | rfl
  all_goals
    rw [if_pos (by decide), if_pos (by decide)]
    refine bind_of rfl ?_
    repeat (first | rw [if_pos (by decide)] | rw [if_neg (by decide)])
    refine bind_of (same_eq (by rfl) (by decide) (by decide)) ?_
    rfl
end Go.Proofs.Ytleepjnpnbkgdaa.Pure
