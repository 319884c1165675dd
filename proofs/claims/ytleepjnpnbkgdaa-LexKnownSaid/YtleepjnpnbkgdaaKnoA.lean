/- LexKnown: what it comes to, and that the code comes to it. Printed by mkprint.py; made shorter by shorten.py. -/
import Derived.Test.YtleepjnpnbkgdaaPx0
import Derived.Test.YtleepjnpnbkgdaaPx1
import Derived.Test.YtleepjnpnbkgdaaPx2
import Derived.Test.YtleepjnpnbkgdaaPx7
import Derived.Test.YtleepjnpnbkgdaaHandT
namespace Go.Proofs.Ytleepjnpnbkgdaa.P
open Go.RowKit Go.Proofs.YtleepjnpnbkgdaaW.PrintWords Go.Proofs.YtleepjnpnbkgdaaW.PrintLast Go.Proofs.YtleepjnpnbkgdaaW.PrintMore
attribute [local go_sem] max2_int min2_int max_two min_two max_three min_three max_four min_four   -- for this text's walks alone
set_option linter.unusedVariables false
set_option linter.unusedSimpArgs false

attribute [local go_sem high] eqA29
/-! ### thyrsuslaw2_LexKnown: function 6 -/
def thyrsuslaw2_LexKnown.f (k : Nat) (a0 : Int) : Option (Bool) := (thyrsuslaw2_known.f).bind fun t109 => (if t109 = true then ((some (([(⟨#[]⟩ : ByteArray), (⟨#[32, 59, 32, 40]⟩ : ByteArray), (⟨#[45, 62, 45, 49]⟩ : ByteArray), (⟨#[97, 45, 62, 98]⟩ : ByteArray), (⟨#[49, 50, 97, 98]⟩ : ByteArray), (⟨#[45]⟩ : ByteArray), (⟨#[45, 32, 49]⟩ : ByteArray), (⟨#[97, 39, 98, 95, 57]⟩ : ByteArray), (⟨#[42, 97, 42]⟩ : ByteArray), (⟨#[40, 41]⟩ : ByteArray), (⟨#[33]⟩ : ByteArray), (⟨#[97, 32, 63]⟩ : ByteArray), (⟨#[45, 48]⟩ : ByteArray), (⟨#[48, 48, 55]⟩ : ByteArray), (⟨#[45, 45, 49]⟩ : ByteArray), (⟨#[40, 59, 41, 10, 41]⟩ : ByteArray), (⟨#[45, 62, 45, 62]⟩ : ByteArray)] : List ByteArray) : List ByteArray)).bind fun y110 => ((some (([[], [], (([(⟨3, 0, 0, (⟨#[45, 62]⟩ : ByteArray)⟩ : S29), (⟨4, (-1), 2, (⟨#[]⟩ : ByteArray)⟩ : S29)] : List (S29))), (([(⟨3, 0, 0, (⟨#[97]⟩ : ByteArray)⟩ : S29), (⟨3, 0, 1, (⟨#[45, 62]⟩ : ByteArray)⟩ : S29), (⟨3, 0, 3, (⟨#[98]⟩ : ByteArray)⟩ : S29)] : List (S29))), (([(⟨4, 12, 0, (⟨#[]⟩ : ByteArray)⟩ : S29), (⟨3, 0, 2, (⟨#[97, 98]⟩ : ByteArray)⟩ : S29)] : List (S29))), [], [], (([(⟨3, 0, 0, (⟨#[97, 39, 98, 95, 57]⟩ : ByteArray)⟩ : S29)] : List (S29))), (([(⟨3, 0, 0, (⟨#[42]⟩ : ByteArray)⟩ : S29), (⟨3, 0, 1, (⟨#[97]⟩ : ByteArray)⟩ : S29), (⟨3, 0, 2, (⟨#[42]⟩ : ByteArray)⟩ : S29)] : List (S29))), (([(⟨1, 0, 0, (⟨#[]⟩ : ByteArray)⟩ : S29), (⟨2, 0, 1, (⟨#[]⟩ : ByteArray)⟩ : S29)] : List (S29))), [], [], (([(⟨4, 0, 0, (⟨#[]⟩ : ByteArray)⟩ : S29)] : List (S29))), (([(⟨4, 7, 0, (⟨#[]⟩ : ByteArray)⟩ : S29)] : List (S29))), [], (([(⟨1, 0, 0, (⟨#[]⟩ : ByteArray)⟩ : S29), (⟨2, 0, 4, (⟨#[]⟩ : ByteArray)⟩ : S29)] : List (S29))), (([(⟨3, 0, 0, (⟨#[45, 62]⟩ : ByteArray)⟩ : S29), (⟨3, 0, 2, (⟨#[45, 62]⟩ : ByteArray)⟩ : S29)] : List (S29)))] : List (List (S29))) : List (List (S29)))).bind fun y143 => ((some (([0, 0, 0, 0, 0, 0, 0, 0, 0, 0, 0, 2, 0, 0, 0, 0, 0] : List Int) : List Int)).bind fun y146 => ((thyrsuslaw2_within.f a0 (y110.length : Int)).bind fun t149 => (if 0 ≤ t149 then (if t149 < (y110.length : Int) then ((lex_Tokens.f (rdOf ByteArray.empty y110 t149)).bind fun bt151 => (if t149 = 5 then (if t149 < (y143.length : Int) then ((thyrsuslaw2_same.f k bt151.1 (rd_L3 y143 t149)).bind fun t157 => (if t157 = true then (if t149 < (y146.length : Int) then (if bt151.2.1 = (rd y146 t149) then (if ((bt151.2.2 == 6) == true) = true then (some ((bt151.2.2 == 0) == (!true))) else (none)) else (none)) else (none)) else (none))) else (none)) else (if t149 = 6 then (if t149 < (y143.length : Int) then ((thyrsuslaw2_same.f k bt151.1 (rd_L3 y143 t149)).bind fun t160 => (if t160 = true then (if t149 < (y146.length : Int) then (if bt151.2.1 = (rd y146 t149) then (if ((bt151.2.2 == 6) == true) = true then (some ((bt151.2.2 == 0) == (!true))) else (none)) else (none)) else (none)) else (none))) else (none)) else (if t149 = 10 then (if t149 < (y143.length : Int) then ((thyrsuslaw2_same.f k bt151.1 (rd_L3 y143 t149)).bind fun t163 => (if t163 = true then (if t149 < (y146.length : Int) then (if bt151.2.1 = (rd y146 t149) then (if ((bt151.2.2 == 6) == true) = true then (some ((bt151.2.2 == 0) == (!true))) else (none)) else (none)) else (none)) else (none))) else (none)) else (if t149 = 11 then (if t149 < (y143.length : Int) then ((thyrsuslaw2_same.f k bt151.1 (rd_L3 y143 t149)).bind fun t166 => (if t166 = true then (if t149 < (y146.length : Int) then (if bt151.2.1 = (rd y146 t149) then (if ((bt151.2.2 == 6) == true) = true then (some ((bt151.2.2 == 0) == (!true))) else (none)) else (none)) else (none)) else (none))) else (none)) else (if t149 < (y143.length : Int) then ((thyrsuslaw2_same.f k bt151.1 (rd_L3 y143 t149)).bind fun t169 => (if t169 = true then (if t149 < (y146.length : Int) then (if bt151.2.1 = (rd y146 t149) then (if ((bt151.2.2 == 6) == (t149 == 14)) = true then (some ((bt151.2.2 == 0) == (!(t149 == 14)))) else (none)) else (none)) else (none)) else (none))) else (none))))))) else (none)) else (none)))))) else (none))
theorem thyrsuslaw2_LexKnown.mono : ∀ a0 k, LeO (thyrsuslaw2_LexKnown.f k a0) (thyrsuslaw2_LexKnown.f (k + 1) a0) := by
  intro a0 k
  unfold thyrsuslaw2_LexKnown.f
  repeat' first
      | (with_reducible exact thyrsuslaw2_same.mono _ _ _)
      | (with_reducible exact LeO.refl _)
      | (with_reducible exact LeO.none _)
      | (with_reducible refine LeO.ite ?_ ?_)
      | (with_reducible refine LeO.bind ?_ (fun _ => ?_))
      | exact thyrsuslaw2_same.mono _ _ _
      | exact LeO.none _
      | refine LeO.ite ?_ ?_
      | refine LeO.bind ?_ (fun _ => ?_)
end Go.Proofs.Ytleepjnpnbkgdaa.P
