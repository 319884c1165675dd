-- Out of the print's words, by prune.py (a program of this session): what is not used is struck. Lean checks it.
import Derived.Test.YtnecmclnokikoaaDoorCWN
/-! ### 52. A row that stays read whatever happens to a block (a set of blocks) doesn't lie there -/
namespace Go.Proofs.YtnecmclnokikoaaDoorW.PrintWords
open Go.RowKit
namespace Kd
section
variable {α : Type} {d : Kd α} {W : World} {g n : Nat} {S ok : Nat → Prop} {A : Option Addr} {ad : Addr} {xs : List α}
end
end Kd
end Go.Proofs.YtnecmclnokikoaaDoorW.PrintWords
