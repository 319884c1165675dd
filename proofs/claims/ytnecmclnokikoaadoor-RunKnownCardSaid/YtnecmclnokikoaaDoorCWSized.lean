-- Out of the print's words, by prune.py (a program of this session): what is not used is struck. Lean checks it.
-- PRINTED WORDS (module Derived/Print/Sized.lean): go-gate-2's, for the rows of laws over slices: an AI agent of Go's test side, Tue Nov 17 2026; no person has read it. Lean checks it.
import Derived.SizedLaws
import Derived.ChangeSlices
namespace Go.Proofs.YtnecmclnokikoaaDoorW.PrintWords
open Go.ChangeShapes Go.WideShapes
end Go.Proofs.YtnecmclnokikoaaDoorW.PrintWords
