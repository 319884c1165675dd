/-
  NARROWER THAN 'FOR EVERY INPUT', by the rows' own cells (each row's printed sentence says how): RunFuel: loops · RunWorth: loops.
  DERIVED. THE GIVEN ROWS OF THIS SEAT. 6 by the template 'for every input the law returns true; each argument reads behind the call as it read before'; 0 by the template 'total and deterministic' (their statements: YtnecmclnokikoaaTotals.lean).
  GIVEN WITH THE SEED: the statements are not yours to turn. If you find one false, say at which input.
  Laid BY PROGRAM, IN A SANDBOX (cutbox-rows.mjs): the forced cells as the released guide's own fill.sh prints them over the translation 68546a83979efe04… (all of the seat's roots in one cut). By AI agents, Wed Nov 11 2026. No macro, syntax, notation, axiom, sorry.
-/
import Derived.Test.YtnecmclnokikoaaChecked
import GoSem.Claim
import GoSem.ClaimJoined
import GoSem.ClaimMapViews
import Derived.JoinedTies
import Derived.KernelRfl
namespace Go.Proofs.Ytnecmclnokikoaa
/- THE CELL 'sum', in the pinned program and in every row, IS THE sha256 OF THE DUMP (.gsa) THAT YtnecmclnokikoaaProg.lean LOADS. Nothing in Lean hashes anything: it is a label: what it is worth is what the hold of that sum in a sandbox is worth. -/
noncomputable def Try.pinned : Pinned := { name := "ytnecmclnokikoaa", sum := "68546a83979efe04f97925004d64db298665e5d7b910c54b5c5a1fe945a023c2", checked := Try.checked }
namespace Rows
def none {H : Type} : Left H := { results := [], args := [] }

/-- 'thyrsuslaw12.RunFuel': WHATEVER THE INPUT: true; the input reads as it did. -/
def runFuelSpec : ChangeSpec := { name := "runFuel", fn := fun _ => fun
  | [d1, d2, d3] => { results := [.lit (.bool true)], args := [d1, d2, d3] }
  | _ => none }
def runFuelRow : OpenClaim := { program := "ytnecmclnokikoaa", sum := "68546a83979efe04f97925004d64db298665e5d7b910c54b5c5a1fe945a023c2", func := "thyrsus/thyrsuslaw12.RunFuel", spec := "runFuel", unfollowed := true, recurses := true, loops := true, apart := false }
def RunFuelSaid : Prop := runFuelRow.holds Try.pinned (OpenSpec.ofChange runFuelSpec)

/-- ITS FALSE NEIGHBOUR: 'it returns false'. Refute it at one input. -/
def runFuelWrong : ChangeSpec := { name := "runFuel", fn := fun _ => fun
  | [d1, d2, d3] => { results := [.lit (.bool false)], args := [d1, d2, d3] }
  | _ => none }
def RunFuelWrongFalsely : Prop := runFuelRow.holds Try.pinned (OpenSpec.ofChange runFuelWrong)

/-- 'thyrsuslaw12.RunPrims': WHATEVER THE INPUT: true; the input reads as it did. -/
def runPrimsSpec : ChangeSpec := { name := "runPrims", fn := fun _ => fun
  | [d1, d2, d3] => { results := [.lit (.bool true)], args := [d1, d2, d3] }
  | _ => none }
def runPrimsRow : OpenClaim := { program := "ytnecmclnokikoaa", sum := "68546a83979efe04f97925004d64db298665e5d7b910c54b5c5a1fe945a023c2", func := "thyrsus/thyrsuslaw12.RunPrims", spec := "runPrims", unfollowed := true, recurses := true, apart := false }
def RunPrimsSaid : Prop := runPrimsRow.holds Try.pinned (OpenSpec.ofChange runPrimsSpec)

/-- ITS FALSE NEIGHBOUR: 'it returns false'. Refute it at one input. -/
def runPrimsWrong : ChangeSpec := { name := "runPrims", fn := fun _ => fun
  | [d1, d2, d3] => { results := [.lit (.bool false)], args := [d1, d2, d3] }
  | _ => none }
def RunPrimsWrongFalsely : Prop := runPrimsRow.holds Try.pinned (OpenSpec.ofChange runPrimsWrong)

/-- 'thyrsuslaw12.RunDeep': WHATEVER THE INPUT: true; the input reads as it did. -/
def runDeepSpec : ChangeSpec := { name := "runDeep", fn := fun _ => fun
  | [d1, d2] => { results := [.lit (.bool true)], args := [d1, d2] }
  | _ => none }
def runDeepRow : OpenClaim := { program := "ytnecmclnokikoaa", sum := "68546a83979efe04f97925004d64db298665e5d7b910c54b5c5a1fe945a023c2", func := "thyrsus/thyrsuslaw12.RunDeep", spec := "runDeep", unfollowed := true, recurses := true, apart := false }
def RunDeepSaid : Prop := runDeepRow.holds Try.pinned (OpenSpec.ofChange runDeepSpec)

/-- ITS FALSE NEIGHBOUR: 'it returns false'. Refute it at one input. -/
def runDeepWrong : ChangeSpec := { name := "runDeep", fn := fun _ => fun
  | [d1, d2] => { results := [.lit (.bool false)], args := [d1, d2] }
  | _ => none }
def RunDeepWrongFalsely : Prop := runDeepRow.holds Try.pinned (OpenSpec.ofChange runDeepWrong)

/-- 'thyrsuslaw12.RunFirst': WHATEVER THE INPUT: true; the input reads as it did. -/
def runFirstSpec : ChangeSpec := { name := "runFirst", fn := fun _ => fun
  | [d1, d2, d3] => { results := [.lit (.bool true)], args := [d1, d2, d3] }
  | _ => none }
def runFirstRow : OpenClaim := { program := "ytnecmclnokikoaa", sum := "68546a83979efe04f97925004d64db298665e5d7b910c54b5c5a1fe945a023c2", func := "thyrsus/thyrsuslaw12.RunFirst", spec := "runFirst", unfollowed := true, recurses := true, apart := false }
def RunFirstSaid : Prop := runFirstRow.holds Try.pinned (OpenSpec.ofChange runFirstSpec)

/-- ITS FALSE NEIGHBOUR: 'it returns false'. Refute it at one input. -/
def runFirstWrong : ChangeSpec := { name := "runFirst", fn := fun _ => fun
  | [d1, d2, d3] => { results := [.lit (.bool false)], args := [d1, d2, d3] }
  | _ => none }
def RunFirstWrongFalsely : Prop := runFirstRow.holds Try.pinned (OpenSpec.ofChange runFirstWrong)

/-- 'thyrsuslaw12.RunClosed': WHATEVER THE INPUT: true; the input reads as it did. -/
def runClosedSpec : ChangeSpec := { name := "runClosed", fn := fun _ => fun
  | [d1, d2, d3] => { results := [.lit (.bool true)], args := [d1, d2, d3] }
  | _ => none }
def runClosedRow : OpenClaim := { program := "ytnecmclnokikoaa", sum := "68546a83979efe04f97925004d64db298665e5d7b910c54b5c5a1fe945a023c2", func := "thyrsus/thyrsuslaw12.RunClosed", spec := "runClosed", unfollowed := true, recurses := true, apart := false }
def RunClosedSaid : Prop := runClosedRow.holds Try.pinned (OpenSpec.ofChange runClosedSpec)

/-- ITS FALSE NEIGHBOUR: 'it returns false'. Refute it at one input. -/
def runClosedWrong : ChangeSpec := { name := "runClosed", fn := fun _ => fun
  | [d1, d2, d3] => { results := [.lit (.bool false)], args := [d1, d2, d3] }
  | _ => none }
def RunClosedWrongFalsely : Prop := runClosedRow.holds Try.pinned (OpenSpec.ofChange runClosedWrong)

/-- 'thyrsuslaw12.RunWorth': WHATEVER THE INPUT: true; the input reads as it did. -/
def runWorthSpec : ChangeSpec := { name := "runWorth", fn := fun _ => fun
  | [d1, d2, d3] => { results := [.lit (.bool true)], args := [d1, d2, d3] }
  | _ => none }
def runWorthRow : OpenClaim := { program := "ytnecmclnokikoaa", sum := "68546a83979efe04f97925004d64db298665e5d7b910c54b5c5a1fe945a023c2", func := "thyrsus/thyrsuslaw12.RunWorth", spec := "runWorth", unfollowed := true, recurses := true, loops := true, apart := false }
def RunWorthSaid : Prop := runWorthRow.holds Try.pinned (OpenSpec.ofChange runWorthSpec)

/-- ITS FALSE NEIGHBOUR: 'it returns false'. Refute it at one input. -/
def runWorthWrong : ChangeSpec := { name := "runWorth", fn := fun _ => fun
  | [d1, d2, d3] => { results := [.lit (.bool false)], args := [d1, d2, d3] }
  | _ => none }
def RunWorthWrongFalsely : Prop := runWorthRow.holds Try.pinned (OpenSpec.ofChange runWorthWrong)

/- THE SECOND FORM. 'bulk': how many values and letters a reading holds, each counted each time it is reached (what is shared counts as often as it is met; a slice's spare places count too). A statement '..UptoSaid' is the law's where the arguments, and the package variables that the reading takes, are together of bulk at most 1048576: NARROWER than '..Said'. Prove '..Said' where nothing that the law and all that it calls make is longer than what came in: it says more and counts as full. Else prove '..UptoSaid'. A law counts once. -/
mutual
def uptoBulk {H : Type} : DataW H → Nat
  | .lit (.string bytes) => bytes.length + 1
  | .lit _ => 1
  | .nil => 1
  | .ptr d => uptoBulk d + 1
  | .slice elems spare => uptoBulkAll elems + uptoBulkAll spare + 1
  | .agg parts => uptoBulkAll parts + 1
  | .iface _ d => uptoBulk d + 1
  | .map entries => uptoBulkEntries entries + 1
  | .held _ => 1
def uptoBulkAll {H : Type} : List (DataW H) → Nat
  | [] => 0
  | d :: r => uptoBulk d + uptoBulkAll r
def uptoBulkEntries {H : Type} : List (Lit × DataW H) → Nat
  | [] => 0
  | x :: r => uptoBulkEntry x + uptoBulkEntries r
def uptoBulkEntry {H : Type} : Lit × DataW H → Nat
  | (.string bytes, d) => bytes.length + uptoBulk d + 1
  | (_, d) => uptoBulk d + 1
 end
def uptoSmall : (H : Type) → List (DataW H) → Bool := fun _ ds => decide (uptoBulkAll ds ≤ 1048576)
def OpenSpec.upto (s : _root_.Go.ChangeSpec) : _root_.Go.OpenSpec := { _root_.Go.OpenSpec.ofChange s with cond := some uptoSmall }

/-- 'thyrsuslaw12.RunFuel', WHERE WHAT IT READS IS OF BULK AT MOST 1048576: true; the input reads as it did. -/
def runFuelUptoRow : OpenClaim := { program := "ytnecmclnokikoaa", sum := "68546a83979efe04f97925004d64db298665e5d7b910c54b5c5a1fe945a023c2", func := "thyrsus/thyrsuslaw12.RunFuel", spec := "runFuel", unfollowed := true, recurses := true, loops := true, apart := false, narrowed := true }
def RunFuelUptoSaid : Prop := runFuelUptoRow.holds Try.pinned (OpenSpec.upto runFuelSpec)

/-- 'thyrsuslaw12.RunPrims', WHERE WHAT IT READS IS OF BULK AT MOST 1048576: true; the input reads as it did. -/
def runPrimsUptoRow : OpenClaim := { program := "ytnecmclnokikoaa", sum := "68546a83979efe04f97925004d64db298665e5d7b910c54b5c5a1fe945a023c2", func := "thyrsus/thyrsuslaw12.RunPrims", spec := "runPrims", unfollowed := true, recurses := true, apart := false, narrowed := true }
def RunPrimsUptoSaid : Prop := runPrimsUptoRow.holds Try.pinned (OpenSpec.upto runPrimsSpec)

/-- 'thyrsuslaw12.RunDeep', WHERE WHAT IT READS IS OF BULK AT MOST 1048576: true; the input reads as it did. -/
def runDeepUptoRow : OpenClaim := { program := "ytnecmclnokikoaa", sum := "68546a83979efe04f97925004d64db298665e5d7b910c54b5c5a1fe945a023c2", func := "thyrsus/thyrsuslaw12.RunDeep", spec := "runDeep", unfollowed := true, recurses := true, apart := false, narrowed := true }
def RunDeepUptoSaid : Prop := runDeepUptoRow.holds Try.pinned (OpenSpec.upto runDeepSpec)

/-- 'thyrsuslaw12.RunFirst', WHERE WHAT IT READS IS OF BULK AT MOST 1048576: true; the input reads as it did. -/
def runFirstUptoRow : OpenClaim := { program := "ytnecmclnokikoaa", sum := "68546a83979efe04f97925004d64db298665e5d7b910c54b5c5a1fe945a023c2", func := "thyrsus/thyrsuslaw12.RunFirst", spec := "runFirst", unfollowed := true, recurses := true, apart := false, narrowed := true }
def RunFirstUptoSaid : Prop := runFirstUptoRow.holds Try.pinned (OpenSpec.upto runFirstSpec)

/-- 'thyrsuslaw12.RunClosed', WHERE WHAT IT READS IS OF BULK AT MOST 1048576: true; the input reads as it did. -/
def runClosedUptoRow : OpenClaim := { program := "ytnecmclnokikoaa", sum := "68546a83979efe04f97925004d64db298665e5d7b910c54b5c5a1fe945a023c2", func := "thyrsus/thyrsuslaw12.RunClosed", spec := "runClosed", unfollowed := true, recurses := true, apart := false, narrowed := true }
def RunClosedUptoSaid : Prop := runClosedUptoRow.holds Try.pinned (OpenSpec.upto runClosedSpec)

/-- 'thyrsuslaw12.RunWorth', WHERE WHAT IT READS IS OF BULK AT MOST 1048576: true; the input reads as it did. -/
def runWorthUptoRow : OpenClaim := { program := "ytnecmclnokikoaa", sum := "68546a83979efe04f97925004d64db298665e5d7b910c54b5c5a1fe945a023c2", func := "thyrsus/thyrsuslaw12.RunWorth", spec := "runWorth", unfollowed := true, recurses := true, loops := true, apart := false, narrowed := true }
def RunWorthUptoSaid : Prop := runWorthUptoRow.holds Try.pinned (OpenSpec.upto runWorthSpec)

end Rows
end Go.Proofs.Ytnecmclnokikoaa
