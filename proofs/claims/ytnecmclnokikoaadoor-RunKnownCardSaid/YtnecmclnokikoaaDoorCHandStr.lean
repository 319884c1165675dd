/- Go's library: strconv.Itoa (its table stands: TabP), in the print's form. -/
import Derived.Test.YtnecmclnokikoaaDoorCPx0
import Derived.Test.YtnecmclnokikoaaDoorCShelf
namespace Go.Proofs.YtnecmclnokikoaaDoor.P
open Go.RowKit Go.Proofs.YtnecmclnokikoaaDoorW.PrintWords Go.Proofs.YtnecmclnokikoaaDoorW.PrintLast Go.Proofs.YtnecmclnokikoaaDoorW.PrintMore
set_option linter.unusedVariables false
theorem szA1 (a : UInt8) : (⟨#[a]⟩ : ByteArray).size = 1 := rfl
theorem szA2 (a b : UInt8) : (⟨#[a, b]⟩ : ByteArray).size = 2 := rfl
/-- strconv's table of powers of ten holds what it was laid with. -/
def TabP (w : World) : Prop := Lib.TabIs Tryd.prog w "internal/strconv.uint64pow10" .u64 Lib.pow10Tab
theorem TabP.below {w w' : World} (h : TabP w) (hb : Below w.heap.size w w') : TabP w' := by
  obtain ⟨g, hg⟩ : ∃ g, Tryd.prog.globalNamed "internal/strconv.uint64pow10" = some g := by
    unfold TabP Lib.TabIs World.var? at h
    cases hg : Tryd.prog.globalNamed "internal/strconv.uint64pow10" with
    | none => rw [hg] at h; cases h
    | some g => exact ⟨g, rfl⟩
  unfold TabP Lib.TabIs World.var? at h ⊢
  rw [hg, Option.bind_some] at h ⊢
  have hlt : g < w.heap.size := Decidable.byContradiction fun hn => by
    rw [Array.getElem?_eq_none (Nat.le_of_not_lt hn)] at h
    cases h
  rw [hb.block g hlt]
  exact h
def strconv_Itoa.f (a0 : Int) : Option ByteArray := if -9223372036854775808 ≤ a0 ∧ a0 ≤ 9223372036854775807 then some ⟨(Lib.itoa a0).toArray⟩ else none
theorem strconv_Itoa.calls (a0 : Int) (r : ByteArray) (w : World) (hT : TabP w) (h : strconv_Itoa.f a0 = some r) :
    Calls Tryd.prog 33 #[.int .i64 a0] w fun e w' => e = .returned (.string r) ∧ Below w.heap.size w w' := by
  unfold strconv_Itoa.f at h
  by_cases h1 : -9223372036854775808 ≤ a0 ∧ a0 ≤ 9223372036854775807
  · rw [if_pos h1] at h
    cases Option.some.inj h
    refine (Tryd.strconv_Itoa a0 h1.1 h1.2 w hT).mono ?_
    rintro e w' ⟨rfl, k, os, rfl⟩
    exact ⟨rfl, rfl, rfl, rfl, (by show w.heap.size ≤ (w.heap ++ os).size; rw [Array.size_append]; omega), fun j hj => (show (w.heap ++ os)[j]? = w.heap[j]? from Array.getElem?_append_left hj)⟩
  · rw [if_neg h1] at h
    cases h
end Go.Proofs.YtnecmclnokikoaaDoor.P
