/- Go's library: strconv.Itoa (its table stands: TabP), strings.Join; in the print's form. -/
import Derived.Test.YtkkmgahgejjhgaaDoorCPx0
import Derived.Test.YtkkmgahgejjhgaaDoorCShelf
namespace Go.Proofs.YtkkmgahgejjhgaaDoor.P
open Go.RowKit Go.Proofs.YtkkmgahgejjhgaaDoorW.PrintWords Go.Proofs.YtkkmgahgejjhgaaDoorW.PrintLast Go.Proofs.YtkkmgahgejjhgaaDoorW.PrintMore
set_option linter.unusedVariables false
/-- strconv's table of powers of ten holds what it was laid with. -/
def TabP (w : World) : Prop := Lib.TabIs Tryd.prog w "internal/strconv.uint64pow10" .u64 Lib.pow10Tab
theorem TabP.below {w w' : World} (h : TabP w) (hb : Below w.heap.size w w') : TabP w' := by
  obtain ⟨g, hg⟩ : ∃ g, Tryd.prog.globalNamed "internal/strconv.uint64pow10" = some g := by
    unfold TabP Lib.TabIs World.var? at h
    cases hg : Tryd.prog.globalNamed "internal/strconv.uint64pow10" with
    | none => rw [hg] at h; cases h
    | some g => exact ⟨g, rfl⟩
  unfold TabP Lib.TabIs World.var? at h ⊢
  rw [hg, Option.bind_some] at h ⊢
  have hlt : g < w.heap.size := Decidable.byContradiction fun hn => by
    rw [Array.getElem?_eq_none (Nat.le_of_not_lt hn)] at h
    cases h
  rw [hb.block g hlt]
  exact h
def strconv_Itoa.f (a0 : Int) : Option ByteArray := if -9223372036854775808 ≤ a0 ∧ a0 ≤ 9223372036854775807 then some ⟨(Lib.itoa a0).toArray⟩ else none
theorem strconv_Itoa.calls (a0 : Int) (r : ByteArray) (w : World) (hT : TabP w) (h : strconv_Itoa.f a0 = some r) :
    Calls Tryd.prog 33 #[.int .i64 a0] w fun e w' => e = .returned (.string r) ∧ Below w.heap.size w w' := by
  unfold strconv_Itoa.f at h
  by_cases h1 : -9223372036854775808 ≤ a0 ∧ a0 ≤ 9223372036854775807
  · rw [if_pos h1] at h
    cases Option.some.inj h
    refine (Tryd.strconv_Itoa a0 h1.1 h1.2 w hT).mono ?_
    rintro e w' ⟨rfl, k, os, rfl⟩
    exact ⟨rfl, rfl, rfl, rfl, (by show w.heap.size ≤ (w.heap ++ os).size; rw [Array.size_append]; omega), fun j hj => (show (w.heap ++ os)[j]? = w.heap[j]? from Array.getElem?_append_left hj)⟩
  · rw [if_neg h1] at h
    cases h
def strings_Join.f (l : List ByteArray) (sep : ByteArray) : Option ByteArray :=
  if l.length ≤ 140737488355328 ∧ (Lib.join (l.map (·.data.toList)) sep.data.toList).length ≤ 140737488355328 then some ⟨(Lib.join (l.map (·.data.toList)) sep.data.toList).toArray⟩ else none
theorem strings_Join.calls (A : Option Addr) (c : Nat) (l : List ByteArray) (sep : ByteArray) (r : ByteArray) (w : World) (hr : Kd.C Kd.string w A l.length l) (hc : l.length ≤ c) (h : strings_Join.f l sep = some r) :
    Calls Tryd.prog 34 #[.slice A l.length c, .string sep] w fun e w' => e = .returned (.string r) ∧ Below w.heap.size w w' := by
  unfold strings_Join.f at h
  by_cases h1 : l.length ≤ 140737488355328 ∧ (Lib.join (l.map (·.data.toList)) sep.data.toList).length ≤ 140737488355328
  · rw [if_pos h1] at h
    cases Option.some.inj h
    by_cases hl : l.length = 0
    · have hn : l = [] := List.eq_nil_of_length_eq_zero hl
      subst hn
      refine (Tryd.strings_Join_none A c sep w).mono ?_
      rintro e w' ⟨rfl, rfl⟩
      exact ⟨rfl, Below.refl _ _⟩
    · obtain ⟨⟨bk, o, q⟩, rfl, h0⟩ := Kd.at_string hr 0 (by decide) (by omega)
      have hq : q = none := by
        cases q with
        | none => rfl
        | some s =>
          exfalso
          have h2 : w.cell? ⟨bk, o, some s⟩ = some (.string (rdOf ByteArray.empty l 0)) := h0
          unfold World.cell? at h2
          split at h2
          · simp at h2
          · cases h2
      subst hq
      refine Tryd.strings_Join bk o c l sep w (fun j x hx => ?_) ?_ h1.1 hc h1.2
      · have hj : j < l.length := (List.getElem?_eq_some_iff.mp hx).1
        obtain ⟨ad, he, hj2⟩ := Kd.at_string hr (j : Int) (by omega) (by omega)
        cases he
        have hv : rdOf ByteArray.empty l (j : Int) = x := by
          show l.getD (j : Int).toNat ByteArray.empty = x
          rw [Int.toNat_natCast, List.getD_eq_getElem?_getD, hx]
          rfl
        rw [hv, Int.toNat_natCast] at hj2
        unfold Addr.add at hj2
        by_cases hz : j = 0
        · subst hz
          exact hj2
        · rw [if_neg hz] at hj2
          exact hj2
      · exact World.block_lt_of_cell? w _ h0
  · rw [if_neg h1] at h
    cases h
end Go.Proofs.YtkkmgahgejjhgaaDoor.P
