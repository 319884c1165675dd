/- Go's library: strconv.Itoa of small numbers, strings.Join; in the print's form. -/
import Derived.Test.YtcchfblekaaalaaDoorCPx0
import Derived.Test.YtcchfblekaaalaaDoorCShelf
namespace Go.Proofs.YtcchfblekaaalaaDoor.P
open Go.RowKit Go.Proofs.YtcchfblekaaalaaDoorW.PrintWords Go.Proofs.YtcchfblekaaalaaDoorW.PrintLast Go.Proofs.YtcchfblekaaalaaDoorW.PrintMore
set_option linter.unusedVariables false
/-- The digits of a small number. -/
def two (n : Nat) : List UInt8 := if n < 10 then [UInt8.ofNat (48 + n)] else [UInt8.ofNat (48 + n / 10), UInt8.ofNat (48 + n % 10)]
theorem two_dec (n : Nat) (h : n < 100) : Lib.decDigits n = two n := by
  unfold two
  rw [Lib.decDigits]
  by_cases h1 : n < 10
  · rw [dif_pos h1, if_pos h1]
  · rw [dif_neg h1, if_neg h1, Lib.decDigits, dif_pos (by omega)]
    rfl
def strconv_Itoa.f (a0 : Int) : Option ByteArray := if 0 ≤ a0 ∧ a0 < 100 then some ⟨(two a0.toNat).toArray⟩ else none
theorem strconv_Itoa.calls (a0 : Int) (r : ByteArray) (w : World) (h : strconv_Itoa.f a0 = some r) :
    Calls Tryd.prog 60 #[.int .i64 a0] w fun e w' => e = .returned (.string r) ∧ Below w.heap.size w w' := by
  unfold strconv_Itoa.f at h
  by_cases h1 : 0 ≤ a0 ∧ a0 < 100
  · rw [if_pos h1] at h
    cases Option.some.inj h
    obtain ⟨n, rfl⟩ : ∃ n : Nat, a0 = n := ⟨a0.toNat, by omega⟩
    refine (Tryd.strconv_Itoa_small n (by omega) w).mono ?_
    rintro e w' ⟨rfl, rfl⟩
    rw [two_dec n (by omega)]
    exact ⟨rfl, Below.refl _ _⟩
  · rw [if_neg h1] at h
    cases h
def strings_Join.f (l : List ByteArray) (sep : ByteArray) : Option ByteArray :=
  if l.length ≤ 140737488355328 ∧ (Lib.join (l.map (·.data.toList)) sep.data.toList).length ≤ 140737488355328 then some ⟨(Lib.join (l.map (·.data.toList)) sep.data.toList).toArray⟩ else none
theorem strings_Join.calls (A : Option Addr) (c : Nat) (l : List ByteArray) (sep : ByteArray) (r : ByteArray) (w : World) (hr : Kd.C Kd.string w A l.length l) (hc : l.length ≤ c) (h : strings_Join.f l sep = some r) :
    Calls Tryd.prog 46 #[.slice A l.length c, .string sep] w fun e w' => e = .returned (.string r) ∧ Below w.heap.size w w' := by
  unfold strings_Join.f at h
  by_cases h1 : l.length ≤ 140737488355328 ∧ (Lib.join (l.map (·.data.toList)) sep.data.toList).length ≤ 140737488355328
  · rw [if_pos h1] at h
    cases Option.some.inj h
    by_cases hl : l.length = 0
    · have hn : l = [] := List.eq_nil_of_length_eq_zero hl
      subst hn
      refine (Tryd.strings_Join_none A c sep w).mono ?_
      rintro e w' ⟨rfl, rfl⟩
      exact ⟨rfl, Below.refl _ _⟩
    · obtain ⟨⟨bk, o, q⟩, rfl, h0⟩ := Kd.at_string hr 0 (by decide) (by omega)
      have hq : q = none := by
        cases q with
        | none => rfl
        | some s =>
          exfalso
          have h2 : w.cell? ⟨bk, o, some s⟩ = some (.string (rdOf ByteArray.empty l 0)) := h0
          unfold World.cell? at h2
          split at h2
          · simp at h2
          · cases h2
      subst hq
      refine Tryd.strings_Join bk o c l sep w (fun j x hx => ?_) ?_ h1.1 hc h1.2
      · have hj : j < l.length := (List.getElem?_eq_some_iff.mp hx).1
        obtain ⟨ad, he, hj2⟩ := Kd.at_string hr (j : Int) (by omega) (by omega)
        cases he
        have hv : rdOf ByteArray.empty l (j : Int) = x := by
          show l.getD (j : Int).toNat ByteArray.empty = x
          rw [Int.toNat_natCast, List.getD_eq_getElem?_getD, hx]
          rfl
        rw [hv, Int.toNat_natCast] at hj2
        unfold Addr.add at hj2
        by_cases hz : j = 0
        · subst hz
          exact hj2
        · rw [if_neg hz] at hj2
          exact hj2
      · exact World.block_lt_of_cell? w _ h0
  · rw [if_neg h1] at h
    cases h
end Go.Proofs.YtcchfblekaaalaaDoor.P
