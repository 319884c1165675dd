/- The bytes of a term: plain facts. -/
import Derived.Test.YtfbjdfgadhlhlaaRead
namespace Go.Proofs.Ytfbjdfgadhlhlaa.P
open Go.RowKit Go.Proofs.YtfbjdfgadhlhlaaW.PrintWords Go.Proofs.YtfbjdfgadhlhlaaW.PrintLast Go.Proofs.YtfbjdfgadhlhlaaW.PrintMore
set_option linter.unusedVariables false
set_option linter.unusedSimpArgs false

theorem wrap_u64 {x : Int} (h0 : 0 ≤ x) (h1 : x < 18446744073709551616) : IntKind.u64.wrap x = x := by
  have : IntKind.u64.wrap x = x % 18446744073709551616 := by
    simp [IntKind.wrap, IntKind.bits, IntKind.signed]
  rw [this]
  omega
theorem encN_shr (b : Int) (i : Nat) (hi : i < 8) : (IntKind.u64.wrap b / 2 ^ (8 * (i : Int)).toNat) % 256 = encN b i := by
  unfold encN
  rw [show (8 * (i : Int)).toNat = 8 * i by omega]
theorem rd_head {a b : Int} {l : List S29} {i : Nat} (hi : i < 8) : rd (enc ⟨a, b, l⟩) (1 + (i : Int)) = encN b i := by
  rw [enc_cons]
  have : i = 0 ∨ i = 1 ∨ i = 2 ∨ i = 3 ∨ i = 4 ∨ i = 5 ∨ i = 6 ∨ i = 7 := by omega
  rcases this with rfl | rfl | rfl | rfl | rfl | rfl | rfl | rfl <;> rfl
theorem rd_head' {t : S29} {i : Nat} (hi : i < 8) : rd (enc t) (1 + (i : Int)) = encN t.f1 i := by
  cases t
  exact rd_head hi
theorem rd_0 (t : S29) : rd (enc t) 0 = t.f0 % 256 := by
  cases t
  rw [enc_cons]
  rfl
theorem rd_9 {t : S29} (h : t.f2.length ≤ 255) : rd (enc t) 9 = (t.f2.length : Int) := by
  cases t with
  | mk a b l =>
    simp only at h
    have : rd (enc ⟨a, b, l⟩) 9 = (l.length : Int) % 256 := by
      rw [enc_cons]
      rfl
    rw [this]
    show _ = (l.length : Int)
    omega
theorem enc_ten (t : S29) : (enc t).length = 10 + (encs t.f2).length := by
  cases t
  rw [enc_cons]
  simp
  omega
theorem encs_app : ∀ (a b : List S29), encs (a ++ b) = encs a ++ encs b
  | [], b => by simp [encs]
  | x :: a, b => by simp [encs, encs_app a b, List.append_assoc]
/-- The bytes of kid i lie at their place. -/
theorem enc_kid (t : S29) (i : Nat) (hi : i < t.f2.length) : 10 + (encs (t.f2.take i)).length + (enc t.f2[i]).length ≤ (enc t).length ∧
    ((enc t).take (10 + (encs (t.f2.take i)).length + (enc t.f2[i]).length)).drop (10 + (encs (t.f2.take i)).length) = enc t.f2[i] ∧ encs (t.f2.take (i + 1)) = encs (t.f2.take i) ++ enc t.f2[i] := by
  have e1 : encs (t.f2.take (i + 1)) = encs (t.f2.take i) ++ enc t.f2[i] := encs_take t.f2 i hi
  have e2 : encs t.f2 = encs (t.f2.take i) ++ (enc t.f2[i] ++ encs (t.f2.drop (i + 1))) := by
    have := encs_app (t.f2.take (i + 1)) (t.f2.drop (i + 1))
    rw [List.take_append_drop, e1] at this
    rw [this, List.append_assoc]
  have e3 : enc t = (enc t).take 10 ++ encs t.f2 := by
    cases t
    rw [enc_cons]
    simp
  have l10 : ((enc t).take 10).length = 10 := by
    rw [List.length_take, enc_ten]
    omega
  have e4 := congrArg List.length e2
  simp only [List.length_append] at e4
  refine ⟨by have := enc_ten t; omega, ?_, e1⟩
  rw [e3, e2]
  generalize (enc t).take 10 = p at l10
  generalize encs (t.f2.take i) = q
  generalize enc t.f2[i] = r
  rw [show p ++ (q ++ (r ++ encs (t.f2.drop (i + 1)))) = (p ++ q ++ r) ++ encs (t.f2.drop (i + 1)) by simp, List.take_left' (by simp [l10]; omega), List.drop_left' (by simp [l10])]
theorem kid_size (t : S29) (i : Nat) (hi : i < t.f2.length) : size29 t.f2[i] ≤ size29 t := by
  have h1 := (enc_kid t i hi).1
  have h2 := enc_size t
  have h3 := enc_size t.f2[i]
  omega
end Go.Proofs.Ytfbjdfgadhlhlaa.P
