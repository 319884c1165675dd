/- FormsDeep: its plain part. -/
import Derived.Test.YtkkmgahgejjhgaaDoorPur
import Derived.Test.YtkkmgahgejjhgaaDoorLwD
namespace Go.Proofs.YtkkmgahgejjhgaaDoor.Pure
open Go.RowKit Go.Proofs.YtkkmgahgejjhgaaDoor.P Go.Proofs.YtkkmgahgejjhgaaDoorW.PrintWords Go.Proofs.YtkkmgahgejjhgaaDoorW.PrintLast
theorem deep_0_true : thyrsuslaw3_FormsDeep.l0 200 (wrap64 (28 + 0)) true (⟨#[]⟩ : ByteArray) (⟨#[]⟩ : ByteArray) 0 1 0 (⟨#[97]⟩ : ByteArray) ([] : List S42) = some true := by kernel_rfl
theorem deep_0_false : thyrsuslaw3_FormsDeep.l0 200 (wrap64 (28 + 0)) false (⟨#[]⟩ : ByteArray) (⟨#[]⟩ : ByteArray) 0 1 0 (⟨#[97]⟩ : ByteArray) ([] : List S42) = some true := by kernel_rfl
theorem deep_1_true : thyrsuslaw3_FormsDeep.l0 200 (wrap64 (28 + 1)) true (⟨#[]⟩ : ByteArray) (⟨#[]⟩ : ByteArray) 0 1 0 (⟨#[97]⟩ : ByteArray) ([] : List S42) = some true := by kernel_rfl
theorem deep_1_false : thyrsuslaw3_FormsDeep.l0 200 (wrap64 (28 + 1)) false (⟨#[]⟩ : ByteArray) (⟨#[]⟩ : ByteArray) 0 1 0 (⟨#[97]⟩ : ByteArray) ([] : List S42) = some true := by kernel_rfl
theorem deep_2_true : thyrsuslaw3_FormsDeep.l0 200 (wrap64 (28 + 2)) true (⟨#[]⟩ : ByteArray) (⟨#[]⟩ : ByteArray) 0 1 0 (⟨#[97]⟩ : ByteArray) ([] : List S42) = some true := by kernel_rfl
theorem deep_2_false : thyrsuslaw3_FormsDeep.l0 200 (wrap64 (28 + 2)) false (⟨#[]⟩ : ByteArray) (⟨#[]⟩ : ByteArray) 0 1 0 (⟨#[97]⟩ : ByteArray) ([] : List S42) = some true := by kernel_rfl
theorem deep_3_true : thyrsuslaw3_FormsDeep.l0 200 (wrap64 (28 + 3)) true (⟨#[]⟩ : ByteArray) (⟨#[]⟩ : ByteArray) 0 1 0 (⟨#[97]⟩ : ByteArray) ([] : List S42) = some true := by kernel_rfl
theorem deep_3_false : thyrsuslaw3_FormsDeep.l0 200 (wrap64 (28 + 3)) false (⟨#[]⟩ : ByteArray) (⟨#[]⟩ : ByteArray) 0 1 0 (⟨#[97]⟩ : ByteArray) ([] : List S42) = some true := by kernel_rfl
theorem deep_4_true : thyrsuslaw3_FormsDeep.l0 200 (wrap64 (28 + 4)) true (⟨#[]⟩ : ByteArray) (⟨#[]⟩ : ByteArray) 0 1 0 (⟨#[97]⟩ : ByteArray) ([] : List S42) = some true := by kernel_rfl
theorem deep_4_false : thyrsuslaw3_FormsDeep.l0 200 (wrap64 (28 + 4)) false (⟨#[]⟩ : ByteArray) (⟨#[]⟩ : ByteArray) 0 1 0 (⟨#[97]⟩ : ByteArray) ([] : List S42) = some true := by kernel_rfl
theorem deep_5_true : thyrsuslaw3_FormsDeep.l0 200 (wrap64 (28 + 5)) true (⟨#[]⟩ : ByteArray) (⟨#[]⟩ : ByteArray) 0 1 0 (⟨#[97]⟩ : ByteArray) ([] : List S42) = some true := by kernel_rfl
theorem deep_5_false : thyrsuslaw3_FormsDeep.l0 200 (wrap64 (28 + 5)) false (⟨#[]⟩ : ByteArray) (⟨#[]⟩ : ByteArray) 0 1 0 (⟨#[97]⟩ : ByteArray) ([] : List S42) = some true := by kernel_rfl
theorem FormsDeep : thyrsuslaw3_FormsDeep.Pure := by
  intro a0 a1 h0
  obtain ⟨t, ht, hw⟩ := within_ex (i64_of h0) (n := 6) (by decide) (by decide)
  refine ⟨200, ?_⟩
  unfold thyrsuslaw3_FormsDeep.f
  rw [show thyrsuslaw3_known.f 200 = some true from known_k 197]
  simp only [Option.bind_some, if_true]
  rw [hw, Option.bind_some]
  have hc : t = 0 ∨ t = 1 ∨ t = 2 ∨ t = 3 ∨ t = 4 ∨ t = 5 := by omega
  rcases hc with rfl | rfl | rfl | rfl | rfl | rfl <;> cases a1
  · exact deep_0_false
  · exact deep_0_true
  · exact deep_1_false
  · exact deep_1_true
  · exact deep_2_false
  · exact deep_2_true
  · exact deep_3_false
  · exact deep_3_true
  · exact deep_4_false
  · exact deep_4_true
  · exact deep_5_false
  · exact deep_5_true
end Go.Proofs.YtkkmgahgejjhgaaDoor.Pure
