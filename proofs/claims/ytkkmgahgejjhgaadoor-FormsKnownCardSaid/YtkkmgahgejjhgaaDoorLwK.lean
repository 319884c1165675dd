/- Chapter 3's law: FormsKnown, printed by mkprint.py, turned by toQ3.py (strconv's table stands: TabP). -/
-- Printed by mkprint.py (a program of this session, over the kit's print). Lean checks it.
import Derived.Test.YtkkmgahgejjhgaaDoorPx0
import Derived.Test.YtkkmgahgejjhgaaDoorTextF
import Derived.Test.YtkkmgahgejjhgaaDoorHandG
import Derived.Test.YtkkmgahgejjhgaaDoorPx1
import Derived.Test.YtkkmgahgejjhgaaDoorLwN
namespace Go.Proofs.YtkkmgahgejjhgaaDoor.P
open Go.RowKit Go.Proofs.YtkkmgahgejjhgaaDoorW.PrintWords Go.Proofs.YtkkmgahgejjhgaaDoorW.PrintLast Go.Proofs.YtkkmgahgejjhgaaDoorW.PrintMore
attribute [local go_sem] max2_int min2_int max_two min_two max_three min_three max_four min_four   -- for this text's walks alone
set_option linter.unusedVariables false
set_option linter.unusedSimpArgs false

/-! ### thyrsuslaw3_FormsKnown: function 5 -/
mutual
def thyrsuslaw3_FormsKnown.l0 : Nat → List ByteArray → List Int → Int → List (S42) → Int → Int → ByteArray → Int → Option (Bool)
  | 0, _, _, _, _, _, _, _, _ => none
  | k + 1, x4, x5, x6, x7, x8, x9, x10, x11 => if x11 < (x7.length : Int) then (if 0 ≤ x11 then ((forms_Text.f k ((rd_T42 x7 x11).f0) ((rd_T42 x7 x11).f1) ((rd_T42 x7 x11).f2) ((rd_T42 x7 x11).f3)).bind fun t170 => (if x10.size + t170.size ≤ 9223372036854775807 then (if (x10 ++ t170).size + 1 ≤ 9223372036854775807 then (thyrsuslaw3_FormsKnown.l0 k x4 x5 x6 x7 x8 x9 ((x10 ++ t170) ++ (⟨#[32]⟩ : ByteArray)) (wrap64 (x11 + 1))) else (none)) else (none))) else (none)) else (if x6 ≥ 4 then (if x6 ≤ 8 then (thyrsuslaw3_FormsKnown.j1 k x4 x5 x6 x8 x9 x10 0 true) else (thyrsuslaw3_FormsKnown.j1 k x4 x5 x6 x8 x9 x10 0 (x6 == 11))) else (thyrsuslaw3_FormsKnown.j1 k x4 x5 x6 x8 x9 x10 0 (x6 == 11)))
def thyrsuslaw3_FormsKnown.j1 : Nat → List ByteArray → List Int → Int → Int → Int → ByteArray → Int → Bool → Option (Bool)
  | 0, _, _, _, _, _, _, _, _ => none
  | k + 1, x4, x5, x6, x8, x9, x10, x12, x54 => if x54 = true then (if x6 = 10 then (if 0 ≤ x6 then (if x6 < (x4.length : Int) then (if x10.toList = (rdOf ByteArray.empty x4 x6).toList then (if x6 < (x5.length : Int) then (if x8 = (rd x5 x6) then (some (x9 == 6)) else (none)) else (none)) else (none)) else (none)) else (none)) else (if 0 ≤ x6 then (if x6 < (x4.length : Int) then (if x10.toList = (rdOf ByteArray.empty x4 x6).toList then (if x6 < (x5.length : Int) then (if x8 = (rd x5 x6) then (some (x9 == 7)) else (none)) else (none)) else (none)) else (none)) else (none))) else (if x6 = 10 then (if 0 ≤ x6 then (if x6 < (x4.length : Int) then (if x10.toList = (rdOf ByteArray.empty x4 x6).toList then (if x6 < (x5.length : Int) then (if x8 = (rd x5 x6) then (some (x9 == 6)) else (none)) else (none)) else (none)) else (none)) else (none)) else (if 0 ≤ x6 then (if x6 < (x4.length : Int) then (if x10.toList = (rdOf ByteArray.empty x4 x6).toList then (if x6 < (x5.length : Int) then (if x8 = (rd x5 x6) then (some (x9 == x12)) else (none)) else (none)) else (none)) else (none)) else (none)))
end
def thyrsuslaw3_FormsKnown.f (k : Nat) (a0 : Int) : Option (Bool) := (thyrsuslaw3_known.f k).bind fun t152 => (if t152 = true then ((some (([(⟨#[]⟩ : ByteArray), (⟨#[97, 32, 98]⟩ : ByteArray), (⟨#[40, 97, 40, 98, 32, 49, 41, 40, 41, 41]⟩ : ByteArray), (⟨#[40, 32, 97, 32, 59, 32, 41, 10, 32, 98, 32, 41]⟩ : ByteArray), (⟨#[41]⟩ : ByteArray), (⟨#[40]⟩ : ByteArray), (⟨#[97, 32, 40, 98]⟩ : ByteArray), (⟨#[40, 40, 41]⟩ : ByteArray), (⟨#[40, 41, 41]⟩ : ByteArray), (⟨#[45, 53, 32, 45, 62]⟩ : ByteArray), (⟨#[40, 33]⟩ : ByteArray), (⟨#[40, 97, 41, 41, 98]⟩ : ByteArray)] : List ByteArray) : List ByteArray)).bind fun y153 => ((thyrsuslaw3_within.f a0 (y153.length : Int)).bind fun t162 => (if 0 ≤ t162 then (if t162 < (y153.length : Int) then ((forms_Parse.f (rdOf ByteArray.empty y153 t162)).bind fun bt164 => (thyrsuslaw3_FormsKnown.l0 k (([(⟨#[]⟩ : ByteArray), (⟨#[97, 32, 98, 32]⟩ : ByteArray), (⟨#[40, 97, 32, 40, 98, 32, 49, 41, 32, 40, 41, 41, 32]⟩ : ByteArray), (⟨#[40, 97, 32, 98, 41, 32]⟩ : ByteArray), (⟨#[]⟩ : ByteArray), (⟨#[]⟩ : ByteArray), (⟨#[]⟩ : ByteArray), (⟨#[]⟩ : ByteArray), (⟨#[]⟩ : ByteArray), (⟨#[45, 53, 32, 45, 62, 32]⟩ : ByteArray), (⟨#[]⟩ : ByteArray), (⟨#[]⟩ : ByteArray)] : List ByteArray)) (([0, 0, 0, 0, 0, 1, 4, 3, 2, 0, 1, 3] : List Int)) t162 bt164.1 bt164.2.1 bt164.2.2 (⟨#[]⟩ : ByteArray) 0)) else (none)) else (none)))) else (none))
theorem thyrsuslaw3_FormsKnown.mono_l : ∀ k, (∀ y0 y1 y2 y3 y4 y5 y6 y7, LeO (thyrsuslaw3_FormsKnown.l0 k y0 y1 y2 y3 y4 y5 y6 y7) (thyrsuslaw3_FormsKnown.l0 (k + 1) y0 y1 y2 y3 y4 y5 y6 y7)) ∧ (∀ y0 y1 y2 y3 y4 y5 y6 y7, LeO (thyrsuslaw3_FormsKnown.j1 k y0 y1 y2 y3 y4 y5 y6 y7) (thyrsuslaw3_FormsKnown.j1 (k + 1) y0 y1 y2 y3 y4 y5 y6 y7))
  | 0 => ⟨fun _ _ _ _ _ _ _ _ r h => by simp [thyrsuslaw3_FormsKnown.l0] at h, fun _ _ _ _ _ _ _ _ r h => by simp [thyrsuslaw3_FormsKnown.j1] at h⟩
  | k + 1 => by
    obtain ⟨ih0, ih1⟩ := thyrsuslaw3_FormsKnown.mono_l k
    refine ⟨?_, ?_⟩
    · intro y0 y1 y2 y3 y4 y5 y6 y7
      unfold thyrsuslaw3_FormsKnown.l0
      repeat' first
      | (with_reducible exact ih0 _ _ _ _ _ _ _ _)
      | (with_reducible exact ih1 _ _ _ _ _ _ _ _)
      | (with_reducible exact forms_Text.mono _ _ _ _ _)
      | (with_reducible exact thyrsuslaw3_known.mono _)
      | (with_reducible exact LeO.refl _)
      | (with_reducible exact LeO.none _)
      | (with_reducible refine LeO.ite ?_ ?_)
      | (with_reducible refine LeO.bind ?_ (fun _ => ?_))
      | exact ih0 _ _ _ _ _ _ _ _
      | exact ih1 _ _ _ _ _ _ _ _
      | exact forms_Text.mono _ _ _ _ _
      | exact thyrsuslaw3_known.mono _
      | exact LeO.none _
      | refine LeO.ite ?_ ?_
      | refine LeO.bind ?_ (fun _ => ?_)
    · intro y0 y1 y2 y3 y4 y5 y6 y7
      unfold thyrsuslaw3_FormsKnown.j1
      repeat' first
      | (with_reducible exact ih0 _ _ _ _ _ _ _ _)
      | (with_reducible exact ih1 _ _ _ _ _ _ _ _)
      | (with_reducible exact forms_Text.mono _ _ _ _ _)
      | (with_reducible exact thyrsuslaw3_known.mono _)
      | (with_reducible exact LeO.refl _)
      | (with_reducible exact LeO.none _)
      | (with_reducible refine LeO.ite ?_ ?_)
      | (with_reducible refine LeO.bind ?_ (fun _ => ?_))
      | exact ih0 _ _ _ _ _ _ _ _
      | exact ih1 _ _ _ _ _ _ _ _
      | exact forms_Text.mono _ _ _ _ _
      | exact thyrsuslaw3_known.mono _
      | exact LeO.none _
      | refine LeO.ite ?_ ?_
      | refine LeO.bind ?_ (fun _ => ?_)
theorem thyrsuslaw3_FormsKnown.mono : ∀ a0 k, LeO (thyrsuslaw3_FormsKnown.f k a0) (thyrsuslaw3_FormsKnown.f (k + 1) a0) := by
  intro a0 k
  obtain ⟨ih0, ih1⟩ := thyrsuslaw3_FormsKnown.mono_l k
  unfold thyrsuslaw3_FormsKnown.f
  repeat' first
      | (with_reducible exact ih0 _ _ _ _ _ _ _ _)
      | (with_reducible exact ih1 _ _ _ _ _ _ _ _)
      | (with_reducible exact forms_Text.mono _ _ _ _ _)
      | (with_reducible exact thyrsuslaw3_known.mono _)
      | (with_reducible exact LeO.refl _)
      | (with_reducible exact LeO.none _)
      | (with_reducible refine LeO.ite ?_ ?_)
      | (with_reducible refine LeO.bind ?_ (fun _ => ?_))
      | exact ih0 _ _ _ _ _ _ _ _
      | exact ih1 _ _ _ _ _ _ _ _
      | exact forms_Text.mono _ _ _ _ _
      | exact thyrsuslaw3_known.mono _
      | exact LeO.none _
      | refine LeO.ite ?_ ?_
      | refine LeO.bind ?_ (fun _ => ?_)
set_option maxHeartbeats 8000000 in
set_option maxRecDepth 100000 in
theorem thyrsuslaw3_FormsKnown.calls (k : Nat) (a0 : Int) (r : Bool) (w : World) (hT : TabP w) (h : thyrsuslaw3_FormsKnown.f k a0 = some r) :
    Calls Tryd.prog 5 #[.int .i64 a0] w fun e w' => e = .returned (.bool r) ∧ Below w.heap.size w w' := by
  have hu42 := Tryd.underlying42
  have HTB := Aside0.mk hT
  clear hT
  have HB := Aside0.mk (Below.refl w.heap.size w)
  have H : ((thyrsuslaw3_known.f k).bind fun t152 => (if t152 = true then ((some (([(⟨#[]⟩ : ByteArray), (⟨#[97, 32, 98]⟩ : ByteArray), (⟨#[40, 97, 40, 98, 32, 49, 41, 40, 41, 41]⟩ : ByteArray), (⟨#[40, 32, 97, 32, 59, 32, 41, 10, 32, 98, 32, 41]⟩ : ByteArray), (⟨#[41]⟩ : ByteArray), (⟨#[40]⟩ : ByteArray), (⟨#[97, 32, 40, 98]⟩ : ByteArray), (⟨#[40, 40, 41]⟩ : ByteArray), (⟨#[40, 41, 41]⟩ : ByteArray), (⟨#[45, 53, 32, 45, 62]⟩ : ByteArray), (⟨#[40, 33]⟩ : ByteArray), (⟨#[40, 97, 41, 41, 98]⟩ : ByteArray)] : List ByteArray) : List ByteArray)).bind fun y153 => ((thyrsuslaw3_within.f a0 (y153.length : Int)).bind fun t162 => (if 0 ≤ t162 then (if t162 < (y153.length : Int) then ((forms_Parse.f (rdOf ByteArray.empty y153 t162)).bind fun bt164 => (thyrsuslaw3_FormsKnown.l0 k (([(⟨#[]⟩ : ByteArray), (⟨#[97, 32, 98, 32]⟩ : ByteArray), (⟨#[40, 97, 32, 40, 98, 32, 49, 41, 32, 40, 41, 41, 32]⟩ : ByteArray), (⟨#[40, 97, 32, 98, 41, 32]⟩ : ByteArray), (⟨#[]⟩ : ByteArray), (⟨#[]⟩ : ByteArray), (⟨#[]⟩ : ByteArray), (⟨#[]⟩ : ByteArray), (⟨#[]⟩ : ByteArray), (⟨#[45, 53, 32, 45, 62, 32]⟩ : ByteArray), (⟨#[]⟩ : ByteArray), (⟨#[]⟩ : ByteArray)] : List ByteArray)) (([0, 0, 0, 0, 0, 1, 4, 3, 2, 0, 1, 3] : List Int)) t162 bt164.1 bt164.2.1 bt164.2.2 (⟨#[]⟩ : ByteArray) 0)) else (none)) else (none)))) else (none))) = some r := h
  clear h
  replace H := Option.bind_eq_some_iff.mp H
  obtain ⟨t152, A20, H⟩ := H
  replace H : (if t152 = true then ((some (([(⟨#[]⟩ : ByteArray), (⟨#[97, 32, 98]⟩ : ByteArray), (⟨#[40, 97, 40, 98, 32, 49, 41, 40, 41, 41]⟩ : ByteArray), (⟨#[40, 32, 97, 32, 59, 32, 41, 10, 32, 98, 32, 41]⟩ : ByteArray), (⟨#[41]⟩ : ByteArray), (⟨#[40]⟩ : ByteArray), (⟨#[97, 32, 40, 98]⟩ : ByteArray), (⟨#[40, 40, 41]⟩ : ByteArray), (⟨#[40, 41, 41]⟩ : ByteArray), (⟨#[45, 53, 32, 45, 62]⟩ : ByteArray), (⟨#[40, 33]⟩ : ByteArray), (⟨#[40, 97, 41, 41, 98]⟩ : ByteArray)] : List ByteArray) : List ByteArray)).bind fun y153 => ((thyrsuslaw3_within.f a0 (y153.length : Int)).bind fun t162 => (if 0 ≤ t162 then (if t162 < (y153.length : Int) then ((forms_Parse.f (rdOf ByteArray.empty y153 t162)).bind fun bt164 => (thyrsuslaw3_FormsKnown.l0 k (([(⟨#[]⟩ : ByteArray), (⟨#[97, 32, 98, 32]⟩ : ByteArray), (⟨#[40, 97, 32, 40, 98, 32, 49, 41, 32, 40, 41, 41, 32]⟩ : ByteArray), (⟨#[40, 97, 32, 98, 41, 32]⟩ : ByteArray), (⟨#[]⟩ : ByteArray), (⟨#[]⟩ : ByteArray), (⟨#[]⟩ : ByteArray), (⟨#[]⟩ : ByteArray), (⟨#[]⟩ : ByteArray), (⟨#[45, 53, 32, 45, 62, 32]⟩ : ByteArray), (⟨#[]⟩ : ByteArray), (⟨#[]⟩ : ByteArray)] : List ByteArray)) (([0, 0, 0, 0, 0, 1, 4, 3, 2, 0, 1, 3] : List Int)) t162 bt164.1 bt164.2.1 bt164.2.2 (⟨#[]⟩ : ByteArray) 0)) else (none)) else (none)))) else (none)) = some r := H
  have A2 := Aside0.mk A20
  clear A20
  by_cases c3 : t152 = true
  · subst c3
    have H1 : ((some (([(⟨#[]⟩ : ByteArray), (⟨#[97, 32, 98]⟩ : ByteArray), (⟨#[40, 97, 40, 98, 32, 49, 41, 40, 41, 41]⟩ : ByteArray), (⟨#[40, 32, 97, 32, 59, 32, 41, 10, 32, 98, 32, 41]⟩ : ByteArray), (⟨#[41]⟩ : ByteArray), (⟨#[40]⟩ : ByteArray), (⟨#[97, 32, 40, 98]⟩ : ByteArray), (⟨#[40, 40, 41]⟩ : ByteArray), (⟨#[40, 41, 41]⟩ : ByteArray), (⟨#[45, 53, 32, 45, 62]⟩ : ByteArray), (⟨#[40, 33]⟩ : ByteArray), (⟨#[40, 97, 41, 41, 98]⟩ : ByteArray)] : List ByteArray) : List ByteArray)).bind fun y153 => ((thyrsuslaw3_within.f a0 (y153.length : Int)).bind fun t162 => (if 0 ≤ t162 then (if t162 < (y153.length : Int) then ((forms_Parse.f (rdOf ByteArray.empty y153 t162)).bind fun bt164 => (thyrsuslaw3_FormsKnown.l0 k (([(⟨#[]⟩ : ByteArray), (⟨#[97, 32, 98, 32]⟩ : ByteArray), (⟨#[40, 97, 32, 40, 98, 32, 49, 41, 32, 40, 41, 41, 32]⟩ : ByteArray), (⟨#[40, 97, 32, 98, 41, 32]⟩ : ByteArray), (⟨#[]⟩ : ByteArray), (⟨#[]⟩ : ByteArray), (⟨#[]⟩ : ByteArray), (⟨#[]⟩ : ByteArray), (⟨#[]⟩ : ByteArray), (⟨#[45, 53, 32, 45, 62, 32]⟩ : ByteArray), (⟨#[]⟩ : ByteArray), (⟨#[]⟩ : ByteArray)] : List ByteArray)) (([0, 0, 0, 0, 0, 1, 4, 3, 2, 0, 1, 3] : List Int)) t162 bt164.1 bt164.2.1 bt164.2.2 (⟨#[]⟩ : ByteArray) 0)) else (none)) else (none)))) = some r := by rw [if_pos rfl] at H; exact H
    clear H
    have H := H1
    clear H1
    obtain ⟨y153, hy153⟩ : ∃ y_ : List ByteArray, y_ = (([(⟨#[]⟩ : ByteArray), (⟨#[97, 32, 98]⟩ : ByteArray), (⟨#[40, 97, 40, 98, 32, 49, 41, 40, 41, 41]⟩ : ByteArray), (⟨#[40, 32, 97, 32, 59, 32, 41, 10, 32, 98, 32, 41]⟩ : ByteArray), (⟨#[41]⟩ : ByteArray), (⟨#[40]⟩ : ByteArray), (⟨#[97, 32, 40, 98]⟩ : ByteArray), (⟨#[40, 40, 41]⟩ : ByteArray), (⟨#[40, 41, 41]⟩ : ByteArray), (⟨#[45, 53, 32, 45, 62]⟩ : ByteArray), (⟨#[40, 33]⟩ : ByteArray), (⟨#[40, 97, 41, 41, 98]⟩ : ByteArray)] : List ByteArray)) := ⟨_, rfl⟩
    replace H : ((thyrsuslaw3_within.f a0 (y153.length : Int)).bind fun t162 => (if 0 ≤ t162 then (if t162 < (y153.length : Int) then ((forms_Parse.f (rdOf ByteArray.empty y153 t162)).bind fun bt164 => (thyrsuslaw3_FormsKnown.l0 k (([(⟨#[]⟩ : ByteArray), (⟨#[97, 32, 98, 32]⟩ : ByteArray), (⟨#[40, 97, 32, 40, 98, 32, 49, 41, 32, 40, 41, 41, 32]⟩ : ByteArray), (⟨#[40, 97, 32, 98, 41, 32]⟩ : ByteArray), (⟨#[]⟩ : ByteArray), (⟨#[]⟩ : ByteArray), (⟨#[]⟩ : ByteArray), (⟨#[]⟩ : ByteArray), (⟨#[]⟩ : ByteArray), (⟨#[45, 53, 32, 45, 62, 32]⟩ : ByteArray), (⟨#[]⟩ : ByteArray), (⟨#[]⟩ : ByteArray)] : List ByteArray)) (([0, 0, 0, 0, 0, 1, 4, 3, 2, 0, 1, 3] : List Int)) t162 bt164.1 bt164.2.1 bt164.2.2 (⟨#[]⟩ : ByteArray) 0)) else (none)) else (none))) = some r := by first | (rw [hy153]; with_reducible exact H) | (have H2_ := (Option.bind_some _ _).symm.trans H; rw [hy153]; with_reducible exact H2_) | (have H2_ := (Option.bind_some _ _).symm.trans H; with_reducible exact H2_) | with_reducible exact H | (rw [hy153]; exact H) | exact H
    have Ny153 := Aside0.mk hy153
    clear hy153
    obtain ⟨y156, hy156⟩ : ∃ y_ : List ByteArray, y_ = (([(⟨#[]⟩ : ByteArray), (⟨#[97, 32, 98, 32]⟩ : ByteArray), (⟨#[40, 97, 32, 40, 98, 32, 49, 41, 32, 40, 41, 41, 32]⟩ : ByteArray), (⟨#[40, 97, 32, 98, 41, 32]⟩ : ByteArray), (⟨#[]⟩ : ByteArray), (⟨#[]⟩ : ByteArray), (⟨#[]⟩ : ByteArray), (⟨#[]⟩ : ByteArray), (⟨#[]⟩ : ByteArray), (⟨#[45, 53, 32, 45, 62, 32]⟩ : ByteArray), (⟨#[]⟩ : ByteArray), (⟨#[]⟩ : ByteArray)] : List ByteArray)) := ⟨_, rfl⟩
    replace H : ((thyrsuslaw3_within.f a0 (y153.length : Int)).bind fun t162 => (if 0 ≤ t162 then (if t162 < (y153.length : Int) then ((forms_Parse.f (rdOf ByteArray.empty y153 t162)).bind fun bt164 => (thyrsuslaw3_FormsKnown.l0 k y156 (([0, 0, 0, 0, 0, 1, 4, 3, 2, 0, 1, 3] : List Int)) t162 bt164.1 bt164.2.1 bt164.2.2 (⟨#[]⟩ : ByteArray) 0)) else (none)) else (none))) = some r := by first | (rw [hy156]; with_reducible exact H) | (have H2_ := (Option.bind_some _ _).symm.trans H; rw [hy156]; with_reducible exact H2_) | (have H2_ := (Option.bind_some _ _).symm.trans H; with_reducible exact H2_) | with_reducible exact H | (rw [hy156]; exact H) | exact H
    have Ny156 := Aside0.mk hy156
    clear hy156
    obtain ⟨y159, hy159⟩ : ∃ y_ : List Int, y_ = (([0, 0, 0, 0, 0, 1, 4, 3, 2, 0, 1, 3] : List Int)) := ⟨_, rfl⟩
    replace H : ((thyrsuslaw3_within.f a0 (y153.length : Int)).bind fun t162 => (if 0 ≤ t162 then (if t162 < (y153.length : Int) then ((forms_Parse.f (rdOf ByteArray.empty y153 t162)).bind fun bt164 => (thyrsuslaw3_FormsKnown.l0 k y156 y159 t162 bt164.1 bt164.2.1 bt164.2.2 (⟨#[]⟩ : ByteArray) 0)) else (none)) else (none))) = some r := by first | (rw [hy159]; with_reducible exact H) | (have H2_ := (Option.bind_some _ _).symm.trans H; rw [hy159]; with_reducible exact H2_) | (have H2_ := (Option.bind_some _ _).symm.trans H; with_reducible exact H2_) | with_reducible exact H | (rw [hy159]; exact H) | exact H
    have Ny159 := Aside0.mk hy159
    clear hy159
    replace H := Option.bind_eq_some_iff.mp H
    obtain ⟨t162, A40, H⟩ := H
    replace H : (if 0 ≤ t162 then (if t162 < (y153.length : Int) then ((forms_Parse.f (rdOf ByteArray.empty y153 t162)).bind fun bt164 => (thyrsuslaw3_FormsKnown.l0 k y156 y159 t162 bt164.1 bt164.2.1 bt164.2.2 (⟨#[]⟩ : ByteArray) 0)) else (none)) else (none)) = some r := H
    have A4 := Aside0.mk A40
    clear A40
    by_cases c5 : 0 ≤ t162
    · rw [if_pos c5] at H
      have c5b0 : decide (0 ≤ t162) = true := decide_eq_true c5
      clear c5
      by_cases c6 : t162 < (y153.length : Int)
      · rw [if_pos c6] at H
        have c6b0 : decide (t162 < (y153.length : Int)) = true := decide_eq_true c6
        clear c6
        replace H := Option.bind_eq_some_iff.mp H
        obtain ⟨⟨t164, t165, t166⟩, A70, H⟩ := H
        replace H : (thyrsuslaw3_FormsKnown.l0 k y156 y159 t162 t164 t165 t166 (⟨#[]⟩ : ByteArray) 0) = some r := H
        have A7 := Aside0.mk A70
        clear A70
        have H' := Aside0.mk H
        clear H
        go_enter Tryd.func5, Tryd.ntmps5
        go_wp2_with (first | ((with_reducible refine gate_callee (f := 10) rfl ?_); refine goesL_ (some 13) rfl rfl Tryd.func10 (by kernel_rfl) rfl #[] rfl (by (try simp only [List.map_toArray, List.map_cons, List.map_nil]); first | done | rfl | (simp only [List.length_drop, List.length_take]; rfl)) ?_; (with_reducible refine (thyrsuslaw3_known.calls k  true _ ?sideT A2.out).mono ?_); (case sideT => exact TabP.below HTB.out (by repeat (first | (with_reducible first | exact HB.out | apply below_alloc | apply pw_below_drewN | apply below_drew1) | exact HB.out))); rintro e w8 ⟨rfl, hb⟩; refine ⟨_, rfl, ?_⟩; have n0_ := Aside0.mk (below_step (by repeat (first | (with_reducible first | exact HB.out | apply below_alloc | apply pw_below_drewN | apply below_drew1) | exact HB.out)) hb); clear HB; have HB := n0_; clear n0_; (try clear hb); (try clear hb2); (try clear hk); (try clear hi)) | ((with_reducible refine gate_dst (N := 15) rfl ?_); refine Kd.R_lit Kd.string _ 9 ?hg (N := 15) ?hd (xs := ([(⟨#[]⟩ : ByteArray), (⟨#[97, 32, 98]⟩ : ByteArray), (⟨#[40, 97, 40, 98, 32, 49, 41, 40, 41, 41]⟩ : ByteArray), (⟨#[40, 32, 97, 32, 59, 32, 41, 10, 32, 98, 32, 41]⟩ : ByteArray), (⟨#[41]⟩ : ByteArray), (⟨#[40]⟩ : ByteArray), (⟨#[97, 32, 40, 98]⟩ : ByteArray), (⟨#[40, 40, 41]⟩ : ByteArray), (⟨#[40, 41, 41]⟩ : ByteArray), (⟨#[45, 53, 32, 45, 62]⟩ : ByteArray), (⟨#[40, 33]⟩ : ByteArray), (⟨#[40, 97, 41, 41, 98]⟩ : ByteArray)] : List ByteArray)) (inner := [.string (⟨#[]⟩ : ByteArray), .string (⟨#[97, 32, 98]⟩ : ByteArray), .string (⟨#[40, 97, 40, 98, 32, 49, 41, 40, 41, 41]⟩ : ByteArray), .string (⟨#[40, 32, 97, 32, 59, 32, 41, 10, 32, 98, 32, 41]⟩ : ByteArray), .string (⟨#[41]⟩ : ByteArray), .string (⟨#[40]⟩ : ByteArray), .string (⟨#[97, 32, 40, 98]⟩ : ByteArray), .string (⟨#[40, 40, 41]⟩ : ByteArray), .string (⟨#[40, 41, 41]⟩ : ByteArray), .string (⟨#[45, 53, 32, 45, 62]⟩ : ByteArray), .string (⟨#[40, 33]⟩ : ByteArray), .string (⟨#[40, 97, 41, 41, 98]⟩ : ByteArray)]) (ok := fun _ => True) (okp := fun _ => True) ?hr ?hp (fun _ hk => hk) trivial (Below.refl _ _) (Nat.le_refl _) (by simp) ?_; (case hd => rfl); (case hg => rfl); (case hr => first | (go_simp; done) | (go_simp; rfl)); (case hp => exact (Reps.one (show Kd.M Kd.string _ _ _ (⟨#[]⟩ : ByteArray) [.string (⟨#[]⟩ : ByteArray)] from rfl) (Reps.one (show Kd.M Kd.string _ _ _ (⟨#[97, 32, 98]⟩ : ByteArray) [.string (⟨#[97, 32, 98]⟩ : ByteArray)] from rfl) (Reps.one (show Kd.M Kd.string _ _ _ (⟨#[40, 97, 40, 98, 32, 49, 41, 40, 41, 41]⟩ : ByteArray) [.string (⟨#[40, 97, 40, 98, 32, 49, 41, 40, 41, 41]⟩ : ByteArray)] from rfl) (Reps.one (show Kd.M Kd.string _ _ _ (⟨#[40, 32, 97, 32, 59, 32, 41, 10, 32, 98, 32, 41]⟩ : ByteArray) [.string (⟨#[40, 32, 97, 32, 59, 32, 41, 10, 32, 98, 32, 41]⟩ : ByteArray)] from rfl) (Reps.one (show Kd.M Kd.string _ _ _ (⟨#[41]⟩ : ByteArray) [.string (⟨#[41]⟩ : ByteArray)] from rfl) (Reps.one (show Kd.M Kd.string _ _ _ (⟨#[40]⟩ : ByteArray) [.string (⟨#[40]⟩ : ByteArray)] from rfl) (Reps.one (show Kd.M Kd.string _ _ _ (⟨#[97, 32, 40, 98]⟩ : ByteArray) [.string (⟨#[97, 32, 40, 98]⟩ : ByteArray)] from rfl) (Reps.one (show Kd.M Kd.string _ _ _ (⟨#[40, 40, 41]⟩ : ByteArray) [.string (⟨#[40, 40, 41]⟩ : ByteArray)] from rfl) (Reps.one (show Kd.M Kd.string _ _ _ (⟨#[40, 41, 41]⟩ : ByteArray) [.string (⟨#[40, 41, 41]⟩ : ByteArray)] from rfl) (Reps.one (show Kd.M Kd.string _ _ _ (⟨#[45, 53, 32, 45, 62]⟩ : ByteArray) [.string (⟨#[45, 53, 32, 45, 62]⟩ : ByteArray)] from rfl) (Reps.one (show Kd.M Kd.string _ _ _ (⟨#[40, 33]⟩ : ByteArray) [.string (⟨#[40, 33]⟩ : ByteArray)] from rfl) (Reps.one (show Kd.M Kd.string _ _ _ (⟨#[40, 97, 41, 41, 98]⟩ : ByteArray) [.string (⟨#[40, 97, 41, 41, 98]⟩ : ByteArray)] from rfl) (Reps.none _ _)))))))))))))); intro v154 w9 ho10 hb hg_ hnew_; clear hg_ hnew_; (first | rw [← Ny153.out] at ho10 | (simp only [Int.reduceToNat] at ho10; rw [← Ny153.out] at ho10)); have n0_ := Aside0.mk (Kd.R_lower ho10 (below_size (by repeat (first | (with_reducible first | exact HB.out | apply below_alloc | apply pw_below_drewN | apply below_drew1) | exact HB.out)))); have n1_ := Aside0.mk (below_step (by repeat (first | (with_reducible first | exact HB.out | apply below_alloc | apply pw_below_drewN | apply below_drew1) | exact HB.out)) hb); clear HB; have HO155 := n0_; have HB := n1_; clear n0_ n1_; clear hb ho10) | ((with_reducible refine gate_dst (N := 16) rfl ?_); refine Kd.R_lit Kd.string _ 9 ?hg (N := 16) ?hd (xs := ([(⟨#[]⟩ : ByteArray), (⟨#[97, 32, 98, 32]⟩ : ByteArray), (⟨#[40, 97, 32, 40, 98, 32, 49, 41, 32, 40, 41, 41, 32]⟩ : ByteArray), (⟨#[40, 97, 32, 98, 41, 32]⟩ : ByteArray), (⟨#[]⟩ : ByteArray), (⟨#[]⟩ : ByteArray), (⟨#[]⟩ : ByteArray), (⟨#[]⟩ : ByteArray), (⟨#[]⟩ : ByteArray), (⟨#[45, 53, 32, 45, 62, 32]⟩ : ByteArray), (⟨#[]⟩ : ByteArray), (⟨#[]⟩ : ByteArray)] : List ByteArray)) (inner := [.string (⟨#[]⟩ : ByteArray), .string (⟨#[97, 32, 98, 32]⟩ : ByteArray), .string (⟨#[40, 97, 32, 40, 98, 32, 49, 41, 32, 40, 41, 41, 32]⟩ : ByteArray), .string (⟨#[40, 97, 32, 98, 41, 32]⟩ : ByteArray), .string (⟨#[]⟩ : ByteArray), .string (⟨#[]⟩ : ByteArray), .string (⟨#[]⟩ : ByteArray), .string (⟨#[]⟩ : ByteArray), .string (⟨#[]⟩ : ByteArray), .string (⟨#[45, 53, 32, 45, 62, 32]⟩ : ByteArray), .string (⟨#[]⟩ : ByteArray), .string (⟨#[]⟩ : ByteArray)]) (ok := fun _ => True) (okp := fun _ => True) ?hr ?hp (fun _ hk => hk) trivial (Below.refl _ _) (Nat.le_refl _) (by simp) ?_; (case hd => rfl); (case hg => rfl); (case hr => first | (go_simp; done) | (go_simp; rfl)); (case hp => exact (Reps.one (show Kd.M Kd.string _ _ _ (⟨#[]⟩ : ByteArray) [.string (⟨#[]⟩ : ByteArray)] from rfl) (Reps.one (show Kd.M Kd.string _ _ _ (⟨#[97, 32, 98, 32]⟩ : ByteArray) [.string (⟨#[97, 32, 98, 32]⟩ : ByteArray)] from rfl) (Reps.one (show Kd.M Kd.string _ _ _ (⟨#[40, 97, 32, 40, 98, 32, 49, 41, 32, 40, 41, 41, 32]⟩ : ByteArray) [.string (⟨#[40, 97, 32, 40, 98, 32, 49, 41, 32, 40, 41, 41, 32]⟩ : ByteArray)] from rfl) (Reps.one (show Kd.M Kd.string _ _ _ (⟨#[40, 97, 32, 98, 41, 32]⟩ : ByteArray) [.string (⟨#[40, 97, 32, 98, 41, 32]⟩ : ByteArray)] from rfl) (Reps.one (show Kd.M Kd.string _ _ _ (⟨#[]⟩ : ByteArray) [.string (⟨#[]⟩ : ByteArray)] from rfl) (Reps.one (show Kd.M Kd.string _ _ _ (⟨#[]⟩ : ByteArray) [.string (⟨#[]⟩ : ByteArray)] from rfl) (Reps.one (show Kd.M Kd.string _ _ _ (⟨#[]⟩ : ByteArray) [.string (⟨#[]⟩ : ByteArray)] from rfl) (Reps.one (show Kd.M Kd.string _ _ _ (⟨#[]⟩ : ByteArray) [.string (⟨#[]⟩ : ByteArray)] from rfl) (Reps.one (show Kd.M Kd.string _ _ _ (⟨#[]⟩ : ByteArray) [.string (⟨#[]⟩ : ByteArray)] from rfl) (Reps.one (show Kd.M Kd.string _ _ _ (⟨#[45, 53, 32, 45, 62, 32]⟩ : ByteArray) [.string (⟨#[45, 53, 32, 45, 62, 32]⟩ : ByteArray)] from rfl) (Reps.one (show Kd.M Kd.string _ _ _ (⟨#[]⟩ : ByteArray) [.string (⟨#[]⟩ : ByteArray)] from rfl) (Reps.one (show Kd.M Kd.string _ _ _ (⟨#[]⟩ : ByteArray) [.string (⟨#[]⟩ : ByteArray)] from rfl) (Reps.none _ _)))))))))))))); intro v157 w11 ho12 hb hg_ hnew_; clear hg_ hnew_; (first | rw [← Ny156.out] at ho12 | (simp only [Int.reduceToNat] at ho12; rw [← Ny156.out] at ho12)); have n0_ := Aside0.mk (Kd.R_elder' (by (with_reducible repeat (first | apply Kd.R_alloc | apply Kd.R_drewN | apply Kd.R_drew)); exact HO155.out) (Kd.R_base ho12) hb); have n1_ := Aside0.mk (Kd.R_lower (Kd.R_new' ho12 (Kd.R_lt (by (with_reducible repeat (first | apply Kd.R_alloc | apply Kd.R_drewN | apply Kd.R_drew)); exact HO155.out))) (below_size (by repeat (first | (with_reducible first | exact HB.out | apply below_alloc | apply pw_below_drewN | apply below_drew1) | exact HB.out)))); have n2_ := Aside0.mk (below_step (by repeat (first | (with_reducible first | exact HB.out | apply below_alloc | apply pw_below_drewN | apply below_drew1) | exact HB.out)) hb); clear HO155; clear HB; have HO155 := n0_; have HO158 := n1_; have HB := n2_; clear n0_ n1_ n2_; clear hb ho12) | ((with_reducible refine gate_dst (N := 17) rfl ?_); refine Kd.R_lit (Kd.int .i64) _ 3 ?hg (N := 17) ?hd (xs := ([0, 0, 0, 0, 0, 1, 4, 3, 2, 0, 1, 3] : List Int)) (inner := [.int .i64 0, .int .i64 0, .int .i64 0, .int .i64 0, .int .i64 0, .int .i64 1, .int .i64 4, .int .i64 3, .int .i64 2, .int .i64 0, .int .i64 1, .int .i64 3]) (ok := fun _ => True) (okp := fun _ => True) ?hr ?hp (fun _ hk => hk) trivial (Below.refl _ _) (Nat.le_refl _) (by simp) ?_; (case hd => rfl); (case hg => rfl); (case hr => first | (go_simp; done) | (go_simp; rfl)); (case hp => exact (Reps.one (show Kd.M (Kd.int .i64) _ _ _ 0 [.int .i64 0] from rfl) (Reps.one (show Kd.M (Kd.int .i64) _ _ _ 0 [.int .i64 0] from rfl) (Reps.one (show Kd.M (Kd.int .i64) _ _ _ 0 [.int .i64 0] from rfl) (Reps.one (show Kd.M (Kd.int .i64) _ _ _ 0 [.int .i64 0] from rfl) (Reps.one (show Kd.M (Kd.int .i64) _ _ _ 0 [.int .i64 0] from rfl) (Reps.one (show Kd.M (Kd.int .i64) _ _ _ 1 [.int .i64 1] from rfl) (Reps.one (show Kd.M (Kd.int .i64) _ _ _ 4 [.int .i64 4] from rfl) (Reps.one (show Kd.M (Kd.int .i64) _ _ _ 3 [.int .i64 3] from rfl) (Reps.one (show Kd.M (Kd.int .i64) _ _ _ 2 [.int .i64 2] from rfl) (Reps.one (show Kd.M (Kd.int .i64) _ _ _ 0 [.int .i64 0] from rfl) (Reps.one (show Kd.M (Kd.int .i64) _ _ _ 1 [.int .i64 1] from rfl) (Reps.one (show Kd.M (Kd.int .i64) _ _ _ 3 [.int .i64 3] from rfl) (Reps.none _ _)))))))))))))); intro v160 w13 ho14 hb hg_ hnew_; clear hg_ hnew_; (first | rw [← Ny159.out] at ho14 | (simp only [Int.reduceToNat] at ho14; rw [← Ny159.out] at ho14)); have n0_ := Aside0.mk (Kd.R_below (by (with_reducible repeat (first | apply Kd.R_alloc | apply Kd.R_drewN | apply Kd.R_drew)); exact HO155.out) hb); have n1_ := Aside0.mk (Kd.R_below (by (with_reducible repeat (first | apply Kd.R_alloc | apply Kd.R_drewN | apply Kd.R_drew)); exact HO158.out) hb); have n2_ := Aside0.mk (Kd.R_lower ho14 (below_size (by repeat (first | (with_reducible first | exact HB.out | apply below_alloc | apply pw_below_drewN | apply below_drew1) | exact HB.out)))); have n3_ := Aside0.mk (below_step (by repeat (first | (with_reducible first | exact HB.out | apply below_alloc | apply pw_below_drewN | apply below_drew1) | exact HB.out)) hb); clear HO155; clear HO158; clear HB; have HO155 := n0_; have HO158 := n1_; have HO161 := n2_; have HB := n3_; clear n0_ n1_ n2_ n3_; clear hb ho14; obtain ⟨Ao15, co15, eo15⟩ := Kd.R_slice HO155.out; subst eo15) | ((with_reducible refine gate_callee (f := 12) rfl ?_); refine goesL_ (some 21) rfl rfl Tryd.func12 (by kernel_rfl) rfl #[.int .i64 a0, .int .i64 (y153.length : Int)] rfl (by (try simp only [List.map_toArray, List.map_cons, List.map_nil]); first | done | rfl | (simp only [List.length_drop, List.length_take]; rfl)) ?_; (with_reducible refine (thyrsuslaw3_within.calls a0 (y153.length : Int) t162 _ A4.out).mono ?_); rintro e w' ⟨rfl, ⟨nd, rfl⟩⟩; refine ⟨_, rfl, ?_⟩; have p163 : 0 ≤ (t162 : Int) := of_decide_eq_true (by first | (with_reducible assumption) | assumption); have q163 : t162 < (y153.length : Int) := of_decide_eq_true (by first | (with_reducible assumption) | assumption); obtain ⟨ad163, e163, hx163_0⟩ := Kd.at_string (Kd.R_reads' HO155.out).2.2 t162 p163 q163; cases e163; replace p163 := eq_true p163; replace q163 := eq_true q163) | ((with_reducible refine gate_callee (f := 13) rfl ?_); refine goesL_ (some 27) rfl rfl Tryd.func13 (by kernel_rfl) rfl #[.string (rdOf ByteArray.empty y153 t162)] rfl (by (try simp only [List.map_toArray, List.map_cons, List.map_nil]); first | done | rfl | (simp only [List.length_drop, List.length_take]; rfl)) ?_; (with_reducible refine (forms_Parse.calls (rdOf ByteArray.empty y153 t162) t164 t165 t166 _ A7.out).mono ?_); rintro e w16 ⟨v167, rfl, ho0, hb⟩; refine ⟨_, rfl, ?_⟩; have n0_ := Aside0.mk (Kd.R_below (by (with_reducible repeat (first | apply Kd.R_alloc | apply Kd.R_drewN | apply Kd.R_drew)); exact HO155.out) hb); have n1_ := Aside0.mk (Kd.R_below (by (with_reducible repeat (first | apply Kd.R_alloc | apply Kd.R_drewN | apply Kd.R_drew)); exact HO158.out) hb); have n2_ := Aside0.mk (Kd.R_below (by (with_reducible repeat (first | apply Kd.R_alloc | apply Kd.R_drewN | apply Kd.R_drew)); exact HO161.out) hb); have n3_ := Aside0.mk (Kd.N_lower (Kd.N_mono (ok' := fun k_ => some k_ ≠ (.slice (some ad163) y153.length co15 : Value).ownBlock ∧ some k_ ≠ (v157 : Value).ownBlock ∧ some k_ ≠ (v160 : Value).ownBlock) (Kd.R_N (Kd.R_bound ho0)) (fun k_ hk_ => ⟨(Kd.fresh' (Kd.R_lt (by (with_reducible repeat (first | apply Kd.R_alloc | apply Kd.R_drewN | apply Kd.R_drew)); exact HO155.out)) k_ hk_.2.1), (Kd.fresh' (Kd.R_lt (by (with_reducible repeat (first | apply Kd.R_alloc | apply Kd.R_drewN | apply Kd.R_drew)); exact HO158.out)) k_ hk_.2.1), (Kd.fresh' (Kd.R_lt (by (with_reducible repeat (first | apply Kd.R_alloc | apply Kd.R_drewN | apply Kd.R_drew)); exact HO161.out)) k_ hk_.2.1)⟩)) (below_size (by repeat (first | (with_reducible first | exact HB.out | apply below_alloc | apply pw_below_drewN | apply below_drew1) | exact HB.out)))); have n4_ := Aside0.mk (below_step (by repeat (first | (with_reducible first | exact HB.out | apply below_alloc | apply pw_below_drewN | apply below_drew1) | exact HB.out)) hb); clear HO155; clear HO158; clear HO161; clear HB; have HO155 := n0_; have HO158 := n1_; have HO161 := n2_; have HO168 := n3_; have HB := n4_; clear n0_ n1_ n2_ n3_ n4_; (try clear hb); (try clear hb2); (try clear hk); (try clear hi); (try clear ho0)))
        go_loopg [10, 11] k (fun kq v10 v11 w' => ∃ (x10_1 : ByteArray) (x11_1 : Int), v10 = .string x10_1 ∧ v11 = .int .i64 x11_1 ∧ Aside0 (thyrsuslaw3_FormsKnown.l0 kq y156 y159 t162 t164 t165 t166 x10_1 x11_1 = some r) ∧ Aside0 (kq ≤ k) ∧ Aside0 (Kd.R Kd.string 9 w' w.heap.size (fun _ => True) v157 y156) ∧ Aside0 (Kd.R (Kd.int .i64) 3 w' w.heap.size (fun _ => True) v160 y159) ∧ Aside0 (Kd.N k42 42 w' w.heap.size (fun k_ => some k_ ≠ (v157 : Value).ownBlock ∧ some k_ ≠ (v160 : Value).ownBlock) v167 t164) ∧ Aside0 (Below w.heap.size w w'))
        case atStart => exact ⟨((⟨#[]⟩ : ByteArray)), (0), (by first | rfl | (simp; done) | (simp [*]; done)), (by first | rfl | (simp; done) | (simp [*]; done)), H', ⟨Nat.le_refl _⟩, ⟨by (with_reducible repeat (first | apply Kd.R_alloc | apply Kd.R_drewN | apply Kd.R_drew)); exact Kd.R_mono HO158.out (fun _ hk => trivial)⟩, ⟨by (with_reducible repeat (first | apply Kd.R_alloc | apply Kd.R_drewN | apply Kd.R_drew)); exact HO161.out⟩, ⟨by (with_reducible repeat (first | apply Kd.N_alloc | apply Kd.N_drewN | apply Kd.N_drew)); exact Kd.N_mono HO168.out (fun _ hk => ⟨hk.2.1, hk.2.2⟩)⟩, ⟨by repeat (first | (with_reducible first | exact HB.out | apply below_alloc | apply pw_below_drewN | apply below_drew1) | exact HB.out)⟩⟩
        case round =>
          clear H'
          try clear c1
          try clear p1
          try clear q1
          try clear hx1
          try clear p2
          try clear c3
          try clear c5
          try clear c5b0
          try clear c6
          try clear c6b0
          try clear c10
          try clear c12
          try clear c13
          try clear p16
          try clear q16
          try clear hx16
          try clear hx163_0
          try clear p163
          try clear q163
          try clear HO_4
          try clear HO_5
          try clear HO_7
          try clear HB
          obtain ⟨x10_1, x11_1, rfl, rfl, HA, HK1, HO_4, HO_5, HO_7, HB⟩ := hrel
          cases gk with
          | zero => exact absurd HA.out (by simp [thyrsuslaw3_FormsKnown.l0])
          | succ k1 =>
            have H := HA.out
            clear HA
            simp only [thyrsuslaw3_FormsKnown.l0] at H
            by_cases c17 : x11_1 < (t164.length : Int)
            · rw [if_pos c17] at H
              have c17b0 : decide (x11_1 < (t164.length : Int)) = true := decide_eq_true c17
              clear c17
              by_cases c18 : 0 ≤ x11_1
              · rw [if_pos c18] at H
                have c18b0 : decide (0 ≤ x11_1) = true := decide_eq_true c18
                clear c18
                replace H := Option.bind_eq_some_iff.mp H
                obtain ⟨t170, A190, H⟩ := H
                replace H : (if x10_1.size + t170.size ≤ 9223372036854775807 then (if (x10_1 ++ t170).size + 1 ≤ 9223372036854775807 then (thyrsuslaw3_FormsKnown.l0 k1 y156 y159 t162 t164 t165 t166 ((x10_1 ++ t170) ++ (⟨#[32]⟩ : ByteArray)) (wrap64 (x11_1 + 1))) else (none)) else (none)) = some r := H
                have A19 := Aside0.mk A190
                clear A190
                by_cases c20 : x10_1.size + t170.size ≤ 9223372036854775807
                · rw [if_pos c20] at H
                  have c20b0 := eq_true c20
                  have c20b1 : decide (x10_1.size + t170.size ≤ 9223372036854775807) = true := decide_eq_true c20
                  try have c20b2 : (9223372036854775807 < x10_1.size + t170.size) = False := eq_false (Nat.not_lt.2 c20)
                  by_cases c21 : (x10_1 ++ t170).size + 1 ≤ 9223372036854775807
                  · rw [if_pos c21] at H
                    have c21b0 := eq_true c21
                    have c21b1 : decide ((x10_1 ++ t170).size + 1 ≤ 9223372036854775807) = true := decide_eq_true c21
                    try have c21b2 : (9223372036854775807 < (x10_1 ++ t170).size + 1) = False := eq_false (Nat.not_lt.2 c21)
                    have c21n := c21
                    try simp only [ByteArray.size_append, szA1, szA2] at c21n
                    have c21b3 := eq_false (Nat.not_lt.2 c21n)
                    clear c21n
                    have H' := Aside0.mk H
                    clear H
                    obtain ⟨Ao22, co22, eo22⟩ := Kd.N_slice HO_7.out
                    subst eo22
                    have p169 : 0 ≤ (x11_1 : Int) := of_decide_eq_true (by first | (with_reducible assumption) | assumption)
                    have q169 : x11_1 < (t164.length : Int) := of_decide_eq_true (by first | (with_reducible assumption) | assumption)
                    obtain ⟨ad169, A169_3, c169_3, e169, hx169_0, hx169_1, hx169_2, hx169_3, hl169_3, hi169_3⟩ := at_T42 (Kd.N_reads' HO_7.out).2.2 x11_1 p169 q169
                    cases e169
                    obtain ⟨ce169, hce169, hMe169, hcc169⟩ := Kd.N_get HO_7.out z42 x11_1 p169 (by first | exact q169 | exact of_decide_eq_true (by first | (with_reducible assumption) | assumption) | (have e_ := (Kd.N_reads' HO_7.out).1; omega))
                    obtain ⟨ua169_3, uc169_3, rfl, ul169_3, ge169_3⟩ := k42_openF hMe169
                    have hv169_3 := hcc169 3 _ rfl
                    rw [add_field _ _ 3 (by omega)] at hv169_3
                    replace hv169_3 := Option.some.inj (hv169_3.symm.trans hx169_3)
                    injection hv169_3 with hva_ hvn_ hvc_
                    rw [hva_] at ge169_3
                    rw [hvc_] at ul169_3
                    have HL169_3 := Aside0.mk (show Kd.V k42 42 _ w.heap.size _ _ ((rd_T42 t164 x11_1).f3) from Kd.V_mk ul169_3 ge169_3)
                    clear hva_ hvn_ hvc_ ge169_3 ul169_3
                    clear hcc169 hce169
                    have HR169_3 := Aside0.mk hi169_3
                    have HC169_3 := Aside0.mk hl169_3
                    clear hi169_3 hl169_3
                    replace p169 := eq_true p169
                    replace q169 := eq_true q169
                    go_wp2_with (first | ((with_reducible refine gate_callee (f := 19) rfl ?_); refine goesL_ (some 42) rfl rfl Tryd.func19 (by kernel_rfl) rfl #[.agg #[.int .i64 ((rd_T42 t164 x11_1).f0), .int .i64 ((rd_T42 t164 x11_1).f1), .string ((rd_T42 t164 x11_1).f2), .slice A169_3 ((rd_T42 t164 x11_1).f3).length c169_3]] rfl (by (try simp only [List.map_toArray, List.map_cons, List.map_nil]); first | done | rfl | (simp only [List.length_drop, List.length_take]; rfl)) ?_; (with_reducible refine (forms_Text.calls k1 ((rd_T42 t164 x11_1).f0) ((rd_T42 t164 x11_1).f1) ((rd_T42 t164 x11_1).f2) _ _ ((rd_T42 t164 x11_1).f3) t170 _ ?sideT ?side1 ?side2 A19.out).mono ?_); (case sideT => exact TabP.below HTB.out (by repeat (first | (with_reducible first | exact HB.out | apply below_alloc | apply pw_below_drewN | apply below_drew1) | exact HB.out))); (case side1 => repeat (first | exact (by repeat (first | (with_reducible exact HR169_3.out) | (with_reducible refine Kd.C_alloc ?_ _) | (with_reducible refine Kd.C_drewN ?_ _) | (with_reducible refine Kd.C_drew ?_) | exact HR169_3.out)) | (with_reducible refine Kd.C_alloc ?_ _) | (with_reducible refine Kd.C_drewN ?_ _) | (with_reducible refine Kd.C_drew ?_))); (case side2 => exact HC169_3.out); rintro e w23 ⟨rfl, hb⟩; refine ⟨_, rfl, ?_⟩; have n0_ := Aside0.mk (Kd.R_below (by (with_reducible repeat (first | apply Kd.R_alloc | apply Kd.R_drewN | apply Kd.R_drew)); exact HO_4.out) hb); have n1_ := Aside0.mk (Kd.R_below (by (with_reducible repeat (first | apply Kd.R_alloc | apply Kd.R_drewN | apply Kd.R_drew)); exact HO_5.out) hb); have n2_ := Aside0.mk (Kd.N_below (by (with_reducible repeat (first | apply Kd.N_alloc | apply Kd.N_drewN | apply Kd.N_drew)); exact HO_7.out) hb); have n3_ := Aside0.mk (Kd.V_below (by (with_reducible repeat (first | apply Kd.V_alloc | apply Kd.V_drewN | apply Kd.V_drew)); exact HL169_3.out) hb); have n4_ := Aside0.mk (Kd.C_below (by repeat (first | (with_reducible exact HR169_3.out) | (with_reducible refine Kd.C_alloc ?_ _) | (with_reducible refine Kd.C_drewN ?_ _) | (with_reducible refine Kd.C_drew ?_) | exact HR169_3.out)) hb); have n5_ := Aside0.mk (below_step (by repeat (first | (with_reducible first | exact HB.out | apply below_alloc | apply pw_below_drewN | apply below_drew1) | exact HB.out)) hb); clear HO_4; clear HO_5; clear HO_7; clear HL169_3; clear HR169_3; clear HB; have HO_4 := n0_; have HO_5 := n1_; have HO_7 := n2_; have HL169_3 := n3_; have HR169_3 := n4_; have HB := n5_; clear n0_ n1_ n2_ n3_ n4_ n5_; (try clear hb); (try clear hb2); (try clear hk); (try clear hi)))
                    go_roundg k1
                    case measure => have := HK1.out; omega
                    case rel => exact ⟨((x10_1 ++ t170) ++ (⟨#[32]⟩ : ByteArray)), (wrap64 (x11_1 + 1)), (by first | rfl | (simp; done) | (simp [*]; done)), (by first | rfl | (simp; done) | (simp [*]; done)), H', ⟨by have := HK1.out; omega⟩, ⟨by (with_reducible repeat (first | apply Kd.R_alloc | apply Kd.R_drewN | apply Kd.R_drew)); exact HO_4.out⟩, ⟨by (with_reducible repeat (first | apply Kd.R_alloc | apply Kd.R_drewN | apply Kd.R_drew)); exact HO_5.out⟩, ⟨by (with_reducible repeat (first | apply Kd.N_alloc | apply Kd.N_drewN | apply Kd.N_drew)); exact HO_7.out⟩, ⟨by repeat (first | (with_reducible first | exact HB.out | apply below_alloc | apply pw_below_drewN | apply below_drew1) | exact HB.out)⟩⟩
                  · rw [if_neg c21] at H
                    exact absurd H (by simp)
                · rw [if_neg c20] at H
                  exact absurd H (by simp)
              · rw [if_neg c18] at H
                exact absurd H (by simp)
            · rw [if_neg c17] at H
              have c17b0 : decide (x11_1 < (t164.length : Int)) = false := decide_eq_false c17
              clear c17
              have HC24 := Aside0.mk H
              clear H
              obtain ⟨Ao25, co25, eo25⟩ := Kd.N_slice HO_7.out
              subst eo25
              go_upto_region 14 with (fail)
              go_cut [54] (fun v54 wc => ∃ (kq : Nat) (x54_23 : Bool), v54 = .bool x54_23 ∧ Aside0 (thyrsuslaw3_FormsKnown.j1 kq y156 y159 t162 t165 t166 x10_1 0 x54_23 = some r) ∧ Aside0 (kq ≤ k1) ∧ Aside0 (Kd.R Kd.string 9 wc w.heap.size (fun _ => True) v157 y156) ∧ Aside0 (Kd.R (Kd.int .i64) 3 wc w.heap.size (fun _ => True) v160 y159) ∧ Aside0 (Below w.heap.size w wc))
              case first =>
                have H := HC24.out
                clear HC24
                by_cases c26 : t162 ≥ 4
                · rw [if_pos c26] at H
                  have c26b0 : decide (4 ≤ t162) = true := decide_eq_true c26
                  clear c26
                  (first | rw [c26b0] | (simp only [i64_w, i32_w, u8_w, u32_w]; rw [c26b0]) | skip)
                  by_cases c27 : t162 ≤ 8
                  · rw [if_pos c27] at H
                    have c27b0 : decide (t162 ≤ 8) = true := decide_eq_true c27
                    clear c27
                    have H' := Aside0.mk H
                    clear H
                    go_wp2
                    go_meet
                    case rel => exact ⟨_, (true), (by first | rfl | (simp; done) | (simp [*]; done)), H', ⟨by have := HK1.out; first | omega | exact Nat.le_refl _⟩, ⟨by (with_reducible repeat (first | apply Kd.R_alloc | apply Kd.R_drewN | apply Kd.R_drew)); exact HO_4.out⟩, ⟨by (with_reducible repeat (first | apply Kd.R_alloc | apply Kd.R_drewN | apply Kd.R_drew)); exact HO_5.out⟩, ⟨by repeat (first | (with_reducible first | exact HB.out | apply below_alloc | apply pw_below_drewN | apply below_drew1) | exact HB.out)⟩⟩
                  · rw [if_neg c27] at H
                    have c27b0 : decide (t162 ≤ 8) = false := decide_eq_false c27
                    clear c27
                    have H' := Aside0.mk H
                    clear H
                    go_wp2
                    go_meet
                    case rel => exact ⟨_, ((t162 == 11)), (by first | rfl | (simp; done) | (simp [*]; done)), H', ⟨by have := HK1.out; first | omega | exact Nat.le_refl _⟩, ⟨by (with_reducible repeat (first | apply Kd.R_alloc | apply Kd.R_drewN | apply Kd.R_drew)); exact HO_4.out⟩, ⟨by (with_reducible repeat (first | apply Kd.R_alloc | apply Kd.R_drewN | apply Kd.R_drew)); exact HO_5.out⟩, ⟨by repeat (first | (with_reducible first | exact HB.out | apply below_alloc | apply pw_below_drewN | apply below_drew1) | exact HB.out)⟩⟩
                · rw [if_neg c26] at H
                  have c26b0 : decide (4 ≤ t162) = false := decide_eq_false c26
                  clear c26
                  (first | rw [c26b0] | (simp only [i64_w, i32_w, u8_w, u32_w]; rw [c26b0]) | skip)
                  have H' := Aside0.mk H
                  clear H
                  go_wp2
                  go_meet
                  case rel => exact ⟨_, ((t162 == 11)), (by first | rfl | (simp; done) | (simp [*]; done)), H', ⟨by have := HK1.out; first | omega | exact Nat.le_refl _⟩, ⟨by (with_reducible repeat (first | apply Kd.R_alloc | apply Kd.R_drewN | apply Kd.R_drew)); exact HO_4.out⟩, ⟨by (with_reducible repeat (first | apply Kd.R_alloc | apply Kd.R_drewN | apply Kd.R_drew)); exact HO_5.out⟩, ⟨by repeat (first | (with_reducible first | exact HB.out | apply below_alloc | apply pw_below_drewN | apply below_drew1) | exact HB.out)⟩⟩
              case rest =>
                clear HC24
                try clear c1
                try clear p1
                try clear q1
                try clear hx1
                try clear c2
                try clear p2
                try clear c3
                try clear c5
                try clear c5b0
                try clear c6
                try clear c6b0
                try clear p6
                try clear c10
                try clear c12
                try clear c13
                try clear c16
                try clear p16
                try clear q16
                try clear hx16
                try clear c17
                try clear c17b0
                try clear c18
                try clear c18b0
                try clear c19
                try clear c20
                try clear c20b0
                try clear c20b1
                try clear c20b2
                try clear c21
                try clear c21b0
                try clear c21b1
                try clear c21b2
                try clear c26
                try clear c26b0
                try clear c27
                try clear c27b0
                try clear hx163_0
                try clear hx169_0
                try clear hx169_1
                try clear hx169_2
                try clear hx169_3
                try clear p1
                try clear p16
                try clear p163
                try clear p169
                try clear p2
                try clear q1
                try clear q16
                try clear q163
                try clear q169
                obtain ⟨kq, x54_23, rfl, HA, HJ23, HO_4, HO_5, HB⟩ := hcut
                cases kq with
                | zero => exact absurd HA.out (by simp [thyrsuslaw3_FormsKnown.j1])
                | succ kj23 =>
                  have H := HA.out
                  clear HA
                  simp only [thyrsuslaw3_FormsKnown.j1] at H
                  by_cases c28 : x54_23 = true
                  · subst c28
                    have H1 : (if t162 = 10 then (if 0 ≤ t162 then (if t162 < (y156.length : Int) then (if x10_1.toList = (rdOf ByteArray.empty y156 t162).toList then (if t162 < (y159.length : Int) then (if t165 = (rd y159 t162) then (some (t166 == 6)) else (none)) else (none)) else (none)) else (none)) else (none)) else (if 0 ≤ t162 then (if t162 < (y156.length : Int) then (if x10_1.toList = (rdOf ByteArray.empty y156 t162).toList then (if t162 < (y159.length : Int) then (if t165 = (rd y159 t162) then (some (t166 == 7)) else (none)) else (none)) else (none)) else (none)) else (none))) = some r := by rw [if_pos rfl] at H; exact H
                    clear H
                    have H := H1
                    clear H1
                    by_cases c29 : t162 = 10
                    · rw [if_pos c29] at H
                      have c29b0 : (t162 == 10) = true := beq_iff_eq.mpr c29
                      have c29b1 : (t162 != 10) = false := bne_eq_false_iff_eq.mpr c29
                      clear c29
                      by_cases c30 : 0 ≤ t162
                      · rw [if_pos c30] at H
                        have c30b0 : decide (0 ≤ t162) = true := decide_eq_true c30
                        clear c30
                        by_cases c31 : t162 < (y156.length : Int)
                        · rw [if_pos c31] at H
                          have c31b0 : decide (t162 < (y156.length : Int)) = true := decide_eq_true c31
                          clear c31
                          by_cases c32 : x10_1.toList = (rdOf ByteArray.empty y156 t162).toList
                          · rw [if_pos c32] at H
                            have c32b0 : (x10_1.toList == (rdOf ByteArray.empty y156 t162).toList) = true := beq_iff_eq.mpr c32
                            have c32b1 : (x10_1.toList != (rdOf ByteArray.empty y156 t162).toList) = false := bne_eq_false_iff_eq.mpr c32
                            clear c32
                            by_cases c33 : t162 < (y159.length : Int)
                            · rw [if_pos c33] at H
                              have c33b0 : decide (t162 < (y159.length : Int)) = true := decide_eq_true c33
                              clear c33
                              by_cases c34 : t165 = (rd y159 t162)
                              · rw [if_pos c34] at H
                                have c34b0 : (t165 == (rd y159 t162)) = true := beq_iff_eq.mpr c34
                                have c34b1 : (t165 != (rd y159 t162)) = false := bne_eq_false_iff_eq.mpr c34
                                clear c34
                                obtain rfl := Option.some.inj H
                                obtain ⟨Ao35, co35, eo35⟩ := Kd.R_slice HO_4.out
                                subst eo35
                                have p171 : 0 ≤ (t162 : Int) := of_decide_eq_true (by first | (with_reducible assumption) | assumption)
                                have q171 : t162 < (y156.length : Int) := of_decide_eq_true (by first | (with_reducible assumption) | assumption)
                                obtain ⟨ad171, e171, hx171_0⟩ := Kd.at_string (Kd.R_reads' HO_4.out).2.2 t162 p171 q171
                                cases e171
                                replace p171 := eq_true p171
                                replace q171 := eq_true q171
                                obtain ⟨Ao36, co36, eo36⟩ := Kd.R_slice HO_5.out
                                subst eo36
                                have p172 : 0 ≤ (t162 : Int) := of_decide_eq_true (by first | (with_reducible assumption) | assumption)
                                have q172 : t162 < (y159.length : Int) := of_decide_eq_true (by first | (with_reducible assumption) | assumption)
                                obtain ⟨ad172, e172, hx172_0⟩ := Kd.at_int (Kd.R_reads' HO_5.out).2.2 t162 p172 q172
                                cases e172
                                replace p172 := eq_true p172
                                replace q172 := eq_true q172
                                go_wp2
                                go_ret
                                exact ⟨by first | rfl | (simp [errW_none, errW_some] <;> rfl) | (simp [*, errW_none, errW_some] <;> rfl), by repeat (first | (with_reducible first | exact HB.out | apply below_alloc | apply pw_below_drewN | apply below_drew1) | exact HB.out)⟩
                              · rw [if_neg c34] at H
                                exact absurd H (by simp)
                            · rw [if_neg c33] at H
                              exact absurd H (by simp)
                          · rw [if_neg c32] at H
                            exact absurd H (by simp)
                        · rw [if_neg c31] at H
                          exact absurd H (by simp)
                      · rw [if_neg c30] at H
                        exact absurd H (by simp)
                    · rw [if_neg c29] at H
                      have c29b0 : (t162 == 10) = false := beq_eq_false_iff_ne.mpr c29
                      have c29b1 : (t162 != 10) = true := bne_iff_ne.mpr c29
                      by_cases c37 : 0 ≤ t162
                      · rw [if_pos c37] at H
                        have c37b0 : decide (0 ≤ t162) = true := decide_eq_true c37
                        clear c37
                        by_cases c38 : t162 < (y156.length : Int)
                        · rw [if_pos c38] at H
                          have c38b0 : decide (t162 < (y156.length : Int)) = true := decide_eq_true c38
                          clear c38
                          by_cases c39 : x10_1.toList = (rdOf ByteArray.empty y156 t162).toList
                          · rw [if_pos c39] at H
                            have c39b0 : (x10_1.toList == (rdOf ByteArray.empty y156 t162).toList) = true := beq_iff_eq.mpr c39
                            have c39b1 : (x10_1.toList != (rdOf ByteArray.empty y156 t162).toList) = false := bne_eq_false_iff_eq.mpr c39
                            clear c39
                            by_cases c40 : t162 < (y159.length : Int)
                            · rw [if_pos c40] at H
                              have c40b0 : decide (t162 < (y159.length : Int)) = true := decide_eq_true c40
                              clear c40
                              by_cases c41 : t165 = (rd y159 t162)
                              · rw [if_pos c41] at H
                                have c41b0 : (t165 == (rd y159 t162)) = true := beq_iff_eq.mpr c41
                                have c41b1 : (t165 != (rd y159 t162)) = false := bne_eq_false_iff_eq.mpr c41
                                clear c41
                                obtain rfl := Option.some.inj H
                                obtain ⟨Ao42, co42, eo42⟩ := Kd.R_slice HO_4.out
                                subst eo42
                                have p173 : 0 ≤ (t162 : Int) := of_decide_eq_true (by first | (with_reducible assumption) | assumption)
                                have q173 : t162 < (y156.length : Int) := of_decide_eq_true (by first | (with_reducible assumption) | assumption)
                                obtain ⟨ad173, e173, hx173_0⟩ := Kd.at_string (Kd.R_reads' HO_4.out).2.2 t162 p173 q173
                                cases e173
                                replace p173 := eq_true p173
                                replace q173 := eq_true q173
                                obtain ⟨Ao43, co43, eo43⟩ := Kd.R_slice HO_5.out
                                subst eo43
                                have p174 : 0 ≤ (t162 : Int) := of_decide_eq_true (by first | (with_reducible assumption) | assumption)
                                have q174 : t162 < (y159.length : Int) := of_decide_eq_true (by first | (with_reducible assumption) | assumption)
                                obtain ⟨ad174, e174, hx174_0⟩ := Kd.at_int (Kd.R_reads' HO_5.out).2.2 t162 p174 q174
                                cases e174
                                replace p174 := eq_true p174
                                replace q174 := eq_true q174
                                go_wp2
                                go_ret
                                exact ⟨by first | rfl | (simp [errW_none, errW_some] <;> rfl) | (simp [*, errW_none, errW_some] <;> rfl), by repeat (first | (with_reducible first | exact HB.out | apply below_alloc | apply pw_below_drewN | apply below_drew1) | exact HB.out)⟩
                              · rw [if_neg c41] at H
                                exact absurd H (by simp)
                            · rw [if_neg c40] at H
                              exact absurd H (by simp)
                          · rw [if_neg c39] at H
                            exact absurd H (by simp)
                        · rw [if_neg c38] at H
                          exact absurd H (by simp)
                      · rw [if_neg c37] at H
                        exact absurd H (by simp)
                  · replace c28 := Bool.eq_false_iff.mpr c28
                    subst c28
                    have H1 : (if t162 = 10 then (if 0 ≤ t162 then (if t162 < (y156.length : Int) then (if x10_1.toList = (rdOf ByteArray.empty y156 t162).toList then (if t162 < (y159.length : Int) then (if t165 = (rd y159 t162) then (some (t166 == 6)) else (none)) else (none)) else (none)) else (none)) else (none)) else (if 0 ≤ t162 then (if t162 < (y156.length : Int) then (if x10_1.toList = (rdOf ByteArray.empty y156 t162).toList then (if t162 < (y159.length : Int) then (if t165 = (rd y159 t162) then (some (t166 == 0)) else (none)) else (none)) else (none)) else (none)) else (none))) = some r := by rw [if_neg (show ¬ (false = true) by decide)] at H; exact H
                    clear H
                    have H := H1
                    clear H1
                    by_cases c44 : t162 = 10
                    · rw [if_pos c44] at H
                      have c44b0 : (t162 == 10) = true := beq_iff_eq.mpr c44
                      have c44b1 : (t162 != 10) = false := bne_eq_false_iff_eq.mpr c44
                      clear c44
                      by_cases c45 : 0 ≤ t162
                      · rw [if_pos c45] at H
                        have c45b0 : decide (0 ≤ t162) = true := decide_eq_true c45
                        clear c45
                        by_cases c46 : t162 < (y156.length : Int)
                        · rw [if_pos c46] at H
                          have c46b0 : decide (t162 < (y156.length : Int)) = true := decide_eq_true c46
                          clear c46
                          by_cases c47 : x10_1.toList = (rdOf ByteArray.empty y156 t162).toList
                          · rw [if_pos c47] at H
                            have c47b0 : (x10_1.toList == (rdOf ByteArray.empty y156 t162).toList) = true := beq_iff_eq.mpr c47
                            have c47b1 : (x10_1.toList != (rdOf ByteArray.empty y156 t162).toList) = false := bne_eq_false_iff_eq.mpr c47
                            clear c47
                            by_cases c48 : t162 < (y159.length : Int)
                            · rw [if_pos c48] at H
                              have c48b0 : decide (t162 < (y159.length : Int)) = true := decide_eq_true c48
                              clear c48
                              by_cases c49 : t165 = (rd y159 t162)
                              · rw [if_pos c49] at H
                                have c49b0 : (t165 == (rd y159 t162)) = true := beq_iff_eq.mpr c49
                                have c49b1 : (t165 != (rd y159 t162)) = false := bne_eq_false_iff_eq.mpr c49
                                clear c49
                                obtain rfl := Option.some.inj H
                                obtain ⟨Ao50, co50, eo50⟩ := Kd.R_slice HO_4.out
                                subst eo50
                                have p175 : 0 ≤ (t162 : Int) := of_decide_eq_true (by first | (with_reducible assumption) | assumption)
                                have q175 : t162 < (y156.length : Int) := of_decide_eq_true (by first | (with_reducible assumption) | assumption)
                                obtain ⟨ad175, e175, hx175_0⟩ := Kd.at_string (Kd.R_reads' HO_4.out).2.2 t162 p175 q175
                                cases e175
                                replace p175 := eq_true p175
                                replace q175 := eq_true q175
                                obtain ⟨Ao51, co51, eo51⟩ := Kd.R_slice HO_5.out
                                subst eo51
                                have p176 : 0 ≤ (t162 : Int) := of_decide_eq_true (by first | (with_reducible assumption) | assumption)
                                have q176 : t162 < (y159.length : Int) := of_decide_eq_true (by first | (with_reducible assumption) | assumption)
                                obtain ⟨ad176, e176, hx176_0⟩ := Kd.at_int (Kd.R_reads' HO_5.out).2.2 t162 p176 q176
                                cases e176
                                replace p176 := eq_true p176
                                replace q176 := eq_true q176
                                go_wp2
                                go_ret
                                exact ⟨by first | rfl | (simp [errW_none, errW_some] <;> rfl) | (simp [*, errW_none, errW_some] <;> rfl), by repeat (first | (with_reducible first | exact HB.out | apply below_alloc | apply pw_below_drewN | apply below_drew1) | exact HB.out)⟩
                              · rw [if_neg c49] at H
                                exact absurd H (by simp)
                            · rw [if_neg c48] at H
                              exact absurd H (by simp)
                          · rw [if_neg c47] at H
                            exact absurd H (by simp)
                        · rw [if_neg c46] at H
                          exact absurd H (by simp)
                      · rw [if_neg c45] at H
                        exact absurd H (by simp)
                    · rw [if_neg c44] at H
                      have c44b0 : (t162 == 10) = false := beq_eq_false_iff_ne.mpr c44
                      have c44b1 : (t162 != 10) = true := bne_iff_ne.mpr c44
                      by_cases c52 : 0 ≤ t162
                      · rw [if_pos c52] at H
                        have c52b0 : decide (0 ≤ t162) = true := decide_eq_true c52
                        clear c52
                        by_cases c53 : t162 < (y156.length : Int)
                        · rw [if_pos c53] at H
                          have c53b0 : decide (t162 < (y156.length : Int)) = true := decide_eq_true c53
                          clear c53
                          by_cases c54 : x10_1.toList = (rdOf ByteArray.empty y156 t162).toList
                          · rw [if_pos c54] at H
                            have c54b0 : (x10_1.toList == (rdOf ByteArray.empty y156 t162).toList) = true := beq_iff_eq.mpr c54
                            have c54b1 : (x10_1.toList != (rdOf ByteArray.empty y156 t162).toList) = false := bne_eq_false_iff_eq.mpr c54
                            clear c54
                            by_cases c55 : t162 < (y159.length : Int)
                            · rw [if_pos c55] at H
                              have c55b0 : decide (t162 < (y159.length : Int)) = true := decide_eq_true c55
                              clear c55
                              by_cases c56 : t165 = (rd y159 t162)
                              · rw [if_pos c56] at H
                                have c56b0 : (t165 == (rd y159 t162)) = true := beq_iff_eq.mpr c56
                                have c56b1 : (t165 != (rd y159 t162)) = false := bne_eq_false_iff_eq.mpr c56
                                clear c56
                                obtain rfl := Option.some.inj H
                                obtain ⟨Ao57, co57, eo57⟩ := Kd.R_slice HO_4.out
                                subst eo57
                                have p177 : 0 ≤ (t162 : Int) := of_decide_eq_true (by first | (with_reducible assumption) | assumption)
                                have q177 : t162 < (y156.length : Int) := of_decide_eq_true (by first | (with_reducible assumption) | assumption)
                                obtain ⟨ad177, e177, hx177_0⟩ := Kd.at_string (Kd.R_reads' HO_4.out).2.2 t162 p177 q177
                                cases e177
                                replace p177 := eq_true p177
                                replace q177 := eq_true q177
                                obtain ⟨Ao58, co58, eo58⟩ := Kd.R_slice HO_5.out
                                subst eo58
                                have p178 : 0 ≤ (t162 : Int) := of_decide_eq_true (by first | (with_reducible assumption) | assumption)
                                have q178 : t162 < (y159.length : Int) := of_decide_eq_true (by first | (with_reducible assumption) | assumption)
                                obtain ⟨ad178, e178, hx178_0⟩ := Kd.at_int (Kd.R_reads' HO_5.out).2.2 t162 p178 q178
                                cases e178
                                replace p178 := eq_true p178
                                replace q178 := eq_true q178
                                go_wp2
                                go_ret
                                exact ⟨by first | rfl | (simp [errW_none, errW_some] <;> rfl) | (simp [*, errW_none, errW_some] <;> rfl), by repeat (first | (with_reducible first | exact HB.out | apply below_alloc | apply pw_below_drewN | apply below_drew1) | exact HB.out)⟩
                              · rw [if_neg c56] at H
                                exact absurd H (by simp)
                            · rw [if_neg c55] at H
                              exact absurd H (by simp)
                          · rw [if_neg c54] at H
                            exact absurd H (by simp)
                        · rw [if_neg c53] at H
                          exact absurd H (by simp)
                      · rw [if_neg c52] at H
                        exact absurd H (by simp)
      · rw [if_neg c6] at H
        exact absurd H (by simp)
    · rw [if_neg c5] at H
      exact absurd H (by simp)
  · replace c3 := Bool.eq_false_iff.mpr c3
    subst c3
    have H1 : (none) = some r := by rw [if_neg (show ¬ (false = true) by decide)] at H; exact H
    clear H
    have H := H1
    clear H1
    exact absurd H (by simp)

/-- THE ONE PURE STATEMENT of thyrsuslaw3_FormsKnown: yours. -/
def thyrsuslaw3_FormsKnown.Pure : Prop := ∀ (a0 : Int), (Lit.int .i64 a0).wf = true → ∃ k, thyrsuslaw3_FormsKnown.f k a0 = some true
theorem thyrsuslaw3_FormsKnown.walk (P : thyrsuslaw3_FormsKnown.Pure) (a0 : Int) (w : World) (hT : TabP w) (w0 : (Lit.int .i64 a0).wf = true) :
    Calls Tryd.prog 5 #[.int .i64 a0] w fun e w' => e = .returned (.bool true) ∧ Below w.heap.size w w' := by
  obtain ⟨k, h⟩ := P a0 w0
  refine (thyrsuslaw3_FormsKnown.calls k a0 true w hT h).mono ?_
  rintro e w' ⟨rfl, hd⟩
  exact ⟨rfl, hd⟩

-- GIVEN: function 17 (thyrsusref3_Text)
end Go.Proofs.YtkkmgahgejjhgaaDoor.P
