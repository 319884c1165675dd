/- Chapter 4, plainly: laws of shifting and of putting in. -/
import Derived.Test.YtcchfblekaaalaaDoorPureB
namespace Go.Proofs.YtcchfblekaaalaaDoor.Pure
open Go.RowKit Go.Proofs.YtcchfblekaaalaaDoor.P Go.Proofs.YtcchfblekaaalaaDoorW.PrintWords Go.Proofs.YtcchfblekaaalaaDoorW.PrintLast
set_option linter.unusedVariables false
theorem ea_var (q : Int → Int → S29) (ah b : Int) (l : List S29) : ea q ah ⟨1, b, l⟩ = q b ah := by rw [ea, if_pos rfl]
theorem ea_node (q : Int → Int → S29) (ah a b : Int) (l : List S29) (h : a ≠ 1) : ea q ah ⟨a, b, l⟩ = ⟨a, b, eas q ah a 0 l⟩ := by rw [ea, if_neg h]
theorem sh_node (x y ah a b : Int) (l : List S29) (h : a ≠ 1) : sh x y ah ⟨a, b, l⟩ = ⟨a, b, eas (shQ x y) ah a 0 l⟩ := ea_node _ _ _ _ _ h
/- size, depth, sound shape -/
mutual
theorem sh_size (x y : Int) : ∀ (t : S29) (ah : Int) {B : Int}, good B t → size29 (sh x y ah t) = size29 t
  | ⟨a, b, l⟩, ah, B, hg => by
    by_cases h : a = 1
    · subst h
      obtain ⟨hl, _⟩ := hg.2.1 rfl
      subst hl
      show size29 (ea _ _ _) = _
      rw [ea_var]
      rfl
    · show size29 (ea _ _ _) = _
      rw [ea_node _ _ _ _ _ h, size29, size29, shs_size x y l ah a 0 hg.2.2.2]
theorem shs_size (x y : Int) : ∀ (l : List S29) (ah a : Int) (i : Nat) {B : Int}, goods B l → sizes29 (eas (shQ x y) ah a i l) = sizes29 l
  | [], ah, a, i, B, hg => by rw [eas]
  | t :: l, ah, a, i, B, hg => by
    have h1 : size29 (ea (shQ x y) (ah + bnd a i) t) = size29 t := sh_size x y t (ah + bnd a i) hg.1
    rw [eas, sizes29, sizes29, shs_size x y l ah a (i + 1) hg.2]
    omega
end
mutual
theorem sh_deep (x y : Int) : ∀ (t : S29) (ah : Int) {B : Int}, good B t → deep29 (sh x y ah t) = deep29 t
  | ⟨a, b, l⟩, ah, B, hg => by
    by_cases h : a = 1
    · subst h
      obtain ⟨hl, _⟩ := hg.2.1 rfl
      subst hl
      show deep29 (ea _ _ _) = _
      rw [ea_var]
      rfl
    · show deep29 (ea _ _ _) = _
      rw [ea_node _ _ _ _ _ h, deep29, deep29, shs_deep x y l ah a 0 hg.2.2.2]
theorem shs_deep (x y : Int) : ∀ (l : List S29) (ah a : Int) (i : Nat) {B : Int}, goods B l → deeps29 (eas (shQ x y) ah a i l) = deeps29 l
  | [], ah, a, i, B, hg => by rw [eas]
  | t :: l, ah, a, i, B, hg => by
    have h1 : deep29 (ea (shQ x y) (ah + bnd a i) t) = deep29 t := sh_deep x y t (ah + bnd a i) hg.1
    rw [eas, deeps29, deeps29, shs_deep x y l ah a (i + 1) hg.2]
    omega
end
mutual
theorem sh_good {x y B : Int} (hx : 0 ≤ x) (hB : B + x ≤ 9223372036854775807) : ∀ (t : S29) (ah : Int), good B t → good (B + x) (sh x y ah t)
  | ⟨a, b, l⟩, ah, hg => by
    by_cases h : a = 1
    · subst h
      obtain ⟨hl, h1, h2⟩ := hg.2.1 rfl
      show good _ (ea _ _ _)
      rw [ea_var, shQ]
      by_cases hc : y ≤ b - ah
      · rw [if_pos hc]
        exact ⟨by omega, fun _ => ⟨rfl, by omega⟩, by simp, trivial⟩
      · rw [if_neg hc]
        exact ⟨by omega, fun _ => ⟨rfl, by omega⟩, by simp, trivial⟩
    · show good _ (ea _ _ _)
      rw [ea_node _ _ _ _ _ h]
      exact ⟨hg.1, fun h' => absurd h' h, by rw [eas_len]; exact hg.2.2.1, shs_good hx hB l ah a 0 hg.2.2.2⟩
theorem shs_good {x y B : Int} (hx : 0 ≤ x) (hB : B + x ≤ 9223372036854775807) : ∀ (l : List S29) (ah a : Int) (i : Nat), goods B l → goods (B + x) (eas (shQ x y) ah a i l)
  | [], ah, a, i, hg => by rw [eas]; trivial
  | t :: l, ah, a, i, hg => by
    rw [eas]
    exact ⟨sh_good hx hB t _ hg.1, shs_good hx hB l ah a (i + 1) hg.2⟩
end
/- shifted by none -/
mutual
theorem sh_zero (y : Int) : ∀ (t : S29) (ah : Int) {B : Int}, good B t → sh 0 y ah t = t
  | ⟨a, b, l⟩, ah, B, hg => by
    by_cases h : a = 1
    · subst h
      obtain ⟨hl, _⟩ := hg.2.1 rfl
      subst hl
      show ea _ _ _ = _
      rw [ea_var, shQ, Int.add_zero, ite_self]
    · rw [sh_node _ _ _ _ _ _ h, shs_zero y l ah a 0 hg.2.2.2]
theorem shs_zero (y : Int) : ∀ (l : List S29) (ah a : Int) (i : Nat) {B : Int}, goods B l → eas (shQ 0 y) ah a i l = l
  | [], ah, a, i, B, hg => by rw [eas]
  | t :: l, ah, a, i, B, hg => by
    have h1 := sh_zero y t (ah + bnd a i) hg.1
    rw [eas, shs_zero y l ah a (i + 1) hg.2]
    exact congrArg (· :: l) h1
end
/- shifted twice -/
mutual
theorem sh_sh {x z y : Int} (hx : 0 ≤ x) : ∀ (t : S29) (ah : Int), sh z y ah (sh x y ah t) = sh (x + z) y ah t
  | ⟨a, b, l⟩, ah => by
    by_cases h : a = 1
    · subst h
      show ea _ _ (ea _ _ _) = ea _ _ _
      rw [ea_var, ea_var, shQ, ea_var, shQ, shQ]
      by_cases hc : y ≤ b - ah
      · rw [if_pos hc, if_pos (by omega), if_pos hc, Int.add_assoc]
      · rw [if_neg hc, if_neg hc, if_neg hc]
    · show ea _ _ (ea _ _ _) = ea _ _ _
      rw [ea_node _ _ _ _ _ h, ea_node _ _ _ _ _ h, ea_node _ _ _ _ _ h, shs_shs hx l ah a 0]
theorem shs_shs {x z y : Int} (hx : 0 ≤ x) : ∀ (l : List S29) (ah a : Int) (i : Nat), eas (shQ z y) ah a i (eas (shQ x y) ah a i l) = eas (shQ (x + z) y) ah a i l
  | [], ah, a, i => by rw [eas, eas, eas]
  | t :: l, ah, a, i => by
    have h1 := sh_sh (z := z) (y := y) hx t (ah + bnd a i)
    rw [eas, eas, eas, shs_shs hx l ah a (i + 1)]
    exact congrArg (· :: _) h1
end
/- what is put for a variable that a shift left out is not there -/
mutual
theorem sb_sh {y : Int} (u : S29) : ∀ (t : S29) (ah : Int) {B : Int}, good B t → sb y u ah (sh 1 y ah t) = t
  | ⟨a, b, l⟩, ah, B, hg => by
    by_cases h : a = 1
    · subst h
      obtain ⟨hl, _⟩ := hg.2.1 rfl
      subst hl
      show ea _ _ (ea _ _ _) = _
      rw [ea_var, shQ, ea_var, sbQ]
      by_cases hc : y ≤ b - ah
      · rw [if_pos hc, if_pos (by omega), show b + 1 - 1 = b by omega]
      · rw [if_neg hc, if_neg (by omega), if_neg (by omega)]
    · show ea _ _ (ea _ _ _) = _
      rw [ea_node _ _ _ _ _ h, ea_node _ _ _ _ _ h, sbs_shs u l ah a 0 hg.2.2.2]
theorem sbs_shs {y : Int} (u : S29) : ∀ (l : List S29) (ah a : Int) (i : Nat) {B : Int}, goods B l → eas (sbQ y u) ah a i (eas (shQ 1 y) ah a i l) = l
  | [], ah, a, i, B, hg => by rw [eas, eas]
  | t :: l, ah, a, i, B, hg => by
    have h1 := sb_sh (y := y) u t (ah + bnd a i) hg.1
    rw [eas, eas, sbs_shs u l ah a (i + 1) hg.2]
    exact congrArg (· :: l) h1
end
mutual
theorem free_sh {y : Int} : ∀ (t : S29) (ah : Int), free y ah (sh 1 y ah t) = false
  | ⟨a, b, l⟩, ah => by
    by_cases h : a = 1
    · subst h
      show sa _ _ (ea _ _ _) = _
      rw [ea_var, shQ, sa, if_pos rfl, frP]
      by_cases hc : y ≤ b - ah
      · rw [if_pos hc, decide_eq_false (by omega), Bool.false_and]
      · rw [if_neg hc, decide_eq_false (by omega), Bool.false_and]
    · show sa _ _ (ea _ _ _) = _
      rw [ea_node _ _ _ _ _ h, sa, if_neg h, frees_sh l ah a 0]
theorem frees_sh {y : Int} : ∀ (l : List S29) (ah a : Int) (i : Nat), sas (frP y) ah a i (eas (shQ 1 y) ah a i l) = false
  | [], ah, a, i => by rw [eas, sas]
  | t :: l, ah, a, i => by
    have h1 : sa (frP y) (ah + bnd a i) (ea (shQ 1 y) (ah + bnd a i) t) = false := free_sh t (ah + bnd a i)
    rw [eas, sas, h1, frees_sh l ah a (i + 1)]
    rfl
end
end Go.Proofs.YtcchfblekaaalaaDoor.Pure
