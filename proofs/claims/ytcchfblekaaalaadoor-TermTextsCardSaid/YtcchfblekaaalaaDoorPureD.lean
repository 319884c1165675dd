/- Chapter 4, plainly: a term's size; how often a variable stands; the size of a term with another one put in. -/
import Derived.Test.YtcchfblekaaalaaDoorPureC
import Derived.Test.YtcchfblekaaalaaDoorMake
import Derived.Test.YtcchfblekaaalaaDoorQx4
namespace Go.Proofs.YtcchfblekaaalaaDoor.Pure
open Go.RowKit Go.Proofs.YtcchfblekaaalaaDoor.P Go.Proofs.YtcchfblekaaalaaDoorW.PrintWords Go.Proofs.YtcchfblekaaalaaDoorW.PrintLast Go.Proofs.YtcchfblekaaalaaDoorW.PrintMore
set_option linter.unusedVariables false
theorem cap6 : cap 6 = 5461 := by simp [cap]
theorem cap4 : cap 4 = 341 := by simp [cap]
mutual
theorem size_run {B : Int} : ∀ (t : S29) (k : Nat), good B t → size29 t ≤ 1000000000000 → 3 * size29 t ≤ k → term_Size.f k t.f0 t.f1 t.f2 = some (size29 t : Int)
  | ⟨a, b, l⟩, k, hg, hs, hk => by
    rw [size29] at hs hk ⊢
    obtain ⟨k, rfl⟩ : ∃ k', k = k' + 1 := ⟨k - 1, by omega⟩
    rw [term_Size.f]
    have := size_loop (B := B) l [] 1 k l rfl hg.2.2.2 hg.2.2.1 (by omega) (by omega)
    rw [List.length_nil] at this
    exact this
theorem size_loop {B : Int} : ∀ (r pre : List S29) (c k : Nat) (l : List S29), l = pre ++ r → goods B r → l.length ≤ 1000000 → c + sizes29 r ≤ 1000000000000 → 1 + 3 * sizes29 r ≤ k →
    term_Size.l0 k (c : Int) l (l.length : Int) (pre.length : Int) = some ((c + sizes29 r : Nat) : Int)
  | [], pre, c, k, l, hl, hg, hn, hs, hk => by
    obtain ⟨k, rfl⟩ : ∃ k', k = k' + 1 := ⟨k - 1, by omega⟩
    subst hl
    rw [term_Size.l0, if_neg (by simp), sizes29, Nat.add_zero]
  | x :: r, pre, c, k, l, hl, hg, hn, hs, hk => by
    rw [sizes29] at hk hs
    have hp := size_pos x
    obtain ⟨k, rfl⟩ : ∃ k', k = k' + 1 := ⟨k - 1, by omega⟩
    have hlen : l.length = pre.length + (r.length + 1) := by rw [hl, List.length_append, List.length_cons]
    have hx : rd_T29 l (pre.length : Int) = x := by
      rw [rd29 (show pre.length < l.length by omega)]
      subst hl
      simp
    have ih := size_loop (B := B) r (pre ++ [x]) (c + size29 x) k l (by rw [hl, List.append_assoc]; rfl) hg.2 hn (by omega) (by omega)
    rw [List.length_append, List.length_singleton] at ih
    rw [term_Size.l0, if_pos (by omega), if_pos (by omega), if_pos (by omega), hx, size_run x k hg.1 (by omega) (by omega), Option.bind_some, wrap_in (by omega) (by omega), wrap_in (by omega) (by omega), show (pre.length : Int) + 1 = ((pre.length + 1 : Nat) : Int) by omega, show (c : Int) + (size29 x : Int) = ((c + size29 x : Nat) : Int) by omega, ih, sizes29]
    congr 2
    omega
end
/- how often a variable stands -/
mutual
def pl : Int → S29 → Nat
  | n, ⟨a, b, l⟩ => if a = 1 then (if b = n then 1 else 0) else pls n a 0 l
def pls : Int → Int → Nat → List S29 → Nat
  | _, _, _, [] => 0
  | n, a, i, x :: l => pl (n + bnd a i) x + pls n a (i + 1) l
end
theorem bindersE (a i : Int) (k : Nat) (hk : 2 ≤ k) : thyrsusref4_Binders.f k a i = some (bnd a i) := by
  obtain ⟨k, rfl⟩ : ∃ k', k = k' + 2 := ⟨k - 2, by omega⟩
  unfold thyrsusref4_Binders.f bnd
  simp only [thyrsusref4_Binders.j0]
  repeat' split
  all_goals first | rfl | omega | simp_all
mutual
theorem pl_le : ∀ (t : S29) (n : Int), pl n t ≤ size29 t
  | ⟨a, b, l⟩, n => by
    rw [pl, size29]
    by_cases h : a = 1
    · rw [if_pos h]
      split <;> omega
    · rw [if_neg h]
      have := pls_le l n a 0
      omega
theorem pls_le : ∀ (l : List S29) (n a : Int) (i : Nat), pls n a i l ≤ sizes29 l
  | [], n, a, i => by rw [pls, sizes29]; exact Nat.le_refl _
  | x :: l, n, a, i => by
    have h1 := pl_le x (n + bnd a i)
    have h2 := pls_le l n a (i + 1)
    rw [pls, sizes29]
    omega
end
mutual
theorem pl_run {B : Int} : ∀ (t : S29) (n : Int) (k : Nat), good B t → size29 t ≤ 1000000000 → 0 ≤ n → n + 2 * deep29 t ≤ 1000000000 → 4 * size29 t + 2 ≤ k → thyrsuslaw4_places.f k t.f0 t.f1 t.f2 n = some (pl n t : Int)
  | ⟨a, b, l⟩, n, k, hg, hs, h0, hd, hk => by
    rw [size29] at hs hk
    rw [deep29] at hd
    obtain ⟨k, rfl⟩ : ∃ k', k = k' + 1 := ⟨k - 1, by omega⟩
    rw [thyrsuslaw4_places.f, pl]
    by_cases h : a = 1
    · rw [if_pos h, if_pos h]
      by_cases h' : b = n
      · rw [if_pos h', if_pos h']; rfl
      · rw [if_neg h', if_neg h']; rfl
    · rw [if_neg h, if_neg h]
      have := pl_loop (B := B) (a := a) (b := b) (n := n) h0 l [] 0 k l rfl hg.2.2.2 hg.2.2.1 (by omega) (by omega) (by omega)
      rw [List.length_nil, Nat.zero_add] at this
      exact this
theorem pl_loop {B a b n : Int} (h0 : 0 ≤ n) : ∀ (r pre : List S29) (c k : Nat) (l : List S29), l = pre ++ r → goods B r → l.length ≤ 1000000 → c + sizes29 r ≤ 1000000000 → n + 2 * (1 + deeps29 r) ≤ 1000000000 → 3 + 4 * sizes29 r ≤ k →
    thyrsuslaw4_places.l0 k n (c : Int) (pre.length : Int) a b l = some ((c + pls n a pre.length r : Nat) : Int)
  | [], pre, c, k, l, hl, hg, hn, hs, hd, hk => by
    obtain ⟨k, rfl⟩ : ∃ k', k = k' + 1 := ⟨k - 1, by omega⟩
    subst hl
    rw [thyrsuslaw4_places.l0, if_neg (by simp), pls, Nat.add_zero]
  | x :: r, pre, c, k, l, hl, hg, hn, hs, hd, hk => by
    rw [sizes29] at hk hs
    rw [deeps29] at hd
    have hp := size_pos x
    obtain ⟨k, rfl⟩ : ∃ k', k = k' + 1 := ⟨k - 1, by omega⟩
    have hlen : l.length = pre.length + (r.length + 1) := by rw [hl, List.length_append, List.length_cons]
    have hx : rd_T29 l (pre.length : Int) = x := by
      rw [rd29 (show pre.length < l.length by omega)]
      subst hl
      simp
    have hb := bnd_range a (pre.length : Int)
    have hpl := pl_le x (n + bnd a (pre.length : Int))
    have ih := pl_loop (B := B) (a := a) (b := b) h0 r (pre ++ [x]) (c + pl (n + bnd a (pre.length : Int)) x) k l (by rw [hl, List.append_assoc]; rfl) hg.2 hn (by omega) (by omega) (by omega)
    rw [List.length_append, List.length_singleton] at ih
    rw [thyrsuslaw4_places.l0, if_pos (by omega), if_pos (by omega), hx, bindersE _ _ _ (by omega), Option.bind_some, wrap_in (n := n + bnd a (pre.length : Int)) (by omega) (by omega), pl_run x _ k hg.1 (by omega) (by omega) (by omega) (by omega), Option.bind_some, wrap_in (by omega) (by omega), wrap_in (by omega) (by omega), show (pre.length : Int) + 1 = ((pre.length + 1 : Nat) : Int) by omega, show (c : Int) + (pl (n + bnd a (pre.length : Int)) x : Int) = ((c + pl (n + bnd a (pre.length : Int)) x : Nat) : Int) by omega, ih, pls]
    congr 2
    omega
end
/- with another one put in -/
mutual
theorem sb_size {m C : Int} (u : S29) (hu : good C u) : ∀ (t : S29) (ah : Int) {B : Int}, good B t → size29 (sb m u ah t) + pl (m + ah) t = size29 t + pl (m + ah) t * size29 u
  | ⟨a, b, l⟩, ah, B, hg => by
    by_cases h : a = 1
    · subst h
      obtain ⟨hl, _⟩ := hg.2.1 rfl
      subst hl
      have hsh : size29 (sh ah 0 0 u) = size29 u := sh_size ah 0 u 0 hu
      show size29 (ea _ _ _) + _ = _
      rw [ea_var, pl, if_pos rfl, sbQ]
      by_cases h1 : m < b - ah
      · rw [if_pos h1, if_neg (by omega), Nat.zero_mul]
        rfl
      · rw [if_neg h1]
        by_cases h2 : b - ah = m
        · rw [if_pos h2, if_pos (by omega), hsh, size29, sizes29]
          omega
        · rw [if_neg h2, if_neg (by omega), Nat.zero_mul]
    · have h2 := sbs_size (m := m) u hu l ah a 0 hg.2.2.2
      show size29 (ea _ _ _) + _ = _
      rw [ea_node _ _ _ _ _ h, pl, if_neg h, size29, size29]
      omega
theorem sbs_size {m C : Int} (u : S29) (hu : good C u) : ∀ (l : List S29) (ah a : Int) (i : Nat) {B : Int}, goods B l → sizes29 (eas (sbQ m u) ah a i l) + pls (m + ah) a i l = sizes29 l + pls (m + ah) a i l * size29 u
  | [], ah, a, i, B, hg => by rw [eas, pls, Nat.zero_mul]
  | x :: l, ah, a, i, B, hg => by
    have h1 : size29 (ea (sbQ m u) (ah + bnd a i) x) + pl (m + (ah + bnd a i)) x = size29 x + pl (m + (ah + bnd a i)) x * size29 u := sb_size u hu x (ah + bnd a i) hg.1
    have h2 := sbs_size (m := m) u hu l ah a (i + 1) hg.2
    rw [eas, pls, sizes29, sizes29, Nat.add_mul]
    rw [← Int.add_assoc] at h1
    omega
end
/- with another one put in: sound shape, depth -/
mutual
theorem sb_good {m B C D : Int} (hm : 0 ≤ m) (hD : B ≤ D ∧ D ≤ 9223372036854775807) (u : S29) (hu : good C u) : ∀ (t : S29) (ah : Int), good B t → 0 ≤ ah → C + ah + 2 * deep29 t ≤ D → good D (sb m u ah t)
  | ⟨a, b, l⟩, ah, hg, h0, hd => by
    rw [deep29] at hd
    by_cases h : a = 1
    · subst h
      obtain ⟨hl, hb0, hb1⟩ := hg.2.1 rfl
      subst hl
      show good _ (ea _ _ _)
      rw [ea_var, sbQ]
      by_cases h1 : m < b - ah
      · rw [if_pos h1]
        exact ⟨by omega, fun _ => ⟨rfl, by omega⟩, by simp, trivial⟩
      · rw [if_neg h1]
        by_cases h2 : b - ah = m
        · rw [if_pos h2]
          exact good_le (by omega) _ (sh_good h0 (by omega) u 0 hu)
        · rw [if_neg h2]
          exact ⟨by omega, fun _ => ⟨rfl, by omega⟩, by simp, trivial⟩
    · show good _ (ea _ _ _)
      rw [ea_node _ _ _ _ _ h]
      exact ⟨hg.1, fun h' => absurd h' h, by rw [eas_len]; exact hg.2.2.1, sbs_good hm hD u hu l ah a 0 hg.2.2.2 h0 (by omega)⟩
theorem sbs_good {m B C D : Int} (hm : 0 ≤ m) (hD : B ≤ D ∧ D ≤ 9223372036854775807) (u : S29) (hu : good C u) : ∀ (l : List S29) (ah a : Int) (i : Nat), goods B l → 0 ≤ ah → C + ah + 2 + 2 * deeps29 l ≤ D → goods D (eas (sbQ m u) ah a i l)
  | [], ah, a, i, hg, h0, hd => by rw [eas]; trivial
  | t :: l, ah, a, i, hg, h0, hd => by
    rw [deeps29] at hd
    have hb := bnd_range a (i : Int)
    rw [eas]
    exact ⟨sb_good hm hD u hu t _ hg.1 (by omega) (by omega), sbs_good hm hD u hu l ah a (i + 1) hg.2 h0 (by omega)⟩
end
mutual
theorem sb_deep {m C : Int} (u : S29) (hu : good C u) : ∀ (t : S29) (ah : Int) {B : Int}, good B t → deep29 (sb m u ah t) ≤ deep29 t + deep29 u
  | ⟨a, b, l⟩, ah, B, hg => by
    by_cases h : a = 1
    · subst h
      obtain ⟨hl, _⟩ := hg.2.1 rfl
      subst hl
      have hsh : deep29 (sh ah 0 0 u) = deep29 u := sh_deep ah 0 u 0 hu
      show deep29 (ea _ _ _) ≤ _
      rw [ea_var, sbQ]
      by_cases h1 : m < b - ah
      · rw [if_pos h1]
        exact Nat.le_trans (Nat.le_of_eq (by rw [deep29, deep29])) (Nat.le_add_right _ _)
      · rw [if_neg h1]
        by_cases h2 : b - ah = m
        · rw [if_pos h2, hsh]
          omega
        · rw [if_neg h2]
          exact Nat.le_add_right _ _
    · have h2 := sbs_deep (m := m) u hu l ah a 0 hg.2.2.2
      show deep29 (ea _ _ _) ≤ _
      rw [ea_node _ _ _ _ _ h, deep29, deep29]
      omega
theorem sbs_deep {m C : Int} (u : S29) (hu : good C u) : ∀ (l : List S29) (ah a : Int) (i : Nat) {B : Int}, goods B l → deeps29 (eas (sbQ m u) ah a i l) ≤ deeps29 l + deep29 u
  | [], ah, a, i, B, hg => by rw [eas, deeps29]; omega
  | x :: l, ah, a, i, B, hg => by
    have h1 : deep29 (ea (sbQ m u) (ah + bnd a i) x) ≤ deep29 x + deep29 u := sb_deep u hu x (ah + bnd a i) hg.1
    have h2 := sbs_deep (m := m) u hu l ah a (i + 1) hg.2
    rw [eas, deeps29, deeps29]
    omega
end
/-- A term out of raw numbers: sound, small. -/
theorem make_evS {x : S24} (hx : WF24 x) (n : Nat) (vars : Int) (hn : n ≤ 10) (hv : 0 ≤ vars) (hv2 : vars ≤ 100) :
    ∃ t : S29, Ev (fun k => thyrsuslaw1_Make.f k x.f0 x.f1 x.f2 (n : Int) vars) (t.f0, t.f1, t.f2) ∧ good 1000 t ∧ deep29 t ≤ 11 ∧ size29 t ≤ cap n := by
  obtain ⟨t, h1, h2, h3, h4⟩ := make_all n x hx (n : Int) vars (Int.le_refl _) (by omega) hv (by omega) (by omega)
  exact ⟨t, h1, h2, by omega, h4⟩
end Go.Proofs.YtcchfblekaaalaaDoor.Pure
