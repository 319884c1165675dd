/- Several texts in one. -/
import Derived.Test.YtcchfblekaaalaaDoorPureC
import Derived.Test.YtcchfblekaaalaaDoorMake
import Derived.Test.YtcchfblekaaalaaDoorQx4
import Derived.Test.YtcchfblekaaalaaDoorHandBind
import Derived.Test.YtcchfblekaaalaaDoorKnoW
import Derived.Test.YtcchfblekaaalaaDoorPureA
/- Chapter 4, plainly: a term's size; how often a variable stands; the size of a term with another one put in. -/
namespace Go.Proofs.YtcchfblekaaalaaDoor.Pure
open Go.RowKit Go.Proofs.YtcchfblekaaalaaDoor.P Go.Proofs.YtcchfblekaaalaaDoorW.PrintWords Go.Proofs.YtcchfblekaaalaaDoorW.PrintLast Go.Proofs.YtcchfblekaaalaaDoorW.PrintMore
set_option linter.unusedVariables false
theorem cap6 : cap 6 = 5461 := by simp [cap]
theorem cap4 : cap 4 = 341 := by simp [cap]
mutual
theorem size_run {B : Int} : ∀ (t : S29) (k : Nat), good B t → size29 t ≤ 1000000000000 → 3 * size29 t ≤ k → term_Size.f k t.f0 t.f1 t.f2 = some (size29 t : Int)
  | ⟨a, b, l⟩, k, hg, hs, hk => by
    rw [size29] at hs hk ⊢
    obtain ⟨k, rfl⟩ : ∃ k', k = k' + 1 := ⟨k - 1, by omega⟩
    rw [term_Size.f]
    have := size_loop (B := B) l [] 1 k l rfl hg.2.2.2 hg.2.2.1 (by omega) (by omega)
    rw [List.length_nil] at this
    exact this
theorem size_loop {B : Int} : ∀ (r pre : List S29) (c k : Nat) (l : List S29), l = pre ++ r → goods B r → l.length ≤ 1000000 → c + sizes29 r ≤ 1000000000000 → 1 + 3 * sizes29 r ≤ k →
    term_Size.l0 k (c : Int) l (l.length : Int) (pre.length : Int) = some ((c + sizes29 r : Nat) : Int)
  | [], pre, c, k, l, hl, hg, hn, hs, hk => by
    obtain ⟨k, rfl⟩ : ∃ k', k = k' + 1 := ⟨k - 1, by omega⟩
    subst hl
    rw [term_Size.l0, if_neg (by simp), sizes29, Nat.add_zero]
  | x :: r, pre, c, k, l, hl, hg, hn, hs, hk => by
    rw [sizes29] at hk hs
    have hp := size_pos x
    obtain ⟨k, rfl⟩ : ∃ k', k = k' + 1 := ⟨k - 1, by omega⟩
    have hlen : l.length = pre.length + (r.length + 1) := by rw [hl, List.length_append, List.length_cons]
    have hx : rd_T29 l (pre.length : Int) = x := by
      rw [rd29 (show pre.length < l.length by omega)]
      subst hl
      simp
    have ih := size_loop (B := B) r (pre ++ [x]) (c + size29 x) k l (by rw [hl, List.append_assoc]; rfl) hg.2 hn (by omega) (by omega)
    rw [List.length_append, List.length_singleton] at ih
    rw [term_Size.l0, if_pos (by omega), if_pos (by omega), if_pos (by omega), hx, size_run x k hg.1 (by omega) (by omega), Option.bind_some, wrap_in (by omega) (by omega), wrap_in (by omega) (by omega), show (pre.length : Int) + 1 = ((pre.length + 1 : Nat) : Int) by omega, show (c : Int) + (size29 x : Int) = ((c + size29 x : Nat) : Int) by omega, ih, sizes29]
    congr 2
    omega
end
/- how often a variable stands -/
mutual
def pl : Int → S29 → Nat
  | n, ⟨a, b, l⟩ => if a = 1 then (if b = n then 1 else 0) else pls n a 0 l
def pls : Int → Int → Nat → List S29 → Nat
  | _, _, _, [] => 0
  | n, a, i, x :: l => pl (n + bnd a i) x + pls n a (i + 1) l
end
theorem bindersE (a i : Int) (k : Nat) (hk : 2 ≤ k) : thyrsusref4_Binders.f k a i = some (bnd a i) := by
  obtain ⟨k, rfl⟩ : ∃ k', k = k' + 2 := ⟨k - 2, by omega⟩
  unfold thyrsusref4_Binders.f bnd
  simp only [thyrsusref4_Binders.j0]
  repeat' split
  all_goals first | rfl | omega | simp_all
mutual
theorem pl_le : ∀ (t : S29) (n : Int), pl n t ≤ size29 t
  | ⟨a, b, l⟩, n => by
    rw [pl, size29]
    by_cases h : a = 1
    · rw [if_pos h]
      split <;> omega
    · rw [if_neg h]
      have := pls_le l n a 0
      omega
theorem pls_le : ∀ (l : List S29) (n a : Int) (i : Nat), pls n a i l ≤ sizes29 l
  | [], n, a, i => by rw [pls, sizes29]; exact Nat.le_refl _
  | x :: l, n, a, i => by
    have h1 := pl_le x (n + bnd a i)
    have h2 := pls_le l n a (i + 1)
    rw [pls, sizes29]
    omega
end
mutual
theorem pl_run {B : Int} : ∀ (t : S29) (n : Int) (k : Nat), good B t → size29 t ≤ 1000000000 → 0 ≤ n → n + 2 * deep29 t ≤ 1000000000 → 4 * size29 t + 2 ≤ k → thyrsuslaw4_places.f k t.f0 t.f1 t.f2 n = some (pl n t : Int)
  | ⟨a, b, l⟩, n, k, hg, hs, h0, hd, hk => by
    rw [size29] at hs hk
    rw [deep29] at hd
    obtain ⟨k, rfl⟩ : ∃ k', k = k' + 1 := ⟨k - 1, by omega⟩
    rw [thyrsuslaw4_places.f, pl]
    by_cases h : a = 1
    · rw [if_pos h, if_pos h]
      by_cases h' : b = n
      · rw [if_pos h', if_pos h']; rfl
      · rw [if_neg h', if_neg h']; rfl
    · rw [if_neg h, if_neg h]
      have := pl_loop (B := B) (a := a) (b := b) (n := n) h0 l [] 0 k l rfl hg.2.2.2 hg.2.2.1 (by omega) (by omega) (by omega)
      rw [List.length_nil, Nat.zero_add] at this
      exact this
theorem pl_loop {B a b n : Int} (h0 : 0 ≤ n) : ∀ (r pre : List S29) (c k : Nat) (l : List S29), l = pre ++ r → goods B r → l.length ≤ 1000000 → c + sizes29 r ≤ 1000000000 → n + 2 * (1 + deeps29 r) ≤ 1000000000 → 3 + 4 * sizes29 r ≤ k →
    thyrsuslaw4_places.l0 k n (c : Int) (pre.length : Int) a b l = some ((c + pls n a pre.length r : Nat) : Int)
  | [], pre, c, k, l, hl, hg, hn, hs, hd, hk => by
    obtain ⟨k, rfl⟩ : ∃ k', k = k' + 1 := ⟨k - 1, by omega⟩
    subst hl
    rw [thyrsuslaw4_places.l0, if_neg (by simp), pls, Nat.add_zero]
  | x :: r, pre, c, k, l, hl, hg, hn, hs, hd, hk => by
    rw [sizes29] at hk hs
    rw [deeps29] at hd
    have hp := size_pos x
    obtain ⟨k, rfl⟩ : ∃ k', k = k' + 1 := ⟨k - 1, by omega⟩
    have hlen : l.length = pre.length + (r.length + 1) := by rw [hl, List.length_append, List.length_cons]
    have hx : rd_T29 l (pre.length : Int) = x := by
      rw [rd29 (show pre.length < l.length by omega)]
      subst hl
      simp
    have hb := bnd_range a (pre.length : Int)
    have hpl := pl_le x (n + bnd a (pre.length : Int))
    have ih := pl_loop (B := B) (a := a) (b := b) h0 r (pre ++ [x]) (c + pl (n + bnd a (pre.length : Int)) x) k l (by rw [hl, List.append_assoc]; rfl) hg.2 hn (by omega) (by omega) (by omega)
    rw [List.length_append, List.length_singleton] at ih
    rw [thyrsuslaw4_places.l0, if_pos (by omega), if_pos (by omega), hx, bindersE _ _ _ (by omega), Option.bind_some, wrap_in (n := n + bnd a (pre.length : Int)) (by omega) (by omega), pl_run x _ k hg.1 (by omega) (by omega) (by omega) (by omega), Option.bind_some, wrap_in (by omega) (by omega), wrap_in (by omega) (by omega), show (pre.length : Int) + 1 = ((pre.length + 1 : Nat) : Int) by omega, show (c : Int) + (pl (n + bnd a (pre.length : Int)) x : Int) = ((c + pl (n + bnd a (pre.length : Int)) x : Nat) : Int) by omega, ih, pls]
    congr 2
    omega
end
/- with another one put in -/
mutual
theorem sb_size {m C : Int} (u : S29) (hu : good C u) : ∀ (t : S29) (ah : Int) {B : Int}, good B t → size29 (sb m u ah t) + pl (m + ah) t = size29 t + pl (m + ah) t * size29 u
  | ⟨a, b, l⟩, ah, B, hg => by
    by_cases h : a = 1
    · subst h
      obtain ⟨hl, _⟩ := hg.2.1 rfl
      subst hl
      have hsh : size29 (sh ah 0 0 u) = size29 u := sh_size ah 0 u 0 hu
      show size29 (ea _ _ _) + _ = _
      rw [ea_var, pl, if_pos rfl, sbQ]
      by_cases h1 : m < b - ah
      · rw [if_pos h1, if_neg (by omega), Nat.zero_mul]
        rfl
      · rw [if_neg h1]
        by_cases h2 : b - ah = m
        · rw [if_pos h2, if_pos (by omega), hsh, size29, sizes29]
          omega
        · rw [if_neg h2, if_neg (by omega), Nat.zero_mul]
    · have h2 := sbs_size (m := m) u hu l ah a 0 hg.2.2.2
      show size29 (ea _ _ _) + _ = _
      rw [ea_node _ _ _ _ _ h, pl, if_neg h, size29, size29]
      omega
theorem sbs_size {m C : Int} (u : S29) (hu : good C u) : ∀ (l : List S29) (ah a : Int) (i : Nat) {B : Int}, goods B l → sizes29 (eas (sbQ m u) ah a i l) + pls (m + ah) a i l = sizes29 l + pls (m + ah) a i l * size29 u
  | [], ah, a, i, B, hg => by rw [eas, pls, Nat.zero_mul]
  | x :: l, ah, a, i, B, hg => by
    have h1 : size29 (ea (sbQ m u) (ah + bnd a i) x) + pl (m + (ah + bnd a i)) x = size29 x + pl (m + (ah + bnd a i)) x * size29 u := sb_size u hu x (ah + bnd a i) hg.1
    have h2 := sbs_size (m := m) u hu l ah a (i + 1) hg.2
    rw [eas, pls, sizes29, sizes29, Nat.add_mul]
    rw [← Int.add_assoc] at h1
    omega
end
/- with another one put in: sound shape, depth -/
mutual
theorem sb_good {m B C D : Int} (hm : 0 ≤ m) (hD : B ≤ D ∧ D ≤ 9223372036854775807) (u : S29) (hu : good C u) : ∀ (t : S29) (ah : Int), good B t → 0 ≤ ah → C + ah + 2 * deep29 t ≤ D → good D (sb m u ah t)
  | ⟨a, b, l⟩, ah, hg, h0, hd => by
    rw [deep29] at hd
    by_cases h : a = 1
    · subst h
      obtain ⟨hl, hb0, hb1⟩ := hg.2.1 rfl
      subst hl
      show good _ (ea _ _ _)
      rw [ea_var, sbQ]
      by_cases h1 : m < b - ah
      · rw [if_pos h1]
        exact ⟨by omega, fun _ => ⟨rfl, by omega⟩, by simp, trivial⟩
      · rw [if_neg h1]
        by_cases h2 : b - ah = m
        · rw [if_pos h2]
          exact good_le (by omega) _ (sh_good h0 (by omega) u 0 hu)
        · rw [if_neg h2]
          exact ⟨by omega, fun _ => ⟨rfl, by omega⟩, by simp, trivial⟩
    · show good _ (ea _ _ _)
      rw [ea_node _ _ _ _ _ h]
      exact ⟨hg.1, fun h' => absurd h' h, by rw [eas_len]; exact hg.2.2.1, sbs_good hm hD u hu l ah a 0 hg.2.2.2 h0 (by omega)⟩
theorem sbs_good {m B C D : Int} (hm : 0 ≤ m) (hD : B ≤ D ∧ D ≤ 9223372036854775807) (u : S29) (hu : good C u) : ∀ (l : List S29) (ah a : Int) (i : Nat), goods B l → 0 ≤ ah → C + ah + 2 + 2 * deeps29 l ≤ D → goods D (eas (sbQ m u) ah a i l)
  | [], ah, a, i, hg, h0, hd => by rw [eas]; trivial
  | t :: l, ah, a, i, hg, h0, hd => by
    rw [deeps29] at hd
    have hb := bnd_range a (i : Int)
    rw [eas]
    exact ⟨sb_good hm hD u hu t _ hg.1 (by omega) (by omega), sbs_good hm hD u hu l ah a (i + 1) hg.2 h0 (by omega)⟩
end
mutual
theorem sb_deep {m C : Int} (u : S29) (hu : good C u) : ∀ (t : S29) (ah : Int) {B : Int}, good B t → deep29 (sb m u ah t) ≤ deep29 t + deep29 u
  | ⟨a, b, l⟩, ah, B, hg => by
    by_cases h : a = 1
    · subst h
      obtain ⟨hl, _⟩ := hg.2.1 rfl
      subst hl
      have hsh : deep29 (sh ah 0 0 u) = deep29 u := sh_deep ah 0 u 0 hu
      show deep29 (ea _ _ _) ≤ _
      rw [ea_var, sbQ]
      by_cases h1 : m < b - ah
      · rw [if_pos h1]
        exact Nat.le_trans (Nat.le_of_eq (by rw [deep29, deep29])) (Nat.le_add_right _ _)
      · rw [if_neg h1]
        by_cases h2 : b - ah = m
        · rw [if_pos h2, hsh]
          omega
        · rw [if_neg h2]
          exact Nat.le_add_right _ _
    · have h2 := sbs_deep (m := m) u hu l ah a 0 hg.2.2.2
      show deep29 (ea _ _ _) ≤ _
      rw [ea_node _ _ _ _ _ h, deep29, deep29]
      omega
theorem sbs_deep {m C : Int} (u : S29) (hu : good C u) : ∀ (l : List S29) (ah a : Int) (i : Nat) {B : Int}, goods B l → deeps29 (eas (sbQ m u) ah a i l) ≤ deeps29 l + deep29 u
  | [], ah, a, i, B, hg => by rw [eas, deeps29]; omega
  | x :: l, ah, a, i, B, hg => by
    have h1 : deep29 (ea (sbQ m u) (ah + bnd a i) x) ≤ deep29 x + deep29 u := sb_deep u hu x (ah + bnd a i) hg.1
    have h2 := sbs_deep (m := m) u hu l ah a (i + 1) hg.2
    rw [eas, deeps29, deeps29]
    omega
end
/-- A term out of raw numbers: sound, small. -/
theorem make_evS {x : S24} (hx : WF24 x) (n : Nat) (vars : Int) (hn : n ≤ 10) (hv : 0 ≤ vars) (hv2 : vars ≤ 100) :
    ∃ t : S29, Ev (fun k => thyrsuslaw1_Make.f k x.f0 x.f1 x.f2 (n : Int) vars) (t.f0, t.f1, t.f2) ∧ good 1000 t ∧ deep29 t ≤ 11 ∧ size29 t ≤ cap n := by
  obtain ⟨t, h1, h2, h3, h4⟩ := make_all n x hx (n : Int) vars (Int.le_refl _) (by omega) hv (by omega) (by omega)
  exact ⟨t, h1, h2, by omega, h4⟩
end Go.Proofs.YtcchfblekaaalaaDoor.Pure
/- Chapter 4: what terms' check answers, plainly; some words on memory. -/
namespace Go.Proofs.YtcchfblekaaalaaDoor.Run
open Go.RowKit Go.Proofs.YtcchfblekaaalaaDoor.P Go.Proofs.YtcchfblekaaalaaDoorW.PrintWords Go.Proofs.YtcchfblekaaalaaDoorW.PrintLast Go.Proofs.YtcchfblekaaalaaDoorW.PrintMore
set_option linter.unusedVariables false
/-- How many kids an Op has. -/
def counts : List Int := [-1, 0, 0, 2, 2, 2, 2, 3, 1, 1, 0, 0, 1, 4, 0, 0, 2, 2, 1, 1, 2, 2, 2, 1, 1, 0, 2, 3, 2, 2, 1]
def kidsOf (o : Int) : Int := if 0 ≤ o ∧ o < 31 then counts.getD o.toNat 0 else -1
def numOk (o n : Int) : Bool :=
  if o = 1 then decide (0 ≤ n) && decide (n ≤ 3000)
  else if o = 2 then decide (0 ≤ n) && decide (n ≤ 2)
  else if o = 26 then decide (0 ≤ n) && decide (n ≤ 4)
  else if o = 25 then true
  else n == 0
/-- One term after the other, as long as nothing is wrong. -/
def chkAll (rec : S29 → Int → Int × Int) : List S29 → Int → Int × Int
  | [], n => (n, 0)
  | x :: r, n => if (rec x n).2 ≠ 0 then rec x n else chkAll rec r (rec x n).1
/-- What is wrong with a term, so many nodes read: how many nodes then; d: how much deeper may be. -/
def chk : Nat → S29 → Int → Int × Int
  | 0, _, n => (n + 1, 5)
  | d + 1, t, n =>
    if n + 1 > 3000 then (n + 1, 5)
    else if kidsOf t.f0 ≠ (t.f2.length : Int) ∨ numOk t.f0 t.f1 = false then (n + 1, 1)
    else chkAll (chk d) t.f2 (n + 1)
theorem chkAll_range {rec : S29 → Int → Int × Int} (h : ∀ x n, 0 ≤ n → n ≤ 3000 → 0 ≤ (rec x n).1 ∧ (rec x n).1 ≤ 3001 ∧ ((rec x n).2 = 0 → (rec x n).1 ≤ 3000)) : ∀ l n, 0 ≤ n → n ≤ 3000 → 0 ≤ (chkAll rec l n).1 ∧ (chkAll rec l n).1 ≤ 3001 ∧ ((chkAll rec l n).2 = 0 → (chkAll rec l n).1 ≤ 3000)
  | [], n, h0, h1 => ⟨h0, by show n ≤ 3001; omega, fun _ => h1⟩
  | x :: r, n, h0, h1 => by
    have hx := h x n h0 h1
    rw [chkAll]
    by_cases he : (rec x n).2 ≠ 0
    · rw [if_pos he]
      exact hx
    · rw [if_neg he]
      exact chkAll_range h r _ hx.1 (hx.2.2 (by simpa using he))
theorem chk_range : ∀ d t n, 0 ≤ n → n ≤ 3000 → 0 ≤ (chk d t n).1 ∧ (chk d t n).1 ≤ 3001 ∧ ((chk d t n).2 = 0 → (chk d t n).1 ≤ 3000)
  | 0, t, n, h0, h1 => ⟨by show 0 ≤ n + 1; omega, by show n + 1 ≤ 3001; omega, fun h => absurd (show (5 : Int) = 0 from h) (by decide)⟩
  | d + 1, t, n, h0, h1 => by
    rw [chk]
    by_cases h : n + 1 > 3000
    · rw [if_pos h]
      exact ⟨by show 0 ≤ n + 1; omega, by show n + 1 ≤ 3001; omega, fun h => absurd (show (5 : Int) = 0 from h) (by decide)⟩
    · rw [if_neg h]
      by_cases h2 : kidsOf t.f0 ≠ (t.f2.length : Int) ∨ numOk t.f0 t.f1 = false
      · rw [if_pos h2]
        exact ⟨by show 0 ≤ n + 1; omega, by show n + 1 ≤ 3001; omega, fun h => absurd (show (1 : Int) = 0 from h) (by decide)⟩
      · rw [if_neg h2]
        exact chkAll_range (fun x n a b => chk_range d x n a b) _ _ (by omega) (by omega)
theorem size_alloc (w : World) (o : Obj) : (w.alloc o).heap.size = w.heap.size + 1 := by simp [World.alloc, -World.alloc_eq]
end Go.Proofs.YtcchfblekaaalaaDoor.Run
/- Make, plainly, told whole: a term of sound shape, its variables no greater than a number. -/
namespace Go.Proofs.YtcchfblekaaalaaDoor.Pure
open Go.RowKit Go.Proofs.YtcchfblekaaalaaDoor.P Go.Proofs.YtcchfblekaaalaaDoor.Run Go.Proofs.YtcchfblekaaalaaDoorW.PrintWords Go.Proofs.YtcchfblekaaalaaDoorW.PrintLast Go.Proofs.YtcchfblekaaalaaDoorW.PrintMore
set_option linter.unusedVariables false
/-- The numbers that a made term's node may have. -/
def numM (v a b : Int) : Prop := if a = 1 then 0 ≤ b ∧ b ≤ v else if a = 2 then 0 ≤ b ∧ b ≤ 2 else if a = 26 then 0 ≤ b ∧ b ≤ 4 else if a = 25 then -9223372036854775808 ≤ b ∧ b ≤ 9223372036854775807 else b = 0
mutual
/-- Sound shape, the variables no greater than a number. -/
def mk (v : Int) : S29 → Prop
  | ⟨a, b, l⟩ => (1 ≤ a ∧ a ≤ 30) ∧ kidsOf a = (l.length : Int) ∧ numM v a b ∧ mks v a 0 l
def mks (v a : Int) : Nat → List S29 → Prop
  | _, [] => True
  | i, x :: l => mk (v + bnd a i) x ∧ mks v a (i + 1) l
end
theorem kids_le {a : Int} (h : 1 ≤ a ∧ a ≤ 30) : 0 ≤ kidsOf a ∧ kidsOf a ≤ 4 := by
  have hc : a = 1 ∨ a = 2 ∨ a = 3 ∨ a = 4 ∨ a = 5 ∨ a = 6 ∨ a = 7 ∨ a = 8 ∨ a = 9 ∨ a = 10 ∨ a = 11 ∨ a = 12 ∨ a = 13 ∨ a = 14 ∨ a = 15 ∨ a = 16 ∨ a = 17 ∨ a = 18 ∨ a = 19 ∨ a = 20 ∨ a = 21 ∨ a = 22 ∨ a = 23 ∨ a = 24 ∨ a = 25 ∨ a = 26 ∨ a = 27 ∨ a = 28 ∨ a = 29 ∨ a = 30 := by omega
  rcases hc with rfl | rfl | rfl | rfl | rfl | rfl | rfl | rfl | rfl | rfl | rfl | rfl | rfl | rfl | rfl | rfl | rfl | rfl | rfl | rfl | rfl | rfl | rfl | rfl | rfl | rfl | rfl | rfl | rfl | rfl
  all_goals decide
theorem arity_k {a : Int} (h : 1 ≤ a ∧ a ≤ 30) (m : Nat) : thyrsusref4_Arity.f (m + 6) a = some (kidsOf a) := by
  have hc : a = 1 ∨ a = 2 ∨ a = 3 ∨ a = 4 ∨ a = 5 ∨ a = 6 ∨ a = 7 ∨ a = 8 ∨ a = 9 ∨ a = 10 ∨ a = 11 ∨ a = 12 ∨ a = 13 ∨ a = 14 ∨ a = 15 ∨ a = 16 ∨ a = 17 ∨ a = 18 ∨ a = 19 ∨ a = 20 ∨ a = 21 ∨ a = 22 ∨ a = 23 ∨ a = 24 ∨ a = 25 ∨ a = 26 ∨ a = 27 ∨ a = 28 ∨ a = 29 ∨ a = 30 := by omega
  rcases hc with rfl | rfl | rfl | rfl | rfl | rfl | rfl | rfl | rfl | rfl | rfl | rfl | rfl | rfl | rfl | rfl | rfl | rfl | rfl | rfl | rfl | rfl | rfl | rfl | rfl | rfl | rfl | rfl | rfl | rfl
  all_goals rfl
theorem arity2 {a : Int} (h : 1 ≤ a ∧ a ≤ 30) : ∃ r : Nat, r ≤ 4 ∧ Ev (fun k => thyrsusref4_Arity.f k a) (r : Int) ∧ kidsOf a = (r : Int) := by
  have hk := kids_le h
  refine ⟨(kidsOf a).toNat, by omega, ⟨6, fun n hn => ?_⟩, by omega⟩
  obtain ⟨m, rfl⟩ : ∃ m, n = m + 6 := ⟨n - 6, by omega⟩
  show thyrsusref4_Arity.f (m + 6) a = _
  rw [arity_k h m]
  congr 1
  omega
theorem mks_snoc {v a : Int} : ∀ (l : List S29) (x : S29) (i : Nat), mks v a i l → mk (v + bnd a ((i + l.length : Nat) : Int)) x → mks v a i (l ++ [x])
  | [], x, i, _, h => ⟨by simpa using h, trivial⟩
  | y :: l, x, i, h, hx => ⟨h.1, mks_snoc l x (i + 1) h.2 (by rw [List.length_cons] at hx; rw [show i + 1 + l.length = i + (l.length + 1) by omega]; exact hx)⟩
mutual
theorem mk_good {B : Int} (hB : B ≤ 9223372036854775807) : ∀ (t : S29) {v : Int}, mk v t → v + 2 * deep29 t ≤ B → good B t
  | ⟨a, b, l⟩, v, ⟨h1, h2, h3, h4⟩, hd => by
    rw [deep29] at hd
    have hk := kids_le h1
    unfold numM at h3
    refine ⟨?_, fun h => ?_, by omega, mks_good hB l h4 (by omega)⟩
    · repeat' split at h3
      all_goals omega
    · subst h
      rw [if_pos rfl] at h3
      have hl : l = [] := List.eq_nil_of_length_eq_zero (by have h5 : kidsOf 1 = 0 := by decide
                                                            omega)
      exact ⟨hl, by omega⟩
theorem mks_good {B : Int} (hB : B ≤ 9223372036854775807) : ∀ (l : List S29) {v a : Int} {i : Nat}, mks v a i l → v + 2 + 2 * deeps29 l ≤ B → goods B l
  | [], v, a, i, _, _ => trivial
  | x :: l, v, a, i, ⟨h1, h2⟩, hd => by
    rw [deeps29] at hd
    have hb := bnd_range a (i : Int)
    exact ⟨mk_good hB x h1 (by omega), mks_good hB l h2 (by omega)⟩
end
/-- What Make comes to, so deep. -/
def MK2 (n : Nat) : Prop := ∀ x : S24, WF24 x → ∀ deep vars : Int, deep ≤ n → -1000 ≤ deep → 0 ≤ vars → vars ≤ 1000 - 2 * (n : Int) → n ≤ 400 →
  ∃ t : S29, Ev (fun k => thyrsuslaw1_Make.f k x.f0 x.f1 x.f2 deep vars) (t.f0, t.f1, t.f2) ∧ mk vars t ∧ deep29 t ≤ n + 1 ∧ size29 t ≤ cap n
theorem make2_loop {m : Nat} (ih : MK2 m) {deep vars op N a b : Int} {l : List S24} (hm : m + 1 ≤ 400) (hd : 1 ≤ deep) (hd2 : deep ≤ m + 1) (hv : 0 ≤ vars) (hv2 : vars ≤ 1000 - 2 * ((m : Int) + 1)) (hl : ∀ x ∈ l, WF24 x)
    {r : Nat} (hr : r ≤ 4) (hA : Ev (fun k => thyrsusref4_Arity.f k op) (r : Int)) : ∀ (d i : Nat) (acc : List S29), i + d = r → acc.length = i → mks vars op 0 acc → deeps29 acc ≤ m + 1 → sizes29 acc ≤ i * cap m →
    ∃ ks, Ev (fun k => thyrsuslaw1_Make.l0 k deep vars op (i : Int) a b l op N acc) (op, N, ks) ∧ mks vars op 0 ks ∧ deeps29 ks ≤ m + 1 ∧ sizes29 ks ≤ r * cap m ∧ ks.length = r := by
  intro d
  induction d with
  | zero =>
    intro i acc hi hlen hf hdp hsz
    obtain rfl : i = r := by omega
    refine ⟨acc, Ev.step (f := fun k => (thyrsusref4_Arity.f k op).bind fun t209 => some (op, N, acc)) (fun k => ?_) (Ev.bind hA (Ev.now _)), hf, hdp, hsz, hlen⟩
    simp only [thyrsuslaw1_Make.l0]
    cases h : thyrsusref4_Arity.f k op with
    | none => rfl
    | some t =>
      simp only [Option.bind_some]
      have : t = (i : Int) := by
        obtain ⟨K, hK⟩ := hA
        have h1 := hK (max K k) (by omega)
        have h2 := at_rounds (fun k => thyrsusref4_Arity.mono op k) (show k ≤ max K k by omega) h
        simp only at h1
        rw [h1] at h2
        exact (Option.some.inj h2).symm
      rw [if_neg (by omega)]
  | succ d ihd =>
    intro i acc hi hlen hf hdp hsz
    obtain ⟨y, hy, hk⟩ := kid_ev (a := a) (b := b) hl i (by omega)
    have hB : Ev (fun k => thyrsusref4_Binders.f k op (i : Int)) (bnd op (i : Int)) := ⟨2, fun k hk => bindersE op (i : Int) k hk⟩
    have hbn := bnd_range op (i : Int)
    obtain ⟨t, hT, hf2, hdp2, hsz2⟩ := ih y hy (deep - 1) (vars + bnd op (i : Int)) (by omega) (by omega) (by omega) (by omega) (by omega)
    have hn : ((acc ++ [t]).length : Int) = (i : Int) + 1 := by simp [hlen]
    have hmul : (i + 1) * cap m = i * cap m + cap m := Nat.succ_mul i (cap m)
    obtain ⟨ks, hE, h1, h2, h3, h4⟩ := ihd (i + 1) (acc ++ [t]) (by omega) (by simp [hlen]) (mks_snoc acc t 0 hf (by rw [Nat.zero_add, hlen]; exact hf2)) (by rw [deeps_snoc]; omega) (by rw [sizes_snoc, hmul]; omega)
    refine ⟨ks, ?_, h1, h2, h3, h4⟩
    refine Ev.step (f := fun k => (thyrsusref4_Arity.f k op).bind fun t209 => if (i : Int) < t209 then ((thyrsuslaw1_kid.f a b l (i : Int)).bind fun bt210 => ((thyrsusref4_Binders.f k op (i : Int)).bind fun t215 => ((thyrsuslaw1_Make.f k bt210.1 bt210.2.1 bt210.2.2 (wrap64 (deep - 1)) (wrap64 (vars + t215))).bind fun bt216 => (if acc.length < 3518437208883 then (thyrsuslaw1_Make.l0 k deep vars op (wrap64 ((i : Int) + 1)) a b l op N (acc ++ [(⟨bt216.1, bt216.2.1, bt216.2.2⟩ : S29)])) else (none))))) else (some (op, N, acc))) (fun k => by simp only [thyrsuslaw1_Make.l0]) ?_
    refine Ev.bind hA ?_
    rw [hk]
    simp only [if_pos (show (i : Int) < (r : Int) by omega), Option.bind_some]
    refine Ev.bind hB ?_
    rw [wrap_id (n := deep - 1) (by omega), wrap_id (n := vars + bnd op (i : Int)) (by omega)]
    refine Ev.bind hT ?_
    simp only [if_pos (show acc.length < 3518437208883 by omega), wrap_id (n := (i : Int) + 1) (by omega), eta29]
    simpa using hE
theorem make2_j1 {deep vars op a b : Int} {l : List S24} (hb : -9223372036854775808 ≤ b ∧ b ≤ 9223372036854775807) (hv : 0 ≤ vars) (hv2 : vars ≤ 1000) : ∃ N : Int, numM vars op N ∧ ∀ R, Ev (fun k => thyrsuslaw1_Make.l0 k deep vars op 0 a b l op N []) R → Ev (fun k => thyrsuslaw1_Make.j1 k deep vars op a b l) R := by
  have st : ∀ (N : Int) R, Ev (fun k => thyrsuslaw1_Make.l0 k deep vars op 0 a b l op N []) R → Ev (fun k => thyrsuslaw1_Make.j2 k deep vars op a b l op N) R := fun N R h => Ev.step (f := fun k => thyrsuslaw1_Make.l0 k deep vars op 0 a b l op N []) (fun k => by simp only [thyrsuslaw1_Make.j2]) h
  have w1 := within1_val hb (n := vars + 1) (by omega) (by omega)
  have w2 := within1_val hb (n := 3) (by omega) (by omega)
  have w3 := within1_val hb (n := 5) (by omega) (by omega)
  have q : wrap64 (vars + 1) = vars + 1 := wrap_id (by omega)
  have m1 := Int.emod_nonneg b (show vars + 1 ≠ 0 by omega)
  have m2 := Int.emod_lt_of_pos b (show 0 < vars + 1 by omega)
  by_cases c1 : op = 1
  · refine ⟨b % (vars + 1), by unfold numM; rw [if_pos c1]; omega, fun R h => Ev.step (f := fun k => thyrsuslaw1_Make.j2 k deep vars op a b l op (b % (vars + 1))) (fun k => ?_) (st _ R h)⟩
    simp only [thyrsuslaw1_Make.j1, if_pos c1, q, w1, Option.bind_some]
  · by_cases c2 : op = 2
    · refine ⟨b % 3, by unfold numM; rw [if_neg c1, if_pos c2]; omega, fun R h => Ev.step (f := fun k => thyrsuslaw1_Make.j2 k deep vars op a b l op (b % 3)) (fun k => ?_) (st _ R h)⟩
      simp only [thyrsuslaw1_Make.j1, if_neg c1, if_pos c2, w2, Option.bind_some]
    · by_cases c3 : op = 26
      · refine ⟨b % 5, by unfold numM; rw [if_neg c1, if_neg c2, if_pos c3]; omega, fun R h => Ev.step (f := fun k => thyrsuslaw1_Make.j2 k deep vars op a b l op (b % 5)) (fun k => ?_) (st _ R h)⟩
        simp only [thyrsuslaw1_Make.j1, if_neg c1, if_neg c2, if_pos c3, w3, Option.bind_some]
      · by_cases c4 : op = 25
        · refine ⟨b, by unfold numM; rw [if_neg c1, if_neg c2, if_neg c3, if_pos c4]; exact hb, fun R h => Ev.step (f := fun k => thyrsuslaw1_Make.j2 k deep vars op a b l op b) (fun k => ?_) (st _ R h)⟩
          simp only [thyrsuslaw1_Make.j1, if_neg c1, if_neg c2, if_neg c3, if_pos c4]
        · refine ⟨0, by unfold numM; rw [if_neg c1, if_neg c2, if_neg c3, if_neg c4], fun R h => Ev.step (f := fun k => thyrsuslaw1_Make.j2 k deep vars op a b l op 0) (fun k => ?_) (st _ R h)⟩
          simp only [thyrsuslaw1_Make.j1, if_neg c1, if_neg c2, if_neg c3, if_neg c4]
theorem make2_body {n : Nat} (ih : ∀ m, n = m + 1 → MK2 m) {deep vars op a b : Int} {l : List S24} (hn : n ≤ 400) (hop : 1 ≤ op ∧ op ≤ 30) (hb : -9223372036854775808 ≤ b ∧ b ≤ 9223372036854775807) (hd : deep ≤ n) (hv : 0 ≤ vars) (hv2 : vars ≤ 1000 - 2 * (n : Int)) (hl : ∀ x ∈ l, WF24 x)
    {r : Nat} (hr : r ≤ 4) (hA : Ev (fun k => thyrsusref4_Arity.f k op) (r : Int)) (h0 : deep ≤ 0 → r = 0) (hv1 : kidsOf op = (r : Int)) : ∃ t : S29, Ev (fun k => thyrsuslaw1_Make.j1 k deep vars op a b l) (t.f0, t.f1, t.f2) ∧ mk vars t ∧ deep29 t ≤ n + 1 ∧ size29 t ≤ cap n := by
  obtain ⟨N, hN, hj⟩ := make2_j1 (deep := deep) (op := op) (a := a) (l := l) hb hv (by omega)
  by_cases hr0 : r = 0
  · subst hr0
    refine ⟨⟨op, N, []⟩, hj _ ?_, ⟨hop, hv1, hN, trivial⟩, by simp [deep29, deeps29], by cases n <;> simp [size29, sizes29, cap] <;> omega⟩
    refine Ev.step (f := fun k => (thyrsusref4_Arity.f k op).bind fun t209 => (if (0 : Int) < t209 then ((thyrsuslaw1_kid.f a b l 0).bind fun bt210 => ((thyrsusref4_Binders.f k op 0).bind fun t215 => ((thyrsuslaw1_Make.f k bt210.1 bt210.2.1 bt210.2.2 (wrap64 (deep - 1)) (wrap64 (vars + t215))).bind fun bt216 => (if ([] : List S29).length < 3518437208883 then (thyrsuslaw1_Make.l0 k deep vars op (wrap64 (0 + 1)) a b l op N ([] ++ [(⟨bt216.1, bt216.2.1, bt216.2.2⟩ : S29)])) else (none))))) else (some (op, N, [])))) (fun k => by simp only [thyrsuslaw1_Make.l0]) ?_
    refine Ev.bind hA ?_
    simp only [Int.natCast_zero, Int.lt_irrefl, if_false]
    exact Ev.now _
  · have hd1 : 1 ≤ deep := by
      by_cases hq : deep ≤ 0
      · exact absurd (h0 hq) hr0
      · omega
    obtain ⟨m, rfl⟩ : ∃ m, n = m + 1 := ⟨n - 1, by omega⟩
    obtain ⟨ks, hE, h1, h2, h3, h4⟩ := make2_loop (N := N) (a := a) (b := b) (ih m rfl) hn hd1 (by omega) hv (by omega) hl hr hA r 0 [] (by omega) rfl trivial (by simp [deeps29]) (by simp [sizes29])
    refine ⟨⟨op, N, ks⟩, hj _ (by simpa using hE), ⟨hop, by rw [hv1, h4], hN, h1⟩, by simp only [deep29]; omega, ?_⟩
    have : r * cap m ≤ 4 * cap m := Nat.mul_le_mul_right _ hr
    simp only [size29, cap]
    omega
theorem make2_step {n : Nat} (ih : ∀ m, n = m + 1 → MK2 m) (x : S24) (hx : WF24 x) (deep vars : Int) (hd : deep ≤ n) (hd2 : -1000 ≤ deep) (hv : 0 ≤ vars) (hv2 : vars ≤ 1000 - 2 * (n : Int)) (hn : n ≤ 400) :
    ∃ t : S29, Ev (fun k => thyrsuslaw1_Make.f k x.f0 x.f1 x.f2 deep vars) (t.f0, t.f1, t.f2) ∧ mk vars t ∧ deep29 t ≤ n + 1 ∧ size29 t ≤ cap n := by
  cases hx with
  | mk a b l ha hb hlen hl =>
    have ha := i64_of ha
    have hb := i64_of hb
    have m1 := Int.emod_nonneg a (show (30 : Int) ≠ 0 by omega)
    have m2 := Int.emod_lt_of_pos a (show (0 : Int) < 30 by omega)
    have w1 := within1_val ha (n := 30) (by omega) (by omega)
    have w5 := within1_val ha (n := 5) (by omega) (by omega)
    have q : wrap64 (1 + a % 30) = 1 + a % 30 := wrap_id (by omega)
    obtain ⟨r, hr, hA, hz⟩ := arity2 (a := 1 + a % 30) (by omega)
    have same : (deep ≤ 0 → r = 0) → ∃ t : S29, Ev (fun k => thyrsuslaw1_Make.j0 k deep vars (1 + a % 30) false a b l) (t.f0, t.f1, t.f2) ∧ mk vars t ∧ deep29 t ≤ n + 1 ∧ size29 t ≤ cap n := fun h0 => by
      obtain ⟨t, hE, h⟩ := make2_body ih (a := a) hn (by omega) hb hd hv hv2 hl hr hA h0 hz
      exact ⟨t, Ev.step (f := fun k => thyrsuslaw1_Make.j1 k deep vars (1 + a % 30) a b l) (fun k => by simp [thyrsuslaw1_Make.j0]) hE, h⟩
    by_cases hdp : deep ≤ 0
    · by_cases hr0 : r = 0
      · obtain ⟨t, hE, h⟩ := same (fun _ => hr0)
        refine ⟨t, Ev.step (f := fun k => (thyrsusref4_Arity.f k (1 + a % 30)).bind fun t199 => thyrsuslaw1_Make.j0 k deep vars (1 + a % 30) (decide (t199 > 0)) a b l) (fun k => by simp only [thyrsuslaw1_Make.f, w1, q, Option.bind_some, if_pos hdp]) (Ev.bind hA ?_), h⟩
        rw [hr0]
        simpa using hE
      · have m3 := Int.emod_nonneg a (show (5 : Int) ≠ 0 by omega)
        have m4 := Int.emod_lt_of_pos a (show (0 : Int) < 5 by omega)
        have hop : ∃ op : Int, rd ([1, 11, 25, 15, 10] : List Int) (a % 5) = op ∧ (op = 1 ∨ op = 10 ∨ op = 11 ∨ op = 15 ∨ op = 25) := by
          have : a % 5 = 0 ∨ a % 5 = 1 ∨ a % 5 = 2 ∨ a % 5 = 3 ∨ a % 5 = 4 := by omega
          rcases this with h | h | h | h | h <;> rw [h] <;> exact ⟨_, rfl, by simp [rd]⟩
        obtain ⟨op, ho, hop⟩ := hop
        obtain ⟨r2, hr2, hA2, hz2⟩ := arity2 (a := op) (by omega)
        have hk0 : kidsOf op = 0 := by rcases hop with rfl | rfl | rfl | rfl | rfl <;> decide
        obtain ⟨t, hE, h⟩ := make2_body ih (a := a) hn (show 1 ≤ op ∧ op ≤ 30 by omega) hb hd hv hv2 hl hr2 hA2 (fun _ => by omega) hz2
        refine ⟨t, Ev.step (f := fun k => (thyrsusref4_Arity.f k (1 + a % 30)).bind fun t199 => thyrsuslaw1_Make.j0 k deep vars (1 + a % 30) (decide (t199 > 0)) a b l) (fun k => by simp only [thyrsuslaw1_Make.f, w1, q, Option.bind_some, if_pos hdp]) (Ev.bind hA ?_), h⟩
        have hr1 : decide ((r : Int) > 0) = true := decide_eq_true (by omega)
        rw [hr1]
        refine Ev.step (f := fun k => thyrsuslaw1_Make.j1 k deep vars op a b l) (fun k => ?_) hE
        simp only [thyrsuslaw1_Make.j0, if_true, Option.bind_some, w5, if_pos m3, ho]
        rw [if_pos (by simp; omega)]
    · obtain ⟨t, hE, h⟩ := same (fun h => absurd h hdp)
      exact ⟨t, Ev.step (f := fun k => thyrsuslaw1_Make.j0 k deep vars (1 + a % 30) false a b l) (fun k => by simp only [thyrsuslaw1_Make.f, w1, q, Option.bind_some, if_neg hdp]) hE, h⟩
theorem make2_all : ∀ n : Nat, MK2 n := by
  intro n
  induction n with
  | zero => exact fun x hx deep vars hd hd2 hv hv2 hn => make2_step (fun m h => by omega) x hx deep vars hd hd2 hv hv2 hn
  | succ n ih => exact fun x hx deep vars hd hd2 hv hv2 hn => make2_step (fun m h => Nat.succ.inj h ▸ ih) x hx deep vars hd hd2 hv hv2 hn
end Go.Proofs.YtcchfblekaaalaaDoor.Pure
/- TermKnown, the plain law: known terms, shifted and put in, read as the law says (genknop.py) -/
namespace Go.Proofs.YtcchfblekaaalaaDoor.P
open Go.RowKit Go.Proofs.YtcchfblekaaalaaDoorW.PrintWords Go.Proofs.YtcchfblekaaalaaDoorW.PrintLast Go.Proofs.YtcchfblekaaalaaDoorW.PrintMore
set_option linter.unusedVariables false
set_option linter.unusedSimpArgs false
open Go.Proofs.YtcchfblekaaalaaDoor.Pure
set_option maxRecDepth 100000
theorem known0 (a0 : Int) (w : World) (hn : thyrsuslaw4_within.f a0 6 = some 0) : Calls Tryd.prog 6 #[.int .i64 a0] w fun e w' => e = .returned (.bool true) ∧ Below w.heap.size w w' :=
  termKnown_calls 40 a0 0 w (Pure.known_k (by decide)) hn (by decide) (by decide) 1 2 11 0 ([] : List S29) ([] : List S29) (⟨#[118, 50]⟩ : ByteArray) (⟨#[49, 49]⟩ : ByteArray)
    (show term_Shift.f 40 1 0 ([] : List S29) 2 0 = some (1, 2, ([] : List S29)) by kernel_rfl) (show term_Text.f 40 1 2 ([] : List S29) = some (⟨#[118, 50]⟩ : ByteArray) by kernel_rfl) (by kernel_rfl)
    (show term_Subst.f 40 1 0 ([] : List S29) 0 11 0 [] = some (11, 0, ([] : List S29)) by kernel_rfl) (show term_Text.f 40 11 0 ([] : List S29) = some (⟨#[49, 49]⟩ : ByteArray) by kernel_rfl) (by kernel_rfl)
theorem known1 (a0 : Int) (w : World) (hn : thyrsuslaw4_within.f a0 6 = some 1) : Calls Tryd.prog 6 #[.int .i64 a0] w fun e w' => e = .returned (.bool true) ∧ Below w.heap.size w w' :=
  termKnown_calls 40 a0 1 w (Pure.known_k (by decide)) hn (by decide) (by decide) 1 4 1 1 ([] : List S29) ([] : List S29) (⟨#[118, 52]⟩ : ByteArray) (⟨#[118, 49]⟩ : ByteArray)
    (show term_Shift.f 40 1 2 ([] : List S29) 2 0 = some (1, 4, ([] : List S29)) by kernel_rfl) (show term_Text.f 40 1 4 ([] : List S29) = some (⟨#[118, 52]⟩ : ByteArray) by kernel_rfl) (by kernel_rfl)
    (show term_Subst.f 40 1 2 ([] : List S29) 0 11 0 [] = some (1, 1, ([] : List S29)) by kernel_rfl) (show term_Text.f 40 1 1 ([] : List S29) = some (⟨#[118, 49]⟩ : ByteArray) by kernel_rfl) (by kernel_rfl)
theorem known2 (a0 : Int) (w : World) (hn : thyrsuslaw4_within.f a0 6 = some 2) : Calls Tryd.prog 6 #[.int .i64 a0] w fun e w' => e = .returned (.bool true) ∧ Below w.heap.size w w' :=
  termKnown_calls 40 a0 2 w (Pure.known_k (by decide)) hn (by decide) (by decide) 4 0 4 0 ([⟨1, 2, []⟩, ⟨1, 3, []⟩] : List S29) ([⟨11, 0, []⟩, ⟨11, 0, []⟩] : List S29) (⟨#[40, 52, 32, 118, 50, 32, 118, 51, 41]⟩ : ByteArray) (⟨#[40, 52, 32, 49, 49, 32, 49, 49, 41]⟩ : ByteArray)
    (show term_Shift.f 40 4 0 ([⟨1, 0, []⟩, ⟨1, 1, []⟩] : List S29) 2 0 = some (4, 0, ([⟨1, 2, []⟩, ⟨1, 3, []⟩] : List S29)) by kernel_rfl) (show term_Text.f 40 4 0 ([⟨1, 2, []⟩, ⟨1, 3, []⟩] : List S29) = some (⟨#[40, 52, 32, 118, 50, 32, 118, 51, 41]⟩ : ByteArray) by kernel_rfl) (by kernel_rfl)
    (show term_Subst.f 40 4 0 ([⟨1, 0, []⟩, ⟨1, 1, []⟩] : List S29) 0 11 0 [] = some (4, 0, ([⟨11, 0, []⟩, ⟨11, 0, []⟩] : List S29)) by kernel_rfl) (show term_Text.f 40 4 0 ([⟨11, 0, []⟩, ⟨11, 0, []⟩] : List S29) = some (⟨#[40, 52, 32, 49, 49, 32, 49, 49, 41]⟩ : ByteArray) by kernel_rfl) (by kernel_rfl)
theorem known3 (a0 : Int) (w : World) (hn : thyrsuslaw4_within.f a0 6 = some 3) : Calls Tryd.prog 6 #[.int .i64 a0] w fun e w' => e = .returned (.bool true) ∧ Below w.heap.size w w' :=
  termKnown_calls 40 a0 3 w (Pure.known_k (by decide)) hn (by decide) (by decide) 3 0 3 0 ([⟨1, 3, []⟩, ⟨5, 0, [⟨1, 0, []⟩, ⟨1, 4, []⟩]⟩] : List S29) ([⟨1, 0, []⟩, ⟨5, 0, [⟨1, 0, []⟩, ⟨1, 1, []⟩]⟩] : List S29) (⟨#[40, 51, 32, 118, 51, 32, 40, 53, 32, 118, 48, 32, 118, 52, 41, 41]⟩ : ByteArray) (⟨#[40, 51, 32, 118, 48, 32, 40, 53, 32, 118, 48, 32, 118, 49, 41, 41]⟩ : ByteArray)
    (show term_Shift.f 40 3 0 ([⟨1, 1, []⟩, ⟨5, 0, [⟨1, 0, []⟩, ⟨1, 2, []⟩]⟩] : List S29) 2 0 = some (3, 0, ([⟨1, 3, []⟩, ⟨5, 0, [⟨1, 0, []⟩, ⟨1, 4, []⟩]⟩] : List S29)) by kernel_rfl) (show term_Text.f 40 3 0 ([⟨1, 3, []⟩, ⟨5, 0, [⟨1, 0, []⟩, ⟨1, 4, []⟩]⟩] : List S29) = some (⟨#[40, 51, 32, 118, 51, 32, 40, 53, 32, 118, 48, 32, 118, 52, 41, 41]⟩ : ByteArray) by kernel_rfl) (by kernel_rfl)
    (show term_Subst.f 40 3 0 ([⟨1, 1, []⟩, ⟨5, 0, [⟨1, 0, []⟩, ⟨1, 2, []⟩]⟩] : List S29) 0 11 0 [] = some (3, 0, ([⟨1, 0, []⟩, ⟨5, 0, [⟨1, 0, []⟩, ⟨1, 1, []⟩]⟩] : List S29)) by kernel_rfl) (show term_Text.f 40 3 0 ([⟨1, 0, []⟩, ⟨5, 0, [⟨1, 0, []⟩, ⟨1, 1, []⟩]⟩] : List S29) = some (⟨#[40, 51, 32, 118, 48, 32, 40, 53, 32, 118, 48, 32, 118, 49, 41, 41]⟩ : ByteArray) by kernel_rfl) (by kernel_rfl)
theorem known4 (a0 : Int) (w : World) (hn : thyrsuslaw4_within.f a0 6 = some 4) : Calls Tryd.prog 6 #[.int .i64 a0] w fun e w' => e = .returned (.bool true) ∧ Below w.heap.size w w' :=
  termKnown_calls 40 a0 4 w (Pure.known_k (by decide)) hn (by decide) (by decide) 13 0 13 0 ([⟨1, 0, []⟩, ⟨1, 2, []⟩, ⟨5, 0, [⟨1, 1, []⟩, ⟨1, 4, []⟩]⟩, ⟨1, 5, []⟩] : List S29) ([⟨1, 0, []⟩, ⟨11, 0, []⟩, ⟨5, 0, [⟨1, 1, []⟩, ⟨11, 0, []⟩]⟩, ⟨1, 2, []⟩] : List S29) (⟨#[40, 49, 51, 32, 118, 48, 32, 118, 50, 32, 40, 53, 32, 118, 49, 32, 118, 52, 41, 32, 118, 53, 41]⟩ : ByteArray) (⟨#[40, 49, 51, 32, 118, 48, 32, 49, 49, 32, 40, 53, 32, 118, 49, 32, 49, 49, 41, 32, 118, 50, 41]⟩ : ByteArray)
    (show term_Shift.f 40 13 0 ([⟨1, 0, []⟩, ⟨1, 0, []⟩, ⟨5, 0, [⟨1, 1, []⟩, ⟨1, 2, []⟩]⟩, ⟨1, 3, []⟩] : List S29) 2 0 = some (13, 0, ([⟨1, 0, []⟩, ⟨1, 2, []⟩, ⟨5, 0, [⟨1, 1, []⟩, ⟨1, 4, []⟩]⟩, ⟨1, 5, []⟩] : List S29)) by kernel_rfl) (show term_Text.f 40 13 0 ([⟨1, 0, []⟩, ⟨1, 2, []⟩, ⟨5, 0, [⟨1, 1, []⟩, ⟨1, 4, []⟩]⟩, ⟨1, 5, []⟩] : List S29) = some (⟨#[40, 49, 51, 32, 118, 48, 32, 118, 50, 32, 40, 53, 32, 118, 49, 32, 118, 52, 41, 32, 118, 53, 41]⟩ : ByteArray) by kernel_rfl) (by kernel_rfl)
    (show term_Subst.f 40 13 0 ([⟨1, 0, []⟩, ⟨1, 0, []⟩, ⟨5, 0, [⟨1, 1, []⟩, ⟨1, 2, []⟩]⟩, ⟨1, 3, []⟩] : List S29) 0 11 0 [] = some (13, 0, ([⟨1, 0, []⟩, ⟨11, 0, []⟩, ⟨5, 0, [⟨1, 1, []⟩, ⟨11, 0, []⟩]⟩, ⟨1, 2, []⟩] : List S29)) by kernel_rfl) (show term_Text.f 40 13 0 ([⟨1, 0, []⟩, ⟨11, 0, []⟩, ⟨5, 0, [⟨1, 1, []⟩, ⟨11, 0, []⟩]⟩, ⟨1, 2, []⟩] : List S29) = some (⟨#[40, 49, 51, 32, 118, 48, 32, 49, 49, 32, 40, 53, 32, 118, 49, 32, 49, 49, 41, 32, 118, 50, 41]⟩ : ByteArray) by kernel_rfl) (by kernel_rfl)
theorem known5 (a0 : Int) (w : World) (hn : thyrsuslaw4_within.f a0 6 = some 5) : Calls Tryd.prog 6 #[.int .i64 a0] w fun e w' => e = .returned (.bool true) ∧ Below w.heap.size w w' :=
  termKnown_calls 40 a0 5 w (Pure.known_k (by decide)) hn (by decide) (by decide) 28 0 28 0 ([⟨1, 2, []⟩, ⟨19, 0, [⟨1, 3, []⟩]⟩] : List S29) ([⟨11, 0, []⟩, ⟨19, 0, [⟨11, 0, []⟩]⟩] : List S29) (⟨#[40, 50, 56, 32, 118, 50, 32, 40, 49, 57, 32, 118, 51, 41, 41]⟩ : ByteArray) (⟨#[40, 50, 56, 32, 49, 49, 32, 40, 49, 57, 32, 49, 49, 41, 41]⟩ : ByteArray)
    (show term_Shift.f 40 28 0 ([⟨1, 0, []⟩, ⟨19, 0, [⟨1, 1, []⟩]⟩] : List S29) 2 0 = some (28, 0, ([⟨1, 2, []⟩, ⟨19, 0, [⟨1, 3, []⟩]⟩] : List S29)) by kernel_rfl) (show term_Text.f 40 28 0 ([⟨1, 2, []⟩, ⟨19, 0, [⟨1, 3, []⟩]⟩] : List S29) = some (⟨#[40, 50, 56, 32, 118, 50, 32, 40, 49, 57, 32, 118, 51, 41, 41]⟩ : ByteArray) by kernel_rfl) (by kernel_rfl)
    (show term_Subst.f 40 28 0 ([⟨1, 0, []⟩, ⟨19, 0, [⟨1, 1, []⟩]⟩] : List S29) 0 11 0 [] = some (28, 0, ([⟨11, 0, []⟩, ⟨19, 0, [⟨11, 0, []⟩]⟩] : List S29)) by kernel_rfl) (show term_Text.f 40 28 0 ([⟨11, 0, []⟩, ⟨19, 0, [⟨11, 0, []⟩]⟩] : List S29) = some (⟨#[40, 50, 56, 32, 49, 49, 32, 40, 49, 57, 32, 49, 49, 41, 41]⟩ : ByteArray) by kernel_rfl) (by kernel_rfl)
theorem termKnown_walk {W : World} (a0 : Int) (w0 : (Lit.int .i64 a0).wf = true) : Calls Tryd.prog 6 #[.int .i64 a0] W fun e w' => e = .returned (.bool true) ∧ Below W.heap.size W w' := by
  obtain ⟨t, ht, hn⟩ := within_ex (i64_of w0) (n := 6) (by decide) (by decide)
  have hc : t = 0 ∨ t = 1 ∨ t = 2 ∨ t = 3 ∨ t = 4 ∨ t = 5 := by omega
  rcases hc with rfl | rfl | rfl | rfl | rfl | rfl
  · exact known0 a0 W hn
  · exact known1 a0 W hn
  · exact known2 a0 W hn
  · exact known3 a0 W hn
  · exact known4 a0 W hn
  · exact known5 a0 W hn
end Go.Proofs.YtcchfblekaaalaaDoor.P
