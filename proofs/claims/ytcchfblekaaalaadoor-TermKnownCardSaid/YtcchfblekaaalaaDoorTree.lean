/- Chapter 4, plainly: terms of sound shape; each: what is done to each variable, told how many binders stand ahead; that the code's each comes to it. -/
import Derived.Test.YtcchfblekaaalaaDoorPureA
import Derived.Test.YtcchfblekaaalaaDoorHandFree
import Derived.Test.YtcchfblekaaalaaDoorHandSubst
namespace Go.Proofs.YtcchfblekaaalaaDoor.Pure
open Go.RowKit Go.Proofs.YtcchfblekaaalaaDoor.P Go.Proofs.YtcchfblekaaalaaDoorW.PrintWords Go.Proofs.YtcchfblekaaalaaDoorW.PrintLast
set_option linter.unusedVariables false
mutual
def size29 : S29 → Nat
  | ⟨_, _, l⟩ => 1 + sizes29 l
def sizes29 : List S29 → Nat
  | [] => 0
  | x :: l => size29 x + sizes29 l
end
mutual
def deep29 : S29 → Nat
  | ⟨_, _, l⟩ => 1 + deeps29 l
def deeps29 : List S29 → Nat
  | [] => 0
  | x :: l => max (deep29 x) (deeps29 l)
end
mutual
/-- Sound shape, as far as the laws need it: variables have no kids, and are below a bound. -/
def good (B : Int) : S29 → Prop
  | ⟨a, b, l⟩ => (-9223372036854775808 ≤ b ∧ b ≤ 9223372036854775807) ∧ (a = 1 → l = [] ∧ 0 ≤ b ∧ b ≤ B) ∧ l.length ≤ 1000000 ∧ goods B l
def goods (B : Int) : List S29 → Prop
  | [] => True
  | x :: l => good B x ∧ goods B l
end
mutual
theorem good_le {B C : Int} (h : B ≤ C) : ∀ t : S29, good B t → good C t
  | ⟨a, b, l⟩, ⟨h1, h2, h3, h4⟩ => ⟨h1, fun ha => ⟨(h2 ha).1, (h2 ha).2.1, by have := (h2 ha).2.2; omega⟩, h3, goods_le h l h4⟩
theorem goods_le {B C : Int} (h : B ≤ C) : ∀ l : List S29, goods B l → goods C l
  | [], _ => trivial
  | x :: l, ⟨h1, h2⟩ => ⟨good_le h x h1, goods_le h l h2⟩
end
theorem eta29 (x : S29) : (⟨x.f0, x.f1, x.f2⟩ : S29) = x := by cases x; rfl
theorem rd29 {l : List S29} {i : Nat} (h : i < l.length) : rd_T29 l (i : Int) = l[i] := by simp [rd_T29, h]
mutual
/-- What is done to each variable. -/
def ea (q : Int → Int → S29) : Int → S29 → S29
  | ah, ⟨a, b, l⟩ => if a = 1 then q b ah else ⟨a, b, eas q ah a 0 l⟩
def eas (q : Int → Int → S29) : Int → Int → Nat → List S29 → List S29
  | _, _, _, [] => []
  | ah, a, i, x :: l => ea q (ah + bnd a i) x :: eas q ah a (i + 1) l
end
theorem eas_len (q : Int → Int → S29) (ah a : Int) : ∀ (l : List S29) (i : Nat), (eas q ah a i l).length = l.length
  | [], i => by rw [eas]
  | x :: l, i => by rw [eas, List.length_cons, List.length_cons, eas_len q ah a l (i + 1)]
theorem size_pos : ∀ t : S29, 1 ≤ size29 t
  | ⟨_, _, l⟩ => by rw [size29]; omega
/-- The code's each, over whatever is done to a variable. -/
theorem set_mid {α : Type} (done : List α) (z x : α) (r : List α) : (done ++ z :: r).set done.length x = (done ++ [x]) ++ r := by
  rw [List.set_append_right _ _ (Nat.le_refl _), Nat.sub_self, List.set_cons_zero, List.append_assoc]
  rfl
mutual
theorem each_run {do_ : Int → Int → List S29 → Int → Option (Int × Int × List S29)} {q : Int → Int → S29} {B M : Int} (hM : M ≤ 4611686018427387904) (hq : ∀ b ah, 0 ≤ b → b ≤ B → 0 ≤ ah → ah ≤ M → do_ 1 b [] ah = some ((q b ah).f0, (q b ah).f1, (q b ah).f2)) :
    ∀ (t : S29) (ah : Int) (k : Nat), good B t → 0 ≤ ah → ah + 2 * deep29 t ≤ M → 3 * size29 t ≤ k → eachU.f do_ k t.f0 t.f1 t.f2 ah 0 = some ((ea q ah t).f0, (ea q ah t).f1, (ea q ah t).f2)
  | ⟨a, b, l⟩, ah, k, hg, h0, hd, hk => by
    rw [deep29] at hd
    rw [size29] at hk
    obtain ⟨h1, h2, h3, h4⟩ := hg
    obtain ⟨k, rfl⟩ : ∃ k', k = k' + 1 := ⟨k - 1, by omega⟩
    rw [eachU.f, ea]
    by_cases ha : a = 1
    · obtain ⟨hl, hb0, hb1⟩ := h2 ha
      subst ha
      subst hl
      rw [if_pos rfl, if_pos rfl, hq b ah hb0 hb1 h0 (by omega)]
      rfl
    · rw [if_neg ha, if_neg ha, if_pos (by omega), if_pos (by show (l.length : Int).toNat ≤ 7036874417766; omega), Int.toNat_natCast]
      have := each_loop hM hq (a := a) (b := b) (ah := ah) h0 l [] k l rfl h4 h3 (by omega) (by omega)
      exact this
theorem each_loop {do_ : Int → Int → List S29 → Int → Option (Int × Int × List S29)} {q : Int → Int → S29} {B M : Int} (hM : M ≤ 4611686018427387904) (hq : ∀ b ah, 0 ≤ b → b ≤ B → 0 ≤ ah → ah ≤ M → do_ 1 b [] ah = some ((q b ah).f0, (q b ah).f1, (q b ah).f2))
    {a b ah : Int} (h0 : 0 ≤ ah) : ∀ (r : List S29) (pre : List S29) (k : Nat) (l : List S29), l = pre ++ r → goods B r → l.length ≤ 1000000 → ah + 2 * (1 + deeps29 r) ≤ M → 1 + 3 * sizes29 r ≤ k →
      eachU.l0 do_ k ah 0 (eas q ah a 0 pre ++ List.replicate r.length z29) l (l.length : Int) (pre.length : Int) a b l = some (a, b, eas q ah a 0 pre ++ eas q ah a pre.length r)
  | [], pre, k, l, hl, hg, hn, hd, hk => by
    obtain ⟨k, rfl⟩ : ∃ k', k = k' + 1 := ⟨k - 1, by omega⟩
    subst hl
    rw [eachU.l0, if_neg (by simp), eas]
    rfl
  | x :: r, pre, k, l, hl, hg, hn, hd, hk => by
    rw [sizes29] at hk
    rw [deeps29] at hd
    have hp := size_pos x
    obtain ⟨k, rfl⟩ : ∃ k', k = k' + 1 := ⟨k - 1, by omega⟩
    have hlen : l.length = pre.length + (r.length + 1) := by rw [hl, List.length_append, List.length_cons]
    have hx : rd_T29 l (pre.length : Int) = x := by
      rw [rd29 (show pre.length < l.length by omega)]
      subst hl
      simp
    have hb := bnd_range a (pre.length : Int)
    have hw : wrap64 (ah + bnd a (pre.length : Int)) = ah + bnd a (pre.length : Int) := wrap_ok _ (by omega) (by omega)
    rw [eachU.l0, if_pos (by omega), if_pos (by omega), if_pos (by omega), hx]
    unfold term_Binders.f
    rw [Option.bind_some, hw, each_run hM hq x (ah + bnd a (pre.length : Int)) k hg.1 (by omega) (by omega) (by omega), Option.bind_some]
    have hpl : (eas q ah a 0 pre).length = pre.length := eas_len q ah a pre 0
    rw [if_pos (by rw [List.length_append, hpl, List.length_replicate, List.length_cons]; omega), Int.toNat_natCast, List.length_cons, List.replicate_succ, eta29, wrap_ok _ (by omega) (by omega)]
    have hset := set_mid (eas q ah a 0 pre) z29 (ea q (ah + bnd a (pre.length : Int)) x) (List.replicate r.length z29)
    rw [hpl] at hset
    rw [hset]
    have hcat : eas q ah a 0 (pre ++ [x]) = eas q ah a 0 pre ++ [ea q (ah + bnd a (pre.length : Int)) x] := by
      have := eas_append q ah a pre [x] 0
      rw [this, eas, eas, Nat.zero_add]
    have ih := each_loop hM hq (a := a) (b := b) (ah := ah) h0 r (pre ++ [x]) k l (by rw [hl, List.append_assoc]; rfl) hg.2 hn (by omega) (by omega)
    rw [hcat, List.length_append, List.length_singleton] at ih
    rw [show (pre.length : Int) + 1 = ((pre.length + 1 : Nat) : Int) by omega, ih, eas, List.append_assoc]
    rfl
theorem eas_append (q : Int → Int → S29) (ah a : Int) : ∀ (l r : List S29) (i : Nat), eas q ah a i (l ++ r) = eas q ah a i l ++ eas q ah a (i + l.length) r
  | [], r, i => by rw [List.nil_append, eas, List.nil_append, List.length_nil, Nat.add_zero]
  | x :: l, r, i => by rw [List.cons_append, eas, eas, eas_append q ah a l r (i + 1), List.cons_append, List.length_cons, show i + 1 + l.length = i + (l.length + 1) by omega]
end
end Go.Proofs.YtcchfblekaaalaaDoor.Pure
