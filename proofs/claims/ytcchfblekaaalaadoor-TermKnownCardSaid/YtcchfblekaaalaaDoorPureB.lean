/- Chapter 4, plainly: what Shift, Subst, Free, Below, Same come to; laws of shifting. -/
import Derived.Test.YtcchfblekaaalaaDoorTree
import Derived.Test.YtcchfblekaaalaaDoorQx6
namespace Go.Proofs.YtcchfblekaaalaaDoor.Pure
open Go.RowKit Go.Proofs.YtcchfblekaaalaaDoor.P Go.Proofs.YtcchfblekaaalaaDoorW.PrintWords Go.Proofs.YtcchfblekaaalaaDoorW.PrintLast
set_option linter.unusedVariables false
theorem eachSU (do_ : Int → Int → List S29 → Int → Option (Int × Int × List S29)) : ∀ k, (∀ a b c d e, eachS.f do_ k a b c d e = eachU.f do_ k a b c d e) ∧ (∀ a b c d e f g h i, eachS.l0 do_ k a b c d e f g h i = eachU.l0 do_ k a b c d e f g h i)
  | 0 => ⟨fun _ _ _ _ _ => rfl, fun _ _ _ _ _ _ _ _ _ => rfl⟩
  | k + 1 => by
    obtain ⟨i1, i2⟩ := eachSU do_ k
    refine ⟨fun a b c d e => ?_, fun a b c d e f g h i => ?_⟩
    · rw [eachS.f, eachU.f]
      simp only [i2]
    · rw [eachS.l0, eachU.l0]
      simp only [i1, i2]
theorem someBF (do_ : Int → Int → Option Bool) : ∀ k, (∀ a b c d e, someB.f do_ k a b c d e = someF.f do_ k a b c d e) ∧ (∀ a b c d e f g h, someB.l0 do_ k a b c d e f g h = someF.l0 do_ k a b c d e f g h)
  | 0 => ⟨fun _ _ _ _ _ => rfl, fun _ _ _ _ _ _ _ _ => rfl⟩
  | k + 1 => by
    obtain ⟨i1, i2⟩ := someBF do_ k
    refine ⟨fun a b c d e => ?_, fun a b c d e f g h => ?_⟩
    · rw [someB.f, someF.f]
      simp only [i2]
    · rw [someB.l0, someF.l0]
      simp only [i1, i2]
/-- A variable, shifted. -/
def shQ (by_ fr : Int) (b ah : Int) : S29 := ⟨1, if fr ≤ b - ah then b + by_ else b, []⟩
abbrev sh (by_ fr : Int) (ah : Int) (t : S29) : S29 := ea (shQ by_ fr) ah t
/-- A variable, with a term in its place. -/
def sbQ (m : Int) (u : S29) (b ah : Int) : S29 := if m < b - ah then ⟨1, b - 1, []⟩ else if b - ah = m then sh ah 0 0 u else ⟨1, b, []⟩
abbrev sb (m : Int) (u : S29) (ah : Int) (t : S29) : S29 := ea (sbQ m u) ah t
mutual
/-- Is a variable so? -/
def sa (p : Int → Int → Bool) : Int → S29 → Bool
  | ah, ⟨a, b, l⟩ => if a = 1 then p b ah else sas p ah a 0 l
def sas (p : Int → Int → Bool) : Int → Int → Nat → List S29 → Bool
  | _, _, _, [] => false
  | ah, a, i, x :: l => sa p (ah + bnd a i) x || sas p ah a (i + 1) l
end
theorem wrap_in {n : Int} (h0 : -1000000000000 ≤ n) (h1 : n ≤ 1000000000000) : wrap64 n = n := wrap_ok n (by omega) (by omega)
theorem shift_run {B by_ fr : Int} (hB : B ≤ 100000000000) (h0 : 0 ≤ by_) (h1 : by_ ≤ 100000000000) (h2 : -100000000000 ≤ fr) (h3 : fr ≤ 100000000000) (t : S29) (hg : good B t) (hd : 2 * (deep29 t : Int) ≤ 100000000000) (k : Nat) (hk : 3 * size29 t ≤ k) :
    term_Shift.f k t.f0 t.f1 t.f2 by_ fr = some ((sh by_ fr 0 t).f0, (sh by_ fr 0 t).f1, (sh by_ fr 0 t).f2) := by
  unfold term_Shift.f
  rw [(eachSU _ k).1]
  refine each_run (B := B) (M := 100000000000) (by omega) (fun b ah hb0 hb1 ha0 ha1 => ?_) t 0 k hg (by omega) (by omega) hk
  unfold shiftDo
  rw [wrap_in (n := b - ah) (by omega) (by omega), wrap_in (n := b + by_) (by omega) (by omega), wrap_in (n := b + 0) (by omega) (by omega), Int.add_zero]
  rfl
theorem subst_run {B C m : Int} (hB : B ≤ 100000000000) (hC : C ≤ 100000000000) (h2 : -100000000000 ≤ m) (h3 : m ≤ 100000000000) (t u : S29) (hg : good B t) (hu : good C u) (hd : 2 * (deep29 t : Int) ≤ 100000000000) (hdu : 2 * (deep29 u : Int) ≤ 100000000000) (k : Nat) (hk : 3 * size29 t ≤ k) (hku : 3 * size29 u ≤ k) :
    term_Subst.f k t.f0 t.f1 t.f2 m u.f0 u.f1 u.f2 = some ((sb m u 0 t).f0, (sb m u 0 t).f1, (sb m u 0 t).f2) := by
  unfold term_Subst.f
  refine each_run (B := B) (M := 100000000000) (by omega) (fun b ah hb0 hb1 ha0 ha1 => ?_) t 0 k hg (by omega) (by omega) hk
  unfold substDo sbQ
  rw [wrap_in (n := b - ah) (by omega) (by omega), wrap_in (n := b + -1) (by omega) (by omega), wrap_in (n := b + 0) (by omega) (by omega), Int.add_zero]
  by_cases h : m < b - ah
  · rw [if_pos h, if_pos h]
    rfl
  · rw [if_neg h, if_neg h]
    by_cases h' : b - ah = m
    · rw [if_pos h', if_pos h']
      exact shift_run hC ha0 ha1 (by omega) (by omega) u hu hdu k hku
    · rw [if_neg h', if_neg h']
mutual
theorem some_run {do_ : Int → Int → Option Bool} {p : Int → Int → Bool} {B M : Int} (hM : M ≤ 4611686018427387904) (hp : ∀ b ah, 0 ≤ b → b ≤ B → 0 ≤ ah → ah ≤ M → do_ b ah = some (p b ah)) :
    ∀ (t : S29) (ah : Int) (k : Nat), good B t → 0 ≤ ah → ah + 2 * deep29 t ≤ M → 3 * size29 t ≤ k → someF.f do_ k t.f0 t.f1 t.f2 ah 0 = some (sa p ah t)
  | ⟨a, b, l⟩, ah, k, hg, h0, hd, hk => by
    rw [deep29] at hd
    rw [size29] at hk
    obtain ⟨h1, h2, h3, h4⟩ := hg
    obtain ⟨k, rfl⟩ : ∃ k', k = k' + 1 := ⟨k - 1, by omega⟩
    rw [someF.f, sa]
    by_cases ha : a = 1
    · obtain ⟨hl, hb0, hb1⟩ := h2 ha
      subst ha
      rw [if_pos rfl, if_pos rfl, hp b ah hb0 hb1 h0 (by omega)]
      rfl
    · rw [if_neg ha, if_neg ha]
      exact some_loop hM hp (b := b) (ks := l) h0 l [] k l rfl h4 h3 (by omega) (by omega)
theorem some_loop {do_ : Int → Int → Option Bool} {p : Int → Int → Bool} {B M : Int} (hM : M ≤ 4611686018427387904) (hp : ∀ b ah, 0 ≤ b → b ≤ B → 0 ≤ ah → ah ≤ M → do_ b ah = some (p b ah))
    {a b ah : Int} {ks : List S29} (h0 : 0 ≤ ah) : ∀ (r : List S29) (pre : List S29) (k : Nat) (l : List S29), l = pre ++ r → goods B r → l.length ≤ 1000000 → ah + 2 * (1 + deeps29 r) ≤ M → 1 + 3 * sizes29 r ≤ k →
      someF.l0 do_ k ah 0 l (l.length : Int) (pre.length : Int) a b ks = some (sas p ah a pre.length r)
  | [], pre, k, l, hl, hg, hn, hd, hk => by
    obtain ⟨k, rfl⟩ : ∃ k', k = k' + 1 := ⟨k - 1, by omega⟩
    subst hl
    rw [someF.l0, if_neg (by simp), sas]
  | x :: r, pre, k, l, hl, hg, hn, hd, hk => by
    rw [sizes29] at hk
    rw [deeps29] at hd
    have hp' := size_pos x
    obtain ⟨k, rfl⟩ : ∃ k', k = k' + 1 := ⟨k - 1, by omega⟩
    have hlen : l.length = pre.length + (r.length + 1) := by rw [hl, List.length_append, List.length_cons]
    have hx : rd_T29 l (pre.length : Int) = x := by
      rw [rd29 (show pre.length < l.length by omega)]
      subst hl
      simp
    have hb := bnd_range a (pre.length : Int)
    have hw : wrap64 (ah + bnd a (pre.length : Int)) = ah + bnd a (pre.length : Int) := wrap_ok _ (by omega) (by omega)
    rw [someF.l0, if_pos (by omega), if_pos (by omega), if_pos (by omega), hx]
    unfold term_Binders.f
    rw [Option.bind_some, hw, some_run hM hp x (ah + bnd a (pre.length : Int)) k hg.1 (by omega) (by omega) (by omega), Option.bind_some, sas]
    have ih := some_loop hM hp (a := a) (b := b) (ah := ah) (ks := ks) h0 r (pre ++ [x]) k l (by rw [hl, List.append_assoc]; rfl) hg.2 hn (by omega) (by omega)
    rw [List.length_append, List.length_singleton] at ih
    cases sa p (ah + bnd a (pre.length : Int)) x
    · rw [if_neg (by decide), wrap_ok _ (by omega) (by omega), show (pre.length : Int) + 1 = ((pre.length + 1 : Nat) : Int) by omega, ih]
      simp
    · rw [if_pos rfl]
      simp
end
/-- A variable that is the one asked for. -/
def frP (n : Int) (b ah : Int) : Bool := decide (b - ah = n) && decide (ah ≤ b)
abbrev free (n : Int) (ah : Int) (t : S29) : Bool := sa (frP n) ah t
theorem free_run {B n : Int} (hB : B ≤ 100000000000) (t : S29) (hg : good B t) (hd : 2 * (deep29 t : Int) ≤ 100000000000) (k : Nat) (hk : 3 * size29 t ≤ k) : term_Free.f k t.f0 t.f1 t.f2 n = some (free n 0 t) := by
  unfold term_Free.f
  refine some_run (B := B) (M := 100000000000) (by omega) (fun b ah hb0 hb1 ha0 ha1 => ?_) t 0 k hg (by omega) (by omega) hk
  unfold freeDo frP
  rw [wrap_in (n := b - ah) (by omega) (by omega)]
/-- A variable that is not below a number. -/
def beP (n : Int) (b ah : Int) : Bool := decide (ah ≤ b) && decide (n ≤ b - ah)
theorem below_run {B n : Int} (hB : B ≤ 100000000000) (t : S29) (hg : good B t) (hd : 2 * (deep29 t : Int) ≤ 100000000000) (k : Nat) (hk : 3 * size29 t ≤ k) : term_Below.f k t.f0 t.f1 t.f2 n = some (!sa (beP n) 0 t) := by
  unfold term_Below.f
  rw [(someBF _ k).1, some_run (B := B) (M := 100000000000) (p := beP n) (by omega) (fun b ah hb0 hb1 ha0 ha1 => ?_) t 0 k hg (by omega) (by omega) hk, Option.bind_some]
  unfold belowDo beP
  rw [wrap_in (n := b - ah) (by omega) (by omega)]
/- ref.Same of a term with itself -/
mutual
theorem same_self {B : Int} : ∀ (t : S29) (k : Nat), good B t → 4 * size29 t ≤ k → thyrsusref4_Same.f k t.f0 t.f1 t.f2 t.f0 t.f1 t.f2 = some true
  | ⟨a, b, l⟩, k, hg, hk => by
    rw [size29] at hk
    obtain ⟨k, rfl⟩ : ∃ k', k = k' + 2 := ⟨k - 2, by omega⟩
    rw [thyrsusref4_Same.f, if_pos rfl, if_pos rfl, thyrsusref4_Same.j0, if_neg (by simp)]
    exact same_selfs (a := a) (b := b) l [] k l rfl hg.2.2.2 hg.2.2.1 (by omega)
theorem same_selfs {B : Int} {a b : Int} : ∀ (r : List S29) (pre : List S29) (k : Nat) (l : List S29), l = pre ++ r → goods B r → l.length ≤ 1000000 → 1 + 4 * sizes29 r ≤ k → thyrsusref4_Same.l0 k (pre.length : Int) a b l a b l = some true
  | [], pre, k, l, hl, hg, hn, hk => by
    obtain ⟨k, rfl⟩ : ∃ k', k = k' + 1 := ⟨k - 1, by omega⟩
    subst hl
    rw [thyrsusref4_Same.l0, if_neg (by simp)]
  | x :: r, pre, k, l, hl, hg, hn, hk => by
    rw [sizes29] at hk
    have hp := size_pos x
    obtain ⟨k, rfl⟩ : ∃ k', k = k' + 1 := ⟨k - 1, by omega⟩
    have hlen : l.length = pre.length + (r.length + 1) := by rw [hl, List.length_append, List.length_cons]
    have hx : rd_T29 l (pre.length : Int) = x := by
      rw [rd29 (show pre.length < l.length by omega)]
      subst hl
      simp
    have ih := same_selfs (a := a) (b := b) r (pre ++ [x]) k l (by rw [hl, List.append_assoc]; rfl) hg.2 hn (by omega)
    rw [List.length_append, List.length_singleton] at ih
    rw [thyrsusref4_Same.l0, if_pos (by omega), if_pos (by omega), if_pos (by omega), hx, same_self x k hg.1 (by omega), Option.bind_some, if_pos rfl, wrap_ok _ (by omega) (by omega), show (pre.length : Int) + 1 = ((pre.length + 1 : Nat) : Int) by omega, ih]
end
theorem same_eq {B : Int} {t u : S29} (h : t = u) (hg : good B t) (k : Nat) (hk : 4 * size29 t ≤ k) : thyrsusref4_Same.f k t.f0 t.f1 t.f2 u.f0 u.f1 u.f2 = some true := by
  subst h
  exact same_self t k hg hk
end Go.Proofs.YtcchfblekaaalaaDoor.Pure
