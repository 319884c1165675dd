/- Several texts in one. -/
import Derived.Test.YtkkmgahgejjhgaaDoorCLwN
import Derived.Test.YtkkmgahgejjhgaaDoorCPx1
import Derived.Test.YtkkmgahgejjhgaaDoorCPx0
import Derived.Test.YtkkmgahgejjhgaaDoorCMod
import Derived.Test.YtkkmgahgejjhgaaDoorCTextF
import Derived.Test.YtkkmgahgejjhgaaDoorCFMod
import Derived.Test.YtkkmgahgejjhgaaDoorCHandT
import Derived.Test.YtkkmgahgejjhgaaDoorCCheckF
import Derived.Test.YtkkmgahgejjhgaaDoorCHandP
import Derived.Test.YtkkmgahgejjhgaaDoorRows
import Derived.Test.YtkkmgahgejjhgaaDoorCHandStr
import Derived.Lib.LaidTab
import Derived.KernelRfl
/- What the laws of chapter 3 share: the chapter's example, a number from 0 to n - 1. -/
namespace Go.Proofs.YtkkmgahgejjhgaaDoor.Pure
open Go.RowKit Go.Proofs.YtkkmgahgejjhgaaDoor.P Go.Proofs.YtkkmgahgejjhgaaDoorW.PrintWords Go.Proofs.YtkkmgahgejjhgaaDoorW.PrintLast
theorem i64_of {n : Int} (h : (Lit.int .i64 n).wf = true) : -9223372036854775808 ≤ n ∧ n ≤ 9223372036854775807 := by
  have h1 : IntKind.i64.min ≤ n ∧ n ≤ 9223372036854775807 := by simpa [Lit.wf] using h
  exact h1
theorem within_val {a n : Int} (ha : -9223372036854775808 ≤ a ∧ a ≤ 9223372036854775807) (h0 : 0 < n) (hn : n ≤ 4611686018427387904) : thyrsuslaw3_within.f a n = some (a % n) := by
  unfold thyrsuslaw3_within.f
  rw [if_neg (by omega)]
  have h1 := Int.emod_nonneg a (show n ≠ 0 by omega)
  have h2 := Int.emod_lt_of_pos a h0
  by_cases h : 0 ≤ a
  · rw [Int.tmod_eq_emod_of_nonneg h, if_neg (by omega)]
  · have e := Int.tmod_eq_emod (a := a) (b := n)
    by_cases hd : n ∣ a
    · rw [if_pos (.inr hd)] at e
      have h3 := Int.emod_eq_zero_of_dvd hd
      rw [if_neg (by omega)]
      simp only [Option.some.injEq]
      omega
    · rw [if_neg (by omega)] at e
      rw [if_pos (by omega)]
      simp only [Option.some.injEq]
      unfold wrap64
      omega
theorem within_ex {a n : Int} (ha : -9223372036854775808 ≤ a ∧ a ≤ 9223372036854775807) (h0 : 0 < n) (hn : n ≤ 4611686018427387904) : ∃ t : Nat, (t : Int) < n ∧ thyrsuslaw3_within.f a n = some (t : Int) := by
  have h1 := Int.emod_nonneg a (show n ≠ 0 by omega)
  have h2 := Int.emod_lt_of_pos a h0
  refine ⟨(a % n).toNat, by omega, ?_⟩
  rw [within_val ha h0 hn]
  congr 1
  omega
theorem known_k (d : Nat) : thyrsuslaw3_known.f (d + 3) = some true := by kernel_rfl
end Go.Proofs.YtkkmgahgejjhgaaDoor.Pure
-- Printed by mkprint.py (a program of this session, over the kit's print). Lean checks it.
namespace Go.Proofs.YtkkmgahgejjhgaaDoor.P
open Go.RowKit Go.Proofs.YtkkmgahgejjhgaaDoorW.PrintWords Go.Proofs.YtkkmgahgejjhgaaDoorW.PrintLast Go.Proofs.YtkkmgahgejjhgaaDoorW.PrintMore
attribute [local go_sem] max2_int min2_int max_two min_two max_three min_three max_four min_four   -- for this text's walks alone
set_option linter.unusedVariables false
set_option linter.unusedSimpArgs false

-- NOT PRINTED: function 14 (thyrsusref3_Parse)

/-! ### thyrsusref3_Same: function 20 -/
end Go.Proofs.YtkkmgahgejjhgaaDoor.P
-- Printed by mkprint.py (a program of this session, over the kit's print). Lean checks it.
namespace Go.Proofs.YtkkmgahgejjhgaaDoor.P
open Go.RowKit Go.Proofs.YtkkmgahgejjhgaaDoorW.PrintWords Go.Proofs.YtkkmgahgejjhgaaDoorW.PrintLast Go.Proofs.YtkkmgahgejjhgaaDoorW.PrintMore
attribute [local go_sem] max2_int min2_int max_two min_two max_three min_three max_four min_four   -- for this text's walks alone
set_option linter.unusedVariables false
set_option linter.unusedSimpArgs false

/-! ### thyrsuslaw3_Same: function 15 -/
-- NOT PRINTED: function 3 (thyrsuslaw3_FormsParse)

/-! ### thyrsuslaw3_Count: function 31 -/
/-! ### thyrsuslaw3_Few: function 16 -/
/-! ### thyrsusref3_Digits: function 32 -/
end Go.Proofs.YtkkmgahgejjhgaaDoor.P
-- Printed by mkprint.py (a program of this session, over the kit's print). Lean checks it.
namespace Go.Proofs.YtkkmgahgejjhgaaDoor.P
open Go.RowKit Go.Proofs.YtkkmgahgejjhgaaDoorW.PrintWords Go.Proofs.YtkkmgahgejjhgaaDoorW.PrintLast Go.Proofs.YtkkmgahgejjhgaaDoorW.PrintMore
attribute [local go_sem] max2_int min2_int max_two min_two max_three min_three max_four min_four   -- for this text's walks alone
set_option linter.unusedVariables false
set_option linter.unusedSimpArgs false

/-! ### thyrsuslaw3_Make: function 18 -/
end Go.Proofs.YtkkmgahgejjhgaaDoor.P
/- Chapter 3's Count, Few, Make: what they come to: a form that may be, not too deep, not too great. No conditions but those that each theorem tells. -/
namespace Go.Proofs.YtkkmgahgejjhgaaDoor.Pure
open Go.RowKit Go.Proofs.YtkkmgahgejjhgaaDoor.P Go.Proofs.YtkkmgahgejjhgaaDoorW.PrintWords Go.Proofs.YtkkmgahgejjhgaaDoorW.PrintLast Go.Proofs.YtkkmgahgejjhgaaDoorW.PrintMore
set_option linter.unusedVariables false
set_option linter.unusedSimpArgs false
/-- Numbers of their kind, lists that memory can hold. -/
inductive WF38 : S38 → Prop
  | mk (a b : Int) (s : ByteArray) (l : List S38) (ha : (Lit.int .i64 a).wf = true) (hb : (Lit.int .i64 b).wf = true) (hn : l.length ≤ 9223372036854775807) (hl : ∀ x ∈ l, WF38 x) : WF38 ⟨a, b, s, l⟩
theorem rd42 {l : List S42} {i : Nat} (h : i < l.length) : rd_T42 l (i : Int) = l[i] := by simp [rd_T42, h]
theorem wrap_id {n : Int} (h : -9223372036854775808 ≤ n ∧ n ≤ 9223372036854775807) : wrap64 n = n := by unfold wrap64; omega
/-- The names that Make takes. -/
def names : List ByteArray := [⟨#[97]⟩, ⟨#[98]⟩, ⟨#[102, 110]⟩, ⟨#[45, 62]⟩, ⟨#[42]⟩, ⟨#[122, 101, 114, 111]⟩, ⟨#[120, 39]⟩, ⟨#[95]⟩, ⟨#[85, 48]⟩, ⟨#[112, 97, 105, 114]⟩]
/-- A form that Make makes, so deep. -/
inductive Fine : Nat → S42 → Prop
  | name (n : Nat) (s : ByteArray) (h : s ∈ names) : Fine n ⟨1, 0, s, []⟩
  | num (n : Nat) (z : Int) (h : -549755813888 ≤ z ∧ z < 549755813888) : Fine n ⟨2, z, ⟨#[]⟩, []⟩
  | list (n : Nat) (l : List S42) (h : ∀ x ∈ l, Fine n x) : Fine (n + 1) ⟨3, 0, ⟨#[]⟩, l⟩
mutual
def size42 : S42 → Nat
  | ⟨_, _, _, l⟩ => 1 + sizes42 l
def sizes42 : List S42 → Nat
  | [] => 0
  | x :: l => size42 x + sizes42 l
end
theorem sizes42_len : ∀ l : List S42, l.length ≤ sizes42 l
  | [] => by simp [sizes42]
  | ⟨a, b, c, k⟩ :: l => by
    have := sizes42_len l
    simp [sizes42, size42]
    omega
end Go.Proofs.YtkkmgahgejjhgaaDoor.Pure
/- Chapter 3's texts, plainly: what forms.Text and the reference's Text come to, of a form that Make makes. No conditions but those that each theorem tells. -/
namespace Go.Proofs.YtkkmgahgejjhgaaDoor.Pure
open Go.RowKit Go.Proofs.YtkkmgahgejjhgaaDoor.P Go.Proofs.YtkkmgahgejjhgaaDoor.Lex Go.Proofs.YtkkmgahgejjhgaaDoorW.PrintWords Go.Proofs.YtkkmgahgejjhgaaDoorW.PrintLast Go.Proofs.YtkkmgahgejjhgaaDoorW.PrintMore
set_option linter.unusedVariables false
set_option linter.unusedSimpArgs false
mutual
/-- A form's text. -/
def tx : S42 → List UInt8
  | ⟨k, z, s, l⟩ => if k = 1 then lst s else if k = 2 then Lib.itoa z else 40 :: (txs l ++ [41])
/-- The texts of a list's forms. -/
def txs : List S42 → List UInt8
  | [] => []
  | x :: l => tx x ++ txr l
/-- .. of those behind the first one. -/
def txr : List S42 → List UInt8
  | [] => []
  | x :: l => 32 :: (tx x ++ txr l)
end
theorem sizes42_mem : ∀ (l : List S42) (x : S42), x ∈ l → size42 x ≤ sizes42 l
  | y :: l, x, h => by
    rcases List.mem_cons.1 h with rfl | h
    · simp [sizes42]
    · have := sizes42_mem l x h
      simp only [sizes42]
      omega
end Go.Proofs.YtkkmgahgejjhgaaDoor.Pure
/- Chapter 3's texts read back, plainly: a made form's text is read as just that form. No conditions but those that each theorem tells. -/
namespace Go.Proofs.YtkkmgahgejjhgaaDoor.Pure
open Go.RowKit Go.Proofs.YtkkmgahgejjhgaaDoor.P Go.Proofs.YtkkmgahgejjhgaaDoor.Lex Go.Proofs.YtkkmgahgejjhgaaDoor.Frm Go.Proofs.YtkkmgahgejjhgaaDoorW.PrintWords Go.Proofs.YtkkmgahgejjhgaaDoorW.PrintLast Go.Proofs.YtkkmgahgejjhgaaDoorW.PrintMore
set_option linter.unusedVariables false
set_option linter.unusedSimpArgs false
/-- No byte that may stand in a name begins it. -/
def Delim (r : List UInt8) : Prop := spn pInner r = 0
theorem spn_app {p : Int → Bool} : ∀ (l r : List UInt8), (∀ c ∈ l, p (c.toNat : Int) = true) → spn p (l ++ r) = l.length + spn p r
  | [], r, _ => by simp
  | c :: l, r, h => by
    rw [List.cons_append, spn, if_pos (h c (by simp)), spn_app l r (fun d hd => h d (by simp [hd]))]
    simp only [List.length_cons]
    omega
theorem delim_digit {r : List UInt8} (h : Delim r) : spn pDigit r = 0 := by
  cases r with
  | nil => rfl
  | cons c r =>
    unfold Delim at h
    rw [spn] at h ⊢
    by_cases hd : pDigit (c.toNat : Int) = true
    · rw [if_pos (by unfold pInner; rw [hd]; simp)] at h
      omega
    · rw [if_neg hd]
theorem nb_0 (c : UInt8) (l : List UInt8) : nb (c :: l) 0 = (c.toNat : Int) := rfl
theorem nb_1 (c d : UInt8) (l : List UInt8) : nb (c :: d :: l) 1 = (d.toNat : Int) := rfl
theorem blk_no {c : UInt8} {r : List UInt8} (h1 : pBlank (c.toNat : Int) = false) (h2 : (c.toNat : Int) ≠ 59) : blk false (c :: r) = 0 := by
  rw [blk_f, if_neg (by rw [h1]; decide), if_neg h2]
/-- A token of kind 3, whole. -/
theorem next_name {s : ByteArray} (hs : s ∈ names) {r : List UInt8} (hr : Delim r) : blk false (lst s ++ r) = 0 ∧ nextT (lst s ++ r) = (3, 0, (lst s).length, 0) := by
  have gen : ∀ (c : UInt8) (l : List UInt8), pFront (c.toNat : Int) = true → (∀ d ∈ c :: l, pInner (d.toNat : Int) = true) → (c :: l).length ≤ 20 → pBlank (c.toNat : Int) = false → (c.toNat : Int) ≠ 59 → (c.toNat : Int) ≠ 40 → (c.toNat : Int) ≠ 41 → (c.toNat : Int) ≠ 42 → (c.toNat : Int) ≠ 45 →
      blk false ((c :: l) ++ r) = 0 ∧ nextT ((c :: l) ++ r) = (3, 0, (c :: l).length, 0) := by
    intro c l h1 h2 h3 h4 h5 h6 h7 h8 h9
    have e : spn pInner ((c :: l) ++ r) = (c :: l).length := by
      rw [spn_app _ _ h2]
      have : spn pInner r = 0 := hr
      omega
    refine ⟨blk_no h4 h5, ?_⟩
    unfold nextT
    rw [e]
    rw [show nb ((c :: l) ++ r) 0 = (c.toNat : Int) from rfl, if_neg h6, if_neg h7, if_neg h8, if_neg (fun h => h9 h.1), if_pos h1, if_neg (by omega)]
  have hc : s = ⟨#[97]⟩ ∨ s = ⟨#[98]⟩ ∨ s = ⟨#[102, 110]⟩ ∨ s = ⟨#[45, 62]⟩ ∨ s = ⟨#[42]⟩ ∨ s = ⟨#[122, 101, 114, 111]⟩ ∨ s = ⟨#[120, 39]⟩ ∨ s = ⟨#[95]⟩ ∨ s = ⟨#[85, 48]⟩ ∨ s = ⟨#[112, 97, 105, 114]⟩ := by simpa [names] using hs
  rcases hc with rfl | rfl | rfl | rfl | rfl | rfl | rfl | rfl | rfl | rfl
  · exact gen 97 [] (by decide) (by decide) (by decide) (by decide) (by decide) (by decide) (by decide) (by decide) (by decide)
  · exact gen 98 [] (by decide) (by decide) (by decide) (by decide) (by decide) (by decide) (by decide) (by decide) (by decide)
  · exact gen 102 [110] (by decide) (by decide) (by decide) (by decide) (by decide) (by decide) (by decide) (by decide) (by decide)
  · refine ⟨blk_no (by decide) (by decide), ?_⟩
    show nextT (45 :: 62 :: r) = (3, 0, 2, 0)
    unfold nextT
    rw [nb_0, nb_1, if_neg (by decide), if_neg (by decide), if_neg (by decide), if_pos ⟨by decide, by simp, by decide⟩]
  · refine ⟨blk_no (by decide) (by decide), ?_⟩
    show nextT (42 :: r) = (3, 0, 1, 0)
    unfold nextT
    rw [nb_0, if_neg (by decide), if_neg (by decide), if_pos (by decide)]
  · exact gen 122 [101, 114, 111] (by decide) (by decide) (by decide) (by decide) (by decide) (by decide) (by decide) (by decide) (by decide)
  · exact gen 120 [39] (by decide) (by decide) (by decide) (by decide) (by decide) (by decide) (by decide) (by decide) (by decide)
  · exact gen 95 [] (by decide) (by decide) (by decide) (by decide) (by decide) (by decide) (by decide) (by decide) (by decide)
  · exact gen 85 [48] (by decide) (by decide) (by decide) (by decide) (by decide) (by decide) (by decide) (by decide) (by decide)
  · exact gen 112 [97, 105, 114] (by decide) (by decide) (by decide) (by decide) (by decide) (by decide) (by decide) (by decide) (by decide)
/-! ### Numbers -/
theorem dig (n : Nat) (h : n < 10) : ((UInt8.ofNat (48 + n)).toNat : Int) = 48 + n := by
  rw [UInt8.toNat_ofNat']
  omega
theorem dec_digits : ∀ (n : Nat), ∀ c ∈ Lib.decDigits n, pDigit (c.toNat : Int) = true := by
  intro n
  induction n using Nat.strongRecOn with
  | _ n ih =>
    intro c hc
    rw [Lib.decDigits] at hc
    have one : ∀ m, m < 10 → pDigit ((UInt8.ofNat (48 + m)).toNat : Int) = true := by
      intro m hm
      rw [dig m hm]
      unfold pDigit
      simp
      omega
    split at hc
    · rename_i h
      rw [List.mem_singleton.1 hc]
      exact one n h
    · rename_i h
      rcases List.mem_append.1 hc with hc | hc
      · exact ih (n / 10) (by omega) c hc
      · rw [List.mem_singleton.1 hc]
        exact one (n % 10) (by omega)
theorem dec_pos (n : Nat) : ∃ c l, Lib.decDigits n = c :: l := by
  rw [Lib.decDigits]
  split
  · exact ⟨_, _, rfl⟩
  · cases h : Lib.decDigits (n / 10) with
    | nil => exact ⟨_, _, rfl⟩
    | cons c l => exact ⟨_, _, rfl⟩
theorem numD_snoc : ∀ (l : List UInt8) (c : UInt8) (a : Int), numD (l ++ [c]) a = (numD l a).bind (fun n => numD [c] n)
  | [], c, a => by simp [numD]
  | d :: l, c, a => by
    rw [List.cons_append, numD, numD]
    split
    · rfl
    · exact numD_snoc l c _
theorem numD_dec : ∀ (n : Nat), n ≤ 4611686018427387904 → numD (Lib.decDigits n) 0 = some (n : Int) := by
  intro n
  induction n using Nat.strongRecOn with
  | _ n ih =>
    intro hn
    rw [Lib.decDigits]
    split
    · rename_i h
      rw [numD, dig n h, if_neg (by omega), numD]
      congr 1
      omega
    · rename_i h
      rw [numD_snoc, ih (n / 10) (by omega) (by omega), Option.bind_some, numD, dig (n % 10) (by omega), if_neg (by omega), numD]
      congr 1
      omega
theorem next_num {z : Int} (hz : -549755813888 ≤ z ∧ z < 549755813888) {r : List UInt8} (hr : Delim r) : blk false (Lib.itoa z ++ r) = 0 ∧ nextT (Lib.itoa z ++ r) = (4, z, (Lib.itoa z).length, 0) := by
  have dg : ∀ c : Int, pDigit c = true → 48 ≤ c ∧ c ≤ 57 := by
    intro c h
    unfold pDigit at h
    simpa using h
  have nf : ∀ c : Int, 48 ≤ c ∧ c ≤ 57 → pFront c = false := by
    intro c h
    unfold pFront
    simp
    omega
  unfold Lib.itoa
  by_cases h : z < 0
  · rw [if_pos h]
    obtain ⟨c, l, e⟩ := dec_pos z.natAbs
    have hd := dec_digits z.natAbs
    have hnum := numD_dec z.natAbs (by omega)
    rw [e] at hd hnum ⊢
    have hc := dg _ (hd c (by simp))
    have hs : spn pDigit ((c :: l) ++ r) = (c :: l).length := by
      rw [spn_app _ _ hd, delim_digit hr]
      omega
    refine ⟨blk_no (by decide) (by decide), ?_⟩
    show nextT (45 :: ((c :: l) ++ r)) = (4, z, (45 :: c :: l).length, 0)
    have hsg : sgn (45 :: ((c :: l) ++ r)) = 1 + (c :: l).length := by
      unfold sgn
      rw [nb_0, if_pos (by decide), List.drop_succ_cons, List.drop_zero, hs, if_pos (by simp)]
    have htk : (45 :: ((c :: l) ++ r)).take (1 + (c :: l).length) = 45 :: c :: l := by
      rw [Nat.add_comm, List.take_succ_cons, List.take_left]
    have hnm : num (45 :: c :: l) = some z := by
      unfold num
      rw [nb_0, if_pos (by decide), List.drop_succ_cons, List.drop_zero, hnum]
      simp only [Option.map_some, Option.some.injEq]
      omega
    unfold nextT
    rw [nb_0, hsg, htk, hnm, if_neg (by decide), if_neg (by decide), if_neg (by decide)]
    rw [if_neg (by
      rintro ⟨-, -, h2⟩
      rw [List.cons_append, nb_1] at h2
      omega), if_neg (by decide), if_neg (by simp)]
    simp only [List.length_cons]
    congr 3
    omega
  · rw [if_neg h]
    obtain ⟨c, l, e⟩ := dec_pos z.toNat
    have hd := dec_digits z.toNat
    have hnum := numD_dec z.toNat (by omega)
    rw [e] at hd hnum ⊢
    have hc := dg _ (hd c (by simp))
    have hs : spn pDigit ((c :: l) ++ r) = (c :: l).length := by
      rw [spn_app _ _ hd, delim_digit hr]
      omega
    refine ⟨blk_no (by unfold pBlank; simp; omega) (by omega), ?_⟩
    have hsg : sgn ((c :: l) ++ r) = (c :: l).length := by
      unfold sgn
      rw [List.cons_append, nb_0, if_neg (by omega), ← List.cons_append, hs]
    have htk : ((c :: l) ++ r).take (c :: l).length = c :: l := List.take_left
    have hnm : num (c :: l) = some z := by
      unfold num
      rw [nb_0, if_neg (by omega), hnum]
      simp only [Option.some.injEq]
      omega
    unfold nextT
    rw [hsg, htk, hnm, show nb ((c :: l) ++ r) 0 = (c.toNat : Int) from rfl, if_neg (by omega), if_neg (by omega), if_neg (by omega), if_neg (by omega), if_neg (by rw [nf _ hc]; decide), if_neg (by simp)]
/-! ### Forms -/
end Go.Proofs.YtkkmgahgejjhgaaDoor.Pure
/- Two forms are the same: what the reference's Same comes to; texts tell made forms apart. No conditions but those that each theorem tells. -/
namespace Go.Proofs.YtkkmgahgejjhgaaDoor.Pure
open Go.RowKit Go.Proofs.YtkkmgahgejjhgaaDoor.P Go.Proofs.YtkkmgahgejjhgaaDoor.Lex Go.Proofs.YtkkmgahgejjhgaaDoor.Frm Go.Proofs.YtkkmgahgejjhgaaDoorW.PrintWords Go.Proofs.YtkkmgahgejjhgaaDoorW.PrintLast Go.Proofs.YtkkmgahgejjhgaaDoorW.PrintMore
set_option linter.unusedVariables false
set_option linter.unusedSimpArgs false
end Go.Proofs.YtkkmgahgejjhgaaDoor.Pure
-- Printed by mkprint.py (a program of this session, over the kit's print). Lean checks it.
namespace Go.Proofs.YtkkmgahgejjhgaaDoor.P
open Go.RowKit Go.Proofs.YtkkmgahgejjhgaaDoorW.PrintWords Go.Proofs.YtkkmgahgejjhgaaDoorW.PrintLast Go.Proofs.YtkkmgahgejjhgaaDoorW.PrintMore
attribute [local go_sem] max2_int min2_int max_two min_two max_three min_three max_four min_four   -- for this text's walks alone
set_option linter.unusedVariables false
set_option linter.unusedSimpArgs false

/-! ### thyrsusref3_Text: function 17 -/
end Go.Proofs.YtkkmgahgejjhgaaDoor.P
/- The reference's text of a made form; a text of one made form, of two, is read as just those. No conditions but those that each theorem tells. -/
namespace Go.Proofs.YtkkmgahgejjhgaaDoor.Pure
open Go.RowKit Go.Proofs.YtkkmgahgejjhgaaDoor.P Go.Proofs.YtkkmgahgejjhgaaDoor.Lex Go.Proofs.YtkkmgahgejjhgaaDoor.Frm Go.Proofs.YtkkmgahgejjhgaaDoorW.PrintWords Go.Proofs.YtkkmgahgejjhgaaDoorW.PrintLast Go.Proofs.YtkkmgahgejjhgaaDoorW.PrintMore
set_option linter.unusedVariables false
set_option linter.unusedSimpArgs false
/-! ### Texts of one form, of two -/
/-- Blanks and remarks. -/
def Sep (s : List UInt8) : Prop := (∀ w, blk false (s ++ w) = s.length + blk false w) ∧ ∀ w, Delim w → Delim (s ++ w)
theorem Sep.nil : Sep [] := ⟨fun w => by simp, fun w h => h⟩
end Go.Proofs.YtkkmgahgejjhgaaDoor.Pure
-- Printed by mkprint.py (a program of this session, over the kit's print). Lean checks it.
namespace Go.Proofs.YtkkmgahgejjhgaaDoor.P
open Go.RowKit Go.Proofs.YtkkmgahgejjhgaaDoorW.PrintWords Go.Proofs.YtkkmgahgejjhgaaDoorW.PrintLast Go.Proofs.YtkkmgahgejjhgaaDoorW.PrintMore
attribute [local go_sem] max2_int min2_int max_two min_two max_three min_three max_four min_four   -- for this text's walks alone
set_option linter.unusedVariables false
set_option linter.unusedSimpArgs false

/-! ### thyrsusref2_skip: function 39 -/
/-! ### thyrsusref2_first: function 40 -/
/-! ### thyrsusref2_digit: function 42 -/
/-! ### thyrsusref2_inner: function 41 -/
/-! ### thyrsusref2_number: function 43 -/
end Go.Proofs.YtkkmgahgejjhgaaDoor.P
-- Printed by mkprint.py (a program of this session, over the kit's print). Lean checks it.
namespace Go.Proofs.YtkkmgahgejjhgaaDoor.P
open Go.RowKit Go.Proofs.YtkkmgahgejjhgaaDoorW.PrintWords Go.Proofs.YtkkmgahgejjhgaaDoorW.PrintLast Go.Proofs.YtkkmgahgejjhgaaDoorW.PrintMore
attribute [local go_sem] max2_int min2_int max_two min_two max_three min_three max_four min_four   -- for this text's walks alone
set_option linter.unusedVariables false
set_option linter.unusedSimpArgs false

/-! ### thyrsuslaw3_Plain: function 22 -/
/-! ### thyrsusref2_Name: function 49 -/
end Go.Proofs.YtkkmgahgejjhgaaDoor.P
-- Printed by mkprint.py (a program of this session, over the kit's print). Lean checks it.
namespace Go.Proofs.YtkkmgahgejjhgaaDoor.P
open Go.RowKit Go.Proofs.YtkkmgahgejjhgaaDoorW.PrintWords Go.Proofs.YtkkmgahgejjhgaaDoorW.PrintLast Go.Proofs.YtkkmgahgejjhgaaDoorW.PrintMore
attribute [local go_sem] max2_int min2_int max_two min_two max_three min_three max_four min_four   -- for this text's walks alone
set_option linter.unusedVariables false
set_option linter.unusedSimpArgs false

/-! ### thyrsusref3_check: function 36 -/
/-! ### thyrsusref3_Check: function 23 -/
-- NOT PRINTED: function 7 (thyrsuslaw3_FormsBack)

-- NOT PRINTED: function 8 (thyrsuslaw3_FormsDeep)

-- NOT PRINTED: function 9 (thyrsuslaw3_FormsBounds)

end Go.Proofs.YtkkmgahgejjhgaaDoor.P
/- The document's tokens (the reference) are the model's: what is behind blanks; numbers. -/
namespace Go.Proofs.YtkkmgahgejjhgaaDoor.Lex
open Go.RowKit Go.Proofs.YtkkmgahgejjhgaaDoor.P Go.Proofs.YtkkmgahgejjhgaaDoorW.PrintWords Go.Proofs.YtkkmgahgejjhgaaDoorW.PrintLast
/-! ### Blanks -/
/-! ### Numbers -/
theorem wrap_id (n : Int) (h0 : -9223372036854775808 ≤ n) (h1 : n ≤ 9223372036854775807) : wrap64 n = n := by
  unfold wrap64
  omega
end Go.Proofs.YtkkmgahgejjhgaaDoor.Lex
/- Chapter 3's checks, plainly: the program's and the document's come to the same; a made form may be. No conditions but those that each theorem tells. -/
namespace Go.Proofs.YtkkmgahgejjhgaaDoor.Pure
open Go.RowKit Go.Proofs.YtkkmgahgejjhgaaDoor.P Go.Proofs.YtkkmgahgejjhgaaDoor.Lex Go.Proofs.YtkkmgahgejjhgaaDoor.Nam Go.Proofs.YtkkmgahgejjhgaaDoorW.PrintWords Go.Proofs.YtkkmgahgejjhgaaDoorW.PrintLast Go.Proofs.YtkkmgahgejjhgaaDoorW.PrintMore
set_option linter.unusedVariables false
set_option linter.unusedSimpArgs false
mutual
/-- What is wrong with a form, so deep. -/
def chk : S42 → Nat → Int
  | ⟨k, z, s, l⟩, d => if k = 1 ∧ isName s = true then 0 else if k = 2 ∧ (-4611686018427387904 ≤ z ∧ z ≤ 4611686018427387904) then 0 else if k = 3 then (if d > 30 then 5 else chks l d) else 7
def chks : List S42 → Nat → Int
  | [], _ => 0
  | x :: l, d => if chk x (d + 1) = 0 then chks l d else chk x (d + 1)
end
theorem check_ev : ∀ (n : Nat) (x : S42) (d : Nat), size42 x ≤ n → n ≤ 1000000 → d ≤ 31 → Ev (fun k => forms_check.f k x.f0 x.f1 x.f2 x.f3 (d : Int)) (chk x d) := by
  intro n
  induction n with
  | zero => intro x d h; cases x; simp [size42] at h
  | succ n ih =>
    rintro ⟨k, z, s, l⟩ d hs hn hd
    simp only [size42] at hs
    have hll : l.length ≤ 1000000 := Nat.le_trans (sizes42_len l) (by omega)
    have loop : d ≤ 30 → ∀ (e i : Nat), i + e = l.length → Ev (fun j => forms_check.l0 j (d : Int) l (l.length : Int) (i : Int)) (chks (l.drop i) d) := by
      intro hd2 e
      induction e with
      | zero =>
        intro i hi
        rw [List.drop_of_length_le (by omega)]
        refine Ev.step (f := fun _ => some 0) (fun j => ?_) (Ev.now _)
        simp only [forms_check.l0]
        rw [if_neg (by omega)]
      | succ e ihe =>
        intro i hi
        have hil : i < l.length := by omega
        have hm := sizes42_mem l l[i] (List.getElem_mem hil)
        rw [List.drop_eq_getElem_cons hil, chks]
        have h5 := ih l[i] (d + 1) (by omega) (by omega) (by omega)
        refine Ev.step (f := fun j => (forms_check.f j l[i].f0 l[i].f1 l[i].f2 l[i].f3 ((d + 1 : Nat) : Int)).bind fun t => if t = 0 then forms_check.l0 j (d : Int) l (l.length : Int) ((i + 1 : Nat) : Int) else some t) (fun j => ?_) (Ev.bind h5 ?_)
        · simp only [forms_check.l0]
          rw [if_pos (by omega), if_pos (by omega), if_pos (by omega), rd42 hil, wrap_id (n := (d : Int) + 1) (by omega), wrap_id (n := (i : Int) + 1) (by omega)]
          rfl
        · by_cases hb : chk l[i] (d + 1) = 0
          · simp only [if_pos hb]
            exact ihe (i + 1) (by omega)
          · simp only [if_neg hb]
            exact Ev.now _
    have stop : Ev (fun j => forms_check.j1 j (d : Int) false k z s l) (if k = 3 then (if d > 30 then 5 else chks l d) else 7) := by
      by_cases h3 : k = 3
      · by_cases hd3 : d > 30
        · rw [if_pos h3, if_pos hd3]
          refine Ev.step (f := fun _ => some 5) (fun j => ?_) (Ev.now _)
          simp only [forms_check.j1]
          rw [if_neg (by decide), if_pos h3, if_pos (by omega)]
        · rw [if_pos h3, if_neg hd3]
          refine Ev.step (f := fun j => forms_check.l0 j (d : Int) l (l.length : Int) ((0 : Nat) : Int)) (fun j => ?_) (loop (by omega) l.length 0 (by omega))
          simp only [forms_check.j1]
          rw [if_neg (by decide), if_pos h3, if_neg (by omega)]
          rfl
      · rw [if_neg h3]
        refine Ev.step (f := fun _ => some 7) (fun j => ?_) (Ev.now _)
        simp only [forms_check.j1]
        rw [if_neg (by decide), if_neg h3]
    have mid : k ≠ 1 ∨ isName s = false → Ev (fun j => forms_check.j0 j (d : Int) false k z s l) (chk ⟨k, z, s, l⟩ d) := by
      intro hk
      rw [chk, if_neg (by rintro ⟨h1, h2⟩; rcases hk with hk | hk; exact hk h1; rw [hk] at h2; cases h2)]
      by_cases h2 : k = 2
      · by_cases h3 : -4611686018427387904 ≤ z
        · by_cases h4 : z ≤ 4611686018427387904
          · rw [if_pos ⟨h2, h3, h4⟩]
            refine Ev.step (f := fun j => forms_check.j1 j (d : Int) true k z s l) (fun j => ?_) (Ev.step (f := fun _ => some 0) (fun j => by simp only [forms_check.j1, if_true]) (Ev.now _))
            simp only [forms_check.j0]
            rw [if_neg (by decide), if_pos h2, if_pos h3, show decide (z ≤ 4611686018427387904) = true from decide_eq_true h4]
          · rw [if_neg (fun h => h4 h.2.2)]
            refine Ev.step (f := fun j => forms_check.j1 j (d : Int) false k z s l) (fun j => ?_) stop
            simp only [forms_check.j0]
            rw [if_neg (by decide), if_pos h2, if_pos h3, show decide (z ≤ 4611686018427387904) = false from decide_eq_false h4]
        · rw [if_neg (fun h => h3 h.2.1)]
          refine Ev.step (f := fun j => forms_check.j1 j (d : Int) false k z s l) (fun j => ?_) stop
          simp only [forms_check.j0]
          rw [if_neg (by decide), if_pos h2, if_neg h3]
      · rw [if_neg (fun h => h2 h.1)]
        refine Ev.step (f := fun j => forms_check.j1 j (d : Int) false k z s l) (fun j => ?_) stop
        simp only [forms_check.j0]
        rw [if_neg (by decide), if_neg h2]
    by_cases h1 : k = 1
    · cases hnm : isName s with
      | true =>
        rw [chk, if_pos ⟨h1, hnm⟩]
        refine Ev.step (f := fun j => forms_check.j0 j (d : Int) true k z s l) (fun j => ?_) (Ev.step (f := fun _ => some 0) (fun j => by simp only [forms_check.j0, if_true]) (Ev.now _))
        simp only [forms_check.f]
        rw [if_pos h1, forms_name.f, Option.bind_some, hnm]
      | false =>
        refine Ev.step (f := fun j => forms_check.j0 j (d : Int) false k z s l) (fun j => ?_) (mid (.inr hnm))
        simp only [forms_check.f]
        rw [if_pos h1, forms_name.f, Option.bind_some, hnm]
    · refine Ev.step (f := fun j => forms_check.j0 j (d : Int) false k z s l) (fun j => ?_) (mid (.inl h1))
      simp only [forms_check.f]
      rw [if_neg h1]
end Go.Proofs.YtkkmgahgejjhgaaDoor.Pure
/- FormsBounds: each of its cases walked: what is built is checked as it must. Printed by genbounds.py. -/
namespace Go.Proofs.YtkkmgahgejjhgaaDoor.Bnd
open Go.RowKit Go.Proofs.YtkkmgahgejjhgaaDoor.P Go.Proofs.YtkkmgahgejjhgaaDoor.Pure Go.Proofs.YtkkmgahgejjhgaaDoorW.PrintWords Go.Proofs.YtkkmgahgejjhgaaDoorW.PrintLast Go.Proofs.YtkkmgahgejjhgaaDoorW.PrintMore
attribute [local go_sem] max2_int min2_int max_two min_two max_three min_three max_four min_four
set_option linter.unusedVariables false
set_option linter.unusedSimpArgs false
/-- A form in so many lists, each behind a number. -/
def wrapF : Nat → S42 → S42
  | 0, x => x
  | j + 1, x => ⟨3, 0, ⟨#[]⟩, [⟨2, 0, ⟨#[]⟩, []⟩, wrapF j x]⟩
theorem wrapF_size : ∀ (j : Nat) (x : S42), size42 (wrapF j x) = 2 * j + size42 x
  | 0, x => by simp [wrapF]
  | j + 1, x => by
    rw [wrapF]
    simp only [size42, sizes42, wrapF_size j x]
    omega
theorem wrapF_chk {b : S42} {c : Int} (hb : ∀ d, d ≤ 30 → chk b d = c) : ∀ (j d : Nat), d + j ≤ 30 → chk (wrapF j b) d = c
  | 0, d, h => hb d (by omega)
  | j + 1, d, h => by
    have h1 := wrapF_chk hb j (d + 1) (by omega)
    rw [wrapF, chk, if_neg (fun h => absurd h.1 (by decide)), if_neg (fun h => absurd h.1 (by decide)), if_pos rfl, if_neg (by omega), chks]
    have h2 : chk ⟨2, 0, ⟨#[]⟩, []⟩ (d + 1) = 0 := by
      rw [chk, if_neg (fun h => absurd h.1 (by decide)), if_pos ⟨rfl, by decide, by decide⟩]
    rw [if_pos h2, chks, h1, chks]
    split
    · rename_i h3
      exact h3.symm
    · rfl
theorem check_ok {b : S42} {c : Int} (hb : ∀ d, d ≤ 30 → chk b d = c) (hs : size42 b = 1) {j : Nat} (hj : j ≤ 19) : ∃ k, forms_Check.f k (wrapF j b).f0 (wrapF j b).f1 (wrapF j b).f2 (wrapF j b).f3 = some c := by
  have h := check_ev 1000 (wrapF j b) 1 (by rw [wrapF_size]; omega) (by decide) (by decide)
  rw [wrapF_chk hb j 1 (by omega)] at h
  refine Ev.rounds (g := fun k => forms_Check.f k (wrapF j b).f0 (wrapF j b).f1 (wrapF j b).f2 (wrapF j b).f3) ?_
  unfold forms_Check.f
  exact Ev.bind h (Ev.now _)
theorem within_b {a n r : Int} (h : thyrsuslaw3_within.f a n = some r) (w : World) : Calls Tryd.prog 12 #[.int .i64 a, .int .i64 n] w fun e w' => e = .returned (.int .i64 r) ∧ Below w.heap.size w w' := by
  refine (thyrsuslaw3_within.calls a n r w h).mono ?_
  rintro e w' ⟨rfl, nd, rfl⟩
  exact ⟨rfl, pw_below_drewN (Below.refl _ _) nd⟩
theorem reps_two {R : S42 → List Value → Prop} {x y : S42} {a b : List Value} (ha : a.length = 4) (hb : b.length = 4) (h1 : R x a) (h2 : R y b) : Reps R k42.sz [x, y] (a ++ b) := by
  have e : k42.sz = 4 := rfl
  rw [e]
  refine ⟨by simp [ha, hb], fun j p hj => ?_⟩
  match j, hj with
  | 0, hj =>
    simp at hj
    subst hj
    simpa [ha] using h1
  | 1, hj =>
    simp at hj
    subst hj
    have : (List.drop (1 * 4) (a ++ b)).take 4 = b := by
      rw [Nat.one_mul, ← ha, List.drop_left, ha, ← hb, List.take_length]
    rw [this]
    exact h2
  | j + 2, hj => simp at hj
theorem st_ev {P : Program} {ops : Array Oper} {rest : List Oper} {o : Oper} {a : Act} {Q : Exit → Act → World → Prop} {W w1 : World} (hgd : o.guard = none) {t : TypeId} {p : Tmp} {v : Operand} (_ho : o.op = .store t (.tmp p) v) (hN : o.dst = none)
    (hrun : (execOp a.eval o).run P W = .ok .skip w1) (h : ∀ w', w' = w1 → wpList P ops Q rest a w') : wpList P ops Q (o :: rest) a W := store_event hgd _ho hN hrun h
theorem chk_0_f : ∀ d, d ≤ 30 → chk (⟨2, 4611686018427387904, ⟨#[]⟩, []⟩ : S42) d = 0 := by
  intro d hd
  rw [chk]
  rw [if_neg (fun h => absurd h.1 (by decide)), if_pos ⟨rfl, by decide, by decide⟩]
set_option maxHeartbeats 8000000 in
set_option maxRecDepth 100000 in
theorem bnd_0_f (a0 a2 : Int) (j : Nat) (hw : thyrsuslaw3_within.f a0 6 = some 0) (hj : thyrsuslaw3_within.f a2 20 = some (j : Int)) (hj9 : j ≤ 19) (w : World) (hT : TabP w) :
    Calls Tryd.prog 9 #[.int .i64 a0, .bool false, .int .i64 a2] w fun e w' => e = .returned (.bool true) ∧ Below w.heap.size w w' := by
  have hu42 := Tryd.underlying42
  have KN := Aside0.mk (thyrsuslaw3_known.calls 3 true w hT (known_k 0))
  have W6 := Aside0.mk (within_b hw)
  have W20 := Aside0.mk (within_b hj)
  obtain ⟨kk, hkk⟩ := check_ok chk_0_f rfl hj9
  have CK := Aside0.mk hkk
  have J9 := Aside0.mk hj9
  clear hw hj hT hkk hj9
  go_enter Tryd.func9, Tryd.ntmps9
  go_wp2_with (first | (go_at_call 10; refine KN.out.mono ?_; rintro e w1 ⟨rfl, hb⟩; have B1 := Aside0.mk hb; clear hb) | ((with_reducible refine gate_dst (N := 7) rfl ?_); refine box_event ?hg (N := 7) ?hd (cs := #[.int .i64 0, .int .i64 0, .string ⟨#[]⟩, .slice none 0 0]) (t := 42) ?hr ?_; (case hd => rfl); (case hg => rfl); (case hr => first | (go_simp; done) | (go_simp; rfl)); intro g hg w2 hbox hb; have K2 := Aside0.mk hbox; have GE : Aside0 (w.heap.size ≤ g) := ⟨(by rw [hg]; exact B1.out.size)⟩; have B2 := Aside0.mk (below_step B1.out hb); clear hbox hb hg B1; have p0 : w2.cell? ⟨g, 0, none⟩ = some (.int .i64 0) := (blk_cell K2.out 0).trans rfl; have pf0 := blk_frozen K2.out 0; have p1 : w2.cell? ⟨g, 1, none⟩ = some (.int .i64 0) := (blk_cell K2.out 1).trans rfl; have pf1 := blk_frozen K2.out 1; have p2 : w2.cell? ⟨g, 2, none⟩ = some (.string ⟨#[]⟩) := (blk_cell K2.out 2).trans rfl; have pf2 := blk_frozen K2.out 2; have p3 : w2.cell? ⟨g, 3, none⟩ = some (.slice none 0 0) := (blk_cell K2.out 3).trans rfl; have pf3 := blk_frozen K2.out 3; skip) | ((with_reducible refine gate_ (.store 42 (.tmp 7) (.tmp 11)) rfl ?_); refine st_ev (w1 := ?inbnd_0_f_0) rfl rfl rfl ?hr ?_; (case hr => go_simp; rfl); intro w10 hw_; clear p0 pf0 p1 pf1 p2 pf2 p3 pf3; have K10 : Aside0 (w10.heap[g]? = some (.cells #[.int .i64 2, .int .i64 (4611686018427387904), .string ⟨#[]⟩, .slice none 0 0] 42 (0, 0))) := ⟨(by rw [hw_]; exact (blk_put (cs := #[.int .i64 2, .int .i64 (4611686018427387904), .string ⟨#[]⟩, .slice none 0 0]) (cs' := #[.int .i64 2, .int .i64 (4611686018427387904), .string ⟨#[]⟩, .slice none 0 0]) (blk_put (cs := #[.int .i64 2, .int .i64 (4611686018427387904), .string ⟨#[]⟩, .slice none 0 0]) (cs' := #[.int .i64 2, .int .i64 (4611686018427387904), .string ⟨#[]⟩, .slice none 0 0]) (blk_put (cs := #[.int .i64 2, .int .i64 0, .string ⟨#[]⟩, .slice none 0 0]) (cs' := #[.int .i64 2, .int .i64 (4611686018427387904), .string ⟨#[]⟩, .slice none 0 0]) (blk_put (cs := #[.int .i64 0, .int .i64 0, .string ⟨#[]⟩, .slice none 0 0]) (cs' := #[.int .i64 2, .int .i64 0, .string ⟨#[]⟩, .slice none 0 0]) K2.out 0 (.int .i64 2) rfl) 1 (.int .i64 (4611686018427387904)) rfl) 2 (.string ⟨#[]⟩) rfl) 3 (.slice none 0 0) rfl))⟩; have B10 : Aside0 (Below w.heap.size w w10) := ⟨(by rw [hw_]; exact (below_set (below_set (below_set (below_set B2.out GE.out) GE.out) GE.out) GE.out))⟩; clear hw_ K2 B2; have q0 : w10.cell? ⟨g, 0, none⟩ = some (.int .i64 2) := (blk_cell K10.out 0).trans rfl; have qf0 := blk_frozen K10.out 0; have q1 : w10.cell? ⟨g, 1, none⟩ = some (.int .i64 (4611686018427387904)) := (blk_cell K10.out 1).trans rfl; have qf1 := blk_frozen K10.out 1; have q2 : w10.cell? ⟨g, 2, none⟩ = some (.string ⟨#[]⟩) := (blk_cell K10.out 2).trans rfl; have qf2 := blk_frozen K10.out 2; have q3 : w10.cell? ⟨g, 3, none⟩ = some (.slice none 0 0) := (blk_cell K10.out 3).trans rfl; have qf3 := blk_frozen K10.out 3; skip) | (go_at_call 12; refine (W6.out _).mono ?_; rintro e w5 ⟨rfl, hb⟩; clear q0 qf0 q1 qf1 q2 qf2 q3 qf3; have K5 := Aside0.mk (blk_below K10.out hb); have B5 := Aside0.mk (below_step B10.out hb); clear hb K10 B10; have u0 : w5.cell? ⟨g, 0, none⟩ = some (.int .i64 2) := (blk_cell K5.out 0).trans rfl; have uf0 := blk_frozen K5.out 0; have u1 : w5.cell? ⟨g, 1, none⟩ = some (.int .i64 (4611686018427387904)) := (blk_cell K5.out 1).trans rfl; have uf1 := blk_frozen K5.out 1; have u2 : w5.cell? ⟨g, 2, none⟩ = some (.string ⟨#[]⟩) := (blk_cell K5.out 2).trans rfl; have uf2 := blk_frozen K5.out 2; have u3 : w5.cell? ⟨g, 3, none⟩ = some (.slice none 0 0) := (blk_cell K5.out 3).trans rfl; have uf3 := blk_frozen K5.out 3; skip))
  skip
  go_loopw [8] (fun v8 w' => ∃ (i : Nat) (v : Value), v8 = .int .i64 i ∧ Aside0 (i ≤ j) ∧ Aside0 (w'.heap[g]? = some (.cells #[.int .i64 (wrapF i (⟨2, 4611686018427387904, ⟨#[]⟩, []⟩ : S42)).f0, .int .i64 (wrapF i (⟨2, 4611686018427387904, ⟨#[]⟩, []⟩ : S42)).f1, .string (wrapF i (⟨2, 4611686018427387904, ⟨#[]⟩, []⟩ : S42)).f2, v] 42 (0, 0))) ∧ Aside0 (Kd.R k42 42 w' w.heap.size (fun k => k ≠ g) v (wrapF i (⟨2, 4611686018427387904, ⟨#[]⟩, []⟩ : S42)).f3) ∧ Aside0 (Below w.heap.size w w')) (fun v8 _ => j - (intOf v8).toNat)
  case atStart => exact ⟨0, .slice none 0 0, rfl, ⟨Nat.zero_le _⟩, ⟨K5.out⟩, ⟨Kd.R_nil _ _ _ _ _⟩, B5⟩
  case round =>
    obtain ⟨i, v, rfl, HI, KR, RR, BR⟩ := hrel
    clear u0 uf0 u1 uf1 u2 uf2 u3 uf3 K5 B5
    have hi := HI.out
    have hj9 := J9.out
    have V1 := Aside0.mk (show wrap64 ((i : Int) + 1) = ((i + 1 : Nat) : Int) by unfold wrap64; omega)
    obtain ⟨A, c, e⟩ := Kd.R_slice RR.out
    subst e
    by_cases hlt : i < j
    · have HL := Aside0.mk hlt
      have c1 : ((i : Int) < (j : Int)) = True := eq_true (by omega)
      have c2 : (i < j) = True := eq_true hlt
      have c3 : decide ((i : Int) < (j : Int)) = true := decide_eq_true (by omega)
      have HX : Aside0 (wrapF (i + 1) (⟨2, 4611686018427387904, ⟨#[]⟩, []⟩ : S42) = ⟨3, 0, ⟨#[]⟩, [⟨2, 0, ⟨#[]⟩, []⟩, wrapF i (⟨2, 4611686018427387904, ⟨#[]⟩, []⟩ : S42)]⟩) := ⟨rfl⟩
      generalize wrapF i (⟨2, 4611686018427387904, ⟨#[]⟩, []⟩ : S42) = x at KR RR HX
      obtain ⟨x0, x1, x2, x3⟩ := x
      simp only [] at KR RR
      clear hlt hi hj9
      go_wp2_with (first | (rw [V1.out]) | (go_at_call 12; refine (W20.out _).mono ?_; rintro e w5 ⟨rfl, hb⟩; have K5 := Aside0.mk (blk_below KR.out hb); have R5 := Aside0.mk (Kd.R_below RR.out hb); have B5 := Aside0.mk (below_step BR.out hb); clear hb KR RR BR; have y0 : w5.cell? ⟨g, 0, none⟩ = some (.int .i64 x0) := (blk_cell K5.out 0).trans rfl; have yf0 := blk_frozen K5.out 0; have y1 : w5.cell? ⟨g, 1, none⟩ = some (.int .i64 x1) := (blk_cell K5.out 1).trans rfl; have yf1 := blk_frozen K5.out 1; have y2 : w5.cell? ⟨g, 2, none⟩ = some (.string x2) := (blk_cell K5.out 2).trans rfl; have yf2 := blk_frozen K5.out 2; have y3 : w5.cell? ⟨g, 3, none⟩ = some (.slice A x3.length c) := (blk_cell K5.out 3).trans rfl; have yf3 := blk_frozen K5.out 3; skip) | ((with_reducible refine gate_dst (N := 54) rfl ?_); refine Kd.R_lit k42 (w0 := w) w.heap.size 42 ?hg (N := 54) ?hd (xs := [(⟨2, 0, ⟨#[]⟩, []⟩ : S42), ⟨x0, x1, x2, x3⟩]) (inner := [.int .i64 2, .int .i64 0, .string ⟨#[]⟩, .slice none 0 0] ++ [.int .i64 x0, .int .i64 x1, .string x2, .slice A x3.length c]) (ok := fun k => k ≠ g) (okp := fun k => k ≠ g) ?hr ?hp (fun _ h => h) ?hf B5.out B5.out.size (by simp) ?_; (case hd => rfl); (case hg => rfl); (case hr => first | (go_simp; done) | (go_simp; rfl)); (case hp => exact reps_two rfl rfl (k42_mkM _ _ _ (⟨2, 0, ⟨#[]⟩, []⟩ : S42) (Kd.R_nil _ _ _ _ _)) (k42_mkM _ _ _ (⟨x0, x1, x2, x3⟩ : S42) R5.out)); (case hf => exact fun h => absurd (blk_lt K5.out) (by omega)); intro v6 w6 ho hb hg _; obtain ⟨A6, c6, e6⟩ := Kd.R_slice ho; subst e6; have R6 := Aside0.mk ho; have B6 := Aside0.mk hb; have K6 := Aside0.mk (blk_grown K5.out hg (by simp)); clear ho hb hg K5 R5 B5 y0 y1 y2 y3 yf0 yf1 yf2 yf3; have z0 : w6.cell? ⟨g, 0, none⟩ = some (.int .i64 x0) := (blk_cell K6.out 0).trans rfl; have zf0 := blk_frozen K6.out 0; have z1 : w6.cell? ⟨g, 1, none⟩ = some (.int .i64 x1) := (blk_cell K6.out 1).trans rfl; have zf1 := blk_frozen K6.out 1; have z2 : w6.cell? ⟨g, 2, none⟩ = some (.string x2) := (blk_cell K6.out 2).trans rfl; have zf2 := blk_frozen K6.out 2; have z3 : w6.cell? ⟨g, 3, none⟩ = some (.slice A x3.length c) := (blk_cell K6.out 3).trans rfl; have zf3 := blk_frozen K6.out 3; skip) | ((with_reducible refine gate_ (.store 42 (.tmp 7) (.tmp 55)) rfl ?_); refine st_ev (w1 := ?inbnd_0_f_9) rfl rfl rfl ?hr ?_; (case hr => go_simp; rfl); intro w7 hw_; clear z0 z1 z2 z3 zf0 zf1 zf2 zf3; have K7 : Aside0 (w7.heap[g]? = some (.cells #[.int .i64 3, .int .i64 0, .string ⟨#[]⟩, .slice A6 2 c6] 42 (0, 0))) := ⟨(by rw [hw_]; exact (blk_put (cs := #[.int .i64 3, .int .i64 0, .string ⟨#[]⟩, .slice A x3.length c]) (cs' := #[.int .i64 3, .int .i64 0, .string ⟨#[]⟩, .slice A6 2 c6]) (blk_put (cs := #[.int .i64 3, .int .i64 0, .string x2, .slice A x3.length c]) (cs' := #[.int .i64 3, .int .i64 0, .string ⟨#[]⟩, .slice A x3.length c]) (blk_put (cs := #[.int .i64 3, .int .i64 x1, .string x2, .slice A x3.length c]) (cs' := #[.int .i64 3, .int .i64 0, .string x2, .slice A x3.length c]) (blk_put (cs := #[.int .i64 x0, .int .i64 x1, .string x2, .slice A x3.length c]) (cs' := #[.int .i64 3, .int .i64 x1, .string x2, .slice A x3.length c]) K6.out 0 (.int .i64 3) rfl) 1 (.int .i64 0) rfl) 2 (.string ⟨#[]⟩) rfl) 3 (.slice A6 2 c6) rfl))⟩; have R7 : Aside0 (Kd.R k42 42 w7 w.heap.size (fun k => k ≠ g) (.slice A6 2 c6) [(⟨2, 0, ⟨#[]⟩, []⟩ : S42), ⟨x0, x1, x2, x3⟩]) := ⟨(by rw [hw_]; exact Kd.R_far (p := ⟨g, 3, none⟩) (Kd.R_far (p := ⟨g, 2, none⟩) (Kd.R_far (p := ⟨g, 1, none⟩) (Kd.R_far (p := ⟨g, 0, none⟩) R6.out (fun _ hk => hk) _) (fun _ hk => hk) _) (fun _ hk => hk) _) (fun _ hk => hk) _)⟩; have B7 : Aside0 (Below w.heap.size w w7) := ⟨(by rw [hw_]; exact (below_set (below_set (below_set (below_set B6.out GE.out) GE.out) GE.out) GE.out))⟩; clear hw_ K6 R6 B6))
      refine ⟨⟨i + 1, _, rfl, ⟨HL.out⟩, ⟨by rw [HX.out]; exact K7.out⟩, ⟨by rw [HX.out]; exact R7.out⟩, B7⟩, ?_⟩
      have := HL.out
      simp only [intOf, Int.toNat_natCast]
      omega
    · obtain rfl : i = j := by omega
      obtain ⟨A', c', e', hle, hC⟩ := Kd.R_reads RR.out
      injection e' with e1 _ e3
      subst e1
      subst e3
      have CC := Aside0.mk hC
      have CL := Aside0.mk hle
      generalize wrapF i (⟨2, 4611686018427387904, ⟨#[]⟩, []⟩ : S42) = x at KR CC CL CK
      obtain ⟨x0, x1, x2, x3⟩ := x
      simp only [] at KR CC CL CK
      clear hC hle hlt hi hj9 RR HI
      go_wp2_with (first | (go_at_call 12; refine (W20.out _).mono ?_; rintro e w5 ⟨rfl, hb⟩; have K5 := Aside0.mk (blk_below KR.out hb); have C5 := Aside0.mk (Kd.C_below CC.out hb); have B5 := Aside0.mk (below_step BR.out hb); clear hb KR CC BR; have y0 : w5.cell? ⟨g, 0, none⟩ = some (.int .i64 x0) := (blk_cell K5.out 0).trans rfl; have yf0 := blk_frozen K5.out 0; have y1 : w5.cell? ⟨g, 1, none⟩ = some (.int .i64 x1) := (blk_cell K5.out 1).trans rfl; have yf1 := blk_frozen K5.out 1; have y2 : w5.cell? ⟨g, 2, none⟩ = some (.string x2) := (blk_cell K5.out 2).trans rfl; have yf2 := blk_frozen K5.out 2; have y3 : w5.cell? ⟨g, 3, none⟩ = some (.slice A x3.length c) := (blk_cell K5.out 3).trans rfl; have yf3 := blk_frozen K5.out 3; skip) | (go_at_call 21; refine (forms_Check.calls kk x0 x1 x2 A c x3 0 _ C5.out CL.out CK.out).mono ?_; rintro e w6 ⟨rfl, hb⟩; have B6 := Aside0.mk (below_step B5.out hb); clear hb))
      go_ret
      exact ⟨by first | rfl | (simp; done) | (simp [*]; done), B6.out⟩
theorem chk_0_t : ∀ d, d ≤ 30 → chk (⟨2, 4611686018427387905, ⟨#[]⟩, []⟩ : S42) d = 7 := by
  intro d hd
  rw [chk]
  rw [if_neg (fun h => absurd h.1 (by decide)), if_neg (fun h => absurd h.2 (by decide)), if_neg (by decide)]
set_option maxHeartbeats 8000000 in
set_option maxRecDepth 100000 in
theorem bnd_0_t (a0 a2 : Int) (j : Nat) (hw : thyrsuslaw3_within.f a0 6 = some 0) (hj : thyrsuslaw3_within.f a2 20 = some (j : Int)) (hj9 : j ≤ 19) (w : World) (hT : TabP w) :
    Calls Tryd.prog 9 #[.int .i64 a0, .bool true, .int .i64 a2] w fun e w' => e = .returned (.bool true) ∧ Below w.heap.size w w' := by
  have hu42 := Tryd.underlying42
  have KN := Aside0.mk (thyrsuslaw3_known.calls 3 true w hT (known_k 0))
  have W6 := Aside0.mk (within_b hw)
  have W20 := Aside0.mk (within_b hj)
  obtain ⟨kk, hkk⟩ := check_ok chk_0_t rfl hj9
  have CK := Aside0.mk hkk
  have J9 := Aside0.mk hj9
  clear hw hj hT hkk hj9
  go_enter Tryd.func9, Tryd.ntmps9
  go_wp2_with (first | (go_at_call 10; refine KN.out.mono ?_; rintro e w1 ⟨rfl, hb⟩; have B1 := Aside0.mk hb; clear hb) | ((with_reducible refine gate_dst (N := 7) rfl ?_); refine box_event ?hg (N := 7) ?hd (cs := #[.int .i64 0, .int .i64 0, .string ⟨#[]⟩, .slice none 0 0]) (t := 42) ?hr ?_; (case hd => rfl); (case hg => rfl); (case hr => first | (go_simp; done) | (go_simp; rfl)); intro g hg w2 hbox hb; have K2 := Aside0.mk hbox; have GE : Aside0 (w.heap.size ≤ g) := ⟨(by rw [hg]; exact B1.out.size)⟩; have B2 := Aside0.mk (below_step B1.out hb); clear hbox hb hg B1; have p0 : w2.cell? ⟨g, 0, none⟩ = some (.int .i64 0) := (blk_cell K2.out 0).trans rfl; have pf0 := blk_frozen K2.out 0; have p1 : w2.cell? ⟨g, 1, none⟩ = some (.int .i64 0) := (blk_cell K2.out 1).trans rfl; have pf1 := blk_frozen K2.out 1; have p2 : w2.cell? ⟨g, 2, none⟩ = some (.string ⟨#[]⟩) := (blk_cell K2.out 2).trans rfl; have pf2 := blk_frozen K2.out 2; have p3 : w2.cell? ⟨g, 3, none⟩ = some (.slice none 0 0) := (blk_cell K2.out 3).trans rfl; have pf3 := blk_frozen K2.out 3; skip) | ((with_reducible refine gate_ (.store 42 (.tmp 7) (.tmp 11)) rfl ?_); refine st_ev (w1 := ?inbnd_0_t_0) rfl rfl rfl ?hr ?_; (case hr => go_simp; rfl); intro w10 hw_; clear p0 pf0 p1 pf1 p2 pf2 p3 pf3; have K10 : Aside0 (w10.heap[g]? = some (.cells #[.int .i64 2, .int .i64 (4611686018427387904), .string ⟨#[]⟩, .slice none 0 0] 42 (0, 0))) := ⟨(by rw [hw_]; exact (blk_put (cs := #[.int .i64 2, .int .i64 (4611686018427387904), .string ⟨#[]⟩, .slice none 0 0]) (cs' := #[.int .i64 2, .int .i64 (4611686018427387904), .string ⟨#[]⟩, .slice none 0 0]) (blk_put (cs := #[.int .i64 2, .int .i64 (4611686018427387904), .string ⟨#[]⟩, .slice none 0 0]) (cs' := #[.int .i64 2, .int .i64 (4611686018427387904), .string ⟨#[]⟩, .slice none 0 0]) (blk_put (cs := #[.int .i64 2, .int .i64 0, .string ⟨#[]⟩, .slice none 0 0]) (cs' := #[.int .i64 2, .int .i64 (4611686018427387904), .string ⟨#[]⟩, .slice none 0 0]) (blk_put (cs := #[.int .i64 0, .int .i64 0, .string ⟨#[]⟩, .slice none 0 0]) (cs' := #[.int .i64 2, .int .i64 0, .string ⟨#[]⟩, .slice none 0 0]) K2.out 0 (.int .i64 2) rfl) 1 (.int .i64 (4611686018427387904)) rfl) 2 (.string ⟨#[]⟩) rfl) 3 (.slice none 0 0) rfl))⟩; have B10 : Aside0 (Below w.heap.size w w10) := ⟨(by rw [hw_]; exact (below_set (below_set (below_set (below_set B2.out GE.out) GE.out) GE.out) GE.out))⟩; clear hw_ K2 B2; have q0 : w10.cell? ⟨g, 0, none⟩ = some (.int .i64 2) := (blk_cell K10.out 0).trans rfl; have qf0 := blk_frozen K10.out 0; have q1 : w10.cell? ⟨g, 1, none⟩ = some (.int .i64 (4611686018427387904)) := (blk_cell K10.out 1).trans rfl; have qf1 := blk_frozen K10.out 1; have q2 : w10.cell? ⟨g, 2, none⟩ = some (.string ⟨#[]⟩) := (blk_cell K10.out 2).trans rfl; have qf2 := blk_frozen K10.out 2; have q3 : w10.cell? ⟨g, 3, none⟩ = some (.slice none 0 0) := (blk_cell K10.out 3).trans rfl; have qf3 := blk_frozen K10.out 3; skip) | (go_at_call 12; refine (W6.out _).mono ?_; rintro e w5 ⟨rfl, hb⟩; clear q0 qf0 q1 qf1 q2 qf2 q3 qf3; have K5 := Aside0.mk (blk_below K10.out hb); have B5 := Aside0.mk (below_step B10.out hb); clear hb K10 B10; have u0 : w5.cell? ⟨g, 0, none⟩ = some (.int .i64 2) := (blk_cell K5.out 0).trans rfl; have uf0 := blk_frozen K5.out 0; have u1 : w5.cell? ⟨g, 1, none⟩ = some (.int .i64 (4611686018427387904)) := (blk_cell K5.out 1).trans rfl; have uf1 := blk_frozen K5.out 1; have u2 : w5.cell? ⟨g, 2, none⟩ = some (.string ⟨#[]⟩) := (blk_cell K5.out 2).trans rfl; have uf2 := blk_frozen K5.out 2; have u3 : w5.cell? ⟨g, 3, none⟩ = some (.slice none 0 0) := (blk_cell K5.out 3).trans rfl; have uf3 := blk_frozen K5.out 3; skip) | ((with_reducible refine gate_ (.store 3 (.tmp 17) (.const (.int .i64 4611686018427387905))) rfl ?_); refine st_ev (w1 := ?inbnd_0_t_1) rfl rfl rfl ?hr ?_; (case hr => go_simp; rfl); intro w11 hw_; clear u0 uf0 u1 uf1 u2 uf2 u3 uf3; have K11 : Aside0 (w11.heap[g]? = some (.cells #[.int .i64 2, .int .i64 (4611686018427387905), .string ⟨#[]⟩, .slice none 0 0] 42 (0, 0))) := ⟨(by rw [hw_]; exact (blk_put (cs := #[.int .i64 2, .int .i64 (4611686018427387904), .string ⟨#[]⟩, .slice none 0 0]) (cs' := #[.int .i64 2, .int .i64 (4611686018427387905), .string ⟨#[]⟩, .slice none 0 0]) K5.out 1 (.int .i64 (4611686018427387905)) rfl))⟩; have B11 : Aside0 (Below w.heap.size w w11) := ⟨(by rw [hw_]; exact (below_set B5.out GE.out))⟩; clear hw_ K5 B5; have r0 : w11.cell? ⟨g, 0, none⟩ = some (.int .i64 2) := (blk_cell K11.out 0).trans rfl; have rf0 := blk_frozen K11.out 0; have r1 : w11.cell? ⟨g, 1, none⟩ = some (.int .i64 (4611686018427387905)) := (blk_cell K11.out 1).trans rfl; have rf1 := blk_frozen K11.out 1; have r2 : w11.cell? ⟨g, 2, none⟩ = some (.string ⟨#[]⟩) := (blk_cell K11.out 2).trans rfl; have rf2 := blk_frozen K11.out 2; have r3 : w11.cell? ⟨g, 3, none⟩ = some (.slice none 0 0) := (blk_cell K11.out 3).trans rfl; have rf3 := blk_frozen K11.out 3; skip))
  skip
  go_loopw [8] (fun v8 w' => ∃ (i : Nat) (v : Value), v8 = .int .i64 i ∧ Aside0 (i ≤ j) ∧ Aside0 (w'.heap[g]? = some (.cells #[.int .i64 (wrapF i (⟨2, 4611686018427387905, ⟨#[]⟩, []⟩ : S42)).f0, .int .i64 (wrapF i (⟨2, 4611686018427387905, ⟨#[]⟩, []⟩ : S42)).f1, .string (wrapF i (⟨2, 4611686018427387905, ⟨#[]⟩, []⟩ : S42)).f2, v] 42 (0, 0))) ∧ Aside0 (Kd.R k42 42 w' w.heap.size (fun k => k ≠ g) v (wrapF i (⟨2, 4611686018427387905, ⟨#[]⟩, []⟩ : S42)).f3) ∧ Aside0 (Below w.heap.size w w')) (fun v8 _ => j - (intOf v8).toNat)
  case atStart => exact ⟨0, .slice none 0 0, rfl, ⟨Nat.zero_le _⟩, ⟨K11.out⟩, ⟨Kd.R_nil _ _ _ _ _⟩, B11⟩
  case round =>
    obtain ⟨i, v, rfl, HI, KR, RR, BR⟩ := hrel
    clear r0 rf0 r1 rf1 r2 rf2 r3 rf3 K11 B11
    have hi := HI.out
    have hj9 := J9.out
    have V1 := Aside0.mk (show wrap64 ((i : Int) + 1) = ((i + 1 : Nat) : Int) by unfold wrap64; omega)
    obtain ⟨A, c, e⟩ := Kd.R_slice RR.out
    subst e
    by_cases hlt : i < j
    · have HL := Aside0.mk hlt
      have c1 : ((i : Int) < (j : Int)) = True := eq_true (by omega)
      have c2 : (i < j) = True := eq_true hlt
      have c3 : decide ((i : Int) < (j : Int)) = true := decide_eq_true (by omega)
      have HX : Aside0 (wrapF (i + 1) (⟨2, 4611686018427387905, ⟨#[]⟩, []⟩ : S42) = ⟨3, 0, ⟨#[]⟩, [⟨2, 0, ⟨#[]⟩, []⟩, wrapF i (⟨2, 4611686018427387905, ⟨#[]⟩, []⟩ : S42)]⟩) := ⟨rfl⟩
      generalize wrapF i (⟨2, 4611686018427387905, ⟨#[]⟩, []⟩ : S42) = x at KR RR HX
      obtain ⟨x0, x1, x2, x3⟩ := x
      simp only [] at KR RR
      clear hlt hi hj9
      go_wp2_with (first | (rw [V1.out]) | (go_at_call 12; refine (W20.out _).mono ?_; rintro e w5 ⟨rfl, hb⟩; have K5 := Aside0.mk (blk_below KR.out hb); have R5 := Aside0.mk (Kd.R_below RR.out hb); have B5 := Aside0.mk (below_step BR.out hb); clear hb KR RR BR; have y0 : w5.cell? ⟨g, 0, none⟩ = some (.int .i64 x0) := (blk_cell K5.out 0).trans rfl; have yf0 := blk_frozen K5.out 0; have y1 : w5.cell? ⟨g, 1, none⟩ = some (.int .i64 x1) := (blk_cell K5.out 1).trans rfl; have yf1 := blk_frozen K5.out 1; have y2 : w5.cell? ⟨g, 2, none⟩ = some (.string x2) := (blk_cell K5.out 2).trans rfl; have yf2 := blk_frozen K5.out 2; have y3 : w5.cell? ⟨g, 3, none⟩ = some (.slice A x3.length c) := (blk_cell K5.out 3).trans rfl; have yf3 := blk_frozen K5.out 3; skip) | ((with_reducible refine gate_dst (N := 54) rfl ?_); refine Kd.R_lit k42 (w0 := w) w.heap.size 42 ?hg (N := 54) ?hd (xs := [(⟨2, 0, ⟨#[]⟩, []⟩ : S42), ⟨x0, x1, x2, x3⟩]) (inner := [.int .i64 2, .int .i64 0, .string ⟨#[]⟩, .slice none 0 0] ++ [.int .i64 x0, .int .i64 x1, .string x2, .slice A x3.length c]) (ok := fun k => k ≠ g) (okp := fun k => k ≠ g) ?hr ?hp (fun _ h => h) ?hf B5.out B5.out.size (by simp) ?_; (case hd => rfl); (case hg => rfl); (case hr => first | (go_simp; done) | (go_simp; rfl)); (case hp => exact reps_two rfl rfl (k42_mkM _ _ _ (⟨2, 0, ⟨#[]⟩, []⟩ : S42) (Kd.R_nil _ _ _ _ _)) (k42_mkM _ _ _ (⟨x0, x1, x2, x3⟩ : S42) R5.out)); (case hf => exact fun h => absurd (blk_lt K5.out) (by omega)); intro v6 w6 ho hb hg _; obtain ⟨A6, c6, e6⟩ := Kd.R_slice ho; subst e6; have R6 := Aside0.mk ho; have B6 := Aside0.mk hb; have K6 := Aside0.mk (blk_grown K5.out hg (by simp)); clear ho hb hg K5 R5 B5 y0 y1 y2 y3 yf0 yf1 yf2 yf3; have z0 : w6.cell? ⟨g, 0, none⟩ = some (.int .i64 x0) := (blk_cell K6.out 0).trans rfl; have zf0 := blk_frozen K6.out 0; have z1 : w6.cell? ⟨g, 1, none⟩ = some (.int .i64 x1) := (blk_cell K6.out 1).trans rfl; have zf1 := blk_frozen K6.out 1; have z2 : w6.cell? ⟨g, 2, none⟩ = some (.string x2) := (blk_cell K6.out 2).trans rfl; have zf2 := blk_frozen K6.out 2; have z3 : w6.cell? ⟨g, 3, none⟩ = some (.slice A x3.length c) := (blk_cell K6.out 3).trans rfl; have zf3 := blk_frozen K6.out 3; skip) | ((with_reducible refine gate_ (.store 42 (.tmp 7) (.tmp 55)) rfl ?_); refine st_ev (w1 := ?inbnd_0_t_9) rfl rfl rfl ?hr ?_; (case hr => go_simp; rfl); intro w7 hw_; clear z0 z1 z2 z3 zf0 zf1 zf2 zf3; have K7 : Aside0 (w7.heap[g]? = some (.cells #[.int .i64 3, .int .i64 0, .string ⟨#[]⟩, .slice A6 2 c6] 42 (0, 0))) := ⟨(by rw [hw_]; exact (blk_put (cs := #[.int .i64 3, .int .i64 0, .string ⟨#[]⟩, .slice A x3.length c]) (cs' := #[.int .i64 3, .int .i64 0, .string ⟨#[]⟩, .slice A6 2 c6]) (blk_put (cs := #[.int .i64 3, .int .i64 0, .string x2, .slice A x3.length c]) (cs' := #[.int .i64 3, .int .i64 0, .string ⟨#[]⟩, .slice A x3.length c]) (blk_put (cs := #[.int .i64 3, .int .i64 x1, .string x2, .slice A x3.length c]) (cs' := #[.int .i64 3, .int .i64 0, .string x2, .slice A x3.length c]) (blk_put (cs := #[.int .i64 x0, .int .i64 x1, .string x2, .slice A x3.length c]) (cs' := #[.int .i64 3, .int .i64 x1, .string x2, .slice A x3.length c]) K6.out 0 (.int .i64 3) rfl) 1 (.int .i64 0) rfl) 2 (.string ⟨#[]⟩) rfl) 3 (.slice A6 2 c6) rfl))⟩; have R7 : Aside0 (Kd.R k42 42 w7 w.heap.size (fun k => k ≠ g) (.slice A6 2 c6) [(⟨2, 0, ⟨#[]⟩, []⟩ : S42), ⟨x0, x1, x2, x3⟩]) := ⟨(by rw [hw_]; exact Kd.R_far (p := ⟨g, 3, none⟩) (Kd.R_far (p := ⟨g, 2, none⟩) (Kd.R_far (p := ⟨g, 1, none⟩) (Kd.R_far (p := ⟨g, 0, none⟩) R6.out (fun _ hk => hk) _) (fun _ hk => hk) _) (fun _ hk => hk) _) (fun _ hk => hk) _)⟩; have B7 : Aside0 (Below w.heap.size w w7) := ⟨(by rw [hw_]; exact (below_set (below_set (below_set (below_set B6.out GE.out) GE.out) GE.out) GE.out))⟩; clear hw_ K6 R6 B6))
      refine ⟨⟨i + 1, _, rfl, ⟨HL.out⟩, ⟨by rw [HX.out]; exact K7.out⟩, ⟨by rw [HX.out]; exact R7.out⟩, B7⟩, ?_⟩
      have := HL.out
      simp only [intOf, Int.toNat_natCast]
      omega
    · obtain rfl : i = j := by omega
      obtain ⟨A', c', e', hle, hC⟩ := Kd.R_reads RR.out
      injection e' with e1 _ e3
      subst e1
      subst e3
      have CC := Aside0.mk hC
      have CL := Aside0.mk hle
      generalize wrapF i (⟨2, 4611686018427387905, ⟨#[]⟩, []⟩ : S42) = x at KR CC CL CK
      obtain ⟨x0, x1, x2, x3⟩ := x
      simp only [] at KR CC CL CK
      clear hC hle hlt hi hj9 RR HI
      go_wp2_with (first | (go_at_call 12; refine (W20.out _).mono ?_; rintro e w5 ⟨rfl, hb⟩; have K5 := Aside0.mk (blk_below KR.out hb); have C5 := Aside0.mk (Kd.C_below CC.out hb); have B5 := Aside0.mk (below_step BR.out hb); clear hb KR CC BR; have y0 : w5.cell? ⟨g, 0, none⟩ = some (.int .i64 x0) := (blk_cell K5.out 0).trans rfl; have yf0 := blk_frozen K5.out 0; have y1 : w5.cell? ⟨g, 1, none⟩ = some (.int .i64 x1) := (blk_cell K5.out 1).trans rfl; have yf1 := blk_frozen K5.out 1; have y2 : w5.cell? ⟨g, 2, none⟩ = some (.string x2) := (blk_cell K5.out 2).trans rfl; have yf2 := blk_frozen K5.out 2; have y3 : w5.cell? ⟨g, 3, none⟩ = some (.slice A x3.length c) := (blk_cell K5.out 3).trans rfl; have yf3 := blk_frozen K5.out 3; skip) | (go_at_call 21; refine (forms_Check.calls kk x0 x1 x2 A c x3 7 _ C5.out CL.out CK.out).mono ?_; rintro e w6 ⟨rfl, hb⟩; have B6 := Aside0.mk (below_step B5.out hb); clear hb))
      go_ret
      exact ⟨by first | rfl | (simp; done) | (simp [*]; done), B6.out⟩
theorem chk_1_f : ∀ d, d ≤ 30 → chk (⟨2, -4611686018427387904, ⟨#[]⟩, []⟩ : S42) d = 0 := by
  intro d hd
  rw [chk]
  rw [if_neg (fun h => absurd h.1 (by decide)), if_pos ⟨rfl, by decide, by decide⟩]
set_option maxHeartbeats 8000000 in
set_option maxRecDepth 100000 in
theorem bnd_1_f (a0 a2 : Int) (j : Nat) (hw : thyrsuslaw3_within.f a0 6 = some 1) (hj : thyrsuslaw3_within.f a2 20 = some (j : Int)) (hj9 : j ≤ 19) (w : World) (hT : TabP w) :
    Calls Tryd.prog 9 #[.int .i64 a0, .bool false, .int .i64 a2] w fun e w' => e = .returned (.bool true) ∧ Below w.heap.size w w' := by
  have hu42 := Tryd.underlying42
  have KN := Aside0.mk (thyrsuslaw3_known.calls 3 true w hT (known_k 0))
  have W6 := Aside0.mk (within_b hw)
  have W20 := Aside0.mk (within_b hj)
  obtain ⟨kk, hkk⟩ := check_ok chk_1_f rfl hj9
  have CK := Aside0.mk hkk
  have J9 := Aside0.mk hj9
  clear hw hj hT hkk hj9
  go_enter Tryd.func9, Tryd.ntmps9
  go_wp2_with (first | (go_at_call 10; refine KN.out.mono ?_; rintro e w1 ⟨rfl, hb⟩; have B1 := Aside0.mk hb; clear hb) | ((with_reducible refine gate_dst (N := 7) rfl ?_); refine box_event ?hg (N := 7) ?hd (cs := #[.int .i64 0, .int .i64 0, .string ⟨#[]⟩, .slice none 0 0]) (t := 42) ?hr ?_; (case hd => rfl); (case hg => rfl); (case hr => first | (go_simp; done) | (go_simp; rfl)); intro g hg w2 hbox hb; have K2 := Aside0.mk hbox; have GE : Aside0 (w.heap.size ≤ g) := ⟨(by rw [hg]; exact B1.out.size)⟩; have B2 := Aside0.mk (below_step B1.out hb); clear hbox hb hg B1; have p0 : w2.cell? ⟨g, 0, none⟩ = some (.int .i64 0) := (blk_cell K2.out 0).trans rfl; have pf0 := blk_frozen K2.out 0; have p1 : w2.cell? ⟨g, 1, none⟩ = some (.int .i64 0) := (blk_cell K2.out 1).trans rfl; have pf1 := blk_frozen K2.out 1; have p2 : w2.cell? ⟨g, 2, none⟩ = some (.string ⟨#[]⟩) := (blk_cell K2.out 2).trans rfl; have pf2 := blk_frozen K2.out 2; have p3 : w2.cell? ⟨g, 3, none⟩ = some (.slice none 0 0) := (blk_cell K2.out 3).trans rfl; have pf3 := blk_frozen K2.out 3; skip) | ((with_reducible refine gate_ (.store 42 (.tmp 7) (.tmp 11)) rfl ?_); refine st_ev (w1 := ?inbnd_1_f_0) rfl rfl rfl ?hr ?_; (case hr => go_simp; rfl); intro w10 hw_; clear p0 pf0 p1 pf1 p2 pf2 p3 pf3; have K10 : Aside0 (w10.heap[g]? = some (.cells #[.int .i64 2, .int .i64 (4611686018427387904), .string ⟨#[]⟩, .slice none 0 0] 42 (0, 0))) := ⟨(by rw [hw_]; exact (blk_put (cs := #[.int .i64 2, .int .i64 (4611686018427387904), .string ⟨#[]⟩, .slice none 0 0]) (cs' := #[.int .i64 2, .int .i64 (4611686018427387904), .string ⟨#[]⟩, .slice none 0 0]) (blk_put (cs := #[.int .i64 2, .int .i64 (4611686018427387904), .string ⟨#[]⟩, .slice none 0 0]) (cs' := #[.int .i64 2, .int .i64 (4611686018427387904), .string ⟨#[]⟩, .slice none 0 0]) (blk_put (cs := #[.int .i64 2, .int .i64 0, .string ⟨#[]⟩, .slice none 0 0]) (cs' := #[.int .i64 2, .int .i64 (4611686018427387904), .string ⟨#[]⟩, .slice none 0 0]) (blk_put (cs := #[.int .i64 0, .int .i64 0, .string ⟨#[]⟩, .slice none 0 0]) (cs' := #[.int .i64 2, .int .i64 0, .string ⟨#[]⟩, .slice none 0 0]) K2.out 0 (.int .i64 2) rfl) 1 (.int .i64 (4611686018427387904)) rfl) 2 (.string ⟨#[]⟩) rfl) 3 (.slice none 0 0) rfl))⟩; have B10 : Aside0 (Below w.heap.size w w10) := ⟨(by rw [hw_]; exact (below_set (below_set (below_set (below_set B2.out GE.out) GE.out) GE.out) GE.out))⟩; clear hw_ K2 B2; have q0 : w10.cell? ⟨g, 0, none⟩ = some (.int .i64 2) := (blk_cell K10.out 0).trans rfl; have qf0 := blk_frozen K10.out 0; have q1 : w10.cell? ⟨g, 1, none⟩ = some (.int .i64 (4611686018427387904)) := (blk_cell K10.out 1).trans rfl; have qf1 := blk_frozen K10.out 1; have q2 : w10.cell? ⟨g, 2, none⟩ = some (.string ⟨#[]⟩) := (blk_cell K10.out 2).trans rfl; have qf2 := blk_frozen K10.out 2; have q3 : w10.cell? ⟨g, 3, none⟩ = some (.slice none 0 0) := (blk_cell K10.out 3).trans rfl; have qf3 := blk_frozen K10.out 3; skip) | (go_at_call 12; refine (W6.out _).mono ?_; rintro e w5 ⟨rfl, hb⟩; clear q0 qf0 q1 qf1 q2 qf2 q3 qf3; have K5 := Aside0.mk (blk_below K10.out hb); have B5 := Aside0.mk (below_step B10.out hb); clear hb K10 B10; have u0 : w5.cell? ⟨g, 0, none⟩ = some (.int .i64 2) := (blk_cell K5.out 0).trans rfl; have uf0 := blk_frozen K5.out 0; have u1 : w5.cell? ⟨g, 1, none⟩ = some (.int .i64 (4611686018427387904)) := (blk_cell K5.out 1).trans rfl; have uf1 := blk_frozen K5.out 1; have u2 : w5.cell? ⟨g, 2, none⟩ = some (.string ⟨#[]⟩) := (blk_cell K5.out 2).trans rfl; have uf2 := blk_frozen K5.out 2; have u3 : w5.cell? ⟨g, 3, none⟩ = some (.slice none 0 0) := (blk_cell K5.out 3).trans rfl; have uf3 := blk_frozen K5.out 3; skip) | ((with_reducible refine gate_ (.store 3 (.tmp 20) (.const (.int .i64 (-4611686018427387904)))) rfl ?_); refine st_ev (w1 := ?inbnd_1_f_1) rfl rfl rfl ?hr ?_; (case hr => go_simp; rfl); intro w11 hw_; clear u0 uf0 u1 uf1 u2 uf2 u3 uf3; have K11 : Aside0 (w11.heap[g]? = some (.cells #[.int .i64 2, .int .i64 (-4611686018427387904), .string ⟨#[]⟩, .slice none 0 0] 42 (0, 0))) := ⟨(by rw [hw_]; exact (blk_put (cs := #[.int .i64 2, .int .i64 (4611686018427387904), .string ⟨#[]⟩, .slice none 0 0]) (cs' := #[.int .i64 2, .int .i64 (-4611686018427387904), .string ⟨#[]⟩, .slice none 0 0]) K5.out 1 (.int .i64 (-4611686018427387904)) rfl))⟩; have B11 : Aside0 (Below w.heap.size w w11) := ⟨(by rw [hw_]; exact (below_set B5.out GE.out))⟩; clear hw_ K5 B5; have r0 : w11.cell? ⟨g, 0, none⟩ = some (.int .i64 2) := (blk_cell K11.out 0).trans rfl; have rf0 := blk_frozen K11.out 0; have r1 : w11.cell? ⟨g, 1, none⟩ = some (.int .i64 (-4611686018427387904)) := (blk_cell K11.out 1).trans rfl; have rf1 := blk_frozen K11.out 1; have r2 : w11.cell? ⟨g, 2, none⟩ = some (.string ⟨#[]⟩) := (blk_cell K11.out 2).trans rfl; have rf2 := blk_frozen K11.out 2; have r3 : w11.cell? ⟨g, 3, none⟩ = some (.slice none 0 0) := (blk_cell K11.out 3).trans rfl; have rf3 := blk_frozen K11.out 3; skip))
  skip
  go_loopw [8] (fun v8 w' => ∃ (i : Nat) (v : Value), v8 = .int .i64 i ∧ Aside0 (i ≤ j) ∧ Aside0 (w'.heap[g]? = some (.cells #[.int .i64 (wrapF i (⟨2, -4611686018427387904, ⟨#[]⟩, []⟩ : S42)).f0, .int .i64 (wrapF i (⟨2, -4611686018427387904, ⟨#[]⟩, []⟩ : S42)).f1, .string (wrapF i (⟨2, -4611686018427387904, ⟨#[]⟩, []⟩ : S42)).f2, v] 42 (0, 0))) ∧ Aside0 (Kd.R k42 42 w' w.heap.size (fun k => k ≠ g) v (wrapF i (⟨2, -4611686018427387904, ⟨#[]⟩, []⟩ : S42)).f3) ∧ Aside0 (Below w.heap.size w w')) (fun v8 _ => j - (intOf v8).toNat)
  case atStart => exact ⟨0, .slice none 0 0, rfl, ⟨Nat.zero_le _⟩, ⟨K11.out⟩, ⟨Kd.R_nil _ _ _ _ _⟩, B11⟩
  case round =>
    obtain ⟨i, v, rfl, HI, KR, RR, BR⟩ := hrel
    clear r0 rf0 r1 rf1 r2 rf2 r3 rf3 K11 B11
    have hi := HI.out
    have hj9 := J9.out
    have V1 := Aside0.mk (show wrap64 ((i : Int) + 1) = ((i + 1 : Nat) : Int) by unfold wrap64; omega)
    obtain ⟨A, c, e⟩ := Kd.R_slice RR.out
    subst e
    by_cases hlt : i < j
    · have HL := Aside0.mk hlt
      have c1 : ((i : Int) < (j : Int)) = True := eq_true (by omega)
      have c2 : (i < j) = True := eq_true hlt
      have c3 : decide ((i : Int) < (j : Int)) = true := decide_eq_true (by omega)
      have HX : Aside0 (wrapF (i + 1) (⟨2, -4611686018427387904, ⟨#[]⟩, []⟩ : S42) = ⟨3, 0, ⟨#[]⟩, [⟨2, 0, ⟨#[]⟩, []⟩, wrapF i (⟨2, -4611686018427387904, ⟨#[]⟩, []⟩ : S42)]⟩) := ⟨rfl⟩
      generalize wrapF i (⟨2, -4611686018427387904, ⟨#[]⟩, []⟩ : S42) = x at KR RR HX
      obtain ⟨x0, x1, x2, x3⟩ := x
      simp only [] at KR RR
      clear hlt hi hj9
      go_wp2_with (first | (rw [V1.out]) | (go_at_call 12; refine (W20.out _).mono ?_; rintro e w5 ⟨rfl, hb⟩; have K5 := Aside0.mk (blk_below KR.out hb); have R5 := Aside0.mk (Kd.R_below RR.out hb); have B5 := Aside0.mk (below_step BR.out hb); clear hb KR RR BR; have y0 : w5.cell? ⟨g, 0, none⟩ = some (.int .i64 x0) := (blk_cell K5.out 0).trans rfl; have yf0 := blk_frozen K5.out 0; have y1 : w5.cell? ⟨g, 1, none⟩ = some (.int .i64 x1) := (blk_cell K5.out 1).trans rfl; have yf1 := blk_frozen K5.out 1; have y2 : w5.cell? ⟨g, 2, none⟩ = some (.string x2) := (blk_cell K5.out 2).trans rfl; have yf2 := blk_frozen K5.out 2; have y3 : w5.cell? ⟨g, 3, none⟩ = some (.slice A x3.length c) := (blk_cell K5.out 3).trans rfl; have yf3 := blk_frozen K5.out 3; skip) | ((with_reducible refine gate_dst (N := 54) rfl ?_); refine Kd.R_lit k42 (w0 := w) w.heap.size 42 ?hg (N := 54) ?hd (xs := [(⟨2, 0, ⟨#[]⟩, []⟩ : S42), ⟨x0, x1, x2, x3⟩]) (inner := [.int .i64 2, .int .i64 0, .string ⟨#[]⟩, .slice none 0 0] ++ [.int .i64 x0, .int .i64 x1, .string x2, .slice A x3.length c]) (ok := fun k => k ≠ g) (okp := fun k => k ≠ g) ?hr ?hp (fun _ h => h) ?hf B5.out B5.out.size (by simp) ?_; (case hd => rfl); (case hg => rfl); (case hr => first | (go_simp; done) | (go_simp; rfl)); (case hp => exact reps_two rfl rfl (k42_mkM _ _ _ (⟨2, 0, ⟨#[]⟩, []⟩ : S42) (Kd.R_nil _ _ _ _ _)) (k42_mkM _ _ _ (⟨x0, x1, x2, x3⟩ : S42) R5.out)); (case hf => exact fun h => absurd (blk_lt K5.out) (by omega)); intro v6 w6 ho hb hg _; obtain ⟨A6, c6, e6⟩ := Kd.R_slice ho; subst e6; have R6 := Aside0.mk ho; have B6 := Aside0.mk hb; have K6 := Aside0.mk (blk_grown K5.out hg (by simp)); clear ho hb hg K5 R5 B5 y0 y1 y2 y3 yf0 yf1 yf2 yf3; have z0 : w6.cell? ⟨g, 0, none⟩ = some (.int .i64 x0) := (blk_cell K6.out 0).trans rfl; have zf0 := blk_frozen K6.out 0; have z1 : w6.cell? ⟨g, 1, none⟩ = some (.int .i64 x1) := (blk_cell K6.out 1).trans rfl; have zf1 := blk_frozen K6.out 1; have z2 : w6.cell? ⟨g, 2, none⟩ = some (.string x2) := (blk_cell K6.out 2).trans rfl; have zf2 := blk_frozen K6.out 2; have z3 : w6.cell? ⟨g, 3, none⟩ = some (.slice A x3.length c) := (blk_cell K6.out 3).trans rfl; have zf3 := blk_frozen K6.out 3; skip) | ((with_reducible refine gate_ (.store 42 (.tmp 7) (.tmp 55)) rfl ?_); refine st_ev (w1 := ?inbnd_1_f_9) rfl rfl rfl ?hr ?_; (case hr => go_simp; rfl); intro w7 hw_; clear z0 z1 z2 z3 zf0 zf1 zf2 zf3; have K7 : Aside0 (w7.heap[g]? = some (.cells #[.int .i64 3, .int .i64 0, .string ⟨#[]⟩, .slice A6 2 c6] 42 (0, 0))) := ⟨(by rw [hw_]; exact (blk_put (cs := #[.int .i64 3, .int .i64 0, .string ⟨#[]⟩, .slice A x3.length c]) (cs' := #[.int .i64 3, .int .i64 0, .string ⟨#[]⟩, .slice A6 2 c6]) (blk_put (cs := #[.int .i64 3, .int .i64 0, .string x2, .slice A x3.length c]) (cs' := #[.int .i64 3, .int .i64 0, .string ⟨#[]⟩, .slice A x3.length c]) (blk_put (cs := #[.int .i64 3, .int .i64 x1, .string x2, .slice A x3.length c]) (cs' := #[.int .i64 3, .int .i64 0, .string x2, .slice A x3.length c]) (blk_put (cs := #[.int .i64 x0, .int .i64 x1, .string x2, .slice A x3.length c]) (cs' := #[.int .i64 3, .int .i64 x1, .string x2, .slice A x3.length c]) K6.out 0 (.int .i64 3) rfl) 1 (.int .i64 0) rfl) 2 (.string ⟨#[]⟩) rfl) 3 (.slice A6 2 c6) rfl))⟩; have R7 : Aside0 (Kd.R k42 42 w7 w.heap.size (fun k => k ≠ g) (.slice A6 2 c6) [(⟨2, 0, ⟨#[]⟩, []⟩ : S42), ⟨x0, x1, x2, x3⟩]) := ⟨(by rw [hw_]; exact Kd.R_far (p := ⟨g, 3, none⟩) (Kd.R_far (p := ⟨g, 2, none⟩) (Kd.R_far (p := ⟨g, 1, none⟩) (Kd.R_far (p := ⟨g, 0, none⟩) R6.out (fun _ hk => hk) _) (fun _ hk => hk) _) (fun _ hk => hk) _) (fun _ hk => hk) _)⟩; have B7 : Aside0 (Below w.heap.size w w7) := ⟨(by rw [hw_]; exact (below_set (below_set (below_set (below_set B6.out GE.out) GE.out) GE.out) GE.out))⟩; clear hw_ K6 R6 B6))
      refine ⟨⟨i + 1, _, rfl, ⟨HL.out⟩, ⟨by rw [HX.out]; exact K7.out⟩, ⟨by rw [HX.out]; exact R7.out⟩, B7⟩, ?_⟩
      have := HL.out
      simp only [intOf, Int.toNat_natCast]
      omega
    · obtain rfl : i = j := by omega
      obtain ⟨A', c', e', hle, hC⟩ := Kd.R_reads RR.out
      injection e' with e1 _ e3
      subst e1
      subst e3
      have CC := Aside0.mk hC
      have CL := Aside0.mk hle
      generalize wrapF i (⟨2, -4611686018427387904, ⟨#[]⟩, []⟩ : S42) = x at KR CC CL CK
      obtain ⟨x0, x1, x2, x3⟩ := x
      simp only [] at KR CC CL CK
      clear hC hle hlt hi hj9 RR HI
      go_wp2_with (first | (go_at_call 12; refine (W20.out _).mono ?_; rintro e w5 ⟨rfl, hb⟩; have K5 := Aside0.mk (blk_below KR.out hb); have C5 := Aside0.mk (Kd.C_below CC.out hb); have B5 := Aside0.mk (below_step BR.out hb); clear hb KR CC BR; have y0 : w5.cell? ⟨g, 0, none⟩ = some (.int .i64 x0) := (blk_cell K5.out 0).trans rfl; have yf0 := blk_frozen K5.out 0; have y1 : w5.cell? ⟨g, 1, none⟩ = some (.int .i64 x1) := (blk_cell K5.out 1).trans rfl; have yf1 := blk_frozen K5.out 1; have y2 : w5.cell? ⟨g, 2, none⟩ = some (.string x2) := (blk_cell K5.out 2).trans rfl; have yf2 := blk_frozen K5.out 2; have y3 : w5.cell? ⟨g, 3, none⟩ = some (.slice A x3.length c) := (blk_cell K5.out 3).trans rfl; have yf3 := blk_frozen K5.out 3; skip) | (go_at_call 21; refine (forms_Check.calls kk x0 x1 x2 A c x3 0 _ C5.out CL.out CK.out).mono ?_; rintro e w6 ⟨rfl, hb⟩; have B6 := Aside0.mk (below_step B5.out hb); clear hb))
      go_ret
      exact ⟨by first | rfl | (simp; done) | (simp [*]; done), B6.out⟩
theorem chk_1_t : ∀ d, d ≤ 30 → chk (⟨2, -4611686018427387905, ⟨#[]⟩, []⟩ : S42) d = 7 := by
  intro d hd
  rw [chk]
  rw [if_neg (fun h => absurd h.1 (by decide)), if_neg (fun h => absurd h.2 (by decide)), if_neg (by decide)]
set_option maxHeartbeats 8000000 in
set_option maxRecDepth 100000 in
theorem bnd_1_t (a0 a2 : Int) (j : Nat) (hw : thyrsuslaw3_within.f a0 6 = some 1) (hj : thyrsuslaw3_within.f a2 20 = some (j : Int)) (hj9 : j ≤ 19) (w : World) (hT : TabP w) :
    Calls Tryd.prog 9 #[.int .i64 a0, .bool true, .int .i64 a2] w fun e w' => e = .returned (.bool true) ∧ Below w.heap.size w w' := by
  have hu42 := Tryd.underlying42
  have KN := Aside0.mk (thyrsuslaw3_known.calls 3 true w hT (known_k 0))
  have W6 := Aside0.mk (within_b hw)
  have W20 := Aside0.mk (within_b hj)
  obtain ⟨kk, hkk⟩ := check_ok chk_1_t rfl hj9
  have CK := Aside0.mk hkk
  have J9 := Aside0.mk hj9
  clear hw hj hT hkk hj9
  go_enter Tryd.func9, Tryd.ntmps9
  go_wp2_with (first | (go_at_call 10; refine KN.out.mono ?_; rintro e w1 ⟨rfl, hb⟩; have B1 := Aside0.mk hb; clear hb) | ((with_reducible refine gate_dst (N := 7) rfl ?_); refine box_event ?hg (N := 7) ?hd (cs := #[.int .i64 0, .int .i64 0, .string ⟨#[]⟩, .slice none 0 0]) (t := 42) ?hr ?_; (case hd => rfl); (case hg => rfl); (case hr => first | (go_simp; done) | (go_simp; rfl)); intro g hg w2 hbox hb; have K2 := Aside0.mk hbox; have GE : Aside0 (w.heap.size ≤ g) := ⟨(by rw [hg]; exact B1.out.size)⟩; have B2 := Aside0.mk (below_step B1.out hb); clear hbox hb hg B1; have p0 : w2.cell? ⟨g, 0, none⟩ = some (.int .i64 0) := (blk_cell K2.out 0).trans rfl; have pf0 := blk_frozen K2.out 0; have p1 : w2.cell? ⟨g, 1, none⟩ = some (.int .i64 0) := (blk_cell K2.out 1).trans rfl; have pf1 := blk_frozen K2.out 1; have p2 : w2.cell? ⟨g, 2, none⟩ = some (.string ⟨#[]⟩) := (blk_cell K2.out 2).trans rfl; have pf2 := blk_frozen K2.out 2; have p3 : w2.cell? ⟨g, 3, none⟩ = some (.slice none 0 0) := (blk_cell K2.out 3).trans rfl; have pf3 := blk_frozen K2.out 3; skip) | ((with_reducible refine gate_ (.store 42 (.tmp 7) (.tmp 11)) rfl ?_); refine st_ev (w1 := ?inbnd_1_t_0) rfl rfl rfl ?hr ?_; (case hr => go_simp; rfl); intro w10 hw_; clear p0 pf0 p1 pf1 p2 pf2 p3 pf3; have K10 : Aside0 (w10.heap[g]? = some (.cells #[.int .i64 2, .int .i64 (4611686018427387904), .string ⟨#[]⟩, .slice none 0 0] 42 (0, 0))) := ⟨(by rw [hw_]; exact (blk_put (cs := #[.int .i64 2, .int .i64 (4611686018427387904), .string ⟨#[]⟩, .slice none 0 0]) (cs' := #[.int .i64 2, .int .i64 (4611686018427387904), .string ⟨#[]⟩, .slice none 0 0]) (blk_put (cs := #[.int .i64 2, .int .i64 (4611686018427387904), .string ⟨#[]⟩, .slice none 0 0]) (cs' := #[.int .i64 2, .int .i64 (4611686018427387904), .string ⟨#[]⟩, .slice none 0 0]) (blk_put (cs := #[.int .i64 2, .int .i64 0, .string ⟨#[]⟩, .slice none 0 0]) (cs' := #[.int .i64 2, .int .i64 (4611686018427387904), .string ⟨#[]⟩, .slice none 0 0]) (blk_put (cs := #[.int .i64 0, .int .i64 0, .string ⟨#[]⟩, .slice none 0 0]) (cs' := #[.int .i64 2, .int .i64 0, .string ⟨#[]⟩, .slice none 0 0]) K2.out 0 (.int .i64 2) rfl) 1 (.int .i64 (4611686018427387904)) rfl) 2 (.string ⟨#[]⟩) rfl) 3 (.slice none 0 0) rfl))⟩; have B10 : Aside0 (Below w.heap.size w w10) := ⟨(by rw [hw_]; exact (below_set (below_set (below_set (below_set B2.out GE.out) GE.out) GE.out) GE.out))⟩; clear hw_ K2 B2; have q0 : w10.cell? ⟨g, 0, none⟩ = some (.int .i64 2) := (blk_cell K10.out 0).trans rfl; have qf0 := blk_frozen K10.out 0; have q1 : w10.cell? ⟨g, 1, none⟩ = some (.int .i64 (4611686018427387904)) := (blk_cell K10.out 1).trans rfl; have qf1 := blk_frozen K10.out 1; have q2 : w10.cell? ⟨g, 2, none⟩ = some (.string ⟨#[]⟩) := (blk_cell K10.out 2).trans rfl; have qf2 := blk_frozen K10.out 2; have q3 : w10.cell? ⟨g, 3, none⟩ = some (.slice none 0 0) := (blk_cell K10.out 3).trans rfl; have qf3 := blk_frozen K10.out 3; skip) | (go_at_call 12; refine (W6.out _).mono ?_; rintro e w5 ⟨rfl, hb⟩; clear q0 qf0 q1 qf1 q2 qf2 q3 qf3; have K5 := Aside0.mk (blk_below K10.out hb); have B5 := Aside0.mk (below_step B10.out hb); clear hb K10 B10; have u0 : w5.cell? ⟨g, 0, none⟩ = some (.int .i64 2) := (blk_cell K5.out 0).trans rfl; have uf0 := blk_frozen K5.out 0; have u1 : w5.cell? ⟨g, 1, none⟩ = some (.int .i64 (4611686018427387904)) := (blk_cell K5.out 1).trans rfl; have uf1 := blk_frozen K5.out 1; have u2 : w5.cell? ⟨g, 2, none⟩ = some (.string ⟨#[]⟩) := (blk_cell K5.out 2).trans rfl; have uf2 := blk_frozen K5.out 2; have u3 : w5.cell? ⟨g, 3, none⟩ = some (.slice none 0 0) := (blk_cell K5.out 3).trans rfl; have uf3 := blk_frozen K5.out 3; skip) | ((with_reducible refine gate_ (.store 3 (.tmp 20) (.const (.int .i64 (-4611686018427387904)))) rfl ?_); refine st_ev (w1 := ?inbnd_1_t_1) rfl rfl rfl ?hr ?_; (case hr => go_simp; rfl); intro w11 hw_; clear u0 uf0 u1 uf1 u2 uf2 u3 uf3; have K11 : Aside0 (w11.heap[g]? = some (.cells #[.int .i64 2, .int .i64 (-4611686018427387904), .string ⟨#[]⟩, .slice none 0 0] 42 (0, 0))) := ⟨(by rw [hw_]; exact (blk_put (cs := #[.int .i64 2, .int .i64 (4611686018427387904), .string ⟨#[]⟩, .slice none 0 0]) (cs' := #[.int .i64 2, .int .i64 (-4611686018427387904), .string ⟨#[]⟩, .slice none 0 0]) K5.out 1 (.int .i64 (-4611686018427387904)) rfl))⟩; have B11 : Aside0 (Below w.heap.size w w11) := ⟨(by rw [hw_]; exact (below_set B5.out GE.out))⟩; clear hw_ K5 B5; have r0 : w11.cell? ⟨g, 0, none⟩ = some (.int .i64 2) := (blk_cell K11.out 0).trans rfl; have rf0 := blk_frozen K11.out 0; have r1 : w11.cell? ⟨g, 1, none⟩ = some (.int .i64 (-4611686018427387904)) := (blk_cell K11.out 1).trans rfl; have rf1 := blk_frozen K11.out 1; have r2 : w11.cell? ⟨g, 2, none⟩ = some (.string ⟨#[]⟩) := (blk_cell K11.out 2).trans rfl; have rf2 := blk_frozen K11.out 2; have r3 : w11.cell? ⟨g, 3, none⟩ = some (.slice none 0 0) := (blk_cell K11.out 3).trans rfl; have rf3 := blk_frozen K11.out 3; skip) | ((with_reducible refine gate_ (.store 3 (.tmp 22) (.const (.int .i64 (-4611686018427387905)))) rfl ?_); refine st_ev (w1 := ?inbnd_1_t_2) rfl rfl rfl ?hr ?_; (case hr => go_simp; rfl); intro w12 hw_; clear r0 rf0 r1 rf1 r2 rf2 r3 rf3; have K12 : Aside0 (w12.heap[g]? = some (.cells #[.int .i64 2, .int .i64 (-4611686018427387905), .string ⟨#[]⟩, .slice none 0 0] 42 (0, 0))) := ⟨(by rw [hw_]; exact (blk_put (cs := #[.int .i64 2, .int .i64 (-4611686018427387904), .string ⟨#[]⟩, .slice none 0 0]) (cs' := #[.int .i64 2, .int .i64 (-4611686018427387905), .string ⟨#[]⟩, .slice none 0 0]) K11.out 1 (.int .i64 (-4611686018427387905)) rfl))⟩; have B12 : Aside0 (Below w.heap.size w w12) := ⟨(by rw [hw_]; exact (below_set B11.out GE.out))⟩; clear hw_ K11 B11; have s0 : w12.cell? ⟨g, 0, none⟩ = some (.int .i64 2) := (blk_cell K12.out 0).trans rfl; have sf0 := blk_frozen K12.out 0; have s1 : w12.cell? ⟨g, 1, none⟩ = some (.int .i64 (-4611686018427387905)) := (blk_cell K12.out 1).trans rfl; have sf1 := blk_frozen K12.out 1; have s2 : w12.cell? ⟨g, 2, none⟩ = some (.string ⟨#[]⟩) := (blk_cell K12.out 2).trans rfl; have sf2 := blk_frozen K12.out 2; have s3 : w12.cell? ⟨g, 3, none⟩ = some (.slice none 0 0) := (blk_cell K12.out 3).trans rfl; have sf3 := blk_frozen K12.out 3; skip))
  skip
  go_loopw [8] (fun v8 w' => ∃ (i : Nat) (v : Value), v8 = .int .i64 i ∧ Aside0 (i ≤ j) ∧ Aside0 (w'.heap[g]? = some (.cells #[.int .i64 (wrapF i (⟨2, -4611686018427387905, ⟨#[]⟩, []⟩ : S42)).f0, .int .i64 (wrapF i (⟨2, -4611686018427387905, ⟨#[]⟩, []⟩ : S42)).f1, .string (wrapF i (⟨2, -4611686018427387905, ⟨#[]⟩, []⟩ : S42)).f2, v] 42 (0, 0))) ∧ Aside0 (Kd.R k42 42 w' w.heap.size (fun k => k ≠ g) v (wrapF i (⟨2, -4611686018427387905, ⟨#[]⟩, []⟩ : S42)).f3) ∧ Aside0 (Below w.heap.size w w')) (fun v8 _ => j - (intOf v8).toNat)
  case atStart => exact ⟨0, .slice none 0 0, rfl, ⟨Nat.zero_le _⟩, ⟨K12.out⟩, ⟨Kd.R_nil _ _ _ _ _⟩, B12⟩
  case round =>
    obtain ⟨i, v, rfl, HI, KR, RR, BR⟩ := hrel
    clear s0 sf0 s1 sf1 s2 sf2 s3 sf3 K12 B12
    have hi := HI.out
    have hj9 := J9.out
    have V1 := Aside0.mk (show wrap64 ((i : Int) + 1) = ((i + 1 : Nat) : Int) by unfold wrap64; omega)
    obtain ⟨A, c, e⟩ := Kd.R_slice RR.out
    subst e
    by_cases hlt : i < j
    · have HL := Aside0.mk hlt
      have c1 : ((i : Int) < (j : Int)) = True := eq_true (by omega)
      have c2 : (i < j) = True := eq_true hlt
      have c3 : decide ((i : Int) < (j : Int)) = true := decide_eq_true (by omega)
      have HX : Aside0 (wrapF (i + 1) (⟨2, -4611686018427387905, ⟨#[]⟩, []⟩ : S42) = ⟨3, 0, ⟨#[]⟩, [⟨2, 0, ⟨#[]⟩, []⟩, wrapF i (⟨2, -4611686018427387905, ⟨#[]⟩, []⟩ : S42)]⟩) := ⟨rfl⟩
      generalize wrapF i (⟨2, -4611686018427387905, ⟨#[]⟩, []⟩ : S42) = x at KR RR HX
      obtain ⟨x0, x1, x2, x3⟩ := x
      simp only [] at KR RR
      clear hlt hi hj9
      go_wp2_with (first | (rw [V1.out]) | (go_at_call 12; refine (W20.out _).mono ?_; rintro e w5 ⟨rfl, hb⟩; have K5 := Aside0.mk (blk_below KR.out hb); have R5 := Aside0.mk (Kd.R_below RR.out hb); have B5 := Aside0.mk (below_step BR.out hb); clear hb KR RR BR; have y0 : w5.cell? ⟨g, 0, none⟩ = some (.int .i64 x0) := (blk_cell K5.out 0).trans rfl; have yf0 := blk_frozen K5.out 0; have y1 : w5.cell? ⟨g, 1, none⟩ = some (.int .i64 x1) := (blk_cell K5.out 1).trans rfl; have yf1 := blk_frozen K5.out 1; have y2 : w5.cell? ⟨g, 2, none⟩ = some (.string x2) := (blk_cell K5.out 2).trans rfl; have yf2 := blk_frozen K5.out 2; have y3 : w5.cell? ⟨g, 3, none⟩ = some (.slice A x3.length c) := (blk_cell K5.out 3).trans rfl; have yf3 := blk_frozen K5.out 3; skip) | ((with_reducible refine gate_dst (N := 54) rfl ?_); refine Kd.R_lit k42 (w0 := w) w.heap.size 42 ?hg (N := 54) ?hd (xs := [(⟨2, 0, ⟨#[]⟩, []⟩ : S42), ⟨x0, x1, x2, x3⟩]) (inner := [.int .i64 2, .int .i64 0, .string ⟨#[]⟩, .slice none 0 0] ++ [.int .i64 x0, .int .i64 x1, .string x2, .slice A x3.length c]) (ok := fun k => k ≠ g) (okp := fun k => k ≠ g) ?hr ?hp (fun _ h => h) ?hf B5.out B5.out.size (by simp) ?_; (case hd => rfl); (case hg => rfl); (case hr => first | (go_simp; done) | (go_simp; rfl)); (case hp => exact reps_two rfl rfl (k42_mkM _ _ _ (⟨2, 0, ⟨#[]⟩, []⟩ : S42) (Kd.R_nil _ _ _ _ _)) (k42_mkM _ _ _ (⟨x0, x1, x2, x3⟩ : S42) R5.out)); (case hf => exact fun h => absurd (blk_lt K5.out) (by omega)); intro v6 w6 ho hb hg _; obtain ⟨A6, c6, e6⟩ := Kd.R_slice ho; subst e6; have R6 := Aside0.mk ho; have B6 := Aside0.mk hb; have K6 := Aside0.mk (blk_grown K5.out hg (by simp)); clear ho hb hg K5 R5 B5 y0 y1 y2 y3 yf0 yf1 yf2 yf3; have z0 : w6.cell? ⟨g, 0, none⟩ = some (.int .i64 x0) := (blk_cell K6.out 0).trans rfl; have zf0 := blk_frozen K6.out 0; have z1 : w6.cell? ⟨g, 1, none⟩ = some (.int .i64 x1) := (blk_cell K6.out 1).trans rfl; have zf1 := blk_frozen K6.out 1; have z2 : w6.cell? ⟨g, 2, none⟩ = some (.string x2) := (blk_cell K6.out 2).trans rfl; have zf2 := blk_frozen K6.out 2; have z3 : w6.cell? ⟨g, 3, none⟩ = some (.slice A x3.length c) := (blk_cell K6.out 3).trans rfl; have zf3 := blk_frozen K6.out 3; skip) | ((with_reducible refine gate_ (.store 42 (.tmp 7) (.tmp 55)) rfl ?_); refine st_ev (w1 := ?inbnd_1_t_9) rfl rfl rfl ?hr ?_; (case hr => go_simp; rfl); intro w7 hw_; clear z0 z1 z2 z3 zf0 zf1 zf2 zf3; have K7 : Aside0 (w7.heap[g]? = some (.cells #[.int .i64 3, .int .i64 0, .string ⟨#[]⟩, .slice A6 2 c6] 42 (0, 0))) := ⟨(by rw [hw_]; exact (blk_put (cs := #[.int .i64 3, .int .i64 0, .string ⟨#[]⟩, .slice A x3.length c]) (cs' := #[.int .i64 3, .int .i64 0, .string ⟨#[]⟩, .slice A6 2 c6]) (blk_put (cs := #[.int .i64 3, .int .i64 0, .string x2, .slice A x3.length c]) (cs' := #[.int .i64 3, .int .i64 0, .string ⟨#[]⟩, .slice A x3.length c]) (blk_put (cs := #[.int .i64 3, .int .i64 x1, .string x2, .slice A x3.length c]) (cs' := #[.int .i64 3, .int .i64 0, .string x2, .slice A x3.length c]) (blk_put (cs := #[.int .i64 x0, .int .i64 x1, .string x2, .slice A x3.length c]) (cs' := #[.int .i64 3, .int .i64 x1, .string x2, .slice A x3.length c]) K6.out 0 (.int .i64 3) rfl) 1 (.int .i64 0) rfl) 2 (.string ⟨#[]⟩) rfl) 3 (.slice A6 2 c6) rfl))⟩; have R7 : Aside0 (Kd.R k42 42 w7 w.heap.size (fun k => k ≠ g) (.slice A6 2 c6) [(⟨2, 0, ⟨#[]⟩, []⟩ : S42), ⟨x0, x1, x2, x3⟩]) := ⟨(by rw [hw_]; exact Kd.R_far (p := ⟨g, 3, none⟩) (Kd.R_far (p := ⟨g, 2, none⟩) (Kd.R_far (p := ⟨g, 1, none⟩) (Kd.R_far (p := ⟨g, 0, none⟩) R6.out (fun _ hk => hk) _) (fun _ hk => hk) _) (fun _ hk => hk) _) (fun _ hk => hk) _)⟩; have B7 : Aside0 (Below w.heap.size w w7) := ⟨(by rw [hw_]; exact (below_set (below_set (below_set (below_set B6.out GE.out) GE.out) GE.out) GE.out))⟩; clear hw_ K6 R6 B6))
      refine ⟨⟨i + 1, _, rfl, ⟨HL.out⟩, ⟨by rw [HX.out]; exact K7.out⟩, ⟨by rw [HX.out]; exact R7.out⟩, B7⟩, ?_⟩
      have := HL.out
      simp only [intOf, Int.toNat_natCast]
      omega
    · obtain rfl : i = j := by omega
      obtain ⟨A', c', e', hle, hC⟩ := Kd.R_reads RR.out
      injection e' with e1 _ e3
      subst e1
      subst e3
      have CC := Aside0.mk hC
      have CL := Aside0.mk hle
      generalize wrapF i (⟨2, -4611686018427387905, ⟨#[]⟩, []⟩ : S42) = x at KR CC CL CK
      obtain ⟨x0, x1, x2, x3⟩ := x
      simp only [] at KR CC CL CK
      clear hC hle hlt hi hj9 RR HI
      go_wp2_with (first | (go_at_call 12; refine (W20.out _).mono ?_; rintro e w5 ⟨rfl, hb⟩; have K5 := Aside0.mk (blk_below KR.out hb); have C5 := Aside0.mk (Kd.C_below CC.out hb); have B5 := Aside0.mk (below_step BR.out hb); clear hb KR CC BR; have y0 : w5.cell? ⟨g, 0, none⟩ = some (.int .i64 x0) := (blk_cell K5.out 0).trans rfl; have yf0 := blk_frozen K5.out 0; have y1 : w5.cell? ⟨g, 1, none⟩ = some (.int .i64 x1) := (blk_cell K5.out 1).trans rfl; have yf1 := blk_frozen K5.out 1; have y2 : w5.cell? ⟨g, 2, none⟩ = some (.string x2) := (blk_cell K5.out 2).trans rfl; have yf2 := blk_frozen K5.out 2; have y3 : w5.cell? ⟨g, 3, none⟩ = some (.slice A x3.length c) := (blk_cell K5.out 3).trans rfl; have yf3 := blk_frozen K5.out 3; skip) | (go_at_call 21; refine (forms_Check.calls kk x0 x1 x2 A c x3 7 _ C5.out CL.out CK.out).mono ?_; rintro e w6 ⟨rfl, hb⟩; have B6 := Aside0.mk (below_step B5.out hb); clear hb))
      go_ret
      exact ⟨by first | rfl | (simp; done) | (simp [*]; done), B6.out⟩
theorem chk_2_f : ∀ d, d ≤ 30 → chk (⟨1, 0, ⟨#[45, 62]⟩, []⟩ : S42) d = 0 := by
  intro d hd
  rw [chk]
  rw [if_pos ⟨rfl, by decide +kernel⟩]
set_option maxHeartbeats 8000000 in
set_option maxRecDepth 100000 in
theorem bnd_2_f (a0 a2 : Int) (j : Nat) (hw : thyrsuslaw3_within.f a0 6 = some 2) (hj : thyrsuslaw3_within.f a2 20 = some (j : Int)) (hj9 : j ≤ 19) (w : World) (hT : TabP w) :
    Calls Tryd.prog 9 #[.int .i64 a0, .bool false, .int .i64 a2] w fun e w' => e = .returned (.bool true) ∧ Below w.heap.size w w' := by
  have hu42 := Tryd.underlying42
  have KN := Aside0.mk (thyrsuslaw3_known.calls 3 true w hT (known_k 0))
  have W6 := Aside0.mk (within_b hw)
  have W20 := Aside0.mk (within_b hj)
  obtain ⟨kk, hkk⟩ := check_ok chk_2_f rfl hj9
  have CK := Aside0.mk hkk
  have J9 := Aside0.mk hj9
  clear hw hj hT hkk hj9
  go_enter Tryd.func9, Tryd.ntmps9
  go_wp2_with (first | (go_at_call 10; refine KN.out.mono ?_; rintro e w1 ⟨rfl, hb⟩; have B1 := Aside0.mk hb; clear hb) | ((with_reducible refine gate_dst (N := 7) rfl ?_); refine box_event ?hg (N := 7) ?hd (cs := #[.int .i64 0, .int .i64 0, .string ⟨#[]⟩, .slice none 0 0]) (t := 42) ?hr ?_; (case hd => rfl); (case hg => rfl); (case hr => first | (go_simp; done) | (go_simp; rfl)); intro g hg w2 hbox hb; have K2 := Aside0.mk hbox; have GE : Aside0 (w.heap.size ≤ g) := ⟨(by rw [hg]; exact B1.out.size)⟩; have B2 := Aside0.mk (below_step B1.out hb); clear hbox hb hg B1; have p0 : w2.cell? ⟨g, 0, none⟩ = some (.int .i64 0) := (blk_cell K2.out 0).trans rfl; have pf0 := blk_frozen K2.out 0; have p1 : w2.cell? ⟨g, 1, none⟩ = some (.int .i64 0) := (blk_cell K2.out 1).trans rfl; have pf1 := blk_frozen K2.out 1; have p2 : w2.cell? ⟨g, 2, none⟩ = some (.string ⟨#[]⟩) := (blk_cell K2.out 2).trans rfl; have pf2 := blk_frozen K2.out 2; have p3 : w2.cell? ⟨g, 3, none⟩ = some (.slice none 0 0) := (blk_cell K2.out 3).trans rfl; have pf3 := blk_frozen K2.out 3; skip) | ((with_reducible refine gate_ (.store 42 (.tmp 7) (.tmp 11)) rfl ?_); refine st_ev (w1 := ?inbnd_2_f_0) rfl rfl rfl ?hr ?_; (case hr => go_simp; rfl); intro w10 hw_; clear p0 pf0 p1 pf1 p2 pf2 p3 pf3; have K10 : Aside0 (w10.heap[g]? = some (.cells #[.int .i64 2, .int .i64 (4611686018427387904), .string ⟨#[]⟩, .slice none 0 0] 42 (0, 0))) := ⟨(by rw [hw_]; exact (blk_put (cs := #[.int .i64 2, .int .i64 (4611686018427387904), .string ⟨#[]⟩, .slice none 0 0]) (cs' := #[.int .i64 2, .int .i64 (4611686018427387904), .string ⟨#[]⟩, .slice none 0 0]) (blk_put (cs := #[.int .i64 2, .int .i64 (4611686018427387904), .string ⟨#[]⟩, .slice none 0 0]) (cs' := #[.int .i64 2, .int .i64 (4611686018427387904), .string ⟨#[]⟩, .slice none 0 0]) (blk_put (cs := #[.int .i64 2, .int .i64 0, .string ⟨#[]⟩, .slice none 0 0]) (cs' := #[.int .i64 2, .int .i64 (4611686018427387904), .string ⟨#[]⟩, .slice none 0 0]) (blk_put (cs := #[.int .i64 0, .int .i64 0, .string ⟨#[]⟩, .slice none 0 0]) (cs' := #[.int .i64 2, .int .i64 0, .string ⟨#[]⟩, .slice none 0 0]) K2.out 0 (.int .i64 2) rfl) 1 (.int .i64 (4611686018427387904)) rfl) 2 (.string ⟨#[]⟩) rfl) 3 (.slice none 0 0) rfl))⟩; have B10 : Aside0 (Below w.heap.size w w10) := ⟨(by rw [hw_]; exact (below_set (below_set (below_set (below_set B2.out GE.out) GE.out) GE.out) GE.out))⟩; clear hw_ K2 B2; have q0 : w10.cell? ⟨g, 0, none⟩ = some (.int .i64 2) := (blk_cell K10.out 0).trans rfl; have qf0 := blk_frozen K10.out 0; have q1 : w10.cell? ⟨g, 1, none⟩ = some (.int .i64 (4611686018427387904)) := (blk_cell K10.out 1).trans rfl; have qf1 := blk_frozen K10.out 1; have q2 : w10.cell? ⟨g, 2, none⟩ = some (.string ⟨#[]⟩) := (blk_cell K10.out 2).trans rfl; have qf2 := blk_frozen K10.out 2; have q3 : w10.cell? ⟨g, 3, none⟩ = some (.slice none 0 0) := (blk_cell K10.out 3).trans rfl; have qf3 := blk_frozen K10.out 3; skip) | (go_at_call 12; refine (W6.out _).mono ?_; rintro e w5 ⟨rfl, hb⟩; clear q0 qf0 q1 qf1 q2 qf2 q3 qf3; have K5 := Aside0.mk (blk_below K10.out hb); have B5 := Aside0.mk (below_step B10.out hb); clear hb K10 B10; have u0 : w5.cell? ⟨g, 0, none⟩ = some (.int .i64 2) := (blk_cell K5.out 0).trans rfl; have uf0 := blk_frozen K5.out 0; have u1 : w5.cell? ⟨g, 1, none⟩ = some (.int .i64 (4611686018427387904)) := (blk_cell K5.out 1).trans rfl; have uf1 := blk_frozen K5.out 1; have u2 : w5.cell? ⟨g, 2, none⟩ = some (.string ⟨#[]⟩) := (blk_cell K5.out 2).trans rfl; have uf2 := blk_frozen K5.out 2; have u3 : w5.cell? ⟨g, 3, none⟩ = some (.slice none 0 0) := (blk_cell K5.out 3).trans rfl; have uf3 := blk_frozen K5.out 3; skip) | ((with_reducible refine gate_ (.store 42 (.tmp 7) (.tmp 25)) rfl ?_); refine st_ev (w1 := ?inbnd_2_f_1) rfl rfl rfl ?hr ?_; (case hr => go_simp; rfl); intro w11 hw_; clear u0 uf0 u1 uf1 u2 uf2 u3 uf3; have K11 : Aside0 (w11.heap[g]? = some (.cells #[.int .i64 1, .int .i64 (0), .string ⟨#[45, 62]⟩, .slice none 0 0] 42 (0, 0))) := ⟨(by rw [hw_]; exact (blk_put (cs := #[.int .i64 1, .int .i64 (0), .string ⟨#[45, 62]⟩, .slice none 0 0]) (cs' := #[.int .i64 1, .int .i64 (0), .string ⟨#[45, 62]⟩, .slice none 0 0]) (blk_put (cs := #[.int .i64 1, .int .i64 (0), .string ⟨#[]⟩, .slice none 0 0]) (cs' := #[.int .i64 1, .int .i64 (0), .string ⟨#[45, 62]⟩, .slice none 0 0]) (blk_put (cs := #[.int .i64 1, .int .i64 (4611686018427387904), .string ⟨#[]⟩, .slice none 0 0]) (cs' := #[.int .i64 1, .int .i64 (0), .string ⟨#[]⟩, .slice none 0 0]) (blk_put (cs := #[.int .i64 2, .int .i64 (4611686018427387904), .string ⟨#[]⟩, .slice none 0 0]) (cs' := #[.int .i64 1, .int .i64 (4611686018427387904), .string ⟨#[]⟩, .slice none 0 0]) K5.out 0 (.int .i64 1) rfl) 1 (.int .i64 (0)) rfl) 2 (.string ⟨#[45, 62]⟩) rfl) 3 (.slice none 0 0) rfl))⟩; have B11 : Aside0 (Below w.heap.size w w11) := ⟨(by rw [hw_]; exact (below_set (below_set (below_set (below_set B5.out GE.out) GE.out) GE.out) GE.out))⟩; clear hw_ K5 B5; have r0 : w11.cell? ⟨g, 0, none⟩ = some (.int .i64 1) := (blk_cell K11.out 0).trans rfl; have rf0 := blk_frozen K11.out 0; have r1 : w11.cell? ⟨g, 1, none⟩ = some (.int .i64 (0)) := (blk_cell K11.out 1).trans rfl; have rf1 := blk_frozen K11.out 1; have r2 : w11.cell? ⟨g, 2, none⟩ = some (.string ⟨#[45, 62]⟩) := (blk_cell K11.out 2).trans rfl; have rf2 := blk_frozen K11.out 2; have r3 : w11.cell? ⟨g, 3, none⟩ = some (.slice none 0 0) := (blk_cell K11.out 3).trans rfl; have rf3 := blk_frozen K11.out 3; skip))
  skip
  go_loopw [8] (fun v8 w' => ∃ (i : Nat) (v : Value), v8 = .int .i64 i ∧ Aside0 (i ≤ j) ∧ Aside0 (w'.heap[g]? = some (.cells #[.int .i64 (wrapF i (⟨1, 0, ⟨#[45, 62]⟩, []⟩ : S42)).f0, .int .i64 (wrapF i (⟨1, 0, ⟨#[45, 62]⟩, []⟩ : S42)).f1, .string (wrapF i (⟨1, 0, ⟨#[45, 62]⟩, []⟩ : S42)).f2, v] 42 (0, 0))) ∧ Aside0 (Kd.R k42 42 w' w.heap.size (fun k => k ≠ g) v (wrapF i (⟨1, 0, ⟨#[45, 62]⟩, []⟩ : S42)).f3) ∧ Aside0 (Below w.heap.size w w')) (fun v8 _ => j - (intOf v8).toNat)
  case atStart => exact ⟨0, .slice none 0 0, rfl, ⟨Nat.zero_le _⟩, ⟨K11.out⟩, ⟨Kd.R_nil _ _ _ _ _⟩, B11⟩
  case round =>
    obtain ⟨i, v, rfl, HI, KR, RR, BR⟩ := hrel
    clear r0 rf0 r1 rf1 r2 rf2 r3 rf3 K11 B11
    have hi := HI.out
    have hj9 := J9.out
    have V1 := Aside0.mk (show wrap64 ((i : Int) + 1) = ((i + 1 : Nat) : Int) by unfold wrap64; omega)
    obtain ⟨A, c, e⟩ := Kd.R_slice RR.out
    subst e
    by_cases hlt : i < j
    · have HL := Aside0.mk hlt
      have c1 : ((i : Int) < (j : Int)) = True := eq_true (by omega)
      have c2 : (i < j) = True := eq_true hlt
      have c3 : decide ((i : Int) < (j : Int)) = true := decide_eq_true (by omega)
      have HX : Aside0 (wrapF (i + 1) (⟨1, 0, ⟨#[45, 62]⟩, []⟩ : S42) = ⟨3, 0, ⟨#[]⟩, [⟨2, 0, ⟨#[]⟩, []⟩, wrapF i (⟨1, 0, ⟨#[45, 62]⟩, []⟩ : S42)]⟩) := ⟨rfl⟩
      generalize wrapF i (⟨1, 0, ⟨#[45, 62]⟩, []⟩ : S42) = x at KR RR HX
      obtain ⟨x0, x1, x2, x3⟩ := x
      simp only [] at KR RR
      clear hlt hi hj9
      go_wp2_with (first | (rw [V1.out]) | (go_at_call 12; refine (W20.out _).mono ?_; rintro e w5 ⟨rfl, hb⟩; have K5 := Aside0.mk (blk_below KR.out hb); have R5 := Aside0.mk (Kd.R_below RR.out hb); have B5 := Aside0.mk (below_step BR.out hb); clear hb KR RR BR; have y0 : w5.cell? ⟨g, 0, none⟩ = some (.int .i64 x0) := (blk_cell K5.out 0).trans rfl; have yf0 := blk_frozen K5.out 0; have y1 : w5.cell? ⟨g, 1, none⟩ = some (.int .i64 x1) := (blk_cell K5.out 1).trans rfl; have yf1 := blk_frozen K5.out 1; have y2 : w5.cell? ⟨g, 2, none⟩ = some (.string x2) := (blk_cell K5.out 2).trans rfl; have yf2 := blk_frozen K5.out 2; have y3 : w5.cell? ⟨g, 3, none⟩ = some (.slice A x3.length c) := (blk_cell K5.out 3).trans rfl; have yf3 := blk_frozen K5.out 3; skip) | ((with_reducible refine gate_dst (N := 54) rfl ?_); refine Kd.R_lit k42 (w0 := w) w.heap.size 42 ?hg (N := 54) ?hd (xs := [(⟨2, 0, ⟨#[]⟩, []⟩ : S42), ⟨x0, x1, x2, x3⟩]) (inner := [.int .i64 2, .int .i64 0, .string ⟨#[]⟩, .slice none 0 0] ++ [.int .i64 x0, .int .i64 x1, .string x2, .slice A x3.length c]) (ok := fun k => k ≠ g) (okp := fun k => k ≠ g) ?hr ?hp (fun _ h => h) ?hf B5.out B5.out.size (by simp) ?_; (case hd => rfl); (case hg => rfl); (case hr => first | (go_simp; done) | (go_simp; rfl)); (case hp => exact reps_two rfl rfl (k42_mkM _ _ _ (⟨2, 0, ⟨#[]⟩, []⟩ : S42) (Kd.R_nil _ _ _ _ _)) (k42_mkM _ _ _ (⟨x0, x1, x2, x3⟩ : S42) R5.out)); (case hf => exact fun h => absurd (blk_lt K5.out) (by omega)); intro v6 w6 ho hb hg _; obtain ⟨A6, c6, e6⟩ := Kd.R_slice ho; subst e6; have R6 := Aside0.mk ho; have B6 := Aside0.mk hb; have K6 := Aside0.mk (blk_grown K5.out hg (by simp)); clear ho hb hg K5 R5 B5 y0 y1 y2 y3 yf0 yf1 yf2 yf3; have z0 : w6.cell? ⟨g, 0, none⟩ = some (.int .i64 x0) := (blk_cell K6.out 0).trans rfl; have zf0 := blk_frozen K6.out 0; have z1 : w6.cell? ⟨g, 1, none⟩ = some (.int .i64 x1) := (blk_cell K6.out 1).trans rfl; have zf1 := blk_frozen K6.out 1; have z2 : w6.cell? ⟨g, 2, none⟩ = some (.string x2) := (blk_cell K6.out 2).trans rfl; have zf2 := blk_frozen K6.out 2; have z3 : w6.cell? ⟨g, 3, none⟩ = some (.slice A x3.length c) := (blk_cell K6.out 3).trans rfl; have zf3 := blk_frozen K6.out 3; skip) | ((with_reducible refine gate_ (.store 42 (.tmp 7) (.tmp 55)) rfl ?_); refine st_ev (w1 := ?inbnd_2_f_9) rfl rfl rfl ?hr ?_; (case hr => go_simp; rfl); intro w7 hw_; clear z0 z1 z2 z3 zf0 zf1 zf2 zf3; have K7 : Aside0 (w7.heap[g]? = some (.cells #[.int .i64 3, .int .i64 0, .string ⟨#[]⟩, .slice A6 2 c6] 42 (0, 0))) := ⟨(by rw [hw_]; exact (blk_put (cs := #[.int .i64 3, .int .i64 0, .string ⟨#[]⟩, .slice A x3.length c]) (cs' := #[.int .i64 3, .int .i64 0, .string ⟨#[]⟩, .slice A6 2 c6]) (blk_put (cs := #[.int .i64 3, .int .i64 0, .string x2, .slice A x3.length c]) (cs' := #[.int .i64 3, .int .i64 0, .string ⟨#[]⟩, .slice A x3.length c]) (blk_put (cs := #[.int .i64 3, .int .i64 x1, .string x2, .slice A x3.length c]) (cs' := #[.int .i64 3, .int .i64 0, .string x2, .slice A x3.length c]) (blk_put (cs := #[.int .i64 x0, .int .i64 x1, .string x2, .slice A x3.length c]) (cs' := #[.int .i64 3, .int .i64 x1, .string x2, .slice A x3.length c]) K6.out 0 (.int .i64 3) rfl) 1 (.int .i64 0) rfl) 2 (.string ⟨#[]⟩) rfl) 3 (.slice A6 2 c6) rfl))⟩; have R7 : Aside0 (Kd.R k42 42 w7 w.heap.size (fun k => k ≠ g) (.slice A6 2 c6) [(⟨2, 0, ⟨#[]⟩, []⟩ : S42), ⟨x0, x1, x2, x3⟩]) := ⟨(by rw [hw_]; exact Kd.R_far (p := ⟨g, 3, none⟩) (Kd.R_far (p := ⟨g, 2, none⟩) (Kd.R_far (p := ⟨g, 1, none⟩) (Kd.R_far (p := ⟨g, 0, none⟩) R6.out (fun _ hk => hk) _) (fun _ hk => hk) _) (fun _ hk => hk) _) (fun _ hk => hk) _)⟩; have B7 : Aside0 (Below w.heap.size w w7) := ⟨(by rw [hw_]; exact (below_set (below_set (below_set (below_set B6.out GE.out) GE.out) GE.out) GE.out))⟩; clear hw_ K6 R6 B6))
      refine ⟨⟨i + 1, _, rfl, ⟨HL.out⟩, ⟨by rw [HX.out]; exact K7.out⟩, ⟨by rw [HX.out]; exact R7.out⟩, B7⟩, ?_⟩
      have := HL.out
      simp only [intOf, Int.toNat_natCast]
      omega
    · obtain rfl : i = j := by omega
      obtain ⟨A', c', e', hle, hC⟩ := Kd.R_reads RR.out
      injection e' with e1 _ e3
      subst e1
      subst e3
      have CC := Aside0.mk hC
      have CL := Aside0.mk hle
      generalize wrapF i (⟨1, 0, ⟨#[45, 62]⟩, []⟩ : S42) = x at KR CC CL CK
      obtain ⟨x0, x1, x2, x3⟩ := x
      simp only [] at KR CC CL CK
      clear hC hle hlt hi hj9 RR HI
      go_wp2_with (first | (go_at_call 12; refine (W20.out _).mono ?_; rintro e w5 ⟨rfl, hb⟩; have K5 := Aside0.mk (blk_below KR.out hb); have C5 := Aside0.mk (Kd.C_below CC.out hb); have B5 := Aside0.mk (below_step BR.out hb); clear hb KR CC BR; have y0 : w5.cell? ⟨g, 0, none⟩ = some (.int .i64 x0) := (blk_cell K5.out 0).trans rfl; have yf0 := blk_frozen K5.out 0; have y1 : w5.cell? ⟨g, 1, none⟩ = some (.int .i64 x1) := (blk_cell K5.out 1).trans rfl; have yf1 := blk_frozen K5.out 1; have y2 : w5.cell? ⟨g, 2, none⟩ = some (.string x2) := (blk_cell K5.out 2).trans rfl; have yf2 := blk_frozen K5.out 2; have y3 : w5.cell? ⟨g, 3, none⟩ = some (.slice A x3.length c) := (blk_cell K5.out 3).trans rfl; have yf3 := blk_frozen K5.out 3; skip) | (go_at_call 21; refine (forms_Check.calls kk x0 x1 x2 A c x3 0 _ C5.out CL.out CK.out).mono ?_; rintro e w6 ⟨rfl, hb⟩; have B6 := Aside0.mk (below_step B5.out hb); clear hb))
      go_ret
      exact ⟨by first | rfl | (simp; done) | (simp [*]; done), B6.out⟩
theorem chk_2_t : ∀ d, d ≤ 30 → chk (⟨1, 0, ⟨#[45]⟩, []⟩ : S42) d = 7 := by
  intro d hd
  rw [chk]
  rw [if_neg (fun h => absurd h.2 (by decide +kernel)), if_neg (fun h => absurd h.1 (by decide)), if_neg (by decide)]
set_option maxHeartbeats 8000000 in
set_option maxRecDepth 100000 in
theorem bnd_2_t (a0 a2 : Int) (j : Nat) (hw : thyrsuslaw3_within.f a0 6 = some 2) (hj : thyrsuslaw3_within.f a2 20 = some (j : Int)) (hj9 : j ≤ 19) (w : World) (hT : TabP w) :
    Calls Tryd.prog 9 #[.int .i64 a0, .bool true, .int .i64 a2] w fun e w' => e = .returned (.bool true) ∧ Below w.heap.size w w' := by
  have hu42 := Tryd.underlying42
  have KN := Aside0.mk (thyrsuslaw3_known.calls 3 true w hT (known_k 0))
  have W6 := Aside0.mk (within_b hw)
  have W20 := Aside0.mk (within_b hj)
  obtain ⟨kk, hkk⟩ := check_ok chk_2_t rfl hj9
  have CK := Aside0.mk hkk
  have J9 := Aside0.mk hj9
  clear hw hj hT hkk hj9
  go_enter Tryd.func9, Tryd.ntmps9
  go_wp2_with (first | (go_at_call 10; refine KN.out.mono ?_; rintro e w1 ⟨rfl, hb⟩; have B1 := Aside0.mk hb; clear hb) | ((with_reducible refine gate_dst (N := 7) rfl ?_); refine box_event ?hg (N := 7) ?hd (cs := #[.int .i64 0, .int .i64 0, .string ⟨#[]⟩, .slice none 0 0]) (t := 42) ?hr ?_; (case hd => rfl); (case hg => rfl); (case hr => first | (go_simp; done) | (go_simp; rfl)); intro g hg w2 hbox hb; have K2 := Aside0.mk hbox; have GE : Aside0 (w.heap.size ≤ g) := ⟨(by rw [hg]; exact B1.out.size)⟩; have B2 := Aside0.mk (below_step B1.out hb); clear hbox hb hg B1; have p0 : w2.cell? ⟨g, 0, none⟩ = some (.int .i64 0) := (blk_cell K2.out 0).trans rfl; have pf0 := blk_frozen K2.out 0; have p1 : w2.cell? ⟨g, 1, none⟩ = some (.int .i64 0) := (blk_cell K2.out 1).trans rfl; have pf1 := blk_frozen K2.out 1; have p2 : w2.cell? ⟨g, 2, none⟩ = some (.string ⟨#[]⟩) := (blk_cell K2.out 2).trans rfl; have pf2 := blk_frozen K2.out 2; have p3 : w2.cell? ⟨g, 3, none⟩ = some (.slice none 0 0) := (blk_cell K2.out 3).trans rfl; have pf3 := blk_frozen K2.out 3; skip) | ((with_reducible refine gate_ (.store 42 (.tmp 7) (.tmp 11)) rfl ?_); refine st_ev (w1 := ?inbnd_2_t_0) rfl rfl rfl ?hr ?_; (case hr => go_simp; rfl); intro w10 hw_; clear p0 pf0 p1 pf1 p2 pf2 p3 pf3; have K10 : Aside0 (w10.heap[g]? = some (.cells #[.int .i64 2, .int .i64 (4611686018427387904), .string ⟨#[]⟩, .slice none 0 0] 42 (0, 0))) := ⟨(by rw [hw_]; exact (blk_put (cs := #[.int .i64 2, .int .i64 (4611686018427387904), .string ⟨#[]⟩, .slice none 0 0]) (cs' := #[.int .i64 2, .int .i64 (4611686018427387904), .string ⟨#[]⟩, .slice none 0 0]) (blk_put (cs := #[.int .i64 2, .int .i64 (4611686018427387904), .string ⟨#[]⟩, .slice none 0 0]) (cs' := #[.int .i64 2, .int .i64 (4611686018427387904), .string ⟨#[]⟩, .slice none 0 0]) (blk_put (cs := #[.int .i64 2, .int .i64 0, .string ⟨#[]⟩, .slice none 0 0]) (cs' := #[.int .i64 2, .int .i64 (4611686018427387904), .string ⟨#[]⟩, .slice none 0 0]) (blk_put (cs := #[.int .i64 0, .int .i64 0, .string ⟨#[]⟩, .slice none 0 0]) (cs' := #[.int .i64 2, .int .i64 0, .string ⟨#[]⟩, .slice none 0 0]) K2.out 0 (.int .i64 2) rfl) 1 (.int .i64 (4611686018427387904)) rfl) 2 (.string ⟨#[]⟩) rfl) 3 (.slice none 0 0) rfl))⟩; have B10 : Aside0 (Below w.heap.size w w10) := ⟨(by rw [hw_]; exact (below_set (below_set (below_set (below_set B2.out GE.out) GE.out) GE.out) GE.out))⟩; clear hw_ K2 B2; have q0 : w10.cell? ⟨g, 0, none⟩ = some (.int .i64 2) := (blk_cell K10.out 0).trans rfl; have qf0 := blk_frozen K10.out 0; have q1 : w10.cell? ⟨g, 1, none⟩ = some (.int .i64 (4611686018427387904)) := (blk_cell K10.out 1).trans rfl; have qf1 := blk_frozen K10.out 1; have q2 : w10.cell? ⟨g, 2, none⟩ = some (.string ⟨#[]⟩) := (blk_cell K10.out 2).trans rfl; have qf2 := blk_frozen K10.out 2; have q3 : w10.cell? ⟨g, 3, none⟩ = some (.slice none 0 0) := (blk_cell K10.out 3).trans rfl; have qf3 := blk_frozen K10.out 3; skip) | (go_at_call 12; refine (W6.out _).mono ?_; rintro e w5 ⟨rfl, hb⟩; clear q0 qf0 q1 qf1 q2 qf2 q3 qf3; have K5 := Aside0.mk (blk_below K10.out hb); have B5 := Aside0.mk (below_step B10.out hb); clear hb K10 B10; have u0 : w5.cell? ⟨g, 0, none⟩ = some (.int .i64 2) := (blk_cell K5.out 0).trans rfl; have uf0 := blk_frozen K5.out 0; have u1 : w5.cell? ⟨g, 1, none⟩ = some (.int .i64 (4611686018427387904)) := (blk_cell K5.out 1).trans rfl; have uf1 := blk_frozen K5.out 1; have u2 : w5.cell? ⟨g, 2, none⟩ = some (.string ⟨#[]⟩) := (blk_cell K5.out 2).trans rfl; have uf2 := blk_frozen K5.out 2; have u3 : w5.cell? ⟨g, 3, none⟩ = some (.slice none 0 0) := (blk_cell K5.out 3).trans rfl; have uf3 := blk_frozen K5.out 3; skip) | ((with_reducible refine gate_ (.store 42 (.tmp 7) (.tmp 25)) rfl ?_); refine st_ev (w1 := ?inbnd_2_t_1) rfl rfl rfl ?hr ?_; (case hr => go_simp; rfl); intro w11 hw_; clear u0 uf0 u1 uf1 u2 uf2 u3 uf3; have K11 : Aside0 (w11.heap[g]? = some (.cells #[.int .i64 1, .int .i64 (0), .string ⟨#[45, 62]⟩, .slice none 0 0] 42 (0, 0))) := ⟨(by rw [hw_]; exact (blk_put (cs := #[.int .i64 1, .int .i64 (0), .string ⟨#[45, 62]⟩, .slice none 0 0]) (cs' := #[.int .i64 1, .int .i64 (0), .string ⟨#[45, 62]⟩, .slice none 0 0]) (blk_put (cs := #[.int .i64 1, .int .i64 (0), .string ⟨#[]⟩, .slice none 0 0]) (cs' := #[.int .i64 1, .int .i64 (0), .string ⟨#[45, 62]⟩, .slice none 0 0]) (blk_put (cs := #[.int .i64 1, .int .i64 (4611686018427387904), .string ⟨#[]⟩, .slice none 0 0]) (cs' := #[.int .i64 1, .int .i64 (0), .string ⟨#[]⟩, .slice none 0 0]) (blk_put (cs := #[.int .i64 2, .int .i64 (4611686018427387904), .string ⟨#[]⟩, .slice none 0 0]) (cs' := #[.int .i64 1, .int .i64 (4611686018427387904), .string ⟨#[]⟩, .slice none 0 0]) K5.out 0 (.int .i64 1) rfl) 1 (.int .i64 (0)) rfl) 2 (.string ⟨#[45, 62]⟩) rfl) 3 (.slice none 0 0) rfl))⟩; have B11 : Aside0 (Below w.heap.size w w11) := ⟨(by rw [hw_]; exact (below_set (below_set (below_set (below_set B5.out GE.out) GE.out) GE.out) GE.out))⟩; clear hw_ K5 B5; have r0 : w11.cell? ⟨g, 0, none⟩ = some (.int .i64 1) := (blk_cell K11.out 0).trans rfl; have rf0 := blk_frozen K11.out 0; have r1 : w11.cell? ⟨g, 1, none⟩ = some (.int .i64 (0)) := (blk_cell K11.out 1).trans rfl; have rf1 := blk_frozen K11.out 1; have r2 : w11.cell? ⟨g, 2, none⟩ = some (.string ⟨#[45, 62]⟩) := (blk_cell K11.out 2).trans rfl; have rf2 := blk_frozen K11.out 2; have r3 : w11.cell? ⟨g, 3, none⟩ = some (.slice none 0 0) := (blk_cell K11.out 3).trans rfl; have rf3 := blk_frozen K11.out 3; skip) | ((with_reducible refine gate_ (.store 9 (.tmp 27) (.const (.string ⟨#[45]⟩))) rfl ?_); refine st_ev (w1 := ?inbnd_2_t_2) rfl rfl rfl ?hr ?_; (case hr => go_simp; rfl); intro w12 hw_; clear r0 rf0 r1 rf1 r2 rf2 r3 rf3; have K12 : Aside0 (w12.heap[g]? = some (.cells #[.int .i64 1, .int .i64 (0), .string ⟨#[45]⟩, .slice none 0 0] 42 (0, 0))) := ⟨(by rw [hw_]; exact (blk_put (cs := #[.int .i64 1, .int .i64 (0), .string ⟨#[45, 62]⟩, .slice none 0 0]) (cs' := #[.int .i64 1, .int .i64 (0), .string ⟨#[45]⟩, .slice none 0 0]) K11.out 2 (.string ⟨#[45]⟩) rfl))⟩; have B12 : Aside0 (Below w.heap.size w w12) := ⟨(by rw [hw_]; exact (below_set B11.out GE.out))⟩; clear hw_ K11 B11; have s0 : w12.cell? ⟨g, 0, none⟩ = some (.int .i64 1) := (blk_cell K12.out 0).trans rfl; have sf0 := blk_frozen K12.out 0; have s1 : w12.cell? ⟨g, 1, none⟩ = some (.int .i64 (0)) := (blk_cell K12.out 1).trans rfl; have sf1 := blk_frozen K12.out 1; have s2 : w12.cell? ⟨g, 2, none⟩ = some (.string ⟨#[45]⟩) := (blk_cell K12.out 2).trans rfl; have sf2 := blk_frozen K12.out 2; have s3 : w12.cell? ⟨g, 3, none⟩ = some (.slice none 0 0) := (blk_cell K12.out 3).trans rfl; have sf3 := blk_frozen K12.out 3; skip))
  skip
  go_loopw [8] (fun v8 w' => ∃ (i : Nat) (v : Value), v8 = .int .i64 i ∧ Aside0 (i ≤ j) ∧ Aside0 (w'.heap[g]? = some (.cells #[.int .i64 (wrapF i (⟨1, 0, ⟨#[45]⟩, []⟩ : S42)).f0, .int .i64 (wrapF i (⟨1, 0, ⟨#[45]⟩, []⟩ : S42)).f1, .string (wrapF i (⟨1, 0, ⟨#[45]⟩, []⟩ : S42)).f2, v] 42 (0, 0))) ∧ Aside0 (Kd.R k42 42 w' w.heap.size (fun k => k ≠ g) v (wrapF i (⟨1, 0, ⟨#[45]⟩, []⟩ : S42)).f3) ∧ Aside0 (Below w.heap.size w w')) (fun v8 _ => j - (intOf v8).toNat)
  case atStart => exact ⟨0, .slice none 0 0, rfl, ⟨Nat.zero_le _⟩, ⟨K12.out⟩, ⟨Kd.R_nil _ _ _ _ _⟩, B12⟩
  case round =>
    obtain ⟨i, v, rfl, HI, KR, RR, BR⟩ := hrel
    clear s0 sf0 s1 sf1 s2 sf2 s3 sf3 K12 B12
    have hi := HI.out
    have hj9 := J9.out
    have V1 := Aside0.mk (show wrap64 ((i : Int) + 1) = ((i + 1 : Nat) : Int) by unfold wrap64; omega)
    obtain ⟨A, c, e⟩ := Kd.R_slice RR.out
    subst e
    by_cases hlt : i < j
    · have HL := Aside0.mk hlt
      have c1 : ((i : Int) < (j : Int)) = True := eq_true (by omega)
      have c2 : (i < j) = True := eq_true hlt
      have c3 : decide ((i : Int) < (j : Int)) = true := decide_eq_true (by omega)
      have HX : Aside0 (wrapF (i + 1) (⟨1, 0, ⟨#[45]⟩, []⟩ : S42) = ⟨3, 0, ⟨#[]⟩, [⟨2, 0, ⟨#[]⟩, []⟩, wrapF i (⟨1, 0, ⟨#[45]⟩, []⟩ : S42)]⟩) := ⟨rfl⟩
      generalize wrapF i (⟨1, 0, ⟨#[45]⟩, []⟩ : S42) = x at KR RR HX
      obtain ⟨x0, x1, x2, x3⟩ := x
      simp only [] at KR RR
      clear hlt hi hj9
      go_wp2_with (first | (rw [V1.out]) | (go_at_call 12; refine (W20.out _).mono ?_; rintro e w5 ⟨rfl, hb⟩; have K5 := Aside0.mk (blk_below KR.out hb); have R5 := Aside0.mk (Kd.R_below RR.out hb); have B5 := Aside0.mk (below_step BR.out hb); clear hb KR RR BR; have y0 : w5.cell? ⟨g, 0, none⟩ = some (.int .i64 x0) := (blk_cell K5.out 0).trans rfl; have yf0 := blk_frozen K5.out 0; have y1 : w5.cell? ⟨g, 1, none⟩ = some (.int .i64 x1) := (blk_cell K5.out 1).trans rfl; have yf1 := blk_frozen K5.out 1; have y2 : w5.cell? ⟨g, 2, none⟩ = some (.string x2) := (blk_cell K5.out 2).trans rfl; have yf2 := blk_frozen K5.out 2; have y3 : w5.cell? ⟨g, 3, none⟩ = some (.slice A x3.length c) := (blk_cell K5.out 3).trans rfl; have yf3 := blk_frozen K5.out 3; skip) | ((with_reducible refine gate_dst (N := 54) rfl ?_); refine Kd.R_lit k42 (w0 := w) w.heap.size 42 ?hg (N := 54) ?hd (xs := [(⟨2, 0, ⟨#[]⟩, []⟩ : S42), ⟨x0, x1, x2, x3⟩]) (inner := [.int .i64 2, .int .i64 0, .string ⟨#[]⟩, .slice none 0 0] ++ [.int .i64 x0, .int .i64 x1, .string x2, .slice A x3.length c]) (ok := fun k => k ≠ g) (okp := fun k => k ≠ g) ?hr ?hp (fun _ h => h) ?hf B5.out B5.out.size (by simp) ?_; (case hd => rfl); (case hg => rfl); (case hr => first | (go_simp; done) | (go_simp; rfl)); (case hp => exact reps_two rfl rfl (k42_mkM _ _ _ (⟨2, 0, ⟨#[]⟩, []⟩ : S42) (Kd.R_nil _ _ _ _ _)) (k42_mkM _ _ _ (⟨x0, x1, x2, x3⟩ : S42) R5.out)); (case hf => exact fun h => absurd (blk_lt K5.out) (by omega)); intro v6 w6 ho hb hg _; obtain ⟨A6, c6, e6⟩ := Kd.R_slice ho; subst e6; have R6 := Aside0.mk ho; have B6 := Aside0.mk hb; have K6 := Aside0.mk (blk_grown K5.out hg (by simp)); clear ho hb hg K5 R5 B5 y0 y1 y2 y3 yf0 yf1 yf2 yf3; have z0 : w6.cell? ⟨g, 0, none⟩ = some (.int .i64 x0) := (blk_cell K6.out 0).trans rfl; have zf0 := blk_frozen K6.out 0; have z1 : w6.cell? ⟨g, 1, none⟩ = some (.int .i64 x1) := (blk_cell K6.out 1).trans rfl; have zf1 := blk_frozen K6.out 1; have z2 : w6.cell? ⟨g, 2, none⟩ = some (.string x2) := (blk_cell K6.out 2).trans rfl; have zf2 := blk_frozen K6.out 2; have z3 : w6.cell? ⟨g, 3, none⟩ = some (.slice A x3.length c) := (blk_cell K6.out 3).trans rfl; have zf3 := blk_frozen K6.out 3; skip) | ((with_reducible refine gate_ (.store 42 (.tmp 7) (.tmp 55)) rfl ?_); refine st_ev (w1 := ?inbnd_2_t_9) rfl rfl rfl ?hr ?_; (case hr => go_simp; rfl); intro w7 hw_; clear z0 z1 z2 z3 zf0 zf1 zf2 zf3; have K7 : Aside0 (w7.heap[g]? = some (.cells #[.int .i64 3, .int .i64 0, .string ⟨#[]⟩, .slice A6 2 c6] 42 (0, 0))) := ⟨(by rw [hw_]; exact (blk_put (cs := #[.int .i64 3, .int .i64 0, .string ⟨#[]⟩, .slice A x3.length c]) (cs' := #[.int .i64 3, .int .i64 0, .string ⟨#[]⟩, .slice A6 2 c6]) (blk_put (cs := #[.int .i64 3, .int .i64 0, .string x2, .slice A x3.length c]) (cs' := #[.int .i64 3, .int .i64 0, .string ⟨#[]⟩, .slice A x3.length c]) (blk_put (cs := #[.int .i64 3, .int .i64 x1, .string x2, .slice A x3.length c]) (cs' := #[.int .i64 3, .int .i64 0, .string x2, .slice A x3.length c]) (blk_put (cs := #[.int .i64 x0, .int .i64 x1, .string x2, .slice A x3.length c]) (cs' := #[.int .i64 3, .int .i64 x1, .string x2, .slice A x3.length c]) K6.out 0 (.int .i64 3) rfl) 1 (.int .i64 0) rfl) 2 (.string ⟨#[]⟩) rfl) 3 (.slice A6 2 c6) rfl))⟩; have R7 : Aside0 (Kd.R k42 42 w7 w.heap.size (fun k => k ≠ g) (.slice A6 2 c6) [(⟨2, 0, ⟨#[]⟩, []⟩ : S42), ⟨x0, x1, x2, x3⟩]) := ⟨(by rw [hw_]; exact Kd.R_far (p := ⟨g, 3, none⟩) (Kd.R_far (p := ⟨g, 2, none⟩) (Kd.R_far (p := ⟨g, 1, none⟩) (Kd.R_far (p := ⟨g, 0, none⟩) R6.out (fun _ hk => hk) _) (fun _ hk => hk) _) (fun _ hk => hk) _) (fun _ hk => hk) _)⟩; have B7 : Aside0 (Below w.heap.size w w7) := ⟨(by rw [hw_]; exact (below_set (below_set (below_set (below_set B6.out GE.out) GE.out) GE.out) GE.out))⟩; clear hw_ K6 R6 B6))
      refine ⟨⟨i + 1, _, rfl, ⟨HL.out⟩, ⟨by rw [HX.out]; exact K7.out⟩, ⟨by rw [HX.out]; exact R7.out⟩, B7⟩, ?_⟩
      have := HL.out
      simp only [intOf, Int.toNat_natCast]
      omega
    · obtain rfl : i = j := by omega
      obtain ⟨A', c', e', hle, hC⟩ := Kd.R_reads RR.out
      injection e' with e1 _ e3
      subst e1
      subst e3
      have CC := Aside0.mk hC
      have CL := Aside0.mk hle
      generalize wrapF i (⟨1, 0, ⟨#[45]⟩, []⟩ : S42) = x at KR CC CL CK
      obtain ⟨x0, x1, x2, x3⟩ := x
      simp only [] at KR CC CL CK
      clear hC hle hlt hi hj9 RR HI
      go_wp2_with (first | (go_at_call 12; refine (W20.out _).mono ?_; rintro e w5 ⟨rfl, hb⟩; have K5 := Aside0.mk (blk_below KR.out hb); have C5 := Aside0.mk (Kd.C_below CC.out hb); have B5 := Aside0.mk (below_step BR.out hb); clear hb KR CC BR; have y0 : w5.cell? ⟨g, 0, none⟩ = some (.int .i64 x0) := (blk_cell K5.out 0).trans rfl; have yf0 := blk_frozen K5.out 0; have y1 : w5.cell? ⟨g, 1, none⟩ = some (.int .i64 x1) := (blk_cell K5.out 1).trans rfl; have yf1 := blk_frozen K5.out 1; have y2 : w5.cell? ⟨g, 2, none⟩ = some (.string x2) := (blk_cell K5.out 2).trans rfl; have yf2 := blk_frozen K5.out 2; have y3 : w5.cell? ⟨g, 3, none⟩ = some (.slice A x3.length c) := (blk_cell K5.out 3).trans rfl; have yf3 := blk_frozen K5.out 3; skip) | (go_at_call 21; refine (forms_Check.calls kk x0 x1 x2 A c x3 7 _ C5.out CL.out CK.out).mono ?_; rintro e w6 ⟨rfl, hb⟩; have B6 := Aside0.mk (below_step B5.out hb); clear hb))
      go_ret
      exact ⟨by first | rfl | (simp; done) | (simp [*]; done), B6.out⟩
theorem chk_3_f : ∀ d, d ≤ 30 → chk (⟨1, 0, ⟨#[97, 98, 99, 100, 101, 102, 103, 104, 105, 106, 107, 108, 109, 110, 111, 112, 113, 114, 115, 116]⟩, []⟩ : S42) d = 0 := by
  intro d hd
  rw [chk]
  rw [if_pos ⟨rfl, by decide +kernel⟩]
set_option maxHeartbeats 8000000 in
set_option maxRecDepth 100000 in
theorem bnd_3_f (a0 a2 : Int) (j : Nat) (hw : thyrsuslaw3_within.f a0 6 = some 3) (hj : thyrsuslaw3_within.f a2 20 = some (j : Int)) (hj9 : j ≤ 19) (w : World) (hT : TabP w) :
    Calls Tryd.prog 9 #[.int .i64 a0, .bool false, .int .i64 a2] w fun e w' => e = .returned (.bool true) ∧ Below w.heap.size w w' := by
  have hu42 := Tryd.underlying42
  have KN := Aside0.mk (thyrsuslaw3_known.calls 3 true w hT (known_k 0))
  have W6 := Aside0.mk (within_b hw)
  have W20 := Aside0.mk (within_b hj)
  obtain ⟨kk, hkk⟩ := check_ok chk_3_f rfl hj9
  have CK := Aside0.mk hkk
  have J9 := Aside0.mk hj9
  clear hw hj hT hkk hj9
  go_enter Tryd.func9, Tryd.ntmps9
  go_wp2_with (first | (go_at_call 10; refine KN.out.mono ?_; rintro e w1 ⟨rfl, hb⟩; have B1 := Aside0.mk hb; clear hb) | ((with_reducible refine gate_dst (N := 7) rfl ?_); refine box_event ?hg (N := 7) ?hd (cs := #[.int .i64 0, .int .i64 0, .string ⟨#[]⟩, .slice none 0 0]) (t := 42) ?hr ?_; (case hd => rfl); (case hg => rfl); (case hr => first | (go_simp; done) | (go_simp; rfl)); intro g hg w2 hbox hb; have K2 := Aside0.mk hbox; have GE : Aside0 (w.heap.size ≤ g) := ⟨(by rw [hg]; exact B1.out.size)⟩; have B2 := Aside0.mk (below_step B1.out hb); clear hbox hb hg B1; have p0 : w2.cell? ⟨g, 0, none⟩ = some (.int .i64 0) := (blk_cell K2.out 0).trans rfl; have pf0 := blk_frozen K2.out 0; have p1 : w2.cell? ⟨g, 1, none⟩ = some (.int .i64 0) := (blk_cell K2.out 1).trans rfl; have pf1 := blk_frozen K2.out 1; have p2 : w2.cell? ⟨g, 2, none⟩ = some (.string ⟨#[]⟩) := (blk_cell K2.out 2).trans rfl; have pf2 := blk_frozen K2.out 2; have p3 : w2.cell? ⟨g, 3, none⟩ = some (.slice none 0 0) := (blk_cell K2.out 3).trans rfl; have pf3 := blk_frozen K2.out 3; skip) | ((with_reducible refine gate_ (.store 42 (.tmp 7) (.tmp 11)) rfl ?_); refine st_ev (w1 := ?inbnd_3_f_0) rfl rfl rfl ?hr ?_; (case hr => go_simp; rfl); intro w10 hw_; clear p0 pf0 p1 pf1 p2 pf2 p3 pf3; have K10 : Aside0 (w10.heap[g]? = some (.cells #[.int .i64 2, .int .i64 (4611686018427387904), .string ⟨#[]⟩, .slice none 0 0] 42 (0, 0))) := ⟨(by rw [hw_]; exact (blk_put (cs := #[.int .i64 2, .int .i64 (4611686018427387904), .string ⟨#[]⟩, .slice none 0 0]) (cs' := #[.int .i64 2, .int .i64 (4611686018427387904), .string ⟨#[]⟩, .slice none 0 0]) (blk_put (cs := #[.int .i64 2, .int .i64 (4611686018427387904), .string ⟨#[]⟩, .slice none 0 0]) (cs' := #[.int .i64 2, .int .i64 (4611686018427387904), .string ⟨#[]⟩, .slice none 0 0]) (blk_put (cs := #[.int .i64 2, .int .i64 0, .string ⟨#[]⟩, .slice none 0 0]) (cs' := #[.int .i64 2, .int .i64 (4611686018427387904), .string ⟨#[]⟩, .slice none 0 0]) (blk_put (cs := #[.int .i64 0, .int .i64 0, .string ⟨#[]⟩, .slice none 0 0]) (cs' := #[.int .i64 2, .int .i64 0, .string ⟨#[]⟩, .slice none 0 0]) K2.out 0 (.int .i64 2) rfl) 1 (.int .i64 (4611686018427387904)) rfl) 2 (.string ⟨#[]⟩) rfl) 3 (.slice none 0 0) rfl))⟩; have B10 : Aside0 (Below w.heap.size w w10) := ⟨(by rw [hw_]; exact (below_set (below_set (below_set (below_set B2.out GE.out) GE.out) GE.out) GE.out))⟩; clear hw_ K2 B2; have q0 : w10.cell? ⟨g, 0, none⟩ = some (.int .i64 2) := (blk_cell K10.out 0).trans rfl; have qf0 := blk_frozen K10.out 0; have q1 : w10.cell? ⟨g, 1, none⟩ = some (.int .i64 (4611686018427387904)) := (blk_cell K10.out 1).trans rfl; have qf1 := blk_frozen K10.out 1; have q2 : w10.cell? ⟨g, 2, none⟩ = some (.string ⟨#[]⟩) := (blk_cell K10.out 2).trans rfl; have qf2 := blk_frozen K10.out 2; have q3 : w10.cell? ⟨g, 3, none⟩ = some (.slice none 0 0) := (blk_cell K10.out 3).trans rfl; have qf3 := blk_frozen K10.out 3; skip) | (go_at_call 12; refine (W6.out _).mono ?_; rintro e w5 ⟨rfl, hb⟩; clear q0 qf0 q1 qf1 q2 qf2 q3 qf3; have K5 := Aside0.mk (blk_below K10.out hb); have B5 := Aside0.mk (below_step B10.out hb); clear hb K10 B10; have u0 : w5.cell? ⟨g, 0, none⟩ = some (.int .i64 2) := (blk_cell K5.out 0).trans rfl; have uf0 := blk_frozen K5.out 0; have u1 : w5.cell? ⟨g, 1, none⟩ = some (.int .i64 (4611686018427387904)) := (blk_cell K5.out 1).trans rfl; have uf1 := blk_frozen K5.out 1; have u2 : w5.cell? ⟨g, 2, none⟩ = some (.string ⟨#[]⟩) := (blk_cell K5.out 2).trans rfl; have uf2 := blk_frozen K5.out 2; have u3 : w5.cell? ⟨g, 3, none⟩ = some (.slice none 0 0) := (blk_cell K5.out 3).trans rfl; have uf3 := blk_frozen K5.out 3; skip) | ((with_reducible refine gate_ (.store 42 (.tmp 7) (.tmp 30)) rfl ?_); refine st_ev (w1 := ?inbnd_3_f_1) rfl rfl rfl ?hr ?_; (case hr => go_simp; rfl); intro w11 hw_; clear u0 uf0 u1 uf1 u2 uf2 u3 uf3; have K11 : Aside0 (w11.heap[g]? = some (.cells #[.int .i64 1, .int .i64 (0), .string ⟨#[97, 98, 99, 100, 101, 102, 103, 104, 105, 106, 107, 108, 109, 110, 111, 112, 113, 114, 115, 116]⟩, .slice none 0 0] 42 (0, 0))) := ⟨(by rw [hw_]; exact (blk_put (cs := #[.int .i64 1, .int .i64 (0), .string ⟨#[97, 98, 99, 100, 101, 102, 103, 104, 105, 106, 107, 108, 109, 110, 111, 112, 113, 114, 115, 116]⟩, .slice none 0 0]) (cs' := #[.int .i64 1, .int .i64 (0), .string ⟨#[97, 98, 99, 100, 101, 102, 103, 104, 105, 106, 107, 108, 109, 110, 111, 112, 113, 114, 115, 116]⟩, .slice none 0 0]) (blk_put (cs := #[.int .i64 1, .int .i64 (0), .string ⟨#[]⟩, .slice none 0 0]) (cs' := #[.int .i64 1, .int .i64 (0), .string ⟨#[97, 98, 99, 100, 101, 102, 103, 104, 105, 106, 107, 108, 109, 110, 111, 112, 113, 114, 115, 116]⟩, .slice none 0 0]) (blk_put (cs := #[.int .i64 1, .int .i64 (4611686018427387904), .string ⟨#[]⟩, .slice none 0 0]) (cs' := #[.int .i64 1, .int .i64 (0), .string ⟨#[]⟩, .slice none 0 0]) (blk_put (cs := #[.int .i64 2, .int .i64 (4611686018427387904), .string ⟨#[]⟩, .slice none 0 0]) (cs' := #[.int .i64 1, .int .i64 (4611686018427387904), .string ⟨#[]⟩, .slice none 0 0]) K5.out 0 (.int .i64 1) rfl) 1 (.int .i64 (0)) rfl) 2 (.string ⟨#[97, 98, 99, 100, 101, 102, 103, 104, 105, 106, 107, 108, 109, 110, 111, 112, 113, 114, 115, 116]⟩) rfl) 3 (.slice none 0 0) rfl))⟩; have B11 : Aside0 (Below w.heap.size w w11) := ⟨(by rw [hw_]; exact (below_set (below_set (below_set (below_set B5.out GE.out) GE.out) GE.out) GE.out))⟩; clear hw_ K5 B5; have r0 : w11.cell? ⟨g, 0, none⟩ = some (.int .i64 1) := (blk_cell K11.out 0).trans rfl; have rf0 := blk_frozen K11.out 0; have r1 : w11.cell? ⟨g, 1, none⟩ = some (.int .i64 (0)) := (blk_cell K11.out 1).trans rfl; have rf1 := blk_frozen K11.out 1; have r2 : w11.cell? ⟨g, 2, none⟩ = some (.string ⟨#[97, 98, 99, 100, 101, 102, 103, 104, 105, 106, 107, 108, 109, 110, 111, 112, 113, 114, 115, 116]⟩) := (blk_cell K11.out 2).trans rfl; have rf2 := blk_frozen K11.out 2; have r3 : w11.cell? ⟨g, 3, none⟩ = some (.slice none 0 0) := (blk_cell K11.out 3).trans rfl; have rf3 := blk_frozen K11.out 3; skip))
  skip
  go_loopw [8] (fun v8 w' => ∃ (i : Nat) (v : Value), v8 = .int .i64 i ∧ Aside0 (i ≤ j) ∧ Aside0 (w'.heap[g]? = some (.cells #[.int .i64 (wrapF i (⟨1, 0, ⟨#[97, 98, 99, 100, 101, 102, 103, 104, 105, 106, 107, 108, 109, 110, 111, 112, 113, 114, 115, 116]⟩, []⟩ : S42)).f0, .int .i64 (wrapF i (⟨1, 0, ⟨#[97, 98, 99, 100, 101, 102, 103, 104, 105, 106, 107, 108, 109, 110, 111, 112, 113, 114, 115, 116]⟩, []⟩ : S42)).f1, .string (wrapF i (⟨1, 0, ⟨#[97, 98, 99, 100, 101, 102, 103, 104, 105, 106, 107, 108, 109, 110, 111, 112, 113, 114, 115, 116]⟩, []⟩ : S42)).f2, v] 42 (0, 0))) ∧ Aside0 (Kd.R k42 42 w' w.heap.size (fun k => k ≠ g) v (wrapF i (⟨1, 0, ⟨#[97, 98, 99, 100, 101, 102, 103, 104, 105, 106, 107, 108, 109, 110, 111, 112, 113, 114, 115, 116]⟩, []⟩ : S42)).f3) ∧ Aside0 (Below w.heap.size w w')) (fun v8 _ => j - (intOf v8).toNat)
  case atStart => exact ⟨0, .slice none 0 0, rfl, ⟨Nat.zero_le _⟩, ⟨K11.out⟩, ⟨Kd.R_nil _ _ _ _ _⟩, B11⟩
  case round =>
    obtain ⟨i, v, rfl, HI, KR, RR, BR⟩ := hrel
    clear r0 rf0 r1 rf1 r2 rf2 r3 rf3 K11 B11
    have hi := HI.out
    have hj9 := J9.out
    have V1 := Aside0.mk (show wrap64 ((i : Int) + 1) = ((i + 1 : Nat) : Int) by unfold wrap64; omega)
    obtain ⟨A, c, e⟩ := Kd.R_slice RR.out
    subst e
    by_cases hlt : i < j
    · have HL := Aside0.mk hlt
      have c1 : ((i : Int) < (j : Int)) = True := eq_true (by omega)
      have c2 : (i < j) = True := eq_true hlt
      have c3 : decide ((i : Int) < (j : Int)) = true := decide_eq_true (by omega)
      have HX : Aside0 (wrapF (i + 1) (⟨1, 0, ⟨#[97, 98, 99, 100, 101, 102, 103, 104, 105, 106, 107, 108, 109, 110, 111, 112, 113, 114, 115, 116]⟩, []⟩ : S42) = ⟨3, 0, ⟨#[]⟩, [⟨2, 0, ⟨#[]⟩, []⟩, wrapF i (⟨1, 0, ⟨#[97, 98, 99, 100, 101, 102, 103, 104, 105, 106, 107, 108, 109, 110, 111, 112, 113, 114, 115, 116]⟩, []⟩ : S42)]⟩) := ⟨rfl⟩
      generalize wrapF i (⟨1, 0, ⟨#[97, 98, 99, 100, 101, 102, 103, 104, 105, 106, 107, 108, 109, 110, 111, 112, 113, 114, 115, 116]⟩, []⟩ : S42) = x at KR RR HX
      obtain ⟨x0, x1, x2, x3⟩ := x
      simp only [] at KR RR
      clear hlt hi hj9
      go_wp2_with (first | (rw [V1.out]) | (go_at_call 12; refine (W20.out _).mono ?_; rintro e w5 ⟨rfl, hb⟩; have K5 := Aside0.mk (blk_below KR.out hb); have R5 := Aside0.mk (Kd.R_below RR.out hb); have B5 := Aside0.mk (below_step BR.out hb); clear hb KR RR BR; have y0 : w5.cell? ⟨g, 0, none⟩ = some (.int .i64 x0) := (blk_cell K5.out 0).trans rfl; have yf0 := blk_frozen K5.out 0; have y1 : w5.cell? ⟨g, 1, none⟩ = some (.int .i64 x1) := (blk_cell K5.out 1).trans rfl; have yf1 := blk_frozen K5.out 1; have y2 : w5.cell? ⟨g, 2, none⟩ = some (.string x2) := (blk_cell K5.out 2).trans rfl; have yf2 := blk_frozen K5.out 2; have y3 : w5.cell? ⟨g, 3, none⟩ = some (.slice A x3.length c) := (blk_cell K5.out 3).trans rfl; have yf3 := blk_frozen K5.out 3; skip) | ((with_reducible refine gate_dst (N := 54) rfl ?_); refine Kd.R_lit k42 (w0 := w) w.heap.size 42 ?hg (N := 54) ?hd (xs := [(⟨2, 0, ⟨#[]⟩, []⟩ : S42), ⟨x0, x1, x2, x3⟩]) (inner := [.int .i64 2, .int .i64 0, .string ⟨#[]⟩, .slice none 0 0] ++ [.int .i64 x0, .int .i64 x1, .string x2, .slice A x3.length c]) (ok := fun k => k ≠ g) (okp := fun k => k ≠ g) ?hr ?hp (fun _ h => h) ?hf B5.out B5.out.size (by simp) ?_; (case hd => rfl); (case hg => rfl); (case hr => first | (go_simp; done) | (go_simp; rfl)); (case hp => exact reps_two rfl rfl (k42_mkM _ _ _ (⟨2, 0, ⟨#[]⟩, []⟩ : S42) (Kd.R_nil _ _ _ _ _)) (k42_mkM _ _ _ (⟨x0, x1, x2, x3⟩ : S42) R5.out)); (case hf => exact fun h => absurd (blk_lt K5.out) (by omega)); intro v6 w6 ho hb hg _; obtain ⟨A6, c6, e6⟩ := Kd.R_slice ho; subst e6; have R6 := Aside0.mk ho; have B6 := Aside0.mk hb; have K6 := Aside0.mk (blk_grown K5.out hg (by simp)); clear ho hb hg K5 R5 B5 y0 y1 y2 y3 yf0 yf1 yf2 yf3; have z0 : w6.cell? ⟨g, 0, none⟩ = some (.int .i64 x0) := (blk_cell K6.out 0).trans rfl; have zf0 := blk_frozen K6.out 0; have z1 : w6.cell? ⟨g, 1, none⟩ = some (.int .i64 x1) := (blk_cell K6.out 1).trans rfl; have zf1 := blk_frozen K6.out 1; have z2 : w6.cell? ⟨g, 2, none⟩ = some (.string x2) := (blk_cell K6.out 2).trans rfl; have zf2 := blk_frozen K6.out 2; have z3 : w6.cell? ⟨g, 3, none⟩ = some (.slice A x3.length c) := (blk_cell K6.out 3).trans rfl; have zf3 := blk_frozen K6.out 3; skip) | ((with_reducible refine gate_ (.store 42 (.tmp 7) (.tmp 55)) rfl ?_); refine st_ev (w1 := ?inbnd_3_f_9) rfl rfl rfl ?hr ?_; (case hr => go_simp; rfl); intro w7 hw_; clear z0 z1 z2 z3 zf0 zf1 zf2 zf3; have K7 : Aside0 (w7.heap[g]? = some (.cells #[.int .i64 3, .int .i64 0, .string ⟨#[]⟩, .slice A6 2 c6] 42 (0, 0))) := ⟨(by rw [hw_]; exact (blk_put (cs := #[.int .i64 3, .int .i64 0, .string ⟨#[]⟩, .slice A x3.length c]) (cs' := #[.int .i64 3, .int .i64 0, .string ⟨#[]⟩, .slice A6 2 c6]) (blk_put (cs := #[.int .i64 3, .int .i64 0, .string x2, .slice A x3.length c]) (cs' := #[.int .i64 3, .int .i64 0, .string ⟨#[]⟩, .slice A x3.length c]) (blk_put (cs := #[.int .i64 3, .int .i64 x1, .string x2, .slice A x3.length c]) (cs' := #[.int .i64 3, .int .i64 0, .string x2, .slice A x3.length c]) (blk_put (cs := #[.int .i64 x0, .int .i64 x1, .string x2, .slice A x3.length c]) (cs' := #[.int .i64 3, .int .i64 x1, .string x2, .slice A x3.length c]) K6.out 0 (.int .i64 3) rfl) 1 (.int .i64 0) rfl) 2 (.string ⟨#[]⟩) rfl) 3 (.slice A6 2 c6) rfl))⟩; have R7 : Aside0 (Kd.R k42 42 w7 w.heap.size (fun k => k ≠ g) (.slice A6 2 c6) [(⟨2, 0, ⟨#[]⟩, []⟩ : S42), ⟨x0, x1, x2, x3⟩]) := ⟨(by rw [hw_]; exact Kd.R_far (p := ⟨g, 3, none⟩) (Kd.R_far (p := ⟨g, 2, none⟩) (Kd.R_far (p := ⟨g, 1, none⟩) (Kd.R_far (p := ⟨g, 0, none⟩) R6.out (fun _ hk => hk) _) (fun _ hk => hk) _) (fun _ hk => hk) _) (fun _ hk => hk) _)⟩; have B7 : Aside0 (Below w.heap.size w w7) := ⟨(by rw [hw_]; exact (below_set (below_set (below_set (below_set B6.out GE.out) GE.out) GE.out) GE.out))⟩; clear hw_ K6 R6 B6))
      refine ⟨⟨i + 1, _, rfl, ⟨HL.out⟩, ⟨by rw [HX.out]; exact K7.out⟩, ⟨by rw [HX.out]; exact R7.out⟩, B7⟩, ?_⟩
      have := HL.out
      simp only [intOf, Int.toNat_natCast]
      omega
    · obtain rfl : i = j := by omega
      obtain ⟨A', c', e', hle, hC⟩ := Kd.R_reads RR.out
      injection e' with e1 _ e3
      subst e1
      subst e3
      have CC := Aside0.mk hC
      have CL := Aside0.mk hle
      generalize wrapF i (⟨1, 0, ⟨#[97, 98, 99, 100, 101, 102, 103, 104, 105, 106, 107, 108, 109, 110, 111, 112, 113, 114, 115, 116]⟩, []⟩ : S42) = x at KR CC CL CK
      obtain ⟨x0, x1, x2, x3⟩ := x
      simp only [] at KR CC CL CK
      clear hC hle hlt hi hj9 RR HI
      go_wp2_with (first | (go_at_call 12; refine (W20.out _).mono ?_; rintro e w5 ⟨rfl, hb⟩; have K5 := Aside0.mk (blk_below KR.out hb); have C5 := Aside0.mk (Kd.C_below CC.out hb); have B5 := Aside0.mk (below_step BR.out hb); clear hb KR CC BR; have y0 : w5.cell? ⟨g, 0, none⟩ = some (.int .i64 x0) := (blk_cell K5.out 0).trans rfl; have yf0 := blk_frozen K5.out 0; have y1 : w5.cell? ⟨g, 1, none⟩ = some (.int .i64 x1) := (blk_cell K5.out 1).trans rfl; have yf1 := blk_frozen K5.out 1; have y2 : w5.cell? ⟨g, 2, none⟩ = some (.string x2) := (blk_cell K5.out 2).trans rfl; have yf2 := blk_frozen K5.out 2; have y3 : w5.cell? ⟨g, 3, none⟩ = some (.slice A x3.length c) := (blk_cell K5.out 3).trans rfl; have yf3 := blk_frozen K5.out 3; skip) | (go_at_call 21; refine (forms_Check.calls kk x0 x1 x2 A c x3 0 _ C5.out CL.out CK.out).mono ?_; rintro e w6 ⟨rfl, hb⟩; have B6 := Aside0.mk (below_step B5.out hb); clear hb))
      go_ret
      exact ⟨by first | rfl | (simp; done) | (simp [*]; done), B6.out⟩
theorem chk_3_t : ∀ d, d ≤ 30 → chk (⟨1, 0, ⟨#[97, 98, 99, 100, 101, 102, 103, 104, 105, 106, 107, 108, 109, 110, 111, 112, 113, 114, 115, 116, 117]⟩, []⟩ : S42) d = 7 := by
  intro d hd
  rw [chk]
  rw [if_neg (fun h => absurd h.2 (by decide +kernel)), if_neg (fun h => absurd h.1 (by decide)), if_neg (by decide)]
set_option maxHeartbeats 8000000 in
set_option maxRecDepth 100000 in
theorem bnd_3_t (a0 a2 : Int) (j : Nat) (hw : thyrsuslaw3_within.f a0 6 = some 3) (hj : thyrsuslaw3_within.f a2 20 = some (j : Int)) (hj9 : j ≤ 19) (w : World) (hT : TabP w) :
    Calls Tryd.prog 9 #[.int .i64 a0, .bool true, .int .i64 a2] w fun e w' => e = .returned (.bool true) ∧ Below w.heap.size w w' := by
  have hu42 := Tryd.underlying42
  have KN := Aside0.mk (thyrsuslaw3_known.calls 3 true w hT (known_k 0))
  have W6 := Aside0.mk (within_b hw)
  have W20 := Aside0.mk (within_b hj)
  obtain ⟨kk, hkk⟩ := check_ok chk_3_t rfl hj9
  have CK := Aside0.mk hkk
  have J9 := Aside0.mk hj9
  clear hw hj hT hkk hj9
  go_enter Tryd.func9, Tryd.ntmps9
  go_wp2_with (first | (go_at_call 10; refine KN.out.mono ?_; rintro e w1 ⟨rfl, hb⟩; have B1 := Aside0.mk hb; clear hb) | ((with_reducible refine gate_dst (N := 7) rfl ?_); refine box_event ?hg (N := 7) ?hd (cs := #[.int .i64 0, .int .i64 0, .string ⟨#[]⟩, .slice none 0 0]) (t := 42) ?hr ?_; (case hd => rfl); (case hg => rfl); (case hr => first | (go_simp; done) | (go_simp; rfl)); intro g hg w2 hbox hb; have K2 := Aside0.mk hbox; have GE : Aside0 (w.heap.size ≤ g) := ⟨(by rw [hg]; exact B1.out.size)⟩; have B2 := Aside0.mk (below_step B1.out hb); clear hbox hb hg B1; have p0 : w2.cell? ⟨g, 0, none⟩ = some (.int .i64 0) := (blk_cell K2.out 0).trans rfl; have pf0 := blk_frozen K2.out 0; have p1 : w2.cell? ⟨g, 1, none⟩ = some (.int .i64 0) := (blk_cell K2.out 1).trans rfl; have pf1 := blk_frozen K2.out 1; have p2 : w2.cell? ⟨g, 2, none⟩ = some (.string ⟨#[]⟩) := (blk_cell K2.out 2).trans rfl; have pf2 := blk_frozen K2.out 2; have p3 : w2.cell? ⟨g, 3, none⟩ = some (.slice none 0 0) := (blk_cell K2.out 3).trans rfl; have pf3 := blk_frozen K2.out 3; skip) | ((with_reducible refine gate_ (.store 42 (.tmp 7) (.tmp 11)) rfl ?_); refine st_ev (w1 := ?inbnd_3_t_0) rfl rfl rfl ?hr ?_; (case hr => go_simp; rfl); intro w10 hw_; clear p0 pf0 p1 pf1 p2 pf2 p3 pf3; have K10 : Aside0 (w10.heap[g]? = some (.cells #[.int .i64 2, .int .i64 (4611686018427387904), .string ⟨#[]⟩, .slice none 0 0] 42 (0, 0))) := ⟨(by rw [hw_]; exact (blk_put (cs := #[.int .i64 2, .int .i64 (4611686018427387904), .string ⟨#[]⟩, .slice none 0 0]) (cs' := #[.int .i64 2, .int .i64 (4611686018427387904), .string ⟨#[]⟩, .slice none 0 0]) (blk_put (cs := #[.int .i64 2, .int .i64 (4611686018427387904), .string ⟨#[]⟩, .slice none 0 0]) (cs' := #[.int .i64 2, .int .i64 (4611686018427387904), .string ⟨#[]⟩, .slice none 0 0]) (blk_put (cs := #[.int .i64 2, .int .i64 0, .string ⟨#[]⟩, .slice none 0 0]) (cs' := #[.int .i64 2, .int .i64 (4611686018427387904), .string ⟨#[]⟩, .slice none 0 0]) (blk_put (cs := #[.int .i64 0, .int .i64 0, .string ⟨#[]⟩, .slice none 0 0]) (cs' := #[.int .i64 2, .int .i64 0, .string ⟨#[]⟩, .slice none 0 0]) K2.out 0 (.int .i64 2) rfl) 1 (.int .i64 (4611686018427387904)) rfl) 2 (.string ⟨#[]⟩) rfl) 3 (.slice none 0 0) rfl))⟩; have B10 : Aside0 (Below w.heap.size w w10) := ⟨(by rw [hw_]; exact (below_set (below_set (below_set (below_set B2.out GE.out) GE.out) GE.out) GE.out))⟩; clear hw_ K2 B2; have q0 : w10.cell? ⟨g, 0, none⟩ = some (.int .i64 2) := (blk_cell K10.out 0).trans rfl; have qf0 := blk_frozen K10.out 0; have q1 : w10.cell? ⟨g, 1, none⟩ = some (.int .i64 (4611686018427387904)) := (blk_cell K10.out 1).trans rfl; have qf1 := blk_frozen K10.out 1; have q2 : w10.cell? ⟨g, 2, none⟩ = some (.string ⟨#[]⟩) := (blk_cell K10.out 2).trans rfl; have qf2 := blk_frozen K10.out 2; have q3 : w10.cell? ⟨g, 3, none⟩ = some (.slice none 0 0) := (blk_cell K10.out 3).trans rfl; have qf3 := blk_frozen K10.out 3; skip) | (go_at_call 12; refine (W6.out _).mono ?_; rintro e w5 ⟨rfl, hb⟩; clear q0 qf0 q1 qf1 q2 qf2 q3 qf3; have K5 := Aside0.mk (blk_below K10.out hb); have B5 := Aside0.mk (below_step B10.out hb); clear hb K10 B10; have u0 : w5.cell? ⟨g, 0, none⟩ = some (.int .i64 2) := (blk_cell K5.out 0).trans rfl; have uf0 := blk_frozen K5.out 0; have u1 : w5.cell? ⟨g, 1, none⟩ = some (.int .i64 (4611686018427387904)) := (blk_cell K5.out 1).trans rfl; have uf1 := blk_frozen K5.out 1; have u2 : w5.cell? ⟨g, 2, none⟩ = some (.string ⟨#[]⟩) := (blk_cell K5.out 2).trans rfl; have uf2 := blk_frozen K5.out 2; have u3 : w5.cell? ⟨g, 3, none⟩ = some (.slice none 0 0) := (blk_cell K5.out 3).trans rfl; have uf3 := blk_frozen K5.out 3; skip) | ((with_reducible refine gate_ (.store 42 (.tmp 7) (.tmp 30)) rfl ?_); refine st_ev (w1 := ?inbnd_3_t_1) rfl rfl rfl ?hr ?_; (case hr => go_simp; rfl); intro w11 hw_; clear u0 uf0 u1 uf1 u2 uf2 u3 uf3; have K11 : Aside0 (w11.heap[g]? = some (.cells #[.int .i64 1, .int .i64 (0), .string ⟨#[97, 98, 99, 100, 101, 102, 103, 104, 105, 106, 107, 108, 109, 110, 111, 112, 113, 114, 115, 116]⟩, .slice none 0 0] 42 (0, 0))) := ⟨(by rw [hw_]; exact (blk_put (cs := #[.int .i64 1, .int .i64 (0), .string ⟨#[97, 98, 99, 100, 101, 102, 103, 104, 105, 106, 107, 108, 109, 110, 111, 112, 113, 114, 115, 116]⟩, .slice none 0 0]) (cs' := #[.int .i64 1, .int .i64 (0), .string ⟨#[97, 98, 99, 100, 101, 102, 103, 104, 105, 106, 107, 108, 109, 110, 111, 112, 113, 114, 115, 116]⟩, .slice none 0 0]) (blk_put (cs := #[.int .i64 1, .int .i64 (0), .string ⟨#[]⟩, .slice none 0 0]) (cs' := #[.int .i64 1, .int .i64 (0), .string ⟨#[97, 98, 99, 100, 101, 102, 103, 104, 105, 106, 107, 108, 109, 110, 111, 112, 113, 114, 115, 116]⟩, .slice none 0 0]) (blk_put (cs := #[.int .i64 1, .int .i64 (4611686018427387904), .string ⟨#[]⟩, .slice none 0 0]) (cs' := #[.int .i64 1, .int .i64 (0), .string ⟨#[]⟩, .slice none 0 0]) (blk_put (cs := #[.int .i64 2, .int .i64 (4611686018427387904), .string ⟨#[]⟩, .slice none 0 0]) (cs' := #[.int .i64 1, .int .i64 (4611686018427387904), .string ⟨#[]⟩, .slice none 0 0]) K5.out 0 (.int .i64 1) rfl) 1 (.int .i64 (0)) rfl) 2 (.string ⟨#[97, 98, 99, 100, 101, 102, 103, 104, 105, 106, 107, 108, 109, 110, 111, 112, 113, 114, 115, 116]⟩) rfl) 3 (.slice none 0 0) rfl))⟩; have B11 : Aside0 (Below w.heap.size w w11) := ⟨(by rw [hw_]; exact (below_set (below_set (below_set (below_set B5.out GE.out) GE.out) GE.out) GE.out))⟩; clear hw_ K5 B5; have r0 : w11.cell? ⟨g, 0, none⟩ = some (.int .i64 1) := (blk_cell K11.out 0).trans rfl; have rf0 := blk_frozen K11.out 0; have r1 : w11.cell? ⟨g, 1, none⟩ = some (.int .i64 (0)) := (blk_cell K11.out 1).trans rfl; have rf1 := blk_frozen K11.out 1; have r2 : w11.cell? ⟨g, 2, none⟩ = some (.string ⟨#[97, 98, 99, 100, 101, 102, 103, 104, 105, 106, 107, 108, 109, 110, 111, 112, 113, 114, 115, 116]⟩) := (blk_cell K11.out 2).trans rfl; have rf2 := blk_frozen K11.out 2; have r3 : w11.cell? ⟨g, 3, none⟩ = some (.slice none 0 0) := (blk_cell K11.out 3).trans rfl; have rf3 := blk_frozen K11.out 3; skip) | ((with_reducible refine gate_ (.store 9 (.tmp 35) (.tmp 34)) rfl ?_); refine st_ev (w1 := ?inbnd_3_t_2) rfl rfl rfl ?hr ?_; (case hr => go_simp; rfl); intro w12 hw_; clear r0 rf0 r1 rf1 r2 rf2 r3 rf3; have K12 : Aside0 (w12.heap[g]? = some (.cells #[.int .i64 1, .int .i64 (0), .string ⟨#[97, 98, 99, 100, 101, 102, 103, 104, 105, 106, 107, 108, 109, 110, 111, 112, 113, 114, 115, 116, 117]⟩, .slice none 0 0] 42 (0, 0))) := ⟨(by rw [hw_]; exact (blk_put (cs := #[.int .i64 1, .int .i64 (0), .string ⟨#[97, 98, 99, 100, 101, 102, 103, 104, 105, 106, 107, 108, 109, 110, 111, 112, 113, 114, 115, 116]⟩, .slice none 0 0]) (cs' := #[.int .i64 1, .int .i64 (0), .string ⟨#[97, 98, 99, 100, 101, 102, 103, 104, 105, 106, 107, 108, 109, 110, 111, 112, 113, 114, 115, 116, 117]⟩, .slice none 0 0]) K11.out 2 (.string ⟨#[97, 98, 99, 100, 101, 102, 103, 104, 105, 106, 107, 108, 109, 110, 111, 112, 113, 114, 115, 116, 117]⟩) rfl))⟩; have B12 : Aside0 (Below w.heap.size w w12) := ⟨(by rw [hw_]; exact (below_set B11.out GE.out))⟩; clear hw_ K11 B11; have s0 : w12.cell? ⟨g, 0, none⟩ = some (.int .i64 1) := (blk_cell K12.out 0).trans rfl; have sf0 := blk_frozen K12.out 0; have s1 : w12.cell? ⟨g, 1, none⟩ = some (.int .i64 (0)) := (blk_cell K12.out 1).trans rfl; have sf1 := blk_frozen K12.out 1; have s2 : w12.cell? ⟨g, 2, none⟩ = some (.string ⟨#[97, 98, 99, 100, 101, 102, 103, 104, 105, 106, 107, 108, 109, 110, 111, 112, 113, 114, 115, 116, 117]⟩) := (blk_cell K12.out 2).trans rfl; have sf2 := blk_frozen K12.out 2; have s3 : w12.cell? ⟨g, 3, none⟩ = some (.slice none 0 0) := (blk_cell K12.out 3).trans rfl; have sf3 := blk_frozen K12.out 3; skip))
  skip
  go_loopw [8] (fun v8 w' => ∃ (i : Nat) (v : Value), v8 = .int .i64 i ∧ Aside0 (i ≤ j) ∧ Aside0 (w'.heap[g]? = some (.cells #[.int .i64 (wrapF i (⟨1, 0, ⟨#[97, 98, 99, 100, 101, 102, 103, 104, 105, 106, 107, 108, 109, 110, 111, 112, 113, 114, 115, 116, 117]⟩, []⟩ : S42)).f0, .int .i64 (wrapF i (⟨1, 0, ⟨#[97, 98, 99, 100, 101, 102, 103, 104, 105, 106, 107, 108, 109, 110, 111, 112, 113, 114, 115, 116, 117]⟩, []⟩ : S42)).f1, .string (wrapF i (⟨1, 0, ⟨#[97, 98, 99, 100, 101, 102, 103, 104, 105, 106, 107, 108, 109, 110, 111, 112, 113, 114, 115, 116, 117]⟩, []⟩ : S42)).f2, v] 42 (0, 0))) ∧ Aside0 (Kd.R k42 42 w' w.heap.size (fun k => k ≠ g) v (wrapF i (⟨1, 0, ⟨#[97, 98, 99, 100, 101, 102, 103, 104, 105, 106, 107, 108, 109, 110, 111, 112, 113, 114, 115, 116, 117]⟩, []⟩ : S42)).f3) ∧ Aside0 (Below w.heap.size w w')) (fun v8 _ => j - (intOf v8).toNat)
  case atStart => exact ⟨0, .slice none 0 0, rfl, ⟨Nat.zero_le _⟩, ⟨K12.out⟩, ⟨Kd.R_nil _ _ _ _ _⟩, B12⟩
  case round =>
    obtain ⟨i, v, rfl, HI, KR, RR, BR⟩ := hrel
    clear s0 sf0 s1 sf1 s2 sf2 s3 sf3 K12 B12
    have hi := HI.out
    have hj9 := J9.out
    have V1 := Aside0.mk (show wrap64 ((i : Int) + 1) = ((i + 1 : Nat) : Int) by unfold wrap64; omega)
    obtain ⟨A, c, e⟩ := Kd.R_slice RR.out
    subst e
    by_cases hlt : i < j
    · have HL := Aside0.mk hlt
      have c1 : ((i : Int) < (j : Int)) = True := eq_true (by omega)
      have c2 : (i < j) = True := eq_true hlt
      have c3 : decide ((i : Int) < (j : Int)) = true := decide_eq_true (by omega)
      have HX : Aside0 (wrapF (i + 1) (⟨1, 0, ⟨#[97, 98, 99, 100, 101, 102, 103, 104, 105, 106, 107, 108, 109, 110, 111, 112, 113, 114, 115, 116, 117]⟩, []⟩ : S42) = ⟨3, 0, ⟨#[]⟩, [⟨2, 0, ⟨#[]⟩, []⟩, wrapF i (⟨1, 0, ⟨#[97, 98, 99, 100, 101, 102, 103, 104, 105, 106, 107, 108, 109, 110, 111, 112, 113, 114, 115, 116, 117]⟩, []⟩ : S42)]⟩) := ⟨rfl⟩
      generalize wrapF i (⟨1, 0, ⟨#[97, 98, 99, 100, 101, 102, 103, 104, 105, 106, 107, 108, 109, 110, 111, 112, 113, 114, 115, 116, 117]⟩, []⟩ : S42) = x at KR RR HX
      obtain ⟨x0, x1, x2, x3⟩ := x
      simp only [] at KR RR
      clear hlt hi hj9
      go_wp2_with (first | (rw [V1.out]) | (go_at_call 12; refine (W20.out _).mono ?_; rintro e w5 ⟨rfl, hb⟩; have K5 := Aside0.mk (blk_below KR.out hb); have R5 := Aside0.mk (Kd.R_below RR.out hb); have B5 := Aside0.mk (below_step BR.out hb); clear hb KR RR BR; have y0 : w5.cell? ⟨g, 0, none⟩ = some (.int .i64 x0) := (blk_cell K5.out 0).trans rfl; have yf0 := blk_frozen K5.out 0; have y1 : w5.cell? ⟨g, 1, none⟩ = some (.int .i64 x1) := (blk_cell K5.out 1).trans rfl; have yf1 := blk_frozen K5.out 1; have y2 : w5.cell? ⟨g, 2, none⟩ = some (.string x2) := (blk_cell K5.out 2).trans rfl; have yf2 := blk_frozen K5.out 2; have y3 : w5.cell? ⟨g, 3, none⟩ = some (.slice A x3.length c) := (blk_cell K5.out 3).trans rfl; have yf3 := blk_frozen K5.out 3; skip) | ((with_reducible refine gate_dst (N := 54) rfl ?_); refine Kd.R_lit k42 (w0 := w) w.heap.size 42 ?hg (N := 54) ?hd (xs := [(⟨2, 0, ⟨#[]⟩, []⟩ : S42), ⟨x0, x1, x2, x3⟩]) (inner := [.int .i64 2, .int .i64 0, .string ⟨#[]⟩, .slice none 0 0] ++ [.int .i64 x0, .int .i64 x1, .string x2, .slice A x3.length c]) (ok := fun k => k ≠ g) (okp := fun k => k ≠ g) ?hr ?hp (fun _ h => h) ?hf B5.out B5.out.size (by simp) ?_; (case hd => rfl); (case hg => rfl); (case hr => first | (go_simp; done) | (go_simp; rfl)); (case hp => exact reps_two rfl rfl (k42_mkM _ _ _ (⟨2, 0, ⟨#[]⟩, []⟩ : S42) (Kd.R_nil _ _ _ _ _)) (k42_mkM _ _ _ (⟨x0, x1, x2, x3⟩ : S42) R5.out)); (case hf => exact fun h => absurd (blk_lt K5.out) (by omega)); intro v6 w6 ho hb hg _; obtain ⟨A6, c6, e6⟩ := Kd.R_slice ho; subst e6; have R6 := Aside0.mk ho; have B6 := Aside0.mk hb; have K6 := Aside0.mk (blk_grown K5.out hg (by simp)); clear ho hb hg K5 R5 B5 y0 y1 y2 y3 yf0 yf1 yf2 yf3; have z0 : w6.cell? ⟨g, 0, none⟩ = some (.int .i64 x0) := (blk_cell K6.out 0).trans rfl; have zf0 := blk_frozen K6.out 0; have z1 : w6.cell? ⟨g, 1, none⟩ = some (.int .i64 x1) := (blk_cell K6.out 1).trans rfl; have zf1 := blk_frozen K6.out 1; have z2 : w6.cell? ⟨g, 2, none⟩ = some (.string x2) := (blk_cell K6.out 2).trans rfl; have zf2 := blk_frozen K6.out 2; have z3 : w6.cell? ⟨g, 3, none⟩ = some (.slice A x3.length c) := (blk_cell K6.out 3).trans rfl; have zf3 := blk_frozen K6.out 3; skip) | ((with_reducible refine gate_ (.store 42 (.tmp 7) (.tmp 55)) rfl ?_); refine st_ev (w1 := ?inbnd_3_t_9) rfl rfl rfl ?hr ?_; (case hr => go_simp; rfl); intro w7 hw_; clear z0 z1 z2 z3 zf0 zf1 zf2 zf3; have K7 : Aside0 (w7.heap[g]? = some (.cells #[.int .i64 3, .int .i64 0, .string ⟨#[]⟩, .slice A6 2 c6] 42 (0, 0))) := ⟨(by rw [hw_]; exact (blk_put (cs := #[.int .i64 3, .int .i64 0, .string ⟨#[]⟩, .slice A x3.length c]) (cs' := #[.int .i64 3, .int .i64 0, .string ⟨#[]⟩, .slice A6 2 c6]) (blk_put (cs := #[.int .i64 3, .int .i64 0, .string x2, .slice A x3.length c]) (cs' := #[.int .i64 3, .int .i64 0, .string ⟨#[]⟩, .slice A x3.length c]) (blk_put (cs := #[.int .i64 3, .int .i64 x1, .string x2, .slice A x3.length c]) (cs' := #[.int .i64 3, .int .i64 0, .string x2, .slice A x3.length c]) (blk_put (cs := #[.int .i64 x0, .int .i64 x1, .string x2, .slice A x3.length c]) (cs' := #[.int .i64 3, .int .i64 x1, .string x2, .slice A x3.length c]) K6.out 0 (.int .i64 3) rfl) 1 (.int .i64 0) rfl) 2 (.string ⟨#[]⟩) rfl) 3 (.slice A6 2 c6) rfl))⟩; have R7 : Aside0 (Kd.R k42 42 w7 w.heap.size (fun k => k ≠ g) (.slice A6 2 c6) [(⟨2, 0, ⟨#[]⟩, []⟩ : S42), ⟨x0, x1, x2, x3⟩]) := ⟨(by rw [hw_]; exact Kd.R_far (p := ⟨g, 3, none⟩) (Kd.R_far (p := ⟨g, 2, none⟩) (Kd.R_far (p := ⟨g, 1, none⟩) (Kd.R_far (p := ⟨g, 0, none⟩) R6.out (fun _ hk => hk) _) (fun _ hk => hk) _) (fun _ hk => hk) _) (fun _ hk => hk) _)⟩; have B7 : Aside0 (Below w.heap.size w w7) := ⟨(by rw [hw_]; exact (below_set (below_set (below_set (below_set B6.out GE.out) GE.out) GE.out) GE.out))⟩; clear hw_ K6 R6 B6))
      refine ⟨⟨i + 1, _, rfl, ⟨HL.out⟩, ⟨by rw [HX.out]; exact K7.out⟩, ⟨by rw [HX.out]; exact R7.out⟩, B7⟩, ?_⟩
      have := HL.out
      simp only [intOf, Int.toNat_natCast]
      omega
    · obtain rfl : i = j := by omega
      obtain ⟨A', c', e', hle, hC⟩ := Kd.R_reads RR.out
      injection e' with e1 _ e3
      subst e1
      subst e3
      have CC := Aside0.mk hC
      have CL := Aside0.mk hle
      generalize wrapF i (⟨1, 0, ⟨#[97, 98, 99, 100, 101, 102, 103, 104, 105, 106, 107, 108, 109, 110, 111, 112, 113, 114, 115, 116, 117]⟩, []⟩ : S42) = x at KR CC CL CK
      obtain ⟨x0, x1, x2, x3⟩ := x
      simp only [] at KR CC CL CK
      clear hC hle hlt hi hj9 RR HI
      go_wp2_with (first | (go_at_call 12; refine (W20.out _).mono ?_; rintro e w5 ⟨rfl, hb⟩; have K5 := Aside0.mk (blk_below KR.out hb); have C5 := Aside0.mk (Kd.C_below CC.out hb); have B5 := Aside0.mk (below_step BR.out hb); clear hb KR CC BR; have y0 : w5.cell? ⟨g, 0, none⟩ = some (.int .i64 x0) := (blk_cell K5.out 0).trans rfl; have yf0 := blk_frozen K5.out 0; have y1 : w5.cell? ⟨g, 1, none⟩ = some (.int .i64 x1) := (blk_cell K5.out 1).trans rfl; have yf1 := blk_frozen K5.out 1; have y2 : w5.cell? ⟨g, 2, none⟩ = some (.string x2) := (blk_cell K5.out 2).trans rfl; have yf2 := blk_frozen K5.out 2; have y3 : w5.cell? ⟨g, 3, none⟩ = some (.slice A x3.length c) := (blk_cell K5.out 3).trans rfl; have yf3 := blk_frozen K5.out 3; skip) | (go_at_call 21; refine (forms_Check.calls kk x0 x1 x2 A c x3 7 _ C5.out CL.out CK.out).mono ?_; rintro e w6 ⟨rfl, hb⟩; have B6 := Aside0.mk (below_step B5.out hb); clear hb))
      go_ret
      exact ⟨by first | rfl | (simp; done) | (simp [*]; done), B6.out⟩
theorem chk_4_f : ∀ d, d ≤ 30 → chk (⟨1, 0, ⟨#[120, 57]⟩, []⟩ : S42) d = 0 := by
  intro d hd
  rw [chk]
  rw [if_pos ⟨rfl, by decide +kernel⟩]
set_option maxHeartbeats 8000000 in
set_option maxRecDepth 100000 in
theorem bnd_4_f (a0 a2 : Int) (j : Nat) (hw : thyrsuslaw3_within.f a0 6 = some 4) (hj : thyrsuslaw3_within.f a2 20 = some (j : Int)) (hj9 : j ≤ 19) (w : World) (hT : TabP w) :
    Calls Tryd.prog 9 #[.int .i64 a0, .bool false, .int .i64 a2] w fun e w' => e = .returned (.bool true) ∧ Below w.heap.size w w' := by
  have hu42 := Tryd.underlying42
  have KN := Aside0.mk (thyrsuslaw3_known.calls 3 true w hT (known_k 0))
  have W6 := Aside0.mk (within_b hw)
  have W20 := Aside0.mk (within_b hj)
  obtain ⟨kk, hkk⟩ := check_ok chk_4_f rfl hj9
  have CK := Aside0.mk hkk
  have J9 := Aside0.mk hj9
  clear hw hj hT hkk hj9
  go_enter Tryd.func9, Tryd.ntmps9
  go_wp2_with (first | (go_at_call 10; refine KN.out.mono ?_; rintro e w1 ⟨rfl, hb⟩; have B1 := Aside0.mk hb; clear hb) | ((with_reducible refine gate_dst (N := 7) rfl ?_); refine box_event ?hg (N := 7) ?hd (cs := #[.int .i64 0, .int .i64 0, .string ⟨#[]⟩, .slice none 0 0]) (t := 42) ?hr ?_; (case hd => rfl); (case hg => rfl); (case hr => first | (go_simp; done) | (go_simp; rfl)); intro g hg w2 hbox hb; have K2 := Aside0.mk hbox; have GE : Aside0 (w.heap.size ≤ g) := ⟨(by rw [hg]; exact B1.out.size)⟩; have B2 := Aside0.mk (below_step B1.out hb); clear hbox hb hg B1; have p0 : w2.cell? ⟨g, 0, none⟩ = some (.int .i64 0) := (blk_cell K2.out 0).trans rfl; have pf0 := blk_frozen K2.out 0; have p1 : w2.cell? ⟨g, 1, none⟩ = some (.int .i64 0) := (blk_cell K2.out 1).trans rfl; have pf1 := blk_frozen K2.out 1; have p2 : w2.cell? ⟨g, 2, none⟩ = some (.string ⟨#[]⟩) := (blk_cell K2.out 2).trans rfl; have pf2 := blk_frozen K2.out 2; have p3 : w2.cell? ⟨g, 3, none⟩ = some (.slice none 0 0) := (blk_cell K2.out 3).trans rfl; have pf3 := blk_frozen K2.out 3; skip) | ((with_reducible refine gate_ (.store 42 (.tmp 7) (.tmp 11)) rfl ?_); refine st_ev (w1 := ?inbnd_4_f_0) rfl rfl rfl ?hr ?_; (case hr => go_simp; rfl); intro w10 hw_; clear p0 pf0 p1 pf1 p2 pf2 p3 pf3; have K10 : Aside0 (w10.heap[g]? = some (.cells #[.int .i64 2, .int .i64 (4611686018427387904), .string ⟨#[]⟩, .slice none 0 0] 42 (0, 0))) := ⟨(by rw [hw_]; exact (blk_put (cs := #[.int .i64 2, .int .i64 (4611686018427387904), .string ⟨#[]⟩, .slice none 0 0]) (cs' := #[.int .i64 2, .int .i64 (4611686018427387904), .string ⟨#[]⟩, .slice none 0 0]) (blk_put (cs := #[.int .i64 2, .int .i64 (4611686018427387904), .string ⟨#[]⟩, .slice none 0 0]) (cs' := #[.int .i64 2, .int .i64 (4611686018427387904), .string ⟨#[]⟩, .slice none 0 0]) (blk_put (cs := #[.int .i64 2, .int .i64 0, .string ⟨#[]⟩, .slice none 0 0]) (cs' := #[.int .i64 2, .int .i64 (4611686018427387904), .string ⟨#[]⟩, .slice none 0 0]) (blk_put (cs := #[.int .i64 0, .int .i64 0, .string ⟨#[]⟩, .slice none 0 0]) (cs' := #[.int .i64 2, .int .i64 0, .string ⟨#[]⟩, .slice none 0 0]) K2.out 0 (.int .i64 2) rfl) 1 (.int .i64 (4611686018427387904)) rfl) 2 (.string ⟨#[]⟩) rfl) 3 (.slice none 0 0) rfl))⟩; have B10 : Aside0 (Below w.heap.size w w10) := ⟨(by rw [hw_]; exact (below_set (below_set (below_set (below_set B2.out GE.out) GE.out) GE.out) GE.out))⟩; clear hw_ K2 B2; have q0 : w10.cell? ⟨g, 0, none⟩ = some (.int .i64 2) := (blk_cell K10.out 0).trans rfl; have qf0 := blk_frozen K10.out 0; have q1 : w10.cell? ⟨g, 1, none⟩ = some (.int .i64 (4611686018427387904)) := (blk_cell K10.out 1).trans rfl; have qf1 := blk_frozen K10.out 1; have q2 : w10.cell? ⟨g, 2, none⟩ = some (.string ⟨#[]⟩) := (blk_cell K10.out 2).trans rfl; have qf2 := blk_frozen K10.out 2; have q3 : w10.cell? ⟨g, 3, none⟩ = some (.slice none 0 0) := (blk_cell K10.out 3).trans rfl; have qf3 := blk_frozen K10.out 3; skip) | (go_at_call 12; refine (W6.out _).mono ?_; rintro e w5 ⟨rfl, hb⟩; clear q0 qf0 q1 qf1 q2 qf2 q3 qf3; have K5 := Aside0.mk (blk_below K10.out hb); have B5 := Aside0.mk (below_step B10.out hb); clear hb K10 B10; have u0 : w5.cell? ⟨g, 0, none⟩ = some (.int .i64 2) := (blk_cell K5.out 0).trans rfl; have uf0 := blk_frozen K5.out 0; have u1 : w5.cell? ⟨g, 1, none⟩ = some (.int .i64 (4611686018427387904)) := (blk_cell K5.out 1).trans rfl; have uf1 := blk_frozen K5.out 1; have u2 : w5.cell? ⟨g, 2, none⟩ = some (.string ⟨#[]⟩) := (blk_cell K5.out 2).trans rfl; have uf2 := blk_frozen K5.out 2; have u3 : w5.cell? ⟨g, 3, none⟩ = some (.slice none 0 0) := (blk_cell K5.out 3).trans rfl; have uf3 := blk_frozen K5.out 3; skip) | ((with_reducible refine gate_ (.store 42 (.tmp 7) (.tmp 38)) rfl ?_); refine st_ev (w1 := ?inbnd_4_f_1) rfl rfl rfl ?hr ?_; (case hr => go_simp; rfl); intro w11 hw_; clear u0 uf0 u1 uf1 u2 uf2 u3 uf3; have K11 : Aside0 (w11.heap[g]? = some (.cells #[.int .i64 1, .int .i64 (0), .string ⟨#[120, 57]⟩, .slice none 0 0] 42 (0, 0))) := ⟨(by rw [hw_]; exact (blk_put (cs := #[.int .i64 1, .int .i64 (0), .string ⟨#[120, 57]⟩, .slice none 0 0]) (cs' := #[.int .i64 1, .int .i64 (0), .string ⟨#[120, 57]⟩, .slice none 0 0]) (blk_put (cs := #[.int .i64 1, .int .i64 (0), .string ⟨#[]⟩, .slice none 0 0]) (cs' := #[.int .i64 1, .int .i64 (0), .string ⟨#[120, 57]⟩, .slice none 0 0]) (blk_put (cs := #[.int .i64 1, .int .i64 (4611686018427387904), .string ⟨#[]⟩, .slice none 0 0]) (cs' := #[.int .i64 1, .int .i64 (0), .string ⟨#[]⟩, .slice none 0 0]) (blk_put (cs := #[.int .i64 2, .int .i64 (4611686018427387904), .string ⟨#[]⟩, .slice none 0 0]) (cs' := #[.int .i64 1, .int .i64 (4611686018427387904), .string ⟨#[]⟩, .slice none 0 0]) K5.out 0 (.int .i64 1) rfl) 1 (.int .i64 (0)) rfl) 2 (.string ⟨#[120, 57]⟩) rfl) 3 (.slice none 0 0) rfl))⟩; have B11 : Aside0 (Below w.heap.size w w11) := ⟨(by rw [hw_]; exact (below_set (below_set (below_set (below_set B5.out GE.out) GE.out) GE.out) GE.out))⟩; clear hw_ K5 B5; have r0 : w11.cell? ⟨g, 0, none⟩ = some (.int .i64 1) := (blk_cell K11.out 0).trans rfl; have rf0 := blk_frozen K11.out 0; have r1 : w11.cell? ⟨g, 1, none⟩ = some (.int .i64 (0)) := (blk_cell K11.out 1).trans rfl; have rf1 := blk_frozen K11.out 1; have r2 : w11.cell? ⟨g, 2, none⟩ = some (.string ⟨#[120, 57]⟩) := (blk_cell K11.out 2).trans rfl; have rf2 := blk_frozen K11.out 2; have r3 : w11.cell? ⟨g, 3, none⟩ = some (.slice none 0 0) := (blk_cell K11.out 3).trans rfl; have rf3 := blk_frozen K11.out 3; skip))
  skip
  go_loopw [8] (fun v8 w' => ∃ (i : Nat) (v : Value), v8 = .int .i64 i ∧ Aside0 (i ≤ j) ∧ Aside0 (w'.heap[g]? = some (.cells #[.int .i64 (wrapF i (⟨1, 0, ⟨#[120, 57]⟩, []⟩ : S42)).f0, .int .i64 (wrapF i (⟨1, 0, ⟨#[120, 57]⟩, []⟩ : S42)).f1, .string (wrapF i (⟨1, 0, ⟨#[120, 57]⟩, []⟩ : S42)).f2, v] 42 (0, 0))) ∧ Aside0 (Kd.R k42 42 w' w.heap.size (fun k => k ≠ g) v (wrapF i (⟨1, 0, ⟨#[120, 57]⟩, []⟩ : S42)).f3) ∧ Aside0 (Below w.heap.size w w')) (fun v8 _ => j - (intOf v8).toNat)
  case atStart => exact ⟨0, .slice none 0 0, rfl, ⟨Nat.zero_le _⟩, ⟨K11.out⟩, ⟨Kd.R_nil _ _ _ _ _⟩, B11⟩
  case round =>
    obtain ⟨i, v, rfl, HI, KR, RR, BR⟩ := hrel
    clear r0 rf0 r1 rf1 r2 rf2 r3 rf3 K11 B11
    have hi := HI.out
    have hj9 := J9.out
    have V1 := Aside0.mk (show wrap64 ((i : Int) + 1) = ((i + 1 : Nat) : Int) by unfold wrap64; omega)
    obtain ⟨A, c, e⟩ := Kd.R_slice RR.out
    subst e
    by_cases hlt : i < j
    · have HL := Aside0.mk hlt
      have c1 : ((i : Int) < (j : Int)) = True := eq_true (by omega)
      have c2 : (i < j) = True := eq_true hlt
      have c3 : decide ((i : Int) < (j : Int)) = true := decide_eq_true (by omega)
      have HX : Aside0 (wrapF (i + 1) (⟨1, 0, ⟨#[120, 57]⟩, []⟩ : S42) = ⟨3, 0, ⟨#[]⟩, [⟨2, 0, ⟨#[]⟩, []⟩, wrapF i (⟨1, 0, ⟨#[120, 57]⟩, []⟩ : S42)]⟩) := ⟨rfl⟩
      generalize wrapF i (⟨1, 0, ⟨#[120, 57]⟩, []⟩ : S42) = x at KR RR HX
      obtain ⟨x0, x1, x2, x3⟩ := x
      simp only [] at KR RR
      clear hlt hi hj9
      go_wp2_with (first | (rw [V1.out]) | (go_at_call 12; refine (W20.out _).mono ?_; rintro e w5 ⟨rfl, hb⟩; have K5 := Aside0.mk (blk_below KR.out hb); have R5 := Aside0.mk (Kd.R_below RR.out hb); have B5 := Aside0.mk (below_step BR.out hb); clear hb KR RR BR; have y0 : w5.cell? ⟨g, 0, none⟩ = some (.int .i64 x0) := (blk_cell K5.out 0).trans rfl; have yf0 := blk_frozen K5.out 0; have y1 : w5.cell? ⟨g, 1, none⟩ = some (.int .i64 x1) := (blk_cell K5.out 1).trans rfl; have yf1 := blk_frozen K5.out 1; have y2 : w5.cell? ⟨g, 2, none⟩ = some (.string x2) := (blk_cell K5.out 2).trans rfl; have yf2 := blk_frozen K5.out 2; have y3 : w5.cell? ⟨g, 3, none⟩ = some (.slice A x3.length c) := (blk_cell K5.out 3).trans rfl; have yf3 := blk_frozen K5.out 3; skip) | ((with_reducible refine gate_dst (N := 54) rfl ?_); refine Kd.R_lit k42 (w0 := w) w.heap.size 42 ?hg (N := 54) ?hd (xs := [(⟨2, 0, ⟨#[]⟩, []⟩ : S42), ⟨x0, x1, x2, x3⟩]) (inner := [.int .i64 2, .int .i64 0, .string ⟨#[]⟩, .slice none 0 0] ++ [.int .i64 x0, .int .i64 x1, .string x2, .slice A x3.length c]) (ok := fun k => k ≠ g) (okp := fun k => k ≠ g) ?hr ?hp (fun _ h => h) ?hf B5.out B5.out.size (by simp) ?_; (case hd => rfl); (case hg => rfl); (case hr => first | (go_simp; done) | (go_simp; rfl)); (case hp => exact reps_two rfl rfl (k42_mkM _ _ _ (⟨2, 0, ⟨#[]⟩, []⟩ : S42) (Kd.R_nil _ _ _ _ _)) (k42_mkM _ _ _ (⟨x0, x1, x2, x3⟩ : S42) R5.out)); (case hf => exact fun h => absurd (blk_lt K5.out) (by omega)); intro v6 w6 ho hb hg _; obtain ⟨A6, c6, e6⟩ := Kd.R_slice ho; subst e6; have R6 := Aside0.mk ho; have B6 := Aside0.mk hb; have K6 := Aside0.mk (blk_grown K5.out hg (by simp)); clear ho hb hg K5 R5 B5 y0 y1 y2 y3 yf0 yf1 yf2 yf3; have z0 : w6.cell? ⟨g, 0, none⟩ = some (.int .i64 x0) := (blk_cell K6.out 0).trans rfl; have zf0 := blk_frozen K6.out 0; have z1 : w6.cell? ⟨g, 1, none⟩ = some (.int .i64 x1) := (blk_cell K6.out 1).trans rfl; have zf1 := blk_frozen K6.out 1; have z2 : w6.cell? ⟨g, 2, none⟩ = some (.string x2) := (blk_cell K6.out 2).trans rfl; have zf2 := blk_frozen K6.out 2; have z3 : w6.cell? ⟨g, 3, none⟩ = some (.slice A x3.length c) := (blk_cell K6.out 3).trans rfl; have zf3 := blk_frozen K6.out 3; skip) | ((with_reducible refine gate_ (.store 42 (.tmp 7) (.tmp 55)) rfl ?_); refine st_ev (w1 := ?inbnd_4_f_9) rfl rfl rfl ?hr ?_; (case hr => go_simp; rfl); intro w7 hw_; clear z0 z1 z2 z3 zf0 zf1 zf2 zf3; have K7 : Aside0 (w7.heap[g]? = some (.cells #[.int .i64 3, .int .i64 0, .string ⟨#[]⟩, .slice A6 2 c6] 42 (0, 0))) := ⟨(by rw [hw_]; exact (blk_put (cs := #[.int .i64 3, .int .i64 0, .string ⟨#[]⟩, .slice A x3.length c]) (cs' := #[.int .i64 3, .int .i64 0, .string ⟨#[]⟩, .slice A6 2 c6]) (blk_put (cs := #[.int .i64 3, .int .i64 0, .string x2, .slice A x3.length c]) (cs' := #[.int .i64 3, .int .i64 0, .string ⟨#[]⟩, .slice A x3.length c]) (blk_put (cs := #[.int .i64 3, .int .i64 x1, .string x2, .slice A x3.length c]) (cs' := #[.int .i64 3, .int .i64 0, .string x2, .slice A x3.length c]) (blk_put (cs := #[.int .i64 x0, .int .i64 x1, .string x2, .slice A x3.length c]) (cs' := #[.int .i64 3, .int .i64 x1, .string x2, .slice A x3.length c]) K6.out 0 (.int .i64 3) rfl) 1 (.int .i64 0) rfl) 2 (.string ⟨#[]⟩) rfl) 3 (.slice A6 2 c6) rfl))⟩; have R7 : Aside0 (Kd.R k42 42 w7 w.heap.size (fun k => k ≠ g) (.slice A6 2 c6) [(⟨2, 0, ⟨#[]⟩, []⟩ : S42), ⟨x0, x1, x2, x3⟩]) := ⟨(by rw [hw_]; exact Kd.R_far (p := ⟨g, 3, none⟩) (Kd.R_far (p := ⟨g, 2, none⟩) (Kd.R_far (p := ⟨g, 1, none⟩) (Kd.R_far (p := ⟨g, 0, none⟩) R6.out (fun _ hk => hk) _) (fun _ hk => hk) _) (fun _ hk => hk) _) (fun _ hk => hk) _)⟩; have B7 : Aside0 (Below w.heap.size w w7) := ⟨(by rw [hw_]; exact (below_set (below_set (below_set (below_set B6.out GE.out) GE.out) GE.out) GE.out))⟩; clear hw_ K6 R6 B6))
      refine ⟨⟨i + 1, _, rfl, ⟨HL.out⟩, ⟨by rw [HX.out]; exact K7.out⟩, ⟨by rw [HX.out]; exact R7.out⟩, B7⟩, ?_⟩
      have := HL.out
      simp only [intOf, Int.toNat_natCast]
      omega
    · obtain rfl : i = j := by omega
      obtain ⟨A', c', e', hle, hC⟩ := Kd.R_reads RR.out
      injection e' with e1 _ e3
      subst e1
      subst e3
      have CC := Aside0.mk hC
      have CL := Aside0.mk hle
      generalize wrapF i (⟨1, 0, ⟨#[120, 57]⟩, []⟩ : S42) = x at KR CC CL CK
      obtain ⟨x0, x1, x2, x3⟩ := x
      simp only [] at KR CC CL CK
      clear hC hle hlt hi hj9 RR HI
      go_wp2_with (first | (go_at_call 12; refine (W20.out _).mono ?_; rintro e w5 ⟨rfl, hb⟩; have K5 := Aside0.mk (blk_below KR.out hb); have C5 := Aside0.mk (Kd.C_below CC.out hb); have B5 := Aside0.mk (below_step BR.out hb); clear hb KR CC BR; have y0 : w5.cell? ⟨g, 0, none⟩ = some (.int .i64 x0) := (blk_cell K5.out 0).trans rfl; have yf0 := blk_frozen K5.out 0; have y1 : w5.cell? ⟨g, 1, none⟩ = some (.int .i64 x1) := (blk_cell K5.out 1).trans rfl; have yf1 := blk_frozen K5.out 1; have y2 : w5.cell? ⟨g, 2, none⟩ = some (.string x2) := (blk_cell K5.out 2).trans rfl; have yf2 := blk_frozen K5.out 2; have y3 : w5.cell? ⟨g, 3, none⟩ = some (.slice A x3.length c) := (blk_cell K5.out 3).trans rfl; have yf3 := blk_frozen K5.out 3; skip) | (go_at_call 21; refine (forms_Check.calls kk x0 x1 x2 A c x3 0 _ C5.out CL.out CK.out).mono ?_; rintro e w6 ⟨rfl, hb⟩; have B6 := Aside0.mk (below_step B5.out hb); clear hb))
      go_ret
      exact ⟨by first | rfl | (simp; done) | (simp [*]; done), B6.out⟩
theorem chk_4_t : ∀ d, d ≤ 30 → chk (⟨1, 0, ⟨#[57, 120]⟩, []⟩ : S42) d = 7 := by
  intro d hd
  rw [chk]
  rw [if_neg (fun h => absurd h.2 (by decide +kernel)), if_neg (fun h => absurd h.1 (by decide)), if_neg (by decide)]
set_option maxHeartbeats 8000000 in
set_option maxRecDepth 100000 in
theorem bnd_4_t (a0 a2 : Int) (j : Nat) (hw : thyrsuslaw3_within.f a0 6 = some 4) (hj : thyrsuslaw3_within.f a2 20 = some (j : Int)) (hj9 : j ≤ 19) (w : World) (hT : TabP w) :
    Calls Tryd.prog 9 #[.int .i64 a0, .bool true, .int .i64 a2] w fun e w' => e = .returned (.bool true) ∧ Below w.heap.size w w' := by
  have hu42 := Tryd.underlying42
  have KN := Aside0.mk (thyrsuslaw3_known.calls 3 true w hT (known_k 0))
  have W6 := Aside0.mk (within_b hw)
  have W20 := Aside0.mk (within_b hj)
  obtain ⟨kk, hkk⟩ := check_ok chk_4_t rfl hj9
  have CK := Aside0.mk hkk
  have J9 := Aside0.mk hj9
  clear hw hj hT hkk hj9
  go_enter Tryd.func9, Tryd.ntmps9
  go_wp2_with (first | (go_at_call 10; refine KN.out.mono ?_; rintro e w1 ⟨rfl, hb⟩; have B1 := Aside0.mk hb; clear hb) | ((with_reducible refine gate_dst (N := 7) rfl ?_); refine box_event ?hg (N := 7) ?hd (cs := #[.int .i64 0, .int .i64 0, .string ⟨#[]⟩, .slice none 0 0]) (t := 42) ?hr ?_; (case hd => rfl); (case hg => rfl); (case hr => first | (go_simp; done) | (go_simp; rfl)); intro g hg w2 hbox hb; have K2 := Aside0.mk hbox; have GE : Aside0 (w.heap.size ≤ g) := ⟨(by rw [hg]; exact B1.out.size)⟩; have B2 := Aside0.mk (below_step B1.out hb); clear hbox hb hg B1; have p0 : w2.cell? ⟨g, 0, none⟩ = some (.int .i64 0) := (blk_cell K2.out 0).trans rfl; have pf0 := blk_frozen K2.out 0; have p1 : w2.cell? ⟨g, 1, none⟩ = some (.int .i64 0) := (blk_cell K2.out 1).trans rfl; have pf1 := blk_frozen K2.out 1; have p2 : w2.cell? ⟨g, 2, none⟩ = some (.string ⟨#[]⟩) := (blk_cell K2.out 2).trans rfl; have pf2 := blk_frozen K2.out 2; have p3 : w2.cell? ⟨g, 3, none⟩ = some (.slice none 0 0) := (blk_cell K2.out 3).trans rfl; have pf3 := blk_frozen K2.out 3; skip) | ((with_reducible refine gate_ (.store 42 (.tmp 7) (.tmp 11)) rfl ?_); refine st_ev (w1 := ?inbnd_4_t_0) rfl rfl rfl ?hr ?_; (case hr => go_simp; rfl); intro w10 hw_; clear p0 pf0 p1 pf1 p2 pf2 p3 pf3; have K10 : Aside0 (w10.heap[g]? = some (.cells #[.int .i64 2, .int .i64 (4611686018427387904), .string ⟨#[]⟩, .slice none 0 0] 42 (0, 0))) := ⟨(by rw [hw_]; exact (blk_put (cs := #[.int .i64 2, .int .i64 (4611686018427387904), .string ⟨#[]⟩, .slice none 0 0]) (cs' := #[.int .i64 2, .int .i64 (4611686018427387904), .string ⟨#[]⟩, .slice none 0 0]) (blk_put (cs := #[.int .i64 2, .int .i64 (4611686018427387904), .string ⟨#[]⟩, .slice none 0 0]) (cs' := #[.int .i64 2, .int .i64 (4611686018427387904), .string ⟨#[]⟩, .slice none 0 0]) (blk_put (cs := #[.int .i64 2, .int .i64 0, .string ⟨#[]⟩, .slice none 0 0]) (cs' := #[.int .i64 2, .int .i64 (4611686018427387904), .string ⟨#[]⟩, .slice none 0 0]) (blk_put (cs := #[.int .i64 0, .int .i64 0, .string ⟨#[]⟩, .slice none 0 0]) (cs' := #[.int .i64 2, .int .i64 0, .string ⟨#[]⟩, .slice none 0 0]) K2.out 0 (.int .i64 2) rfl) 1 (.int .i64 (4611686018427387904)) rfl) 2 (.string ⟨#[]⟩) rfl) 3 (.slice none 0 0) rfl))⟩; have B10 : Aside0 (Below w.heap.size w w10) := ⟨(by rw [hw_]; exact (below_set (below_set (below_set (below_set B2.out GE.out) GE.out) GE.out) GE.out))⟩; clear hw_ K2 B2; have q0 : w10.cell? ⟨g, 0, none⟩ = some (.int .i64 2) := (blk_cell K10.out 0).trans rfl; have qf0 := blk_frozen K10.out 0; have q1 : w10.cell? ⟨g, 1, none⟩ = some (.int .i64 (4611686018427387904)) := (blk_cell K10.out 1).trans rfl; have qf1 := blk_frozen K10.out 1; have q2 : w10.cell? ⟨g, 2, none⟩ = some (.string ⟨#[]⟩) := (blk_cell K10.out 2).trans rfl; have qf2 := blk_frozen K10.out 2; have q3 : w10.cell? ⟨g, 3, none⟩ = some (.slice none 0 0) := (blk_cell K10.out 3).trans rfl; have qf3 := blk_frozen K10.out 3; skip) | (go_at_call 12; refine (W6.out _).mono ?_; rintro e w5 ⟨rfl, hb⟩; clear q0 qf0 q1 qf1 q2 qf2 q3 qf3; have K5 := Aside0.mk (blk_below K10.out hb); have B5 := Aside0.mk (below_step B10.out hb); clear hb K10 B10; have u0 : w5.cell? ⟨g, 0, none⟩ = some (.int .i64 2) := (blk_cell K5.out 0).trans rfl; have uf0 := blk_frozen K5.out 0; have u1 : w5.cell? ⟨g, 1, none⟩ = some (.int .i64 (4611686018427387904)) := (blk_cell K5.out 1).trans rfl; have uf1 := blk_frozen K5.out 1; have u2 : w5.cell? ⟨g, 2, none⟩ = some (.string ⟨#[]⟩) := (blk_cell K5.out 2).trans rfl; have uf2 := blk_frozen K5.out 2; have u3 : w5.cell? ⟨g, 3, none⟩ = some (.slice none 0 0) := (blk_cell K5.out 3).trans rfl; have uf3 := blk_frozen K5.out 3; skip) | ((with_reducible refine gate_ (.store 42 (.tmp 7) (.tmp 38)) rfl ?_); refine st_ev (w1 := ?inbnd_4_t_1) rfl rfl rfl ?hr ?_; (case hr => go_simp; rfl); intro w11 hw_; clear u0 uf0 u1 uf1 u2 uf2 u3 uf3; have K11 : Aside0 (w11.heap[g]? = some (.cells #[.int .i64 1, .int .i64 (0), .string ⟨#[120, 57]⟩, .slice none 0 0] 42 (0, 0))) := ⟨(by rw [hw_]; exact (blk_put (cs := #[.int .i64 1, .int .i64 (0), .string ⟨#[120, 57]⟩, .slice none 0 0]) (cs' := #[.int .i64 1, .int .i64 (0), .string ⟨#[120, 57]⟩, .slice none 0 0]) (blk_put (cs := #[.int .i64 1, .int .i64 (0), .string ⟨#[]⟩, .slice none 0 0]) (cs' := #[.int .i64 1, .int .i64 (0), .string ⟨#[120, 57]⟩, .slice none 0 0]) (blk_put (cs := #[.int .i64 1, .int .i64 (4611686018427387904), .string ⟨#[]⟩, .slice none 0 0]) (cs' := #[.int .i64 1, .int .i64 (0), .string ⟨#[]⟩, .slice none 0 0]) (blk_put (cs := #[.int .i64 2, .int .i64 (4611686018427387904), .string ⟨#[]⟩, .slice none 0 0]) (cs' := #[.int .i64 1, .int .i64 (4611686018427387904), .string ⟨#[]⟩, .slice none 0 0]) K5.out 0 (.int .i64 1) rfl) 1 (.int .i64 (0)) rfl) 2 (.string ⟨#[120, 57]⟩) rfl) 3 (.slice none 0 0) rfl))⟩; have B11 : Aside0 (Below w.heap.size w w11) := ⟨(by rw [hw_]; exact (below_set (below_set (below_set (below_set B5.out GE.out) GE.out) GE.out) GE.out))⟩; clear hw_ K5 B5; have r0 : w11.cell? ⟨g, 0, none⟩ = some (.int .i64 1) := (blk_cell K11.out 0).trans rfl; have rf0 := blk_frozen K11.out 0; have r1 : w11.cell? ⟨g, 1, none⟩ = some (.int .i64 (0)) := (blk_cell K11.out 1).trans rfl; have rf1 := blk_frozen K11.out 1; have r2 : w11.cell? ⟨g, 2, none⟩ = some (.string ⟨#[120, 57]⟩) := (blk_cell K11.out 2).trans rfl; have rf2 := blk_frozen K11.out 2; have r3 : w11.cell? ⟨g, 3, none⟩ = some (.slice none 0 0) := (blk_cell K11.out 3).trans rfl; have rf3 := blk_frozen K11.out 3; skip) | ((with_reducible refine gate_ (.store 9 (.tmp 40) (.const (.string ⟨#[57, 120]⟩))) rfl ?_); refine st_ev (w1 := ?inbnd_4_t_2) rfl rfl rfl ?hr ?_; (case hr => go_simp; rfl); intro w12 hw_; clear r0 rf0 r1 rf1 r2 rf2 r3 rf3; have K12 : Aside0 (w12.heap[g]? = some (.cells #[.int .i64 1, .int .i64 (0), .string ⟨#[57, 120]⟩, .slice none 0 0] 42 (0, 0))) := ⟨(by rw [hw_]; exact (blk_put (cs := #[.int .i64 1, .int .i64 (0), .string ⟨#[120, 57]⟩, .slice none 0 0]) (cs' := #[.int .i64 1, .int .i64 (0), .string ⟨#[57, 120]⟩, .slice none 0 0]) K11.out 2 (.string ⟨#[57, 120]⟩) rfl))⟩; have B12 : Aside0 (Below w.heap.size w w12) := ⟨(by rw [hw_]; exact (below_set B11.out GE.out))⟩; clear hw_ K11 B11; have s0 : w12.cell? ⟨g, 0, none⟩ = some (.int .i64 1) := (blk_cell K12.out 0).trans rfl; have sf0 := blk_frozen K12.out 0; have s1 : w12.cell? ⟨g, 1, none⟩ = some (.int .i64 (0)) := (blk_cell K12.out 1).trans rfl; have sf1 := blk_frozen K12.out 1; have s2 : w12.cell? ⟨g, 2, none⟩ = some (.string ⟨#[57, 120]⟩) := (blk_cell K12.out 2).trans rfl; have sf2 := blk_frozen K12.out 2; have s3 : w12.cell? ⟨g, 3, none⟩ = some (.slice none 0 0) := (blk_cell K12.out 3).trans rfl; have sf3 := blk_frozen K12.out 3; skip))
  skip
  go_loopw [8] (fun v8 w' => ∃ (i : Nat) (v : Value), v8 = .int .i64 i ∧ Aside0 (i ≤ j) ∧ Aside0 (w'.heap[g]? = some (.cells #[.int .i64 (wrapF i (⟨1, 0, ⟨#[57, 120]⟩, []⟩ : S42)).f0, .int .i64 (wrapF i (⟨1, 0, ⟨#[57, 120]⟩, []⟩ : S42)).f1, .string (wrapF i (⟨1, 0, ⟨#[57, 120]⟩, []⟩ : S42)).f2, v] 42 (0, 0))) ∧ Aside0 (Kd.R k42 42 w' w.heap.size (fun k => k ≠ g) v (wrapF i (⟨1, 0, ⟨#[57, 120]⟩, []⟩ : S42)).f3) ∧ Aside0 (Below w.heap.size w w')) (fun v8 _ => j - (intOf v8).toNat)
  case atStart => exact ⟨0, .slice none 0 0, rfl, ⟨Nat.zero_le _⟩, ⟨K12.out⟩, ⟨Kd.R_nil _ _ _ _ _⟩, B12⟩
  case round =>
    obtain ⟨i, v, rfl, HI, KR, RR, BR⟩ := hrel
    clear s0 sf0 s1 sf1 s2 sf2 s3 sf3 K12 B12
    have hi := HI.out
    have hj9 := J9.out
    have V1 := Aside0.mk (show wrap64 ((i : Int) + 1) = ((i + 1 : Nat) : Int) by unfold wrap64; omega)
    obtain ⟨A, c, e⟩ := Kd.R_slice RR.out
    subst e
    by_cases hlt : i < j
    · have HL := Aside0.mk hlt
      have c1 : ((i : Int) < (j : Int)) = True := eq_true (by omega)
      have c2 : (i < j) = True := eq_true hlt
      have c3 : decide ((i : Int) < (j : Int)) = true := decide_eq_true (by omega)
      have HX : Aside0 (wrapF (i + 1) (⟨1, 0, ⟨#[57, 120]⟩, []⟩ : S42) = ⟨3, 0, ⟨#[]⟩, [⟨2, 0, ⟨#[]⟩, []⟩, wrapF i (⟨1, 0, ⟨#[57, 120]⟩, []⟩ : S42)]⟩) := ⟨rfl⟩
      generalize wrapF i (⟨1, 0, ⟨#[57, 120]⟩, []⟩ : S42) = x at KR RR HX
      obtain ⟨x0, x1, x2, x3⟩ := x
      simp only [] at KR RR
      clear hlt hi hj9
      go_wp2_with (first | (rw [V1.out]) | (go_at_call 12; refine (W20.out _).mono ?_; rintro e w5 ⟨rfl, hb⟩; have K5 := Aside0.mk (blk_below KR.out hb); have R5 := Aside0.mk (Kd.R_below RR.out hb); have B5 := Aside0.mk (below_step BR.out hb); clear hb KR RR BR; have y0 : w5.cell? ⟨g, 0, none⟩ = some (.int .i64 x0) := (blk_cell K5.out 0).trans rfl; have yf0 := blk_frozen K5.out 0; have y1 : w5.cell? ⟨g, 1, none⟩ = some (.int .i64 x1) := (blk_cell K5.out 1).trans rfl; have yf1 := blk_frozen K5.out 1; have y2 : w5.cell? ⟨g, 2, none⟩ = some (.string x2) := (blk_cell K5.out 2).trans rfl; have yf2 := blk_frozen K5.out 2; have y3 : w5.cell? ⟨g, 3, none⟩ = some (.slice A x3.length c) := (blk_cell K5.out 3).trans rfl; have yf3 := blk_frozen K5.out 3; skip) | ((with_reducible refine gate_dst (N := 54) rfl ?_); refine Kd.R_lit k42 (w0 := w) w.heap.size 42 ?hg (N := 54) ?hd (xs := [(⟨2, 0, ⟨#[]⟩, []⟩ : S42), ⟨x0, x1, x2, x3⟩]) (inner := [.int .i64 2, .int .i64 0, .string ⟨#[]⟩, .slice none 0 0] ++ [.int .i64 x0, .int .i64 x1, .string x2, .slice A x3.length c]) (ok := fun k => k ≠ g) (okp := fun k => k ≠ g) ?hr ?hp (fun _ h => h) ?hf B5.out B5.out.size (by simp) ?_; (case hd => rfl); (case hg => rfl); (case hr => first | (go_simp; done) | (go_simp; rfl)); (case hp => exact reps_two rfl rfl (k42_mkM _ _ _ (⟨2, 0, ⟨#[]⟩, []⟩ : S42) (Kd.R_nil _ _ _ _ _)) (k42_mkM _ _ _ (⟨x0, x1, x2, x3⟩ : S42) R5.out)); (case hf => exact fun h => absurd (blk_lt K5.out) (by omega)); intro v6 w6 ho hb hg _; obtain ⟨A6, c6, e6⟩ := Kd.R_slice ho; subst e6; have R6 := Aside0.mk ho; have B6 := Aside0.mk hb; have K6 := Aside0.mk (blk_grown K5.out hg (by simp)); clear ho hb hg K5 R5 B5 y0 y1 y2 y3 yf0 yf1 yf2 yf3; have z0 : w6.cell? ⟨g, 0, none⟩ = some (.int .i64 x0) := (blk_cell K6.out 0).trans rfl; have zf0 := blk_frozen K6.out 0; have z1 : w6.cell? ⟨g, 1, none⟩ = some (.int .i64 x1) := (blk_cell K6.out 1).trans rfl; have zf1 := blk_frozen K6.out 1; have z2 : w6.cell? ⟨g, 2, none⟩ = some (.string x2) := (blk_cell K6.out 2).trans rfl; have zf2 := blk_frozen K6.out 2; have z3 : w6.cell? ⟨g, 3, none⟩ = some (.slice A x3.length c) := (blk_cell K6.out 3).trans rfl; have zf3 := blk_frozen K6.out 3; skip) | ((with_reducible refine gate_ (.store 42 (.tmp 7) (.tmp 55)) rfl ?_); refine st_ev (w1 := ?inbnd_4_t_9) rfl rfl rfl ?hr ?_; (case hr => go_simp; rfl); intro w7 hw_; clear z0 z1 z2 z3 zf0 zf1 zf2 zf3; have K7 : Aside0 (w7.heap[g]? = some (.cells #[.int .i64 3, .int .i64 0, .string ⟨#[]⟩, .slice A6 2 c6] 42 (0, 0))) := ⟨(by rw [hw_]; exact (blk_put (cs := #[.int .i64 3, .int .i64 0, .string ⟨#[]⟩, .slice A x3.length c]) (cs' := #[.int .i64 3, .int .i64 0, .string ⟨#[]⟩, .slice A6 2 c6]) (blk_put (cs := #[.int .i64 3, .int .i64 0, .string x2, .slice A x3.length c]) (cs' := #[.int .i64 3, .int .i64 0, .string ⟨#[]⟩, .slice A x3.length c]) (blk_put (cs := #[.int .i64 3, .int .i64 x1, .string x2, .slice A x3.length c]) (cs' := #[.int .i64 3, .int .i64 0, .string x2, .slice A x3.length c]) (blk_put (cs := #[.int .i64 x0, .int .i64 x1, .string x2, .slice A x3.length c]) (cs' := #[.int .i64 3, .int .i64 x1, .string x2, .slice A x3.length c]) K6.out 0 (.int .i64 3) rfl) 1 (.int .i64 0) rfl) 2 (.string ⟨#[]⟩) rfl) 3 (.slice A6 2 c6) rfl))⟩; have R7 : Aside0 (Kd.R k42 42 w7 w.heap.size (fun k => k ≠ g) (.slice A6 2 c6) [(⟨2, 0, ⟨#[]⟩, []⟩ : S42), ⟨x0, x1, x2, x3⟩]) := ⟨(by rw [hw_]; exact Kd.R_far (p := ⟨g, 3, none⟩) (Kd.R_far (p := ⟨g, 2, none⟩) (Kd.R_far (p := ⟨g, 1, none⟩) (Kd.R_far (p := ⟨g, 0, none⟩) R6.out (fun _ hk => hk) _) (fun _ hk => hk) _) (fun _ hk => hk) _) (fun _ hk => hk) _)⟩; have B7 : Aside0 (Below w.heap.size w w7) := ⟨(by rw [hw_]; exact (below_set (below_set (below_set (below_set B6.out GE.out) GE.out) GE.out) GE.out))⟩; clear hw_ K6 R6 B6))
      refine ⟨⟨i + 1, _, rfl, ⟨HL.out⟩, ⟨by rw [HX.out]; exact K7.out⟩, ⟨by rw [HX.out]; exact R7.out⟩, B7⟩, ?_⟩
      have := HL.out
      simp only [intOf, Int.toNat_natCast]
      omega
    · obtain rfl : i = j := by omega
      obtain ⟨A', c', e', hle, hC⟩ := Kd.R_reads RR.out
      injection e' with e1 _ e3
      subst e1
      subst e3
      have CC := Aside0.mk hC
      have CL := Aside0.mk hle
      generalize wrapF i (⟨1, 0, ⟨#[57, 120]⟩, []⟩ : S42) = x at KR CC CL CK
      obtain ⟨x0, x1, x2, x3⟩ := x
      simp only [] at KR CC CL CK
      clear hC hle hlt hi hj9 RR HI
      go_wp2_with (first | (go_at_call 12; refine (W20.out _).mono ?_; rintro e w5 ⟨rfl, hb⟩; have K5 := Aside0.mk (blk_below KR.out hb); have C5 := Aside0.mk (Kd.C_below CC.out hb); have B5 := Aside0.mk (below_step BR.out hb); clear hb KR CC BR; have y0 : w5.cell? ⟨g, 0, none⟩ = some (.int .i64 x0) := (blk_cell K5.out 0).trans rfl; have yf0 := blk_frozen K5.out 0; have y1 : w5.cell? ⟨g, 1, none⟩ = some (.int .i64 x1) := (blk_cell K5.out 1).trans rfl; have yf1 := blk_frozen K5.out 1; have y2 : w5.cell? ⟨g, 2, none⟩ = some (.string x2) := (blk_cell K5.out 2).trans rfl; have yf2 := blk_frozen K5.out 2; have y3 : w5.cell? ⟨g, 3, none⟩ = some (.slice A x3.length c) := (blk_cell K5.out 3).trans rfl; have yf3 := blk_frozen K5.out 3; skip) | (go_at_call 21; refine (forms_Check.calls kk x0 x1 x2 A c x3 7 _ C5.out CL.out CK.out).mono ?_; rintro e w6 ⟨rfl, hb⟩; have B6 := Aside0.mk (below_step B5.out hb); clear hb))
      go_ret
      exact ⟨by first | rfl | (simp; done) | (simp [*]; done), B6.out⟩
theorem chk_5_f : ∀ d, d ≤ 30 → chk (⟨3, 0, ⟨#[]⟩, []⟩ : S42) d = 0 := by
  intro d hd
  rw [chk]
  rw [if_neg (fun h => absurd h.1 (by decide)), if_neg (fun h => absurd h.1 (by decide)), if_pos rfl, if_neg (by omega), chks]
set_option maxHeartbeats 8000000 in
set_option maxRecDepth 100000 in
theorem bnd_5_f (a0 a2 : Int) (j : Nat) (hw : thyrsuslaw3_within.f a0 6 = some 5) (hj : thyrsuslaw3_within.f a2 20 = some (j : Int)) (hj9 : j ≤ 19) (w : World) (hT : TabP w) :
    Calls Tryd.prog 9 #[.int .i64 a0, .bool false, .int .i64 a2] w fun e w' => e = .returned (.bool true) ∧ Below w.heap.size w w' := by
  have hu42 := Tryd.underlying42
  have KN := Aside0.mk (thyrsuslaw3_known.calls 3 true w hT (known_k 0))
  have W6 := Aside0.mk (within_b hw)
  have W20 := Aside0.mk (within_b hj)
  obtain ⟨kk, hkk⟩ := check_ok chk_5_f rfl hj9
  have CK := Aside0.mk hkk
  have J9 := Aside0.mk hj9
  clear hw hj hT hkk hj9
  go_enter Tryd.func9, Tryd.ntmps9
  go_wp2_with (first | (go_at_call 10; refine KN.out.mono ?_; rintro e w1 ⟨rfl, hb⟩; have B1 := Aside0.mk hb; clear hb) | ((with_reducible refine gate_dst (N := 7) rfl ?_); refine box_event ?hg (N := 7) ?hd (cs := #[.int .i64 0, .int .i64 0, .string ⟨#[]⟩, .slice none 0 0]) (t := 42) ?hr ?_; (case hd => rfl); (case hg => rfl); (case hr => first | (go_simp; done) | (go_simp; rfl)); intro g hg w2 hbox hb; have K2 := Aside0.mk hbox; have GE : Aside0 (w.heap.size ≤ g) := ⟨(by rw [hg]; exact B1.out.size)⟩; have B2 := Aside0.mk (below_step B1.out hb); clear hbox hb hg B1; have p0 : w2.cell? ⟨g, 0, none⟩ = some (.int .i64 0) := (blk_cell K2.out 0).trans rfl; have pf0 := blk_frozen K2.out 0; have p1 : w2.cell? ⟨g, 1, none⟩ = some (.int .i64 0) := (blk_cell K2.out 1).trans rfl; have pf1 := blk_frozen K2.out 1; have p2 : w2.cell? ⟨g, 2, none⟩ = some (.string ⟨#[]⟩) := (blk_cell K2.out 2).trans rfl; have pf2 := blk_frozen K2.out 2; have p3 : w2.cell? ⟨g, 3, none⟩ = some (.slice none 0 0) := (blk_cell K2.out 3).trans rfl; have pf3 := blk_frozen K2.out 3; skip) | ((with_reducible refine gate_ (.store 42 (.tmp 7) (.tmp 11)) rfl ?_); refine st_ev (w1 := ?inbnd_5_f_0) rfl rfl rfl ?hr ?_; (case hr => go_simp; rfl); intro w10 hw_; clear p0 pf0 p1 pf1 p2 pf2 p3 pf3; have K10 : Aside0 (w10.heap[g]? = some (.cells #[.int .i64 2, .int .i64 (4611686018427387904), .string ⟨#[]⟩, .slice none 0 0] 42 (0, 0))) := ⟨(by rw [hw_]; exact (blk_put (cs := #[.int .i64 2, .int .i64 (4611686018427387904), .string ⟨#[]⟩, .slice none 0 0]) (cs' := #[.int .i64 2, .int .i64 (4611686018427387904), .string ⟨#[]⟩, .slice none 0 0]) (blk_put (cs := #[.int .i64 2, .int .i64 (4611686018427387904), .string ⟨#[]⟩, .slice none 0 0]) (cs' := #[.int .i64 2, .int .i64 (4611686018427387904), .string ⟨#[]⟩, .slice none 0 0]) (blk_put (cs := #[.int .i64 2, .int .i64 0, .string ⟨#[]⟩, .slice none 0 0]) (cs' := #[.int .i64 2, .int .i64 (4611686018427387904), .string ⟨#[]⟩, .slice none 0 0]) (blk_put (cs := #[.int .i64 0, .int .i64 0, .string ⟨#[]⟩, .slice none 0 0]) (cs' := #[.int .i64 2, .int .i64 0, .string ⟨#[]⟩, .slice none 0 0]) K2.out 0 (.int .i64 2) rfl) 1 (.int .i64 (4611686018427387904)) rfl) 2 (.string ⟨#[]⟩) rfl) 3 (.slice none 0 0) rfl))⟩; have B10 : Aside0 (Below w.heap.size w w10) := ⟨(by rw [hw_]; exact (below_set (below_set (below_set (below_set B2.out GE.out) GE.out) GE.out) GE.out))⟩; clear hw_ K2 B2; have q0 : w10.cell? ⟨g, 0, none⟩ = some (.int .i64 2) := (blk_cell K10.out 0).trans rfl; have qf0 := blk_frozen K10.out 0; have q1 : w10.cell? ⟨g, 1, none⟩ = some (.int .i64 (4611686018427387904)) := (blk_cell K10.out 1).trans rfl; have qf1 := blk_frozen K10.out 1; have q2 : w10.cell? ⟨g, 2, none⟩ = some (.string ⟨#[]⟩) := (blk_cell K10.out 2).trans rfl; have qf2 := blk_frozen K10.out 2; have q3 : w10.cell? ⟨g, 3, none⟩ = some (.slice none 0 0) := (blk_cell K10.out 3).trans rfl; have qf3 := blk_frozen K10.out 3; skip) | (go_at_call 12; refine (W6.out _).mono ?_; rintro e w5 ⟨rfl, hb⟩; clear q0 qf0 q1 qf1 q2 qf2 q3 qf3; have K5 := Aside0.mk (blk_below K10.out hb); have B5 := Aside0.mk (below_step B10.out hb); clear hb K10 B10; have u0 : w5.cell? ⟨g, 0, none⟩ = some (.int .i64 2) := (blk_cell K5.out 0).trans rfl; have uf0 := blk_frozen K5.out 0; have u1 : w5.cell? ⟨g, 1, none⟩ = some (.int .i64 (4611686018427387904)) := (blk_cell K5.out 1).trans rfl; have uf1 := blk_frozen K5.out 1; have u2 : w5.cell? ⟨g, 2, none⟩ = some (.string ⟨#[]⟩) := (blk_cell K5.out 2).trans rfl; have uf2 := blk_frozen K5.out 2; have u3 : w5.cell? ⟨g, 3, none⟩ = some (.slice none 0 0) := (blk_cell K5.out 3).trans rfl; have uf3 := blk_frozen K5.out 3; skip) | ((with_reducible refine gate_ (.store 42 (.tmp 7) (.tmp 43)) rfl ?_); refine st_ev (w1 := ?inbnd_5_f_1) rfl rfl rfl ?hr ?_; (case hr => go_simp; rfl); intro w11 hw_; clear u0 uf0 u1 uf1 u2 uf2 u3 uf3; have K11 : Aside0 (w11.heap[g]? = some (.cells #[.int .i64 3, .int .i64 (0), .string ⟨#[]⟩, .slice none 0 0] 42 (0, 0))) := ⟨(by rw [hw_]; exact (blk_put (cs := #[.int .i64 3, .int .i64 (0), .string ⟨#[]⟩, .slice none 0 0]) (cs' := #[.int .i64 3, .int .i64 (0), .string ⟨#[]⟩, .slice none 0 0]) (blk_put (cs := #[.int .i64 3, .int .i64 (0), .string ⟨#[]⟩, .slice none 0 0]) (cs' := #[.int .i64 3, .int .i64 (0), .string ⟨#[]⟩, .slice none 0 0]) (blk_put (cs := #[.int .i64 3, .int .i64 (4611686018427387904), .string ⟨#[]⟩, .slice none 0 0]) (cs' := #[.int .i64 3, .int .i64 (0), .string ⟨#[]⟩, .slice none 0 0]) (blk_put (cs := #[.int .i64 2, .int .i64 (4611686018427387904), .string ⟨#[]⟩, .slice none 0 0]) (cs' := #[.int .i64 3, .int .i64 (4611686018427387904), .string ⟨#[]⟩, .slice none 0 0]) K5.out 0 (.int .i64 3) rfl) 1 (.int .i64 (0)) rfl) 2 (.string ⟨#[]⟩) rfl) 3 (.slice none 0 0) rfl))⟩; have B11 : Aside0 (Below w.heap.size w w11) := ⟨(by rw [hw_]; exact (below_set (below_set (below_set (below_set B5.out GE.out) GE.out) GE.out) GE.out))⟩; clear hw_ K5 B5; have r0 : w11.cell? ⟨g, 0, none⟩ = some (.int .i64 3) := (blk_cell K11.out 0).trans rfl; have rf0 := blk_frozen K11.out 0; have r1 : w11.cell? ⟨g, 1, none⟩ = some (.int .i64 (0)) := (blk_cell K11.out 1).trans rfl; have rf1 := blk_frozen K11.out 1; have r2 : w11.cell? ⟨g, 2, none⟩ = some (.string ⟨#[]⟩) := (blk_cell K11.out 2).trans rfl; have rf2 := blk_frozen K11.out 2; have r3 : w11.cell? ⟨g, 3, none⟩ = some (.slice none 0 0) := (blk_cell K11.out 3).trans rfl; have rf3 := blk_frozen K11.out 3; skip))
  skip
  go_loopw [8] (fun v8 w' => ∃ (i : Nat) (v : Value), v8 = .int .i64 i ∧ Aside0 (i ≤ j) ∧ Aside0 (w'.heap[g]? = some (.cells #[.int .i64 (wrapF i (⟨3, 0, ⟨#[]⟩, []⟩ : S42)).f0, .int .i64 (wrapF i (⟨3, 0, ⟨#[]⟩, []⟩ : S42)).f1, .string (wrapF i (⟨3, 0, ⟨#[]⟩, []⟩ : S42)).f2, v] 42 (0, 0))) ∧ Aside0 (Kd.R k42 42 w' w.heap.size (fun k => k ≠ g) v (wrapF i (⟨3, 0, ⟨#[]⟩, []⟩ : S42)).f3) ∧ Aside0 (Below w.heap.size w w')) (fun v8 _ => j - (intOf v8).toNat)
  case atStart => exact ⟨0, .slice none 0 0, rfl, ⟨Nat.zero_le _⟩, ⟨K11.out⟩, ⟨Kd.R_nil _ _ _ _ _⟩, B11⟩
  case round =>
    obtain ⟨i, v, rfl, HI, KR, RR, BR⟩ := hrel
    clear r0 rf0 r1 rf1 r2 rf2 r3 rf3 K11 B11
    have hi := HI.out
    have hj9 := J9.out
    have V1 := Aside0.mk (show wrap64 ((i : Int) + 1) = ((i + 1 : Nat) : Int) by unfold wrap64; omega)
    obtain ⟨A, c, e⟩ := Kd.R_slice RR.out
    subst e
    by_cases hlt : i < j
    · have HL := Aside0.mk hlt
      have c1 : ((i : Int) < (j : Int)) = True := eq_true (by omega)
      have c2 : (i < j) = True := eq_true hlt
      have c3 : decide ((i : Int) < (j : Int)) = true := decide_eq_true (by omega)
      have HX : Aside0 (wrapF (i + 1) (⟨3, 0, ⟨#[]⟩, []⟩ : S42) = ⟨3, 0, ⟨#[]⟩, [⟨2, 0, ⟨#[]⟩, []⟩, wrapF i (⟨3, 0, ⟨#[]⟩, []⟩ : S42)]⟩) := ⟨rfl⟩
      generalize wrapF i (⟨3, 0, ⟨#[]⟩, []⟩ : S42) = x at KR RR HX
      obtain ⟨x0, x1, x2, x3⟩ := x
      simp only [] at KR RR
      clear hlt hi hj9
      go_wp2_with (first | (rw [V1.out]) | (go_at_call 12; refine (W20.out _).mono ?_; rintro e w5 ⟨rfl, hb⟩; have K5 := Aside0.mk (blk_below KR.out hb); have R5 := Aside0.mk (Kd.R_below RR.out hb); have B5 := Aside0.mk (below_step BR.out hb); clear hb KR RR BR; have y0 : w5.cell? ⟨g, 0, none⟩ = some (.int .i64 x0) := (blk_cell K5.out 0).trans rfl; have yf0 := blk_frozen K5.out 0; have y1 : w5.cell? ⟨g, 1, none⟩ = some (.int .i64 x1) := (blk_cell K5.out 1).trans rfl; have yf1 := blk_frozen K5.out 1; have y2 : w5.cell? ⟨g, 2, none⟩ = some (.string x2) := (blk_cell K5.out 2).trans rfl; have yf2 := blk_frozen K5.out 2; have y3 : w5.cell? ⟨g, 3, none⟩ = some (.slice A x3.length c) := (blk_cell K5.out 3).trans rfl; have yf3 := blk_frozen K5.out 3; skip) | ((with_reducible refine gate_dst (N := 54) rfl ?_); refine Kd.R_lit k42 (w0 := w) w.heap.size 42 ?hg (N := 54) ?hd (xs := [(⟨2, 0, ⟨#[]⟩, []⟩ : S42), ⟨x0, x1, x2, x3⟩]) (inner := [.int .i64 2, .int .i64 0, .string ⟨#[]⟩, .slice none 0 0] ++ [.int .i64 x0, .int .i64 x1, .string x2, .slice A x3.length c]) (ok := fun k => k ≠ g) (okp := fun k => k ≠ g) ?hr ?hp (fun _ h => h) ?hf B5.out B5.out.size (by simp) ?_; (case hd => rfl); (case hg => rfl); (case hr => first | (go_simp; done) | (go_simp; rfl)); (case hp => exact reps_two rfl rfl (k42_mkM _ _ _ (⟨2, 0, ⟨#[]⟩, []⟩ : S42) (Kd.R_nil _ _ _ _ _)) (k42_mkM _ _ _ (⟨x0, x1, x2, x3⟩ : S42) R5.out)); (case hf => exact fun h => absurd (blk_lt K5.out) (by omega)); intro v6 w6 ho hb hg _; obtain ⟨A6, c6, e6⟩ := Kd.R_slice ho; subst e6; have R6 := Aside0.mk ho; have B6 := Aside0.mk hb; have K6 := Aside0.mk (blk_grown K5.out hg (by simp)); clear ho hb hg K5 R5 B5 y0 y1 y2 y3 yf0 yf1 yf2 yf3; have z0 : w6.cell? ⟨g, 0, none⟩ = some (.int .i64 x0) := (blk_cell K6.out 0).trans rfl; have zf0 := blk_frozen K6.out 0; have z1 : w6.cell? ⟨g, 1, none⟩ = some (.int .i64 x1) := (blk_cell K6.out 1).trans rfl; have zf1 := blk_frozen K6.out 1; have z2 : w6.cell? ⟨g, 2, none⟩ = some (.string x2) := (blk_cell K6.out 2).trans rfl; have zf2 := blk_frozen K6.out 2; have z3 : w6.cell? ⟨g, 3, none⟩ = some (.slice A x3.length c) := (blk_cell K6.out 3).trans rfl; have zf3 := blk_frozen K6.out 3; skip) | ((with_reducible refine gate_ (.store 42 (.tmp 7) (.tmp 55)) rfl ?_); refine st_ev (w1 := ?inbnd_5_f_9) rfl rfl rfl ?hr ?_; (case hr => go_simp; rfl); intro w7 hw_; clear z0 z1 z2 z3 zf0 zf1 zf2 zf3; have K7 : Aside0 (w7.heap[g]? = some (.cells #[.int .i64 3, .int .i64 0, .string ⟨#[]⟩, .slice A6 2 c6] 42 (0, 0))) := ⟨(by rw [hw_]; exact (blk_put (cs := #[.int .i64 3, .int .i64 0, .string ⟨#[]⟩, .slice A x3.length c]) (cs' := #[.int .i64 3, .int .i64 0, .string ⟨#[]⟩, .slice A6 2 c6]) (blk_put (cs := #[.int .i64 3, .int .i64 0, .string x2, .slice A x3.length c]) (cs' := #[.int .i64 3, .int .i64 0, .string ⟨#[]⟩, .slice A x3.length c]) (blk_put (cs := #[.int .i64 3, .int .i64 x1, .string x2, .slice A x3.length c]) (cs' := #[.int .i64 3, .int .i64 0, .string x2, .slice A x3.length c]) (blk_put (cs := #[.int .i64 x0, .int .i64 x1, .string x2, .slice A x3.length c]) (cs' := #[.int .i64 3, .int .i64 x1, .string x2, .slice A x3.length c]) K6.out 0 (.int .i64 3) rfl) 1 (.int .i64 0) rfl) 2 (.string ⟨#[]⟩) rfl) 3 (.slice A6 2 c6) rfl))⟩; have R7 : Aside0 (Kd.R k42 42 w7 w.heap.size (fun k => k ≠ g) (.slice A6 2 c6) [(⟨2, 0, ⟨#[]⟩, []⟩ : S42), ⟨x0, x1, x2, x3⟩]) := ⟨(by rw [hw_]; exact Kd.R_far (p := ⟨g, 3, none⟩) (Kd.R_far (p := ⟨g, 2, none⟩) (Kd.R_far (p := ⟨g, 1, none⟩) (Kd.R_far (p := ⟨g, 0, none⟩) R6.out (fun _ hk => hk) _) (fun _ hk => hk) _) (fun _ hk => hk) _) (fun _ hk => hk) _)⟩; have B7 : Aside0 (Below w.heap.size w w7) := ⟨(by rw [hw_]; exact (below_set (below_set (below_set (below_set B6.out GE.out) GE.out) GE.out) GE.out))⟩; clear hw_ K6 R6 B6))
      refine ⟨⟨i + 1, _, rfl, ⟨HL.out⟩, ⟨by rw [HX.out]; exact K7.out⟩, ⟨by rw [HX.out]; exact R7.out⟩, B7⟩, ?_⟩
      have := HL.out
      simp only [intOf, Int.toNat_natCast]
      omega
    · obtain rfl : i = j := by omega
      obtain ⟨A', c', e', hle, hC⟩ := Kd.R_reads RR.out
      injection e' with e1 _ e3
      subst e1
      subst e3
      have CC := Aside0.mk hC
      have CL := Aside0.mk hle
      generalize wrapF i (⟨3, 0, ⟨#[]⟩, []⟩ : S42) = x at KR CC CL CK
      obtain ⟨x0, x1, x2, x3⟩ := x
      simp only [] at KR CC CL CK
      clear hC hle hlt hi hj9 RR HI
      go_wp2_with (first | (go_at_call 12; refine (W20.out _).mono ?_; rintro e w5 ⟨rfl, hb⟩; have K5 := Aside0.mk (blk_below KR.out hb); have C5 := Aside0.mk (Kd.C_below CC.out hb); have B5 := Aside0.mk (below_step BR.out hb); clear hb KR CC BR; have y0 : w5.cell? ⟨g, 0, none⟩ = some (.int .i64 x0) := (blk_cell K5.out 0).trans rfl; have yf0 := blk_frozen K5.out 0; have y1 : w5.cell? ⟨g, 1, none⟩ = some (.int .i64 x1) := (blk_cell K5.out 1).trans rfl; have yf1 := blk_frozen K5.out 1; have y2 : w5.cell? ⟨g, 2, none⟩ = some (.string x2) := (blk_cell K5.out 2).trans rfl; have yf2 := blk_frozen K5.out 2; have y3 : w5.cell? ⟨g, 3, none⟩ = some (.slice A x3.length c) := (blk_cell K5.out 3).trans rfl; have yf3 := blk_frozen K5.out 3; skip) | (go_at_call 21; refine (forms_Check.calls kk x0 x1 x2 A c x3 0 _ C5.out CL.out CK.out).mono ?_; rintro e w6 ⟨rfl, hb⟩; have B6 := Aside0.mk (below_step B5.out hb); clear hb))
      go_ret
      exact ⟨by first | rfl | (simp; done) | (simp [*]; done), B6.out⟩
theorem chk_5_t : ∀ d, d ≤ 30 → chk (⟨4, 0, ⟨#[]⟩, []⟩ : S42) d = 7 := by
  intro d hd
  rw [chk]
  rw [if_neg (fun h => absurd h.1 (by decide)), if_neg (fun h => absurd h.1 (by decide)), if_neg (by decide)]
set_option maxHeartbeats 8000000 in
set_option maxRecDepth 100000 in
theorem bnd_5_t (a0 a2 : Int) (j : Nat) (hw : thyrsuslaw3_within.f a0 6 = some 5) (hj : thyrsuslaw3_within.f a2 20 = some (j : Int)) (hj9 : j ≤ 19) (w : World) (hT : TabP w) :
    Calls Tryd.prog 9 #[.int .i64 a0, .bool true, .int .i64 a2] w fun e w' => e = .returned (.bool true) ∧ Below w.heap.size w w' := by
  have hu42 := Tryd.underlying42
  have KN := Aside0.mk (thyrsuslaw3_known.calls 3 true w hT (known_k 0))
  have W6 := Aside0.mk (within_b hw)
  have W20 := Aside0.mk (within_b hj)
  obtain ⟨kk, hkk⟩ := check_ok chk_5_t rfl hj9
  have CK := Aside0.mk hkk
  have J9 := Aside0.mk hj9
  clear hw hj hT hkk hj9
  go_enter Tryd.func9, Tryd.ntmps9
  go_wp2_with (first | (go_at_call 10; refine KN.out.mono ?_; rintro e w1 ⟨rfl, hb⟩; have B1 := Aside0.mk hb; clear hb) | ((with_reducible refine gate_dst (N := 7) rfl ?_); refine box_event ?hg (N := 7) ?hd (cs := #[.int .i64 0, .int .i64 0, .string ⟨#[]⟩, .slice none 0 0]) (t := 42) ?hr ?_; (case hd => rfl); (case hg => rfl); (case hr => first | (go_simp; done) | (go_simp; rfl)); intro g hg w2 hbox hb; have K2 := Aside0.mk hbox; have GE : Aside0 (w.heap.size ≤ g) := ⟨(by rw [hg]; exact B1.out.size)⟩; have B2 := Aside0.mk (below_step B1.out hb); clear hbox hb hg B1; have p0 : w2.cell? ⟨g, 0, none⟩ = some (.int .i64 0) := (blk_cell K2.out 0).trans rfl; have pf0 := blk_frozen K2.out 0; have p1 : w2.cell? ⟨g, 1, none⟩ = some (.int .i64 0) := (blk_cell K2.out 1).trans rfl; have pf1 := blk_frozen K2.out 1; have p2 : w2.cell? ⟨g, 2, none⟩ = some (.string ⟨#[]⟩) := (blk_cell K2.out 2).trans rfl; have pf2 := blk_frozen K2.out 2; have p3 : w2.cell? ⟨g, 3, none⟩ = some (.slice none 0 0) := (blk_cell K2.out 3).trans rfl; have pf3 := blk_frozen K2.out 3; skip) | ((with_reducible refine gate_ (.store 42 (.tmp 7) (.tmp 11)) rfl ?_); refine st_ev (w1 := ?inbnd_5_t_0) rfl rfl rfl ?hr ?_; (case hr => go_simp; rfl); intro w10 hw_; clear p0 pf0 p1 pf1 p2 pf2 p3 pf3; have K10 : Aside0 (w10.heap[g]? = some (.cells #[.int .i64 2, .int .i64 (4611686018427387904), .string ⟨#[]⟩, .slice none 0 0] 42 (0, 0))) := ⟨(by rw [hw_]; exact (blk_put (cs := #[.int .i64 2, .int .i64 (4611686018427387904), .string ⟨#[]⟩, .slice none 0 0]) (cs' := #[.int .i64 2, .int .i64 (4611686018427387904), .string ⟨#[]⟩, .slice none 0 0]) (blk_put (cs := #[.int .i64 2, .int .i64 (4611686018427387904), .string ⟨#[]⟩, .slice none 0 0]) (cs' := #[.int .i64 2, .int .i64 (4611686018427387904), .string ⟨#[]⟩, .slice none 0 0]) (blk_put (cs := #[.int .i64 2, .int .i64 0, .string ⟨#[]⟩, .slice none 0 0]) (cs' := #[.int .i64 2, .int .i64 (4611686018427387904), .string ⟨#[]⟩, .slice none 0 0]) (blk_put (cs := #[.int .i64 0, .int .i64 0, .string ⟨#[]⟩, .slice none 0 0]) (cs' := #[.int .i64 2, .int .i64 0, .string ⟨#[]⟩, .slice none 0 0]) K2.out 0 (.int .i64 2) rfl) 1 (.int .i64 (4611686018427387904)) rfl) 2 (.string ⟨#[]⟩) rfl) 3 (.slice none 0 0) rfl))⟩; have B10 : Aside0 (Below w.heap.size w w10) := ⟨(by rw [hw_]; exact (below_set (below_set (below_set (below_set B2.out GE.out) GE.out) GE.out) GE.out))⟩; clear hw_ K2 B2; have q0 : w10.cell? ⟨g, 0, none⟩ = some (.int .i64 2) := (blk_cell K10.out 0).trans rfl; have qf0 := blk_frozen K10.out 0; have q1 : w10.cell? ⟨g, 1, none⟩ = some (.int .i64 (4611686018427387904)) := (blk_cell K10.out 1).trans rfl; have qf1 := blk_frozen K10.out 1; have q2 : w10.cell? ⟨g, 2, none⟩ = some (.string ⟨#[]⟩) := (blk_cell K10.out 2).trans rfl; have qf2 := blk_frozen K10.out 2; have q3 : w10.cell? ⟨g, 3, none⟩ = some (.slice none 0 0) := (blk_cell K10.out 3).trans rfl; have qf3 := blk_frozen K10.out 3; skip) | (go_at_call 12; refine (W6.out _).mono ?_; rintro e w5 ⟨rfl, hb⟩; clear q0 qf0 q1 qf1 q2 qf2 q3 qf3; have K5 := Aside0.mk (blk_below K10.out hb); have B5 := Aside0.mk (below_step B10.out hb); clear hb K10 B10; have u0 : w5.cell? ⟨g, 0, none⟩ = some (.int .i64 2) := (blk_cell K5.out 0).trans rfl; have uf0 := blk_frozen K5.out 0; have u1 : w5.cell? ⟨g, 1, none⟩ = some (.int .i64 (4611686018427387904)) := (blk_cell K5.out 1).trans rfl; have uf1 := blk_frozen K5.out 1; have u2 : w5.cell? ⟨g, 2, none⟩ = some (.string ⟨#[]⟩) := (blk_cell K5.out 2).trans rfl; have uf2 := blk_frozen K5.out 2; have u3 : w5.cell? ⟨g, 3, none⟩ = some (.slice none 0 0) := (blk_cell K5.out 3).trans rfl; have uf3 := blk_frozen K5.out 3; skip) | ((with_reducible refine gate_ (.store 42 (.tmp 7) (.tmp 43)) rfl ?_); refine st_ev (w1 := ?inbnd_5_t_1) rfl rfl rfl ?hr ?_; (case hr => go_simp; rfl); intro w11 hw_; clear u0 uf0 u1 uf1 u2 uf2 u3 uf3; have K11 : Aside0 (w11.heap[g]? = some (.cells #[.int .i64 3, .int .i64 (0), .string ⟨#[]⟩, .slice none 0 0] 42 (0, 0))) := ⟨(by rw [hw_]; exact (blk_put (cs := #[.int .i64 3, .int .i64 (0), .string ⟨#[]⟩, .slice none 0 0]) (cs' := #[.int .i64 3, .int .i64 (0), .string ⟨#[]⟩, .slice none 0 0]) (blk_put (cs := #[.int .i64 3, .int .i64 (0), .string ⟨#[]⟩, .slice none 0 0]) (cs' := #[.int .i64 3, .int .i64 (0), .string ⟨#[]⟩, .slice none 0 0]) (blk_put (cs := #[.int .i64 3, .int .i64 (4611686018427387904), .string ⟨#[]⟩, .slice none 0 0]) (cs' := #[.int .i64 3, .int .i64 (0), .string ⟨#[]⟩, .slice none 0 0]) (blk_put (cs := #[.int .i64 2, .int .i64 (4611686018427387904), .string ⟨#[]⟩, .slice none 0 0]) (cs' := #[.int .i64 3, .int .i64 (4611686018427387904), .string ⟨#[]⟩, .slice none 0 0]) K5.out 0 (.int .i64 3) rfl) 1 (.int .i64 (0)) rfl) 2 (.string ⟨#[]⟩) rfl) 3 (.slice none 0 0) rfl))⟩; have B11 : Aside0 (Below w.heap.size w w11) := ⟨(by rw [hw_]; exact (below_set (below_set (below_set (below_set B5.out GE.out) GE.out) GE.out) GE.out))⟩; clear hw_ K5 B5; have r0 : w11.cell? ⟨g, 0, none⟩ = some (.int .i64 3) := (blk_cell K11.out 0).trans rfl; have rf0 := blk_frozen K11.out 0; have r1 : w11.cell? ⟨g, 1, none⟩ = some (.int .i64 (0)) := (blk_cell K11.out 1).trans rfl; have rf1 := blk_frozen K11.out 1; have r2 : w11.cell? ⟨g, 2, none⟩ = some (.string ⟨#[]⟩) := (blk_cell K11.out 2).trans rfl; have rf2 := blk_frozen K11.out 2; have r3 : w11.cell? ⟨g, 3, none⟩ = some (.slice none 0 0) := (blk_cell K11.out 3).trans rfl; have rf3 := blk_frozen K11.out 3; skip) | ((with_reducible refine gate_ (.store 3 (.tmp 45) (.const (.int .i64 4))) rfl ?_); refine st_ev (w1 := ?inbnd_5_t_2) rfl rfl rfl ?hr ?_; (case hr => go_simp; rfl); intro w12 hw_; clear r0 rf0 r1 rf1 r2 rf2 r3 rf3; have K12 : Aside0 (w12.heap[g]? = some (.cells #[.int .i64 4, .int .i64 (0), .string ⟨#[]⟩, .slice none 0 0] 42 (0, 0))) := ⟨(by rw [hw_]; exact (blk_put (cs := #[.int .i64 3, .int .i64 (0), .string ⟨#[]⟩, .slice none 0 0]) (cs' := #[.int .i64 4, .int .i64 (0), .string ⟨#[]⟩, .slice none 0 0]) K11.out 0 (.int .i64 4) rfl))⟩; have B12 : Aside0 (Below w.heap.size w w12) := ⟨(by rw [hw_]; exact (below_set B11.out GE.out))⟩; clear hw_ K11 B11; have s0 : w12.cell? ⟨g, 0, none⟩ = some (.int .i64 4) := (blk_cell K12.out 0).trans rfl; have sf0 := blk_frozen K12.out 0; have s1 : w12.cell? ⟨g, 1, none⟩ = some (.int .i64 (0)) := (blk_cell K12.out 1).trans rfl; have sf1 := blk_frozen K12.out 1; have s2 : w12.cell? ⟨g, 2, none⟩ = some (.string ⟨#[]⟩) := (blk_cell K12.out 2).trans rfl; have sf2 := blk_frozen K12.out 2; have s3 : w12.cell? ⟨g, 3, none⟩ = some (.slice none 0 0) := (blk_cell K12.out 3).trans rfl; have sf3 := blk_frozen K12.out 3; skip))
  skip
  go_loopw [8] (fun v8 w' => ∃ (i : Nat) (v : Value), v8 = .int .i64 i ∧ Aside0 (i ≤ j) ∧ Aside0 (w'.heap[g]? = some (.cells #[.int .i64 (wrapF i (⟨4, 0, ⟨#[]⟩, []⟩ : S42)).f0, .int .i64 (wrapF i (⟨4, 0, ⟨#[]⟩, []⟩ : S42)).f1, .string (wrapF i (⟨4, 0, ⟨#[]⟩, []⟩ : S42)).f2, v] 42 (0, 0))) ∧ Aside0 (Kd.R k42 42 w' w.heap.size (fun k => k ≠ g) v (wrapF i (⟨4, 0, ⟨#[]⟩, []⟩ : S42)).f3) ∧ Aside0 (Below w.heap.size w w')) (fun v8 _ => j - (intOf v8).toNat)
  case atStart => exact ⟨0, .slice none 0 0, rfl, ⟨Nat.zero_le _⟩, ⟨K12.out⟩, ⟨Kd.R_nil _ _ _ _ _⟩, B12⟩
  case round =>
    obtain ⟨i, v, rfl, HI, KR, RR, BR⟩ := hrel
    clear s0 sf0 s1 sf1 s2 sf2 s3 sf3 K12 B12
    have hi := HI.out
    have hj9 := J9.out
    have V1 := Aside0.mk (show wrap64 ((i : Int) + 1) = ((i + 1 : Nat) : Int) by unfold wrap64; omega)
    obtain ⟨A, c, e⟩ := Kd.R_slice RR.out
    subst e
    by_cases hlt : i < j
    · have HL := Aside0.mk hlt
      have c1 : ((i : Int) < (j : Int)) = True := eq_true (by omega)
      have c2 : (i < j) = True := eq_true hlt
      have c3 : decide ((i : Int) < (j : Int)) = true := decide_eq_true (by omega)
      have HX : Aside0 (wrapF (i + 1) (⟨4, 0, ⟨#[]⟩, []⟩ : S42) = ⟨3, 0, ⟨#[]⟩, [⟨2, 0, ⟨#[]⟩, []⟩, wrapF i (⟨4, 0, ⟨#[]⟩, []⟩ : S42)]⟩) := ⟨rfl⟩
      generalize wrapF i (⟨4, 0, ⟨#[]⟩, []⟩ : S42) = x at KR RR HX
      obtain ⟨x0, x1, x2, x3⟩ := x
      simp only [] at KR RR
      clear hlt hi hj9
      go_wp2_with (first | (rw [V1.out]) | (go_at_call 12; refine (W20.out _).mono ?_; rintro e w5 ⟨rfl, hb⟩; have K5 := Aside0.mk (blk_below KR.out hb); have R5 := Aside0.mk (Kd.R_below RR.out hb); have B5 := Aside0.mk (below_step BR.out hb); clear hb KR RR BR; have y0 : w5.cell? ⟨g, 0, none⟩ = some (.int .i64 x0) := (blk_cell K5.out 0).trans rfl; have yf0 := blk_frozen K5.out 0; have y1 : w5.cell? ⟨g, 1, none⟩ = some (.int .i64 x1) := (blk_cell K5.out 1).trans rfl; have yf1 := blk_frozen K5.out 1; have y2 : w5.cell? ⟨g, 2, none⟩ = some (.string x2) := (blk_cell K5.out 2).trans rfl; have yf2 := blk_frozen K5.out 2; have y3 : w5.cell? ⟨g, 3, none⟩ = some (.slice A x3.length c) := (blk_cell K5.out 3).trans rfl; have yf3 := blk_frozen K5.out 3; skip) | ((with_reducible refine gate_dst (N := 54) rfl ?_); refine Kd.R_lit k42 (w0 := w) w.heap.size 42 ?hg (N := 54) ?hd (xs := [(⟨2, 0, ⟨#[]⟩, []⟩ : S42), ⟨x0, x1, x2, x3⟩]) (inner := [.int .i64 2, .int .i64 0, .string ⟨#[]⟩, .slice none 0 0] ++ [.int .i64 x0, .int .i64 x1, .string x2, .slice A x3.length c]) (ok := fun k => k ≠ g) (okp := fun k => k ≠ g) ?hr ?hp (fun _ h => h) ?hf B5.out B5.out.size (by simp) ?_; (case hd => rfl); (case hg => rfl); (case hr => first | (go_simp; done) | (go_simp; rfl)); (case hp => exact reps_two rfl rfl (k42_mkM _ _ _ (⟨2, 0, ⟨#[]⟩, []⟩ : S42) (Kd.R_nil _ _ _ _ _)) (k42_mkM _ _ _ (⟨x0, x1, x2, x3⟩ : S42) R5.out)); (case hf => exact fun h => absurd (blk_lt K5.out) (by omega)); intro v6 w6 ho hb hg _; obtain ⟨A6, c6, e6⟩ := Kd.R_slice ho; subst e6; have R6 := Aside0.mk ho; have B6 := Aside0.mk hb; have K6 := Aside0.mk (blk_grown K5.out hg (by simp)); clear ho hb hg K5 R5 B5 y0 y1 y2 y3 yf0 yf1 yf2 yf3; have z0 : w6.cell? ⟨g, 0, none⟩ = some (.int .i64 x0) := (blk_cell K6.out 0).trans rfl; have zf0 := blk_frozen K6.out 0; have z1 : w6.cell? ⟨g, 1, none⟩ = some (.int .i64 x1) := (blk_cell K6.out 1).trans rfl; have zf1 := blk_frozen K6.out 1; have z2 : w6.cell? ⟨g, 2, none⟩ = some (.string x2) := (blk_cell K6.out 2).trans rfl; have zf2 := blk_frozen K6.out 2; have z3 : w6.cell? ⟨g, 3, none⟩ = some (.slice A x3.length c) := (blk_cell K6.out 3).trans rfl; have zf3 := blk_frozen K6.out 3; skip) | ((with_reducible refine gate_ (.store 42 (.tmp 7) (.tmp 55)) rfl ?_); refine st_ev (w1 := ?inbnd_5_t_9) rfl rfl rfl ?hr ?_; (case hr => go_simp; rfl); intro w7 hw_; clear z0 z1 z2 z3 zf0 zf1 zf2 zf3; have K7 : Aside0 (w7.heap[g]? = some (.cells #[.int .i64 3, .int .i64 0, .string ⟨#[]⟩, .slice A6 2 c6] 42 (0, 0))) := ⟨(by rw [hw_]; exact (blk_put (cs := #[.int .i64 3, .int .i64 0, .string ⟨#[]⟩, .slice A x3.length c]) (cs' := #[.int .i64 3, .int .i64 0, .string ⟨#[]⟩, .slice A6 2 c6]) (blk_put (cs := #[.int .i64 3, .int .i64 0, .string x2, .slice A x3.length c]) (cs' := #[.int .i64 3, .int .i64 0, .string ⟨#[]⟩, .slice A x3.length c]) (blk_put (cs := #[.int .i64 3, .int .i64 x1, .string x2, .slice A x3.length c]) (cs' := #[.int .i64 3, .int .i64 0, .string x2, .slice A x3.length c]) (blk_put (cs := #[.int .i64 x0, .int .i64 x1, .string x2, .slice A x3.length c]) (cs' := #[.int .i64 3, .int .i64 x1, .string x2, .slice A x3.length c]) K6.out 0 (.int .i64 3) rfl) 1 (.int .i64 0) rfl) 2 (.string ⟨#[]⟩) rfl) 3 (.slice A6 2 c6) rfl))⟩; have R7 : Aside0 (Kd.R k42 42 w7 w.heap.size (fun k => k ≠ g) (.slice A6 2 c6) [(⟨2, 0, ⟨#[]⟩, []⟩ : S42), ⟨x0, x1, x2, x3⟩]) := ⟨(by rw [hw_]; exact Kd.R_far (p := ⟨g, 3, none⟩) (Kd.R_far (p := ⟨g, 2, none⟩) (Kd.R_far (p := ⟨g, 1, none⟩) (Kd.R_far (p := ⟨g, 0, none⟩) R6.out (fun _ hk => hk) _) (fun _ hk => hk) _) (fun _ hk => hk) _) (fun _ hk => hk) _)⟩; have B7 : Aside0 (Below w.heap.size w w7) := ⟨(by rw [hw_]; exact (below_set (below_set (below_set (below_set B6.out GE.out) GE.out) GE.out) GE.out))⟩; clear hw_ K6 R6 B6))
      refine ⟨⟨i + 1, _, rfl, ⟨HL.out⟩, ⟨by rw [HX.out]; exact K7.out⟩, ⟨by rw [HX.out]; exact R7.out⟩, B7⟩, ?_⟩
      have := HL.out
      simp only [intOf, Int.toNat_natCast]
      omega
    · obtain rfl : i = j := by omega
      obtain ⟨A', c', e', hle, hC⟩ := Kd.R_reads RR.out
      injection e' with e1 _ e3
      subst e1
      subst e3
      have CC := Aside0.mk hC
      have CL := Aside0.mk hle
      generalize wrapF i (⟨4, 0, ⟨#[]⟩, []⟩ : S42) = x at KR CC CL CK
      obtain ⟨x0, x1, x2, x3⟩ := x
      simp only [] at KR CC CL CK
      clear hC hle hlt hi hj9 RR HI
      go_wp2_with (first | (go_at_call 12; refine (W20.out _).mono ?_; rintro e w5 ⟨rfl, hb⟩; have K5 := Aside0.mk (blk_below KR.out hb); have C5 := Aside0.mk (Kd.C_below CC.out hb); have B5 := Aside0.mk (below_step BR.out hb); clear hb KR CC BR; have y0 : w5.cell? ⟨g, 0, none⟩ = some (.int .i64 x0) := (blk_cell K5.out 0).trans rfl; have yf0 := blk_frozen K5.out 0; have y1 : w5.cell? ⟨g, 1, none⟩ = some (.int .i64 x1) := (blk_cell K5.out 1).trans rfl; have yf1 := blk_frozen K5.out 1; have y2 : w5.cell? ⟨g, 2, none⟩ = some (.string x2) := (blk_cell K5.out 2).trans rfl; have yf2 := blk_frozen K5.out 2; have y3 : w5.cell? ⟨g, 3, none⟩ = some (.slice A x3.length c) := (blk_cell K5.out 3).trans rfl; have yf3 := blk_frozen K5.out 3; skip) | (go_at_call 21; refine (forms_Check.calls kk x0 x1 x2 A c x3 7 _ C5.out CL.out CK.out).mono ?_; rintro e w6 ⟨rfl, hb⟩; have B6 := Aside0.mk (below_step B5.out hb); clear hb))
      go_ret
      exact ⟨by first | rfl | (simp; done) | (simp [*]; done), B6.out⟩
end Go.Proofs.YtkkmgahgejjhgaaDoor.Bnd
/- FormsBounds: every input is one of its cases. No conditions. -/
namespace Go.Proofs.YtkkmgahgejjhgaaDoor.P
open Go.RowKit Go.Proofs.YtkkmgahgejjhgaaDoor.Pure Go.Proofs.YtkkmgahgejjhgaaDoor.Bnd Go.Proofs.YtkkmgahgejjhgaaDoorW.PrintWords Go.Proofs.YtkkmgahgejjhgaaDoorW.PrintLast Go.Proofs.YtkkmgahgejjhgaaDoorW.PrintMore
theorem formsBounds_walk (a0 : Int) (w0 : (Lit.int .i64 a0).wf = true) (a1 : Bool) (a2 : Int) (w2 : (Lit.int .i64 a2).wf = true) {W : World} (hT : TabP W) :
    Calls Tryd.prog 9 #[.int .i64 a0, .bool a1, .int .i64 a2] W fun e w' => e = .returned (.bool true) ∧ Below W.heap.size W w' := by
  obtain ⟨t, ht, hw⟩ := within_ex (i64_of w0) (n := 6) (by decide) (by decide)
  obtain ⟨j, hj, hv⟩ := within_ex (i64_of w2) (n := 20) (by decide) (by decide)
  have hj9 : j ≤ 19 := by omega
  have hc : t = 0 ∨ t = 1 ∨ t = 2 ∨ t = 3 ∨ t = 4 ∨ t = 5 := by omega
  rcases hc with rfl | rfl | rfl | rfl | rfl | rfl <;> cases a1
  · exact bnd_0_f a0 a2 j hw hv hj9 W hT
  · exact bnd_0_t a0 a2 j hw hv hj9 W hT
  · exact bnd_1_f a0 a2 j hw hv hj9 W hT
  · exact bnd_1_t a0 a2 j hw hv hj9 W hT
  · exact bnd_2_f a0 a2 j hw hv hj9 W hT
  · exact bnd_2_t a0 a2 j hw hv hj9 W hT
  · exact bnd_3_f a0 a2 j hw hv hj9 W hT
  · exact bnd_3_t a0 a2 j hw hv hj9 W hT
  · exact bnd_4_f a0 a2 j hw hv hj9 W hT
  · exact bnd_4_t a0 a2 j hw hv hj9 W hT
  · exact bnd_5_f a0 a2 j hw hv hj9 W hT
  · exact bnd_5_t a0 a2 j hw hv hj9 W hT
end Go.Proofs.YtkkmgahgejjhgaaDoor.P
/- The rows' condition on listed variables, for strconv's table of powers of ten. -/
namespace Go.Proofs.YtkkmgahgejjhgaaDoor.P
theorem tabP_of {W : World} (h : laidMetH Tryd.prog Rows.formsDeepRow.laid W) : TabP W := by
  have h' : laidMet Tryd.prog Rows.formsDeepRow.laid W := h
  obtain ⟨ps, ⟨g1, t1, c1, f1, p1, q1, _, _, _, _, ⟨g2, t2, c2, f2, p2, q2, _, _, _, _, ⟨g, t, cs, fuel, p, q, hg, ht, hvar, hd, _, _⟩, _⟩, _⟩, _⟩ := h'
  have hg1 : Tryd.prog.globalNamed "internal/strconv.uint64pow10" = some 0 := by kernel_rfl
  obtain rfl := Option.some.inj (hg1.symm.trans hg)
  have ht1 : (Tryd.prog.globals[0]?).map (·.type) = some 107 := by kernel_rfl
  obtain rfl := Option.some.inj (ht1.symm.trans ht)
  have e := Lib.cells_of_tab (n := 20) (k := .u64) (zs := Lib.pow10Tab) Tryd.underlying107 Tryd.underlying91 (by kernel_rfl) (by kernel_rfl) hd
  unfold TabP Lib.TabIs
  rw [hvar, ← e]
end Go.Proofs.YtkkmgahgejjhgaaDoor.P
