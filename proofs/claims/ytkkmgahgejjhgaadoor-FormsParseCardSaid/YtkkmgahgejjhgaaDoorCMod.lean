/- A plain model of chapter 2's tokens, over rows of bytes: blanks and remarks, names, numbers, tokens. No conditions. -/
import Derived.Test.YtkkmgahgejjhgaaDoorCPx0
namespace Go.Proofs.YtkkmgahgejjhgaaDoor.Lex
open Go.RowKit Go.Proofs.YtkkmgahgejjhgaaDoor.P Go.Proofs.YtkkmgahgejjhgaaDoorW.PrintWords

/-- A string's bytes. -/
def lst (s : ByteArray) : List UInt8 := s.data.toList
theorem lst_len (s : ByteArray) : (lst s).length = s.size := Array.length_toList
theorem lst_toList (s : ByteArray) : s.toList = lst s := ByteArray.toList_eq s
theorem lst_inj {s t : ByteArray} (h : lst s = lst t) : s = t := by
  apply ByteArray.ext
  exact Array.toList_inj.1 h
theorem lst_extract (s : ByteArray) (i j : Nat) : lst (s.extract i j) = ((lst s).drop i).take (j - i) := by
  simp only [lst, ByteArray.data_extract, Array.toList_extract, List.extract_eq_take_drop]
theorem lst_from (s : ByteArray) (i : Nat) : lst (s.extract i s.size) = (lst s).drop i := by
  rw [lst_extract, List.take_of_length_le]
  rw [List.length_drop, lst_len]
  exact Nat.le_refl _
theorem lst_upto (s : ByteArray) (j : Nat) : lst (s.extract 0 j) = (lst s).take j := by
  rw [lst_extract]
  simp
theorem lst_append (s t : ByteArray) : lst (s ++ t) = lst s ++ lst t := by
  simp [lst, ByteArray.data_append]
/-- A row's byte, as a number. -/
def nb (l : List UInt8) (i : Nat) : Int := ((l.getD i 0).toNat : Int)
theorem bt_nb (s : ByteArray) (i : Nat) : bt s (i : Int) = nb (lst s) i := by
  unfold bt nb
  rw [List.getD_eq_getElem?_getD]
  by_cases h : i < s.size
  · rw [dif_pos (by simpa using h)]
    rw [List.getElem?_eq_getElem (by rw [lst_len]; exact h)]
    simp [lst, ByteArray.getElem_eq_getElem_data]
  · rw [dif_neg (by simpa using h), List.getElem?_eq_none (by rw [lst_len]; omega)]
    rfl
theorem drop_cons {l : List UInt8} {i : Nat} (h : i < l.length) : l.drop i = l.getD i 0 :: l.drop (i + 1) := by
  rw [List.drop_eq_getElem_cons h]
  congr 1
  rw [List.getD_eq_getElem?_getD, List.getElem?_eq_getElem h]
  rfl
theorem nb_drop (l : List UInt8) (i j : Nat) : nb (l.drop i) j = nb l (i + j) := by
  simp [nb, List.getD_eq_getElem?_getD]
/-! ### Bytes -/
def pDigit (c : Int) : Bool := decide (48 ≤ c) && decide (c ≤ 57)
def pFront (c : Int) : Bool := (decide (97 ≤ c) && decide (c ≤ 122)) || (decide (65 ≤ c) && decide (c ≤ 90)) || c == 95 || c == 39
def pInner (c : Int) : Bool := pFront c || pDigit c
def pBlank (c : Int) : Bool := c == 32 || c == 9 || c == 10 || c == 13
def pLine (c : Int) : Bool := c != 10

/-- So many bytes at the front are so. -/
def spn (p : Int → Bool) : List UInt8 → Nat
  | [] => 0
  | c :: r => if p (c.toNat : Int) = true then spn p r + 1 else 0
theorem spn_le (p : Int → Bool) : ∀ l, spn p l ≤ l.length
  | [] => Nat.le_refl _
  | c :: r => by
    have := spn_le p r
    rw [spn]
    split
    · simp only [List.length_cons]
      omega
    · exact Nat.zero_le _
theorem spn_drop {p : Int → Bool} {l : List UInt8} {i : Nat} (h : i < l.length) : spn p (l.drop i) = if p (nb l i) = true then spn p (l.drop (i + 1)) + 1 else 0 := by
  rw [drop_cons h, spn]
  rfl
/-- Behind a span the predicate fails, or there is nothing. -/
theorem spn_stop (p : Int → Bool) : ∀ l, spn p l < l.length → p (nb l (spn p l)) = false
  | [], h => absurd h (Nat.not_lt_zero _)
  | c :: r, h => by
    rw [spn] at h ⊢
    by_cases hp : p (c.toNat : Int) = true
    · rw [if_pos hp] at h ⊢
      exact spn_stop p r (by simpa using h)
    · rw [if_neg hp]
      simpa [nb] using hp
theorem spn_in (p : Int → Bool) : ∀ l i, i < spn p l → p (nb l i) = true
  | [], _, h => absurd h (Nat.not_lt_zero _)
  | c :: r, i, h => by
    rw [spn] at h
    by_cases hp : p (c.toNat : Int) = true
    · rw [if_pos hp] at h
      cases i with
      | zero => exact hp
      | succ i => exact spn_in p r i (by omega)
    · rw [if_neg hp] at h
      exact absurd h (Nat.not_lt_zero _)

/-! ### Blanks and remarks: true: within a remark -/
def blk : Bool → List UInt8 → Nat
  | _, [] => 0
  | false, c :: r => if pBlank (c.toNat : Int) = true then blk false r + 1 else if (c.toNat : Int) = 59 then blk true r + 1 else 0
  | true, c :: r => if (c.toNat : Int) = 10 then blk false r + 1 else blk true r + 1
theorem blk_f (c : UInt8) (r : List UInt8) : blk false (c :: r) = if pBlank (c.toNat : Int) = true then blk false r + 1 else if (c.toNat : Int) = 59 then blk true r + 1 else 0 := rfl
theorem blk_t (c : UInt8) (r : List UInt8) : blk true (c :: r) = if (c.toNat : Int) = 10 then blk false r + 1 else blk true r + 1 := rfl
theorem blk_le : ∀ b l, blk b l ≤ l.length
  | b, [] => by cases b <;> exact Nat.le_refl _
  | false, c :: r => by
    have h1 := blk_le false r
    have h2 := blk_le true r
    rw [blk]
    simp only [List.length_cons]
    split
    · omega
    · split <;> omega
  | true, c :: r => by
    have h1 := blk_le false r
    have h2 := blk_le true r
    rw [blk]
    simp only [List.length_cons]
    split <;> omega
theorem blk_blank : ∀ l, blk false l = spn pBlank l + blk false (l.drop (spn pBlank l))
  | [] => rfl
  | c :: r => by
    have h := blk_blank r
    rw [spn]
    by_cases hp : pBlank (c.toNat : Int) = true
    · rw [if_pos hp, List.drop_succ_cons, blk, if_pos hp]
      omega
    · rw [if_neg hp, List.drop_zero, Nat.zero_add]
theorem blk_line : ∀ l, blk true l = spn pLine l + blk false (l.drop (spn pLine l))
  | [] => rfl
  | c :: r => by
    have h := blk_line r
    rw [spn]
    by_cases hp : (c.toNat : Int) = 10
    · have e : pLine (c.toNat : Int) = false := by simp [pLine, hp]
      have e2 : pBlank (c.toNat : Int) = true := by simp [pBlank, hp]
      rw [if_neg (by simp [e]), List.drop_zero, blk_t, if_pos hp, blk_f, if_pos e2]
      omega
    · have e : pLine (c.toNat : Int) = true := by simp [pLine, hp]
      rw [if_pos e, List.drop_succ_cons, blk_t, if_neg hp]
      omega
theorem blk_rem {l : List UInt8} (h : 0 < l.length) (hc : nb l 0 = 59) : blk false l = spn pLine l + blk false (l.drop (spn pLine l)) := by
  cases l with
  | nil => exact absurd h (Nat.lt_irrefl _)
  | cons c r =>
    have hc' : (c.toNat : Int) = 59 := hc
    have e1 : pBlank (c.toNat : Int) = false := by simp [pBlank, hc']
    have e2 : pLine (c.toNat : Int) = true := by simp [pLine, hc']
    rw [blk_f, if_neg (by simp [e1]), if_pos hc', spn, if_pos e2, List.drop_succ_cons, blk_line r]
    omega
theorem blk_stop {l : List UInt8} (h : 0 < l.length) (hb : pBlank (nb l 0) = false) (hc : nb l 0 ≠ 59) : blk false l = 0 := by
  cases l with
  | nil => exact absurd h (Nat.lt_irrefl _)
  | cons c r =>
    have hc' : ¬ (c.toNat : Int) = 59 := hc
    have hb' : ¬ pBlank (c.toNat : Int) = true := by
      have : pBlank (c.toNat : Int) = false := hb
      simp [this]
    rw [blk, if_neg hb', if_neg hc']

/-! ### Numbers -/
def sgn (l : List UInt8) : Nat :=
  if nb l 0 = 45 then (if 0 < spn pDigit (l.drop 1) then 1 + spn pDigit (l.drop 1) else 0) else spn pDigit l
def numD : List UInt8 → Int → Option Int
  | [], n => some n
  | c :: r, n => if n > (4611686018427387904 - ((c.toNat : Int) - 48) % 256) / 10 then none else numD r (10 * n + ((c.toNat : Int) - 48) % 256)
def num (l : List UInt8) : Option Int := if nb l 0 = 45 then (numD (l.drop 1) 0).map (fun n => -n) else numD l 0
/-! ### Tokens -/
/-- The token at the front: its kind, its number, how many bytes it has, the refusal. -/
def nextT (l : List UInt8) : Int × Int × Nat × Int :=
  if nb l 0 = 40 then (1, 0, 1, 0)
  else if nb l 0 = 41 then (2, 0, 1, 0)
  else if nb l 0 = 42 then (3, 0, 1, 0)
  else if nb l 0 = 45 ∧ 1 < l.length ∧ nb l 1 = 62 then (3, 0, 2, 0)
  else if pFront (nb l 0) = true then (if spn pInner l > 20 then (0, 0, 0, 4) else (3, 0, spn pInner l, 0))
  else if sgn l = 0 then (0, 0, 0, 6)
  else match num (l.take (sgn l)) with
    | none => (0, 0, 0, 4)
    | some v => (4, v, sgn l, 0)
/-- The token's own text. -/
def txt (k : Int) (l : List UInt8) (n : Nat) : ByteArray := if k = 3 then ⟨(l.take n).toArray⟩ else ⟨#[]⟩
def toks : Nat → List UInt8 → Nat → List S63 → List S63 × Int × Int
  | 0, _, p, _ => ([], (p : Int), 6)
  | f + 1, l, p, acc =>
    if (l.drop (blk false l)).length = 0 then (acc, 0, 0)
    else if (nextT (l.drop (blk false l))).2.2.2 = 0 then
      toks f ((l.drop (blk false l)).drop (nextT (l.drop (blk false l))).2.2.1) (p + blk false l + (nextT (l.drop (blk false l))).2.2.1)
        (acc ++ [⟨(nextT (l.drop (blk false l))).1, (nextT (l.drop (blk false l))).2.1, ((p + blk false l : Nat) : Int), txt (nextT (l.drop (blk false l))).1 (l.drop (blk false l)) (nextT (l.drop (blk false l))).2.2.1⟩])
    else ([], ((p + blk false l : Nat) : Int), (nextT (l.drop (blk false l))).2.2.2)
def tokens (l : List UInt8) : List S63 × Int × Int := if l.length > 4000 then ([], 0, 4) else toks (l.length + 1) l 0 []
end Go.Proofs.YtkkmgahgejjhgaaDoor.Lex
