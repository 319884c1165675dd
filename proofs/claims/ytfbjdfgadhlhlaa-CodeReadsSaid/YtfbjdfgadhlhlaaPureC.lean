/- What the reader makes of a term's bytes, of more, of fewer. -/
import Derived.Test.YtfbjdfgadhlhlaaPureB
import Derived.Test.YtfbjdfgadhlhlaaHandD
import Derived.Laws.BitsAllLaws
namespace Go.Proofs.Ytfbjdfgadhlhlaa.P
open Go.RowKit Go.Proofs.YtfbjdfgadhlhlaaW.PrintWords Go.Proofs.YtfbjdfgadhlhlaaW.PrintLast Go.Proofs.YtfbjdfgadhlhlaaW.PrintMore
set_option linter.unusedVariables false
set_option linter.unusedSimpArgs false

mutual
/-- How deep a term is. -/
def deep29 : S29 → Nat
  | ⟨_, _, l⟩ => 1 + deeps29 l
def deeps29 : List S29 → Nat
  | [] => 0
  | x :: l => max (deep29 x) (deeps29 l)
end
theorem or_lo (i m y x : Nat) (hm : m = 2 ^ i) (hy : y < m) (hy2 : y < 18446744073709551616) (h : x * m < 18446744073709551616) : bits .or .u64 (y : Int) ((x * m : Nat) : Int) = ((x * m + y : Nat) : Int) := by
  rw [u64_or_nat _ _ hy2 h]
  subst hm
  rw [Nat.or_comm, ← Nat.shiftLeft_eq, Nat.shiftLeft_add_eq_or_of_lt hy]
/-- Eight bytes as a number, the lowest first. -/
def sum8 (x0 x1 x2 x3 x4 x5 x6 x7 : Int) : Int := x0 + x1 * 256 + x2 * 65536 + x3 * 16777216 + x4 * 4294967296 + x5 * 1099511627776 + x6 * 281474976710656 + x7 * 72057594037927936
theorem rdNum_eight (x0 x1 x2 x3 x4 x5 x6 x7 : Int) (r : List Int) (h0 : 0 ≤ x0 ∧ x0 ≤ 255) (h1 : 0 ≤ x1 ∧ x1 ≤ 255) (h2 : 0 ≤ x2 ∧ x2 ≤ 255) (h3 : 0 ≤ x3 ∧ x3 ≤ 255) (h4 : 0 ≤ x4 ∧ x4 ≤ 255) (h5 : 0 ≤ x5 ∧ x5 ≤ 255) (h6 : 0 ≤ x6 ∧ x6 ≤ 255) (h7 : 0 ≤ x7 ∧ x7 ≤ 255) :
    rdNum (x0 :: x1 :: x2 :: x3 :: x4 :: x5 :: x6 :: x7 :: r) 0 8 = (sum8 x0 x1 x2 x3 x4 x5 x6 x7, r, 0) := by
  obtain ⟨n0, rfl⟩ := Int.eq_ofNat_of_zero_le h0.1
  obtain ⟨n1, rfl⟩ := Int.eq_ofNat_of_zero_le h1.1
  obtain ⟨n2, rfl⟩ := Int.eq_ofNat_of_zero_le h2.1
  obtain ⟨n3, rfl⟩ := Int.eq_ofNat_of_zero_le h3.1
  obtain ⟨n4, rfl⟩ := Int.eq_ofNat_of_zero_le h4.1
  obtain ⟨n5, rfl⟩ := Int.eq_ofNat_of_zero_le h5.1
  obtain ⟨n6, rfl⟩ := Int.eq_ofNat_of_zero_le h6.1
  obtain ⟨n7, rfl⟩ := Int.eq_ofNat_of_zero_le h7.1
  simp only [rdNum, rdByte, if_true]
  have w : ∀ (n j m : Nat), m = 2 ^ j → n * m < 18446744073709551616 → IntKind.u64.wrap ((n : Int) * 2 ^ j) = ((n * m : Nat) : Int) := fun n j m hm hh => by
    subst hm
    rw [wrap_u64 (by have : (0 : Int) ≤ ((n * 2 ^ j : Nat) : Int) := by omega
                     simpa using this) (by have : ((n * 2 ^ j : Nat) : Int) < 18446744073709551616 := by omega
                                           simpa using this)]
    simp
  rw [w n0 (8 * 0) 1 (by decide) (by omega), w n1 (8 * 1) 256 (by decide) (by omega), w n2 (8 * 2) 65536 (by decide) (by omega), w n3 (8 * 3) 16777216 (by decide) (by omega), w n4 (8 * 4) 4294967296 (by decide) (by omega), w n5 (8 * 5) 1099511627776 (by decide) (by omega), w n6 (8 * 6) 281474976710656 (by decide) (by omega), w n7 (8 * 7) 72057594037927936 (by decide) (by omega)]
  rw [show (0 : Int) = ((0 : Nat) : Int) from rfl, or_lo 0 1 0 n0 (by decide) (by omega) (by omega) (by omega), or_lo 8 256 _ n1 (by decide) (by omega) (by omega) (by omega), or_lo 16 65536 _ n2 (by decide) (by omega) (by omega) (by omega), or_lo 24 16777216 _ n3 (by decide) (by omega) (by omega) (by omega), or_lo 32 4294967296 _ n4 (by decide) (by omega) (by omega) (by omega), or_lo 40 1099511627776 _ n5 (by decide) (by omega) (by omega) (by omega), or_lo 48 281474976710656 _ n6 (by decide) (by omega) (by omega) (by omega), or_lo 56 72057594037927936 _ n7 (by decide) (by omega) (by omega) (by omega)]
  unfold sum8
  congr 1
  omega
theorem rdKids_err {rec : List Int → Int → S29 × List Int × Int × Int} {e : Int} (he : e ≠ 0) : ∀ (m : Nat) (ks : List S29) (l : List Int) (n : Int), rdKids rec m ks l n e = (ks, l, n, e)
  | 0, _, _, _ => rfl
  | m + 1, _, _, _ => by simp only [rdKids, if_neg he]
/-- A node's ten bytes, and what is behind them. -/
theorem rd_node (f : Nat) (a x0 x1 x2 x3 x4 x5 x6 x7 m : Int) (r : List Int) (n : Int) (hn : n ≤ 2999) (h0 : 0 ≤ x0 ∧ x0 ≤ 255) (h1 : 0 ≤ x1 ∧ x1 ≤ 255) (h2 : 0 ≤ x2 ∧ x2 ≤ 255) (h3 : 0 ≤ x3 ∧ x3 ≤ 255) (h4 : 0 ≤ x4 ∧ x4 ≤ 255) (h5 : 0 ≤ x5 ∧ x5 ≤ 255) (h6 : 0 ≤ x6 ∧ x6 ≤ 255) (h7 : 0 ≤ x7 ∧ x7 ≤ 255) :
    rdTerm (f + 1) (a :: x0 :: x1 :: x2 :: x3 :: x4 :: x5 :: x6 :: x7 :: m :: r) n = (⟨a, wrap64 (sum8 x0 x1 x2 x3 x4 x5 x6 x7), (rdKids (rdTerm f) m.toNat [] r (n + 1) 0).1⟩, (rdKids (rdTerm f) m.toNat [] r (n + 1) 0).2) := by
  have e1 : rdByte (a :: x0 :: x1 :: x2 :: x3 :: x4 :: x5 :: x6 :: x7 :: m :: r) 0 = (a, x0 :: x1 :: x2 :: x3 :: x4 :: x5 :: x6 :: x7 :: m :: r, 0) := by simp [rdByte]
  have e2 := rdNum_eight x0 x1 x2 x3 x4 x5 x6 x7 (m :: r) h0 h1 h2 h3 h4 h5 h6 h7
  have e3 : rdByte (m :: r) 0 = (m, r, 0) := by simp [rdByte]
  have hn' : ¬ 3000 < n + 1 := by omega
  simp only [rdTerm, if_neg hn', e1, e2, e3]
theorem rdNum_drop : ∀ (k : Nat) (l : List Int), k ≤ l.length → (rdNum l 0 k).2 = (l.drop k, 0)
  | 0, l, _ => rfl
  | k + 1, l, h => by
    have ih := rdNum_drop k l (by omega)
    simp only [rdNum]
    rw [ih]
    have : l.drop k = l[k] :: l.drop (k + 1) := List.drop_eq_getElem_cons (by omega)
    simp only [this, rdByte, if_true]
theorem rdNum_short : ∀ (k : Nat) (l : List Int), l.length < k → (rdNum l 0 k).2.2 = 2
  | 0, l, h => by omega
  | k + 1, l, h => by
    simp only [rdNum]
    by_cases hk : l.length < k
    · have ih := rdNum_short k l hk
      rw [ih, rdByte_err (by decide)]
    · have ih := rdNum_drop k l (by omega)
      rw [ih, List.drop_of_length_le (by omega)]
      simp [rdByte]
/-- Fewer than ten bytes are no node. -/
theorem rd_short (f : Nat) (l : List Int) (n : Int) (hn : n ≤ 2999) (h : l.length < 10) : (rdTerm (f + 1) l n).2.2.2 = 2 := by
  have hn' : ¬ 3000 < n + 1 := by omega
  simp only [rdTerm, if_neg hn']
  cases l with
  | nil =>
    have e1 : rdByte [] 0 = (0, [], 2) := by simp [rdByte]
    simp only [e1, rdNum_err (show (2 : Int) ≠ 0 by decide), rdByte_err (show (2 : Int) ≠ 0 by decide)]
    rfl
  | cons a l =>
    simp only [List.length_cons] at h
    have e1 : rdByte (a :: l) 0 = (a, l, 0) := by simp [rdByte]
    simp only [e1]
    by_cases hl : l.length < 8
    · have e2 := rdNum_short 8 l hl
      rw [e2, rdByte_err (show (2 : Int) ≠ 0 by decide)]
      rfl
    · have e2 := rdNum_drop 8 l (by omega)
      rw [e2, List.drop_of_length_le (by omega)]
      have e3 : rdByte [] 0 = (0, [], 2) := by simp [rdByte]
      simp only [e3]
      rfl
theorem encN_range (b : Int) (i : Nat) : 0 ≤ encN b i ∧ encN b i ≤ 255 := by
  unfold encN
  omega
theorem sum8_enc {b : Int} (h : -9223372036854775808 ≤ b ∧ b ≤ 9223372036854775807) : wrap64 (sum8 (encN b 0) (encN b 1) (encN b 2) (encN b 3) (encN b 4) (encN b 5) (encN b 6) (encN b 7)) = b := by
  have w1 : ∀ x : Int, IntKind.u64.wrap x = x % 18446744073709551616 := fun x => by simp [IntKind.wrap, IntKind.bits, IntKind.signed]
  simp only [sum8, encN, w1]
  simp only [Nat.reduceMul, Int.reducePow]
  unfold wrap64
  omega
theorem enc_node (f : Nat) (a b : Int) (l : List S29) (r : List Int) (n : Int) (hn : n ≤ 2999) (ha : 0 ≤ a ∧ a < 256) (hb : -9223372036854775808 ≤ b ∧ b ≤ 9223372036854775807) (hl : l.length ≤ 255) :
    rdTerm (f + 1) ((a % 256) :: encN b 0 :: encN b 1 :: encN b 2 :: encN b 3 :: encN b 4 :: encN b 5 :: encN b 6 :: encN b 7 :: ((l.length : Int) % 256) :: r) n = (⟨a, b, (rdKids (rdTerm f) l.length [] r (n + 1) 0).1⟩, (rdKids (rdTerm f) l.length [] r (n + 1) 0).2) := by
  rw [rd_node f _ _ _ _ _ _ _ _ _ _ r n hn (encN_range _ _) (encN_range _ _) (encN_range _ _) (encN_range _ _) (encN_range _ _) (encN_range _ _) (encN_range _ _) (encN_range _ _), sum8_enc hb, show a % 256 = a by omega, show ((l.length : Int) % 256).toNat = l.length by omega]
mutual
theorem rdTerm_enc : ∀ (t : S29) (f : Nat) (r : List Int) (n : Int), fine t → 0 ≤ n → n ≤ 3000 →
    (deep29 t ≤ f ∧ n + size29 t ≤ 3000 → rdTerm f (enc t ++ r) n = (t, r, n + size29 t, 0)) ∧ (¬ (deep29 t ≤ f ∧ n + size29 t ≤ 3000) → (rdTerm f (enc t ++ r) n).2.2.2 = 5)
  | ⟨a, b, l⟩, 0, r, n, h, h0, h1 => by
    refine ⟨fun hh => ?_, fun _ => rfl⟩
    simp only [deep29] at hh
    omega
  | ⟨a, b, l⟩, f + 1, r, n, h, h0, h1 => by
    obtain ⟨ha, hb, hn, hl⟩ := h
    simp only [deep29, size29]
    by_cases hn9 : n ≤ 2999
    · rw [enc_cons]
      simp only [List.cons_append]
      rw [enc_node f a b l (encs l ++ r) n hn9 ha hb hn]
      have ih := rdKids_encs l f r (n + 1) [] hl (by omega) (by omega)
      constructor
      · intro hh
        rw [ih.1 ⟨by omega, by omega⟩]
        simp
        omega
      · intro hh
        exact ih.2 (fun hq => hh ⟨by omega, by omega⟩)
    · constructor
      · intro hh
        omega
      · intro hh
        have hn' : 3000 < n + 1 := by omega
        simp only [rdTerm, if_pos hn']
theorem rdKids_encs : ∀ (l : List S29) (f : Nat) (r : List Int) (n : Int) (ks : List S29), fines l → 0 ≤ n → n ≤ 3000 →
    (deeps29 l ≤ f ∧ n + sizes29 l ≤ 3000 → rdKids (rdTerm f) l.length ks (encs l ++ r) n 0 = (ks ++ l, r, n + sizes29 l, 0)) ∧ (¬ (deeps29 l ≤ f ∧ n + sizes29 l ≤ 3000) → (rdKids (rdTerm f) l.length ks (encs l ++ r) n 0).2.2.2 = 5)
  | [], f, r, n, ks, h, h0, h1 => by
    simp [rdKids, encs, deeps29, sizes29]
    omega
  | x :: l, f, r, n, ks, h, h0, h1 => by
    have ih := rdTerm_enc x f (encs l ++ r) n h.1 h0 h1
    simp only [List.length_cons, rdKids, if_true, encs, List.append_assoc, deeps29, sizes29]
    by_cases hc : deep29 x ≤ f ∧ n + size29 x ≤ 3000
    · rw [ih.1 hc]
      have ih2 := rdKids_encs l f r (n + size29 x) (ks ++ [x]) h.2 (by omega) (by omega)
      constructor
      · intro hh
        simp only
        rw [ih2.1 ⟨by omega, by omega⟩]
        simp
        omega
      · intro hh
        exact ih2.2 (fun hq => hh ⟨by omega, by omega⟩)
    · have e5 := ih.2 hc
      constructor
      · intro hh
        exact absurd ⟨by omega, by omega⟩ hc
      · intro hh
        rw [e5, rdKids_err (by decide)]
end
mutual
theorem rdTerm_cut : ∀ (t : S29) (f j : Nat) (n : Int), fine t → j < (enc t).length → 0 ≤ n → n ≤ 3000 →
    (rdTerm f ((enc t).take j) n).2.2.2 ≠ 0 ∧ (deep29 t ≤ f ∧ n + size29 t ≤ 3000 → (rdTerm f ((enc t).take j) n).2.2.2 = 2)
  | ⟨a, b, l⟩, 0, j, n, h, hj, h0, h1 => by
    refine ⟨by simp [rdTerm], fun hh => ?_⟩
    simp only [deep29] at hh
    omega
  | ⟨a, b, l⟩, f + 1, j, n, h, hj, h0, h1 => by
    obtain ⟨ha, hb, hn, hl⟩ := h
    by_cases hn9 : n ≤ 2999
    · by_cases hj10 : j < 10
      · have := rd_short f ((enc ⟨a, b, l⟩).take j) n hn9 (by rw [List.length_take]; omega)
        rw [this]
        exact ⟨by decide, fun _ => rfl⟩
      · obtain ⟨i, rfl⟩ : ∃ i, j = i + 10 := ⟨j - 10, by omega⟩
        have hlen := enc_ten ⟨a, b, l⟩
        simp only [] at hlen
        rw [enc_cons]
        simp only [List.take_succ_cons]
        rw [enc_node f a b l _ n hn9 ha hb hn]
        have ih := rdKids_cut l f i (n + 1) [] hl (by omega) (by omega) (by omega)
        simp only [deep29, size29]
        exact ⟨ih.1, fun hh => ih.2 ⟨by omega, by omega⟩⟩
    · have hn' : 3000 < n + 1 := by omega
      simp only [rdTerm, if_pos hn', size29]
      exact ⟨by decide, fun hh => by omega⟩
theorem rdKids_cut : ∀ (l : List S29) (f j : Nat) (n : Int) (ks : List S29), fines l → j < (encs l).length → 0 ≤ n → n ≤ 3000 →
    (rdKids (rdTerm f) l.length ks ((encs l).take j) n 0).2.2.2 ≠ 0 ∧ (deeps29 l ≤ f ∧ n + sizes29 l ≤ 3000 → (rdKids (rdTerm f) l.length ks ((encs l).take j) n 0).2.2.2 = 2)
  | [], f, j, n, ks, h, hj, h0, h1 => by simp [encs] at hj
  | x :: l, f, j, n, ks, h, hj, h0, h1 => by
    simp only [List.length_cons, rdKids, if_true, encs, deeps29, sizes29]
    simp only [encs, List.length_append] at hj
    by_cases hx : j < (enc x).length
    · rw [List.take_append_of_le_length (by omega)]
      have ih := rdTerm_cut x f j n h.1 hx h0 h1
      rw [rdKids_err ih.1]
      exact ⟨ih.1, fun hh => ih.2 ⟨by omega, by omega⟩⟩
    · have ht : (enc x ++ encs l).take j = enc x ++ (encs l).take (j - (enc x).length) := by
        rw [List.take_append, List.take_of_length_le (by omega)]
      rw [ht]
      have ih := rdTerm_enc x f ((encs l).take (j - (enc x).length)) n h.1 h0 h1
      by_cases hc : deep29 x ≤ f ∧ n + size29 x ≤ 3000
      · rw [ih.1 hc]
        have ih2 := rdKids_cut l f (j - (enc x).length) (n + size29 x) (ks ++ [x]) h.2 (by omega) (by omega) (by omega)
        exact ⟨ih2.1, fun hh => ih2.2 ⟨by omega, by omega⟩⟩
      · have e5 := ih.2 hc
        rw [e5, rdKids_err (by decide)]
        exact ⟨by simp, fun hh => absurd ⟨by omega, by omega⟩ hc⟩
end
end Go.Proofs.Ytfbjdfgadhlhlaa.P
