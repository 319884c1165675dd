/- A number's digits, and what is read of them. -/
import Derived.Test.YtleepjnpnbkgdaaPx6
import Derived.Test.YtleepjnpnbkgdaaPureC
namespace Go.Proofs.Ytleepjnpnbkgdaa.Lex
open Go.RowKit Go.Proofs.Ytleepjnpnbkgdaa.P Go.Proofs.YtleepjnpnbkgdaaW.PrintWords Go.Proofs.YtleepjnpnbkgdaaW.PrintLast
theorem numD_append : ∀ (a b : List UInt8) (n : Int), numD (a ++ b) n = (numD a n).bind (numD b)
  | [], b, n => rfl
  | c :: a, b, n => by
    rw [List.cons_append, numD, numD]
    split
    · rfl
    · exact numD_append a b _
theorem digit_one (a : Int) (h0 : 0 ≤ a) (h1 : a < 10) : lst (strOfNums [(wrap64 (48 + a)) % 256]) = [UInt8.ofNat (48 + a.toNat)] := by
  rw [wrap_ok _ (by omega) (by omega)]
  have e : (48 + a) % 256 = ((48 + a.toNat : Nat) : Int) := by omega
  rw [e]
  rfl
theorem nb_one (d : Nat) (h : d < 10) : nb [UInt8.ofNat (48 + d)] 0 = 48 + d := by
  show ((UInt8.ofNat (48 + d)).toNat : Int) = 48 + d
  rw [UInt8.toNat_ofNat']
  omega
theorem numD_one (d : Nat) (h : d < 10) (n : Int) : numD [UInt8.ofNat (48 + d)] n = if n > (4611686018427387904 - d) / 10 then none else some (10 * n + d) := by
  have e : (((UInt8.ofNat (48 + d)).toNat : Int) - 48) % 256 = d := by
    rw [UInt8.toNat_ofNat']
    omega
  rw [numD, e]
  rfl
theorem pDigit_of {c : Int} (h0 : 48 ≤ c) (h1 : c ≤ 57) : pDigit c = true := by
  unfold pDigit
  rw [decide_eq_true h0, decide_eq_true h1]
  rfl
theorem digits_one (a : Int) (k : Nat) (h0 : 0 ≤ a) (h1 : a < 10) : thyrsusref3_Digits.f (k + 1) a = some (strOfNums [(wrap64 (48 + a)) % 256]) := by
  rw [thyrsusref3_Digits.f, if_neg (by omega), if_neg (by omega)]
def Dig (s : ByteArray) (a : Int) (m : Nat) : Prop := (lst s).length ≤ m + 1 ∧ 1 ≤ (lst s).length ∧ (∀ i, i < (lst s).length → pDigit (nb (lst s) i) = true) ∧ numD (lst s) 0 = if a ≤ 4611686018427387904 then some a else none
theorem digits_nn : ∀ (m : Nat) (a : Int) (k : Nat), 0 ≤ a → a < 10 ^ (m + 1) → a ≤ 9223372036854775807 → m ≤ 20 → m < k → ∃ s, thyrsusref3_Digits.f k a = some s ∧ Dig s a m
  | m, a, k, h0, h1, h2, hm, hk => by
    obtain ⟨k, rfl⟩ : ∃ k', k = k' + 1 := ⟨k - 1, by omega⟩
    by_cases h : a < 10
    · refine ⟨_, digits_one a k h0 h, ?_⟩
      unfold Dig
      rw [digit_one a h0 h]
      refine ⟨by simp only [List.length_singleton]; omega, Nat.le_refl _, ?_, ?_⟩
      · intro i hi
        obtain rfl : i = 0 := by simpa using hi
        rw [nb_one _ (by omega)]
        exact pDigit_of (by omega) (by omega)
      · rw [numD_one _ (by omega), if_neg (by omega), if_pos (by omega)]
        congr 1
        omega
    · cases m with
      | zero => exact absurd h1 (by simp only [Nat.zero_add, Int.pow_succ, Int.pow_zero]; omega)
      | succ m =>
        have hp : (10 : Int) ^ (m + 1 + 1) = 10 ^ (m + 1) * 10 := Int.pow_succ _ _
        rw [hp] at h1
        generalize hP : (10 : Int) ^ (m + 1) = P at *
        have t1 : Int.tdiv a 10 = a / 10 := Int.tdiv_eq_ediv_of_nonneg h0
        have t2 : Int.tmod a 10 = a % 10 := Int.tmod_eq_emod_of_nonneg h0
        obtain ⟨s, hs, hl, hl1, hd, hn⟩ := digits_nn m (a / 10) k (by omega) (by rw [hP]; omega) (by omega) (by omega) (by omega)
        obtain ⟨k, rfl⟩ : ∃ k', k = k' + 1 := ⟨k - 1, by omega⟩
        have hr0 : 0 ≤ a % 10 := Int.emod_nonneg _ (by decide)
        have hr1 : a % 10 < 10 := Int.emod_lt_of_pos _ (by decide)
        have h3 := digits_one (a % 10) k hr0 hr1
        have hz1 := lst_len s
        have e4 := digit_one (a % 10) hr0 hr1
        generalize strOfNums [(wrap64 (48 + a % 10)) % 256] = s2 at *
        have hz2 := lst_len s2
        rw [e4] at hz2
        have hz2' : s2.size = 1 := hz2.symm
        refine ⟨s ++ s2, ?_, ?_⟩
        · rw [thyrsusref3_Digits.f, if_neg (by omega), if_pos (by omega), t1, t2, wrap_ok _ (by omega) (by omega), hs, Option.bind_some, h3, Option.bind_some, if_pos (by omega)]
        · unfold Dig
          rw [lst_append, e4, List.length_append, List.length_singleton]
          refine ⟨by omega, by omega, ?_, ?_⟩
          · intro i hi
            by_cases hlt : i < (lst s).length
            · have := hd i hlt
              unfold nb at this ⊢
              rw [List.getD_eq_getElem?_getD, List.getElem?_append_left hlt, ← List.getD_eq_getElem?_getD]
              exact this
            · obtain rfl : i = (lst s).length := by omega
              have e : nb (lst s ++ [UInt8.ofNat (48 + (a % 10).toNat)]) (lst s).length = nb [UInt8.ofNat (48 + (a % 10).toNat)] 0 := by
                unfold nb
                rw [List.getD_eq_getElem?_getD, List.getElem?_append_right (Nat.le_refl _), Nat.sub_self, ← List.getD_eq_getElem?_getD]
              rw [e, nb_one _ (by omega)]
              exact pDigit_of (by omega) (by omega)
          · rw [numD_append, hn]
            by_cases hb : a / 10 ≤ 4611686018427387904
            · rw [if_pos hb, Option.bind_some, numD_one _ (by omega)]
              by_cases hc : a ≤ 4611686018427387904
              · rw [if_pos hc, if_neg (by omega)]
                congr 1
                omega
              · rw [if_neg hc, if_pos (by omega)]
            · rw [if_neg hb, if_neg (by omega)]
              rfl
/-- D is digits, not none of them, which come to n, if it is not too far. -/
def DD (D : List UInt8) (n : Int) : Prop := 1 ≤ D.length ∧ D.length ≤ 24 ∧ (∀ i, i < D.length → pDigit (nb D i) = true) ∧ numD D 0 = if n ≤ 4611686018427387904 then some n else none
theorem digits_any {a : Int} (ha : -9223372036854775808 ≤ a ∧ a ≤ 9223372036854775807) {k : Nat} (hk : 30 ≤ k) : ∃ s D, thyrsusref3_Digits.f k a = some s ∧ lst s = (if a < 0 then 45 :: D else D) ∧ DD D (if a < 0 then -a else a) := by
  obtain ⟨k, rfl⟩ : ∃ k', k = k' + 1 := ⟨k - 1, by omega⟩
  have hp : (10 : Int) ^ (18 + 1) = 10000000000000000000 := by decide
  by_cases h : a < 0
  · simp only [if_pos h]
    by_cases hm : a = -9223372036854775808
    · subst hm
      refine ⟨_, [57, 50, 50, 51, 51, 55, 50, 48, 51, 54, 56, 53, 52, 55, 55, 53, 56, 48, 56], by rw [thyrsusref3_Digits.f, if_pos h, if_pos rfl], rfl, by decide, by decide, by decide, ?_⟩
      rw [if_neg (by decide)]
      rfl
    · obtain ⟨s, hs, hl, hl1, hd, hn⟩ := digits_nn 18 (-a) k (by omega) (by rw [hp]; omega) (by omega) (by omega) (by omega)
      have hz := lst_len s
      refine ⟨(⟨#[45]⟩ : ByteArray) ++ s, lst s, ?_, ?_, hl1, by omega, hd, hn⟩
      · rw [thyrsusref3_Digits.f, if_pos h, if_neg hm, wrap_ok _ (by omega) (by omega), hs, Option.bind_some, if_pos (by omega)]
      · rw [lst_append]
        rfl
  · simp only [if_neg h]
    obtain ⟨s, hs, hl, hl1, hd, hn⟩ := digits_nn 18 a (k + 1) (by omega) (by rw [hp]; omega) ha.2 (by omega) (by omega)
    exact ⟨s, lst s, hs, rfl, hl1, by omega, hd, hn⟩
theorem spn_all {p : Int → Bool} : ∀ (l : List UInt8), (∀ i, i < l.length → p (nb l i) = true) → spn p l = l.length
  | [], _ => rfl
  | c :: r, h => by
    have h0 : p (c.toNat : Int) = true := h 0 (by simp)
    rw [spn, if_pos h0, spn_all r (fun i hi => h (i + 1) (by simpa using hi)), List.length_cons]
theorem pDigit_range {c : Int} (h : pDigit c = true) : 48 ≤ c ∧ c ≤ 57 := by
  unfold pDigit at h
  simpa using h
theorem digit_front {c : Int} (h : pDigit c = true) : pFront c = false := by
  have := pDigit_range h
  have e1 : decide ((97 : Int) ≤ c) = false := decide_eq_false (by omega)
  have e2 : decide ((65 : Int) ≤ c) = false := decide_eq_false (by omega)
  have e3 : (c == 95) = false := by rw [beq_eq_false_iff_ne]; omega
  have e4 : (c == 39) = false := by rw [beq_eq_false_iff_ne]; omega
  unfold pFront
  rw [e1, e2, e3, e4]
  rfl
/-- What a number's bytes, with or without the sign, are as a token. -/
theorem nextT_num {D : List UInt8} {n : Int} (h : DD D n) : nextT D = (if n ≤ 4611686018427387904 then (4, n, D.length, 0) else (0, 0, 0, 4)) := by
  obtain ⟨h1, h2, h3, h4⟩ := h
  have h0 := h3 0 (by omega)
  have hr := pDigit_range h0
  have hs : sgn D = D.length := by
    unfold sgn
    rw [if_neg (by omega), spn_all D h3]
  unfold nextT
  rw [if_neg (by omega), if_neg (by omega), if_neg (by omega), if_neg (by omega), if_neg (by rw [digit_front h0]; decide), hs, if_neg (by omega), List.take_length]
  have hn : num D = numD D 0 := by
    unfold num
    rw [if_neg (by omega)]
  rw [hn, h4]
  by_cases hq : n ≤ 4611686018427387904
  · rw [if_pos hq, if_pos hq]
  · rw [if_neg hq, if_neg hq]
theorem nextT_neg {D : List UInt8} {n : Int} (h : DD D n) : nextT (45 :: D) = (if n ≤ 4611686018427387904 then (4, -n, D.length + 1, 0) else (0, 0, 0, 4)) := by
  obtain ⟨h1, h2, h3, h4⟩ := h
  have h0 := h3 0 (by omega)
  have hr := pDigit_range h0
  have e0 : nb (45 :: D) 0 = 45 := rfl
  have e1 : nb (45 :: D) 1 = nb D 0 := rfl
  have hs : sgn (45 :: D) = D.length + 1 := by
    unfold sgn
    rw [if_pos e0, List.drop_succ_cons, List.drop_zero, spn_all D h3, if_pos (by omega)]
    omega
  unfold nextT
  rw [e0, e1, if_neg (by decide), if_neg (by decide), if_neg (by decide), if_neg (by omega), if_neg (by decide), hs, if_neg (by omega), ← List.length_cons (a := (45 : UInt8)), List.take_length]
  have hn : num (45 :: D) = (numD D 0).map (fun n => -n) := by
    unfold num
    rw [if_pos e0]
    rfl
  rw [hn, h4]
  by_cases hq : n ≤ 4611686018427387904
  · rw [if_pos hq, if_pos hq]
    rfl
  · rw [if_neg hq, if_neg hq]
    rfl
theorem blk_zero {l : List UInt8} (h0 : 0 < l.length) (hb : pBlank (nb l 0) = false) (hc : nb l 0 ≠ 59) : blk false l = 0 := blk_stop h0 hb hc
/-- One token, behind so many blanks, and nothing else. -/
theorem tokens_one {pre l : List UInt8} {k n : Int} (hp : pre = [] ∨ pre = [32]) (hl : 1 ≤ l.length) (hl2 : l.length ≤ 30) (hb : pBlank (nb l 0) = false) (hc : nb l 0 ≠ 59) (h : nextT l = (k, n, l.length, 0)) :
    tokens (pre ++ l) = ([⟨k, n, (pre.length : Int), txt k l l.length⟩], 0, 0) := by
  have hz := blk_zero (by omega) hb hc
  have hB : blk false (pre ++ l) = pre.length := by
    rcases hp with rfl | rfl
    · exact hz
    · show blk false (32 :: l) = 1
      rw [blk_f, if_pos (by decide), hz]
  have hpl : pre.length ≤ 1 := by rcases hp with rfl | rfl <;> decide
  unfold tokens
  rw [List.length_append, if_neg (by omega)]
  obtain ⟨f, hf⟩ : ∃ f, pre.length + l.length + 1 = f + 2 := ⟨pre.length + l.length - 1, by omega⟩
  rw [hf, toks, hB, List.drop_left, h, if_neg (by omega), if_pos rfl, toks]
  rw [List.drop_length]
  simp [blk]
theorem tokens_far {pre l : List UInt8} {k n e : Int} {m : Nat} (hp : pre = [] ∨ pre = [32]) (hl : 1 ≤ l.length) (hl2 : l.length ≤ 30) (hb : pBlank (nb l 0) = false) (hc : nb l 0 ≠ 59) (h : nextT l = (k, n, m, e)) (he : e ≠ 0) :
    tokens (pre ++ l) = ([], (pre.length : Int), e) := by
  have hz := blk_zero (by omega) hb hc
  have hB : blk false (pre ++ l) = pre.length := by
    rcases hp with rfl | rfl
    · exact hz
    · show blk false (32 :: l) = 1
      rw [blk_f, if_pos (by decide), hz]
  have hpl : pre.length ≤ 1 := by rcases hp with rfl | rfl <;> decide
  unfold tokens
  rw [List.length_append, if_neg (by omega), toks, hB, List.drop_left, h, if_neg (by omega), if_neg he]
  simp
theorem tokens_digits {pre : List UInt8} {s : ByteArray} {D : List UInt8} {a : Int} (hp : pre = [] ∨ pre = [32]) (hs : lst s = (if a < 0 then 45 :: D else D)) (h : DD D (if a < 0 then -a else a)) :
    tokens (pre ++ lst s) = if -4611686018427387904 ≤ a ∧ a ≤ 4611686018427387904 then ([⟨4, a, (pre.length : Int), ⟨#[]⟩⟩], 0, 0) else ([], (pre.length : Int), 4) := by
  rw [hs]
  have h1 := h.1
  have h2 := h.2.1
  have hr := pDigit_range (h.2.2.1 0 (by omega))
  by_cases hn : a < 0
  · rw [if_pos hn] at h ⊢
    have e := nextT_neg h
    by_cases hf : -a ≤ 4611686018427387904
    · rw [if_pos hf] at e
      rw [if_pos (by omega), tokens_one hp (by simp) (by simp only [List.length_cons]; omega) (by show pBlank 45 = false; decide) (by show (45 : Int) ≠ 59; decide) (by rw [e, List.length_cons]), txt_none 4 (by decide)]
      rw [Int.neg_neg]
    · rw [if_neg hf] at e
      rw [if_neg (by omega), tokens_far hp (by simp) (by simp only [List.length_cons]; omega) (by show pBlank 45 = false; decide) (by show (45 : Int) ≠ 59; decide) e (by decide)]
  · rw [if_neg hn] at h ⊢
    have e := nextT_num h
    have hb : pBlank (nb D 0) = false := by
      have e1 : (nb D 0 == 32) = false := by rw [beq_eq_false_iff_ne]; omega
      have e2 : (nb D 0 == 9) = false := by rw [beq_eq_false_iff_ne]; omega
      have e3 : (nb D 0 == 10) = false := by rw [beq_eq_false_iff_ne]; omega
      have e4 : (nb D 0 == 13) = false := by rw [beq_eq_false_iff_ne]; omega
      unfold pBlank
      rw [e1, e2, e3, e4]
      rfl
    by_cases hf : a ≤ 4611686018427387904
    · rw [if_pos hf] at e
      rw [if_pos (by omega), tokens_one hp h1 (by omega) hb (by omega) e, txt_none 4 (by decide)]
    · rw [if_neg hf] at e
      rw [if_neg (by omega), tokens_far hp h1 (by omega) hb (by omega) e (by decide)]
end Go.Proofs.Ytleepjnpnbkgdaa.Lex
