/- LexNames, the plain law: a name of twenty bytes is one, a longer one is not; names go as long as they go. No conditions but that the numbers are whole numbers of 64 bits. -/
import Derived.Test.YtleepjnpnbkgdaaPx7
import Derived.Test.YtleepjnpnbkgdaaPureC
namespace Go.Proofs.Ytleepjnpnbkgdaa.Pure
open Go.RowKit Go.Proofs.Ytleepjnpnbkgdaa.P Go.Proofs.YtleepjnpnbkgdaaW.PrintWords Go.Proofs.YtleepjnpnbkgdaaW.PrintLast Go.Proofs.Ytleepjnpnbkgdaa.Lex
theorem wrap_in (n : Int) : -9223372036854775808 ≤ wrap64 n ∧ wrap64 n ≤ 9223372036854775807 := by
  unfold wrap64
  omega
/-- A name's bytes: the first may begin one, all may stand in one. -/
def Nm (l : List UInt8) : Prop := 1 ≤ l.length ∧ pFront (nb l 0) = true ∧ ∀ i, i < l.length → pInner (nb l i) = true
theorem front_ne {c : Int} (h : pFront c = true) : c ≠ 40 ∧ c ≠ 41 ∧ c ≠ 42 ∧ c ≠ 45 ∧ c ≠ 59 ∧ pBlank c = false := by
  refine ⟨?_, ?_, ?_, ?_, ?_, ?_⟩
  · rintro rfl; exact absurd h (by decide)
  · rintro rfl; exact absurd h (by decide)
  · rintro rfl; exact absurd h (by decide)
  · rintro rfl; exact absurd h (by decide)
  · rintro rfl; exact absurd h (by decide)
  · have e1 : (c == 32) = false := by rw [beq_eq_false_iff_ne]; rintro rfl; exact absurd h (by decide)
    have e2 : (c == 9) = false := by rw [beq_eq_false_iff_ne]; rintro rfl; exact absurd h (by decide)
    have e3 : (c == 10) = false := by rw [beq_eq_false_iff_ne]; rintro rfl; exact absurd h (by decide)
    have e4 : (c == 13) = false := by rw [beq_eq_false_iff_ne]; rintro rfl; exact absurd h (by decide)
    unfold pBlank
    rw [e1, e2, e3, e4]
    rfl
theorem spn_upto {p : Int → Bool} : ∀ (l r : List UInt8), (∀ i, i < l.length → p (nb l i) = true) → (r = [] ∨ p (nb r 0) = false) → spn p (l ++ r) = l.length
  | [], r, _, h => by
    rcases h with rfl | h
    · rfl
    · cases r with
      | nil => rfl
      | cons c r =>
        have hc : p (c.toNat : Int) = false := h
        rw [List.nil_append, spn, if_neg (by rw [hc]; decide)]
        rfl
  | c :: l, r, h, hr => by
    have h0 : p (c.toNat : Int) = true := h 0 (by simp)
    rw [List.cons_append, spn, if_pos h0, spn_upto l r (fun i hi => h (i + 1) (by simpa using hi)) hr, List.length_cons]
theorem nb_append {l r : List UInt8} {i : Nat} (h : i < l.length) : nb (l ++ r) i = nb l i := by
  unfold nb
  rw [List.getD_eq_getElem?_getD, List.getElem?_append_left h, ← List.getD_eq_getElem?_getD]
theorem nextT_name {l r : List UInt8} (h : Nm l) (hr : r = [] ∨ pInner (nb r 0) = false) : nextT (l ++ r) = if l.length > 20 then (0, 0, 0, 4) else (3, 0, l.length, 0) := by
  obtain ⟨h1, h2, h3⟩ := h
  have h0 : nb (l ++ r) 0 = nb l 0 := nb_append (by omega)
  obtain ⟨a1, a2, a3, a4, a5, a6⟩ := front_ne h2
  unfold nextT
  rw [h0, if_neg a1, if_neg a2, if_neg a3, if_neg (fun h => a4 h.1), if_pos h2, spn_upto l r h3 hr]
theorem nextT_open (l : List UInt8) : nextT (40 :: l) = (1, 0, 1, 0) := by
  unfold nextT
  rw [if_pos (show nb (40 :: l) 0 = 40 from rfl)]
theorem nextT_close (l : List UInt8) : nextT (41 :: l) = (2, 0, 1, 0) := by
  unfold nextT
  have e : nb (41 :: l) 0 = 41 := rfl
  rw [e, if_neg (by decide), if_pos rfl]
theorem tokens_name {l : List UInt8} (h : Nm l) (hl : l.length ≤ 30) : tokens (40 :: (l ++ [41])) = if l.length > 20 then ([], 1, 4) else ([⟨1, 0, 0, ⟨#[]⟩⟩, ⟨3, 0, 1, ⟨l.toArray⟩⟩, ⟨2, 0, ((l.length + 1 : Nat) : Int), ⟨#[]⟩⟩], 0, 0) := by
  have hn := nextT_name (r := [41]) h (Or.inr (by decide))
  obtain ⟨h1, h2, h3⟩ := h
  obtain ⟨a1, a2, a3, a4, a5, a6⟩ := front_ne h2
  have h0 : nb (l ++ [41]) 0 = nb l 0 := nb_append (by omega)
  have hb : blk false (l ++ [41]) = 0 := blk_stop (by rw [List.length_append]; omega) (by rw [h0]; exact a6) (by rw [h0]; exact a5)
  have hlen : (40 :: (l ++ [41])).length = l.length + 2 := by simp
  unfold tokens
  rw [hlen, if_neg (by omega), toks]
  have b0 : blk false (40 :: (l ++ [41])) = 0 := rfl
  rw [b0, List.drop_zero, nextT_open, hlen, if_neg (by omega), if_pos rfl]
  simp only [List.drop_succ_cons, List.drop_zero]
  rw [toks, hb, List.drop_zero, hn, List.length_append, if_neg (by simp only [List.length_singleton]; omega)]
  by_cases hg : l.length > 20
  · rw [if_pos hg, if_pos hg, if_neg (by decide)]
    rfl
  · rw [if_neg hg, if_neg hg, if_pos rfl]
    simp only [List.drop_left]
    obtain ⟨f, hf⟩ : ∃ f, l.length = f + 1 := ⟨l.length - 1, by omega⟩
    have b1 : blk false [41] = 0 := rfl
    rw [hf, toks, b1, List.drop_zero, nextT_close, if_neg (by decide), if_pos rfl, toks]
    have b2 : (List.drop (blk false (List.drop 1 [41])) (List.drop 1 ([41] : List UInt8))).length = 0 := rfl
    rw [if_pos b2]
    simp only [List.nil_append, List.cons_append, txt]
    rw [← hf, List.take_left]
    simp [Nat.add_comm]
theorem name_l0 {s : ByteArray} (hs : s.size ≤ 100) (h : ∀ i, i < s.size → pInner (nb (lst s) i) = true) : ∀ d i k, s.size - i ≤ d → i ≤ s.size → d < k → thyrsusref2_Name.l0 k s (i : Int) = some true
  | d, i, k, hd, hi, hk => by
    obtain ⟨k, rfl⟩ : ∃ k', k = k' + 1 := ⟨k - 1, by omega⟩
    by_cases hlt : i < s.size
    · obtain ⟨d, rfl⟩ : ∃ d', d = d' + 1 := ⟨d - 1, by omega⟩
      have e : thyrsusref2_inner.f (nb (lst s) i) = some true := (inner_r' _).trans (by rw [h i hlt])
      rw [thyrsusref2_Name.l0, if_pos (by omega), if_pos (by omega), bt_nb, e, Option.bind_some, if_pos rfl, w1 i (by omega)]
      exact name_l0 hs h d (i + 1) k (by omega) (by omega) (by omega)
    · rw [thyrsusref2_Name.l0, if_neg (by omega)]
theorem name_r {s : ByteArray} (hs : s.size ≤ 20) (h : Nm (lst s)) {k : Nat} (hk : 40 ≤ k) : thyrsusref2_Name.f k s = some true := by
  obtain ⟨h1, h2, h3⟩ := h
  rw [lst_len] at h1 h3
  obtain ⟨k, rfl⟩ : ∃ k', k = k' + 1 := ⟨k - 1, by omega⟩
  have e0 : bt s 0 = nb (lst s) 0 := bt_nb s 0
  unfold thyrsusref2_Name.f
  rw [lst_toList, if_neg (by intro h; have := lst_len s; rw [h] at this; simp only [List.length_nil] at this; omega), if_neg (by omega), if_pos (by omega), e0, first_r', h2, Option.bind_some, thyrsusref2_Name.j0, if_neg (by decide)]
  exact name_l0 (by omega) h3 s.size 0 k (by omega) (by omega) (by omega)
theorem names_l0 (n : Nat) (hn : n ≤ 23) (a2 : Int) : ∀ d (s : ByteArray) k, n - s.size ≤ d → s.size ≤ n → Nm (lst s) → d + 45 ≤ k → thyrsuslaw2_LexNames.l0 k (n : Int) a2 s = some true
  | d, s, k, hd, hs, hN, hk => by
    obtain ⟨k, rfl⟩ : ∃ k', k = k' + 1 := ⟨k - 1, by omega⟩
    have hz := lst_len s
    by_cases hlt : s.size < n
    · obtain ⟨d, rfl⟩ : ∃ d', d = d' + 1 := ⟨d - 1, by omega⟩
      obtain ⟨t, ht, e⟩ := within_ex (wrap_in (a2 + (s.size : Int))) (n := 7) (by decide) (by decide)
      obtain ⟨c, hc1, hc2⟩ : ∃ c : UInt8, strOfNums [bt (⟨#[97, 122, 48, 57, 95, 39, 81]⟩ : ByteArray) (t : Int)] = ⟨#[c]⟩ ∧ pInner (c.toNat : Int) = true := by
        have ht' : t < 7 := by omega
        revert ht'
        clear e ht
        revert t
        intro t ht
        have : t = 0 ∨ t = 1 ∨ t = 2 ∨ t = 3 ∨ t = 4 ∨ t = 5 ∨ t = 6 := by omega
        rcases this with rfl | rfl | rfl | rfl | rfl | rfl | rfl <;> exact ⟨_, rfl, by decide⟩
      have hz2 : (s ++ (⟨#[c]⟩ : ByteArray)).size = s.size + 1 := by rw [ByteArray.size_append]; rfl
      have hl : lst (s ++ (⟨#[c]⟩ : ByteArray)) = lst s ++ [c] := by rw [lst_append]; rfl
      rw [thyrsuslaw2_LexNames.l0, if_pos (by omega), e, Option.bind_some, if_pos (by omega), if_pos (by omega), Option.bind_some, hc1, if_pos (by show s.size + 1 ≤ _; omega)]
      refine names_l0 n hn a2 d _ k (by omega) (by omega) ?_ (by omega)
      rw [hl]
      refine ⟨by rw [List.length_append, List.length_singleton]; omega, ?_, ?_⟩
      · rw [nb_append (by have := hN.1; omega)]
        exact hN.2.1
      · intro i hi
        by_cases hi2 : i < (lst s).length
        · rw [nb_append hi2]
          exact hN.2.2 i hi2
        · obtain rfl : i = (lst s).length := by
            rw [List.length_append, List.length_singleton] at hi
            omega
          have e : nb (lst s ++ [c]) (lst s).length = (c.toNat : Int) := by
            unfold nb
            rw [List.getD_eq_getElem?_getD, List.getElem?_append_right (Nat.le_refl _), Nat.sub_self]
            rfl
          rw [e]
          exact hc2
    · obtain rfl : n = s.size := by omega
      have hl : lst (((⟨#[40]⟩ : ByteArray) ++ s) ++ (⟨#[41]⟩ : ByteArray)) = 40 :: (lst s ++ [41]) := by
        rw [lst_append, lst_append]
        rfl
      have hz2 : ((⟨#[40]⟩ : ByteArray) ++ s).size = 1 + s.size := by rw [ByteArray.size_append]; rfl
      have ht := tokens_name hN (by omega)
      rw [thyrsuslaw2_LexNames.l0, if_neg (by omega), if_pos (by omega), if_pos (by omega)]
      unfold lex_Tokens.f
      rw [hl, ht, Option.bind_some, hz]
      by_cases hg : s.size > 20
      · rw [if_pos hg, if_pos (by omega)]
        rfl
      · rw [if_neg hg, if_neg (by omega)]
        have e : (⟨(lst s).toArray⟩ : ByteArray) = s := by
          apply lst_inj
          simp [lst]
        rw [e, name_r (by omega) hN (by omega)]
        simp [rd_T29]
theorem LexNames : thyrsuslaw2_LexNames.Pure := by
  intro a0 a1 a2 w0 w1 w2
  have w0 := i64_of w0
  have w1 := i64_of w1
  obtain ⟨t, ht, e⟩ := within_ex w0 (n := 7) (by decide) (by decide)
  obtain ⟨u, hu, e2⟩ := within_ex w1 (n := 7) (by decide) (by decide)
  refine ⟨100, ?_⟩
  unfold thyrsuslaw2_LexNames.f
  rw [known_f, Option.bind_some, if_pos rfl, e, Option.bind_some, e2, Option.bind_some, if_pos (by omega), if_pos (by omega), wrap_ok _ (by omega) (by omega)]
  obtain ⟨c, hc1, hc2⟩ : ∃ c : UInt8, strOfNums [bt (⟨#[97, 98, 122, 95, 39, 65, 90]⟩ : ByteArray) (u : Int)] = ⟨#[c]⟩ ∧ pFront (c.toNat : Int) = true := by
    have : u = 0 ∨ u = 1 ∨ u = 2 ∨ u = 3 ∨ u = 4 ∨ u = 5 ∨ u = 6 := by omega
    rcases this with rfl | rfl | rfl | rfl | rfl | rfl | rfl <;> exact ⟨_, rfl, by decide⟩
  rw [hc1, show (17 : Int) + (t : Int) = ((17 + t : Nat) : Int) by omega]
  refine names_l0 (17 + t) (by omega) a2 30 _ 100 (by omega) (by show 1 ≤ _; omega) ⟨Nat.le_refl _, hc2, ?_⟩ (by omega)
  intro i hi
  obtain rfl : i = 0 := by
    have : i < 1 := hi
    omega
  show pInner (c.toNat : Int) = true
  unfold pInner
  rw [hc2]
  rfl
end Go.Proofs.Ytleepjnpnbkgdaa.Pure
