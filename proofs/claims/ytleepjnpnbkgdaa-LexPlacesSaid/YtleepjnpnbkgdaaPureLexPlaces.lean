/- LexPlaces, the plain law: tokens stand in order, each where it begins, and says there what it is. No conditions but that the numbers are whole numbers of 64 bits. -/
import Derived.Test.YtleepjnpnbkgdaaPx8
import Derived.Test.YtleepjnpnbkgdaaPureF
namespace Go.Proofs.Ytleepjnpnbkgdaa.Pure
open Go.RowKit Go.Proofs.Ytleepjnpnbkgdaa.P Go.Proofs.YtleepjnpnbkgdaaW.PrintWords Go.Proofs.YtleepjnpnbkgdaaW.PrintLast Go.Proofs.Ytleepjnpnbkgdaa.Lex
theorem size_eq_zero_toList {s : ByteArray} (h : 1 ≤ s.size) : ¬ s.toList = ([] : List UInt8) := by
  intro e
  have := lst_len s
  rw [← lst_toList, e] at this
  simp only [List.length_nil] at this
  omega
theorem empty_toList : (⟨#[]⟩ : ByteArray).toList = ([] : List UInt8) := by
  rw [lst_toList]
  rfl
theorem w_0 : wrap64 (1 - 1) = 0 := (wrap_ok (1 - 1) (by decide) (by decide)).trans rfl
theorem w_1 : wrap64 (2 - 1) = 1 := (wrap_ok (2 - 1) (by decide) (by decide)).trans rfl
theorem places_l0 {s : ByteArray} (hs : s.size ≤ 4000) {L : List S29} (hL : L.length ≤ 4000) : ∀ (r : List S29) (p e i k : Nat), L.drop i = r → Run s p r → e ≤ p → p ≤ s.size → i + r.length = L.length → 3 * r.length + 1 ≤ k → thyrsuslaw2_LexPlaces.l0 k s L (e : Int) (i : Int) = some true
  | [], p, e, i, k, hd, hR, he, hp, hi, hk => by
    obtain ⟨k, rfl⟩ : ∃ k', k = k' + 1 := ⟨k - 1, by omega⟩
    simp only [List.length_nil] at hi
    rw [thyrsuslaw2_LexPlaces.l0, if_neg (by omega)]
  | t :: r, p, e, i, k, hd, hR, he, hp, hi, hk => by
    simp only [List.length_cons] at hi hk
    obtain ⟨k, rfl⟩ : ∃ k', k = k' + 3 := ⟨k - 3, by omega⟩
    obtain ⟨hlt, h0, ht, hR'⟩ := hR
    have hrd : rd_T29 L (i : Int) = t := by
      unfold rd_T29
      rw [Int.toNat_natCast, List.getD_eq_getElem?_getD]
      have h := List.getElem?_drop (xs := L) (i := i) (j := 0)
      rw [hd, Nat.add_zero] at h
      rw [← h]
      rfl
    have hd' : L.drop (i + 1) = r := by
      have h := List.drop_drop (l := L) (i := 1) (j := i)
      rw [hd] at h
      exact h.symm
    have hl := nextT_len (l := (lst s).drop p) (by rw [List.length_drop, lst_len]; omega) h0
    rw [List.length_drop, lst_len] at hl
    have hk := nextT_kinds h0
    rw [nb_drop, Nat.add_zero] at hk
    have hbl := blk_le false ((lst s).drop (p + (nextT ((lst s).drop p)).2.2.1))
    rw [List.length_drop, lst_len] at hbl
    obtain ⟨⟨kd, n, m, er⟩, hn⟩ : ∃ x, x = nextT ((lst s).drop p) := ⟨_, rfl⟩
    rw [← hn] at h0 ht hR' hl hk hbl
    have hl : 1 ≤ m ∧ m ≤ s.size - p := hl
    have ht : t = ⟨kd, n, (p : Int), txt kd ((lst s).drop p) m⟩ := ht
    have hR' : Run s (p + m + blk false ((lst s).drop (p + m))) r := hR'
    have hbl : blk false ((lst s).drop (p + m)) ≤ s.size - (p + m) := hbl
    have IH := fun e' he' => places_l0 hs hL r _ e' (i + 1) k hd' hR' he' (by omega) (by omega) (by omega)
    have hk : (kd = 1 ∧ m = 1 ∧ nb (lst s) p = 40) ∨ (kd = 2 ∧ m = 1 ∧ nb (lst s) p = 41) ∨ (kd = 3 ∧ n = 0) ∨ kd = 4 := hk
    rw [thyrsuslaw2_LexPlaces.l0, if_pos (by omega), if_pos (by omega), hrd, ht]
    simp only []
    rw [if_neg (by omega), decide_eq_false (by omega), thyrsuslaw2_LexPlaces.j1, if_neg (by decide)]
    rcases hk with ⟨rfl, rfl, h3⟩ | ⟨rfl, rfl, h3⟩ | ⟨rfl, rfl⟩ | rfl
    · rw [if_pos rfl, thyrsuslaw2_LexPlaces.j2, w_0, if_pos (by decide), if_pos (by omega), if_pos (by omega), if_pos (by decide), if_pos (by decide), if_pos (by rw [bt_nb, h3]; decide), if_pos (by rw [txt_none 1 (by decide)]; exact empty_toList), w1 p (by omega), w1 i (by omega)]
      exact IH _ (by omega)
    · rw [if_neg (by decide), thyrsuslaw2_LexPlaces.j2, w_1, if_pos (by decide), if_pos (by omega), if_pos (by omega), if_pos (by decide), if_pos (by decide), if_pos (by rw [bt_nb, h3]; decide), if_pos (by rw [txt_none 2 (by decide)]; exact empty_toList), w1 p (by omega), w1 i (by omega)]
      exact IH _ (by omega)
    · have hz : (s.extract p (p + m)).size = m := by rw [ByteArray.size_extract]; omega
      rw [if_neg (by decide), thyrsuslaw2_LexPlaces.j2, if_neg (by decide), if_pos rfl, txtR3, w2 p _ (p + m) (by omega) (by omega), if_neg (by omega), if_pos (by omega), if_pos (by omega), if_pos (by omega), Int.toNat_natCast, Int.toNat_natCast, if_pos rfl, if_neg (size_eq_zero_toList (by omega)), if_pos rfl, w1 i (by omega)]
      exact IH _ (by omega)
    · rw [if_neg (by decide), thyrsuslaw2_LexPlaces.j2, if_neg (by decide), if_neg (by decide), if_pos rfl, if_pos (by rw [txt_none 4 (by decide)]; exact empty_toList), w1 p (by omega), w1 i (by omega)]
      exact IH _ (by omega)
theorem LexPlaces : thyrsuslaw2_LexPlaces.Pure := by
  intro l0 _ _ hw
  obtain ⟨s, hs, hz, hc⟩ := text_f l0 hw (k := 20000) (by decide)
  refine ⟨20000, ?_⟩
  unfold thyrsuslaw2_LexPlaces.f lex_Tokens.f thyrsusref2_Tokens.f
  rw [known_f, Option.bind_some, if_pos rfl, hs, Option.bind_some, Option.bind_some]
  by_cases h : (tokens (lst s)).2.2 = 0
  · have hR := run_tokens (by omega) h
    have hcount := tokens_count (lst s)
    have hb := blk_le false (lst s)
    rw [lst_len] at hb
    rw [if_pos h]
    exact places_l0 (s := s) (by omega) hcount (tokens (lst s)).1 _ 0 0 20000 rfl hR (Nat.zero_le _) hb (by omega) (by omega)
  · rw [if_neg h, Option.bind_some]
    simp
end Go.Proofs.Ytleepjnpnbkgdaa.Pure
