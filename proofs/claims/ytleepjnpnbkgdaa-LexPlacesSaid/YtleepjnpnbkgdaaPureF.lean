/- What the laws over texts share: how many tokens there are; a text's bytes; a run of tokens. -/
import Derived.Test.YtleepjnpnbkgdaaPureC
import Derived.Test.YtleepjnpnbkgdaaHandR
namespace Go.Proofs.Ytleepjnpnbkgdaa.Lex
open Go.RowKit Go.Proofs.Ytleepjnpnbkgdaa.P Go.Proofs.YtleepjnpnbkgdaaW.PrintWords Go.Proofs.YtleepjnpnbkgdaaW.PrintLast
theorem toks_count : ∀ (f : Nat) (l : List UInt8) (p : Nat) (acc : List S29), acc.length ≤ p → (toks f l p acc).1.length ≤ p + l.length
  | 0, l, p, acc, h => by
    rw [toks]
    exact Nat.zero_le _
  | f + 1, l, p, acc, h => by
    have hb := blk_le false l
    rw [toks]
    by_cases h0 : (l.drop (blk false l)).length = 0
    · rw [if_pos h0]
      exact Nat.le_trans h (Nat.le_add_right _ _)
    · rw [if_neg h0]
      by_cases he : (nextT (l.drop (blk false l))).2.2.2 = 0
      · rw [if_pos he]
        have hl := nextT_len (by omega) he
        have ih := toks_count f ((l.drop (blk false l)).drop (nextT (l.drop (blk false l))).2.2.1) (p + blk false l + (nextT (l.drop (blk false l))).2.2.1) _ (show (acc ++ [(⟨(nextT (l.drop (blk false l))).1, (nextT (l.drop (blk false l))).2.1, ((p + blk false l : Nat) : Int), txt (nextT (l.drop (blk false l))).1 (l.drop (blk false l)) (nextT (l.drop (blk false l))).2.2.1⟩ : S29)]).length ≤ p + blk false l + (nextT (l.drop (blk false l))).2.2.1 by rw [List.length_append, List.length_singleton]; omega)
        rw [List.length_drop, List.length_drop] at ih
        rw [List.length_drop] at hl h0
        omega
      · rw [if_neg he]
        exact Nat.zero_le _
theorem tokens_count (l : List UInt8) : (tokens l).1.length ≤ 4000 := by
  unfold tokens
  by_cases h : l.length > 4000
  · rw [if_pos h]
    exact Nat.zero_le _
  · rw [if_neg h]
    have := toks_count (l.length + 1) l 0 [] (Nat.le_refl _)
    omega
/-- The tokens from p on (p is no blank). -/
def Run (s : ByteArray) : Nat → List S29 → Prop
  | p, [] => p = s.size
  | p, t :: r => p < s.size ∧ (nextT ((lst s).drop p)).2.2.2 = 0 ∧ t = ⟨(nextT ((lst s).drop p)).1, (nextT ((lst s).drop p)).2.1, (p : Int), txt (nextT ((lst s).drop p)).1 ((lst s).drop p) (nextT ((lst s).drop p)).2.2.1⟩ ∧
      Run s (p + (nextT ((lst s).drop p)).2.2.1 + blk false ((lst s).drop (p + (nextT ((lst s).drop p)).2.2.1))) r
theorem run_of {s : ByteArray} : ∀ (f p : Nat) (acc L : List S29) (a b : Int), p ≤ s.size → s.size - p < f → toks f ((lst s).drop p) p acc = (L, a, b) → b = 0 → ∃ L', L = acc ++ L' ∧ Run s (p + blk false ((lst s).drop p)) L'
  | 0, p, acc, L, a, b, hp, hf, h, hb => absurd hf (Nat.not_lt_zero _)
  | f + 1, p, acc, L, a, b, hp, hf, h, hb => by
    have hbl := blk_le false ((lst s).drop p)
    rw [List.length_drop, lst_len] at hbl
    rw [toks_succ, List.drop_drop] at h
    unfold toks2 at h
    generalize hq : p + blk false ((lst s).drop p) = q at *
    by_cases hlt : q < s.size
    · rw [if_neg (by rw [List.length_drop, lst_len]; omega)] at h
      by_cases he : (nextT ((lst s).drop q)).2.2.2 = 0
      · rw [if_pos he, List.drop_drop] at h
        have hl := nextT_len (l := (lst s).drop q) (by rw [List.length_drop, lst_len]; omega) he
        rw [List.length_drop, lst_len] at hl
        obtain ⟨L', h1, h2⟩ := run_of f _ _ L a b (by omega) (by omega) h hb
        exact ⟨_ :: L', by rw [h1, List.append_assoc]; rfl, hlt, he, rfl, h2⟩
      · rw [if_neg he] at h
        have : (nextT ((lst s).drop q)).2.2.2 = b := congrArg (fun x => x.2.2) h
        exact absurd (this.trans hb) he
    · rw [if_pos (by rw [List.length_drop, lst_len]; omega)] at h
      have h1 : acc = L := congrArg (fun x => x.1) h
      exact ⟨[], by rw [h1, List.append_nil], by show q = s.size; omega⟩
theorem run_tokens {s : ByteArray} (hs : s.size ≤ 4000) (h : (tokens (lst s)).2.2 = 0) : Run s (blk false (lst s)) (tokens (lst s)).1 := by
  unfold tokens at h ⊢
  rw [if_neg (by rw [lst_len]; omega)] at h ⊢
  obtain ⟨L', h1, h2⟩ := run_of (s := s) ((lst s).length + 1) 0 [] _ _ _ (Nat.zero_le _) (by rw [lst_len]; omega) (show toks ((lst s).length + 1) ((lst s).drop 0) 0 [] = ((toks ((lst s).length + 1) (lst s) 0 []).1, (toks ((lst s).length + 1) (lst s) 0 []).2.1, (toks ((lst s).length + 1) (lst s) 0 []).2.2) from rfl) h
  rw [List.nil_append] at h1
  rw [h1]
  rw [List.drop_zero, Nat.zero_add] at h2
  exact h2
/-- What kinds there are. -/
theorem nextT_kinds {l : List UInt8} (h : (nextT l).2.2.2 = 0) : ((nextT l).1 = 1 ∧ (nextT l).2.2.1 = 1 ∧ nb l 0 = 40) ∨ ((nextT l).1 = 2 ∧ (nextT l).2.2.1 = 1 ∧ nb l 0 = 41) ∨ ((nextT l).1 = 3 ∧ (nextT l).2.1 = 0) ∨ (nextT l).1 = 4 := by
  unfold nextT at h ⊢
  by_cases h1 : nb l 0 = 40
  · rw [if_pos h1]
    exact Or.inl ⟨rfl, rfl, h1⟩
  rw [if_neg h1] at h ⊢
  by_cases h2 : nb l 0 = 41
  · rw [if_pos h2]
    exact Or.inr (Or.inl ⟨rfl, rfl, h2⟩)
  rw [if_neg h2] at h ⊢
  by_cases h3 : nb l 0 = 42
  · rw [if_pos h3]
    exact Or.inr (Or.inr (Or.inl ⟨rfl, rfl⟩))
  rw [if_neg h3] at h ⊢
  by_cases h4 : nb l 0 = 45 ∧ 1 < l.length ∧ nb l 1 = 62
  · rw [if_pos h4]
    exact Or.inr (Or.inr (Or.inl ⟨rfl, rfl⟩))
  rw [if_neg h4] at h ⊢
  by_cases h5 : pFront (nb l 0) = true
  · rw [if_pos h5] at h ⊢
    by_cases h6 : spn pInner l > 20
    · rw [if_pos h6] at h
      exact absurd h (by decide)
    · rw [if_neg h6]
      exact Or.inr (Or.inr (Or.inl ⟨rfl, rfl⟩))
  rw [if_neg h5] at h ⊢
  by_cases h6 : sgn l = 0
  · rw [if_pos h6] at h
    exact absurd h (by decide)
  rw [if_neg h6] at h ⊢
  cases hv : num (l.take (sgn l)) with
  | none =>
    rw [hv] at h
    exact absurd (show (4 : Int) = 0 from h) (by decide)
  | some v => exact Or.inr (Or.inr (Or.inr rfl))
/-! ### Texts -/
/-- The pieces of a text. -/
def pieces : List ByteArray := [(⟨#[40]⟩ : ByteArray), (⟨#[41]⟩ : ByteArray), (⟨#[97]⟩ : ByteArray), (⟨#[102, 110, 32]⟩ : ByteArray), (⟨#[32]⟩ : ByteArray), (⟨#[49, 50]⟩ : ByteArray), (⟨#[45, 51]⟩ : ByteArray), (⟨#[45, 62]⟩ : ByteArray), (⟨#[42]⟩ : ByteArray), (⟨#[45]⟩ : ByteArray), (⟨#[59, 32, 120, 10]⟩ : ByteArray), (⟨#[10]⟩ : ByteArray), (⟨#[98, 39]⟩ : ByteArray), (⟨#[95, 99]⟩ : ByteArray), (⟨#[48]⟩ : ByteArray), (⟨#[122, 101, 114, 111, 32]⟩ : ByteArray), (⟨#[57, 97]⟩ : ByteArray), (⟨#[33]⟩ : ByteArray), (⟨#[9]⟩ : ByteArray), (⟨#[85, 48]⟩ : ByteArray)]
theorem pieces_ok : ∀ t : Nat, t < 20 → (rdOf ByteArray.empty pieces (t : Int)).size ≤ 5 ∧ ∀ c ∈ lst (rdOf ByteArray.empty pieces (t : Int)), c ≠ 13 := by
  intro t ht
  have : t = 0 ∨ t = 1 ∨ t = 2 ∨ t = 3 ∨ t = 4 ∨ t = 5 ∨ t = 6 ∨ t = 7 ∨ t = 8 ∨ t = 9 ∨ t = 10 ∨ t = 11 ∨ t = 12 ∨ t = 13 ∨ t = 14 ∨ t = 15 ∨ t = 16 ∨ t = 17 ∨ t = 18 ∨ t = 19 := by omega
  rcases this with rfl | rfl | rfl | rfl | rfl | rfl | rfl | rfl | rfl | rfl | rfl | rfl | rfl | rfl | rfl | rfl | rfl | rfl | rfl | rfl <;> exact ⟨by decide, by decide⟩
theorem text_l0 (ns : List Int) (hn : ∀ x ∈ ns, (Lit.int .i64 x).wf = true) : ∀ (d i k : Nat) (s : ByteArray), 60 - i ≤ d → s.size ≤ 5 * i → (∀ c ∈ lst s, c ≠ 13) → d < k → i ≤ 60 → ∃ r, thyrsuslaw2_Text.l0 k ns s (i : Int) = some r ∧ r.size ≤ 300 ∧ ∀ c ∈ lst r, c ≠ 13
  | d, i, k, s, hd, hs, hc, hk, hi => by
    obtain ⟨k, rfl⟩ : ∃ k', k = k' + 1 := ⟨k - 1, by omega⟩
    rw [thyrsuslaw2_Text.l0]
    by_cases h1 : (i : Int) < (ns.length : Int)
    · rw [if_pos h1]
      by_cases h2 : i < 60
      · obtain ⟨d, rfl⟩ : ∃ d', d = d' + 1 := ⟨d - 1, by omega⟩
        have hr : rd ns (i : Int) ∈ ns := by
          unfold rd
          rw [Int.toNat_natCast, List.getD_eq_getElem?_getD, List.getElem?_eq_getElem (by omega)]
          exact List.getElem_mem _
        obtain ⟨t, ht, e⟩ := within_ex (i64_of (hn _ hr)) (n := 20) (by decide) (by decide)
        obtain ⟨p1, p2⟩ := pieces_ok t (by omega)
        rw [if_pos (by omega), Option.bind_some, if_pos (by omega), e, Option.bind_some, if_pos (by omega), if_pos (by show (t : Int) < 20; omega)]
        rw [show ([(⟨#[40]⟩ : ByteArray), (⟨#[41]⟩ : ByteArray), (⟨#[97]⟩ : ByteArray), (⟨#[102, 110, 32]⟩ : ByteArray), (⟨#[32]⟩ : ByteArray), (⟨#[49, 50]⟩ : ByteArray), (⟨#[45, 51]⟩ : ByteArray), (⟨#[45, 62]⟩ : ByteArray), (⟨#[42]⟩ : ByteArray), (⟨#[45]⟩ : ByteArray), (⟨#[59, 32, 120, 10]⟩ : ByteArray), (⟨#[10]⟩ : ByteArray), (⟨#[98, 39]⟩ : ByteArray), (⟨#[95, 99]⟩ : ByteArray), (⟨#[48]⟩ : ByteArray), (⟨#[122, 101, 114, 111, 32]⟩ : ByteArray), (⟨#[57, 97]⟩ : ByteArray), (⟨#[33]⟩ : ByteArray), (⟨#[9]⟩ : ByteArray), (⟨#[85, 48]⟩ : ByteArray)] : List ByteArray) = pieces from rfl]
        generalize rdOf ByteArray.empty pieces (t : Int) = q at *
        have hz : (s ++ q).size = s.size + q.size := ByteArray.size_append
        rw [if_pos (by omega), wrap_ok _ (by omega) (by omega), show (i : Int) + 1 = ((i + 1 : Nat) : Int) by omega]
        refine text_l0 ns hn d (i + 1) k (s ++ q) (by omega) (by omega) ?_ (by omega) (by omega)
        intro c h
        rw [lst_append, List.mem_append] at h
        rcases h with h | h
        · exact hc c h
        · exact p2 c h
      · rw [if_neg (by omega)]
        exact ⟨s, rfl, by omega, hc⟩
    · rw [if_neg h1]
      exact ⟨s, rfl, by omega, hc⟩
theorem text_f (ns : List Int) (hn : ∀ x ∈ ns, (Lit.int .i64 x).wf = true) {k : Nat} (hk : 100 ≤ k) : ∃ r, thyrsuslaw2_Text.f k ns = some r ∧ r.size ≤ 300 ∧ ∀ c ∈ lst r, c ≠ 13 :=
  text_l0 ns hn 60 0 k ⟨#[]⟩ (by omega) (Nat.le_refl _) (by intro c h; exact absurd h (by simp [lst])) (by omega) (by omega)
end Go.Proofs.Ytleepjnpnbkgdaa.Lex
