/- LexBlanks, the plain law: blanks and remarks, wherever tokens part, change nothing but where they stand. No conditions but that the numbers are whole numbers of 64 bits. -/
import Derived.Test.YtleepjnpnbkgdaaPx5
import Derived.Test.YtleepjnpnbkgdaaPureG
namespace Go.Proofs.Ytleepjnpnbkgdaa.Pure
open Go.RowKit Go.Proofs.Ytleepjnpnbkgdaa.P Go.Proofs.YtleepjnpnbkgdaaW.PrintWords Go.Proofs.YtleepjnpnbkgdaaW.PrintLast Go.Proofs.Ytleepjnpnbkgdaa.Lex
def core (t : S29) : Int × Int × ByteArray := (t.f0, t.f1, t.f3)
/-- What is put between tokens. -/
def gaps : List ByteArray := [(⟨#[32]⟩ : ByteArray), (⟨#[10]⟩ : ByteArray), (⟨#[9, 13, 32]⟩ : ByteArray), (⟨#[59, 32, 113, 32, 40, 32, 10]⟩ : ByteArray), (⟨#[32, 59, 10, 59, 10]⟩ : ByteArray)]
theorem gap_space : Blk (lst ⟨#[32]⟩) := ⟨fun _ => rfl, by decide, by decide, by decide⟩
theorem gaps_ok : ∀ t : Nat, t < 5 → Blk (lst (rdOf ByteArray.empty gaps (t : Int))) := by
  intro t ht
  have : t = 0 ∨ t = 1 ∨ t = 2 ∨ t = 3 ∨ t = 4 := by omega
  rcases this with rfl | rfl | rfl | rfl | rfl <;> exact ⟨fun _ => rfl, by decide, by decide, by decide⟩
/-- What has been built so far: so many tokens, whatever comes behind. -/
def Pre (t : ByteArray) (acc : List S29) : Prop := ∀ (R : List UInt8) (f : Nat), (lst t).length + R.length < f → ∃ f', R.length < f' ∧ toks f (lst t ++ R) 0 [] = toks f' R (lst t).length acc
theorem pre_space : Pre ⟨#[32]⟩ [] := by
  intro R f hf
  have hl : (lst (⟨#[32]⟩ : ByteArray)).length = 1 := rfl
  obtain ⟨f, rfl⟩ : ∃ f', f = f' + 1 := ⟨f - 1, by omega⟩
  exact ⟨f + 1, by omega, by rw [toks_blank gap_space, Nat.zero_add]⟩
theorem pre_step {t T b : ByteArray} {acc : List S29} {k n : Int} (h : Pre t acc) (hT : ∀ r, pStop (nb r 0) = true → nextT (lst T ++ r) = (k, n, (lst T).length, 0)) (h1 : 1 ≤ (lst T).length) (hs : pStop (nb (lst T) 0) = false) (hb : Blk (lst b)) :
    Pre (t ++ T ++ b) (acc ++ [⟨k, n, ((lst t).length : Int), txt k (lst T) (lst T).length⟩]) := by
  intro R f hf
  have hl : (lst (t ++ T ++ b)).length = (lst t).length + (lst T).length + (lst b).length := by
    rw [lst_append, lst_append, List.length_append, List.length_append]
  rw [hl] at hf ⊢
  obtain ⟨f1, hf1, e1⟩ := h (lst T ++ (lst b ++ R)) f (by rw [List.length_append, List.length_append]; omega)
  rw [List.length_append, List.length_append] at hf1
  obtain ⟨f2, rfl⟩ : ∃ f', f1 = f' + 2 := ⟨f1 - 2, by have := hb.2.2.1; omega⟩
  have hB1 := hb.2.2.1
  have hbr : pStop (nb (lst b ++ R) 0) = true := by
    rw [nbLeft (by omega)]
    exact hb.2.1
  have hn := hT _ hbr
  have hz : blk false (lst T ++ (lst b ++ R)) = 0 := stop_blk (by rw [List.length_append]; omega) (by rw [nbLeft (by omega)]; exact hs)
  refine ⟨f2 + 1, by omega, ?_⟩
  have ht : txt k (lst T ++ (lst b ++ R)) (lst T).length = txt k (lst T) (lst T).length := by
    unfold txt
    rw [List.take_left, List.take_length]
  rw [lst_append, lst_append, List.append_assoc, List.append_assoc, e1, toks_succ, hz, List.drop_zero, Nat.add_zero]
  unfold toks2
  rw [hn, if_neg (by rw [List.length_append]; omega), if_pos rfl]
  simp only []
  rw [List.drop_left, ht, toks_blank hb]
  simp only [Nat.add_zero]
theorem l2_ok {X L : List S29} (h : X.map core = L.map core) (hL : L.length ≤ 4000) : ∀ d i k, L.length - i ≤ d → i ≤ L.length → d < k → thyrsuslaw2_LexBlanks.l2 k L X (i : Int) = some true
  | d, i, k, hd, hi, hk => by
    have hlen : X.length = L.length := by
      have := congrArg List.length h
      rw [List.length_map, List.length_map] at this
      exact this
    obtain ⟨k, rfl⟩ : ∃ k', k = k' + 1 := ⟨k - 1, by omega⟩
    rw [thyrsuslaw2_LexBlanks.l2]
    by_cases hlt : i < L.length
    · obtain ⟨d, rfl⟩ : ∃ d', d = d' + 1 := ⟨d - 1, by omega⟩
      have hc : core (rd_T29 X (i : Int)) = core (rd_T29 L (i : Int)) := by
        unfold rd_T29
        rw [Int.toNat_natCast, List.getD_eq_getElem?_getD, List.getD_eq_getElem?_getD, List.getElem?_eq_getElem hlt, List.getElem?_eq_getElem (show i < X.length by omega)]
        show core X[i] = core L[i]
        have e1 : (X.map core)[i]? = some (core X[i]) := by rw [List.getElem?_map, List.getElem?_eq_getElem (show i < X.length by omega)]; rfl
        have e2 : (L.map core)[i]? = some (core L[i]) := by rw [List.getElem?_map, List.getElem?_eq_getElem hlt]; rfl
        rw [h, e2] at e1
        exact (Option.some.inj e1).symm
      have c0 : (rd_T29 X (i : Int)).f0 = (rd_T29 L (i : Int)).f0 := congrArg (fun x => x.1) hc
      have c1 : (rd_T29 X (i : Int)).f1 = (rd_T29 L (i : Int)).f1 := congrArg (fun x => x.2.1) hc
      have c2 : (rd_T29 X (i : Int)).f3 = (rd_T29 L (i : Int)).f3 := congrArg (fun x => x.2.2) hc
      rw [if_pos (by omega), if_pos (by omega), if_pos (by omega), if_pos c0, if_pos c1, c2, if_pos rfl, w1 i (by omega)]
      exact l2_ok h hL d (i + 1) k (by omega) (by omega) (by omega)
    · rw [if_neg (by omega)]
/-- A piece of the text is cut where its token ends. -/
theorem trim (bs : List Int) (s : ByteArray) (L : List S29) (t : ByteArray) (i : Int) (b w : ByteArray) (M : Nat) (hM : M ≤ w.size) (hw : w.size ≤ 4000) (hin : ∀ j, j < M → pStop (nb (lst w) j) = false) (hst : M < w.size → pStop (nb (lst w) M) = true ∧ nb (lst w) M ≠ 13) :
    ∀ d n k, M - n ≤ d → n ≤ M → d + 2 ≤ k → ∃ k', k ≤ k' + (M - n) + 2 ∧ thyrsuslaw2_LexBlanks.l1 k bs s L t i b w (n : Int) = if t.size + (w.extract 0 M).size ≤ 9223372036854775807 then (if (t ++ w.extract 0 M).size + b.size ≤ 9223372036854775807 then (thyrsuslaw2_LexBlanks.l0 k' bs s L ((t ++ w.extract 0 M) ++ b) (wrap64 (i + 1))) else (none)) else (none)
  | d, n, k, hd, hn, hk => by
    obtain ⟨k, rfl⟩ : ∃ k', k = k' + 1 := ⟨k - 1, by omega⟩
    by_cases hlt : n < w.size
    · rw [thyrsuslaw2_LexBlanks.l1, if_pos (by omega), if_pos (by omega), bt_nb]
      by_cases hM2 : n < M
      · obtain ⟨d, rfl⟩ : ∃ d', d = d' + 1 := ⟨d - 1, by omega⟩
        have hs := hin n hM2
        unfold pStop pBlank at hs
        simp only [Bool.or_eq_false_iff, beq_eq_false_iff_ne] at hs
        obtain ⟨⟨⟨⟨s1, s2⟩, s3⟩, s4⟩, s5⟩ := hs
        rw [if_neg s5, if_neg s1, if_neg s3, if_neg s2, w1 n (by omega)]
        obtain ⟨k', h1, h2⟩ := trim bs s L t i b w M hM hw hin hst d (n + 1) k (by omega) (by omega) (by omega)
        exact ⟨k', by omega, h2⟩
      · obtain rfl : n = M := by omega
        obtain ⟨hs1, hs2⟩ := hst hlt
        have e : ∀ x : Option Bool, (if nb (lst w) n = 59 then x else if nb (lst w) n = 32 then x else if nb (lst w) n = 10 then x else if nb (lst w) n = 9 then x else thyrsuslaw2_LexBlanks.l1 k bs s L t i b w (wrap64 ((n : Int) + 1))) = x := by
          intro x
          rcases stop_cases hs1 with h | h | h | h | h
          · rw [h]
            rfl
          · rw [h]
            rfl
          · rw [h]
            rfl
          · exact absurd h hs2
          · rw [h]
            rfl
        rw [e, if_pos (by omega), Int.toNat_natCast]
        obtain ⟨k, rfl⟩ : ∃ k', k = k' + 1 := ⟨k - 1, by omega⟩
        have hz : (w.extract 0 n).size = n := by rw [ByteArray.size_extract]; omega
        rw [thyrsuslaw2_LexBlanks.l1, w1 n (by omega), hz, if_neg (by omega)]
        exact ⟨k, by omega, rfl⟩
    · obtain rfl : n = w.size := by omega
      obtain rfl : M = w.size := by omega
      have he : w.extract 0 w.size = w := by
        apply lst_inj
        rw [lst_upto, ← lst_len, List.take_length]
      rw [thyrsuslaw2_LexBlanks.l1, if_neg (by omega), he]
      exact ⟨k, by omega, rfl⟩
theorem rd_drop {L r : List S29} {t : S29} {i : Nat} (h : L.drop i = t :: r) : rd_T29 L (i : Int) = t ∧ L.drop (i + 1) = r ∧ i + 1 + r.length = L.length := by
  refine ⟨?_, ?_, ?_⟩
  · unfold rd_T29
    rw [Int.toNat_natCast, List.getD_eq_getElem?_getD]
    have h2 := List.getElem?_drop (xs := L) (i := i) (j := 0)
    rw [h, Nat.add_zero] at h2
    rw [← h2]
    rfl
  · have h2 := List.drop_drop (l := L) (i := 1) (j := i)
    rw [h] at h2
    exact h2.symm
  · have h2 := congrArg List.length h
    rw [List.length_drop, List.length_cons] at h2
    omega
/-- Where the next token stands, or the text's end. -/
theorem run_at {s : ByteArray} {p : Nat} : ∀ (r : List S29), Run s p r → (∀ t r', r = t :: r' → t.f2 = (p : Int)) ∧ (r = [] → p = s.size)
  | [], h => ⟨fun _ _ h => (by cases h), fun _ => h⟩
  | t :: r, h => by
    refine ⟨?_, fun h => (by cases h)⟩
    intro t' r' e
    injection e with e1 e2
    rw [← e1, h.2.2.1]
theorem blanks_l0 {c1 c2 : Nat} (hc1 : Aside0 (320 ≤ c1)) (hc2 : Aside0 (5000 ≤ c2)) {bs : List Int} (hbs : ∀ x ∈ bs, (Lit.int .i64 x).wf = true) {s : ByteArray} (hs : s.size ≤ 300) (hc : ∀ c ∈ lst s, c ≠ 13) {L : List S29} (hL : L.length ≤ 4000) : ∀ (r : List S29) (p i : Nat) (t : ByteArray) (acc P : List S29) (k : Nat),
    L.drop i = r → L = P ++ r → P.length = i → Run s p r → p ≤ s.size → Pre t acc → acc.map core = P.map core → t.size ≤ 1 + 8 * p → r.length * c1 + c2 ≤ k →
    thyrsuslaw2_LexBlanks.l0 k bs s L t (i : Int) = some true
  | [], p, i, t, acc, P, k, hd, hP, hPi, hR, hp, hpre, hsame, hz, hk => by
    have hc2' := hc2.out
    simp only [List.length_nil, Nat.zero_mul] at hk
    rw [List.append_nil] at hP
    subst hP
    obtain ⟨k, rfl⟩ : ∃ k', k = k' + 1 := ⟨k - 1, by omega⟩
    obtain ⟨f', hf', e⟩ := hpre [] ((lst t).length + 1) (by simp)
    rw [List.append_nil] at e
    have htz := lst_len t
    have hX : tokens (lst t) = (acc, 0, 0) := by
      unfold tokens
      rw [if_neg (by omega), e]
      obtain ⟨f', rfl⟩ : ∃ f'', f' = f'' + 1 := ⟨f' - 1, by simp only [List.length_nil] at hf'; omega⟩
      rfl
    have hlen : acc.length = L.length := by
      have := congrArg List.length hsame
      rw [List.length_map, List.length_map] at this
      exact this
    rw [thyrsuslaw2_LexBlanks.l0, if_neg (by omega)]
    unfold lex_Tokens.f
    rw [hX, Option.bind_some, if_pos rfl]
    obtain ⟨k, rfl⟩ : ∃ k', k = k' + 1 := ⟨k - 1, by omega⟩
    have e2 : (((acc.length : Int)) != (L.length : Int)) = false := by rw [hlen]; simp
    simp only [e2]
    rw [thyrsuslaw2_LexBlanks.j4, if_neg (by decide)]
    exact l2_ok hsame hL L.length 0 k (by omega) (Nat.zero_le _) (by omega)
  | t0 :: r, p, i, t, acc, P, k, hd, hP, hPi, hR, hp, hpre, hsame, hz, hk => by
    have hc1' := hc1.out
    have hc2' := hc2.out
    simp only [List.length_cons, Nat.succ_mul] at hk
    generalize hrc : r.length * c1 = rc at *
    obtain ⟨hrd, hd', hi'⟩ := rd_drop hd
    obtain ⟨hlt, h0, ht, hR'⟩ := hR
    have hl := nextT_len (l := (lst s).drop p) (by rw [List.length_drop, lst_len]; omega) h0
    rw [List.length_drop, lst_len] at hl
    have hbl := blk_le false ((lst s).drop (p + (nextT ((lst s).drop p)).2.2.1))
    rw [List.length_drop, lst_len] at hbl
    have hloc := fun r hr => nextT_local (r := r) (show nextT ((lst s).drop p) = ((nextT ((lst s).drop p)).1, (nextT ((lst s).drop p)).2.1, (nextT ((lst s).drop p)).2.2.1, (nextT ((lst s).drop p)).2.2.2) from rfl) h0 (by rw [List.length_drop, lst_len]; omega) hr
    obtain ⟨⟨kd, n, m, er⟩, hn⟩ : ∃ x, x = nextT ((lst s).drop p) := ⟨_, rfl⟩
    rw [← hn] at ht hR' hl hbl hloc
    have hl : 1 ≤ m ∧ m ≤ s.size - p := hl
    have ht : t0 = ⟨kd, n, (p : Int), txt kd ((lst s).drop p) m⟩ := ht
    obtain ⟨z, hzz⟩ : ∃ z, z = blk false ((lst s).drop (p + m)) := ⟨_, rfl⟩
    have hR' : Run s (p + m + blk false ((lst s).drop (p + m))) r := hR'
    have hbl : blk false ((lst s).drop (p + m)) ≤ s.size - (p + m) := hbl
    have hloc : ∀ r, pStop (nb r 0) = true → (∀ i, i < m → pStop (nb (((lst s).drop p).take m) i) = false) ∧ nextT (((lst s).drop p).take m ++ r) = (kd, n, m, 0) := hloc
    have hzf : 0 < z → 0 < ((lst s).drop (p + m)).length ∧ pStop (nb ((lst s).drop (p + m)) 0) = true := fun h => blk_first (by rw [← hzz]; exact h)
    rw [← hzz] at hR' hbl
    clear hn h0 hzz
    -- the piece, its token
    obtain ⟨N, hN⟩ : ∃ N, N = p + m + z := ⟨_, rfl⟩
    rw [← hN] at hR'
    have hat := run_at r hR'
    obtain ⟨w, hw⟩ : ∃ w, w = s.extract p N := ⟨_, rfl⟩
    have hwl : lst w = ((lst s).drop p).take (m + z) := by rw [hw, lst_extract, show N - p = m + z by omega]
    have hwz : w.size = m + z := by rw [hw, ByteArray.size_extract]; omega
    have hT : lst (w.extract 0 m) = ((lst s).drop p).take m := by
      rw [lst_upto, hwl, List.take_take, Nat.min_eq_left (by omega)]
    have hTl : (lst (w.extract 0 m)).length = m := by rw [lst_len, ByteArray.size_extract]; omega
    have hTz : (w.extract 0 m).size = m := by rw [ByteArray.size_extract]; omega
    have hin := (hloc [32] (by decide)).1
    have hwin : ∀ j, j < m → pStop (nb (lst w) j) = false := by
      intro j hj
      have := hin j hj
      rw [nbTake hj] at this
      rw [hwl, nbTake (by omega)]
      exact this
    have hwst : m < w.size → pStop (nb (lst w) m) = true ∧ nb (lst w) m ≠ 13 := by
      intro h
      have h2 := hzf (by omega)
      have e : nb (lst w) m = nb ((lst s).drop (p + m)) 0 := by
        rw [hwl, nbTake (by omega), nb_drop, nb_drop, Nat.add_zero]
      rw [e]
      refine ⟨h2.2, ?_⟩
      rw [nb_drop, Nat.add_zero]
      intro h3
      have hmem : (lst s).getD (p + m) 0 ∈ lst s := by
        rw [List.getD_eq_getElem?_getD, List.getElem?_eq_getElem (by rw [lst_len]; omega)]
        exact List.getElem_mem _
      have h4 : (lst s).getD (p + m) 0 = 13 := (u8_eq _ 13 (by decide)).1 h3
      exact hc _ hmem h4
    -- the step, whatever is put behind
    have STEP : ∀ (b : ByteArray) (k1 : Nat), Blk (lst b) → rc + c2 + 310 ≤ k1 → thyrsuslaw2_LexBlanks.l1 k1 bs s L t (i : Int) b w ((0 : Nat) : Int) = some true := by
      intro b k1 hb hk1
      obtain ⟨k', hk', e⟩ := trim bs s L t (i : Int) b w m (by omega) (by omega) hwin hwst m 0 k1 (by omega) (Nat.zero_le _) (by omega)
      have hbz := lst_len b
      have hb4 := hb.2.2.2
      have hz1 : (t ++ w.extract 0 m).size = t.size + m := by rw [ByteArray.size_append, hTz]
      have hz2 : (t ++ w.extract 0 m ++ b).size = t.size + m + b.size := by rw [ByteArray.size_append, hz1]
      rw [e, hTz, hz1, if_pos (by omega), if_pos (by omega), w1 i (by omega)]
      have hpre' := pre_step (T := w.extract 0 m) (b := b) (k := kd) (n := n) hpre (by
        intro r hr
        rw [hT, List.length_take, List.length_drop, lst_len, Nat.min_eq_left (by omega)]
        exact (hloc r hr).2) (by omega) (by rw [hT]; exact hin 0 (by omega)) hb
      refine blanks_l0 hc1 hc2 hbs hs hc hL r N (i + 1) _ _ (P ++ [t0]) k' hd' (by rw [hP, List.append_assoc]; rfl) (by rw [List.length_append, hPi]; rfl) hR' (by omega) hpre' ?_ (by omega) (by rw [hrc]; omega)
      rw [List.map_append, List.map_append, hsame]
      congr 1
      rw [ht, hTl]
      show [core _] = [core _]
      unfold core txt
      simp only []
      rw [hT, List.take_take, Nat.min_self]
    -- the law's own steps
    obtain ⟨k, rfl⟩ : ∃ k', k = k' + 3 := ⟨k - 3, by omega⟩
    have J2 : ∀ b : ByteArray, Blk (lst b) → thyrsuslaw2_LexBlanks.j2 (k + 1) bs s L t (i : Int) (N : Int) b = some true := by
      intro b hb
      have hf2 : (rd_T29 L (i : Int)).f2 = (p : Int) := by rw [hrd, ht]
      rw [thyrsuslaw2_LexBlanks.j2, if_pos (by omega), if_pos (by omega), hf2, if_pos (by omega), if_pos (by omega), if_pos (by omega), Int.toNat_natCast, Int.toNat_natCast, ← hw]
      exact STEP b k hb (by omega)
    have J1 : thyrsuslaw2_LexBlanks.j1 (k + 2) bs s L t (i : Int) (N : Int) = some true := by
      rw [thyrsuslaw2_LexBlanks.j1]
      by_cases h : (i : Int) < (bs.length : Int)
      · have hr : rd bs (i : Int) ∈ bs := by
          unfold rd
          rw [Int.toNat_natCast, List.getD_eq_getElem?_getD, List.getElem?_eq_getElem (by omega)]
          exact List.getElem_mem _
        obtain ⟨u, hu, e⟩ := within_ex (i64_of (hbs _ hr)) (n := 5) (by decide) (by decide)
        rw [if_pos h, Option.bind_some, if_pos (by omega), e, Option.bind_some, if_pos (by omega), if_pos (by show (u : Int) < 5; omega)]
        exact J2 _ (gaps_ok u (by omega))
      · rw [if_neg h]
        exact J2 _ gap_space
    rw [thyrsuslaw2_LexBlanks.l0, if_pos (by omega), w1 i (by omega)]
    cases r with
    | nil =>
      have hNs : N = s.size := hat.2 rfl
      simp only [List.length_nil] at hi'
      rw [if_neg (by omega), ← hNs]
      exact J1
    | cons t1 r1 =>
      simp only [List.length_cons] at hi'
      obtain ⟨hrd1, -, -⟩ := rd_drop hd'
      have hf2 : t1.f2 = (N : Int) := hat.1 t1 r1 rfl
      rw [if_pos (by omega), if_pos (by omega), hrd1, hf2]
      exact J1
theorem LexBlanks : thyrsuslaw2_LexBlanks.Pure := by
  intro l0 l1 _ _ hw _ _ hw1
  refine ⟨2000000, ?_⟩
  obtain ⟨s, hs, hz, hc⟩ := text_f l0 hw (k := 2000000) (by decide)
  unfold thyrsuslaw2_LexBlanks.f thyrsusref2_Tokens.f
  rw [known_f, Option.bind_some, if_pos rfl, hs, Option.bind_some, Option.bind_some]
  by_cases h : (tokens (lst s)).2.2 = 0
  · have hR := run_tokens (by omega) h
    have hcount := tokens_count (lst s)
    have hb := blk_le false (lst s)
    rw [lst_len] at hb
    rw [if_pos h]
    exact blanks_l0 (c1 := 320) (c2 := 5000) ⟨Nat.le_refl _⟩ ⟨Nat.le_refl _⟩ hw1 hz hc hcount (tokens (lst s)).1 _ 0 ⟨#[32]⟩ [] [] 2000000 rfl rfl rfl hR hb pre_space rfl (by show 1 ≤ _; omega) (by omega)
  · rw [if_neg h]
end Go.Proofs.Ytleepjnpnbkgdaa.Pure
