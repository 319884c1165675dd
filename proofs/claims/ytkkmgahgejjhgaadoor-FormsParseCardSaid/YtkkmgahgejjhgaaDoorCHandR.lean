/- The document's tokens: the reference's Tokens answers what the model does. -/
import Derived.Test.YtkkmgahgejjhgaaDoorCHandY
import Derived.Test.YtkkmgahgejjhgaaDoorCHandT
namespace Go.Proofs.YtkkmgahgejjhgaaDoor.Lex
open Go.RowKit Go.Proofs.YtkkmgahgejjhgaaDoor.P Go.Proofs.YtkkmgahgejjhgaaDoorW.PrintWords Go.Proofs.YtkkmgahgejjhgaaDoorW.PrintLast Go.Proofs.YtkkmgahgejjhgaaDoorW.PrintMore
set_option linter.unusedVariables false
set_option linter.unusedSimpArgs false
/-- What region 23 may draw. -/
def T23 : Bool × List (List Nat × List Nat) := (true, [([], []), ([], []), ([], []), ([0, 1, 2], [0, 1, 2]), ([], []), ([4], [4]), ([0, 1, 2, 3, 4, 5], []), ([6, 3, 5, 0, 1, 2, 3, 4, 5], [3, 6])])
def B23 : List Nat := [0, 0, 0, 7, 0, 16, 63, 127]
theorem tab23 : rtab .any (opsOf Tryd.f30 23) = T23 := by kernel_rfl
theorem bits23 : waitsOk T23.2 B23 = true := by kernel_rfl
theorem wsub' {p q : Nat} (h : p ≤ q) (hq : q ≤ 4000) : wrap64 ((q : Int) - (p : Int)) = ((q - p : Nat) : Int) := (wrap_id _ (by omega) (by omega)).trans (by omega)
theorem sk {s : ByteArray} (hs : s.size ≤ 4000) {p : Nat} (hp : p ≤ s.size) (w : World) : Calls Tryd.prog 39 #[.string s, .int .i64 (p : Int)] w fun e w' => e = .returned (.int .i64 ((p + blk false ((lst s).drop p) : Nat) : Int)) ∧ w = w' := Y.thyrsusref2_skip.calls (4 * (s.size - p) + 2) s p _ w (skip_f hs hp (Nat.le_refl _))
theorem fr (c : Int) (w : World) : Calls Tryd.prog 40 #[.int .u8 c] w fun e w' => e = .returned (.bool (pFront c)) ∧ w = w' := Y.thyrsusref2_first.calls c _ w (first_r c)
theorem inn (c : Int) (w : World) : Calls Tryd.prog 41 #[.int .u8 c] w fun e w' => e = .returned (.bool (pInner c)) ∧ w = w' := Y.thyrsusref2_inner.calls c _ w (inner_r c)
theorem dg (c : Int) (w : World) : Calls Tryd.prog 42 #[.int .u8 c] w fun e w' => e = .returned (.bool (pDigit c)) ∧ w = w' := Y.thyrsusref2_digit.calls c _ w (digit_r c)
/-- Tokens from a place that is no blank on. -/
def toks2 (f : Nat) (l : List UInt8) (p : Nat) (acc : List S63) : List S63 × Int × Int :=
  if l.length = 0 then (acc, 0, 0)
  else if (nextT l).2.2.2 = 0 then toks f (l.drop (nextT l).2.2.1) (p + (nextT l).2.2.1) (acc ++ [⟨(nextT l).1, (nextT l).2.1, (p : Int), txt (nextT l).1 l (nextT l).2.2.1⟩])
  else ([], (p : Int), (nextT l).2.2.2)
theorem toks_succ (f : Nat) (l : List UInt8) (p : Nat) (acc : List S63) : toks (f + 1) l p acc = toks2 f (l.drop (blk false l)) (p + blk false l) acc := rfl
theorem step_ok {s : ByteArray} {p f m : Nat} {xs : List S63} {r : List S63 × Int × Int} {k n : Int} (hp : p < s.size) (hf : s.size - p ≤ f) (hF : toks2 f ((lst s).drop p) p xs = r) (hn : nextT ((lst s).drop p) = (k, n, m, 0)) :
    1 ≤ m ∧ p + m ≤ s.size ∧ ∃ f', toks2 f' ((lst s).drop (p + m + blk false ((lst s).drop (p + m)))) (p + m + blk false ((lst s).drop (p + m))) (xs ++ [⟨k, n, (p : Int), txt k ((lst s).drop p) m⟩]) = r ∧ s.size - (p + m + blk false ((lst s).drop (p + m))) ≤ f' ∧ p + m + blk false ((lst s).drop (p + m)) ≤ s.size := by
  have hl := nextT_len (l := (lst s).drop p) (by rw [List.length_drop, lst_len]; omega) (by rw [hn])
  rw [hn, List.length_drop, lst_len] at hl
  have hl1 : 1 ≤ m := hl.1
  have hl2 : m ≤ s.size - p := hl.2
  obtain ⟨f, rfl⟩ : ∃ f', f = f' + 1 := ⟨f - 1, by omega⟩
  have hb := blk_le false ((lst s).drop (p + m))
  rw [List.length_drop, lst_len] at hb
  unfold toks2 at hF
  rw [hn, if_neg (by rw [List.length_drop, lst_len]; omega), if_pos rfl] at hF
  simp only [List.drop_drop] at hF
  rw [toks_succ, List.drop_drop] at hF
  exact ⟨hl1, by omega, f, hF, by omega, by omega⟩
theorem step_no {s : ByteArray} {p f m : Nat} {xs : List S63} {r : List S63 × Int × Int} {k n e : Int} (hp : p < s.size) (hF : toks2 f ((lst s).drop p) p xs = r) (hn : nextT ((lst s).drop p) = (k, n, m, e)) (he : e ≠ 0) : r = ([], (p : Int), e) := by
  unfold toks2 at hF
  rw [hn, if_neg (by rw [List.length_drop, lst_len]; omega), if_neg he] at hF
  exact hF.symm
theorem txtR3 (s : ByteArray) (p m : Nat) : txt 3 ((lst s).drop p) m = s.extract p (p + m) := by
  apply lst_inj
  rw [lst_extract]
  unfold txt
  rw [if_pos rfl, show p + m - p = m by omega]
  simp [lst]
theorem txtR1 {s : ByteArray} {p : Nat} (h : p < s.size) (hc : nb (lst s) p = 42) : txt 3 ((lst s).drop p) 1 = ⟨#[42]⟩ := by
  unfold txt
  have e : (lst s).getD p 0 = UInt8.ofNat 42 := (u8_eq _ 42 (by decide)).1 hc
  rw [if_pos rfl, drop_cons (by rw [lst_len]; exact h), e]
  rfl
theorem txtR2 {s : ByteArray} {p : Nat} (h : p + 1 < s.size) (hc : nb (lst s) p = 45) (hd : nb (lst s) (p + 1) = 62) : txt 3 ((lst s).drop p) 2 = ⟨#[45, 62]⟩ := by
  unfold txt
  have e : (lst s).getD p 0 = UInt8.ofNat 45 := (u8_eq _ 45 (by decide)).1 hc
  have e2 : (lst s).getD (p + 1) 0 = UInt8.ofNat 62 := (u8_eq _ 62 (by decide)).1 hd
  rw [if_pos rfl, drop_cons (by rw [lst_len]; omega), drop_cons (by rw [lst_len]; exact h), e, e2]
  rfl
section
variable {s : ByteArray} {p : Nat}
theorem nx1 (h1 : nb (lst s) p = 40) : nextT ((lst s).drop p) = (1, 0, 1, 0) := by
  unfold nextT
  rw [show nb ((lst s).drop p) 0 = nb (lst s) p from nb_drop _ _ _, if_pos h1]
theorem nx2 (h1 : nb (lst s) p = 41) : nextT ((lst s).drop p) = (2, 0, 1, 0) := by
  unfold nextT
  rw [show nb ((lst s).drop p) 0 = nb (lst s) p from nb_drop _ _ _, if_neg (by omega), if_pos h1]
theorem nx3 (h1 : nb (lst s) p = 42) : nextT ((lst s).drop p) = (3, 0, 1, 0) := by
  unfold nextT
  rw [show nb ((lst s).drop p) 0 = nb (lst s) p from nb_drop _ _ _, if_neg (by omega), if_neg (by omega), if_pos h1]
theorem nx4 (h1 : nb (lst s) p = 45) (h2 : p + 1 < s.size) (h3 : nb (lst s) (p + 1) = 62) : nextT ((lst s).drop p) = (3, 0, 2, 0) := by
  unfold nextT
  rw [show nb ((lst s).drop p) 0 = nb (lst s) p from nb_drop _ _ _, show nb ((lst s).drop p) 1 = nb (lst s) (p + 1) from nb_drop _ _ _, if_neg (by omega), if_neg (by omega), if_neg (by omega), if_pos ⟨h1, by rw [List.length_drop, lst_len]; omega, h3⟩]
theorem nx_rest (h1 : ¬ nb (lst s) p = 40) (h2 : ¬ nb (lst s) p = 41) (h3 : ¬ nb (lst s) p = 42) (h4 : ¬ (nb (lst s) p = 45 ∧ p + 1 < s.size ∧ nb (lst s) (p + 1) = 62)) :
    nextT ((lst s).drop p) = (if pFront (nb (lst s) p) = true then (if spn pInner ((lst s).drop p) > 20 then (0, 0, 0, 4) else (3, 0, spn pInner ((lst s).drop p), 0)) else if sgn ((lst s).drop p) = 0 then (0, 0, 0, 6) else match num (((lst s).drop p).take (sgn ((lst s).drop p))) with | none => (0, 0, 0, 4) | some v => (4, v, sgn ((lst s).drop p), 0) : Int × Int × Nat × Int) := by
  have n0 : nb ((lst s).drop p) 0 = nb (lst s) p := nb_drop _ _ _
  have n1 : nb ((lst s).drop p) 1 = nb (lst s) (p + 1) := nb_drop _ _ _
  have nl : ((lst s).drop p).length = s.size - p := by rw [List.length_drop, lst_len]
  unfold nextT
  rw [n0, n1, nl, if_neg h1, if_neg h2, if_neg h3, if_neg (fun h => h4 ⟨h.1, by have := h.2.1; omega, h.2.2⟩)]
  rfl
theorem spn_at' {pr : Int → Bool} (h : p < s.size) : spn pr ((lst s).drop p) = if pr (nb (lst s) p) = true then spn pr ((lst s).drop (p + 1)) + 1 else 0 := spn_drop (by rw [lst_len]; exact h)
theorem nx_name (hp : p < s.size) (h4 : ¬ nb (lst s) p = 45) (h5 : pFront (nb (lst s) p) = true) :
    nextT ((lst s).drop p) = if p + 1 + spn pInner ((lst s).drop (p + 1)) - p > 20 then (0, 0, 0, 4) else (3, 0, p + 1 + spn pInner ((lst s).drop (p + 1)) - p, 0) := by
  have hq := spn_at' (pr := pInner) hp
  rw [if_pos (by unfold pInner; rw [h5]; rfl)] at hq
  rw [nx_rest (by intro h; rw [h] at h5; exact absurd h5 (by decide)) (by intro h; rw [h] at h5; exact absurd h5 (by decide)) (by intro h; rw [h] at h5; exact absurd h5 (by decide)) (fun h => h4 h.1), if_pos h5, hq, show p + 1 + spn pInner ((lst s).drop (p + 1)) - p = spn pInner ((lst s).drop (p + 1)) + 1 by omega]
theorem sgn_rest (hp : p < s.size) : sgn ((lst s).drop p) = if pDigit (nb (lst s) p) = true ∨ (nb (lst s) p = 45 ∧ p + 1 < s.size ∧ pDigit (nb (lst s) (p + 1)) = true) then p + 1 + spn pDigit ((lst s).drop (p + 1)) - p else 0 := by
  have n0 : nb ((lst s).drop p) 0 = nb (lst s) p := nb_drop _ _ _
  have dd := List.drop_drop (l := lst s) (i := 1) (j := p)
  unfold sgn
  rw [n0, dd]
  by_cases h : nb (lst s) p = 45
  · have hd : pDigit (nb (lst s) p) = false := by rw [h]; decide
    rw [if_pos h]
    by_cases h' : p + 1 < s.size
    · have e := spn_at' (s := s) (p := p + 1) (pr := pDigit) h'
      cases hd' : pDigit (nb (lst s) (p + 1)) with
      | true =>
        rw [hd', if_pos rfl] at e
        rw [if_pos (by omega), if_pos (Or.inr ⟨h, h', rfl⟩)]
        omega
      | false =>
        rw [hd', if_neg (by decide)] at e
        rw [if_neg (by omega), if_neg (by rintro (h | h); · rw [hd] at h; exact absurd h (by decide)
                                          · exact absurd h.2.2 (by decide))]
    · have e : spn pDigit ((lst s).drop (p + 1)) = 0 := by
        rw [show p + 1 = s.size by omega, drop_size]
        rfl
      rw [if_neg (by omega), if_neg (by rintro (h | h); · rw [hd] at h; exact absurd h (by decide)
                                        · exact absurd h.2.1 h')]
  · rw [if_neg h, spn_at' hp]
    cases hd : pDigit (nb (lst s) p) with
    | true =>
      rw [if_pos rfl, if_pos (Or.inl rfl)]
      omega
    | false => rw [if_neg (by decide), if_neg (by rintro (h' | h'); · exact absurd h' (by decide)
                                                  · exact h h'.1)]
theorem nx_bad (hp : p < s.size) (h1 : ¬ nb (lst s) p = 40) (h2 : ¬ nb (lst s) p = 41) (h3 : ¬ nb (lst s) p = 42) (h4 : ¬ (nb (lst s) p = 45 ∧ p + 1 < s.size ∧ nb (lst s) (p + 1) = 62)) (h5 : pFront (nb (lst s) p) = false)
    (h6 : ¬ (pDigit (nb (lst s) p) = true ∨ (nb (lst s) p = 45 ∧ p + 1 < s.size ∧ pDigit (nb (lst s) (p + 1)) = true))) : nextT ((lst s).drop p) = (0, 0, 0, 6) := by
  rw [nx_rest h1 h2 h3 h4, if_neg (by rw [h5]; decide), sgn_rest hp, if_neg h6, if_pos rfl]
theorem nx_num (hp : p < s.size) (h4 : ¬ (nb (lst s) p = 45 ∧ p + 1 < s.size ∧ nb (lst s) (p + 1) = 62)) (h6 : pDigit (nb (lst s) p) = true ∨ (nb (lst s) p = 45 ∧ p + 1 < s.size ∧ pDigit (nb (lst s) (p + 1)) = true)) :
    nextT ((lst s).drop p) = match num (lst (s.extract p (p + 1 + spn pDigit ((lst s).drop (p + 1))))) with | none => (0, 0, 0, 4) | some v => (4, v, p + 1 + spn pDigit ((lst s).drop (p + 1)) - p, 0) := by
  have hc : nb (lst s) p = 45 ∨ (48 ≤ nb (lst s) p ∧ nb (lst s) p ≤ 57) := by
    rcases h6 with h | h
    · unfold pDigit at h
      right
      simpa using h
    · exact Or.inl h.1
  have h5 : pFront (nb (lst s) p) = false := by
    have e1 : decide ((97 : Int) ≤ nb (lst s) p) = false := decide_eq_false (by omega)
    have e2 : decide ((65 : Int) ≤ nb (lst s) p) = false := decide_eq_false (by omega)
    have e3 : (nb (lst s) p == 95) = false := by rw [beq_eq_false_iff_ne]; omega
    have e4 : (nb (lst s) p == 39) = false := by rw [beq_eq_false_iff_ne]; omega
    unfold pFront
    rw [e1, e2, e3, e4]
    rfl
  rw [nx_rest (by omega) (by omega) (by omega) h4, if_neg (by rw [h5]; decide), sgn_rest hp, if_pos h6, if_neg (by omega), lst_extract]
theorem num_call (hs : s.size ≤ 4000) (hp : p < s.size) (w : World) : Calls Tryd.prog 43 #[.string (s.extract p (p + 1 + spn pDigit ((lst s).drop (p + 1))))] w fun e w' => e = .returned (.tuple #[.int .i64 ((num (lst (s.extract p (p + 1 + spn pDigit ((lst s).drop (p + 1)))))).getD 0), .bool (num (lst (s.extract p (p + 1 + spn pDigit ((lst s).drop (p + 1)))))).isSome]) ∧ Drawn0 w w' := by
  have hle := spn_le pDigit ((lst s).drop (p + 1))
  rw [List.length_drop, lst_len] at hle
  have hin := spn_in pDigit ((lst s).drop (p + 1))
  generalize hm : spn pDigit ((lst s).drop (p + 1)) = m at *
  have hz : (s.extract p (p + 1 + m)).size = 1 + m := by rw [ByteArray.size_extract]; omega
  have NR := number_r (s := s.extract p (p + 1 + m)) (k := m + 10) (by omega) (by omega) (by omega) (by
    intro j h1 h2
    have e : nb (lst (s.extract p (p + 1 + m))) j = nb (lst s) (p + 1 + (j - 1)) := by
      rw [lst_extract]
      unfold nb
      rw [List.getD_eq_getElem?_getD, List.getD_eq_getElem?_getD, List.getElem?_take, if_pos (by omega), List.getElem?_drop, show p + 1 + (j - 1) = p + j by omega]
    have := hin (j - 1) (by omega)
    rw [nb_drop] at this
    rw [e]
    intro h
    rw [h] at this
    exact absurd this (by decide))
  cases hv : num (lst (s.extract p (p + 1 + m))) with
  | none =>
    rw [hv] at NR
    exact thyrsusref2_number.calls _ _ 0 false w NR
  | some v =>
    rw [hv] at NR
    exact thyrsusref2_number.calls _ _ v true w NR
end

set_option maxHeartbeats 16000000 in
set_option maxRecDepth 100000 in
theorem tokens11 (s : ByteArray) (w : World) : Calls Tryd.prog 30 #[.string s] w fun e w' => ∃ v, e = .returned (.tuple #[v, .int .i64 (tokens (lst s)).2.1, .int .i64 (tokens (lst s)).2.2]) ∧ Kd.R k63 63 w' w.heap.size (fun _ => True) v (tokens (lst s)).1 ∧ Below w.heap.size w w' := by
  have hu63 := Tryd.underlying63
  by_cases hs : s.size > 4000
  · have c1 : decide (4000 < (s.size : Int)) = true := decide_eq_true (by omega)
    have c2 : decide (4000 < s.size) = true := decide_eq_true hs
    have e : tokens (lst s) = ([], 0, 4) := by
      unfold tokens
      rw [if_pos (by rw [lst_len]; exact hs)]
    rw [e]
    clear e hs
    go_enter Tryd.func30, Tryd.ntmps30
    go_wp2
    refine bodyPost_ret (v := .tuple #[.slice none 0 0, .int .i64 0, .int .i64 4]) (by simp [results, Tryd.results30, go_sem]) rfl ?_
    exact ⟨_, rfl, Kd.R_nil _ _ _ _ _, Below.refl _ _⟩
  · have c1 : decide (4000 < (s.size : Int)) = false := decide_eq_false (by omega)
    have c2 : decide (4000 < s.size) = false := decide_eq_false hs
    have TK : tokens (lst s) = toks (s.size + 1) (lst s) 0 [] := by
      unfold tokens
      rw [if_neg (by rw [lst_len]; exact hs), lst_len]
    have HS := Aside0.mk (show s.size ≤ 4000 by omega)
    obtain ⟨r, hr⟩ : ∃ r, r = tokens (lst s) := ⟨_, rfl⟩
    rw [← hr] at TK ⊢
    obtain ⟨r1, r2, r3⟩ := r
    rw [toks_succ] at TK
    have hb0 := blk_le false (lst s)
    rw [lst_len] at hb0
    have SK0 := Aside0.mk (fun w => sk HS.out (p := 0) (Nat.zero_le _) w)
    rw [List.drop_zero] at SK0
    obtain ⟨p0, hp0⟩ : ∃ p0, p0 = 0 + Lex.blk false (lst s) := ⟨_, rfl⟩
    rw [← hp0] at SK0 TK
    rw [show Lex.blk false (lst s) = p0 by omega] at TK hb0
    have T0 := Aside0.mk (And.intro hb0 TK)
    clear TK hr hs hp0 hb0
    go_enter Tryd.func30, Tryd.ntmps30
    go_wp2_with (first | (go_at_call 39; refine (SK0.out _).mono ?_; rintro e w_ ⟨rfl, rfl⟩))
    go_loopw [5, 6] (fun v5 v6 w' => ∃ (p : Nat) (xs : List S63), p ≤ s.size ∧ v6 = .int .i64 p ∧ Aside0 (xs.length ≤ p ∧ ∃ f, s.size - p ≤ f ∧ toks2 f ((lst s).drop p) p xs = (r1, r2, r3)) ∧ Aside0 (Kd.R k63 63 w' w.heap.size (fun _ => True) v5 xs) ∧ Aside0 (Below w.heap.size w w')) (fun _ v6 _ => s.size - (intOf v6).toNat)
    case atStart => exact ⟨p0, [], T0.out.1, rfl, ⟨Nat.zero_le _, s.size, by omega, T0.out.2.symm⟩, ⟨Kd.R_nil _ _ _ _ _⟩, ⟨Below.refl _ _⟩⟩
    case round =>
      obtain ⟨p, xs, hp, rfl, HF, HO, HB⟩ := hrel
      have h1 := HF.out
      have h2 := HS.out
      obtain ⟨hxs, f, hf, hF⟩ := h1
      by_cases hlt : p < s.size
      · have t1 : ((p : Int) < (s.size : Int)) = True := eq_true (by omega)
        have t2 : (p < s.size) = True := eq_true hlt
        have t3 : decide ((p : Int) < (s.size : Int)) = true := decide_eq_true (by omega)
        have t4 : (0 ≤ (p : Int)) = True := eq_true (by omega)
        have XL := Aside0.mk (show xs.length ≤ 4000 by omega)
        have hb : (s[p].toNat : Int) = nb (lst s) p := (bt_at s (p : Int) (by simpa using hlt)).trans (bt_nb s p)
        have V1 := Aside0.mk (w1 p (by omega))
        obtain ⟨p1, hp1⟩ : ∃ p1, p1 = p + 1 := ⟨_, rfl⟩
        rw [← hp1] at V1
        by_cases h1 : nb (lst s) p = 40
        · have hn := nx1 h1
          obtain ⟨hm1, hm2, f', hFF, hff, hpp⟩ := step_ok hlt hf hF hn
          rw [txt_none 1 (by decide)] at hFF
          rw [← hp1] at hm2 hFF hff hpp
          have SK := Aside0.mk (fun w => sk HS.out (p := p1) hm2 w)
          obtain ⟨p9, hp9⟩ : ∃ p9, p9 = p1 + Lex.blk false ((lst s).drop (p1)) := ⟨_, rfl⟩
          rw [← hp9] at hFF hff hpp SK
          have FF := Aside0.mk (And.intro hFF (And.intro hff hpp))
          have GT := Aside0.mk (show xs.length + 1 ≤ p9 ∧ s.size - p9 < s.size - p ∧ p < p9 by omega)
          clear hFF hff hpp hp9 hm1 hm2 hn hF hf
          have c40 : ((s[p].toNat : Int) == 40) = true := by rw [hb]; simp [h1]
          clear h1
          clear h2 hp hxs HF hb hp1
          go_wp2_with (first | (rw [V1.out]) | ((with_reducible refine gate_dst (N := 8) rfl ?_); refine box_event ?hg (N := 8) ?hd (cs := #[.int .i64 0, .int .i64 0, .int .i64 0, .string ⟨#[]⟩]) (t := 63) ?hr ?_; (case hd => rfl); (case hg => rfl); (case hr => first | (go_simp; done) | (go_simp; rfl)); intro g hg w5 hbox hb; have K6 := Aside0.mk hbox; have HO5 := Aside0.mk (Kd.R_below (Kd.R_elderB HO.out g (Nat.le_of_eq hg.symm)) hb); have GE := Aside0.mk ((by rw [hg]; exact HB.out.size) : w.heap.size ≤ g); have HB5 := Aside0.mk (below_step HB.out hb); clear hbox hb hg; have k0 : w5.cell? ⟨g, 0, none⟩ = some (.int .i64 0) := (blk_cell K6.out 0).trans rfl; have k1 : w5.cell? ⟨g, 1, none⟩ = some (.int .i64 0) := (blk_cell K6.out 1).trans rfl; have k2 : w5.cell? ⟨g, 2, none⟩ = some (.int .i64 0) := (blk_cell K6.out 2).trans rfl; have k3 : w5.cell? ⟨g, 3, none⟩ = some (.string ⟨#[]⟩) := (blk_cell K6.out 3).trans rfl; have kf0 := blk_frozen K6.out 0; have kf1 := blk_frozen K6.out 1; have kf2 := blk_frozen K6.out 2; have kf3 := blk_frozen K6.out 3) | ((with_reducible refine gate_dst (N := 31) rfl ?_); refine gen_world (fun wq => wq.heap[g]? = some (.cells #[.int .i64 0, .int .i64 0, .int .i64 (p : Int), .string ⟨#[]⟩] 63 (0, 0)) ∧ Kd.R k63 63 wq w.heap.size (fun k_ => True ∧ k_ ≠ g) u5 xs ∧ Below w.heap.size w wq) ⟨(blk_put (cs := #[.int .i64 0, .int .i64 0, .int .i64 (p : Int), .string ⟨#[]⟩]) (cs' := #[.int .i64 0, .int .i64 0, .int .i64 (p : Int), .string ⟨#[]⟩]) (blk_put (cs := #[.int .i64 0, .int .i64 0, .int .i64 0, .string ⟨#[]⟩]) (cs' := #[.int .i64 0, .int .i64 0, .int .i64 (p : Int), .string ⟨#[]⟩]) (blk_put (cs := #[.int .i64 0, .int .i64 0, .int .i64 0, .string ⟨#[]⟩]) (cs' := #[.int .i64 0, .int .i64 0, .int .i64 0, .string ⟨#[]⟩]) (blk_put (cs := #[.int .i64 0, .int .i64 0, .int .i64 0, .string ⟨#[]⟩]) (cs' := #[.int .i64 0, .int .i64 0, .int .i64 0, .string ⟨#[]⟩]) K6.out 0 (.int .i64 0) rfl) 1 (.int .i64 0) rfl) 2 (.int .i64 (p : Int)) rfl) 3 (.string ⟨#[]⟩) rfl), (Kd.R_far (p := ⟨g, 3, none⟩) (Kd.R_far (p := ⟨g, 2, none⟩) (Kd.R_far (p := ⟨g, 1, none⟩) (Kd.R_far (p := ⟨g, 0, none⟩) HO5.out (fun _ hk => hk.2) _) (fun _ hk => hk.2) _) (fun _ hk => hk.2) _) (fun _ hk => hk.2) _), (below_set (below_set (below_set (below_set HB5.out GE.out) GE.out) GE.out) GE.out)⟩ ?_; rintro w6 ⟨hk_, ho_, hb_⟩; have K7 := Aside0.mk hk_; have HO6 := Aside0.mk ho_; have HB6 := Aside0.mk hb_; clear hk_ ho_ hb_ K6 HO5 HB5 k0 k1 k2 k3 kf0 kf1 kf2 kf3; have k0 : w6.cell? ⟨g, 0, none⟩ = some (.int .i64 0) := (blk_cell K7.out 0).trans rfl; have k1 : w6.cell? ⟨g, 1, none⟩ = some (.int .i64 0) := (blk_cell K7.out 1).trans rfl; have k2 : w6.cell? ⟨g, 2, none⟩ = some (.int .i64 (p : Int)) := (blk_cell K7.out 2).trans rfl; have k3 : w6.cell? ⟨g, 3, none⟩ = some (.string ⟨#[]⟩) := (blk_cell K7.out 3).trans rfl; have kf0 := blk_frozen K7.out 0; have kf1 := blk_frozen K7.out 1; have kf2 := blk_frozen K7.out 2; have kf3 := blk_frozen K7.out 3) | ((with_reducible refine gate_dst (N := 146) rfl ?_); refine gen_world (fun wq => wq.heap[g]? = some (.cells #[.int .i64 1, .int .i64 0, .int .i64 (p : Int), .string ⟨#[]⟩] 63 (0, 0)) ∧ Kd.R k63 63 wq w.heap.size (fun k_ => True ∧ k_ ≠ g) u5 xs ∧ Below w.heap.size w wq) ⟨(blk_put (cs := #[.int .i64 0, .int .i64 0, .int .i64 (p : Int), .string ⟨#[]⟩]) (cs' := #[.int .i64 1, .int .i64 0, .int .i64 (p : Int), .string ⟨#[]⟩]) K7.out 0 (.int .i64 1) rfl), (Kd.R_far (p := ⟨g, 0, none⟩) HO6.out (fun _ hk => hk.2) _), (below_set HB6.out GE.out)⟩ ?_; rintro w7 ⟨hk_, ho_, hb_⟩; have K8 := Aside0.mk hk_; have HO7 := Aside0.mk ho_; have HB7 := Aside0.mk hb_; clear hk_ ho_ hb_ K7 HO6 HB6 k0 k1 k2 k3 kf0 kf1 kf2 kf3; have k0 : w7.cell? ⟨g, 0, none⟩ = some (.int .i64 1) := (blk_cell K8.out 0).trans rfl; have k1 : w7.cell? ⟨g, 1, none⟩ = some (.int .i64 0) := (blk_cell K8.out 1).trans rfl; have k2 : w7.cell? ⟨g, 2, none⟩ = some (.int .i64 (p : Int)) := (blk_cell K8.out 2).trans rfl; have k3 : w7.cell? ⟨g, 3, none⟩ = some (.string ⟨#[]⟩) := (blk_cell K8.out 3).trans rfl; have kf0 := blk_frozen K8.out 0; have kf1 := blk_frozen K8.out 1; have kf2 := blk_frozen K8.out 2; have kf3 := blk_frozen K8.out 3) | ((with_reducible refine gate_builtin (b := .append) (xs := #[.tmp 145, .tmp 147]) rfl ?_); at_builtin; refine Kd.R_append k63 (w0 := w) w.heap.size rfl (.tmp 145) (.tmp 147) 53 63 (.agg #[(.int .i64 0), (.int .i64 0), (.int .i64 0), (.string ⟨#[]⟩)]) 40 rfl Tryd.underlying53 info63 rfl (by decide) (by omega) _ xs (⟨1, 0, (p : Int), (⟨#[]⟩ : ByteArray)⟩ : S63) [.int .i64 1, .int .i64 0, .int .i64 (p : Int), .string (⟨#[]⟩ : ByteArray)] (fun k_ => k_ ≠ g) (fun _ => False) rfl (by first | (go_simp; done) | (go_simp; rfl)) ?aP (fun _ hk => hk.elim) ?aF ?aO ?aB ?aS ?aL ?_; (case aP => exact k63_mkM _ _ _ (⟨1, 0, (p : Int), (⟨#[]⟩ : ByteArray)⟩ : S63)); (case aB => exact HB7.out); (case aF => exact Kd.freshB K8.out); (case aO => exact Kd.R_mono HO7.out (fun _ hk => hk.2)); (case aS => exact HB7.out.size); (case aL => have := XL.out; omega); intro v8 w8 ho hb hg hat; have HO8 := Aside0.mk ho; have HB8 := Aside0.mk hb; clear ho hb hg hat) | (go_at_call 39; (with_reducible refine (SK.out _).mono ?_); rintro e w_ ⟨rfl, rfl⟩))
          have h1_ := FF.out
          refine ⟨⟨p9, _, h1_.2.2, rfl, ⟨?_, f', h1_.2.1, h1_.1⟩, ⟨Kd.R_mono HO8.out (fun _ _ => trivial)⟩, HB8⟩, ?_⟩
          · rw [List.length_append]
            exact GT.out.1
          · have h2_ := GT.out
            simp only [intOf, Int.toNat_natCast]
            omega
        by_cases h2_ : nb (lst s) p = 41
        · have hn := nx2 h2_
          obtain ⟨hm1, hm2, f', hFF, hff, hpp⟩ := step_ok hlt hf hF hn
          rw [txt_none 2 (by decide)] at hFF
          rw [← hp1] at hm2 hFF hff hpp
          have SK := Aside0.mk (fun w => sk HS.out (p := p1) hm2 w)
          obtain ⟨p9, hp9⟩ : ∃ p9, p9 = p1 + Lex.blk false ((lst s).drop (p1)) := ⟨_, rfl⟩
          rw [← hp9] at hFF hff hpp SK
          have FF := Aside0.mk (And.intro hFF (And.intro hff hpp))
          have GT := Aside0.mk (show xs.length + 1 ≤ p9 ∧ s.size - p9 < s.size - p ∧ p < p9 by omega)
          clear hFF hff hpp hp9 hm1 hm2 hn hF hf
          have c40 : ((s[p].toNat : Int) == 40) = false := by rw [hb]; simp [h2_]
          have c41 : ((s[p].toNat : Int) == 41) = true := by rw [hb]; simp [h2_]
          clear h1 h2_
          clear h2 hp hxs HF hb hp1
          go_wp2_with (first | (rw [V1.out]) | ((with_reducible refine gate_dst (N := 8) rfl ?_); refine box_event ?hg (N := 8) ?hd (cs := #[.int .i64 0, .int .i64 0, .int .i64 0, .string ⟨#[]⟩]) (t := 63) ?hr ?_; (case hd => rfl); (case hg => rfl); (case hr => first | (go_simp; done) | (go_simp; rfl)); intro g hg w5 hbox hb; have K6 := Aside0.mk hbox; have HO5 := Aside0.mk (Kd.R_below (Kd.R_elderB HO.out g (Nat.le_of_eq hg.symm)) hb); have GE := Aside0.mk ((by rw [hg]; exact HB.out.size) : w.heap.size ≤ g); have HB5 := Aside0.mk (below_step HB.out hb); clear hbox hb hg; have k0 : w5.cell? ⟨g, 0, none⟩ = some (.int .i64 0) := (blk_cell K6.out 0).trans rfl; have k1 : w5.cell? ⟨g, 1, none⟩ = some (.int .i64 0) := (blk_cell K6.out 1).trans rfl; have k2 : w5.cell? ⟨g, 2, none⟩ = some (.int .i64 0) := (blk_cell K6.out 2).trans rfl; have k3 : w5.cell? ⟨g, 3, none⟩ = some (.string ⟨#[]⟩) := (blk_cell K6.out 3).trans rfl; have kf0 := blk_frozen K6.out 0; have kf1 := blk_frozen K6.out 1; have kf2 := blk_frozen K6.out 2; have kf3 := blk_frozen K6.out 3) | ((with_reducible refine gate_dst (N := 31) rfl ?_); refine gen_world (fun wq => wq.heap[g]? = some (.cells #[.int .i64 0, .int .i64 0, .int .i64 (p : Int), .string ⟨#[]⟩] 63 (0, 0)) ∧ Kd.R k63 63 wq w.heap.size (fun k_ => True ∧ k_ ≠ g) u5 xs ∧ Below w.heap.size w wq) ⟨(blk_put (cs := #[.int .i64 0, .int .i64 0, .int .i64 (p : Int), .string ⟨#[]⟩]) (cs' := #[.int .i64 0, .int .i64 0, .int .i64 (p : Int), .string ⟨#[]⟩]) (blk_put (cs := #[.int .i64 0, .int .i64 0, .int .i64 0, .string ⟨#[]⟩]) (cs' := #[.int .i64 0, .int .i64 0, .int .i64 (p : Int), .string ⟨#[]⟩]) (blk_put (cs := #[.int .i64 0, .int .i64 0, .int .i64 0, .string ⟨#[]⟩]) (cs' := #[.int .i64 0, .int .i64 0, .int .i64 0, .string ⟨#[]⟩]) (blk_put (cs := #[.int .i64 0, .int .i64 0, .int .i64 0, .string ⟨#[]⟩]) (cs' := #[.int .i64 0, .int .i64 0, .int .i64 0, .string ⟨#[]⟩]) K6.out 0 (.int .i64 0) rfl) 1 (.int .i64 0) rfl) 2 (.int .i64 (p : Int)) rfl) 3 (.string ⟨#[]⟩) rfl), (Kd.R_far (p := ⟨g, 3, none⟩) (Kd.R_far (p := ⟨g, 2, none⟩) (Kd.R_far (p := ⟨g, 1, none⟩) (Kd.R_far (p := ⟨g, 0, none⟩) HO5.out (fun _ hk => hk.2) _) (fun _ hk => hk.2) _) (fun _ hk => hk.2) _) (fun _ hk => hk.2) _), (below_set (below_set (below_set (below_set HB5.out GE.out) GE.out) GE.out) GE.out)⟩ ?_; rintro w6 ⟨hk_, ho_, hb_⟩; have K7 := Aside0.mk hk_; have HO6 := Aside0.mk ho_; have HB6 := Aside0.mk hb_; clear hk_ ho_ hb_ K6 HO5 HB5 k0 k1 k2 k3 kf0 kf1 kf2 kf3; have k0 : w6.cell? ⟨g, 0, none⟩ = some (.int .i64 0) := (blk_cell K7.out 0).trans rfl; have k1 : w6.cell? ⟨g, 1, none⟩ = some (.int .i64 0) := (blk_cell K7.out 1).trans rfl; have k2 : w6.cell? ⟨g, 2, none⟩ = some (.int .i64 (p : Int)) := (blk_cell K7.out 2).trans rfl; have k3 : w6.cell? ⟨g, 3, none⟩ = some (.string ⟨#[]⟩) := (blk_cell K7.out 3).trans rfl; have kf0 := blk_frozen K7.out 0; have kf1 := blk_frozen K7.out 1; have kf2 := blk_frozen K7.out 2; have kf3 := blk_frozen K7.out 3) | ((with_reducible refine gate_dst (N := 146) rfl ?_); refine gen_world (fun wq => wq.heap[g]? = some (.cells #[.int .i64 2, .int .i64 0, .int .i64 (p : Int), .string ⟨#[]⟩] 63 (0, 0)) ∧ Kd.R k63 63 wq w.heap.size (fun k_ => True ∧ k_ ≠ g) u5 xs ∧ Below w.heap.size w wq) ⟨(blk_put (cs := #[.int .i64 0, .int .i64 0, .int .i64 (p : Int), .string ⟨#[]⟩]) (cs' := #[.int .i64 2, .int .i64 0, .int .i64 (p : Int), .string ⟨#[]⟩]) K7.out 0 (.int .i64 2) rfl), (Kd.R_far (p := ⟨g, 0, none⟩) HO6.out (fun _ hk => hk.2) _), (below_set HB6.out GE.out)⟩ ?_; rintro w7 ⟨hk_, ho_, hb_⟩; have K8 := Aside0.mk hk_; have HO7 := Aside0.mk ho_; have HB7 := Aside0.mk hb_; clear hk_ ho_ hb_ K7 HO6 HB6 k0 k1 k2 k3 kf0 kf1 kf2 kf3; have k0 : w7.cell? ⟨g, 0, none⟩ = some (.int .i64 2) := (blk_cell K8.out 0).trans rfl; have k1 : w7.cell? ⟨g, 1, none⟩ = some (.int .i64 0) := (blk_cell K8.out 1).trans rfl; have k2 : w7.cell? ⟨g, 2, none⟩ = some (.int .i64 (p : Int)) := (blk_cell K8.out 2).trans rfl; have k3 : w7.cell? ⟨g, 3, none⟩ = some (.string ⟨#[]⟩) := (blk_cell K8.out 3).trans rfl; have kf0 := blk_frozen K8.out 0; have kf1 := blk_frozen K8.out 1; have kf2 := blk_frozen K8.out 2; have kf3 := blk_frozen K8.out 3) | ((with_reducible refine gate_builtin (b := .append) (xs := #[.tmp 145, .tmp 147]) rfl ?_); at_builtin; refine Kd.R_append k63 (w0 := w) w.heap.size rfl (.tmp 145) (.tmp 147) 53 63 (.agg #[(.int .i64 0), (.int .i64 0), (.int .i64 0), (.string ⟨#[]⟩)]) 40 rfl Tryd.underlying53 info63 rfl (by decide) (by omega) _ xs (⟨2, 0, (p : Int), (⟨#[]⟩ : ByteArray)⟩ : S63) [.int .i64 2, .int .i64 0, .int .i64 (p : Int), .string (⟨#[]⟩ : ByteArray)] (fun k_ => k_ ≠ g) (fun _ => False) rfl (by first | (go_simp; done) | (go_simp; rfl)) ?aP (fun _ hk => hk.elim) ?aF ?aO ?aB ?aS ?aL ?_; (case aP => exact k63_mkM _ _ _ (⟨2, 0, (p : Int), (⟨#[]⟩ : ByteArray)⟩ : S63)); (case aB => exact HB7.out); (case aF => exact Kd.freshB K8.out); (case aO => exact Kd.R_mono HO7.out (fun _ hk => hk.2)); (case aS => exact HB7.out.size); (case aL => have := XL.out; omega); intro v8 w8 ho hb hg hat; have HO8 := Aside0.mk ho; have HB8 := Aside0.mk hb; clear ho hb hg hat) | (go_at_call 39; (with_reducible refine (SK.out _).mono ?_); rintro e w_ ⟨rfl, rfl⟩))
          have h1_ := FF.out
          refine ⟨⟨p9, _, h1_.2.2, rfl, ⟨?_, f', h1_.2.1, h1_.1⟩, ⟨Kd.R_mono HO8.out (fun _ _ => trivial)⟩, HB8⟩, ?_⟩
          · rw [List.length_append]
            exact GT.out.1
          · have h2_ := GT.out
            simp only [intOf, Int.toNat_natCast]
            omega
        by_cases h3 : nb (lst s) p = 42
        · have hn := nx3 h3
          obtain ⟨hm1, hm2, f', hFF, hff, hpp⟩ := step_ok hlt hf hF hn
          rw [txtR1 hlt h3] at hFF
          rw [← hp1] at hm2 hFF hff hpp
          have SK := Aside0.mk (fun w => sk HS.out (p := p1) hm2 w)
          obtain ⟨p9, hp9⟩ : ∃ p9, p9 = p1 + Lex.blk false ((lst s).drop (p1)) := ⟨_, rfl⟩
          rw [← hp9] at hFF hff hpp SK
          have FF := Aside0.mk (And.intro hFF (And.intro hff hpp))
          have GT := Aside0.mk (show xs.length + 1 ≤ p9 ∧ s.size - p9 < s.size - p ∧ p < p9 by omega)
          clear hFF hff hpp hp9 hm1 hm2 hn hF hf
          have c40 : ((s[p].toNat : Int) == 40) = false := by rw [hb]; simp [h3]
          have c41 : ((s[p].toNat : Int) == 41) = false := by rw [hb]; simp [h3]
          have c42 : ((s[p].toNat : Int) == 42) = true := by rw [hb]; simp [h3]
          clear h1 h2_ h3
          clear h2 hp hxs HF hb hp1
          go_wp2_with (first | (rw [V1.out]) | ((with_reducible refine gate_dst (N := 8) rfl ?_); refine box_event ?hg (N := 8) ?hd (cs := #[.int .i64 0, .int .i64 0, .int .i64 0, .string ⟨#[]⟩]) (t := 63) ?hr ?_; (case hd => rfl); (case hg => rfl); (case hr => first | (go_simp; done) | (go_simp; rfl)); intro g hg w5 hbox hb; have K6 := Aside0.mk hbox; have HO5 := Aside0.mk (Kd.R_below (Kd.R_elderB HO.out g (Nat.le_of_eq hg.symm)) hb); have GE := Aside0.mk ((by rw [hg]; exact HB.out.size) : w.heap.size ≤ g); have HB5 := Aside0.mk (below_step HB.out hb); clear hbox hb hg; have k0 : w5.cell? ⟨g, 0, none⟩ = some (.int .i64 0) := (blk_cell K6.out 0).trans rfl; have k1 : w5.cell? ⟨g, 1, none⟩ = some (.int .i64 0) := (blk_cell K6.out 1).trans rfl; have k2 : w5.cell? ⟨g, 2, none⟩ = some (.int .i64 0) := (blk_cell K6.out 2).trans rfl; have k3 : w5.cell? ⟨g, 3, none⟩ = some (.string ⟨#[]⟩) := (blk_cell K6.out 3).trans rfl; have kf0 := blk_frozen K6.out 0; have kf1 := blk_frozen K6.out 1; have kf2 := blk_frozen K6.out 2; have kf3 := blk_frozen K6.out 3) | ((with_reducible refine gate_dst (N := 31) rfl ?_); refine gen_world (fun wq => wq.heap[g]? = some (.cells #[.int .i64 0, .int .i64 0, .int .i64 (p : Int), .string ⟨#[]⟩] 63 (0, 0)) ∧ Kd.R k63 63 wq w.heap.size (fun k_ => True ∧ k_ ≠ g) u5 xs ∧ Below w.heap.size w wq) ⟨(blk_put (cs := #[.int .i64 0, .int .i64 0, .int .i64 (p : Int), .string ⟨#[]⟩]) (cs' := #[.int .i64 0, .int .i64 0, .int .i64 (p : Int), .string ⟨#[]⟩]) (blk_put (cs := #[.int .i64 0, .int .i64 0, .int .i64 0, .string ⟨#[]⟩]) (cs' := #[.int .i64 0, .int .i64 0, .int .i64 (p : Int), .string ⟨#[]⟩]) (blk_put (cs := #[.int .i64 0, .int .i64 0, .int .i64 0, .string ⟨#[]⟩]) (cs' := #[.int .i64 0, .int .i64 0, .int .i64 0, .string ⟨#[]⟩]) (blk_put (cs := #[.int .i64 0, .int .i64 0, .int .i64 0, .string ⟨#[]⟩]) (cs' := #[.int .i64 0, .int .i64 0, .int .i64 0, .string ⟨#[]⟩]) K6.out 0 (.int .i64 0) rfl) 1 (.int .i64 0) rfl) 2 (.int .i64 (p : Int)) rfl) 3 (.string ⟨#[]⟩) rfl), (Kd.R_far (p := ⟨g, 3, none⟩) (Kd.R_far (p := ⟨g, 2, none⟩) (Kd.R_far (p := ⟨g, 1, none⟩) (Kd.R_far (p := ⟨g, 0, none⟩) HO5.out (fun _ hk => hk.2) _) (fun _ hk => hk.2) _) (fun _ hk => hk.2) _) (fun _ hk => hk.2) _), (below_set (below_set (below_set (below_set HB5.out GE.out) GE.out) GE.out) GE.out)⟩ ?_; rintro w6 ⟨hk_, ho_, hb_⟩; have K7 := Aside0.mk hk_; have HO6 := Aside0.mk ho_; have HB6 := Aside0.mk hb_; clear hk_ ho_ hb_ K6 HO5 HB5 k0 k1 k2 k3 kf0 kf1 kf2 kf3; have k0 : w6.cell? ⟨g, 0, none⟩ = some (.int .i64 0) := (blk_cell K7.out 0).trans rfl; have k1 : w6.cell? ⟨g, 1, none⟩ = some (.int .i64 0) := (blk_cell K7.out 1).trans rfl; have k2 : w6.cell? ⟨g, 2, none⟩ = some (.int .i64 (p : Int)) := (blk_cell K7.out 2).trans rfl; have k3 : w6.cell? ⟨g, 3, none⟩ = some (.string ⟨#[]⟩) := (blk_cell K7.out 3).trans rfl; have kf0 := blk_frozen K7.out 0; have kf1 := blk_frozen K7.out 1; have kf2 := blk_frozen K7.out 2; have kf3 := blk_frozen K7.out 3) | ((with_reducible refine gate_dst (N := 146) rfl ?_); refine gen_world (fun wq => wq.heap[g]? = some (.cells #[.int .i64 3, .int .i64 0, .int .i64 (p : Int), .string ⟨#[42]⟩] 63 (0, 0)) ∧ Kd.R k63 63 wq w.heap.size (fun k_ => True ∧ k_ ≠ g) u5 xs ∧ Below w.heap.size w wq) ⟨(blk_put (cs := #[.int .i64 3, .int .i64 0, .int .i64 (p : Int), .string ⟨#[]⟩]) (cs' := #[.int .i64 3, .int .i64 0, .int .i64 (p : Int), .string ⟨#[42]⟩]) (blk_put (cs := #[.int .i64 0, .int .i64 0, .int .i64 (p : Int), .string ⟨#[]⟩]) (cs' := #[.int .i64 3, .int .i64 0, .int .i64 (p : Int), .string ⟨#[]⟩]) K7.out 0 (.int .i64 3) rfl) 3 (.string ⟨#[42]⟩) rfl), (Kd.R_far (p := ⟨g, 3, none⟩) (Kd.R_far (p := ⟨g, 0, none⟩) HO6.out (fun _ hk => hk.2) _) (fun _ hk => hk.2) _), (below_set (below_set HB6.out GE.out) GE.out)⟩ ?_; rintro w7 ⟨hk_, ho_, hb_⟩; have K8 := Aside0.mk hk_; have HO7 := Aside0.mk ho_; have HB7 := Aside0.mk hb_; clear hk_ ho_ hb_ K7 HO6 HB6 k0 k1 k2 k3 kf0 kf1 kf2 kf3; have k0 : w7.cell? ⟨g, 0, none⟩ = some (.int .i64 3) := (blk_cell K8.out 0).trans rfl; have k1 : w7.cell? ⟨g, 1, none⟩ = some (.int .i64 0) := (blk_cell K8.out 1).trans rfl; have k2 : w7.cell? ⟨g, 2, none⟩ = some (.int .i64 (p : Int)) := (blk_cell K8.out 2).trans rfl; have k3 : w7.cell? ⟨g, 3, none⟩ = some (.string ⟨#[42]⟩) := (blk_cell K8.out 3).trans rfl; have kf0 := blk_frozen K8.out 0; have kf1 := blk_frozen K8.out 1; have kf2 := blk_frozen K8.out 2; have kf3 := blk_frozen K8.out 3) | ((with_reducible refine gate_builtin (b := .append) (xs := #[.tmp 145, .tmp 147]) rfl ?_); at_builtin; refine Kd.R_append k63 (w0 := w) w.heap.size rfl (.tmp 145) (.tmp 147) 53 63 (.agg #[(.int .i64 0), (.int .i64 0), (.int .i64 0), (.string ⟨#[]⟩)]) 40 rfl Tryd.underlying53 info63 rfl (by decide) (by omega) _ xs (⟨3, 0, (p : Int), (⟨#[42]⟩ : ByteArray)⟩ : S63) [.int .i64 3, .int .i64 0, .int .i64 (p : Int), .string (⟨#[42]⟩ : ByteArray)] (fun k_ => k_ ≠ g) (fun _ => False) rfl (by first | (go_simp; done) | (go_simp; rfl)) ?aP (fun _ hk => hk.elim) ?aF ?aO ?aB ?aS ?aL ?_; (case aP => exact k63_mkM _ _ _ (⟨3, 0, (p : Int), (⟨#[42]⟩ : ByteArray)⟩ : S63)); (case aB => exact HB7.out); (case aF => exact Kd.freshB K8.out); (case aO => exact Kd.R_mono HO7.out (fun _ hk => hk.2)); (case aS => exact HB7.out.size); (case aL => have := XL.out; omega); intro v8 w8 ho hb hg hat; have HO8 := Aside0.mk ho; have HB8 := Aside0.mk hb; clear ho hb hg hat) | (go_at_call 39; (with_reducible refine (SK.out _).mono ?_); rintro e w_ ⟨rfl, rfl⟩))
          have h1_ := FF.out
          refine ⟨⟨p9, _, h1_.2.2, rfl, ⟨?_, f', h1_.2.1, h1_.1⟩, ⟨Kd.R_mono HO8.out (fun _ _ => trivial)⟩, HB8⟩, ?_⟩
          · rw [List.length_append]
            exact GT.out.1
          · have h2_ := GT.out
            simp only [intOf, Int.toNat_natCast]
            omega
        by_cases h4 : nb (lst s) p = 45 ∧ p + 1 < s.size ∧ nb (lst s) (p + 1) = 62
        · have hq1 : p1 < s.size := by omega
          have u1 : ((p1 : Int) < (s.size : Int)) = True := eq_true (by omega)
          have u2_ : (p1 < s.size) = True := eq_true hq1
          have u3 : decide ((p1 : Int) < (s.size : Int)) = true := decide_eq_true (by omega)
          have u4_ : (0 ≤ (p1 : Int)) = True := eq_true (by omega)
          have hb1 : (s[p1].toNat : Int) = nb (lst s) p1 := (bt_at s (p1 : Int) (by simpa using hq1)).trans (bt_nb s p1)
          have hn := nx4 (s := s) h4.1 h4.2.1 h4.2.2
          obtain ⟨p2, hp2⟩ : ∃ p2, p2 = p + 2 := ⟨_, rfl⟩
          have V2 := Aside0.mk (w1 p1 (by omega))
          rw [show p1 + 1 = p2 by omega] at V2
          obtain ⟨hm1, hm2, f', hFF, hff, hpp⟩ := step_ok hlt hf hF hn
          rw [txtR2 h4.2.1 h4.1 h4.2.2] at hFF
          rw [← hp2] at hm2 hFF hff hpp
          have SK := Aside0.mk (fun w => sk HS.out (p := p2) hm2 w)
          obtain ⟨p9, hp9⟩ : ∃ p9, p9 = p2 + Lex.blk false ((lst s).drop (p2)) := ⟨_, rfl⟩
          rw [← hp9] at hFF hff hpp SK
          have FF := Aside0.mk (And.intro hFF (And.intro hff hpp))
          have GT := Aside0.mk (show xs.length + 1 ≤ p9 ∧ s.size - p9 < s.size - p ∧ p < p9 by omega)
          clear hFF hff hpp hp9 hm1 hm2 hn hF hf
          have c40 : ((s[p].toNat : Int) == 40) = false := by rw [hb]; simp [h1]
          have c41 : ((s[p].toNat : Int) == 41) = false := by rw [hb]; simp [h2_]
          have c42 : ((s[p].toNat : Int) == 42) = false := by rw [hb]; simp [h3]
          have c45 : ((s[p].toNat : Int) == 45) = true := by rw [hb]; simp [h4.1]
          have d62 : ((s[p1].toNat : Int) == 62) = true := by rw [hb1]; simp [hp1, h4.2.2]
          clear h1 h2_ h3 h4 hb1 h2 hp hxs HF hb hp1 hp2
          go_wp2_with (first | (rw [V1.out]) | (rw [V2.out]) | ((with_reducible refine gate_dst (N := 8) rfl ?_); refine box_event ?hg (N := 8) ?hd (cs := #[.int .i64 0, .int .i64 0, .int .i64 0, .string ⟨#[]⟩]) (t := 63) ?hr ?_; (case hd => rfl); (case hg => rfl); (case hr => first | (go_simp; done) | (go_simp; rfl)); intro g hg w5 hbox hb; have K6 := Aside0.mk hbox; have HO5 := Aside0.mk (Kd.R_below (Kd.R_elderB HO.out g (Nat.le_of_eq hg.symm)) hb); have GE := Aside0.mk ((by rw [hg]; exact HB.out.size) : w.heap.size ≤ g); have HB5 := Aside0.mk (below_step HB.out hb); clear hbox hb hg; have k0 : w5.cell? ⟨g, 0, none⟩ = some (.int .i64 0) := (blk_cell K6.out 0).trans rfl; have k1 : w5.cell? ⟨g, 1, none⟩ = some (.int .i64 0) := (blk_cell K6.out 1).trans rfl; have k2 : w5.cell? ⟨g, 2, none⟩ = some (.int .i64 0) := (blk_cell K6.out 2).trans rfl; have k3 : w5.cell? ⟨g, 3, none⟩ = some (.string ⟨#[]⟩) := (blk_cell K6.out 3).trans rfl; have kf0 := blk_frozen K6.out 0; have kf1 := blk_frozen K6.out 1; have kf2 := blk_frozen K6.out 2; have kf3 := blk_frozen K6.out 3) | ((with_reducible refine gate_dst (N := 31) rfl ?_); refine gen_world (fun wq => wq.heap[g]? = some (.cells #[.int .i64 0, .int .i64 0, .int .i64 (p : Int), .string ⟨#[]⟩] 63 (0, 0)) ∧ Kd.R k63 63 wq w.heap.size (fun k_ => True ∧ k_ ≠ g) u5 xs ∧ Below w.heap.size w wq) ⟨(blk_put (cs := #[.int .i64 0, .int .i64 0, .int .i64 (p : Int), .string ⟨#[]⟩]) (cs' := #[.int .i64 0, .int .i64 0, .int .i64 (p : Int), .string ⟨#[]⟩]) (blk_put (cs := #[.int .i64 0, .int .i64 0, .int .i64 0, .string ⟨#[]⟩]) (cs' := #[.int .i64 0, .int .i64 0, .int .i64 (p : Int), .string ⟨#[]⟩]) (blk_put (cs := #[.int .i64 0, .int .i64 0, .int .i64 0, .string ⟨#[]⟩]) (cs' := #[.int .i64 0, .int .i64 0, .int .i64 0, .string ⟨#[]⟩]) (blk_put (cs := #[.int .i64 0, .int .i64 0, .int .i64 0, .string ⟨#[]⟩]) (cs' := #[.int .i64 0, .int .i64 0, .int .i64 0, .string ⟨#[]⟩]) K6.out 0 (.int .i64 0) rfl) 1 (.int .i64 0) rfl) 2 (.int .i64 (p : Int)) rfl) 3 (.string ⟨#[]⟩) rfl), (Kd.R_far (p := ⟨g, 3, none⟩) (Kd.R_far (p := ⟨g, 2, none⟩) (Kd.R_far (p := ⟨g, 1, none⟩) (Kd.R_far (p := ⟨g, 0, none⟩) HO5.out (fun _ hk => hk.2) _) (fun _ hk => hk.2) _) (fun _ hk => hk.2) _) (fun _ hk => hk.2) _), (below_set (below_set (below_set (below_set HB5.out GE.out) GE.out) GE.out) GE.out)⟩ ?_; rintro w6 ⟨hk_, ho_, hb_⟩; have K7 := Aside0.mk hk_; have HO6 := Aside0.mk ho_; have HB6 := Aside0.mk hb_; clear hk_ ho_ hb_ K6 HO5 HB5 k0 k1 k2 k3 kf0 kf1 kf2 kf3; have k0 : w6.cell? ⟨g, 0, none⟩ = some (.int .i64 0) := (blk_cell K7.out 0).trans rfl; have k1 : w6.cell? ⟨g, 1, none⟩ = some (.int .i64 0) := (blk_cell K7.out 1).trans rfl; have k2 : w6.cell? ⟨g, 2, none⟩ = some (.int .i64 (p : Int)) := (blk_cell K7.out 2).trans rfl; have k3 : w6.cell? ⟨g, 3, none⟩ = some (.string ⟨#[]⟩) := (blk_cell K7.out 3).trans rfl; have kf0 := blk_frozen K7.out 0; have kf1 := blk_frozen K7.out 1; have kf2 := blk_frozen K7.out 2; have kf3 := blk_frozen K7.out 3) | ((with_reducible refine gate_dst (N := 146) rfl ?_); refine gen_world (fun wq => wq.heap[g]? = some (.cells #[.int .i64 3, .int .i64 0, .int .i64 (p : Int), .string ⟨#[45, 62]⟩] 63 (0, 0)) ∧ Kd.R k63 63 wq w.heap.size (fun k_ => True ∧ k_ ≠ g) u5 xs ∧ Below w.heap.size w wq) ⟨(blk_put (cs := #[.int .i64 3, .int .i64 0, .int .i64 (p : Int), .string ⟨#[]⟩]) (cs' := #[.int .i64 3, .int .i64 0, .int .i64 (p : Int), .string ⟨#[45, 62]⟩]) (blk_put (cs := #[.int .i64 0, .int .i64 0, .int .i64 (p : Int), .string ⟨#[]⟩]) (cs' := #[.int .i64 3, .int .i64 0, .int .i64 (p : Int), .string ⟨#[]⟩]) K7.out 0 (.int .i64 3) rfl) 3 (.string ⟨#[45, 62]⟩) rfl), (Kd.R_far (p := ⟨g, 3, none⟩) (Kd.R_far (p := ⟨g, 0, none⟩) HO6.out (fun _ hk => hk.2) _) (fun _ hk => hk.2) _), (below_set (below_set HB6.out GE.out) GE.out)⟩ ?_; rintro w7 ⟨hk_, ho_, hb_⟩; have K8 := Aside0.mk hk_; have HO7 := Aside0.mk ho_; have HB7 := Aside0.mk hb_; clear hk_ ho_ hb_ K7 HO6 HB6 k0 k1 k2 k3 kf0 kf1 kf2 kf3; have k0 : w7.cell? ⟨g, 0, none⟩ = some (.int .i64 3) := (blk_cell K8.out 0).trans rfl; have k1 : w7.cell? ⟨g, 1, none⟩ = some (.int .i64 0) := (blk_cell K8.out 1).trans rfl; have k2 : w7.cell? ⟨g, 2, none⟩ = some (.int .i64 (p : Int)) := (blk_cell K8.out 2).trans rfl; have k3 : w7.cell? ⟨g, 3, none⟩ = some (.string ⟨#[45, 62]⟩) := (blk_cell K8.out 3).trans rfl; have kf0 := blk_frozen K8.out 0; have kf1 := blk_frozen K8.out 1; have kf2 := blk_frozen K8.out 2; have kf3 := blk_frozen K8.out 3) | ((with_reducible refine gate_builtin (b := .append) (xs := #[.tmp 145, .tmp 147]) rfl ?_); at_builtin; refine Kd.R_append k63 (w0 := w) w.heap.size rfl (.tmp 145) (.tmp 147) 53 63 (.agg #[(.int .i64 0), (.int .i64 0), (.int .i64 0), (.string ⟨#[]⟩)]) 40 rfl Tryd.underlying53 info63 rfl (by decide) (by omega) _ xs (⟨3, 0, (p : Int), (⟨#[45, 62]⟩ : ByteArray)⟩ : S63) [.int .i64 3, .int .i64 0, .int .i64 (p : Int), .string (⟨#[45, 62]⟩ : ByteArray)] (fun k_ => k_ ≠ g) (fun _ => False) rfl (by first | (go_simp; done) | (go_simp; rfl)) ?aP (fun _ hk => hk.elim) ?aF ?aO ?aB ?aS ?aL ?_; (case aP => exact k63_mkM _ _ _ (⟨3, 0, (p : Int), (⟨#[45, 62]⟩ : ByteArray)⟩ : S63)); (case aB => exact HB7.out); (case aF => exact Kd.freshB K8.out); (case aO => exact Kd.R_mono HO7.out (fun _ hk => hk.2)); (case aS => exact HB7.out.size); (case aL => have := XL.out; omega); intro v8 w8 ho hb hg hat; have HO8 := Aside0.mk ho; have HB8 := Aside0.mk hb; clear ho hb hg hat) | (go_at_call 39; (with_reducible refine (SK.out _).mono ?_); rintro e w_ ⟨rfl, rfl⟩))
          have h1_ := FF.out
          refine ⟨⟨p9, _, h1_.2.2, rfl, ⟨?_, f', h1_.2.1, h1_.1⟩, ⟨Kd.R_mono HO8.out (fun _ _ => trivial)⟩, HB8⟩, ?_⟩
          · rw [List.length_append]
            exact GT.out.1
          · have h2_ := GT.out
            simp only [intOf, Int.toNat_natCast]
            omega
        by_cases h45 : nb (lst s) p = 45
        · have h5 : pFront (nb (lst s) p) = false := by rw [h45]; decide
          have h6 : pDigit (nb (lst s) p) = false := by rw [h45]; decide
          by_cases hq1 : p1 < s.size
          · have u1 : ((p1 : Int) < (s.size : Int)) = True := eq_true (by omega)
            have u2_ : (p1 < s.size) = True := eq_true hq1
            have u3 : decide ((p1 : Int) < (s.size : Int)) = true := decide_eq_true (by omega)
            have u4_ : (0 ≤ (p1 : Int)) = True := eq_true (by omega)
            have hb1 : (s[p1].toNat : Int) = nb (lst s) p1 := (bt_at s (p1 : Int) (by simpa using hq1)).trans (bt_nb s p1)
            cases h7 : pDigit (nb (lst s) p1) with
            | true =>
              have hn0 := nx_num hlt h4 (Or.inr ⟨h45, by omega, by rw [← hp1]; exact h7⟩)
              have nc0 := fun w => num_call (s := s) (p := p) HS.out hlt w
              obtain ⟨q', hq'⟩ : ∃ q', q' = p + 1 + spn pDigit ((lst s).drop (p + 1)) := ⟨_, rfl⟩
              rw [← hq'] at hn0 nc0
              have HN := Aside0.mk hn0
              have NCC := Aside0.mk nc0
              have hql := spn_le pDigit ((lst s).drop (p + 1))
              rw [List.length_drop, lst_len] at hql
              have PQ := Aside0.mk (And.intro (show p1 ≤ s.size by omega) (And.intro (show p1 + spn pDigit ((lst s).drop p1) = q' by rw [hp1, hq']) hql))
              have P1 := Aside0.mk hp1
              have HH := Aside0.mk (And.intro hf (And.intro hF hxs))
              clear hf hF hxs HF h2 hp
              have c40 : ((s[p].toNat : Int) == 40) = false := by rw [hb]; simp [h1]
              have c41 : ((s[p].toNat : Int) == 41) = false := by rw [hb]; simp [h2_]
              have c42 : ((s[p].toNat : Int) == 42) = false := by rw [hb]; simp [h3]
              have c45 : ((s[p].toNat : Int) == 45) = true := by rw [hb]; simp [h45]
              have d62 : ((s[p1].toNat : Int) == 62) = false := by rw [hb1, beq_eq_false_iff_ne, hp1]; exact fun h => h4 ⟨h45, by omega, h⟩
              have DG := Aside0.mk (fun w => dg (s[p].toNat : Int) w)
              rw [hb, h6, ← hb] at DG
              have DG1 := Aside0.mk (fun w => dg (s[p1].toNat : Int) w)
              rw [hb1, h7, ← hb1] at DG1
              have FR := Aside0.mk (fun w => fr (s[p].toNat : Int) w)
              rw [hb, h5, ← hb] at FR
              clear h1 h2_ h3 h4 hb hp1 hn0 nc0 hq' hql h5 h45 h6 h7 hb1
              go_wp2_with (first | (rw [V1.out]) | ((with_reducible refine gate_dst (N := 8) rfl ?_); refine box_event ?hg (N := 8) ?hd (cs := #[.int .i64 0, .int .i64 0, .int .i64 0, .string ⟨#[]⟩]) (t := 63) ?hr ?_; (case hd => rfl); (case hg => rfl); (case hr => first | (go_simp; done) | (go_simp; rfl)); intro g hg w5 hbox hb; have K6 := Aside0.mk hbox; have HO5 := Aside0.mk (Kd.R_below (Kd.R_elderB HO.out g (Nat.le_of_eq hg.symm)) hb); have GE := Aside0.mk ((by rw [hg]; exact HB.out.size) : w.heap.size ≤ g); have HB5 := Aside0.mk (below_step HB.out hb); clear hbox hb hg; have k0 : w5.cell? ⟨g, 0, none⟩ = some (.int .i64 0) := (blk_cell K6.out 0).trans rfl; have k1 : w5.cell? ⟨g, 1, none⟩ = some (.int .i64 0) := (blk_cell K6.out 1).trans rfl; have k2 : w5.cell? ⟨g, 2, none⟩ = some (.int .i64 0) := (blk_cell K6.out 2).trans rfl; have k3 : w5.cell? ⟨g, 3, none⟩ = some (.string ⟨#[]⟩) := (blk_cell K6.out 3).trans rfl; have kf0 := blk_frozen K6.out 0; have kf1 := blk_frozen K6.out 1; have kf2 := blk_frozen K6.out 2; have kf3 := blk_frozen K6.out 3) | ((with_reducible refine gate_dst (N := 31) rfl ?_); refine gen_world (fun wq => wq.heap[g]? = some (.cells #[.int .i64 0, .int .i64 0, .int .i64 (p : Int), .string ⟨#[]⟩] 63 (0, 0)) ∧ Kd.R k63 63 wq w.heap.size (fun k_ => True ∧ k_ ≠ g) u5 xs ∧ Below w.heap.size w wq) ⟨(blk_put (cs := #[.int .i64 0, .int .i64 0, .int .i64 (p : Int), .string ⟨#[]⟩]) (cs' := #[.int .i64 0, .int .i64 0, .int .i64 (p : Int), .string ⟨#[]⟩]) (blk_put (cs := #[.int .i64 0, .int .i64 0, .int .i64 0, .string ⟨#[]⟩]) (cs' := #[.int .i64 0, .int .i64 0, .int .i64 (p : Int), .string ⟨#[]⟩]) (blk_put (cs := #[.int .i64 0, .int .i64 0, .int .i64 0, .string ⟨#[]⟩]) (cs' := #[.int .i64 0, .int .i64 0, .int .i64 0, .string ⟨#[]⟩]) (blk_put (cs := #[.int .i64 0, .int .i64 0, .int .i64 0, .string ⟨#[]⟩]) (cs' := #[.int .i64 0, .int .i64 0, .int .i64 0, .string ⟨#[]⟩]) K6.out 0 (.int .i64 0) rfl) 1 (.int .i64 0) rfl) 2 (.int .i64 (p : Int)) rfl) 3 (.string ⟨#[]⟩) rfl), (Kd.R_far (p := ⟨g, 3, none⟩) (Kd.R_far (p := ⟨g, 2, none⟩) (Kd.R_far (p := ⟨g, 1, none⟩) (Kd.R_far (p := ⟨g, 0, none⟩) HO5.out (fun _ hk => hk.2) _) (fun _ hk => hk.2) _) (fun _ hk => hk.2) _) (fun _ hk => hk.2) _), (below_set (below_set (below_set (below_set HB5.out GE.out) GE.out) GE.out) GE.out)⟩ ?_; rintro w6 ⟨hk_, ho_, hb_⟩; have K7 := Aside0.mk hk_; have HO6 := Aside0.mk ho_; have HB6 := Aside0.mk hb_; clear hk_ ho_ hb_ K6 HO5 HB5 k0 k1 k2 k3 kf0 kf1 kf2 kf3; have k0 : w6.cell? ⟨g, 0, none⟩ = some (.int .i64 0) := (blk_cell K7.out 0).trans rfl; have k1 : w6.cell? ⟨g, 1, none⟩ = some (.int .i64 0) := (blk_cell K7.out 1).trans rfl; have k2 : w6.cell? ⟨g, 2, none⟩ = some (.int .i64 (p : Int)) := (blk_cell K7.out 2).trans rfl; have k3 : w6.cell? ⟨g, 3, none⟩ = some (.string ⟨#[]⟩) := (blk_cell K7.out 3).trans rfl; have kf0 := blk_frozen K7.out 0; have kf1 := blk_frozen K7.out 1; have kf2 := blk_frozen K7.out 2; have kf3 := blk_frozen K7.out 3) | (go_at_call 40; (with_reducible refine (FR.out _).mono ?_); rintro e w_ ⟨rfl, rfl⟩) | (go_at_call 42; (with_reducible refine (DG.out _).mono ?_); rintro e w_ ⟨rfl, rfl⟩) | (go_at_call 42; (with_reducible refine (DG1.out _).mono ?_); rintro e w_ ⟨rfl, rfl⟩))
              go_loopw [7] (fun v7 w_ => ∃ q : Nat, q ≤ s.size ∧ p1 ≤ q ∧ v7 = .int .i64 q ∧ Aside0 (q + spn pDigit ((lst s).drop q) = q') ∧ w_ = w6) (fun v7 _ => s.size - (intOf v7).toNat)
              case atStart => exact ⟨p1, PQ.out.1, Nat.le_refl _, rfl, ⟨PQ.out.2.1⟩, rfl⟩
              case round =>
                obtain ⟨q, hq, hpq, rfl, HQ_, rfl⟩ := hrel
                by_cases hlq : q < s.size
                · have y1 : ((q : Int) < (s.size : Int)) = True := eq_true (by omega)
                  have y2 : (q < s.size) = True := eq_true hlq
                  have y3 : decide ((q : Int) < (s.size : Int)) = true := decide_eq_true (by omega)
                  have y4 : (0 ≤ (q : Int)) = True := eq_true (by omega)
                  have hbq : (s[q].toNat : Int) = nb (lst s) q := (bt_at s (q : Int) (by simpa using hlq)).trans (bt_nb s q)
                  have ST := Aside0.mk (spn_at' (s := s) (p := q) (pr := pDigit) hlq)
                  have HI := Aside0.mk (And.intro hq (And.intro hpq hlq))
                  have W1 := Aside0.mk (w1 q (by have := HS.out; omega))
                  cases hpr : pDigit (nb (lst s) q) with
                  | true =>
                    have CC := Aside0.mk (fun w => dg (s[q].toNat : Int) w)
                    rw [hbq, hpr, ← hbq] at CC
                    rw [hpr, if_pos rfl] at ST
                    clear hpr hbq hq hpq
                    go_wp2_with (first | (go_at_call 42; (with_reducible refine (CC.out _).mono ?_); rintro e w_ ⟨rfl, rfl⟩))
                    go_roundw
                    case measure => exact meas HI.out.2.2 W1.out
                    case rel =>
                      have h2 := ST.out
                      have h3 := HI.out
                      exact ⟨q + 1, by omega, by omega, by rw [W1.out], ⟨by have := HQ_.out; omega⟩, trivial⟩
                  | false =>
                    have CC := Aside0.mk (fun w => dg (s[q].toNat : Int) w)
                    rw [hbq, hpr, ← hbq] at CC
                    rw [hpr, if_neg (by decide)] at ST
                    have hqq : q = q' := by
                      have h2 := ST.out
                      have h3 := HQ_.out
                      omega
                    clear hpr hbq ST HQ_
                    subst hqq
                    have hp1_ := P1.out
                    have hpq_ : p + 1 ≤ q := by omega
                    clear hp1_
                    have hn := HN.out
                    have NC0 := NCC.out
                    obtain ⟨hf, hF, hxs⟩ := HH.out
                    have z1 : ((p : Int) ≤ (q : Int)) = True := eq_true (by omega)
                    have z2 : (p ≤ q) = True := eq_true (by omega)
                    have z3 : ((q : Int) ≤ (s.size : Int)) = True := eq_true (by omega)
                    have z4 : (q ≤ s.size) = True := eq_true (by omega)
                    have z5 : (0 ≤ (q : Int)) = True := eq_true (by omega)
                    cases hv : num (lst (s.extract p q)) with
                    | none =>
                      rw [hv] at hn NC0
                      simp only [Option.getD_none, Option.isSome_none] at NC0
                      have hr_ := step_no hlt HH.out.2.1 hn (by decide)
                      simp only [Prod.mk.injEq] at hr_
                      obtain ⟨rfl, rfl, rfl⟩ := hr_
                      clear hn HH hF
                      have NC := Aside0.mk NC0
                      clear hf hxs hpq_ hq hpq NC0 hv HN NCC
                      go_wp2_with (first | (go_at_call 42; (with_reducible refine (CC.out _).mono ?_); rintro e w_ ⟨rfl, rfl⟩) | (go_at_call 43; (with_reducible refine (NC.out _).mono ?_); rintro e w_ ⟨rfl, ⟨nd, rfl⟩⟩; have KQ := Aside0.mk (blk_drewN K7.out nd); have HQ := Aside0.mk (Kd.R_drewN HO6.out nd); have BQ := Aside0.mk (pw_below_drewN HB6.out nd); clear K7 HO6 HB6 k0 k1 k2 k3 kf0 kf1 kf2 kf3; generalize World.drewN wr nd = wd at KQ HQ BQ ⊢; have K7 := KQ; have HO6 := HQ; have HB6 := BQ; clear KQ HQ BQ; have k0 : wd.cell? ⟨g, 0, none⟩ = some (.int .i64 0) := (blk_cell K7.out 0).trans rfl; have k1 : wd.cell? ⟨g, 1, none⟩ = some (.int .i64 0) := (blk_cell K7.out 1).trans rfl; have k2 : wd.cell? ⟨g, 2, none⟩ = some (.int .i64 (p : Int)) := (blk_cell K7.out 2).trans rfl; have k3 : wd.cell? ⟨g, 3, none⟩ = some (.string ⟨#[]⟩) := (blk_cell K7.out 3).trans rfl; have kf0 := blk_frozen K7.out 0; have kf1 := blk_frozen K7.out 1; have kf2 := blk_frozen K7.out 2; have kf3 := blk_frozen K7.out 3))
                      refine bodyPost_ret (v := .tuple #[.slice none 0 0, .int .i64 (p : Int), .int .i64 4]) (by simp [results, Tryd.results30, go_sem]) rfl ?_
                      exact ⟨_, rfl, Kd.R_nil _ _ _ _ _, HB6.out⟩
                    | some v =>
                      rw [hv] at hn NC0
                      simp only [Option.getD_some, Option.isSome_some] at NC0
                      obtain ⟨hm1, hm2, f', hFF, hff, hpp⟩ := step_ok hlt hf hF hn
                      rw [txt_none 4 (by decide), show p + (q - p) = q by omega] at hFF
                      rw [show p + (q - p) = q by omega] at hm2 hff hpp
                      have SK := Aside0.mk (fun w => sk HS.out (p := q) hm2 w)
                      obtain ⟨p9, hp9⟩ : ∃ p9, p9 = q + Lex.blk false ((lst s).drop (q)) := ⟨_, rfl⟩
                      rw [← hp9] at hFF hff hpp SK
                      have FF := Aside0.mk (And.intro hFF (And.intro hff hpp))
                      have GT := Aside0.mk (show xs.length + 1 ≤ p9 ∧ s.size - p9 < s.size - p ∧ p < p9 by omega)
                      clear hFF hff hpp hp9 hm1 hm2 hn hF hf HH
                      have NC := Aside0.mk NC0
                      clear hpq_ hq hpq hxs NC0 hv HN NCC
                      go_wp2_with (first | (go_at_call 42; (with_reducible refine (CC.out _).mono ?_); rintro e w_ ⟨rfl, rfl⟩) | (go_at_call 43; (with_reducible refine (NC.out _).mono ?_); rintro e w_ ⟨rfl, ⟨nd, rfl⟩⟩; have KQ := Aside0.mk (blk_drewN K7.out nd); have HQ := Aside0.mk (Kd.R_drewN HO6.out nd); have BQ := Aside0.mk (pw_below_drewN HB6.out nd); clear K7 HO6 HB6 k0 k1 k2 k3 kf0 kf1 kf2 kf3; generalize World.drewN wr nd = wd at KQ HQ BQ ⊢; have K7 := KQ; have HO6 := HQ; have HB6 := BQ; clear KQ HQ BQ; have k0 : wd.cell? ⟨g, 0, none⟩ = some (.int .i64 0) := (blk_cell K7.out 0).trans rfl; have k1 : wd.cell? ⟨g, 1, none⟩ = some (.int .i64 0) := (blk_cell K7.out 1).trans rfl; have k2 : wd.cell? ⟨g, 2, none⟩ = some (.int .i64 (p : Int)) := (blk_cell K7.out 2).trans rfl; have k3 : wd.cell? ⟨g, 3, none⟩ = some (.string ⟨#[]⟩) := (blk_cell K7.out 3).trans rfl; have kf0 := blk_frozen K7.out 0; have kf1 := blk_frozen K7.out 1; have kf2 := blk_frozen K7.out 2; have kf3 := blk_frozen K7.out 3) | ((with_reducible refine gate_dst (N := 146) rfl ?_); refine gen_world (fun wq => wq.heap[g]? = some (.cells #[.int .i64 4, .int .i64 v, .int .i64 (p : Int), .string ⟨#[]⟩] 63 (0, 0)) ∧ Kd.R k63 63 wq w.heap.size (fun k_ => True ∧ k_ ≠ g) u5 xs ∧ Below w.heap.size w wq) ⟨(blk_put (cs := #[.int .i64 4, .int .i64 0, .int .i64 (p : Int), .string ⟨#[]⟩]) (cs' := #[.int .i64 4, .int .i64 v, .int .i64 (p : Int), .string ⟨#[]⟩]) (blk_put (cs := #[.int .i64 0, .int .i64 0, .int .i64 (p : Int), .string ⟨#[]⟩]) (cs' := #[.int .i64 4, .int .i64 0, .int .i64 (p : Int), .string ⟨#[]⟩]) K7.out 0 (.int .i64 4) rfl) 1 (.int .i64 v) rfl), (Kd.R_far (p := ⟨g, 1, none⟩) (Kd.R_far (p := ⟨g, 0, none⟩) HO6.out (fun _ hk => hk.2) _) (fun _ hk => hk.2) _), (below_set (below_set HB6.out GE.out) GE.out)⟩ ?_; rintro w7 ⟨hk_, ho_, hb_⟩; have K8 := Aside0.mk hk_; have HO7 := Aside0.mk ho_; have HB7 := Aside0.mk hb_; clear hk_ ho_ hb_ K7 HO6 HB6 k0 k1 k2 k3 kf0 kf1 kf2 kf3; have k0 : w7.cell? ⟨g, 0, none⟩ = some (.int .i64 4) := (blk_cell K8.out 0).trans rfl; have k1 : w7.cell? ⟨g, 1, none⟩ = some (.int .i64 v) := (blk_cell K8.out 1).trans rfl; have k2 : w7.cell? ⟨g, 2, none⟩ = some (.int .i64 (p : Int)) := (blk_cell K8.out 2).trans rfl; have k3 : w7.cell? ⟨g, 3, none⟩ = some (.string ⟨#[]⟩) := (blk_cell K8.out 3).trans rfl; have kf0 := blk_frozen K8.out 0; have kf1 := blk_frozen K8.out 1; have kf2 := blk_frozen K8.out 2; have kf3 := blk_frozen K8.out 3) | ((with_reducible refine gate_builtin (b := .append) (xs := #[.tmp 145, .tmp 147]) rfl ?_); at_builtin; refine Kd.R_append k63 (w0 := w) w.heap.size rfl (.tmp 145) (.tmp 147) 53 63 (.agg #[(.int .i64 0), (.int .i64 0), (.int .i64 0), (.string ⟨#[]⟩)]) 40 rfl Tryd.underlying53 info63 rfl (by decide) (by omega) _ xs (⟨4, v, (p : Int), (⟨#[]⟩ : ByteArray)⟩ : S63) [.int .i64 4, .int .i64 v, .int .i64 (p : Int), .string (⟨#[]⟩ : ByteArray)] (fun k_ => k_ ≠ g) (fun _ => False) rfl (by first | (go_simp; done) | (go_simp; rfl)) ?aP (fun _ hk => hk.elim) ?aF ?aO ?aB ?aS ?aL ?_; (case aP => exact k63_mkM _ _ _ (⟨4, v, (p : Int), (⟨#[]⟩ : ByteArray)⟩ : S63)); (case aB => exact HB7.out); (case aF => exact Kd.freshB K8.out); (case aO => exact Kd.R_mono HO7.out (fun _ hk => hk.2)); (case aS => exact HB7.out.size); (case aL => have := XL.out; omega); intro v8 w8 ho hb hg hat; have HO8 := Aside0.mk ho; have HB8 := Aside0.mk hb; clear ho hb hg hat) | (go_at_call 39; (with_reducible refine (SK.out _).mono ?_); rintro e w_ ⟨rfl, rfl⟩))
                      have h1_ := FF.out
                      refine ⟨⟨p9, _, h1_.2.2, rfl, ⟨?_, f', h1_.2.1, h1_.1⟩, ⟨Kd.R_mono HO8.out (fun _ _ => trivial)⟩, HB8⟩, ?_⟩
                      · rw [List.length_append]
                        exact GT.out.1
                      · have h2_ := GT.out
                        simp only [intOf, Int.toNat_natCast]
                        omega
                · obtain rfl : q = s.size := by omega
                  have y1 : ((s.size : Int) < (s.size : Int)) = False := eq_false (by omega)
                  have hqq : s.size = q' := by
                    have h3 := HQ_.out
                    rw [drop_size] at h3
                    exact h3
                  clear HQ_ hlq
                  subst hqq
                  have hp1_ := P1.out
                  have hpq_ : p + 1 ≤ s.size := by omega
                  clear hp1_
                  have hn := HN.out
                  have NC0 := NCC.out
                  obtain ⟨hf, hF, hxs⟩ := HH.out
                  have z1 : ((p : Int) ≤ (s.size : Int)) = True := eq_true (by omega)
                  have z2 : (p ≤ s.size) = True := eq_true (by omega)
                  have z3 : ((s.size : Int) ≤ (s.size : Int)) = True := eq_true (by omega)
                  have z4 : (s.size ≤ s.size) = True := eq_true (by omega)
                  have z5 : (0 ≤ (s.size : Int)) = True := eq_true (by omega)
                  cases hv : num (lst (s.extract p s.size)) with
                  | none =>
                    rw [hv] at hn NC0
                    simp only [Option.getD_none, Option.isSome_none] at NC0
                    have hr_ := step_no hlt HH.out.2.1 hn (by decide)
                    simp only [Prod.mk.injEq] at hr_
                    obtain ⟨rfl, rfl, rfl⟩ := hr_
                    clear hn HH hF
                    have NC := Aside0.mk NC0
                    clear hf hxs hpq_ hq hpq NC0 hv HN NCC
                    go_wp2_with (first | (go_at_call 43; (with_reducible refine (NC.out _).mono ?_); rintro e w_ ⟨rfl, ⟨nd, rfl⟩⟩; have KQ := Aside0.mk (blk_drewN K7.out nd); have HQ := Aside0.mk (Kd.R_drewN HO6.out nd); have BQ := Aside0.mk (pw_below_drewN HB6.out nd); clear K7 HO6 HB6 k0 k1 k2 k3 kf0 kf1 kf2 kf3; generalize World.drewN wr nd = wd at KQ HQ BQ ⊢; have K7 := KQ; have HO6 := HQ; have HB6 := BQ; clear KQ HQ BQ; have k0 : wd.cell? ⟨g, 0, none⟩ = some (.int .i64 0) := (blk_cell K7.out 0).trans rfl; have k1 : wd.cell? ⟨g, 1, none⟩ = some (.int .i64 0) := (blk_cell K7.out 1).trans rfl; have k2 : wd.cell? ⟨g, 2, none⟩ = some (.int .i64 (p : Int)) := (blk_cell K7.out 2).trans rfl; have k3 : wd.cell? ⟨g, 3, none⟩ = some (.string ⟨#[]⟩) := (blk_cell K7.out 3).trans rfl; have kf0 := blk_frozen K7.out 0; have kf1 := blk_frozen K7.out 1; have kf2 := blk_frozen K7.out 2; have kf3 := blk_frozen K7.out 3))
                    refine bodyPost_ret (v := .tuple #[.slice none 0 0, .int .i64 (p : Int), .int .i64 4]) (by simp [results, Tryd.results30, go_sem]) rfl ?_
                    exact ⟨_, rfl, Kd.R_nil _ _ _ _ _, HB6.out⟩
                  | some v =>
                    rw [hv] at hn NC0
                    simp only [Option.getD_some, Option.isSome_some] at NC0
                    obtain ⟨hm1, hm2, f', hFF, hff, hpp⟩ := step_ok hlt hf hF hn
                    rw [txt_none 4 (by decide), show p + (s.size - p) = s.size by omega] at hFF
                    rw [show p + (s.size - p) = s.size by omega] at hm2 hff hpp
                    have SK := Aside0.mk (fun w => sk HS.out (p := s.size) hm2 w)
                    obtain ⟨p9, hp9⟩ : ∃ p9, p9 = s.size + Lex.blk false ((lst s).drop (s.size)) := ⟨_, rfl⟩
                    rw [← hp9] at hFF hff hpp SK
                    have FF := Aside0.mk (And.intro hFF (And.intro hff hpp))
                    have GT := Aside0.mk (show xs.length + 1 ≤ p9 ∧ s.size - p9 < s.size - p ∧ p < p9 by omega)
                    clear hFF hff hpp hp9 hm1 hm2 hn hF hf HH
                    have NC := Aside0.mk NC0
                    clear hpq_ hq hpq hxs NC0 hv HN NCC
                    go_wp2_with (first | (go_at_call 43; (with_reducible refine (NC.out _).mono ?_); rintro e w_ ⟨rfl, ⟨nd, rfl⟩⟩; have KQ := Aside0.mk (blk_drewN K7.out nd); have HQ := Aside0.mk (Kd.R_drewN HO6.out nd); have BQ := Aside0.mk (pw_below_drewN HB6.out nd); clear K7 HO6 HB6 k0 k1 k2 k3 kf0 kf1 kf2 kf3; generalize World.drewN wr nd = wd at KQ HQ BQ ⊢; have K7 := KQ; have HO6 := HQ; have HB6 := BQ; clear KQ HQ BQ; have k0 : wd.cell? ⟨g, 0, none⟩ = some (.int .i64 0) := (blk_cell K7.out 0).trans rfl; have k1 : wd.cell? ⟨g, 1, none⟩ = some (.int .i64 0) := (blk_cell K7.out 1).trans rfl; have k2 : wd.cell? ⟨g, 2, none⟩ = some (.int .i64 (p : Int)) := (blk_cell K7.out 2).trans rfl; have k3 : wd.cell? ⟨g, 3, none⟩ = some (.string ⟨#[]⟩) := (blk_cell K7.out 3).trans rfl; have kf0 := blk_frozen K7.out 0; have kf1 := blk_frozen K7.out 1; have kf2 := blk_frozen K7.out 2; have kf3 := blk_frozen K7.out 3) | ((with_reducible refine gate_dst (N := 146) rfl ?_); refine gen_world (fun wq => wq.heap[g]? = some (.cells #[.int .i64 4, .int .i64 v, .int .i64 (p : Int), .string ⟨#[]⟩] 63 (0, 0)) ∧ Kd.R k63 63 wq w.heap.size (fun k_ => True ∧ k_ ≠ g) u5 xs ∧ Below w.heap.size w wq) ⟨(blk_put (cs := #[.int .i64 4, .int .i64 0, .int .i64 (p : Int), .string ⟨#[]⟩]) (cs' := #[.int .i64 4, .int .i64 v, .int .i64 (p : Int), .string ⟨#[]⟩]) (blk_put (cs := #[.int .i64 0, .int .i64 0, .int .i64 (p : Int), .string ⟨#[]⟩]) (cs' := #[.int .i64 4, .int .i64 0, .int .i64 (p : Int), .string ⟨#[]⟩]) K7.out 0 (.int .i64 4) rfl) 1 (.int .i64 v) rfl), (Kd.R_far (p := ⟨g, 1, none⟩) (Kd.R_far (p := ⟨g, 0, none⟩) HO6.out (fun _ hk => hk.2) _) (fun _ hk => hk.2) _), (below_set (below_set HB6.out GE.out) GE.out)⟩ ?_; rintro w7 ⟨hk_, ho_, hb_⟩; have K8 := Aside0.mk hk_; have HO7 := Aside0.mk ho_; have HB7 := Aside0.mk hb_; clear hk_ ho_ hb_ K7 HO6 HB6 k0 k1 k2 k3 kf0 kf1 kf2 kf3; have k0 : w7.cell? ⟨g, 0, none⟩ = some (.int .i64 4) := (blk_cell K8.out 0).trans rfl; have k1 : w7.cell? ⟨g, 1, none⟩ = some (.int .i64 v) := (blk_cell K8.out 1).trans rfl; have k2 : w7.cell? ⟨g, 2, none⟩ = some (.int .i64 (p : Int)) := (blk_cell K8.out 2).trans rfl; have k3 : w7.cell? ⟨g, 3, none⟩ = some (.string ⟨#[]⟩) := (blk_cell K8.out 3).trans rfl; have kf0 := blk_frozen K8.out 0; have kf1 := blk_frozen K8.out 1; have kf2 := blk_frozen K8.out 2; have kf3 := blk_frozen K8.out 3) | ((with_reducible refine gate_builtin (b := .append) (xs := #[.tmp 145, .tmp 147]) rfl ?_); at_builtin; refine Kd.R_append k63 (w0 := w) w.heap.size rfl (.tmp 145) (.tmp 147) 53 63 (.agg #[(.int .i64 0), (.int .i64 0), (.int .i64 0), (.string ⟨#[]⟩)]) 40 rfl Tryd.underlying53 info63 rfl (by decide) (by omega) _ xs (⟨4, v, (p : Int), (⟨#[]⟩ : ByteArray)⟩ : S63) [.int .i64 4, .int .i64 v, .int .i64 (p : Int), .string (⟨#[]⟩ : ByteArray)] (fun k_ => k_ ≠ g) (fun _ => False) rfl (by first | (go_simp; done) | (go_simp; rfl)) ?aP (fun _ hk => hk.elim) ?aF ?aO ?aB ?aS ?aL ?_; (case aP => exact k63_mkM _ _ _ (⟨4, v, (p : Int), (⟨#[]⟩ : ByteArray)⟩ : S63)); (case aB => exact HB7.out); (case aF => exact Kd.freshB K8.out); (case aO => exact Kd.R_mono HO7.out (fun _ hk => hk.2)); (case aS => exact HB7.out.size); (case aL => have := XL.out; omega); intro v8 w8 ho hb hg hat; have HO8 := Aside0.mk ho; have HB8 := Aside0.mk hb; clear ho hb hg hat) | (go_at_call 39; (with_reducible refine (SK.out _).mono ?_); rintro e w_ ⟨rfl, rfl⟩))
                    have h1_ := FF.out
                    refine ⟨⟨p9, _, h1_.2.2, rfl, ⟨?_, f', h1_.2.1, h1_.1⟩, ⟨Kd.R_mono HO8.out (fun _ _ => trivial)⟩, HB8⟩, ?_⟩
                    · rw [List.length_append]
                      exact GT.out.1
                    · have h2_ := GT.out
                      simp only [intOf, Int.toNat_natCast]
                      omega
            | false =>
              have hn := nx_bad hlt h1 h2_ h3 h4 h5 (fun h => h.elim (fun h => by rw [h6] at h; exact absurd h (by decide)) (fun h => by rw [← hp1, h7] at h; exact absurd h.2.2 (by decide)))
              have HH := Aside0.mk (And.intro hf (And.intro hF hxs))
              clear hf hF hxs HF h2 hp
              have hr_ := step_no hlt HH.out.2.1 hn (by decide)
              simp only [Prod.mk.injEq] at hr_
              obtain ⟨rfl, rfl, rfl⟩ := hr_
              clear hn HH
              have c40 : ((s[p].toNat : Int) == 40) = false := by rw [hb]; simp [h1]
              have c41 : ((s[p].toNat : Int) == 41) = false := by rw [hb]; simp [h2_]
              have c42 : ((s[p].toNat : Int) == 42) = false := by rw [hb]; simp [h3]
              have c45 : ((s[p].toNat : Int) == 45) = true := by rw [hb]; simp [h45]
              have d62 : ((s[p1].toNat : Int) == 62) = false := by rw [hb1, beq_eq_false_iff_ne, hp1]; exact fun h => h4 ⟨h45, by omega, h⟩
              have FR := Aside0.mk (fun w => fr (s[p].toNat : Int) w)
              rw [hb, h5, ← hb] at FR
              have DG := Aside0.mk (fun w => dg (s[p].toNat : Int) w)
              rw [hb, h6, ← hb] at DG
              have DG1 := Aside0.mk (fun w => dg (s[p1].toNat : Int) w)
              rw [hb1, h7, ← hb1] at DG1
              clear h1 h2_ h3 h4 hb hp1 h5 h6 h7 h45 hb1
              go_wp2_with (first | (rw [V1.out]) | ((with_reducible refine gate_dst (N := 8) rfl ?_); refine box_event ?hg (N := 8) ?hd (cs := #[.int .i64 0, .int .i64 0, .int .i64 0, .string ⟨#[]⟩]) (t := 63) ?hr ?_; (case hd => rfl); (case hg => rfl); (case hr => first | (go_simp; done) | (go_simp; rfl)); intro g hg w5 hbox hb; have K6 := Aside0.mk hbox; have HO5 := Aside0.mk (Kd.R_below (Kd.R_elderB HO.out g (Nat.le_of_eq hg.symm)) hb); have GE := Aside0.mk ((by rw [hg]; exact HB.out.size) : w.heap.size ≤ g); have HB5 := Aside0.mk (below_step HB.out hb); clear hbox hb hg; have k0 : w5.cell? ⟨g, 0, none⟩ = some (.int .i64 0) := (blk_cell K6.out 0).trans rfl; have k1 : w5.cell? ⟨g, 1, none⟩ = some (.int .i64 0) := (blk_cell K6.out 1).trans rfl; have k2 : w5.cell? ⟨g, 2, none⟩ = some (.int .i64 0) := (blk_cell K6.out 2).trans rfl; have k3 : w5.cell? ⟨g, 3, none⟩ = some (.string ⟨#[]⟩) := (blk_cell K6.out 3).trans rfl; have kf0 := blk_frozen K6.out 0; have kf1 := blk_frozen K6.out 1; have kf2 := blk_frozen K6.out 2; have kf3 := blk_frozen K6.out 3) | ((with_reducible refine gate_dst (N := 31) rfl ?_); refine gen_world (fun wq => wq.heap[g]? = some (.cells #[.int .i64 0, .int .i64 0, .int .i64 (p : Int), .string ⟨#[]⟩] 63 (0, 0)) ∧ Kd.R k63 63 wq w.heap.size (fun k_ => True ∧ k_ ≠ g) u5 xs ∧ Below w.heap.size w wq) ⟨(blk_put (cs := #[.int .i64 0, .int .i64 0, .int .i64 (p : Int), .string ⟨#[]⟩]) (cs' := #[.int .i64 0, .int .i64 0, .int .i64 (p : Int), .string ⟨#[]⟩]) (blk_put (cs := #[.int .i64 0, .int .i64 0, .int .i64 0, .string ⟨#[]⟩]) (cs' := #[.int .i64 0, .int .i64 0, .int .i64 (p : Int), .string ⟨#[]⟩]) (blk_put (cs := #[.int .i64 0, .int .i64 0, .int .i64 0, .string ⟨#[]⟩]) (cs' := #[.int .i64 0, .int .i64 0, .int .i64 0, .string ⟨#[]⟩]) (blk_put (cs := #[.int .i64 0, .int .i64 0, .int .i64 0, .string ⟨#[]⟩]) (cs' := #[.int .i64 0, .int .i64 0, .int .i64 0, .string ⟨#[]⟩]) K6.out 0 (.int .i64 0) rfl) 1 (.int .i64 0) rfl) 2 (.int .i64 (p : Int)) rfl) 3 (.string ⟨#[]⟩) rfl), (Kd.R_far (p := ⟨g, 3, none⟩) (Kd.R_far (p := ⟨g, 2, none⟩) (Kd.R_far (p := ⟨g, 1, none⟩) (Kd.R_far (p := ⟨g, 0, none⟩) HO5.out (fun _ hk => hk.2) _) (fun _ hk => hk.2) _) (fun _ hk => hk.2) _) (fun _ hk => hk.2) _), (below_set (below_set (below_set (below_set HB5.out GE.out) GE.out) GE.out) GE.out)⟩ ?_; rintro w6 ⟨hk_, ho_, hb_⟩; have K7 := Aside0.mk hk_; have HO6 := Aside0.mk ho_; have HB6 := Aside0.mk hb_; clear hk_ ho_ hb_ K6 HO5 HB5 k0 k1 k2 k3 kf0 kf1 kf2 kf3; have k0 : w6.cell? ⟨g, 0, none⟩ = some (.int .i64 0) := (blk_cell K7.out 0).trans rfl; have k1 : w6.cell? ⟨g, 1, none⟩ = some (.int .i64 0) := (blk_cell K7.out 1).trans rfl; have k2 : w6.cell? ⟨g, 2, none⟩ = some (.int .i64 (p : Int)) := (blk_cell K7.out 2).trans rfl; have k3 : w6.cell? ⟨g, 3, none⟩ = some (.string ⟨#[]⟩) := (blk_cell K7.out 3).trans rfl; have kf0 := blk_frozen K7.out 0; have kf1 := blk_frozen K7.out 1; have kf2 := blk_frozen K7.out 2; have kf3 := blk_frozen K7.out 3) | (go_at_call 40; (with_reducible refine (FR.out _).mono ?_); rintro e w_ ⟨rfl, rfl⟩) | (go_at_call 42; (with_reducible refine (DG.out _).mono ?_); rintro e w_ ⟨rfl, rfl⟩) | (go_at_call 42; (with_reducible refine (DG1.out _).mono ?_); rintro e w_ ⟨rfl, rfl⟩))
              refine bodyPost_ret (v := .tuple #[.slice none 0 0, .int .i64 (p : Int), .int .i64 6]) (by simp [results, Tryd.results30, go_sem]) rfl ?_
              exact ⟨_, rfl, Kd.R_nil _ _ _ _ _, HB6.out⟩
          · have u1 : ((p1 : Int) < (s.size : Int)) = False := eq_false (by omega)
            have u2_ : (p1 < s.size) = False := eq_false (by omega)
            have u3 : decide ((p1 : Int) < (s.size : Int)) = false := decide_eq_false (by omega)
            have hn := nx_bad hlt h1 h2_ h3 h4 h5 (fun h => h.elim (fun h => by rw [h6] at h; exact absurd h (by decide)) (fun h => by omega))
            have HH := Aside0.mk (And.intro hf (And.intro hF hxs))
            clear hf hF hxs HF h2 hp
            have hr_ := step_no hlt HH.out.2.1 hn (by decide)
            simp only [Prod.mk.injEq] at hr_
            obtain ⟨rfl, rfl, rfl⟩ := hr_
            clear hn HH
            have c40 : ((s[p].toNat : Int) == 40) = false := by rw [hb]; simp [h1]
            have c41 : ((s[p].toNat : Int) == 41) = false := by rw [hb]; simp [h2_]
            have c42 : ((s[p].toNat : Int) == 42) = false := by rw [hb]; simp [h3]
            have c45 : ((s[p].toNat : Int) == 45) = true := by rw [hb]; simp [h45]
            have FR := Aside0.mk (fun w => fr (s[p].toNat : Int) w)
            rw [hb, h5, ← hb] at FR
            have DG := Aside0.mk (fun w => dg (s[p].toNat : Int) w)
            rw [hb, h6, ← hb] at DG
            clear h1 h2_ h3 h4 hb hp1 h5 h6 h45
            go_wp2_with (first | (rw [V1.out]) | ((with_reducible refine gate_dst (N := 8) rfl ?_); refine box_event ?hg (N := 8) ?hd (cs := #[.int .i64 0, .int .i64 0, .int .i64 0, .string ⟨#[]⟩]) (t := 63) ?hr ?_; (case hd => rfl); (case hg => rfl); (case hr => first | (go_simp; done) | (go_simp; rfl)); intro g hg w5 hbox hb; have K6 := Aside0.mk hbox; have HO5 := Aside0.mk (Kd.R_below (Kd.R_elderB HO.out g (Nat.le_of_eq hg.symm)) hb); have GE := Aside0.mk ((by rw [hg]; exact HB.out.size) : w.heap.size ≤ g); have HB5 := Aside0.mk (below_step HB.out hb); clear hbox hb hg; have k0 : w5.cell? ⟨g, 0, none⟩ = some (.int .i64 0) := (blk_cell K6.out 0).trans rfl; have k1 : w5.cell? ⟨g, 1, none⟩ = some (.int .i64 0) := (blk_cell K6.out 1).trans rfl; have k2 : w5.cell? ⟨g, 2, none⟩ = some (.int .i64 0) := (blk_cell K6.out 2).trans rfl; have k3 : w5.cell? ⟨g, 3, none⟩ = some (.string ⟨#[]⟩) := (blk_cell K6.out 3).trans rfl; have kf0 := blk_frozen K6.out 0; have kf1 := blk_frozen K6.out 1; have kf2 := blk_frozen K6.out 2; have kf3 := blk_frozen K6.out 3) | ((with_reducible refine gate_dst (N := 31) rfl ?_); refine gen_world (fun wq => wq.heap[g]? = some (.cells #[.int .i64 0, .int .i64 0, .int .i64 (p : Int), .string ⟨#[]⟩] 63 (0, 0)) ∧ Kd.R k63 63 wq w.heap.size (fun k_ => True ∧ k_ ≠ g) u5 xs ∧ Below w.heap.size w wq) ⟨(blk_put (cs := #[.int .i64 0, .int .i64 0, .int .i64 (p : Int), .string ⟨#[]⟩]) (cs' := #[.int .i64 0, .int .i64 0, .int .i64 (p : Int), .string ⟨#[]⟩]) (blk_put (cs := #[.int .i64 0, .int .i64 0, .int .i64 0, .string ⟨#[]⟩]) (cs' := #[.int .i64 0, .int .i64 0, .int .i64 (p : Int), .string ⟨#[]⟩]) (blk_put (cs := #[.int .i64 0, .int .i64 0, .int .i64 0, .string ⟨#[]⟩]) (cs' := #[.int .i64 0, .int .i64 0, .int .i64 0, .string ⟨#[]⟩]) (blk_put (cs := #[.int .i64 0, .int .i64 0, .int .i64 0, .string ⟨#[]⟩]) (cs' := #[.int .i64 0, .int .i64 0, .int .i64 0, .string ⟨#[]⟩]) K6.out 0 (.int .i64 0) rfl) 1 (.int .i64 0) rfl) 2 (.int .i64 (p : Int)) rfl) 3 (.string ⟨#[]⟩) rfl), (Kd.R_far (p := ⟨g, 3, none⟩) (Kd.R_far (p := ⟨g, 2, none⟩) (Kd.R_far (p := ⟨g, 1, none⟩) (Kd.R_far (p := ⟨g, 0, none⟩) HO5.out (fun _ hk => hk.2) _) (fun _ hk => hk.2) _) (fun _ hk => hk.2) _) (fun _ hk => hk.2) _), (below_set (below_set (below_set (below_set HB5.out GE.out) GE.out) GE.out) GE.out)⟩ ?_; rintro w6 ⟨hk_, ho_, hb_⟩; have K7 := Aside0.mk hk_; have HO6 := Aside0.mk ho_; have HB6 := Aside0.mk hb_; clear hk_ ho_ hb_ K6 HO5 HB5 k0 k1 k2 k3 kf0 kf1 kf2 kf3; have k0 : w6.cell? ⟨g, 0, none⟩ = some (.int .i64 0) := (blk_cell K7.out 0).trans rfl; have k1 : w6.cell? ⟨g, 1, none⟩ = some (.int .i64 0) := (blk_cell K7.out 1).trans rfl; have k2 : w6.cell? ⟨g, 2, none⟩ = some (.int .i64 (p : Int)) := (blk_cell K7.out 2).trans rfl; have k3 : w6.cell? ⟨g, 3, none⟩ = some (.string ⟨#[]⟩) := (blk_cell K7.out 3).trans rfl; have kf0 := blk_frozen K7.out 0; have kf1 := blk_frozen K7.out 1; have kf2 := blk_frozen K7.out 2; have kf3 := blk_frozen K7.out 3) | (go_at_call 40; (with_reducible refine (FR.out _).mono ?_); rintro e w_ ⟨rfl, rfl⟩) | (go_at_call 42; (with_reducible refine (DG.out _).mono ?_); rintro e w_ ⟨rfl, rfl⟩))
            refine bodyPost_ret (v := .tuple #[.slice none 0 0, .int .i64 (p : Int), .int .i64 6]) (by simp [results, Tryd.results30, go_sem]) rfl ?_
            exact ⟨_, rfl, Kd.R_nil _ _ _ _ _, HB6.out⟩

        cases h5 : pFront (nb (lst s) p) with
        | true =>
          have hn0 := nx_name hlt h45 h5
          obtain ⟨q', hq'⟩ : ∃ q', q' = p + 1 + spn pInner ((lst s).drop (p + 1)) := ⟨_, rfl⟩
          rw [← hq'] at hn0
          have HN := Aside0.mk hn0
          have hql := spn_le pInner ((lst s).drop (p + 1))
          rw [List.length_drop, lst_len] at hql
          have PQ := Aside0.mk (And.intro (show p1 ≤ s.size by omega) (And.intro (show p1 + spn pInner ((lst s).drop p1) = q' by rw [hp1, hq']) hql))
          have P1 := Aside0.mk hp1
          have HH := Aside0.mk (And.intro hf (And.intro hF hxs))
          clear hf hF hxs HF h2 hp
          have c40 : ((s[p].toNat : Int) == 40) = false := by rw [hb]; simp [h1]
          have c41 : ((s[p].toNat : Int) == 41) = false := by rw [hb]; simp [h2_]
          have c42 : ((s[p].toNat : Int) == 42) = false := by rw [hb]; simp [h3]
          have c45 : ((s[p].toNat : Int) == 45) = false := by rw [hb]; simp [h45]
          have FR := Aside0.mk (fun w => fr (s[p].toNat : Int) w)
          rw [hb, h5, ← hb] at FR
          clear h1 h2_ h3 h4 hb hp1 hn0 hq' hql h45 h5
          go_wp2_with (first | (rw [V1.out]) | ((with_reducible refine gate_dst (N := 8) rfl ?_); refine box_event ?hg (N := 8) ?hd (cs := #[.int .i64 0, .int .i64 0, .int .i64 0, .string ⟨#[]⟩]) (t := 63) ?hr ?_; (case hd => rfl); (case hg => rfl); (case hr => first | (go_simp; done) | (go_simp; rfl)); intro g hg w5 hbox hb; have K6 := Aside0.mk hbox; have HO5 := Aside0.mk (Kd.R_below (Kd.R_elderB HO.out g (Nat.le_of_eq hg.symm)) hb); have GE := Aside0.mk ((by rw [hg]; exact HB.out.size) : w.heap.size ≤ g); have HB5 := Aside0.mk (below_step HB.out hb); clear hbox hb hg; have k0 : w5.cell? ⟨g, 0, none⟩ = some (.int .i64 0) := (blk_cell K6.out 0).trans rfl; have k1 : w5.cell? ⟨g, 1, none⟩ = some (.int .i64 0) := (blk_cell K6.out 1).trans rfl; have k2 : w5.cell? ⟨g, 2, none⟩ = some (.int .i64 0) := (blk_cell K6.out 2).trans rfl; have k3 : w5.cell? ⟨g, 3, none⟩ = some (.string ⟨#[]⟩) := (blk_cell K6.out 3).trans rfl; have kf0 := blk_frozen K6.out 0; have kf1 := blk_frozen K6.out 1; have kf2 := blk_frozen K6.out 2; have kf3 := blk_frozen K6.out 3) | ((with_reducible refine gate_dst (N := 31) rfl ?_); refine gen_world (fun wq => wq.heap[g]? = some (.cells #[.int .i64 0, .int .i64 0, .int .i64 (p : Int), .string ⟨#[]⟩] 63 (0, 0)) ∧ Kd.R k63 63 wq w.heap.size (fun k_ => True ∧ k_ ≠ g) u5 xs ∧ Below w.heap.size w wq) ⟨(blk_put (cs := #[.int .i64 0, .int .i64 0, .int .i64 (p : Int), .string ⟨#[]⟩]) (cs' := #[.int .i64 0, .int .i64 0, .int .i64 (p : Int), .string ⟨#[]⟩]) (blk_put (cs := #[.int .i64 0, .int .i64 0, .int .i64 0, .string ⟨#[]⟩]) (cs' := #[.int .i64 0, .int .i64 0, .int .i64 (p : Int), .string ⟨#[]⟩]) (blk_put (cs := #[.int .i64 0, .int .i64 0, .int .i64 0, .string ⟨#[]⟩]) (cs' := #[.int .i64 0, .int .i64 0, .int .i64 0, .string ⟨#[]⟩]) (blk_put (cs := #[.int .i64 0, .int .i64 0, .int .i64 0, .string ⟨#[]⟩]) (cs' := #[.int .i64 0, .int .i64 0, .int .i64 0, .string ⟨#[]⟩]) K6.out 0 (.int .i64 0) rfl) 1 (.int .i64 0) rfl) 2 (.int .i64 (p : Int)) rfl) 3 (.string ⟨#[]⟩) rfl), (Kd.R_far (p := ⟨g, 3, none⟩) (Kd.R_far (p := ⟨g, 2, none⟩) (Kd.R_far (p := ⟨g, 1, none⟩) (Kd.R_far (p := ⟨g, 0, none⟩) HO5.out (fun _ hk => hk.2) _) (fun _ hk => hk.2) _) (fun _ hk => hk.2) _) (fun _ hk => hk.2) _), (below_set (below_set (below_set (below_set HB5.out GE.out) GE.out) GE.out) GE.out)⟩ ?_; rintro w6 ⟨hk_, ho_, hb_⟩; have K7 := Aside0.mk hk_; have HO6 := Aside0.mk ho_; have HB6 := Aside0.mk hb_; clear hk_ ho_ hb_ K6 HO5 HB5 k0 k1 k2 k3 kf0 kf1 kf2 kf3; have k0 : w6.cell? ⟨g, 0, none⟩ = some (.int .i64 0) := (blk_cell K7.out 0).trans rfl; have k1 : w6.cell? ⟨g, 1, none⟩ = some (.int .i64 0) := (blk_cell K7.out 1).trans rfl; have k2 : w6.cell? ⟨g, 2, none⟩ = some (.int .i64 (p : Int)) := (blk_cell K7.out 2).trans rfl; have k3 : w6.cell? ⟨g, 3, none⟩ = some (.string ⟨#[]⟩) := (blk_cell K7.out 3).trans rfl; have kf0 := blk_frozen K7.out 0; have kf1 := blk_frozen K7.out 1; have kf2 := blk_frozen K7.out 2; have kf3 := blk_frozen K7.out 3) | (go_at_call 40; (with_reducible refine (FR.out _).mono ?_); rintro e w_ ⟨rfl, rfl⟩))
          go_loopw [7] (fun v7 w_ => ∃ q : Nat, q ≤ s.size ∧ p1 ≤ q ∧ v7 = .int .i64 q ∧ Aside0 (q + spn pInner ((lst s).drop q) = q') ∧ w_ = w6) (fun v7 _ => s.size - (intOf v7).toNat)
          case atStart => exact ⟨p1, PQ.out.1, Nat.le_refl _, rfl, ⟨PQ.out.2.1⟩, rfl⟩
          case round =>
            obtain ⟨q, hq, hpq, rfl, HQ_, rfl⟩ := hrel
            by_cases hlq : q < s.size
            · have y1 : ((q : Int) < (s.size : Int)) = True := eq_true (by omega)
              have y2 : (q < s.size) = True := eq_true hlq
              have y3 : decide ((q : Int) < (s.size : Int)) = true := decide_eq_true (by omega)
              have y4 : (0 ≤ (q : Int)) = True := eq_true (by omega)
              have hbq : (s[q].toNat : Int) = nb (lst s) q := (bt_at s (q : Int) (by simpa using hlq)).trans (bt_nb s q)
              have ST := Aside0.mk (spn_at' (s := s) (p := q) (pr := pInner) hlq)
              have HI := Aside0.mk (And.intro hq (And.intro hpq hlq))
              have W1 := Aside0.mk (w1 q (by have := HS.out; omega))
              cases hpr : pInner (nb (lst s) q) with
              | true =>
                have CC := Aside0.mk (fun w => inn (s[q].toNat : Int) w)
                rw [hbq, hpr, ← hbq] at CC
                rw [hpr, if_pos rfl] at ST
                clear hpr hbq hq hpq
                go_wp2_with (first | (go_at_call 41; (with_reducible refine (CC.out _).mono ?_); rintro e w_ ⟨rfl, rfl⟩))
                go_roundw
                case measure => exact meas HI.out.2.2 W1.out
                case rel =>
                  have h2 := ST.out
                  have h3 := HI.out
                  exact ⟨q + 1, by omega, by omega, by rw [W1.out], ⟨by have := HQ_.out; omega⟩, trivial⟩
              | false =>
                have CC := Aside0.mk (fun w => inn (s[q].toNat : Int) w)
                rw [hbq, hpr, ← hbq] at CC
                rw [hpr, if_neg (by decide)] at ST
                have hqq : q = q' := by
                  have h2 := ST.out
                  have h3 := HQ_.out
                  omega
                clear hpr hbq ST HQ_
                subst hqq
                have hp1_ := P1.out
                have hpq_ : p + 1 ≤ q := by omega
                clear hp1_
                have hn := HN.out
                obtain ⟨hf, hF, hxs⟩ := HH.out
                have V3 := Aside0.mk (wsub' (p := p) (q := q) (by omega) (by have := HS.out; omega))
                obtain ⟨L, hL⟩ : ∃ L, L = q - p := ⟨_, rfl⟩
                rw [← hL] at V3 hn
                by_cases hg : L > 20
                · have g1 : ((L : Int) > 20) = True := eq_true (by omega)
                  have g2 : (20 < L) = True := eq_true hg
                  have g3 : ((20 : Int) < (L : Int)) = True := eq_true (by omega)
                  rw [if_pos hg] at hn
                  have hr_ := step_no hlt HH.out.2.1 hn (by decide)
                  simp only [Prod.mk.injEq] at hr_
                  obtain ⟨rfl, rfl, rfl⟩ := hr_
                  clear hn HH hF
                  clear hf hxs hg hL hpq_ hq hpq
                  go_wp2_with (first | (rw [V3.out]) | (go_at_call 41; (with_reducible refine (CC.out _).mono ?_); rintro e w_ ⟨rfl, rfl⟩))
                  refine bodyPost_ret (v := .tuple #[.slice none 0 0, .int .i64 (p : Int), .int .i64 4]) (by simp [results, Tryd.results30, go_sem]) rfl ?_
                  exact ⟨_, rfl, Kd.R_nil _ _ _ _ _, HB6.out⟩
                · have g1 : ((L : Int) > 20) = False := eq_false (by omega)
                  have g2 : (20 < L) = False := eq_false hg
                  have g3 : ((20 : Int) < (L : Int)) = False := eq_false (by omega)
                  rw [if_neg hg] at hn
                  have z1 : ((p : Int) ≤ (q : Int)) = True := eq_true (by omega)
                  have z2 : (p ≤ q) = True := eq_true (by omega)
                  have z3 : ((q : Int) ≤ (s.size : Int)) = True := eq_true (by omega)
                  have z4 : (q ≤ s.size) = True := eq_true (by omega)
                  have z5 : (0 ≤ (q : Int)) = True := eq_true (by omega)
                  obtain ⟨hm1, hm2, f', hFF, hff, hpp⟩ := step_ok hlt hf hF hn
                  rw [txtR3, show p + L = q by omega] at hFF
                  rw [show p + L = q by omega] at hm2 hff hpp
                  have SK := Aside0.mk (fun w => sk HS.out (p := q) hm2 w)
                  obtain ⟨p9, hp9⟩ : ∃ p9, p9 = q + Lex.blk false ((lst s).drop (q)) := ⟨_, rfl⟩
                  rw [← hp9] at hFF hff hpp SK
                  have FF := Aside0.mk (And.intro hFF (And.intro hff hpp))
                  have GT := Aside0.mk (show xs.length + 1 ≤ p9 ∧ s.size - p9 < s.size - p ∧ p < p9 by omega)
                  clear hFF hff hpp hp9 hm1 hm2 hn hF hf HH
                  clear hg hL hpq_ hq hpq hxs
                  go_wp2_with (first | (rw [V3.out]) | (go_at_call 41; (with_reducible refine (CC.out _).mono ?_); rintro e w_ ⟨rfl, rfl⟩))
                  have n0_ := Aside0.mk (Kd.R_drew HO6.out)
                  have n1_ := Aside0.mk (blk_drew K7.out)
                  have n2_ := Aside0.mk (below_drew1 HB6.out)
                  clear HO6 K7 HB6 k0 k1 k2 k3 kf0 kf1 kf2 kf3
                  have HO6 := n0_
                  have K7 := n1_
                  have HB6 := n2_
                  clear n0_ n1_ n2_
                  refine start_ (n := 8) (S := fun w' => True) (ds := []) #[false, false, false, false, false, false, false, false] (by kernel_rfl) rfl rfl trivial (fun hHeld => ?_); refine with_tabW tab23 bits23 (fun HT_ HW_ => ?_)
                  generalize wr.drew = wd at HO6 K7 HB6 hHeld ⊢
                  refine pure_ (i := 0) (N := some 90) (v := ?_) (a' := ?_) #[true, false, false, false, false, false, false, false] rfl rfl (any_of HT_.out (by kernel_rfl)) (fun _ _ _ h => h) (Or.inl ⟨by rfl, ?_⟩) ?_ ?_
                  rotate_left
                  · intro w'
                    go_simp
                    with_reducible rfl
                  rotate_left
                  · simp only [Act.put, List.setIfInBounds_toArray, List.set_cons_zero, List.set_cons_succ, i64_w, i32_w, u8_w, u32_w]
                    rfl
                  refine pure_ (i := 1) (N := some 91) (v := ?_) (a' := ?_) #[true, true, false, false, false, false, false, false] rfl rfl (any_of HT_.out (by kernel_rfl)) (fun _ _ _ h => h) (Or.inl ⟨by rfl, ?_⟩) ?_ ?_
                  rotate_left
                  · intro w'
                    go_simp
                    with_reducible rfl
                  rotate_left
                  · simp only [Act.put, List.setIfInBounds_toArray, List.set_cons_zero, List.set_cons_succ, i64_w, i32_w, u8_w, u32_w]
                    rfl
                  refine pure_ (i := 2) (N := some 92) (v := ?_) (a' := ?_) #[true, true, true, false, false, false, false, false] rfl rfl (any_of HT_.out (by kernel_rfl)) (fun _ _ _ h => h) (Or.inl ⟨by rfl, ?_⟩) ?_ ?_
                  rotate_left
                  · intro w'
                    go_simp
                    with_reducible rfl
                  rotate_left
                  · simp only [Act.put, List.setIfInBounds_toArray, List.set_cons_zero, List.set_cons_succ, i64_w, i32_w, u8_w, u32_w]
                    rfl
                  refine pure_ (i := 3) (N := some 93) (v := ?_) (a' := ?_) #[true, true, true, true, false, false, false, false] rfl rfl (any_of HT_.out (by kernel_rfl)) (fun _ _ _ h => h) (Or.inl ⟨by rfl, ?_⟩) ?_ ?_
                  rotate_left
                  · intro w'
                    go_simp
                    with_reducible rfl
                  rotate_left
                  · simp only [Act.put, List.setIfInBounds_toArray, List.set_cons_zero, List.set_cons_succ, i64_w, i32_w, u8_w, u32_w]
                    rfl
                  refine pure_ (i := 4) (N := some 94) (v := ?_) (a' := ?_) #[true, true, true, true, true, false, false, false] rfl rfl (any_of HT_.out (by kernel_rfl)) (fun _ _ _ h => h) (Or.inl ⟨by rfl, ?_⟩) ?_ ?_
                  rotate_left
                  · intro w'
                    go_simp
                    with_reducible rfl
                  rotate_left
                  · simp only [Act.put, List.setIfInBounds_toArray, List.set_cons_zero, List.set_cons_succ, i64_w, i32_w, u8_w, u32_w]
                    rfl
                  refine one_ (i := 5) (N := none) #[true, true, true, true, true, true, false, false] rfl rfl (one_of HT_.out (by kernel_rfl)) (by decide) (fun K hK => ?_)
                  have hs58 : wd.cell? ⟨g, 0, none⟩ = some (.int .i64 0) := (blk_cell K7.out 0).trans rfl
                  have hfs58 := blk_frozen K7.out 0
                  refine skip_ (w1 := ?_) (by rfl) rfl ?_ ?_
                  rotate_left
                  · go_simp
                    rfl
                  refine hK.out _ _ trivial (fun hHeld => ?_)
                  clear hK K hs58 hfs58
                  refine pure_ (i := 6) (N := some 95) (v := ?_) (a' := ?_) #[true, true, true, true, true, true, true, false] rfl rfl (any_of HT_.out (by kernel_rfl)) (fun _ _ _ h => h) (Or.inl ⟨by rfl, ?_⟩) ?_ ?_
                  rotate_left
                  · intro w'
                    go_simp
                    with_reducible rfl
                  rotate_left
                  · simp only [Act.put, List.setIfInBounds_toArray, List.set_cons_zero, List.set_cons_succ, i64_w, i32_w, u8_w, u32_w]
                    rfl
                  refine one_ (i := 7) (N := none) #[true, true, true, true, true, true, true, true] rfl rfl (one_of HT_.out (by kernel_rfl)) (by decide) (fun K hK => ?_)
                  have hs58 : wd.cell? ⟨g, 3, none⟩ = some (.string ⟨#[]⟩) := (blk_cell K7.out 3).trans rfl
                  have hfs58 := blk_frozen K7.out 3
                  refine skip_ (w1 := ?_) (by rfl) rfl ?_ ?_
                  rotate_left
                  · go_simp
                    rfl
                  refine hK.out _ _ trivial (fun hHeld => ?_)
                  clear hK K hs58 hfs58
                  refine done_ (done_of HT_.out (by kernel_rfl)) ?_
                  have k0 : wd.cell? ⟨g, 0, none⟩ = some (.int .i64 0) := (blk_cell K7.out 0).trans rfl
                  have k1 : wd.cell? ⟨g, 1, none⟩ = some (.int .i64 0) := (blk_cell K7.out 1).trans rfl
                  have k2 : wd.cell? ⟨g, 2, none⟩ = some (.int .i64 (p : Int)) := (blk_cell K7.out 2).trans rfl
                  have k3 : wd.cell? ⟨g, 3, none⟩ = some (.string ⟨#[]⟩) := (blk_cell K7.out 3).trans rfl
                  have kf0 := blk_frozen K7.out 0
                  have kf1 := blk_frozen K7.out 1
                  have kf2 := blk_frozen K7.out 2
                  have kf3 := blk_frozen K7.out 3
                  go_wp2_with (first | ((with_reducible refine gate_dst (N := 146) rfl ?_); refine gen_world (fun wq => wq.heap[g]? = some (.cells #[.int .i64 3, .int .i64 0, .int .i64 (p : Int), .string (s.extract p q)] 63 (0, 0)) ∧ Kd.R k63 63 wq w.heap.size (fun k_ => True ∧ k_ ≠ g) u5 xs ∧ Below w.heap.size w wq) ⟨(blk_put (cs := #[.int .i64 3, .int .i64 0, .int .i64 (p : Int), .string ⟨#[]⟩]) (cs' := #[.int .i64 3, .int .i64 0, .int .i64 (p : Int), .string (s.extract p q)]) (blk_put (cs := #[.int .i64 0, .int .i64 0, .int .i64 (p : Int), .string ⟨#[]⟩]) (cs' := #[.int .i64 3, .int .i64 0, .int .i64 (p : Int), .string ⟨#[]⟩]) K7.out 0 (.int .i64 3) rfl) 3 (.string (s.extract p q)) rfl), (Kd.R_far (p := ⟨g, 3, none⟩) (Kd.R_far (p := ⟨g, 0, none⟩) HO6.out (fun _ hk => hk.2) _) (fun _ hk => hk.2) _), (below_set (below_set HB6.out GE.out) GE.out)⟩ ?_; rintro w7 ⟨hk_, ho_, hb_⟩; have K8 := Aside0.mk hk_; have HO7 := Aside0.mk ho_; have HB7 := Aside0.mk hb_; clear hk_ ho_ hb_ K7 HO6 HB6 k0 k1 k2 k3 kf0 kf1 kf2 kf3; have k0 : w7.cell? ⟨g, 0, none⟩ = some (.int .i64 3) := (blk_cell K8.out 0).trans rfl; have k1 : w7.cell? ⟨g, 1, none⟩ = some (.int .i64 0) := (blk_cell K8.out 1).trans rfl; have k2 : w7.cell? ⟨g, 2, none⟩ = some (.int .i64 (p : Int)) := (blk_cell K8.out 2).trans rfl; have k3 : w7.cell? ⟨g, 3, none⟩ = some (.string (s.extract p q)) := (blk_cell K8.out 3).trans rfl; have kf0 := blk_frozen K8.out 0; have kf1 := blk_frozen K8.out 1; have kf2 := blk_frozen K8.out 2; have kf3 := blk_frozen K8.out 3) | ((with_reducible refine gate_builtin (b := .append) (xs := #[.tmp 145, .tmp 147]) rfl ?_); at_builtin; refine Kd.R_append k63 (w0 := w) w.heap.size rfl (.tmp 145) (.tmp 147) 53 63 (.agg #[(.int .i64 0), (.int .i64 0), (.int .i64 0), (.string ⟨#[]⟩)]) 40 rfl Tryd.underlying53 info63 rfl (by decide) (by omega) _ xs (⟨3, 0, (p : Int), (s.extract p q)⟩ : S63) [.int .i64 3, .int .i64 0, .int .i64 (p : Int), .string (s.extract p q)] (fun k_ => k_ ≠ g) (fun _ => False) rfl (by first | (go_simp; done) | (go_simp; rfl)) ?aP (fun _ hk => hk.elim) ?aF ?aO ?aB ?aS ?aL ?_; (case aP => exact k63_mkM _ _ _ (⟨3, 0, (p : Int), (s.extract p q)⟩ : S63)); (case aB => exact HB7.out); (case aF => exact Kd.freshB K8.out); (case aO => exact Kd.R_mono HO7.out (fun _ hk => hk.2)); (case aS => exact HB7.out.size); (case aL => have := XL.out; omega); intro v8 w8 ho hb hg hat; have HO8 := Aside0.mk ho; have HB8 := Aside0.mk hb; clear ho hb hg hat) | (go_at_call 39; (with_reducible refine (SK.out _).mono ?_); rintro e w_ ⟨rfl, rfl⟩))
                  have h1_ := FF.out
                  refine ⟨⟨p9, _, h1_.2.2, rfl, ⟨?_, f', h1_.2.1, h1_.1⟩, ⟨Kd.R_mono HO8.out (fun _ _ => trivial)⟩, HB8⟩, ?_⟩
                  · rw [List.length_append]
                    exact GT.out.1
                  · have h2_ := GT.out
                    simp only [intOf, Int.toNat_natCast]
                    omega
            · obtain rfl : q = s.size := by omega
              have y1 : ((s.size : Int) < (s.size : Int)) = False := eq_false (by omega)
              have hqq : s.size = q' := by
                have h3 := HQ_.out
                rw [drop_size] at h3
                exact h3
              clear HQ_ hlq
              subst hqq
              have hp1_ := P1.out
              have hpq_ : p + 1 ≤ s.size := by omega
              clear hp1_
              have hn := HN.out
              obtain ⟨hf, hF, hxs⟩ := HH.out
              have V3 := Aside0.mk (wsub' (p := p) (q := s.size) (by omega) (by have := HS.out; omega))
              obtain ⟨L, hL⟩ : ∃ L, L = s.size - p := ⟨_, rfl⟩
              rw [← hL] at V3 hn
              by_cases hg : L > 20
              · have g1 : ((L : Int) > 20) = True := eq_true (by omega)
                have g2 : (20 < L) = True := eq_true hg
                have g3 : ((20 : Int) < (L : Int)) = True := eq_true (by omega)
                rw [if_pos hg] at hn
                have hr_ := step_no hlt HH.out.2.1 hn (by decide)
                simp only [Prod.mk.injEq] at hr_
                obtain ⟨rfl, rfl, rfl⟩ := hr_
                clear hn HH hF
                clear hf hxs hg hL hpq_ hq hpq
                go_wp2_with (first | (rw [V3.out]))
                refine bodyPost_ret (v := .tuple #[.slice none 0 0, .int .i64 (p : Int), .int .i64 4]) (by simp [results, Tryd.results30, go_sem]) rfl ?_
                exact ⟨_, rfl, Kd.R_nil _ _ _ _ _, HB6.out⟩
              · have g1 : ((L : Int) > 20) = False := eq_false (by omega)
                have g2 : (20 < L) = False := eq_false hg
                have g3 : ((20 : Int) < (L : Int)) = False := eq_false (by omega)
                rw [if_neg hg] at hn
                have z1 : ((p : Int) ≤ (s.size : Int)) = True := eq_true (by omega)
                have z2 : (p ≤ s.size) = True := eq_true (by omega)
                have z3 : ((s.size : Int) ≤ (s.size : Int)) = True := eq_true (by omega)
                have z4 : (s.size ≤ s.size) = True := eq_true (by omega)
                have z5 : (0 ≤ (s.size : Int)) = True := eq_true (by omega)
                obtain ⟨hm1, hm2, f', hFF, hff, hpp⟩ := step_ok hlt hf hF hn
                rw [txtR3, show p + L = s.size by omega] at hFF
                rw [show p + L = s.size by omega] at hm2 hff hpp
                have SK := Aside0.mk (fun w => sk HS.out (p := s.size) hm2 w)
                obtain ⟨p9, hp9⟩ : ∃ p9, p9 = s.size + Lex.blk false ((lst s).drop (s.size)) := ⟨_, rfl⟩
                rw [← hp9] at hFF hff hpp SK
                have FF := Aside0.mk (And.intro hFF (And.intro hff hpp))
                have GT := Aside0.mk (show xs.length + 1 ≤ p9 ∧ s.size - p9 < s.size - p ∧ p < p9 by omega)
                clear hFF hff hpp hp9 hm1 hm2 hn hF hf HH
                clear hg hL hpq_ hq hpq hxs
                go_wp2_with (first | (rw [V3.out]))
                have n0_ := Aside0.mk (Kd.R_drew HO6.out)
                have n1_ := Aside0.mk (blk_drew K7.out)
                have n2_ := Aside0.mk (below_drew1 HB6.out)
                clear HO6 K7 HB6 k0 k1 k2 k3 kf0 kf1 kf2 kf3
                have HO6 := n0_
                have K7 := n1_
                have HB6 := n2_
                clear n0_ n1_ n2_
                refine start_ (n := 8) (S := fun w' => True) (ds := []) #[false, false, false, false, false, false, false, false] (by kernel_rfl) rfl rfl trivial (fun hHeld => ?_); refine with_tabW tab23 bits23 (fun HT_ HW_ => ?_)
                generalize wr.drew = wd at HO6 K7 HB6 hHeld ⊢
                refine pure_ (i := 0) (N := some 90) (v := ?_) (a' := ?_) #[true, false, false, false, false, false, false, false] rfl rfl (any_of HT_.out (by kernel_rfl)) (fun _ _ _ h => h) (Or.inl ⟨by rfl, ?_⟩) ?_ ?_
                rotate_left
                · intro w'
                  go_simp
                  with_reducible rfl
                rotate_left
                · simp only [Act.put, List.setIfInBounds_toArray, List.set_cons_zero, List.set_cons_succ, i64_w, i32_w, u8_w, u32_w]
                  rfl
                refine pure_ (i := 1) (N := some 91) (v := ?_) (a' := ?_) #[true, true, false, false, false, false, false, false] rfl rfl (any_of HT_.out (by kernel_rfl)) (fun _ _ _ h => h) (Or.inl ⟨by rfl, ?_⟩) ?_ ?_
                rotate_left
                · intro w'
                  go_simp
                  with_reducible rfl
                rotate_left
                · simp only [Act.put, List.setIfInBounds_toArray, List.set_cons_zero, List.set_cons_succ, i64_w, i32_w, u8_w, u32_w]
                  rfl
                refine pure_ (i := 2) (N := some 92) (v := ?_) (a' := ?_) #[true, true, true, false, false, false, false, false] rfl rfl (any_of HT_.out (by kernel_rfl)) (fun _ _ _ h => h) (Or.inl ⟨by rfl, ?_⟩) ?_ ?_
                rotate_left
                · intro w'
                  go_simp
                  with_reducible rfl
                rotate_left
                · simp only [Act.put, List.setIfInBounds_toArray, List.set_cons_zero, List.set_cons_succ, i64_w, i32_w, u8_w, u32_w]
                  rfl
                refine pure_ (i := 3) (N := some 93) (v := ?_) (a' := ?_) #[true, true, true, true, false, false, false, false] rfl rfl (any_of HT_.out (by kernel_rfl)) (fun _ _ _ h => h) (Or.inl ⟨by rfl, ?_⟩) ?_ ?_
                rotate_left
                · intro w'
                  go_simp
                  with_reducible rfl
                rotate_left
                · simp only [Act.put, List.setIfInBounds_toArray, List.set_cons_zero, List.set_cons_succ, i64_w, i32_w, u8_w, u32_w]
                  rfl
                refine pure_ (i := 4) (N := some 94) (v := ?_) (a' := ?_) #[true, true, true, true, true, false, false, false] rfl rfl (any_of HT_.out (by kernel_rfl)) (fun _ _ _ h => h) (Or.inl ⟨by rfl, ?_⟩) ?_ ?_
                rotate_left
                · intro w'
                  go_simp
                  with_reducible rfl
                rotate_left
                · simp only [Act.put, List.setIfInBounds_toArray, List.set_cons_zero, List.set_cons_succ, i64_w, i32_w, u8_w, u32_w]
                  rfl
                refine one_ (i := 5) (N := none) #[true, true, true, true, true, true, false, false] rfl rfl (one_of HT_.out (by kernel_rfl)) (by decide) (fun K hK => ?_)
                have hs58 : wd.cell? ⟨g, 0, none⟩ = some (.int .i64 0) := (blk_cell K7.out 0).trans rfl
                have hfs58 := blk_frozen K7.out 0
                refine skip_ (w1 := ?_) (by rfl) rfl ?_ ?_
                rotate_left
                · go_simp
                  rfl
                refine hK.out _ _ trivial (fun hHeld => ?_)
                clear hK K hs58 hfs58
                refine pure_ (i := 6) (N := some 95) (v := ?_) (a' := ?_) #[true, true, true, true, true, true, true, false] rfl rfl (any_of HT_.out (by kernel_rfl)) (fun _ _ _ h => h) (Or.inl ⟨by rfl, ?_⟩) ?_ ?_
                rotate_left
                · intro w'
                  go_simp
                  with_reducible rfl
                rotate_left
                · simp only [Act.put, List.setIfInBounds_toArray, List.set_cons_zero, List.set_cons_succ, i64_w, i32_w, u8_w, u32_w]
                  rfl
                refine one_ (i := 7) (N := none) #[true, true, true, true, true, true, true, true] rfl rfl (one_of HT_.out (by kernel_rfl)) (by decide) (fun K hK => ?_)
                have hs58 : wd.cell? ⟨g, 3, none⟩ = some (.string ⟨#[]⟩) := (blk_cell K7.out 3).trans rfl
                have hfs58 := blk_frozen K7.out 3
                refine skip_ (w1 := ?_) (by rfl) rfl ?_ ?_
                rotate_left
                · go_simp
                  rfl
                refine hK.out _ _ trivial (fun hHeld => ?_)
                clear hK K hs58 hfs58
                refine done_ (done_of HT_.out (by kernel_rfl)) ?_
                have k0 : wd.cell? ⟨g, 0, none⟩ = some (.int .i64 0) := (blk_cell K7.out 0).trans rfl
                have k1 : wd.cell? ⟨g, 1, none⟩ = some (.int .i64 0) := (blk_cell K7.out 1).trans rfl
                have k2 : wd.cell? ⟨g, 2, none⟩ = some (.int .i64 (p : Int)) := (blk_cell K7.out 2).trans rfl
                have k3 : wd.cell? ⟨g, 3, none⟩ = some (.string ⟨#[]⟩) := (blk_cell K7.out 3).trans rfl
                have kf0 := blk_frozen K7.out 0
                have kf1 := blk_frozen K7.out 1
                have kf2 := blk_frozen K7.out 2
                have kf3 := blk_frozen K7.out 3
                go_wp2_with (first | ((with_reducible refine gate_dst (N := 146) rfl ?_); refine gen_world (fun wq => wq.heap[g]? = some (.cells #[.int .i64 3, .int .i64 0, .int .i64 (p : Int), .string (s.extract p s.size)] 63 (0, 0)) ∧ Kd.R k63 63 wq w.heap.size (fun k_ => True ∧ k_ ≠ g) u5 xs ∧ Below w.heap.size w wq) ⟨(blk_put (cs := #[.int .i64 3, .int .i64 0, .int .i64 (p : Int), .string ⟨#[]⟩]) (cs' := #[.int .i64 3, .int .i64 0, .int .i64 (p : Int), .string (s.extract p s.size)]) (blk_put (cs := #[.int .i64 0, .int .i64 0, .int .i64 (p : Int), .string ⟨#[]⟩]) (cs' := #[.int .i64 3, .int .i64 0, .int .i64 (p : Int), .string ⟨#[]⟩]) K7.out 0 (.int .i64 3) rfl) 3 (.string (s.extract p s.size)) rfl), (Kd.R_far (p := ⟨g, 3, none⟩) (Kd.R_far (p := ⟨g, 0, none⟩) HO6.out (fun _ hk => hk.2) _) (fun _ hk => hk.2) _), (below_set (below_set HB6.out GE.out) GE.out)⟩ ?_; rintro w7 ⟨hk_, ho_, hb_⟩; have K8 := Aside0.mk hk_; have HO7 := Aside0.mk ho_; have HB7 := Aside0.mk hb_; clear hk_ ho_ hb_ K7 HO6 HB6 k0 k1 k2 k3 kf0 kf1 kf2 kf3; have k0 : w7.cell? ⟨g, 0, none⟩ = some (.int .i64 3) := (blk_cell K8.out 0).trans rfl; have k1 : w7.cell? ⟨g, 1, none⟩ = some (.int .i64 0) := (blk_cell K8.out 1).trans rfl; have k2 : w7.cell? ⟨g, 2, none⟩ = some (.int .i64 (p : Int)) := (blk_cell K8.out 2).trans rfl; have k3 : w7.cell? ⟨g, 3, none⟩ = some (.string (s.extract p s.size)) := (blk_cell K8.out 3).trans rfl; have kf0 := blk_frozen K8.out 0; have kf1 := blk_frozen K8.out 1; have kf2 := blk_frozen K8.out 2; have kf3 := blk_frozen K8.out 3) | ((with_reducible refine gate_builtin (b := .append) (xs := #[.tmp 145, .tmp 147]) rfl ?_); at_builtin; refine Kd.R_append k63 (w0 := w) w.heap.size rfl (.tmp 145) (.tmp 147) 53 63 (.agg #[(.int .i64 0), (.int .i64 0), (.int .i64 0), (.string ⟨#[]⟩)]) 40 rfl Tryd.underlying53 info63 rfl (by decide) (by omega) _ xs (⟨3, 0, (p : Int), (s.extract p s.size)⟩ : S63) [.int .i64 3, .int .i64 0, .int .i64 (p : Int), .string (s.extract p s.size)] (fun k_ => k_ ≠ g) (fun _ => False) rfl (by first | (go_simp; done) | (go_simp; rfl)) ?aP (fun _ hk => hk.elim) ?aF ?aO ?aB ?aS ?aL ?_; (case aP => exact k63_mkM _ _ _ (⟨3, 0, (p : Int), (s.extract p s.size)⟩ : S63)); (case aB => exact HB7.out); (case aF => exact Kd.freshB K8.out); (case aO => exact Kd.R_mono HO7.out (fun _ hk => hk.2)); (case aS => exact HB7.out.size); (case aL => have := XL.out; omega); intro v8 w8 ho hb hg hat; have HO8 := Aside0.mk ho; have HB8 := Aside0.mk hb; clear ho hb hg hat) | (go_at_call 39; (with_reducible refine (SK.out _).mono ?_); rintro e w_ ⟨rfl, rfl⟩))
                have h1_ := FF.out
                refine ⟨⟨p9, _, h1_.2.2, rfl, ⟨?_, f', h1_.2.1, h1_.1⟩, ⟨Kd.R_mono HO8.out (fun _ _ => trivial)⟩, HB8⟩, ?_⟩
                · rw [List.length_append]
                  exact GT.out.1
                · have h2_ := GT.out
                  simp only [intOf, Int.toNat_natCast]
                  omega
        | false =>
          cases h6 : pDigit (nb (lst s) p) with
          | true =>
            have hn0 := nx_num hlt h4 (Or.inl h6)
            have nc0 := fun w => num_call (s := s) (p := p) HS.out hlt w
            obtain ⟨q', hq'⟩ : ∃ q', q' = p + 1 + spn pDigit ((lst s).drop (p + 1)) := ⟨_, rfl⟩
            rw [← hq'] at hn0 nc0
            have HN := Aside0.mk hn0
            have NCC := Aside0.mk nc0
            have hql := spn_le pDigit ((lst s).drop (p + 1))
            rw [List.length_drop, lst_len] at hql
            have PQ := Aside0.mk (And.intro (show p1 ≤ s.size by omega) (And.intro (show p1 + spn pDigit ((lst s).drop p1) = q' by rw [hp1, hq']) hql))
            have P1 := Aside0.mk hp1
            have HH := Aside0.mk (And.intro hf (And.intro hF hxs))
            clear hf hF hxs HF h2 hp
            have c40 : ((s[p].toNat : Int) == 40) = false := by rw [hb]; simp [h1]
            have c41 : ((s[p].toNat : Int) == 41) = false := by rw [hb]; simp [h2_]
            have c42 : ((s[p].toNat : Int) == 42) = false := by rw [hb]; simp [h3]
            have c45 : ((s[p].toNat : Int) == 45) = false := by rw [hb]; simp [h45]
            have DG := Aside0.mk (fun w => dg (s[p].toNat : Int) w)
            rw [hb, h6, ← hb] at DG
            have FR := Aside0.mk (fun w => fr (s[p].toNat : Int) w)
            rw [hb, h5, ← hb] at FR
            clear h1 h2_ h3 h4 hb hp1 hn0 nc0 hq' hql h5 h45 h6
            go_wp2_with (first | (rw [V1.out]) | ((with_reducible refine gate_dst (N := 8) rfl ?_); refine box_event ?hg (N := 8) ?hd (cs := #[.int .i64 0, .int .i64 0, .int .i64 0, .string ⟨#[]⟩]) (t := 63) ?hr ?_; (case hd => rfl); (case hg => rfl); (case hr => first | (go_simp; done) | (go_simp; rfl)); intro g hg w5 hbox hb; have K6 := Aside0.mk hbox; have HO5 := Aside0.mk (Kd.R_below (Kd.R_elderB HO.out g (Nat.le_of_eq hg.symm)) hb); have GE := Aside0.mk ((by rw [hg]; exact HB.out.size) : w.heap.size ≤ g); have HB5 := Aside0.mk (below_step HB.out hb); clear hbox hb hg; have k0 : w5.cell? ⟨g, 0, none⟩ = some (.int .i64 0) := (blk_cell K6.out 0).trans rfl; have k1 : w5.cell? ⟨g, 1, none⟩ = some (.int .i64 0) := (blk_cell K6.out 1).trans rfl; have k2 : w5.cell? ⟨g, 2, none⟩ = some (.int .i64 0) := (blk_cell K6.out 2).trans rfl; have k3 : w5.cell? ⟨g, 3, none⟩ = some (.string ⟨#[]⟩) := (blk_cell K6.out 3).trans rfl; have kf0 := blk_frozen K6.out 0; have kf1 := blk_frozen K6.out 1; have kf2 := blk_frozen K6.out 2; have kf3 := blk_frozen K6.out 3) | ((with_reducible refine gate_dst (N := 31) rfl ?_); refine gen_world (fun wq => wq.heap[g]? = some (.cells #[.int .i64 0, .int .i64 0, .int .i64 (p : Int), .string ⟨#[]⟩] 63 (0, 0)) ∧ Kd.R k63 63 wq w.heap.size (fun k_ => True ∧ k_ ≠ g) u5 xs ∧ Below w.heap.size w wq) ⟨(blk_put (cs := #[.int .i64 0, .int .i64 0, .int .i64 (p : Int), .string ⟨#[]⟩]) (cs' := #[.int .i64 0, .int .i64 0, .int .i64 (p : Int), .string ⟨#[]⟩]) (blk_put (cs := #[.int .i64 0, .int .i64 0, .int .i64 0, .string ⟨#[]⟩]) (cs' := #[.int .i64 0, .int .i64 0, .int .i64 (p : Int), .string ⟨#[]⟩]) (blk_put (cs := #[.int .i64 0, .int .i64 0, .int .i64 0, .string ⟨#[]⟩]) (cs' := #[.int .i64 0, .int .i64 0, .int .i64 0, .string ⟨#[]⟩]) (blk_put (cs := #[.int .i64 0, .int .i64 0, .int .i64 0, .string ⟨#[]⟩]) (cs' := #[.int .i64 0, .int .i64 0, .int .i64 0, .string ⟨#[]⟩]) K6.out 0 (.int .i64 0) rfl) 1 (.int .i64 0) rfl) 2 (.int .i64 (p : Int)) rfl) 3 (.string ⟨#[]⟩) rfl), (Kd.R_far (p := ⟨g, 3, none⟩) (Kd.R_far (p := ⟨g, 2, none⟩) (Kd.R_far (p := ⟨g, 1, none⟩) (Kd.R_far (p := ⟨g, 0, none⟩) HO5.out (fun _ hk => hk.2) _) (fun _ hk => hk.2) _) (fun _ hk => hk.2) _) (fun _ hk => hk.2) _), (below_set (below_set (below_set (below_set HB5.out GE.out) GE.out) GE.out) GE.out)⟩ ?_; rintro w6 ⟨hk_, ho_, hb_⟩; have K7 := Aside0.mk hk_; have HO6 := Aside0.mk ho_; have HB6 := Aside0.mk hb_; clear hk_ ho_ hb_ K6 HO5 HB5 k0 k1 k2 k3 kf0 kf1 kf2 kf3; have k0 : w6.cell? ⟨g, 0, none⟩ = some (.int .i64 0) := (blk_cell K7.out 0).trans rfl; have k1 : w6.cell? ⟨g, 1, none⟩ = some (.int .i64 0) := (blk_cell K7.out 1).trans rfl; have k2 : w6.cell? ⟨g, 2, none⟩ = some (.int .i64 (p : Int)) := (blk_cell K7.out 2).trans rfl; have k3 : w6.cell? ⟨g, 3, none⟩ = some (.string ⟨#[]⟩) := (blk_cell K7.out 3).trans rfl; have kf0 := blk_frozen K7.out 0; have kf1 := blk_frozen K7.out 1; have kf2 := blk_frozen K7.out 2; have kf3 := blk_frozen K7.out 3) | (go_at_call 40; (with_reducible refine (FR.out _).mono ?_); rintro e w_ ⟨rfl, rfl⟩) | (go_at_call 42; (with_reducible refine (DG.out _).mono ?_); rintro e w_ ⟨rfl, rfl⟩))
            go_loopw [7] (fun v7 w_ => ∃ q : Nat, q ≤ s.size ∧ p1 ≤ q ∧ v7 = .int .i64 q ∧ Aside0 (q + spn pDigit ((lst s).drop q) = q') ∧ w_ = w6) (fun v7 _ => s.size - (intOf v7).toNat)
            case atStart => exact ⟨p1, PQ.out.1, Nat.le_refl _, rfl, ⟨PQ.out.2.1⟩, rfl⟩
            case round =>
              obtain ⟨q, hq, hpq, rfl, HQ_, rfl⟩ := hrel
              by_cases hlq : q < s.size
              · have y1 : ((q : Int) < (s.size : Int)) = True := eq_true (by omega)
                have y2 : (q < s.size) = True := eq_true hlq
                have y3 : decide ((q : Int) < (s.size : Int)) = true := decide_eq_true (by omega)
                have y4 : (0 ≤ (q : Int)) = True := eq_true (by omega)
                have hbq : (s[q].toNat : Int) = nb (lst s) q := (bt_at s (q : Int) (by simpa using hlq)).trans (bt_nb s q)
                have ST := Aside0.mk (spn_at' (s := s) (p := q) (pr := pDigit) hlq)
                have HI := Aside0.mk (And.intro hq (And.intro hpq hlq))
                have W1 := Aside0.mk (w1 q (by have := HS.out; omega))
                cases hpr : pDigit (nb (lst s) q) with
                | true =>
                  have CC := Aside0.mk (fun w => dg (s[q].toNat : Int) w)
                  rw [hbq, hpr, ← hbq] at CC
                  rw [hpr, if_pos rfl] at ST
                  clear hpr hbq hq hpq
                  go_wp2_with (first | (go_at_call 42; (with_reducible refine (CC.out _).mono ?_); rintro e w_ ⟨rfl, rfl⟩))
                  go_roundw
                  case measure => exact meas HI.out.2.2 W1.out
                  case rel =>
                    have h2 := ST.out
                    have h3 := HI.out
                    exact ⟨q + 1, by omega, by omega, by rw [W1.out], ⟨by have := HQ_.out; omega⟩, trivial⟩
                | false =>
                  have CC := Aside0.mk (fun w => dg (s[q].toNat : Int) w)
                  rw [hbq, hpr, ← hbq] at CC
                  rw [hpr, if_neg (by decide)] at ST
                  have hqq : q = q' := by
                    have h2 := ST.out
                    have h3 := HQ_.out
                    omega
                  clear hpr hbq ST HQ_
                  subst hqq
                  have hp1_ := P1.out
                  have hpq_ : p + 1 ≤ q := by omega
                  clear hp1_
                  have hn := HN.out
                  have NC0 := NCC.out
                  obtain ⟨hf, hF, hxs⟩ := HH.out
                  have z1 : ((p : Int) ≤ (q : Int)) = True := eq_true (by omega)
                  have z2 : (p ≤ q) = True := eq_true (by omega)
                  have z3 : ((q : Int) ≤ (s.size : Int)) = True := eq_true (by omega)
                  have z4 : (q ≤ s.size) = True := eq_true (by omega)
                  have z5 : (0 ≤ (q : Int)) = True := eq_true (by omega)
                  cases hv : num (lst (s.extract p q)) with
                  | none =>
                    rw [hv] at hn NC0
                    simp only [Option.getD_none, Option.isSome_none] at NC0
                    have hr_ := step_no hlt HH.out.2.1 hn (by decide)
                    simp only [Prod.mk.injEq] at hr_
                    obtain ⟨rfl, rfl, rfl⟩ := hr_
                    clear hn HH hF
                    have NC := Aside0.mk NC0
                    clear hf hxs hpq_ hq hpq NC0 hv HN NCC
                    go_wp2_with (first | (go_at_call 42; (with_reducible refine (CC.out _).mono ?_); rintro e w_ ⟨rfl, rfl⟩) | (go_at_call 43; (with_reducible refine (NC.out _).mono ?_); rintro e w_ ⟨rfl, ⟨nd, rfl⟩⟩; have KQ := Aside0.mk (blk_drewN K7.out nd); have HQ := Aside0.mk (Kd.R_drewN HO6.out nd); have BQ := Aside0.mk (pw_below_drewN HB6.out nd); clear K7 HO6 HB6 k0 k1 k2 k3 kf0 kf1 kf2 kf3; generalize World.drewN wr nd = wd at KQ HQ BQ ⊢; have K7 := KQ; have HO6 := HQ; have HB6 := BQ; clear KQ HQ BQ; have k0 : wd.cell? ⟨g, 0, none⟩ = some (.int .i64 0) := (blk_cell K7.out 0).trans rfl; have k1 : wd.cell? ⟨g, 1, none⟩ = some (.int .i64 0) := (blk_cell K7.out 1).trans rfl; have k2 : wd.cell? ⟨g, 2, none⟩ = some (.int .i64 (p : Int)) := (blk_cell K7.out 2).trans rfl; have k3 : wd.cell? ⟨g, 3, none⟩ = some (.string ⟨#[]⟩) := (blk_cell K7.out 3).trans rfl; have kf0 := blk_frozen K7.out 0; have kf1 := blk_frozen K7.out 1; have kf2 := blk_frozen K7.out 2; have kf3 := blk_frozen K7.out 3))
                    refine bodyPost_ret (v := .tuple #[.slice none 0 0, .int .i64 (p : Int), .int .i64 4]) (by simp [results, Tryd.results30, go_sem]) rfl ?_
                    exact ⟨_, rfl, Kd.R_nil _ _ _ _ _, HB6.out⟩
                  | some v =>
                    rw [hv] at hn NC0
                    simp only [Option.getD_some, Option.isSome_some] at NC0
                    obtain ⟨hm1, hm2, f', hFF, hff, hpp⟩ := step_ok hlt hf hF hn
                    rw [txt_none 4 (by decide), show p + (q - p) = q by omega] at hFF
                    rw [show p + (q - p) = q by omega] at hm2 hff hpp
                    have SK := Aside0.mk (fun w => sk HS.out (p := q) hm2 w)
                    obtain ⟨p9, hp9⟩ : ∃ p9, p9 = q + Lex.blk false ((lst s).drop (q)) := ⟨_, rfl⟩
                    rw [← hp9] at hFF hff hpp SK
                    have FF := Aside0.mk (And.intro hFF (And.intro hff hpp))
                    have GT := Aside0.mk (show xs.length + 1 ≤ p9 ∧ s.size - p9 < s.size - p ∧ p < p9 by omega)
                    clear hFF hff hpp hp9 hm1 hm2 hn hF hf HH
                    have NC := Aside0.mk NC0
                    clear hpq_ hq hpq hxs NC0 hv HN NCC
                    go_wp2_with (first | (go_at_call 42; (with_reducible refine (CC.out _).mono ?_); rintro e w_ ⟨rfl, rfl⟩) | (go_at_call 43; (with_reducible refine (NC.out _).mono ?_); rintro e w_ ⟨rfl, ⟨nd, rfl⟩⟩; have KQ := Aside0.mk (blk_drewN K7.out nd); have HQ := Aside0.mk (Kd.R_drewN HO6.out nd); have BQ := Aside0.mk (pw_below_drewN HB6.out nd); clear K7 HO6 HB6 k0 k1 k2 k3 kf0 kf1 kf2 kf3; generalize World.drewN wr nd = wd at KQ HQ BQ ⊢; have K7 := KQ; have HO6 := HQ; have HB6 := BQ; clear KQ HQ BQ; have k0 : wd.cell? ⟨g, 0, none⟩ = some (.int .i64 0) := (blk_cell K7.out 0).trans rfl; have k1 : wd.cell? ⟨g, 1, none⟩ = some (.int .i64 0) := (blk_cell K7.out 1).trans rfl; have k2 : wd.cell? ⟨g, 2, none⟩ = some (.int .i64 (p : Int)) := (blk_cell K7.out 2).trans rfl; have k3 : wd.cell? ⟨g, 3, none⟩ = some (.string ⟨#[]⟩) := (blk_cell K7.out 3).trans rfl; have kf0 := blk_frozen K7.out 0; have kf1 := blk_frozen K7.out 1; have kf2 := blk_frozen K7.out 2; have kf3 := blk_frozen K7.out 3) | ((with_reducible refine gate_dst (N := 146) rfl ?_); refine gen_world (fun wq => wq.heap[g]? = some (.cells #[.int .i64 4, .int .i64 v, .int .i64 (p : Int), .string ⟨#[]⟩] 63 (0, 0)) ∧ Kd.R k63 63 wq w.heap.size (fun k_ => True ∧ k_ ≠ g) u5 xs ∧ Below w.heap.size w wq) ⟨(blk_put (cs := #[.int .i64 4, .int .i64 0, .int .i64 (p : Int), .string ⟨#[]⟩]) (cs' := #[.int .i64 4, .int .i64 v, .int .i64 (p : Int), .string ⟨#[]⟩]) (blk_put (cs := #[.int .i64 0, .int .i64 0, .int .i64 (p : Int), .string ⟨#[]⟩]) (cs' := #[.int .i64 4, .int .i64 0, .int .i64 (p : Int), .string ⟨#[]⟩]) K7.out 0 (.int .i64 4) rfl) 1 (.int .i64 v) rfl), (Kd.R_far (p := ⟨g, 1, none⟩) (Kd.R_far (p := ⟨g, 0, none⟩) HO6.out (fun _ hk => hk.2) _) (fun _ hk => hk.2) _), (below_set (below_set HB6.out GE.out) GE.out)⟩ ?_; rintro w7 ⟨hk_, ho_, hb_⟩; have K8 := Aside0.mk hk_; have HO7 := Aside0.mk ho_; have HB7 := Aside0.mk hb_; clear hk_ ho_ hb_ K7 HO6 HB6 k0 k1 k2 k3 kf0 kf1 kf2 kf3; have k0 : w7.cell? ⟨g, 0, none⟩ = some (.int .i64 4) := (blk_cell K8.out 0).trans rfl; have k1 : w7.cell? ⟨g, 1, none⟩ = some (.int .i64 v) := (blk_cell K8.out 1).trans rfl; have k2 : w7.cell? ⟨g, 2, none⟩ = some (.int .i64 (p : Int)) := (blk_cell K8.out 2).trans rfl; have k3 : w7.cell? ⟨g, 3, none⟩ = some (.string ⟨#[]⟩) := (blk_cell K8.out 3).trans rfl; have kf0 := blk_frozen K8.out 0; have kf1 := blk_frozen K8.out 1; have kf2 := blk_frozen K8.out 2; have kf3 := blk_frozen K8.out 3) | ((with_reducible refine gate_builtin (b := .append) (xs := #[.tmp 145, .tmp 147]) rfl ?_); at_builtin; refine Kd.R_append k63 (w0 := w) w.heap.size rfl (.tmp 145) (.tmp 147) 53 63 (.agg #[(.int .i64 0), (.int .i64 0), (.int .i64 0), (.string ⟨#[]⟩)]) 40 rfl Tryd.underlying53 info63 rfl (by decide) (by omega) _ xs (⟨4, v, (p : Int), (⟨#[]⟩ : ByteArray)⟩ : S63) [.int .i64 4, .int .i64 v, .int .i64 (p : Int), .string (⟨#[]⟩ : ByteArray)] (fun k_ => k_ ≠ g) (fun _ => False) rfl (by first | (go_simp; done) | (go_simp; rfl)) ?aP (fun _ hk => hk.elim) ?aF ?aO ?aB ?aS ?aL ?_; (case aP => exact k63_mkM _ _ _ (⟨4, v, (p : Int), (⟨#[]⟩ : ByteArray)⟩ : S63)); (case aB => exact HB7.out); (case aF => exact Kd.freshB K8.out); (case aO => exact Kd.R_mono HO7.out (fun _ hk => hk.2)); (case aS => exact HB7.out.size); (case aL => have := XL.out; omega); intro v8 w8 ho hb hg hat; have HO8 := Aside0.mk ho; have HB8 := Aside0.mk hb; clear ho hb hg hat) | (go_at_call 39; (with_reducible refine (SK.out _).mono ?_); rintro e w_ ⟨rfl, rfl⟩))
                    have h1_ := FF.out
                    refine ⟨⟨p9, _, h1_.2.2, rfl, ⟨?_, f', h1_.2.1, h1_.1⟩, ⟨Kd.R_mono HO8.out (fun _ _ => trivial)⟩, HB8⟩, ?_⟩
                    · rw [List.length_append]
                      exact GT.out.1
                    · have h2_ := GT.out
                      simp only [intOf, Int.toNat_natCast]
                      omega
              · obtain rfl : q = s.size := by omega
                have y1 : ((s.size : Int) < (s.size : Int)) = False := eq_false (by omega)
                have hqq : s.size = q' := by
                  have h3 := HQ_.out
                  rw [drop_size] at h3
                  exact h3
                clear HQ_ hlq
                subst hqq
                have hp1_ := P1.out
                have hpq_ : p + 1 ≤ s.size := by omega
                clear hp1_
                have hn := HN.out
                have NC0 := NCC.out
                obtain ⟨hf, hF, hxs⟩ := HH.out
                have z1 : ((p : Int) ≤ (s.size : Int)) = True := eq_true (by omega)
                have z2 : (p ≤ s.size) = True := eq_true (by omega)
                have z3 : ((s.size : Int) ≤ (s.size : Int)) = True := eq_true (by omega)
                have z4 : (s.size ≤ s.size) = True := eq_true (by omega)
                have z5 : (0 ≤ (s.size : Int)) = True := eq_true (by omega)
                cases hv : num (lst (s.extract p s.size)) with
                | none =>
                  rw [hv] at hn NC0
                  simp only [Option.getD_none, Option.isSome_none] at NC0
                  have hr_ := step_no hlt HH.out.2.1 hn (by decide)
                  simp only [Prod.mk.injEq] at hr_
                  obtain ⟨rfl, rfl, rfl⟩ := hr_
                  clear hn HH hF
                  have NC := Aside0.mk NC0
                  clear hf hxs hpq_ hq hpq NC0 hv HN NCC
                  go_wp2_with (first | (go_at_call 43; (with_reducible refine (NC.out _).mono ?_); rintro e w_ ⟨rfl, ⟨nd, rfl⟩⟩; have KQ := Aside0.mk (blk_drewN K7.out nd); have HQ := Aside0.mk (Kd.R_drewN HO6.out nd); have BQ := Aside0.mk (pw_below_drewN HB6.out nd); clear K7 HO6 HB6 k0 k1 k2 k3 kf0 kf1 kf2 kf3; generalize World.drewN wr nd = wd at KQ HQ BQ ⊢; have K7 := KQ; have HO6 := HQ; have HB6 := BQ; clear KQ HQ BQ; have k0 : wd.cell? ⟨g, 0, none⟩ = some (.int .i64 0) := (blk_cell K7.out 0).trans rfl; have k1 : wd.cell? ⟨g, 1, none⟩ = some (.int .i64 0) := (blk_cell K7.out 1).trans rfl; have k2 : wd.cell? ⟨g, 2, none⟩ = some (.int .i64 (p : Int)) := (blk_cell K7.out 2).trans rfl; have k3 : wd.cell? ⟨g, 3, none⟩ = some (.string ⟨#[]⟩) := (blk_cell K7.out 3).trans rfl; have kf0 := blk_frozen K7.out 0; have kf1 := blk_frozen K7.out 1; have kf2 := blk_frozen K7.out 2; have kf3 := blk_frozen K7.out 3))
                  refine bodyPost_ret (v := .tuple #[.slice none 0 0, .int .i64 (p : Int), .int .i64 4]) (by simp [results, Tryd.results30, go_sem]) rfl ?_
                  exact ⟨_, rfl, Kd.R_nil _ _ _ _ _, HB6.out⟩
                | some v =>
                  rw [hv] at hn NC0
                  simp only [Option.getD_some, Option.isSome_some] at NC0
                  obtain ⟨hm1, hm2, f', hFF, hff, hpp⟩ := step_ok hlt hf hF hn
                  rw [txt_none 4 (by decide), show p + (s.size - p) = s.size by omega] at hFF
                  rw [show p + (s.size - p) = s.size by omega] at hm2 hff hpp
                  have SK := Aside0.mk (fun w => sk HS.out (p := s.size) hm2 w)
                  obtain ⟨p9, hp9⟩ : ∃ p9, p9 = s.size + Lex.blk false ((lst s).drop (s.size)) := ⟨_, rfl⟩
                  rw [← hp9] at hFF hff hpp SK
                  have FF := Aside0.mk (And.intro hFF (And.intro hff hpp))
                  have GT := Aside0.mk (show xs.length + 1 ≤ p9 ∧ s.size - p9 < s.size - p ∧ p < p9 by omega)
                  clear hFF hff hpp hp9 hm1 hm2 hn hF hf HH
                  have NC := Aside0.mk NC0
                  clear hpq_ hq hpq hxs NC0 hv HN NCC
                  go_wp2_with (first | (go_at_call 43; (with_reducible refine (NC.out _).mono ?_); rintro e w_ ⟨rfl, ⟨nd, rfl⟩⟩; have KQ := Aside0.mk (blk_drewN K7.out nd); have HQ := Aside0.mk (Kd.R_drewN HO6.out nd); have BQ := Aside0.mk (pw_below_drewN HB6.out nd); clear K7 HO6 HB6 k0 k1 k2 k3 kf0 kf1 kf2 kf3; generalize World.drewN wr nd = wd at KQ HQ BQ ⊢; have K7 := KQ; have HO6 := HQ; have HB6 := BQ; clear KQ HQ BQ; have k0 : wd.cell? ⟨g, 0, none⟩ = some (.int .i64 0) := (blk_cell K7.out 0).trans rfl; have k1 : wd.cell? ⟨g, 1, none⟩ = some (.int .i64 0) := (blk_cell K7.out 1).trans rfl; have k2 : wd.cell? ⟨g, 2, none⟩ = some (.int .i64 (p : Int)) := (blk_cell K7.out 2).trans rfl; have k3 : wd.cell? ⟨g, 3, none⟩ = some (.string ⟨#[]⟩) := (blk_cell K7.out 3).trans rfl; have kf0 := blk_frozen K7.out 0; have kf1 := blk_frozen K7.out 1; have kf2 := blk_frozen K7.out 2; have kf3 := blk_frozen K7.out 3) | ((with_reducible refine gate_dst (N := 146) rfl ?_); refine gen_world (fun wq => wq.heap[g]? = some (.cells #[.int .i64 4, .int .i64 v, .int .i64 (p : Int), .string ⟨#[]⟩] 63 (0, 0)) ∧ Kd.R k63 63 wq w.heap.size (fun k_ => True ∧ k_ ≠ g) u5 xs ∧ Below w.heap.size w wq) ⟨(blk_put (cs := #[.int .i64 4, .int .i64 0, .int .i64 (p : Int), .string ⟨#[]⟩]) (cs' := #[.int .i64 4, .int .i64 v, .int .i64 (p : Int), .string ⟨#[]⟩]) (blk_put (cs := #[.int .i64 0, .int .i64 0, .int .i64 (p : Int), .string ⟨#[]⟩]) (cs' := #[.int .i64 4, .int .i64 0, .int .i64 (p : Int), .string ⟨#[]⟩]) K7.out 0 (.int .i64 4) rfl) 1 (.int .i64 v) rfl), (Kd.R_far (p := ⟨g, 1, none⟩) (Kd.R_far (p := ⟨g, 0, none⟩) HO6.out (fun _ hk => hk.2) _) (fun _ hk => hk.2) _), (below_set (below_set HB6.out GE.out) GE.out)⟩ ?_; rintro w7 ⟨hk_, ho_, hb_⟩; have K8 := Aside0.mk hk_; have HO7 := Aside0.mk ho_; have HB7 := Aside0.mk hb_; clear hk_ ho_ hb_ K7 HO6 HB6 k0 k1 k2 k3 kf0 kf1 kf2 kf3; have k0 : w7.cell? ⟨g, 0, none⟩ = some (.int .i64 4) := (blk_cell K8.out 0).trans rfl; have k1 : w7.cell? ⟨g, 1, none⟩ = some (.int .i64 v) := (blk_cell K8.out 1).trans rfl; have k2 : w7.cell? ⟨g, 2, none⟩ = some (.int .i64 (p : Int)) := (blk_cell K8.out 2).trans rfl; have k3 : w7.cell? ⟨g, 3, none⟩ = some (.string ⟨#[]⟩) := (blk_cell K8.out 3).trans rfl; have kf0 := blk_frozen K8.out 0; have kf1 := blk_frozen K8.out 1; have kf2 := blk_frozen K8.out 2; have kf3 := blk_frozen K8.out 3) | ((with_reducible refine gate_builtin (b := .append) (xs := #[.tmp 145, .tmp 147]) rfl ?_); at_builtin; refine Kd.R_append k63 (w0 := w) w.heap.size rfl (.tmp 145) (.tmp 147) 53 63 (.agg #[(.int .i64 0), (.int .i64 0), (.int .i64 0), (.string ⟨#[]⟩)]) 40 rfl Tryd.underlying53 info63 rfl (by decide) (by omega) _ xs (⟨4, v, (p : Int), (⟨#[]⟩ : ByteArray)⟩ : S63) [.int .i64 4, .int .i64 v, .int .i64 (p : Int), .string (⟨#[]⟩ : ByteArray)] (fun k_ => k_ ≠ g) (fun _ => False) rfl (by first | (go_simp; done) | (go_simp; rfl)) ?aP (fun _ hk => hk.elim) ?aF ?aO ?aB ?aS ?aL ?_; (case aP => exact k63_mkM _ _ _ (⟨4, v, (p : Int), (⟨#[]⟩ : ByteArray)⟩ : S63)); (case aB => exact HB7.out); (case aF => exact Kd.freshB K8.out); (case aO => exact Kd.R_mono HO7.out (fun _ hk => hk.2)); (case aS => exact HB7.out.size); (case aL => have := XL.out; omega); intro v8 w8 ho hb hg hat; have HO8 := Aside0.mk ho; have HB8 := Aside0.mk hb; clear ho hb hg hat) | (go_at_call 39; (with_reducible refine (SK.out _).mono ?_); rintro e w_ ⟨rfl, rfl⟩))
                  have h1_ := FF.out
                  refine ⟨⟨p9, _, h1_.2.2, rfl, ⟨?_, f', h1_.2.1, h1_.1⟩, ⟨Kd.R_mono HO8.out (fun _ _ => trivial)⟩, HB8⟩, ?_⟩
                  · rw [List.length_append]
                    exact GT.out.1
                  · have h2_ := GT.out
                    simp only [intOf, Int.toNat_natCast]
                    omega
          | false =>
            have hn := nx_bad hlt h1 h2_ h3 h4 h5 (fun h => h.elim (fun h => by rw [h6] at h; exact absurd h (by decide)) (fun h => h45 h.1))
            have HH := Aside0.mk (And.intro hf (And.intro hF hxs))
            clear hf hF hxs HF h2 hp
            have hr_ := step_no hlt HH.out.2.1 hn (by decide)
            simp only [Prod.mk.injEq] at hr_
            obtain ⟨rfl, rfl, rfl⟩ := hr_
            clear hn HH
            have c40 : ((s[p].toNat : Int) == 40) = false := by rw [hb]; simp [h1]
            have c41 : ((s[p].toNat : Int) == 41) = false := by rw [hb]; simp [h2_]
            have c42 : ((s[p].toNat : Int) == 42) = false := by rw [hb]; simp [h3]
            have c45 : ((s[p].toNat : Int) == 45) = false := by rw [hb]; simp [h45]
            have FR := Aside0.mk (fun w => fr (s[p].toNat : Int) w)
            rw [hb, h5, ← hb] at FR
            have DG := Aside0.mk (fun w => dg (s[p].toNat : Int) w)
            rw [hb, h6, ← hb] at DG
            clear h1 h2_ h3 h4 hb hp1 h5 h6 h45
            go_wp2_with (first | (rw [V1.out]) | ((with_reducible refine gate_dst (N := 8) rfl ?_); refine box_event ?hg (N := 8) ?hd (cs := #[.int .i64 0, .int .i64 0, .int .i64 0, .string ⟨#[]⟩]) (t := 63) ?hr ?_; (case hd => rfl); (case hg => rfl); (case hr => first | (go_simp; done) | (go_simp; rfl)); intro g hg w5 hbox hb; have K6 := Aside0.mk hbox; have HO5 := Aside0.mk (Kd.R_below (Kd.R_elderB HO.out g (Nat.le_of_eq hg.symm)) hb); have GE := Aside0.mk ((by rw [hg]; exact HB.out.size) : w.heap.size ≤ g); have HB5 := Aside0.mk (below_step HB.out hb); clear hbox hb hg; have k0 : w5.cell? ⟨g, 0, none⟩ = some (.int .i64 0) := (blk_cell K6.out 0).trans rfl; have k1 : w5.cell? ⟨g, 1, none⟩ = some (.int .i64 0) := (blk_cell K6.out 1).trans rfl; have k2 : w5.cell? ⟨g, 2, none⟩ = some (.int .i64 0) := (blk_cell K6.out 2).trans rfl; have k3 : w5.cell? ⟨g, 3, none⟩ = some (.string ⟨#[]⟩) := (blk_cell K6.out 3).trans rfl; have kf0 := blk_frozen K6.out 0; have kf1 := blk_frozen K6.out 1; have kf2 := blk_frozen K6.out 2; have kf3 := blk_frozen K6.out 3) | ((with_reducible refine gate_dst (N := 31) rfl ?_); refine gen_world (fun wq => wq.heap[g]? = some (.cells #[.int .i64 0, .int .i64 0, .int .i64 (p : Int), .string ⟨#[]⟩] 63 (0, 0)) ∧ Kd.R k63 63 wq w.heap.size (fun k_ => True ∧ k_ ≠ g) u5 xs ∧ Below w.heap.size w wq) ⟨(blk_put (cs := #[.int .i64 0, .int .i64 0, .int .i64 (p : Int), .string ⟨#[]⟩]) (cs' := #[.int .i64 0, .int .i64 0, .int .i64 (p : Int), .string ⟨#[]⟩]) (blk_put (cs := #[.int .i64 0, .int .i64 0, .int .i64 0, .string ⟨#[]⟩]) (cs' := #[.int .i64 0, .int .i64 0, .int .i64 (p : Int), .string ⟨#[]⟩]) (blk_put (cs := #[.int .i64 0, .int .i64 0, .int .i64 0, .string ⟨#[]⟩]) (cs' := #[.int .i64 0, .int .i64 0, .int .i64 0, .string ⟨#[]⟩]) (blk_put (cs := #[.int .i64 0, .int .i64 0, .int .i64 0, .string ⟨#[]⟩]) (cs' := #[.int .i64 0, .int .i64 0, .int .i64 0, .string ⟨#[]⟩]) K6.out 0 (.int .i64 0) rfl) 1 (.int .i64 0) rfl) 2 (.int .i64 (p : Int)) rfl) 3 (.string ⟨#[]⟩) rfl), (Kd.R_far (p := ⟨g, 3, none⟩) (Kd.R_far (p := ⟨g, 2, none⟩) (Kd.R_far (p := ⟨g, 1, none⟩) (Kd.R_far (p := ⟨g, 0, none⟩) HO5.out (fun _ hk => hk.2) _) (fun _ hk => hk.2) _) (fun _ hk => hk.2) _) (fun _ hk => hk.2) _), (below_set (below_set (below_set (below_set HB5.out GE.out) GE.out) GE.out) GE.out)⟩ ?_; rintro w6 ⟨hk_, ho_, hb_⟩; have K7 := Aside0.mk hk_; have HO6 := Aside0.mk ho_; have HB6 := Aside0.mk hb_; clear hk_ ho_ hb_ K6 HO5 HB5 k0 k1 k2 k3 kf0 kf1 kf2 kf3; have k0 : w6.cell? ⟨g, 0, none⟩ = some (.int .i64 0) := (blk_cell K7.out 0).trans rfl; have k1 : w6.cell? ⟨g, 1, none⟩ = some (.int .i64 0) := (blk_cell K7.out 1).trans rfl; have k2 : w6.cell? ⟨g, 2, none⟩ = some (.int .i64 (p : Int)) := (blk_cell K7.out 2).trans rfl; have k3 : w6.cell? ⟨g, 3, none⟩ = some (.string ⟨#[]⟩) := (blk_cell K7.out 3).trans rfl; have kf0 := blk_frozen K7.out 0; have kf1 := blk_frozen K7.out 1; have kf2 := blk_frozen K7.out 2; have kf3 := blk_frozen K7.out 3) | (go_at_call 40; (with_reducible refine (FR.out _).mono ?_); rintro e w_ ⟨rfl, rfl⟩) | (go_at_call 42; (with_reducible refine (DG.out _).mono ?_); rintro e w_ ⟨rfl, rfl⟩))
            refine bodyPost_ret (v := .tuple #[.slice none 0 0, .int .i64 (p : Int), .int .i64 6]) (by simp [results, Tryd.results30, go_sem]) rfl ?_
            exact ⟨_, rfl, Kd.R_nil _ _ _ _ _, HB6.out⟩
      · obtain rfl : p = s.size := by omega
        have t1 : ((s.size : Int) < (s.size : Int)) = False := eq_false (by omega)
        have e : toks2 f ((lst s).drop s.size) s.size xs = (xs, 0, 0) := by
          unfold toks2
          rw [if_pos (by rw [List.length_drop, lst_len]; omega)]
        rw [e] at hF
        simp only [Prod.mk.injEq] at hF
        obtain ⟨rfl, rfl, rfl⟩ := hF
        clear hlt h2 hf hp hxs HF
        go_wp2
        refine bodyPost_ret (v := .tuple #[u5, .int .i64 0, .int .i64 0]) (by simp [results, Tryd.results30, go_sem]) rfl ?_
        exact ⟨_, rfl, HO.out, HB.out⟩
end Go.Proofs.YtkkmgahgejjhgaaDoor.Lex
namespace Go.Proofs.YtkkmgahgejjhgaaDoor.P
open Go.RowKit Go.Proofs.YtkkmgahgejjhgaaDoorW.PrintWords
set_option linter.unusedVariables false
end Go.Proofs.YtkkmgahgejjhgaaDoor.P
