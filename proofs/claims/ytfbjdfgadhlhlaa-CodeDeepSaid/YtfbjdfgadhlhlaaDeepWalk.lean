/- CodeDeep: the plain law over the printed body, and the call's walk. -/
import Derived.Test.YtfbjdfgadhlhlaaPureF
import Derived.Test.YtfbjdfgadhlhlaaDeepB
namespace Go.Proofs.Ytfbjdfgadhlhlaa.P
open Go.RowKit Go.Proofs.YtfbjdfgadhlhlaaW.PrintWords Go.Proofs.YtfbjdfgadhlhlaaW.PrintLast Go.Proofs.YtfbjdfgadhlhlaaW.PrintMore
set_option linter.unusedVariables false
set_option linter.unusedSimpArgs false

theorem fines_one : ∀ (l : List S29) (x : S29), fines l → fine x → fines (l ++ [x])
  | [], x, _, h => ⟨h, trivial⟩
  | y :: l, x, h, hx => ⟨h.1, fines_one l x h.2 hx⟩
theorem deeps_one : ∀ (l : List S29) (x : S29), deeps29 (l ++ [x]) = max (deeps29 l) (deep29 x)
  | [], x => by simp [deeps29]
  | y :: l, x => by
    simp only [List.cons_append, deeps29, deeps_one l x]
    omega
theorem sizes_one : ∀ (l : List S29) (x : S29), sizes29 (l ++ [x]) = sizes29 l + size29 x
  | [], x => by simp [sizes29]
  | y :: l, x => by
    simp only [List.cons_append, sizes29, sizes_one l x]
    omega
theorem deep_tail {T : S29} (hf : fine T) (h4 : 4 ≤ size29 T) (hs : size29 T ≤ 100000) {n : Int} (x1 : Bool) {m : Int} (hm : -9223372036854775808 ≤ m ∧ m ≤ 9223372036854775807)
    (hov : 2 < n ↔ ¬ (deep29 T ≤ 120 ∧ size29 T ≤ 3000)) : Ev (fun k => thyrsuslaw1_CodeDeep.j3 k n x1 m T.f0 T.f1 T.f2) true := by
  obtain ⟨K1, e1⟩ := rbytes_ev T (by omega)
  obtain ⟨r, ⟨K2, e2⟩, hr⟩ := same_ev T (by omega) T
  have r1 : r = true := hr.2 rfl
  subst r1
  have hw := within_val hm (n := 40) (by omega) (by omega)
  have m1 := Int.emod_nonneg m (show (40 : Int) ≠ 0 by omega)
  have m2 := Int.emod_lt_of_pos m (show (0 : Int) < 40 by omega)
  have hz := enc_size T
  have bT := enc_ok T
  obtain ⟨c, hc⟩ := Int.eq_ofNat_of_zero_le m1
  rw [hc] at hw m2
  have w1 : wrap64 (((enc T).length : Int) - (c : Int)) = ((enc T).length : Int) - (c : Int) := wrap_id (by omega)
  have w2 : (((enc T).length : Int) - (c : Int)).toNat = (enc T).length - c := by omega
  have p1 := parse_val bT
  have p3 := parse_val (l := (enc T).take ((enc T).length - c)) (fun x h => bT x (List.mem_of_mem_take h))
  have p4 : thyrsusref1_Parse.f ((enc T).take ((enc T).length - c)) = _ := p3
  refine ⟨max K1 K2 + 1, fun k hk => ?_⟩
  obtain ⟨k, rfl⟩ : ∃ j, k = j + 1 := ⟨k - 1, by omega⟩
  have e1 := e1 k (by omega)
  have e2 := e2 k (by omega)
  simp only at e1 e2
  have c1 : 0 ≤ ((enc T).length : Int) - (c : Int) := by omega
  have c2 : ((enc T).length : Int) - (c : Int) ≤ ((enc T).length : Int) := by omega
  simp only [thyrsuslaw1_CodeDeep.j3, e1, Option.bind_some, p1, hw, w1, w2, if_pos c1, if_pos c2, p3, p4]
  by_cases hn : 2 < n
  · have ho := hov.1 hn
    have hz2 : (rdParse ((enc T).take ((enc T).length - c))).1 = ⟨0, 0, []⟩ := by
      by_cases h0 : c = 0
      · subst h0
        rw [Nat.sub_zero, List.take_length, parse_over hf ho]
      · exact (parse_cut hf (by omega)).1
    rw [parse_over hf ho, hz2]
    have hn' : n > 2 := hn
    cases x1 <;> simp [hn']
  · have ho : deep29 T ≤ 120 ∧ size29 T ≤ 3000 := by
      by_cases h : deep29 T ≤ 120 ∧ size29 T ≤ 3000
      · exact h
      · exact absurd (hov.2 h) hn
    rw [parse_enc hf ho.1 ho.2]
    have hn' : ¬ n > 2 := hn
    cases x1 <;> simp [hn', e2]
theorem deep_l2 {n : Nat} (hn : n ≤ 4) {m : Int} (hm : -9223372036854775808 ≤ m ∧ m ≤ 9223372036854775807) : ∀ (d i : Nat) (T : S29), i + d = 117 + n → fine T → deep29 T = i + 1 → size29 T = i + 1 → Ev (fun k => thyrsuslaw1_CodeDeep.l2 k (n : Int) false m (i : Int) T.f0 T.f1 T.f2) true := by
  have w : wrap64 (117 + (n : Int)) = 117 + (n : Int) := wrap_id (by omega)
  intro d
  induction d with
  | zero =>
    intro i T hi hf hd hs
    refine Ev.step (f := fun k => thyrsuslaw1_CodeDeep.j3 k (n : Int) false m T.f0 T.f1 T.f2) (fun k => ?_) (deep_tail hf (by omega) (by omega) false hm (by omega))
    simp only [thyrsuslaw1_CodeDeep.l2, w, if_neg (show ¬ (i : Int) < 117 + (n : Int) by omega)]
  | succ d ihd =>
    intro i T hi hf hd hs
    have := ihd (i + 1) ⟨12, 0, [T]⟩ (by omega) ⟨by omega, by omega, by simp, hf, trivial⟩ (by simp [deep29, deeps29]; omega) (by simp [size29, sizes29]; omega)
    refine Ev.step (f := fun k => thyrsuslaw1_CodeDeep.l2 k (n : Int) false m ((i : Int) + 1) 12 0 [T]) (fun k => ?_) (by simpa using this)
    simp only [thyrsuslaw1_CodeDeep.l2, w, if_pos (show (i : Int) < 117 + (n : Int) by omega), wrap_id (n := (i : Int) + 1) (by omega), S29.eta']
/-- A leaf of the wide term. -/
def leaf7 : S29 := ⟨7, 0, []⟩
theorem fines_rep : ∀ i : Nat, fines (List.replicate i leaf7)
  | 0 => trivial
  | i + 1 => ⟨⟨by omega, by omega, by simp, trivial⟩, fines_rep i⟩
theorem sizes_rep : ∀ i : Nat, sizes29 (List.replicate i leaf7) = i
  | 0 => rfl
  | i + 1 => by
    simp only [List.replicate_succ, sizes29, sizes_rep i]
    simp [leaf7, size29, sizes29]
    omega
theorem deeps_rep : ∀ i : Nat, deeps29 (List.replicate i leaf7) ≤ 1
  | 0 => by simp [deeps29]
  | i + 1 => by
    have := deeps_rep i
    have h1 : deep29 leaf7 = 1 := by simp [leaf7, deep29, deeps29]
    simp only [List.replicate_succ, deeps29]
    omega
theorem deep_l1 {n : Nat} {m q : Int} {p : Nat} (hp : 1 ≤ p ∧ p ≤ 250) {acc : List S29} (ha : acc.length ≤ 100)
    (h : Ev (fun k => thyrsuslaw1_CodeDeep.l0 k (n : Int) true m (wrap64 (q - (p : Int))) 11 0 (acc ++ [⟨5, 0, List.replicate (p - 1) leaf7⟩])) true) :
    ∀ (d i : Nat), i + d + 1 = p → Ev (fun k => thyrsuslaw1_CodeDeep.l1 k (n : Int) true m q (p : Int) ((i : Int) + 1) 11 0 acc 5 0 (List.replicate i leaf7)) true := by
  intro d
  induction d with
  | zero =>
    intro i hi
    obtain rfl : i = p - 1 := by omega
    refine Ev.step (fun k => ?_) h
    simp only [thyrsuslaw1_CodeDeep.l1]
    rw [if_neg (by omega), if_pos (by omega)]
  | succ d ihd =>
    intro i hi
    have := ihd (i + 1) (by omega)
    refine Ev.step (fun k => ?_) this
    simp only [thyrsuslaw1_CodeDeep.l1]
    rw [if_pos (by omega), if_pos (by simp; omega), wrap_id (n := (i : Int) + 1 + 1) (by omega), show List.replicate i leaf7 ++ [(⟨7, 0, []⟩ : S29)] = List.replicate (i + 1) leaf7 by rw [List.replicate_succ']; rfl]
    simp
theorem deep_l0 {n : Nat} (hn : n ≤ 4) {m : Int} (hm : -9223372036854775808 ≤ m ∧ m ≤ 9223372036854775807) : ∀ (f q : Nat) (acc : List S29), q ≤ f → fines acc → deeps29 acc ≤ 2 → sizes29 acc + q = 2997 + n →
    250 * acc.length ≤ sizes29 acc + 250 → (0 < q → 250 * acc.length ≤ sizes29 acc) → Ev (fun k => thyrsuslaw1_CodeDeep.l0 k (n : Int) true m (q : Int) 11 0 acc) true := by
  intro f
  induction f with
  | zero =>
    intro q acc hq hf hd hs h1 h2
    refine Ev.step (f := fun k => thyrsuslaw1_CodeDeep.j3 k (n : Int) true m 11 0 acc) (fun k => ?_) ?_
    · simp only [thyrsuslaw1_CodeDeep.l0]
      rw [if_neg (by omega)]
    · exact deep_tail (T := ⟨11, 0, acc⟩) ⟨by omega, by omega, by omega, hf⟩ (by simp only [size29]; omega) (by simp only [size29]; omega) true hm (by simp only [size29, deep29]; omega)
  | succ f ihf =>
    intro q acc hq hf hd hs h1 h2
    by_cases h0 : q = 0
    · refine Ev.step (f := fun k => thyrsuslaw1_CodeDeep.j3 k (n : Int) true m 11 0 acc) (fun k => ?_) ?_
      · simp only [thyrsuslaw1_CodeDeep.l0]
        rw [if_neg (by omega)]
      · exact deep_tail (T := ⟨11, 0, acc⟩) ⟨by omega, by omega, by omega, hf⟩ (by simp only [size29]; omega) (by simp only [size29]; omega) true hm (by simp only [size29, deep29]; omega)
    · have h2 := h2 (by omega)
      obtain ⟨p, hp⟩ : ∃ p, p = min q 250 := ⟨_, rfl⟩
      have hmn : mn (q : Int) 250 = (p : Int) := by
        unfold mn
        split <;> omega
      have hr := sizes_rep (p - 1)
      have hdr := deeps_rep (p - 1)
      have next := ihf (q - p) (acc ++ [⟨5, 0, List.replicate (p - 1) leaf7⟩]) (by omega) (fines_one _ _ hf (show fine ⟨5, 0, List.replicate (p - 1) leaf7⟩ from ⟨by omega, by omega, by simp; omega, fines_rep _⟩))
        (by rw [deeps_one]; simp only [deep29]; omega) (by rw [sizes_one]; simp only [size29]; omega)
        (by rw [sizes_one, List.length_append]; simp only [size29, List.length_singleton]; omega) (fun hq0 => by rw [sizes_one, List.length_append]; simp only [size29, List.length_singleton]; omega)
      have hq1 : wrap64 ((q : Int) - (p : Int)) = ((q - p : Nat) : Int) := by rw [wrap_id (by omega)]; omega
      have l1 := deep_l1 (n := n) (m := m) (q := (q : Int)) (p := p) (by omega) (acc := acc) (by omega) (by rw [hq1]; exact next) (p - 1) 0 (by omega)
      refine Ev.step (fun k => ?_) l1
      simp only [thyrsuslaw1_CodeDeep.l0, hmn]
      rw [if_pos (by omega)]
      simp
theorem deep_pure : thyrsuslaw1_CodeDeep.Pure := by
  intro a0 a1 a2 h0 h2
  have h0 := i64_of h0
  have h2 := i64_of h2
  refine Ev.rounds ?_
  have hw := within_val h0 (n := 5) (by omega) (by omega)
  have m1 := Int.emod_nonneg a0 (show (5 : Int) ≠ 0 by omega)
  have m2 := Int.emod_lt_of_pos a0 (show (0 : Int) < 5 by omega)
  obtain ⟨n, hn⟩ := Int.eq_ofNat_of_zero_le m1
  rw [hn] at hw m2
  unfold thyrsuslaw1_CodeDeep.f
  rw [known_ok, hw]
  simp only [Option.bind_some, if_true]
  cases a1 with
  | true =>
    simp only [if_true]
    rw [show wrap64 (2997 + (n : Int)) = ((2997 + n : Nat) : Int) by rw [wrap_id (by omega)]; omega]
    exact deep_l0 (by omega) h2 (2997 + n) (2997 + n) [] (by omega) trivial (by simp [deeps29]) (by simp [sizes29]) (by simp) (by simp)
  | false =>
    simpa using deep_l2 (by omega) h2 (117 + n) 0 ⟨11, 0, []⟩ (by omega) ⟨by omega, by omega, by simp, trivial⟩ (by simp [deep29, deeps29]) (by simp [size29, sizes29])
theorem codeDeep_walk (a0 : Int) (h0 : (Lit.int .i64 a0).wf = true) (a1 : Bool) (a2 : Int) (h2 : (Lit.int .i64 a2).wf = true) (w : World) :
    Calls Try.prog 7 #[.int .i64 a0, .bool a1, .int .i64 a2] w fun e w' => e = .returned (.bool true) ∧ Below w.heap.size w w' := thyrsuslaw1_CodeDeep.walk deep_pure a0 a1 a2 w h0 h2
end Go.Proofs.Ytfbjdfgadhlhlaa.P
