/- What the laws' own helpers come to, in plain Lean: numbers within bounds, counted nodes, plain terms, sizes. -/
import Derived.Test.YtfbjdfgadhlhlaaOpen
import Derived.Test.YtfbjdfgadhlhlaaHandE
import Derived.Test.YtfbjdfgadhlhlaaPx1 -- thyrsuslaw1_Few
import Derived.Test.YtfbjdfgadhlhlaaPx2 -- thyrsuslaw1_Plain
import Derived.Test.YtfbjdfgadhlhlaaPx2 -- thyrsusref4_Size
namespace Go.Proofs.Ytfbjdfgadhlhlaa.P
open Go.RowKit Go.Proofs.YtfbjdfgadhlhlaaW.PrintWords Go.Proofs.YtfbjdfgadhlhlaaW.PrintLast Go.Proofs.YtfbjdfgadhlhlaaW.PrintMore
set_option linter.unusedVariables false
set_option linter.unusedSimpArgs false

theorem i64_of {n : Int} (h : (Lit.int .i64 n).wf = true) : -9223372036854775808 ≤ n ∧ n ≤ 9223372036854775807 := by
  have h1 : IntKind.i64.min ≤ n ∧ n ≤ 9223372036854775807 := by simpa [Lit.wf] using h
  exact h1

theorem within_val {a n : Int} (ha : -9223372036854775808 ≤ a ∧ a ≤ 9223372036854775807) (h0 : 0 < n) (hn : n ≤ 4611686018427387904) : thyrsuslaw1_within.f a n = some (a % n) := by
  unfold thyrsuslaw1_within.f
  rw [if_neg (by omega)]
  have h1 := Int.emod_nonneg a (show n ≠ 0 by omega)
  have h2 := Int.emod_lt_of_pos a h0
  by_cases h : 0 ≤ a
  · rw [Int.tmod_eq_emod_of_nonneg h, if_neg (by omega)]
  · have e := Int.tmod_eq_emod (a := a) (b := n)
    by_cases hd : n ∣ a
    · rw [if_pos (.inr hd)] at e
      have h3 := Int.emod_eq_zero_of_dvd hd
      rw [if_neg (by omega)]
      simp only [Option.some.injEq]
      omega
    · rw [if_neg (by omega)] at e
      rw [if_pos (by omega)]
      simp only [Option.some.injEq]
      unfold wrap64
      omega

mutual
def size24 : S24 → Nat
  | ⟨_, _, l⟩ => 1 + sizes24 l
def sizes24 : List S24 → Nat
  | [] => 0
  | x :: l => size24 x + sizes24 l
end
mutual
def size29 : S29 → Nat
  | ⟨_, _, l⟩ => 1 + sizes29 l
def sizes29 : List S29 → Nat
  | [] => 0
  | x :: l => size29 x + sizes29 l
end
mutual
/-- A raw term as it stands. -/
def plain : S24 → S29
  | ⟨a, b, l⟩ => ⟨a % 256, b, plains 255 l⟩
def plains : Nat → List S24 → List S29
  | 0, _ => []
  | _ + 1, [] => []
  | n + 1, x :: l => plain x :: plains n l
end

theorem S29.eta' (x : S29) : (⟨x.f0, x.f1, x.f2⟩ : S29) = x := by cases x; rfl
theorem rd24 {l : List S24} {i : Nat} (h : i < l.length) : rd_T24 l (i : Int) = l[i] := by simp [rd_T24, h]
theorem rd29 {l : List S29} {i : Nat} (h : i < l.length) : rd_T29 l (i : Int) = l[i] := by simp [rd_T29, h]
theorem sizes24_drop {l : List S24} {i : Nat} (h : i < l.length) : sizes24 (l.drop i) = size24 l[i] + sizes24 (l.drop (i + 1)) := by
  rw [List.drop_eq_getElem_cons h]; rfl
theorem sizes29_drop {l : List S29} {i : Nat} (h : i < l.length) : sizes29 (l.drop i) = size29 l[i] + sizes29 (l.drop (i + 1)) := by
  rw [List.drop_eq_getElem_cons h]; rfl
theorem wrap_id {n : Int} (h : -9223372036854775808 ≤ n ∧ n ≤ 9223372036854775807) : wrap64 n = n := by unfold wrap64; omega

theorem sizes29_len : ∀ l : List S29, l.length ≤ sizes29 l
  | [] => by simp [sizes29]
  | ⟨a, b, k⟩ :: l => by
    have := sizes29_len l
    simp [sizes29, size29]
    omega
theorem sizes24_len : ∀ l : List S24, l.length ≤ sizes24 l
  | [] => by simp [sizes24]
  | ⟨a, b, k⟩ :: l => by
    have := sizes24_len l
    simp [sizes24, size24]
    omega

theorem count_ev {x : S24} (h : WF24 x) : ∀ m : Int, 1 ≤ m → m ≤ 1000000 → ∃ c : Int, Ev (fun k => thyrsuslaw1_Count.f k x.f0 x.f1 x.f2 m) c ∧ 1 ≤ c ∧ c ≤ m ∧ (c < m → c = size24 x) := by
  induction h with
  | mk a b l ha hb hn hl ih =>
    intro m hm hm2
    have loop : ∀ (d i : Nat) (n : Int), i + d = l.length → 1 ≤ n → n ≤ m → ∃ c : Int, Ev (fun k => thyrsuslaw1_Count.l0 k m n (i : Int) a b l) c ∧ n ≤ c ∧ c ≤ m ∧ (c < m → c = n + sizes24 (l.drop i)) := by
      intro d
      induction d with
      | zero =>
        intro i n hi h1 h2
        refine ⟨n, Ev.step (f := fun _ => some n) (fun k => ?_) (Ev.now n), by omega, h2, fun _ => ?_⟩
        · simp only [thyrsuslaw1_Count.l0]
          rw [if_neg (by omega)]
        · rw [List.drop_of_length_le (by omega)]
          simp [sizes24]
      | succ d ihd =>
        intro i n hi h1 h2
        have hil : i < l.length := by omega
        by_cases hnm : n < m
        · obtain ⟨c1, e1, g1, g2, g3⟩ := ih l[i] (List.getElem_mem hil) (m - n) (by omega) (by omega)
          obtain ⟨c, e2, q1, q2, q3⟩ := ihd (i + 1) (n + c1) (by omega) (by omega) (by omega)
          refine ⟨c, Ev.step (f := fun k => (thyrsuslaw1_Count.f k l[i].f0 l[i].f1 l[i].f2 (m - n)).bind fun t => thyrsuslaw1_Count.l0 k m (wrap64 (n + t)) (wrap64 ((i : Int) + 1)) a b l) (fun k => ?_) (Ev.bind e1 ?_), by omega, q2, fun hc => ?_⟩
          · simp only [thyrsuslaw1_Count.l0]
            rw [if_pos (by omega), if_pos hnm, if_pos (by omega), rd24 hil, wrap_id (n := m - n) (by omega)]
          · rw [wrap_id (n := n + c1) (by omega), wrap_id (n := (i : Int) + 1) (by omega)]
            exact e2
          · rw [q3 hc, sizes24_drop hil]
            have := g3 (by omega)
            omega
        · refine ⟨n, Ev.step (f := fun _ => some n) (fun k => ?_) (Ev.now n), by omega, h2, fun hc => by omega⟩
          simp only [thyrsuslaw1_Count.l0]
          rw [if_pos (by omega), if_neg hnm]
    obtain ⟨c, e, q1, q2, q3⟩ := loop l.length 0 1 (by omega) (by omega) (by omega)
    refine ⟨c, Ev.step (f := fun k => thyrsuslaw1_Count.l0 k m 1 0 a b l) (fun k => by simp only [thyrsuslaw1_Count.f]) e, q1, q2, fun hc => ?_⟩
    rw [q3 hc]
    simp [size24]

/-- Few raw nodes, or not; if few, that many there are. -/
theorem few_ev {x : S24} (h : WF24 x) : ∃ b : Bool, Ev (fun k => thyrsuslaw1_Few.f k x.f0 x.f1 x.f2) b ∧ (b = true → size24 x < 300) := by
  obtain ⟨c, e, _, h2, h3⟩ := count_ev h 300 (by omega) (by omega)
  refine ⟨decide (c < 300), ?_, fun hb => ?_⟩
  · unfold thyrsuslaw1_Few.f
    exact Ev.bind e (Ev.now _)
  · have hc : c < 300 := by simpa using hb
    have := h3 hc
    omega

theorem plains_drop {l : List S24} {i : Nat} (h : i < l.length) (n : Nat) : plains (n + 1) (l.drop i) = plain l[i] :: plains n (l.drop (i + 1)) := by
  rw [List.drop_eq_getElem_cons h]; rfl

theorem plain_ev {x : S24} (h : WF24 x) : Ev (fun k => thyrsuslaw1_Plain.f k x.f0 x.f1 x.f2) ((plain x).f0, (plain x).f1, (plain x).f2) := by
  induction h with
  | mk a b l ha hb hn hl ih =>
    have loop : ∀ (d i : Nat) (acc : List S29), i + d = 255 → acc.length = i → Ev (fun k => thyrsuslaw1_Plain.l0 k (i : Int) a b l (a % 256) b acc) (a % 256, b, acc ++ plains d (l.drop i)) := by
      intro d
      induction d with
      | zero =>
        intro i acc hi hacc
        refine Ev.step (f := fun _ => some (a % 256, b, acc)) (fun k => ?_) (by simpa [plains] using Ev.now (a % 256, b, acc))
        simp only [thyrsuslaw1_Plain.l0]
        by_cases h1 : (i : Int) < (l.length : Int)
        · rw [if_pos h1, if_neg (by omega)]
        · rw [if_neg h1]
      | succ d ihd =>
        intro i acc hi hacc
        by_cases hil : i < l.length
        · refine Ev.step (f := fun k => (thyrsuslaw1_Plain.f k l[i].f0 l[i].f1 l[i].f2).bind fun t => thyrsuslaw1_Plain.l0 k (wrap64 ((i : Int) + 1)) a b l (a % 256) b (acc ++ [(⟨t.1, t.2.1, t.2.2⟩ : S29)])) (fun k => ?_) (Ev.bind (ih l[i] (List.getElem_mem hil)) ?_)
          · simp only [thyrsuslaw1_Plain.l0]
            rw [if_pos (by omega), if_pos (by omega), if_pos (by omega), rd24 hil]
            congr 1
            funext t
            rw [if_pos (by omega)]
          · rw [wrap_id (n := (i : Int) + 1) (by omega), plains_drop hil, S29.eta']
            have := ihd (i + 1) (acc ++ [plain l[i]]) (by omega) (by simp [hacc])
            simpa using this
        · refine Ev.step (f := fun _ => some (a % 256, b, acc)) (fun k => ?_) (by rw [List.drop_of_length_le (by omega)]; simpa [plains] using Ev.now (a % 256, b, acc))
          simp only [thyrsuslaw1_Plain.l0]
          rw [if_neg (by omega)]
    refine Ev.step (f := fun k => (thyrsuslaw1_within.f a 256).bind fun t => thyrsuslaw1_Plain.l0 k 0 a b l t b []) (fun k => by simp only [thyrsuslaw1_Plain.f]) ?_
    rw [within_val (i64_of ha) (by omega) (by omega)]
    simp only [Option.bind_some]
    have := loop 255 0 [] rfl rfl
    simpa [plain] using this

theorem size_ev : ∀ (t : S29), size29 t ≤ 1000000 → Ev (fun k => thyrsusref4_Size.f k t.f0 t.f1 t.f2) (size29 t : Int) := by
  intro t
  induction tr_all t with
  | mk a b l hl ih =>
    intro hs
    simp only [size29] at hs
    have loop : ∀ (d i : Nat) (n : Int), i + d = l.length → 0 ≤ n → n + sizes29 (l.drop i) ≤ 1000000 → Ev (fun k => thyrsusref4_Size.l0 k n (i : Int) a b l) (n + sizes29 (l.drop i)) := by
      intro d
      induction d with
      | zero =>
        intro i n hi h1 h2
        refine Ev.step (f := fun _ => some n) (fun k => ?_) (by rw [List.drop_of_length_le (by omega)]; simpa [sizes29] using Ev.now n)
        simp only [thyrsusref4_Size.l0]
        rw [if_neg (by omega)]
      | succ d ihd =>
        intro i n hi h1 h2
        have hil : i < l.length := by omega
        rw [sizes29_drop hil] at h2 ⊢
        have hm := List.getElem_mem hil
        have hlen := sizes29_len l
        refine Ev.step (f := fun k => (thyrsusref4_Size.f k l[i].f0 l[i].f1 l[i].f2).bind fun t => thyrsusref4_Size.l0 k (wrap64 (n + t)) (wrap64 ((i : Int) + 1)) a b l) (fun k => ?_) (Ev.bind (ih l[i] hm (by omega)) ?_)
        · simp only [thyrsusref4_Size.l0]
          rw [if_pos (by omega), if_pos (by omega), rd29 hil]
        · rw [wrap_id (n := n + (size29 l[i] : Int)) (by omega), wrap_id (n := (i : Int) + 1) (by omega)]
          have := ihd (i + 1) (n + (size29 l[i] : Int)) (by omega) (by omega) (by omega)
          simpa [Int.add_assoc] using this
    refine Ev.step (f := fun k => thyrsusref4_Size.l0 k 1 0 a b l) (fun k => by simp only [thyrsusref4_Size.f]) ?_
    have := loop l.length 0 1 (by omega) (by omega) (by simp; omega)
    simpa [size29] using this
end Go.Proofs.Ytfbjdfgadhlhlaa.P
