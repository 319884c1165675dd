/- Chapter 1's Count, Few, Make: what they come to: a term of sound shape, not too deep, not too great. -/
import Derived.Test.YtcchfblekaaalaaDoorTree
import Derived.Test.YtcchfblekaaalaaDoorOpen
import Derived.Test.YtcchfblekaaalaaDoorQx3
namespace Go.Proofs.YtcchfblekaaalaaDoor.Pure
open Go.RowKit Go.Proofs.YtcchfblekaaalaaDoor.P Go.Proofs.YtcchfblekaaalaaDoorW.PrintWords Go.Proofs.YtcchfblekaaalaaDoorW.PrintLast Go.Proofs.YtcchfblekaaalaaDoorW.PrintMore
set_option linter.unusedVariables false
set_option linter.unusedSimpArgs false
theorem within1_val {a n : Int} (ha : -9223372036854775808 ≤ a ∧ a ≤ 9223372036854775807) (h0 : 0 < n) (hn : n ≤ 4611686018427387904) : thyrsuslaw1_within.f a n = some (a % n) := by
  unfold thyrsuslaw1_within.f
  rw [if_neg (by omega)]
  have h1 := Int.emod_nonneg a (show n ≠ 0 by omega)
  have h2 := Int.emod_lt_of_pos a h0
  by_cases h : 0 ≤ a
  · rw [Int.tmod_eq_emod_of_nonneg h, if_neg (by omega)]
  · have e := Int.tmod_eq_emod (a := a) (b := n)
    by_cases hd : n ∣ a
    · rw [if_pos (.inr hd)] at e
      have h3 := Int.emod_eq_zero_of_dvd hd
      rw [if_neg (by omega)]
      simp only [Option.some.injEq]
      omega
    · rw [if_neg (by omega)] at e
      rw [if_pos (by omega)]
      simp only [Option.some.injEq]
      unfold wrap64
      omega

mutual
def size24 : S24 → Nat
  | ⟨_, _, l⟩ => 1 + sizes24 l
def sizes24 : List S24 → Nat
  | [] => 0
  | x :: l => size24 x + sizes24 l
end
theorem rd24 {l : List S24} {i : Nat} (h : i < l.length) : rd_T24 l (i : Int) = l[i] := by simp [rd_T24, h]
theorem sizes24_drop {l : List S24} {i : Nat} (h : i < l.length) : sizes24 (l.drop i) = size24 l[i] + sizes24 (l.drop (i + 1)) := by
  rw [List.drop_eq_getElem_cons h]; rfl
theorem wrap_id {n : Int} (h : -9223372036854775808 ≤ n ∧ n ≤ 9223372036854775807) : wrap64 n = n := by unfold wrap64; omega

theorem sizes24_len : ∀ l : List S24, l.length ≤ sizes24 l
  | [] => by simp [sizes24]
  | ⟨a, b, k⟩ :: l => by
    have := sizes24_len l
    simp [sizes24, size24]
    omega

theorem count_ev {x : S24} (h : WF24 x) : ∀ m : Int, 1 ≤ m → m ≤ 1000000 → ∃ c : Int, Ev (fun k => thyrsuslaw1_Count.f k x.f0 x.f1 x.f2 m) c ∧ 1 ≤ c ∧ c ≤ m ∧ (c < m → c = size24 x) := by
  induction h with
  | mk a b l ha hb hn hl ih =>
    intro m hm hm2
    have loop : ∀ (d i : Nat) (n : Int), i + d = l.length → 1 ≤ n → n ≤ m → ∃ c : Int, Ev (fun k => thyrsuslaw1_Count.l0 k m n (i : Int) a b l) c ∧ n ≤ c ∧ c ≤ m ∧ (c < m → c = n + sizes24 (l.drop i)) := by
      intro d
      induction d with
      | zero =>
        intro i n hi h1 h2
        refine ⟨n, Ev.step (f := fun _ => some n) (fun k => ?_) (Ev.now n), by omega, h2, fun _ => ?_⟩
        · simp only [thyrsuslaw1_Count.l0]
          rw [if_neg (by omega)]
        · rw [List.drop_of_length_le (by omega)]
          simp [sizes24]
      | succ d ihd =>
        intro i n hi h1 h2
        have hil : i < l.length := by omega
        by_cases hnm : n < m
        · obtain ⟨c1, e1, g1, g2, g3⟩ := ih l[i] (List.getElem_mem hil) (m - n) (by omega) (by omega)
          obtain ⟨c, e2, q1, q2, q3⟩ := ihd (i + 1) (n + c1) (by omega) (by omega) (by omega)
          refine ⟨c, Ev.step (f := fun k => (thyrsuslaw1_Count.f k l[i].f0 l[i].f1 l[i].f2 (m - n)).bind fun t => thyrsuslaw1_Count.l0 k m (wrap64 (n + t)) (wrap64 ((i : Int) + 1)) a b l) (fun k => ?_) (Ev.bind e1 ?_), by omega, q2, fun hc => ?_⟩
          · simp only [thyrsuslaw1_Count.l0]
            rw [if_pos (by omega), if_pos hnm, if_pos (by omega), rd24 hil, wrap_id (n := m - n) (by omega)]
          · rw [wrap_id (n := n + c1) (by omega), wrap_id (n := (i : Int) + 1) (by omega)]
            exact e2
          · rw [q3 hc, sizes24_drop hil]
            have := g3 (by omega)
            omega
        · refine ⟨n, Ev.step (f := fun _ => some n) (fun k => ?_) (Ev.now n), by omega, h2, fun hc => by omega⟩
          simp only [thyrsuslaw1_Count.l0]
          rw [if_pos (by omega), if_neg hnm]
    obtain ⟨c, e, q1, q2, q3⟩ := loop l.length 0 1 (by omega) (by omega) (by omega)
    refine ⟨c, Ev.step (f := fun k => thyrsuslaw1_Count.l0 k m 1 0 a b l) (fun k => by simp only [thyrsuslaw1_Count.f]) e, q1, q2, fun hc => ?_⟩
    rw [q3 hc]
    simp [size24]

/-- Few raw nodes, or not; if few, that many there are. -/
theorem few_ev {x : S24} (h : WF24 x) : ∃ b : Bool, Ev (fun k => thyrsuslaw1_Few.f k x.f0 x.f1 x.f2) b ∧ (b = true → size24 x < 300) := by
  obtain ⟨c, e, _, h2, h3⟩ := count_ev h 300 (by omega) (by omega)
  refine ⟨decide (c < 300), ?_, fun hb => ?_⟩
  · unfold thyrsuslaw1_Few.f
    exact Ev.bind e (Ev.now _)
  · have hc : c < 300 := by simpa using hb
    have := h3 hc
    omega

theorem wf_of {n : Int} (h : -9223372036854775808 ≤ n ∧ n ≤ 9223372036854775807) : (Lit.int .i64 n).wf = true := by
  have h1 : IntKind.i64.min ≤ n ∧ n ≤ 9223372036854775807 := h
  simpa [Lit.wf] using h1
theorem wrap_range (n : Int) : -9223372036854775808 ≤ wrap64 n ∧ wrap64 n ≤ 9223372036854775807 := by
  unfold wrap64
  omega
theorem arity_ev {a : Int} (h : 1 ≤ a ∧ a ≤ 30) : ∃ r : Nat, r ≤ 4 ∧ Ev (fun k => thyrsusref4_Arity.f k a) (r : Int) ∧ ((a = 1 ∨ a = 10 ∨ a = 11 ∨ a = 15 ∨ a = 25) → r = 0) := by
  have go : ∀ r : Nat, r ≤ 4 → (∀ m, thyrsusref4_Arity.f (m + 6) a = some (r : Int)) → ((a = 1 ∨ a = 10 ∨ a = 11 ∨ a = 15 ∨ a = 25) → r = 0) → ∃ r : Nat, r ≤ 4 ∧ Ev (fun k => thyrsusref4_Arity.f k a) (r : Int) ∧ ((a = 1 ∨ a = 10 ∨ a = 11 ∨ a = 15 ∨ a = 25) → r = 0) := fun r h1 h2 h3 =>
    ⟨r, h1, ⟨6, fun n hn => by
      obtain ⟨m, rfl⟩ : ∃ m, n = m + 6 := ⟨n - 6, by omega⟩
      exact h2 m⟩, h3⟩
  have hc : a = 1 ∨ a = 2 ∨ a = 3 ∨ a = 4 ∨ a = 5 ∨ a = 6 ∨ a = 7 ∨ a = 8 ∨ a = 9 ∨ a = 10 ∨ a = 11 ∨ a = 12 ∨ a = 13 ∨ a = 14 ∨ a = 15 ∨ a = 16 ∨ a = 17 ∨ a = 18 ∨ a = 19 ∨ a = 20 ∨ a = 21 ∨ a = 22 ∨ a = 23 ∨ a = 24 ∨ a = 25 ∨ a = 26 ∨ a = 27 ∨ a = 28 ∨ a = 29 ∨ a = 30 := by omega
  rcases hc with rfl | rfl | rfl | rfl | rfl | rfl | rfl | rfl | rfl | rfl | rfl | rfl | rfl | rfl | rfl | rfl | rfl | rfl | rfl | rfl | rfl | rfl | rfl | rfl | rfl | rfl | rfl | rfl | rfl | rfl
  all_goals
    first
    | exact go 0 (by omega) (fun m => by rfl) (by omega)
    | exact go 1 (by omega) (fun m => by rfl) (by omega)
    | exact go 2 (by omega) (fun m => by rfl) (by omega)
    | exact go 3 (by omega) (fun m => by rfl) (by omega)
    | exact go 4 (by omega) (fun m => by rfl) (by omega)
theorem binders_ev (a i : Int) : ∃ b : Nat, b ≤ 2 ∧ Ev (fun k => thyrsusref4_Binders.f k a i) (b : Int) := by
  have h1 : ∃ bb : Bool, ∀ k, thyrsusref4_Binders.f k a i = thyrsusref4_Binders.j0 k i a bb := by
    unfold thyrsusref4_Binders.f
    repeat' split
    all_goals exact ⟨_, fun k => rfl⟩
  obtain ⟨bb, hbb⟩ := h1
  have h2 : ∃ b : Nat, b ≤ 2 ∧ ∀ k, thyrsusref4_Binders.j0 (k + 1) i a bb = some (b : Int) := by
    simp only [thyrsusref4_Binders.j0]
    repeat' split
    all_goals first | exact ⟨0, by omega, fun k => rfl⟩ | exact ⟨1, by omega, fun k => rfl⟩ | exact ⟨2, by omega, fun k => rfl⟩
  obtain ⟨b, hb, hk⟩ := h2
  exact ⟨b, hb, Ev.congr hbb (Ev.step (f := fun _ => some (b : Int)) hk (Ev.now _))⟩
theorem kid_ev {a b : Int} {l : List S24} (hl : ∀ x ∈ l, WF24 x) (i : Nat) (hi : i ≤ 4) : ∃ y : S24, WF24 y ∧ thyrsuslaw1_kid.f a b l (i : Int) = some (y.f0, y.f1, y.f2) := by
  unfold thyrsuslaw1_kid.f
  by_cases h : i < l.length
  · rw [if_pos (by omega), if_pos (by omega), rd24 h]
    exact ⟨l[i], hl _ (List.getElem_mem h), rfl⟩
  · rw [if_neg (by omega)]
    exact ⟨⟨0, wrap64 (b + (i : Int)), []⟩, WF24.mk _ _ _ (wf_of (by omega)) (wf_of (wrap_range _)) (by simp) (by simp), rfl⟩
theorem goods_snoc : ∀ (l : List S29) (x : S29), goods 1000 l → good 1000 x → goods 1000 (l ++ [x])
  | [], x, _, h => ⟨h, trivial⟩
  | y :: l, x, h, hx => ⟨h.1, goods_snoc l x h.2 hx⟩
theorem deeps_snoc : ∀ (l : List S29) (x : S29), deeps29 (l ++ [x]) = max (deeps29 l) (deep29 x)
  | [], x => by simp [deeps29]
  | y :: l, x => by
    simp only [List.cons_append, deeps29, deeps_snoc l x]
    omega
theorem sizes_snoc : ∀ (l : List S29) (x : S29), sizes29 (l ++ [x]) = sizes29 l + size29 x
  | [], x => by simp [sizes29]
  | y :: l, x => by
    simp only [List.cons_append, sizes29, sizes_snoc l x]
    omega
/-- The greatest size of a term so deep. -/
def cap : Nat → Nat
  | 0 => 1
  | n + 1 => 1 + 4 * cap n
/-- What Make comes to, so deep. -/
def MK (n : Nat) : Prop := ∀ x : S24, WF24 x → ∀ deep vars : Int, deep ≤ n → -1000 ≤ deep → 0 ≤ vars → vars ≤ 1000 - 2 * (n : Int) → n ≤ 400 →
  ∃ t : S29, Ev (fun k => thyrsuslaw1_Make.f k x.f0 x.f1 x.f2 deep vars) (t.f0, t.f1, t.f2) ∧ good 1000 t ∧ deep29 t ≤ n + 1 ∧ size29 t ≤ cap n
theorem make_loop {m : Nat} (ih : MK m) {deep vars op N a b : Int} {l : List S24} (hm : m + 1 ≤ 400) (hd : 1 ≤ deep) (hd2 : deep ≤ m + 1) (hv : 0 ≤ vars) (hv2 : vars ≤ 1000 - 2 * ((m : Int) + 1)) (hl : ∀ x ∈ l, WF24 x)
    {r : Nat} (hr : r ≤ 4) (hA : Ev (fun k => thyrsusref4_Arity.f k op) (r : Int)) : ∀ (d i : Nat) (acc : List S29), i + d = r → acc.length = i → goods 1000 acc → deeps29 acc ≤ m + 1 → sizes29 acc ≤ i * cap m →
    ∃ ks, Ev (fun k => thyrsuslaw1_Make.l0 k deep vars op (i : Int) a b l op N acc) (op, N, ks) ∧ goods 1000 ks ∧ deeps29 ks ≤ m + 1 ∧ sizes29 ks ≤ r * cap m ∧ ks.length = r := by
  intro d
  induction d with
  | zero =>
    intro i acc hi hlen hf hdp hsz
    obtain rfl : i = r := by omega
    refine ⟨acc, Ev.step (f := fun k => (thyrsusref4_Arity.f k op).bind fun t209 => some (op, N, acc)) (fun k => ?_) (Ev.bind hA (Ev.now _)), hf, hdp, hsz, hlen⟩
    simp only [thyrsuslaw1_Make.l0]
    cases h : thyrsusref4_Arity.f k op with
    | none => rfl
    | some t =>
      simp only [Option.bind_some]
      have : t = (i : Int) := by
        obtain ⟨K, hK⟩ := hA
        have h1 := hK (max K k) (by omega)
        have h2 := at_rounds (fun k => thyrsusref4_Arity.mono op k) (show k ≤ max K k by omega) h
        simp only at h1
        rw [h1] at h2
        exact (Option.some.inj h2).symm
      rw [if_neg (by omega)]
  | succ d ihd =>
    intro i acc hi hlen hf hdp hsz
    obtain ⟨y, hy, hk⟩ := kid_ev (a := a) (b := b) hl i (by omega)
    obtain ⟨bn, hbn, hB⟩ := binders_ev op (i : Int)
    obtain ⟨t, hT, hf2, hdp2, hsz2⟩ := ih y hy (deep - 1) (vars + bn) (by omega) (by omega) (by omega) (by omega) (by omega)
    have hn : ((acc ++ [t]).length : Int) = (i : Int) + 1 := by simp [hlen]
    have hmul : (i + 1) * cap m = i * cap m + cap m := Nat.succ_mul i (cap m)
    obtain ⟨ks, hE, h1, h2, h3, h4⟩ := ihd (i + 1) (acc ++ [t]) (by omega) (by simp [hlen]) (goods_snoc _ _ hf hf2) (by rw [deeps_snoc]; omega) (by rw [sizes_snoc, hmul]; omega)
    refine ⟨ks, ?_, h1, h2, h3, h4⟩
    refine Ev.step (f := fun k => (thyrsusref4_Arity.f k op).bind fun t209 => if (i : Int) < t209 then ((thyrsuslaw1_kid.f a b l (i : Int)).bind fun bt210 => ((thyrsusref4_Binders.f k op (i : Int)).bind fun t215 => ((thyrsuslaw1_Make.f k bt210.1 bt210.2.1 bt210.2.2 (wrap64 (deep - 1)) (wrap64 (vars + t215))).bind fun bt216 => (if acc.length < 3518437208883 then (thyrsuslaw1_Make.l0 k deep vars op (wrap64 ((i : Int) + 1)) a b l op N (acc ++ [(⟨bt216.1, bt216.2.1, bt216.2.2⟩ : S29)])) else (none))))) else (some (op, N, acc))) (fun k => by simp only [thyrsuslaw1_Make.l0]) ?_
    refine Ev.bind hA ?_
    rw [hk]
    simp only [if_pos (show (i : Int) < (r : Int) by omega), Option.bind_some]
    refine Ev.bind hB ?_
    rw [wrap_id (n := deep - 1) (by omega), wrap_id (n := vars + (bn : Int)) (by omega)]
    refine Ev.bind hT ?_
    simp only [if_pos (show acc.length < 3518437208883 by omega), wrap_id (n := (i : Int) + 1) (by omega), eta29]
    simpa using hE
theorem make_j1 {deep vars op a b : Int} {l : List S24} (hb : -9223372036854775808 ≤ b ∧ b ≤ 9223372036854775807) (hv : 0 ≤ vars) (hv2 : vars ≤ 1000) : ∃ N : Int, ((-9223372036854775808 ≤ N ∧ N ≤ 9223372036854775807) ∧ (op = 1 → 0 ≤ N ∧ N ≤ 1000)) ∧ ∀ R, Ev (fun k => thyrsuslaw1_Make.l0 k deep vars op 0 a b l op N []) R → Ev (fun k => thyrsuslaw1_Make.j1 k deep vars op a b l) R := by
  have st : ∀ (N : Int) R, Ev (fun k => thyrsuslaw1_Make.l0 k deep vars op 0 a b l op N []) R → Ev (fun k => thyrsuslaw1_Make.j2 k deep vars op a b l op N) R := fun N R h => Ev.step (f := fun k => thyrsuslaw1_Make.l0 k deep vars op 0 a b l op N []) (fun k => by simp only [thyrsuslaw1_Make.j2]) h
  have w1 := within1_val hb (n := vars + 1) (by omega) (by omega)
  have w2 := within1_val hb (n := 3) (by omega) (by omega)
  have w3 := within1_val hb (n := 5) (by omega) (by omega)
  have q : wrap64 (vars + 1) = vars + 1 := wrap_id (by omega)
  have m1 := Int.emod_nonneg b (show vars + 1 ≠ 0 by omega)
  have m2 := Int.emod_lt_of_pos b (show 0 < vars + 1 by omega)
  by_cases c1 : op = 1
  · refine ⟨b % (vars + 1), ⟨by omega, fun _ => by omega⟩, fun R h => Ev.step (f := fun k => thyrsuslaw1_Make.j2 k deep vars op a b l op (b % (vars + 1))) (fun k => ?_) (st _ R h)⟩
    simp only [thyrsuslaw1_Make.j1, if_pos c1, q, w1, Option.bind_some]
  · by_cases c2 : op = 2
    · refine ⟨b % 3, ⟨by omega, fun h => absurd h c1⟩, fun R h => Ev.step (f := fun k => thyrsuslaw1_Make.j2 k deep vars op a b l op (b % 3)) (fun k => ?_) (st _ R h)⟩
      simp only [thyrsuslaw1_Make.j1, if_neg c1, if_pos c2, w2, Option.bind_some]
    · by_cases c3 : op = 26
      · refine ⟨b % 5, ⟨by omega, fun h => absurd h c1⟩, fun R h => Ev.step (f := fun k => thyrsuslaw1_Make.j2 k deep vars op a b l op (b % 5)) (fun k => ?_) (st _ R h)⟩
        simp only [thyrsuslaw1_Make.j1, if_neg c1, if_neg c2, if_pos c3, w3, Option.bind_some]
      · by_cases c4 : op = 25
        · refine ⟨b, ⟨hb, fun h => absurd h c1⟩, fun R h => Ev.step (f := fun k => thyrsuslaw1_Make.j2 k deep vars op a b l op b) (fun k => ?_) (st _ R h)⟩
          simp only [thyrsuslaw1_Make.j1, if_neg c1, if_neg c2, if_neg c3, if_pos c4]
        · refine ⟨0, ⟨by omega, fun h => absurd h c1⟩, fun R h => Ev.step (f := fun k => thyrsuslaw1_Make.j2 k deep vars op a b l op 0) (fun k => ?_) (st _ R h)⟩
          simp only [thyrsuslaw1_Make.j1, if_neg c1, if_neg c2, if_neg c3, if_neg c4]
theorem make_body {n : Nat} (ih : ∀ m, n = m + 1 → MK m) {deep vars op a b : Int} {l : List S24} (hn : n ≤ 400) (hop : 1 ≤ op ∧ op ≤ 30) (hb : -9223372036854775808 ≤ b ∧ b ≤ 9223372036854775807) (hd : deep ≤ n) (hv : 0 ≤ vars) (hv2 : vars ≤ 1000 - 2 * (n : Int)) (hl : ∀ x ∈ l, WF24 x)
    {r : Nat} (hr : r ≤ 4) (hA : Ev (fun k => thyrsusref4_Arity.f k op) (r : Int)) (h0 : deep ≤ 0 → r = 0) (hv1 : op = 1 → r = 0) : ∃ t : S29, Ev (fun k => thyrsuslaw1_Make.j1 k deep vars op a b l) (t.f0, t.f1, t.f2) ∧ good 1000 t ∧ deep29 t ≤ n + 1 ∧ size29 t ≤ cap n := by
  obtain ⟨N, ⟨hN, hN1⟩, hj⟩ := make_j1 (deep := deep) (op := op) (a := a) (l := l) hb hv (by omega)
  by_cases hr0 : r = 0
  · subst hr0
    refine ⟨⟨op, N, []⟩, hj _ ?_, ⟨hN, fun h => ⟨rfl, hN1 h⟩, by simp, trivial⟩, by simp [deep29, deeps29], by cases n <;> simp [size29, sizes29, cap] <;> omega⟩
    refine Ev.step (f := fun k => (thyrsusref4_Arity.f k op).bind fun t209 => (if (0 : Int) < t209 then ((thyrsuslaw1_kid.f a b l 0).bind fun bt210 => ((thyrsusref4_Binders.f k op 0).bind fun t215 => ((thyrsuslaw1_Make.f k bt210.1 bt210.2.1 bt210.2.2 (wrap64 (deep - 1)) (wrap64 (vars + t215))).bind fun bt216 => (if ([] : List S29).length < 3518437208883 then (thyrsuslaw1_Make.l0 k deep vars op (wrap64 (0 + 1)) a b l op N ([] ++ [(⟨bt216.1, bt216.2.1, bt216.2.2⟩ : S29)])) else (none))))) else (some (op, N, [])))) (fun k => by simp only [thyrsuslaw1_Make.l0]) ?_
    refine Ev.bind hA ?_
    simp only [Int.natCast_zero, Int.lt_irrefl, if_false]
    exact Ev.now _
  · have hd1 : 1 ≤ deep := by
      by_cases hq : deep ≤ 0
      · exact absurd (h0 hq) hr0
      · omega
    obtain ⟨m, rfl⟩ : ∃ m, n = m + 1 := ⟨n - 1, by omega⟩
    obtain ⟨ks, hE, h1, h2, h3, h4⟩ := make_loop (N := N) (a := a) (b := b) (ih m rfl) hn hd1 (by omega) hv (by omega) hl hr hA r 0 [] (by omega) rfl trivial (by simp [deeps29]) (by simp [sizes29])
    refine ⟨⟨op, N, ks⟩, hj _ (by simpa using hE), ⟨hN, fun h => absurd (hv1 h) hr0, by omega, h1⟩, by simp only [deep29]; omega, ?_⟩
    have : r * cap m ≤ 4 * cap m := Nat.mul_le_mul_right _ hr
    simp only [size29, cap]
    omega
theorem make_step {n : Nat} (ih : ∀ m, n = m + 1 → MK m) (x : S24) (hx : WF24 x) (deep vars : Int) (hd : deep ≤ n) (hd2 : -1000 ≤ deep) (hv : 0 ≤ vars) (hv2 : vars ≤ 1000 - 2 * (n : Int)) (hn : n ≤ 400) :
    ∃ t : S29, Ev (fun k => thyrsuslaw1_Make.f k x.f0 x.f1 x.f2 deep vars) (t.f0, t.f1, t.f2) ∧ good 1000 t ∧ deep29 t ≤ n + 1 ∧ size29 t ≤ cap n := by
  cases hx with
  | mk a b l ha hb hlen hl =>
    have ha := i64_of ha
    have hb := i64_of hb
    have m1 := Int.emod_nonneg a (show (30 : Int) ≠ 0 by omega)
    have m2 := Int.emod_lt_of_pos a (show (0 : Int) < 30 by omega)
    have w1 := within1_val ha (n := 30) (by omega) (by omega)
    have w5 := within1_val ha (n := 5) (by omega) (by omega)
    have q : wrap64 (1 + a % 30) = 1 + a % 30 := wrap_id (by omega)
    obtain ⟨r, hr, hA, hz⟩ := arity_ev (a := 1 + a % 30) (by omega)
    have same : (deep ≤ 0 → r = 0) → ∃ t : S29, Ev (fun k => thyrsuslaw1_Make.j0 k deep vars (1 + a % 30) false a b l) (t.f0, t.f1, t.f2) ∧ good 1000 t ∧ deep29 t ≤ n + 1 ∧ size29 t ≤ cap n := fun h0 => by
      obtain ⟨t, hE, h⟩ := make_body ih (a := a) hn (by omega) hb hd hv hv2 hl hr hA h0 (fun h => hz (.inl h))
      exact ⟨t, Ev.step (f := fun k => thyrsuslaw1_Make.j1 k deep vars (1 + a % 30) a b l) (fun k => by simp [thyrsuslaw1_Make.j0]) hE, h⟩
    by_cases hdp : deep ≤ 0
    · by_cases hr0 : r = 0
      · obtain ⟨t, hE, h⟩ := same (fun _ => hr0)
        refine ⟨t, Ev.step (f := fun k => (thyrsusref4_Arity.f k (1 + a % 30)).bind fun t199 => thyrsuslaw1_Make.j0 k deep vars (1 + a % 30) (decide (t199 > 0)) a b l) (fun k => by simp only [thyrsuslaw1_Make.f, w1, q, Option.bind_some, if_pos hdp]) (Ev.bind hA ?_), h⟩
        rw [hr0]
        simpa using hE
      · have m3 := Int.emod_nonneg a (show (5 : Int) ≠ 0 by omega)
        have m4 := Int.emod_lt_of_pos a (show (0 : Int) < 5 by omega)
        have hop : ∃ op : Int, rd ([1, 11, 25, 15, 10] : List Int) (a % 5) = op ∧ (op = 1 ∨ op = 10 ∨ op = 11 ∨ op = 15 ∨ op = 25) := by
          have : a % 5 = 0 ∨ a % 5 = 1 ∨ a % 5 = 2 ∨ a % 5 = 3 ∨ a % 5 = 4 := by omega
          rcases this with h | h | h | h | h <;> rw [h] <;> exact ⟨_, rfl, by simp [rd]⟩
        obtain ⟨op, ho, hop⟩ := hop
        obtain ⟨r2, hr2, hA2, hz2⟩ := arity_ev (a := op) (by omega)
        obtain ⟨t, hE, h⟩ := make_body ih (a := a) hn (show 1 ≤ op ∧ op ≤ 30 by omega) hb hd hv hv2 hl hr2 hA2 (fun _ => hz2 hop) (fun _ => hz2 hop)
        refine ⟨t, Ev.step (f := fun k => (thyrsusref4_Arity.f k (1 + a % 30)).bind fun t199 => thyrsuslaw1_Make.j0 k deep vars (1 + a % 30) (decide (t199 > 0)) a b l) (fun k => by simp only [thyrsuslaw1_Make.f, w1, q, Option.bind_some, if_pos hdp]) (Ev.bind hA ?_), h⟩
        have hr1 : decide ((r : Int) > 0) = true := decide_eq_true (by omega)
        rw [hr1]
        refine Ev.step (f := fun k => thyrsuslaw1_Make.j1 k deep vars op a b l) (fun k => ?_) hE
        simp only [thyrsuslaw1_Make.j0, if_true, Option.bind_some, w5, if_pos m3, ho]
        rw [if_pos (by simp; omega)]
    · obtain ⟨t, hE, h⟩ := same (fun h => absurd h hdp)
      exact ⟨t, Ev.step (f := fun k => thyrsuslaw1_Make.j0 k deep vars (1 + a % 30) false a b l) (fun k => by simp only [thyrsuslaw1_Make.f, w1, q, Option.bind_some, if_neg hdp]) hE, h⟩
theorem make_all : ∀ n : Nat, MK n := by
  intro n
  induction n with
  | zero => exact fun x hx deep vars hd hd2 hv hv2 hn => make_step (fun m h => by omega) x hx deep vars hd hd2 hv hv2 hn
  | succ n ih => exact fun x hx deep vars hd hd2 hv hv2 hn => make_step (fun m h => Nat.succ.inj h ▸ ih) x hx deep vars hd hd2 hv hv2 hn
end Go.Proofs.YtcchfblekaaalaaDoor.Pure
