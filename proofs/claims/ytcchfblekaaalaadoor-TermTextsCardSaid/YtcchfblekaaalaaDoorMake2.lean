/- Make, plainly, told whole: a term of sound shape, its variables no greater than a number. -/
import Derived.Test.YtcchfblekaaalaaDoorPureD
import Derived.Test.YtcchfblekaaalaaDoorBase
namespace Go.Proofs.YtcchfblekaaalaaDoor.Pure
open Go.RowKit Go.Proofs.YtcchfblekaaalaaDoor.P Go.Proofs.YtcchfblekaaalaaDoor.Run Go.Proofs.YtcchfblekaaalaaDoorW.PrintWords Go.Proofs.YtcchfblekaaalaaDoorW.PrintLast Go.Proofs.YtcchfblekaaalaaDoorW.PrintMore
set_option linter.unusedVariables false
/-- The numbers that a made term's node may have. -/
def numM (v a b : Int) : Prop := if a = 1 then 0 ≤ b ∧ b ≤ v else if a = 2 then 0 ≤ b ∧ b ≤ 2 else if a = 26 then 0 ≤ b ∧ b ≤ 4 else if a = 25 then -9223372036854775808 ≤ b ∧ b ≤ 9223372036854775807 else b = 0
mutual
/-- Sound shape, the variables no greater than a number. -/
def mk (v : Int) : S29 → Prop
  | ⟨a, b, l⟩ => (1 ≤ a ∧ a ≤ 30) ∧ kidsOf a = (l.length : Int) ∧ numM v a b ∧ mks v a 0 l
def mks (v a : Int) : Nat → List S29 → Prop
  | _, [] => True
  | i, x :: l => mk (v + bnd a i) x ∧ mks v a (i + 1) l
end
theorem kids_le {a : Int} (h : 1 ≤ a ∧ a ≤ 30) : 0 ≤ kidsOf a ∧ kidsOf a ≤ 4 := by
  have hc : a = 1 ∨ a = 2 ∨ a = 3 ∨ a = 4 ∨ a = 5 ∨ a = 6 ∨ a = 7 ∨ a = 8 ∨ a = 9 ∨ a = 10 ∨ a = 11 ∨ a = 12 ∨ a = 13 ∨ a = 14 ∨ a = 15 ∨ a = 16 ∨ a = 17 ∨ a = 18 ∨ a = 19 ∨ a = 20 ∨ a = 21 ∨ a = 22 ∨ a = 23 ∨ a = 24 ∨ a = 25 ∨ a = 26 ∨ a = 27 ∨ a = 28 ∨ a = 29 ∨ a = 30 := by omega
  rcases hc with rfl | rfl | rfl | rfl | rfl | rfl | rfl | rfl | rfl | rfl | rfl | rfl | rfl | rfl | rfl | rfl | rfl | rfl | rfl | rfl | rfl | rfl | rfl | rfl | rfl | rfl | rfl | rfl | rfl | rfl
  all_goals decide
theorem arity_k {a : Int} (h : 1 ≤ a ∧ a ≤ 30) (m : Nat) : thyrsusref4_Arity.f (m + 6) a = some (kidsOf a) := by
  have hc : a = 1 ∨ a = 2 ∨ a = 3 ∨ a = 4 ∨ a = 5 ∨ a = 6 ∨ a = 7 ∨ a = 8 ∨ a = 9 ∨ a = 10 ∨ a = 11 ∨ a = 12 ∨ a = 13 ∨ a = 14 ∨ a = 15 ∨ a = 16 ∨ a = 17 ∨ a = 18 ∨ a = 19 ∨ a = 20 ∨ a = 21 ∨ a = 22 ∨ a = 23 ∨ a = 24 ∨ a = 25 ∨ a = 26 ∨ a = 27 ∨ a = 28 ∨ a = 29 ∨ a = 30 := by omega
  rcases hc with rfl | rfl | rfl | rfl | rfl | rfl | rfl | rfl | rfl | rfl | rfl | rfl | rfl | rfl | rfl | rfl | rfl | rfl | rfl | rfl | rfl | rfl | rfl | rfl | rfl | rfl | rfl | rfl | rfl | rfl
  all_goals rfl
theorem arity2 {a : Int} (h : 1 ≤ a ∧ a ≤ 30) : ∃ r : Nat, r ≤ 4 ∧ Ev (fun k => thyrsusref4_Arity.f k a) (r : Int) ∧ kidsOf a = (r : Int) := by
  have hk := kids_le h
  refine ⟨(kidsOf a).toNat, by omega, ⟨6, fun n hn => ?_⟩, by omega⟩
  obtain ⟨m, rfl⟩ : ∃ m, n = m + 6 := ⟨n - 6, by omega⟩
  show thyrsusref4_Arity.f (m + 6) a = _
  rw [arity_k h m]
  congr 1
  omega
theorem mks_snoc {v a : Int} : ∀ (l : List S29) (x : S29) (i : Nat), mks v a i l → mk (v + bnd a ((i + l.length : Nat) : Int)) x → mks v a i (l ++ [x])
  | [], x, i, _, h => ⟨by simpa using h, trivial⟩
  | y :: l, x, i, h, hx => ⟨h.1, mks_snoc l x (i + 1) h.2 (by rw [List.length_cons] at hx; rw [show i + 1 + l.length = i + (l.length + 1) by omega]; exact hx)⟩
mutual
theorem mk_good {B : Int} (hB : B ≤ 9223372036854775807) : ∀ (t : S29) {v : Int}, mk v t → v + 2 * deep29 t ≤ B → good B t
  | ⟨a, b, l⟩, v, ⟨h1, h2, h3, h4⟩, hd => by
    rw [deep29] at hd
    have hk := kids_le h1
    unfold numM at h3
    refine ⟨?_, fun h => ?_, by omega, mks_good hB l h4 (by omega)⟩
    · repeat' split at h3
      all_goals omega
    · subst h
      rw [if_pos rfl] at h3
      have hl : l = [] := List.eq_nil_of_length_eq_zero (by have h5 : kidsOf 1 = 0 := by decide
                                                            omega)
      exact ⟨hl, by omega⟩
theorem mks_good {B : Int} (hB : B ≤ 9223372036854775807) : ∀ (l : List S29) {v a : Int} {i : Nat}, mks v a i l → v + 2 + 2 * deeps29 l ≤ B → goods B l
  | [], v, a, i, _, _ => trivial
  | x :: l, v, a, i, ⟨h1, h2⟩, hd => by
    rw [deeps29] at hd
    have hb := bnd_range a (i : Int)
    exact ⟨mk_good hB x h1 (by omega), mks_good hB l h2 (by omega)⟩
end
/-- What Make comes to, so deep. -/
def MK2 (n : Nat) : Prop := ∀ x : S24, WF24 x → ∀ deep vars : Int, deep ≤ n → -1000 ≤ deep → 0 ≤ vars → vars ≤ 1000 - 2 * (n : Int) → n ≤ 400 →
  ∃ t : S29, Ev (fun k => thyrsuslaw1_Make.f k x.f0 x.f1 x.f2 deep vars) (t.f0, t.f1, t.f2) ∧ mk vars t ∧ deep29 t ≤ n + 1 ∧ size29 t ≤ cap n
theorem make2_loop {m : Nat} (ih : MK2 m) {deep vars op N a b : Int} {l : List S24} (hm : m + 1 ≤ 400) (hd : 1 ≤ deep) (hd2 : deep ≤ m + 1) (hv : 0 ≤ vars) (hv2 : vars ≤ 1000 - 2 * ((m : Int) + 1)) (hl : ∀ x ∈ l, WF24 x)
    {r : Nat} (hr : r ≤ 4) (hA : Ev (fun k => thyrsusref4_Arity.f k op) (r : Int)) : ∀ (d i : Nat) (acc : List S29), i + d = r → acc.length = i → mks vars op 0 acc → deeps29 acc ≤ m + 1 → sizes29 acc ≤ i * cap m →
    ∃ ks, Ev (fun k => thyrsuslaw1_Make.l0 k deep vars op (i : Int) a b l op N acc) (op, N, ks) ∧ mks vars op 0 ks ∧ deeps29 ks ≤ m + 1 ∧ sizes29 ks ≤ r * cap m ∧ ks.length = r := by
  intro d
  induction d with
  | zero =>
    intro i acc hi hlen hf hdp hsz
    obtain rfl : i = r := by omega
    refine ⟨acc, Ev.step (f := fun k => (thyrsusref4_Arity.f k op).bind fun t209 => some (op, N, acc)) (fun k => ?_) (Ev.bind hA (Ev.now _)), hf, hdp, hsz, hlen⟩
    simp only [thyrsuslaw1_Make.l0]
    cases h : thyrsusref4_Arity.f k op with
    | none => rfl
    | some t =>
      simp only [Option.bind_some]
      have : t = (i : Int) := by
        obtain ⟨K, hK⟩ := hA
        have h1 := hK (max K k) (by omega)
        have h2 := at_rounds (fun k => thyrsusref4_Arity.mono op k) (show k ≤ max K k by omega) h
        simp only at h1
        rw [h1] at h2
        exact (Option.some.inj h2).symm
      rw [if_neg (by omega)]
  | succ d ihd =>
    intro i acc hi hlen hf hdp hsz
    obtain ⟨y, hy, hk⟩ := kid_ev (a := a) (b := b) hl i (by omega)
    have hB : Ev (fun k => thyrsusref4_Binders.f k op (i : Int)) (bnd op (i : Int)) := ⟨2, fun k hk => bindersE op (i : Int) k hk⟩
    have hbn := bnd_range op (i : Int)
    obtain ⟨t, hT, hf2, hdp2, hsz2⟩ := ih y hy (deep - 1) (vars + bnd op (i : Int)) (by omega) (by omega) (by omega) (by omega) (by omega)
    have hn : ((acc ++ [t]).length : Int) = (i : Int) + 1 := by simp [hlen]
    have hmul : (i + 1) * cap m = i * cap m + cap m := Nat.succ_mul i (cap m)
    obtain ⟨ks, hE, h1, h2, h3, h4⟩ := ihd (i + 1) (acc ++ [t]) (by omega) (by simp [hlen]) (mks_snoc acc t 0 hf (by rw [Nat.zero_add, hlen]; exact hf2)) (by rw [deeps_snoc]; omega) (by rw [sizes_snoc, hmul]; omega)
    refine ⟨ks, ?_, h1, h2, h3, h4⟩
    refine Ev.step (f := fun k => (thyrsusref4_Arity.f k op).bind fun t209 => if (i : Int) < t209 then ((thyrsuslaw1_kid.f a b l (i : Int)).bind fun bt210 => ((thyrsusref4_Binders.f k op (i : Int)).bind fun t215 => ((thyrsuslaw1_Make.f k bt210.1 bt210.2.1 bt210.2.2 (wrap64 (deep - 1)) (wrap64 (vars + t215))).bind fun bt216 => (if acc.length < 3518437208883 then (thyrsuslaw1_Make.l0 k deep vars op (wrap64 ((i : Int) + 1)) a b l op N (acc ++ [(⟨bt216.1, bt216.2.1, bt216.2.2⟩ : S29)])) else (none))))) else (some (op, N, acc))) (fun k => by simp only [thyrsuslaw1_Make.l0]) ?_
    refine Ev.bind hA ?_
    rw [hk]
    simp only [if_pos (show (i : Int) < (r : Int) by omega), Option.bind_some]
    refine Ev.bind hB ?_
    rw [wrap_id (n := deep - 1) (by omega), wrap_id (n := vars + bnd op (i : Int)) (by omega)]
    refine Ev.bind hT ?_
    simp only [if_pos (show acc.length < 3518437208883 by omega), wrap_id (n := (i : Int) + 1) (by omega), eta29]
    simpa using hE
theorem make2_j1 {deep vars op a b : Int} {l : List S24} (hb : -9223372036854775808 ≤ b ∧ b ≤ 9223372036854775807) (hv : 0 ≤ vars) (hv2 : vars ≤ 1000) : ∃ N : Int, numM vars op N ∧ ∀ R, Ev (fun k => thyrsuslaw1_Make.l0 k deep vars op 0 a b l op N []) R → Ev (fun k => thyrsuslaw1_Make.j1 k deep vars op a b l) R := by
  have st : ∀ (N : Int) R, Ev (fun k => thyrsuslaw1_Make.l0 k deep vars op 0 a b l op N []) R → Ev (fun k => thyrsuslaw1_Make.j2 k deep vars op a b l op N) R := fun N R h => Ev.step (f := fun k => thyrsuslaw1_Make.l0 k deep vars op 0 a b l op N []) (fun k => by simp only [thyrsuslaw1_Make.j2]) h
  have w1 := within1_val hb (n := vars + 1) (by omega) (by omega)
  have w2 := within1_val hb (n := 3) (by omega) (by omega)
  have w3 := within1_val hb (n := 5) (by omega) (by omega)
  have q : wrap64 (vars + 1) = vars + 1 := wrap_id (by omega)
  have m1 := Int.emod_nonneg b (show vars + 1 ≠ 0 by omega)
  have m2 := Int.emod_lt_of_pos b (show 0 < vars + 1 by omega)
  by_cases c1 : op = 1
  · refine ⟨b % (vars + 1), by unfold numM; rw [if_pos c1]; omega, fun R h => Ev.step (f := fun k => thyrsuslaw1_Make.j2 k deep vars op a b l op (b % (vars + 1))) (fun k => ?_) (st _ R h)⟩
    simp only [thyrsuslaw1_Make.j1, if_pos c1, q, w1, Option.bind_some]
  · by_cases c2 : op = 2
    · refine ⟨b % 3, by unfold numM; rw [if_neg c1, if_pos c2]; omega, fun R h => Ev.step (f := fun k => thyrsuslaw1_Make.j2 k deep vars op a b l op (b % 3)) (fun k => ?_) (st _ R h)⟩
      simp only [thyrsuslaw1_Make.j1, if_neg c1, if_pos c2, w2, Option.bind_some]
    · by_cases c3 : op = 26
      · refine ⟨b % 5, by unfold numM; rw [if_neg c1, if_neg c2, if_pos c3]; omega, fun R h => Ev.step (f := fun k => thyrsuslaw1_Make.j2 k deep vars op a b l op (b % 5)) (fun k => ?_) (st _ R h)⟩
        simp only [thyrsuslaw1_Make.j1, if_neg c1, if_neg c2, if_pos c3, w3, Option.bind_some]
      · by_cases c4 : op = 25
        · refine ⟨b, by unfold numM; rw [if_neg c1, if_neg c2, if_neg c3, if_pos c4]; exact hb, fun R h => Ev.step (f := fun k => thyrsuslaw1_Make.j2 k deep vars op a b l op b) (fun k => ?_) (st _ R h)⟩
          simp only [thyrsuslaw1_Make.j1, if_neg c1, if_neg c2, if_neg c3, if_pos c4]
        · refine ⟨0, by unfold numM; rw [if_neg c1, if_neg c2, if_neg c3, if_neg c4], fun R h => Ev.step (f := fun k => thyrsuslaw1_Make.j2 k deep vars op a b l op 0) (fun k => ?_) (st _ R h)⟩
          simp only [thyrsuslaw1_Make.j1, if_neg c1, if_neg c2, if_neg c3, if_neg c4]
theorem make2_body {n : Nat} (ih : ∀ m, n = m + 1 → MK2 m) {deep vars op a b : Int} {l : List S24} (hn : n ≤ 400) (hop : 1 ≤ op ∧ op ≤ 30) (hb : -9223372036854775808 ≤ b ∧ b ≤ 9223372036854775807) (hd : deep ≤ n) (hv : 0 ≤ vars) (hv2 : vars ≤ 1000 - 2 * (n : Int)) (hl : ∀ x ∈ l, WF24 x)
    {r : Nat} (hr : r ≤ 4) (hA : Ev (fun k => thyrsusref4_Arity.f k op) (r : Int)) (h0 : deep ≤ 0 → r = 0) (hv1 : kidsOf op = (r : Int)) : ∃ t : S29, Ev (fun k => thyrsuslaw1_Make.j1 k deep vars op a b l) (t.f0, t.f1, t.f2) ∧ mk vars t ∧ deep29 t ≤ n + 1 ∧ size29 t ≤ cap n := by
  obtain ⟨N, hN, hj⟩ := make2_j1 (deep := deep) (op := op) (a := a) (l := l) hb hv (by omega)
  by_cases hr0 : r = 0
  · subst hr0
    refine ⟨⟨op, N, []⟩, hj _ ?_, ⟨hop, hv1, hN, trivial⟩, by simp [deep29, deeps29], by cases n <;> simp [size29, sizes29, cap] <;> omega⟩
    refine Ev.step (f := fun k => (thyrsusref4_Arity.f k op).bind fun t209 => (if (0 : Int) < t209 then ((thyrsuslaw1_kid.f a b l 0).bind fun bt210 => ((thyrsusref4_Binders.f k op 0).bind fun t215 => ((thyrsuslaw1_Make.f k bt210.1 bt210.2.1 bt210.2.2 (wrap64 (deep - 1)) (wrap64 (vars + t215))).bind fun bt216 => (if ([] : List S29).length < 3518437208883 then (thyrsuslaw1_Make.l0 k deep vars op (wrap64 (0 + 1)) a b l op N ([] ++ [(⟨bt216.1, bt216.2.1, bt216.2.2⟩ : S29)])) else (none))))) else (some (op, N, [])))) (fun k => by simp only [thyrsuslaw1_Make.l0]) ?_
    refine Ev.bind hA ?_
    simp only [Int.natCast_zero, Int.lt_irrefl, if_false]
    exact Ev.now _
  · have hd1 : 1 ≤ deep := by
      by_cases hq : deep ≤ 0
      · exact absurd (h0 hq) hr0
      · omega
    obtain ⟨m, rfl⟩ : ∃ m, n = m + 1 := ⟨n - 1, by omega⟩
    obtain ⟨ks, hE, h1, h2, h3, h4⟩ := make2_loop (N := N) (a := a) (b := b) (ih m rfl) hn hd1 (by omega) hv (by omega) hl hr hA r 0 [] (by omega) rfl trivial (by simp [deeps29]) (by simp [sizes29])
    refine ⟨⟨op, N, ks⟩, hj _ (by simpa using hE), ⟨hop, by rw [hv1, h4], hN, h1⟩, by simp only [deep29]; omega, ?_⟩
    have : r * cap m ≤ 4 * cap m := Nat.mul_le_mul_right _ hr
    simp only [size29, cap]
    omega
theorem make2_step {n : Nat} (ih : ∀ m, n = m + 1 → MK2 m) (x : S24) (hx : WF24 x) (deep vars : Int) (hd : deep ≤ n) (hd2 : -1000 ≤ deep) (hv : 0 ≤ vars) (hv2 : vars ≤ 1000 - 2 * (n : Int)) (hn : n ≤ 400) :
    ∃ t : S29, Ev (fun k => thyrsuslaw1_Make.f k x.f0 x.f1 x.f2 deep vars) (t.f0, t.f1, t.f2) ∧ mk vars t ∧ deep29 t ≤ n + 1 ∧ size29 t ≤ cap n := by
  cases hx with
  | mk a b l ha hb hlen hl =>
    have ha := i64_of ha
    have hb := i64_of hb
    have m1 := Int.emod_nonneg a (show (30 : Int) ≠ 0 by omega)
    have m2 := Int.emod_lt_of_pos a (show (0 : Int) < 30 by omega)
    have w1 := within1_val ha (n := 30) (by omega) (by omega)
    have w5 := within1_val ha (n := 5) (by omega) (by omega)
    have q : wrap64 (1 + a % 30) = 1 + a % 30 := wrap_id (by omega)
    obtain ⟨r, hr, hA, hz⟩ := arity2 (a := 1 + a % 30) (by omega)
    have same : (deep ≤ 0 → r = 0) → ∃ t : S29, Ev (fun k => thyrsuslaw1_Make.j0 k deep vars (1 + a % 30) false a b l) (t.f0, t.f1, t.f2) ∧ mk vars t ∧ deep29 t ≤ n + 1 ∧ size29 t ≤ cap n := fun h0 => by
      obtain ⟨t, hE, h⟩ := make2_body ih (a := a) hn (by omega) hb hd hv hv2 hl hr hA h0 hz
      exact ⟨t, Ev.step (f := fun k => thyrsuslaw1_Make.j1 k deep vars (1 + a % 30) a b l) (fun k => by simp [thyrsuslaw1_Make.j0]) hE, h⟩
    by_cases hdp : deep ≤ 0
    · by_cases hr0 : r = 0
      · obtain ⟨t, hE, h⟩ := same (fun _ => hr0)
        refine ⟨t, Ev.step (f := fun k => (thyrsusref4_Arity.f k (1 + a % 30)).bind fun t199 => thyrsuslaw1_Make.j0 k deep vars (1 + a % 30) (decide (t199 > 0)) a b l) (fun k => by simp only [thyrsuslaw1_Make.f, w1, q, Option.bind_some, if_pos hdp]) (Ev.bind hA ?_), h⟩
        rw [hr0]
        simpa using hE
      · have m3 := Int.emod_nonneg a (show (5 : Int) ≠ 0 by omega)
        have m4 := Int.emod_lt_of_pos a (show (0 : Int) < 5 by omega)
        have hop : ∃ op : Int, rd ([1, 11, 25, 15, 10] : List Int) (a % 5) = op ∧ (op = 1 ∨ op = 10 ∨ op = 11 ∨ op = 15 ∨ op = 25) := by
          have : a % 5 = 0 ∨ a % 5 = 1 ∨ a % 5 = 2 ∨ a % 5 = 3 ∨ a % 5 = 4 := by omega
          rcases this with h | h | h | h | h <;> rw [h] <;> exact ⟨_, rfl, by simp [rd]⟩
        obtain ⟨op, ho, hop⟩ := hop
        obtain ⟨r2, hr2, hA2, hz2⟩ := arity2 (a := op) (by omega)
        have hk0 : kidsOf op = 0 := by rcases hop with rfl | rfl | rfl | rfl | rfl <;> decide
        obtain ⟨t, hE, h⟩ := make2_body ih (a := a) hn (show 1 ≤ op ∧ op ≤ 30 by omega) hb hd hv hv2 hl hr2 hA2 (fun _ => by omega) hz2
        refine ⟨t, Ev.step (f := fun k => (thyrsusref4_Arity.f k (1 + a % 30)).bind fun t199 => thyrsuslaw1_Make.j0 k deep vars (1 + a % 30) (decide (t199 > 0)) a b l) (fun k => by simp only [thyrsuslaw1_Make.f, w1, q, Option.bind_some, if_pos hdp]) (Ev.bind hA ?_), h⟩
        have hr1 : decide ((r : Int) > 0) = true := decide_eq_true (by omega)
        rw [hr1]
        refine Ev.step (f := fun k => thyrsuslaw1_Make.j1 k deep vars op a b l) (fun k => ?_) hE
        simp only [thyrsuslaw1_Make.j0, if_true, Option.bind_some, w5, if_pos m3, ho]
        rw [if_pos (by simp; omega)]
    · obtain ⟨t, hE, h⟩ := same (fun h => absurd h hdp)
      exact ⟨t, Ev.step (f := fun k => thyrsuslaw1_Make.j0 k deep vars (1 + a % 30) false a b l) (fun k => by simp only [thyrsuslaw1_Make.f, w1, q, Option.bind_some, if_neg hdp]) hE, h⟩
theorem make2_all : ∀ n : Nat, MK2 n := by
  intro n
  induction n with
  | zero => exact fun x hx deep vars hd hd2 hv hv2 hn => make2_step (fun m h => by omega) x hx deep vars hd hd2 hv hv2 hn
  | succ n ih => exact fun x hx deep vars hd hd2 hv hv2 hn => make2_step (fun m h => Nat.succ.inj h ▸ ih) x hx deep vars hd hd2 hv hv2 hn
end Go.Proofs.YtcchfblekaaalaaDoor.Pure
