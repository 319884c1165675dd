/- Several texts in one. -/
import Derived.Test.YtkkmgahgejjhgaaDoorPx0
import Derived.Test.YtkkmgahgejjhgaaDoorTextF
import Derived.Test.YtkkmgahgejjhgaaDoorHandG
import Derived.Test.YtkkmgahgejjhgaaDoorPx1
import Derived.Test.YtkkmgahgejjhgaaDoorPx5
import Derived.Test.YtkkmgahgejjhgaaDoorPx9
import Derived.Test.YtkkmgahgejjhgaaDoorMod
import Derived.Test.YtkkmgahgejjhgaaDoorFMod
import Derived.Test.YtkkmgahgejjhgaaDoorPx4
/- Chapter 3: known, printed by mkprint.py, turned by toQ3.py (strconv's table stands: TabP). -/
-- Printed by mkprint.py (a program of this session, over the kit's print). Lean checks it.
namespace Go.Proofs.YtkkmgahgejjhgaaDoor.P
open Go.RowKit Go.Proofs.YtkkmgahgejjhgaaDoorW.PrintWords Go.Proofs.YtkkmgahgejjhgaaDoorW.PrintLast Go.Proofs.YtkkmgahgejjhgaaDoorW.PrintMore
attribute [local go_sem] max2_int min2_int max_two min_two max_three min_three max_four min_four   -- for this text's walks alone
set_option linter.unusedVariables false
set_option linter.unusedSimpArgs false

-- GIVEN: function 13 (forms_Parse)

-- GIVEN: function 19 (forms_Text)

theorem szA1 (a : UInt8) : (⟨#[a]⟩ : ByteArray).size = 1 := rfl
theorem szA2 (a b : UInt8) : (⟨#[a, b]⟩ : ByteArray).size = 2 := rfl
/-! ### thyrsuslaw3_known: function 10 -/
def thyrsuslaw3_known.f (k : Nat)  : Option (Bool) := (forms_Parse.f (⟨#[40, 97, 32, 40, 49, 41, 41]⟩ : ByteArray)).bind fun bt101 => ((forms_Text.f k 3 0 (⟨#[]⟩ : ByteArray) ([] : List (S42))).bind fun t106 => (if t106.toList = ([40, 41] : List UInt8) then (if bt101.2.2 = 0 then (if (bt101.1.length : Int) = 1 then (if 0 < (bt101.1.length : Int) then (some ((((rd_T42 bt101.1 0).f3).length : Int) == 2)) else (none)) else (none)) else (none)) else (none)))
theorem thyrsuslaw3_known.mono : ∀ k, LeO (thyrsuslaw3_known.f k ) (thyrsuslaw3_known.f (k + 1) ) := by
  intro  k
  unfold thyrsuslaw3_known.f
  repeat' first
      | (with_reducible exact forms_Text.mono _ _ _ _ _)
      | (with_reducible exact LeO.refl _)
      | (with_reducible exact LeO.none _)
      | (with_reducible refine LeO.ite ?_ ?_)
      | (with_reducible refine LeO.bind ?_ (fun _ => ?_))
      | exact forms_Text.mono _ _ _ _ _
      | exact LeO.none _
      | refine LeO.ite ?_ ?_
      | refine LeO.bind ?_ (fun _ => ?_)
set_option maxHeartbeats 8000000 in
set_option maxRecDepth 100000 in
theorem thyrsuslaw3_known.calls (k : Nat)  (r : Bool) (w : World) (hT : TabP w) (h : thyrsuslaw3_known.f k  = some r) :
    Calls Tryd.prog 10 #[] w fun e w' => e = .returned (.bool r) ∧ Below w.heap.size w w' := by
  have hu42 := Tryd.underlying42
  have HTB := Aside0.mk hT
  clear hT
  have HB := Aside0.mk (Below.refl w.heap.size w)
  have H : ((forms_Parse.f (⟨#[40, 97, 32, 40, 49, 41, 41]⟩ : ByteArray)).bind fun bt101 => ((forms_Text.f k 3 0 (⟨#[]⟩ : ByteArray) ([] : List (S42))).bind fun t106 => (if t106.toList = ([40, 41] : List UInt8) then (if bt101.2.2 = 0 then (if (bt101.1.length : Int) = 1 then (if 0 < (bt101.1.length : Int) then (some ((((rd_T42 bt101.1 0).f3).length : Int) == 2)) else (none)) else (none)) else (none)) else (none)))) = some r := h
  clear h
  replace H := Option.bind_eq_some_iff.mp H
  obtain ⟨⟨t101, t102, t103⟩, A10, H⟩ := H
  replace H : ((forms_Text.f k 3 0 (⟨#[]⟩ : ByteArray) ([] : List (S42))).bind fun t106 => (if t106.toList = ([40, 41] : List UInt8) then (if t103 = 0 then (if (t101.length : Int) = 1 then (if 0 < (t101.length : Int) then (some ((((rd_T42 t101 0).f3).length : Int) == 2)) else (none)) else (none)) else (none)) else (none))) = some r := H
  have A1 := Aside0.mk A10
  clear A10
  replace H := Option.bind_eq_some_iff.mp H
  obtain ⟨t106, A20, H⟩ := H
  replace H : (if t106.toList = ([40, 41] : List UInt8) then (if t103 = 0 then (if (t101.length : Int) = 1 then (if 0 < (t101.length : Int) then (some ((((rd_T42 t101 0).f3).length : Int) == 2)) else (none)) else (none)) else (none)) else (none)) = some r := H
  have A2 := Aside0.mk A20
  clear A20
  by_cases c3 : t106.toList = ([40, 41] : List UInt8)
  · rw [if_pos c3] at H
    have c3b0 : (t106.toList == ([40, 41] : List UInt8)) = true := beq_iff_eq.mpr c3
    have c3b1 : (t106.toList != ([40, 41] : List UInt8)) = false := bne_eq_false_iff_eq.mpr c3
    clear c3
    by_cases c4 : t103 = 0
    · rw [if_pos c4] at H
      have c4b0 : (t103 == 0) = true := beq_iff_eq.mpr c4
      have c4b1 : (t103 != 0) = false := bne_eq_false_iff_eq.mpr c4
      clear c4
      by_cases c5 : (t101.length : Int) = 1
      · rw [if_pos c5] at H
        have c5b0 : ((t101.length : Int) == 1) = true := beq_iff_eq.mpr c5
        have c5b1 : ((t101.length : Int) != 1) = false := bne_eq_false_iff_eq.mpr c5
        clear c5
        by_cases c6 : 0 < (t101.length : Int)
        · rw [if_pos c6] at H
          have c6b0 : decide (0 < (t101.length : Int)) = true := decide_eq_true c6
          have c6b1 : decide (0 < t101.length) = true := decide_eq_true (by omega)
          clear c6
          obtain rfl := Option.some.inj H
          go_enter Tryd.func10, Tryd.ntmps10
          go_wp2_with (first | ((with_reducible refine gate_callee (f := 13) rfl ?_); refine goesL_ (some 5) rfl rfl Tryd.func13 (by kernel_rfl) rfl #[.string (⟨#[40, 97, 32, 40, 49, 41, 41]⟩ : ByteArray)] rfl (by (try simp only [List.map_toArray, List.map_cons, List.map_nil]); first | done | rfl | (simp only [List.length_drop, List.length_take]; rfl)) ?_; (with_reducible refine (forms_Parse.calls (⟨#[40, 97, 32, 40, 49, 41, 41]⟩ : ByteArray) t101 t102 t103 _ A1.out).mono ?_); rintro e w7 ⟨v104, rfl, ho0, hb⟩; refine ⟨_, rfl, ?_⟩; have n0_ := Aside0.mk (Kd.R_lower ho0 (below_size (by repeat (first | (with_reducible first | exact HB.out | apply below_alloc | apply pw_below_drewN | apply below_drew1) | exact HB.out)))); have n1_ := Aside0.mk (below_step (by repeat (first | (with_reducible first | exact HB.out | apply below_alloc | apply pw_below_drewN | apply below_drew1) | exact HB.out)) hb); clear HB; have HO105 := n0_; have HB := n1_; clear n0_ n1_; (try clear hb); (try clear hb2); (try clear hk); (try clear hi); (try clear ho0)) | ((with_reducible refine gate_callee (f := 19) rfl ?_); refine goesL_ (some 10) rfl rfl Tryd.func19 (by kernel_rfl) rfl #[.agg #[.int .i64 3, .int .i64 0, .string (⟨#[]⟩ : ByteArray), .slice none 0 0]] rfl (by (try simp only [List.map_toArray, List.map_cons, List.map_nil]); first | done | rfl | (simp only [List.length_drop, List.length_take]; rfl)) ?_; (refine (forms_Text.calls k 3 0 (⟨#[]⟩ : ByteArray) _ _ ([] : List (S42)) t106 _ ?sideT ?side1 ?side2 A2.out).mono ?_); (case sideT => exact TabP.below HTB.out (by repeat (first | (with_reducible first | exact HB.out | apply below_alloc | apply pw_below_drewN | apply below_drew1) | exact HB.out))); (case side1 => exact Kd.C_nil _ _); (case side2 => exact Nat.le_refl _); rintro e w8 ⟨rfl, hb⟩; refine ⟨_, rfl, ?_⟩; have n0_ := Aside0.mk (Kd.R_below (by (with_reducible repeat (first | apply Kd.R_alloc | apply Kd.R_drewN | apply Kd.R_drew)); exact HO105.out) hb); have n1_ := Aside0.mk (below_step (by repeat (first | (with_reducible first | exact HB.out | apply below_alloc | apply pw_below_drewN | apply below_drew1) | exact HB.out)) hb); clear HO105; clear HB; have HO105 := n0_; have HB := n1_; clear n0_ n1_; (try clear hb); (try clear hb2); (try clear hk); (try clear hi); obtain ⟨Ao9, co9, eo9⟩ := Kd.R_slice HO105.out; subst eo9; have p107 : 0 ≤ (0 : Int) := (by omega); have q107 : 0 < (t101.length : Int) := of_decide_eq_true (by first | (with_reducible assumption) | assumption); obtain ⟨ad107, A107_3, c107_3, e107, hx107_0, hx107_1, hx107_2, hx107_3, hl107_3, hi107_3⟩ := at_T42 (Kd.R_reads' HO105.out).2.2 0 p107 q107; cases e107; obtain ⟨ce107, hce107, hMe107, hcc107⟩ := Kd.R_get HO105.out z42 0 p107 (by first | exact q107 | exact of_decide_eq_true (by first | (with_reducible assumption) | assumption) | (have e_ := (Kd.R_reads' HO105.out).1; omega)); obtain ⟨ve107_3, rfl, ge107_3⟩ := k42_openM hMe107; have hv107_3 := hcc107 3 _ rfl; rw [add_field _ _ 3 (by omega)] at hv107_3; replace hv107_3 := Option.some.inj (hv107_3.symm.trans hx107_3); rw [hv107_3] at ge107_3; have HL107_3 := Aside0.mk (show Kd.R k42 42 _ _ _ _ ((rd_T42 t101 0).f3) from ge107_3); clear hv107_3 ge107_3; clear hcc107 hce107; have qi107 : (0 < t101.length) = True := eq_true (by omega); (try rw [show ((0 : Int)).toNat = 0 from rfl] at hx107_0); (try rw [show 0 * 4 = 0 from rfl] at hx107_0); (try rw [Addr.add_zero'] at hx107_0); (try rw [show ((0 : Int)).toNat = 0 from rfl] at hx107_1); (try rw [show 0 * 4 = 0 from rfl] at hx107_1); (try rw [Addr.add_zero'] at hx107_1); (try rw [show ((0 : Int)).toNat = 0 from rfl] at hx107_2); (try rw [show 0 * 4 = 0 from rfl] at hx107_2); (try rw [Addr.add_zero'] at hx107_2); (try rw [show ((0 : Int)).toNat = 0 from rfl] at hx107_3); (try rw [show 0 * 4 = 0 from rfl] at hx107_3); (try rw [Addr.add_zero'] at hx107_3); have HR107_3 := Aside0.mk hi107_3; have HC107_3 := Aside0.mk hl107_3; clear hi107_3 hl107_3; replace p107 := eq_true p107; replace q107 := eq_true q107))
          go_ret
          exact ⟨by first | rfl | (simp [errW_none, errW_some] <;> rfl) | (simp [*, errW_none, errW_some] <;> rfl), by repeat (first | (with_reducible first | exact HB.out | apply below_alloc | apply pw_below_drewN | apply below_drew1) | exact HB.out)⟩
        · rw [if_neg c6] at H
          exact absurd H (by simp)
      · rw [if_neg c5] at H
        exact absurd H (by simp)
    · rw [if_neg c4] at H
      exact absurd H (by simp)
  · rw [if_neg c3] at H
    exact absurd H (by simp)

-- GIVEN: function 12 (thyrsuslaw3_within)

-- GIVEN: function 21 (forms_Check)
end Go.Proofs.YtkkmgahgejjhgaaDoor.P
/- What the laws of chapter 3 share: the chapter's example, a number from 0 to n - 1. -/
namespace Go.Proofs.YtkkmgahgejjhgaaDoor.Pure
open Go.RowKit Go.Proofs.YtkkmgahgejjhgaaDoor.P Go.Proofs.YtkkmgahgejjhgaaDoorW.PrintWords Go.Proofs.YtkkmgahgejjhgaaDoorW.PrintLast
theorem wrap_ok (n : Int) (h0 : -9223372036854775808 ≤ n) (h1 : n ≤ 9223372036854775807) : wrap64 n = n := by
  unfold wrap64
  omega
theorem i64_of {n : Int} (h : (Lit.int .i64 n).wf = true) : -9223372036854775808 ≤ n ∧ n ≤ 9223372036854775807 := by
  have h1 : IntKind.i64.min ≤ n ∧ n ≤ 9223372036854775807 := by simpa [Lit.wf] using h
  exact h1
theorem within_val {a n : Int} (ha : -9223372036854775808 ≤ a ∧ a ≤ 9223372036854775807) (h0 : 0 < n) (hn : n ≤ 4611686018427387904) : thyrsuslaw3_within.f a n = some (a % n) := by
  unfold thyrsuslaw3_within.f
  rw [if_neg (by omega)]
  have h1 := Int.emod_nonneg a (show n ≠ 0 by omega)
  have h2 := Int.emod_lt_of_pos a h0
  by_cases h : 0 ≤ a
  · rw [Int.tmod_eq_emod_of_nonneg h, if_neg (by omega)]
  · have e := Int.tmod_eq_emod (a := a) (b := n)
    by_cases hd : n ∣ a
    · rw [if_pos (.inr hd)] at e
      have h3 := Int.emod_eq_zero_of_dvd hd
      rw [if_neg (by omega)]
      simp only [Option.some.injEq]
      omega
    · rw [if_neg (by omega)] at e
      rw [if_pos (by omega)]
      simp only [Option.some.injEq]
      unfold wrap64
      omega
theorem within_ex {a n : Int} (ha : -9223372036854775808 ≤ a ∧ a ≤ 9223372036854775807) (h0 : 0 < n) (hn : n ≤ 4611686018427387904) : ∃ t : Nat, (t : Int) < n ∧ thyrsuslaw3_within.f a n = some (t : Int) := by
  have h1 := Int.emod_nonneg a (show n ≠ 0 by omega)
  have h2 := Int.emod_lt_of_pos a h0
  refine ⟨(a % n).toNat, by omega, ?_⟩
  rw [within_val ha h0 hn]
  congr 1
  omega
theorem le_rounds {α : Type} {f : Nat → Option α} (hm : ∀ k, LeO (f k) (f (k + 1))) {k : Nat} {r : α} (h : f k = some r) : ∀ d, f (k + d) = some r
  | 0 => h
  | d + 1 => hm (k + d) r (le_rounds hm h d)
theorem known_k (d : Nat) : thyrsuslaw3_known.f (d + 3) = some true := by kernel_rfl
end Go.Proofs.YtkkmgahgejjhgaaDoor.Pure
/- Chapter 3's Count, Few, Make: what they come to: a form that may be, not too deep, not too great. No conditions but those that each theorem tells. -/
namespace Go.Proofs.YtkkmgahgejjhgaaDoor.Pure
open Go.RowKit Go.Proofs.YtkkmgahgejjhgaaDoor.P Go.Proofs.YtkkmgahgejjhgaaDoorW.PrintWords Go.Proofs.YtkkmgahgejjhgaaDoorW.PrintLast Go.Proofs.YtkkmgahgejjhgaaDoorW.PrintMore
set_option linter.unusedVariables false
set_option linter.unusedSimpArgs false
/-- Numbers of their kind, lists that memory can hold. -/
inductive WF38 : S38 → Prop
  | mk (a b : Int) (s : ByteArray) (l : List S38) (ha : (Lit.int .i64 a).wf = true) (hb : (Lit.int .i64 b).wf = true) (hn : l.length ≤ 9223372036854775807) (hl : ∀ x ∈ l, WF38 x) : WF38 ⟨a, b, s, l⟩
mutual
def size38 : S38 → Nat
  | ⟨_, _, _, l⟩ => 1 + sizes38 l
def sizes38 : List S38 → Nat
  | [] => 0
  | x :: l => size38 x + sizes38 l
end
theorem rd38 {l : List S38} {i : Nat} (h : i < l.length) : rd_T38 l (i : Int) = l[i] := by simp [rd_T38, h]
theorem rd42 {l : List S42} {i : Nat} (h : i < l.length) : rd_T42 l (i : Int) = l[i] := by simp [rd_T42, h]
theorem sizes38_drop {l : List S38} {i : Nat} (h : i < l.length) : sizes38 (l.drop i) = size38 l[i] + sizes38 (l.drop (i + 1)) := by
  rw [List.drop_eq_getElem_cons h]; rfl
theorem sizes38_len : ∀ l : List S38, l.length ≤ sizes38 l
  | [] => by simp [sizes38]
  | ⟨a, b, c, k⟩ :: l => by
    have := sizes38_len l
    simp [sizes38, size38]
    omega
theorem wrap_id {n : Int} (h : -9223372036854775808 ≤ n ∧ n ≤ 9223372036854775807) : wrap64 n = n := by unfold wrap64; omega
theorem count_ev {x : S38} (h : WF38 x) : ∀ m : Int, 1 ≤ m → m ≤ 1000000 → ∃ c : Int, Ev (fun k => thyrsuslaw3_Count.f k x.f0 x.f1 x.f2 x.f3 m) c ∧ 1 ≤ c ∧ c ≤ m ∧ (c < m → c = size38 x) := by
  induction h with
  | mk a b s l ha hb hn hl ih =>
    intro m hm hm2
    have loop : ∀ (d i : Nat) (n : Int), i + d = l.length → 1 ≤ n → n ≤ m → ∃ c : Int, Ev (fun k => thyrsuslaw3_Count.l0 k m n (i : Int) a b s l) c ∧ n ≤ c ∧ c ≤ m ∧ (c < m → c = n + sizes38 (l.drop i)) := by
      intro d
      induction d with
      | zero =>
        intro i n hi h1 h2
        refine ⟨n, Ev.step (f := fun _ => some n) (fun k => ?_) (Ev.now n), by omega, h2, fun _ => ?_⟩
        · simp only [thyrsuslaw3_Count.l0]
          rw [if_neg (by omega)]
        · rw [List.drop_of_length_le (by omega)]
          simp [sizes38]
      | succ d ihd =>
        intro i n hi h1 h2
        have hil : i < l.length := by omega
        by_cases hnm : n < m
        · obtain ⟨c1, e1, g1, g2, g3⟩ := ih l[i] (List.getElem_mem hil) (m - n) (by omega) (by omega)
          obtain ⟨c, e2, q1, q2, q3⟩ := ihd (i + 1) (n + c1) (by omega) (by omega) (by omega)
          refine ⟨c, Ev.step (f := fun k => (thyrsuslaw3_Count.f k l[i].f0 l[i].f1 l[i].f2 l[i].f3 (m - n)).bind fun t => thyrsuslaw3_Count.l0 k m (wrap64 (n + t)) (wrap64 ((i : Int) + 1)) a b s l) (fun k => ?_) (Ev.bind e1 ?_), by omega, q2, fun hc => ?_⟩
          · simp only [thyrsuslaw3_Count.l0]
            rw [if_pos (by omega), if_pos hnm, if_pos (by omega), rd38 hil, wrap_id (n := m - n) (by omega)]
          · rw [wrap_id (n := n + c1) (by omega), wrap_id (n := (i : Int) + 1) (by omega)]
            exact e2
          · rw [q3 hc, sizes38_drop hil]
            have := g3 (by omega)
            omega
        · refine ⟨n, Ev.step (f := fun _ => some n) (fun k => ?_) (Ev.now n), by omega, h2, fun hc => by omega⟩
          simp only [thyrsuslaw3_Count.l0]
          rw [if_pos (by omega), if_neg hnm]
    obtain ⟨c, e, q1, q2, q3⟩ := loop l.length 0 1 (by omega) (by omega) (by omega)
    refine ⟨c, Ev.step (f := fun k => thyrsuslaw3_Count.l0 k m 1 0 a b s l) (fun k => by simp only [thyrsuslaw3_Count.f]) e, q1, q2, fun hc => ?_⟩
    rw [q3 hc]
    simp [size38]
/-- Few raw nodes, or not; if few, that many there are. -/
theorem few_ev {x : S38} (h : WF38 x) : ∃ b : Bool, Ev (fun k => thyrsuslaw3_Few.f k x.f0 x.f1 x.f2 x.f3) b ∧ (b = true → size38 x < 200) := by
  obtain ⟨c, e, _, h2, h3⟩ := count_ev h 200 (by omega) (by omega)
  refine ⟨decide (c < 200), ?_, fun hb => ?_⟩
  · unfold thyrsuslaw3_Few.f
    exact Ev.bind e (Ev.now _)
  · have hc : c < 200 := by simpa using hb
    have := h3 hc
    omega
/-- The names that Make takes. -/
def names : List ByteArray := [⟨#[97]⟩, ⟨#[98]⟩, ⟨#[102, 110]⟩, ⟨#[45, 62]⟩, ⟨#[42]⟩, ⟨#[122, 101, 114, 111]⟩, ⟨#[120, 39]⟩, ⟨#[95]⟩, ⟨#[85, 48]⟩, ⟨#[112, 97, 105, 114]⟩]
/-- A form that Make makes, so deep. -/
inductive Fine : Nat → S42 → Prop
  | name (n : Nat) (s : ByteArray) (h : s ∈ names) : Fine n ⟨1, 0, s, []⟩
  | num (n : Nat) (z : Int) (h : -549755813888 ≤ z ∧ z < 549755813888) : Fine n ⟨2, z, ⟨#[]⟩, []⟩
  | list (n : Nat) (l : List S42) (h : ∀ x ∈ l, Fine n x) : Fine (n + 1) ⟨3, 0, ⟨#[]⟩, l⟩
mutual
def size42 : S42 → Nat
  | ⟨_, _, _, l⟩ => 1 + sizes42 l
def sizes42 : List S42 → Nat
  | [] => 0
  | x :: l => size42 x + sizes42 l
end
theorem sizes42_snoc : ∀ (l : List S42) (x : S42), sizes42 (l ++ [x]) = sizes42 l + size42 x
  | [], x => by simp [sizes42]
  | y :: l, x => by
    simp only [List.cons_append, sizes42, sizes42_snoc l x]
    omega
theorem sizes42_len : ∀ l : List S42, l.length ≤ sizes42 l
  | [] => by simp [sizes42]
  | ⟨a, b, c, k⟩ :: l => by
    have := sizes42_len l
    simp [sizes42, size42]
    omega
theorem eta42 (x : S42) : (⟨x.f0, x.f1, x.f2, x.f3⟩ : S42) = x := by cases x; rfl
theorem make_ev {x : S38} (h : WF38 x) : ∀ (n : Nat), n ≤ 1000 → size38 x ≤ 1000 → ∃ t : S42, Ev (fun k => thyrsuslaw3_Make.f k x.f0 x.f1 x.f2 x.f3 (n : Int)) (t.f0, t.f1, t.f2, t.f3) ∧ Fine n t ∧ size42 t ≤ size38 x := by
  induction h with
  | mk a b s l ha hb hn hl ih =>
    intro n hn1 hs
    have w1 := within_val (i64_of ha) (n := 3) (by decide) (by decide)
    have m1 := Int.emod_nonneg a (show (3 : Int) ≠ 0 by decide)
    have m2 := Int.emod_lt_of_pos a (show (0 : Int) < 3 by decide)
    have w2 := within_val (i64_of hb) (n := 10) (by decide) (by decide)
    have p1 := Int.emod_nonneg b (show (10 : Int) ≠ 0 by decide)
    have p2 := Int.emod_lt_of_pos b (show (0 : Int) < 10 by decide)
    have w3 := within_val (i64_of hb) (n := 1099511627776) (by decide) (by decide)
    have q1 := Int.emod_nonneg b (show (1099511627776 : Int) ≠ 0 by decide)
    have q2 := Int.emod_lt_of_pos b (show (0 : Int) < 1099511627776 by decide)
    have hw : wrap64 (1 + a % 3) = 1 + a % 3 := wrap_id (by omega)
    -- a name
    have hname : ∀ x5 : Int, ∃ t : S42, (∀ k, thyrsuslaw3_Make.j0 (k + 1) (n : Int) x5 false a b s l = some (t.f0, t.f1, t.f2, t.f3)) ∧ Fine n t ∧ size42 t ≤ size38 ⟨a, b, s, l⟩ := by
      intro x5
      obtain ⟨j, hj⟩ : ∃ j : Nat, b % 10 = (j : Int) := ⟨(b % 10).toNat, by omega⟩
      have hj2 : j < 10 := by omega
      have hm : rdOf ByteArray.empty names (j : Int) ∈ names := by
        have hl : j < names.length := hj2
        rw [show rdOf ByteArray.empty names (j : Int) = names[j] by simp [rdOf, hl]]
        exact List.getElem_mem hl
      refine ⟨⟨1, 0, rdOf ByteArray.empty names (j : Int), []⟩, fun k => ?_, Fine.name _ _ hm, by simp [size42, sizes42, size38]⟩
      simp only [thyrsuslaw3_Make.j0]
      rw [if_neg (by decide), Option.bind_some, w2, Option.bind_some, if_pos p1]
      refine (if_pos (show b % 10 < (names.length : Int) from p2)).trans ?_
      rw [hj]
      rfl
    by_cases c2 : 1 + a % 3 = 2
    · have hz : wrap64 (b % 1099511627776 - 549755813888) = b % 1099511627776 - 549755813888 := wrap_id (by omega)
      refine ⟨⟨2, b % 1099511627776 - 549755813888, ⟨#[]⟩, []⟩, Ev.step (f := fun _ => some (2, b % 1099511627776 - 549755813888, ⟨#[]⟩, [])) (fun k => ?_) (Ev.now _), Fine.num _ _ (by omega), by simp [size42, sizes42, size38]⟩
      simp only [thyrsuslaw3_Make.f]
      rw [w1, Option.bind_some, hw, if_pos c2, w3, Option.bind_some, hz, c2]
    by_cases c3 : 1 + a % 3 = 3
    · cases n with
      | zero =>
        obtain ⟨t, ht, h1, h2⟩ := hname 3
        refine ⟨t, Ev.step (f := fun k => thyrsuslaw3_Make.j0 k ((0 : Nat) : Int) 3 false a b s l) (fun k => ?_) (Ev.step (f := fun _ => some (t.f0, t.f1, t.f2, t.f3)) ht (Ev.now _)), h1, h2⟩
        simp only [thyrsuslaw3_Make.f]
        rw [w1, Option.bind_some, hw, if_neg c2, if_pos c3, c3]
        rfl
      | succ n =>
        have loop : ∀ (d i : Nat) (acc : List S42), i + d = l.length → (∀ x ∈ acc, Fine n x) → sizes42 acc + sizes38 (l.drop i) ≤ 1000 → ∃ ks, Ev (fun k => thyrsuslaw3_Make.l0 k ((n + 1 : Nat) : Int) (i : Int) a b s l 3 0 ⟨#[]⟩ acc) (3, 0, ⟨#[]⟩, ks) ∧ (∀ x ∈ ks, Fine n x) ∧ sizes42 ks ≤ sizes42 acc + sizes38 (l.drop i) := by
          intro d
          induction d with
          | zero =>
            intro i acc hi hf hinv
            refine ⟨acc, Ev.step (f := fun _ => some (3, 0, ⟨#[]⟩, acc)) (fun k => ?_) (Ev.now _), hf, by omega⟩
            simp only [thyrsuslaw3_Make.l0]
            rw [if_neg (by omega)]
          | succ d ihd =>
            intro i acc hi hf hinv
            have hil : i < l.length := by omega
            have hlen := sizes42_len acc
            have hl9 : l.length ≤ 1000 := Nat.le_trans (sizes38_len l) (by simp only [size38] at hs; omega)
            rw [sizes38_drop hil] at hinv ⊢
            obtain ⟨t, et, f1, f2⟩ := ih l[i] (List.getElem_mem hil) n (by omega) (by omega)
            obtain ⟨ks, e2, g1, g2⟩ := ihd (i + 1) (acc ++ [t]) (by omega) (fun x hx => by rcases List.mem_append.1 hx with hx | hx; exact hf x hx; rw [List.mem_singleton.1 hx]; exact f1) (by rw [sizes42_snoc]; omega)
            rw [sizes42_snoc] at g2
            refine ⟨ks, Ev.step (f := fun k => (thyrsuslaw3_Make.f k l[i].f0 l[i].f1 l[i].f2 l[i].f3 (n : Int)).bind fun bt => thyrsuslaw3_Make.l0 k ((n + 1 : Nat) : Int) ((i + 1 : Nat) : Int) a b s l 3 0 ⟨#[]⟩ (acc ++ [(⟨bt.1, bt.2.1, bt.2.2.1, bt.2.2.2⟩ : S42)])) (fun k => ?_) (Ev.bind et ?_), g1, by omega⟩
            · simp only [thyrsuslaw3_Make.l0]
              rw [if_pos (by omega), if_pos (by omega), rd38 hil, wrap_id (n := ((n + 1 : Nat) : Int) - 1) (by omega), wrap_id (n := (i : Int) + 1) (by omega), show ((n + 1 : Nat) : Int) - 1 = (n : Int) by omega]
              simp only [if_pos (show acc.length < 2513169434916 by omega)]
              rfl
            · simp only [eta42]
              exact e2
        simp only [size38] at hs
        obtain ⟨ks, e1, g1, g2⟩ := loop l.length 0 [] (by omega) (fun x hx => by simp at hx) (by simp only [sizes42, List.drop_zero]; omega)
        refine ⟨⟨3, 0, ⟨#[]⟩, ks⟩, Ev.step (f := fun k => thyrsuslaw3_Make.j0 k ((n + 1 : Nat) : Int) 3 true a b s l) (fun k => ?_) (Ev.step (f := fun k => thyrsuslaw3_Make.l0 k ((n + 1 : Nat) : Int) ((0 : Nat) : Int) a b s l 3 0 ⟨#[]⟩ []) (fun k => ?_) e1), Fine.list _ _ g1, ?_⟩
        · simp only [thyrsuslaw3_Make.f]
          rw [w1, Option.bind_some, hw, if_neg c2, if_pos c3, c3, show decide (((n + 1 : Nat) : Int) > 0) = true from decide_eq_true (by omega)]
        · simp only [thyrsuslaw3_Make.j0, if_true]
          rfl
        · simp only [size42, size38]
          simp only [sizes42, List.drop_zero] at g2
          omega
    · have c1 : 1 + a % 3 = 1 := by omega
      obtain ⟨t, ht, h1, h2⟩ := hname 1
      refine ⟨t, Ev.step (f := fun k => thyrsuslaw3_Make.j0 k (n : Int) 1 false a b s l) (fun k => ?_) (Ev.step (f := fun _ => some (t.f0, t.f1, t.f2, t.f3)) ht (Ev.now _)), h1, h2⟩
      simp only [thyrsuslaw3_Make.f]
      rw [w1, Option.bind_some, hw, if_neg c2, if_neg c3, c1]
end Go.Proofs.YtkkmgahgejjhgaaDoor.Pure
/- Chapter 3's texts, plainly: what forms.Text and the reference's Text come to, of a form that Make makes. No conditions but those that each theorem tells. -/
namespace Go.Proofs.YtkkmgahgejjhgaaDoor.Pure
open Go.RowKit Go.Proofs.YtkkmgahgejjhgaaDoor.P Go.Proofs.YtkkmgahgejjhgaaDoor.Lex Go.Proofs.YtkkmgahgejjhgaaDoorW.PrintWords Go.Proofs.YtkkmgahgejjhgaaDoorW.PrintLast Go.Proofs.YtkkmgahgejjhgaaDoorW.PrintMore
set_option linter.unusedVariables false
set_option linter.unusedSimpArgs false
mutual
/-- A form's text. -/
def tx : S42 → List UInt8
  | ⟨k, z, s, l⟩ => if k = 1 then lst s else if k = 2 then Lib.itoa z else 40 :: (txs l ++ [41])
/-- The texts of a list's forms. -/
def txs : List S42 → List UInt8
  | [] => []
  | x :: l => tx x ++ txr l
/-- .. of those behind the first one. -/
def txr : List S42 → List UInt8
  | [] => []
  | x :: l => 32 :: (tx x ++ txr l)
end
theorem txr_map : ∀ l : List S42, txr l = Lib.joinTail [32] (l.map tx)
  | [] => rfl
  | x :: l => by
    rw [txr, txr_map l]
    simp [Lib.joinTail]
theorem txs_join (l : List S42) : txs l = Lib.join (l.map tx) [32] := by
  cases l with
  | nil => rfl
  | cons x l =>
    rw [txs, txr_map, List.map_cons, Lib.join_cons]
theorem dec_len : ∀ (d n : Nat), n < 10 ^ (d + 1) → (Lib.decDigits n).length ≤ d + 1
  | 0, n, h => by
    rw [Lib.decDigits, dif_pos (by simpa using h)]
    simp
  | d + 1, n, h => by
    rw [Lib.decDigits]
    split
    · simp
    · rw [List.length_append, List.length_singleton]
      have := dec_len d (n / 10) (by rw [Nat.pow_succ] at h; omega)
      omega
theorem itoa_len {z : Int} (h : -549755813888 ≤ z ∧ z < 549755813888) : (Lib.itoa z).length ≤ 13 := by
  unfold Lib.itoa
  split
  · have := dec_len 11 z.natAbs (by show z.natAbs < 1000000000000; omega)
    rw [List.length_cons]
    omega
  · have := dec_len 11 z.toNat (by show z.toNat < 1000000000000; omega)
    omega
theorem names_len : ∀ s ∈ names, (lst s).length ≤ 4 := by decide
mutual
theorem tx_len {n : Nat} {t : S42} (h : Fine n t) : (tx t).length + 1 ≤ 16 * size42 t := by
  match t, h with
  | _, .name _ s hs =>
    have := names_len s hs
    simp only [tx, if_true, size42, sizes42]
    omega
  | _, .num _ z hz =>
    have := itoa_len hz
    simp only [tx, size42, sizes42, if_true]
    rw [if_neg (by decide)]
    omega
  | _, .list m l hl =>
    have := txs_len l hl
    simp only [tx, size42]
    rw [if_neg (by decide), if_neg (by decide), List.length_cons, List.length_append, List.length_singleton]
    omega
theorem txs_len {n : Nat} (l : List S42) (h : ∀ x ∈ l, Fine n x) : (txs l).length ≤ 16 * sizes42 l := by
  match l with
  | [] => simp [txs, sizes42]
  | x :: l =>
    have h1 := tx_len (h x (by simp))
    have h2 := txr_len l (fun y hy => h y (by simp [hy]))
    simp only [txs, sizes42, List.length_append]
    omega
theorem txr_len {n : Nat} (l : List S42) (h : ∀ x ∈ l, Fine n x) : (txr l).length ≤ 16 * sizes42 l := by
  match l with
  | [] => simp [txr, sizes42]
  | x :: l =>
    have h1 := tx_len (h x (by simp))
    have h2 := txr_len l (fun y hy => h y (by simp [hy]))
    simp only [txr, sizes42, List.length_append, List.length_cons]
    omega
end
theorem lst_mk (l : List UInt8) : lst ⟨l.toArray⟩ = l := by simp [lst]
theorem sizes42_drop {l : List S42} {i : Nat} (h : i < l.length) : sizes42 (l.drop i) = size42 l[i] + sizes42 (l.drop (i + 1)) := by
  rw [List.drop_eq_getElem_cons h]; rfl
theorem sizes42_mem : ∀ (l : List S42) (x : S42), x ∈ l → size42 x ≤ sizes42 l
  | y :: l, x, h => by
    rcases List.mem_cons.1 h with rfl | h
    · simp [sizes42]
    · have := sizes42_mem l x h
      simp only [sizes42]
      omega
theorem text_ev {n : Nat} {t : S42} (h : Fine n t) (hs : size42 t ≤ 1000) : ∃ b : ByteArray, Ev (fun k => forms_Text.f k t.f0 t.f1 t.f2 t.f3) b ∧ lst b = tx t := by
  induction h with
  | name n s hm => exact ⟨s, Ev.step (f := fun _ => some s) (fun k => by simp only [forms_Text.f]; rfl) (Ev.now _), by simp [tx]⟩
  | num n z hz =>
    refine ⟨⟨(Lib.itoa z).toArray⟩, Ev.step (f := fun _ => some ⟨(Lib.itoa z).toArray⟩) (fun k => ?_) (Ev.now _), by simp [tx, lst_mk]⟩
    simp only [forms_Text.f, if_true]
    rw [if_neg (by decide)]
    unfold strconv_Itoa.f
    rw [if_pos (by omega)]
    rfl
  | list n l hl ih =>
    simp only [size42] at hs
    have hlen : l.length ≤ 1000 := Nat.le_trans (sizes42_len l) (by omega)
    have htx := txs_len l hl
    have loop : ∀ (d i : Nat) (acc : List ByteArray), i + d = l.length → acc.map lst = (l.take i).map tx → ∃ b : ByteArray, Ev (fun k => forms_Text.l0 k acc l (l.length : Int) (i : Int)) b ∧ lst b = 40 :: (txs l ++ [41]) := by
      intro d
      induction d with
      | zero =>
        intro i acc hi hacc
        obtain rfl : i = l.length := by omega
        rw [List.take_length] at hacc
        have hal : acc.length = l.length := by
          have := congrArg List.length hacc
          simpa using this
        have hj : Lib.join (acc.map (·.data.toList)) (⟨#[32]⟩ : ByteArray).data.toList = txs l := by
          rw [txs_join, ← hacc]
          rfl
        have hJ : strings_Join.f acc (⟨#[32]⟩ : ByteArray) = some ⟨(txs l).toArray⟩ := by
          unfold strings_Join.f
          rw [hj, if_pos (by omega)]
        have hz : (⟨(txs l).toArray⟩ : ByteArray).size = (txs l).length := by rw [← lst_len, lst_mk]
        refine ⟨((⟨#[40]⟩ : ByteArray) ++ ⟨(txs l).toArray⟩) ++ (⟨#[41]⟩ : ByteArray), Ev.step (f := fun _ => some (((⟨#[40]⟩ : ByteArray) ++ ⟨(txs l).toArray⟩) ++ (⟨#[41]⟩ : ByteArray))) (fun k => ?_) (Ev.now _), ?_⟩
        · simp only [forms_Text.l0]
          rw [if_neg (by omega), hJ, Option.bind_some, if_pos (by rw [hz]; omega), if_pos (by rw [ByteArray.size_append, hz, szA1]; omega)]
        · rw [lst_append, lst_append, lst_mk]
          rfl
      | succ d ihd =>
        intro i acc hi hacc
        have hil : i < l.length := by omega
        have hsz : size42 l[i] ≤ sizes42 l := by
          have h1 := sizes42_mem l l[i] (List.getElem_mem hil)
          exact h1
        obtain ⟨t, et, ht⟩ := ih l[i] (List.getElem_mem hil) (by omega)
        have hal : acc.length = i := by
          have := congrArg List.length hacc
          simp at this
          omega
        obtain ⟨b, e2, hb⟩ := ihd (i + 1) (acc ++ [t]) (by omega) (by rw [List.map_append, hacc, List.take_succ_eq_append_getElem hil, List.map_append]; simp [ht])
        refine ⟨b, Ev.step (f := fun k => (forms_Text.f k l[i].f0 l[i].f1 l[i].f2 l[i].f3).bind fun t => forms_Text.l0 k (acc ++ [t]) l (l.length : Int) ((i + 1 : Nat) : Int)) (fun k => ?_) (Ev.bind et e2), hb⟩
        simp only [forms_Text.l0]
        rw [if_pos (by omega), if_pos (by omega), if_pos (by omega), rd42 hil, wrap_id (n := (i : Int) + 1) (by omega)]
        simp only [if_pos (show acc.length < 8796093022208 by omega)]
        rfl
    obtain ⟨b, e1, hb⟩ := loop l.length 0 [] (by omega) (by simp)
    refine ⟨b, Ev.step (f := fun k => forms_Text.l0 k [] l (l.length : Int) ((0 : Nat) : Int)) (fun k => ?_) e1, ?_⟩
    · simp only [forms_Text.f]
      rw [if_neg (by decide), if_neg (by decide)]
      rfl
    · rw [hb]
      simp [tx]
end Go.Proofs.YtkkmgahgejjhgaaDoor.Pure
/- Chapter 3's texts read back, plainly: a made form's text is read as just that form. No conditions but those that each theorem tells. -/
namespace Go.Proofs.YtkkmgahgejjhgaaDoor.Pure
open Go.RowKit Go.Proofs.YtkkmgahgejjhgaaDoor.P Go.Proofs.YtkkmgahgejjhgaaDoor.Lex Go.Proofs.YtkkmgahgejjhgaaDoor.Frm Go.Proofs.YtkkmgahgejjhgaaDoorW.PrintWords Go.Proofs.YtkkmgahgejjhgaaDoorW.PrintLast Go.Proofs.YtkkmgahgejjhgaaDoorW.PrintMore
set_option linter.unusedVariables false
set_option linter.unusedSimpArgs false
/-- No byte that may stand in a name begins it. -/
def Delim (r : List UInt8) : Prop := spn pInner r = 0
theorem spn_app {p : Int → Bool} : ∀ (l r : List UInt8), (∀ c ∈ l, p (c.toNat : Int) = true) → spn p (l ++ r) = l.length + spn p r
  | [], r, _ => by simp
  | c :: l, r, h => by
    rw [List.cons_append, spn, if_pos (h c (by simp)), spn_app l r (fun d hd => h d (by simp [hd]))]
    simp only [List.length_cons]
    omega
theorem delim_digit {r : List UInt8} (h : Delim r) : spn pDigit r = 0 := by
  cases r with
  | nil => rfl
  | cons c r =>
    unfold Delim at h
    rw [spn] at h ⊢
    by_cases hd : pDigit (c.toNat : Int) = true
    · rw [if_pos (by unfold pInner; rw [hd]; simp)] at h
      omega
    · rw [if_neg hd]
theorem nb_0 (c : UInt8) (l : List UInt8) : nb (c :: l) 0 = (c.toNat : Int) := rfl
theorem nb_1 (c d : UInt8) (l : List UInt8) : nb (c :: d :: l) 1 = (d.toNat : Int) := rfl
/-- A token is taken: no blank ahead of it. -/
theorem tok_step {l : List UInt8} {k v : Int} {m : Nat} (hb : blk false l = 0) (hl : 0 < l.length) (hn : nextT l = (k, v, m, 0)) (f p : Nat) (acc : List S63) :
    toks (f + 1) l p acc = toks f (l.drop m) (p + m) (acc ++ [⟨k, v, (p : Int), txt k l m⟩]) := by
  rw [toks, hb, List.drop_zero, if_neg (by omega), hn, if_pos rfl, Nat.add_zero]
/-- Blanks are passed over. -/
theorem tok_blank {s w : List UInt8} (h : blk false (s ++ w) = s.length + blk false w) (f p : Nat) (acc : List S63) : toks (f + 1) (s ++ w) p acc = toks (f + 1) w (p + s.length) acc := by
  have hd : (s ++ w).drop (s.length + blk false w) = w.drop (blk false w) := by
    rw [← List.drop_drop, List.drop_left]
  rw [toks, toks, h, hd]
  simp only [Nat.add_assoc]
theorem blk_32 (w : List UInt8) : blk false ([32] ++ w) = ([32] : List UInt8).length + blk false w := by
  show blk false (32 :: w) = _
  rw [blk_f, if_pos (by decide)]
  simp only [List.length_singleton]
  omega
theorem blk_no {c : UInt8} {r : List UInt8} (h1 : pBlank (c.toNat : Int) = false) (h2 : (c.toNat : Int) ≠ 59) : blk false (c :: r) = 0 := by
  rw [blk_f, if_neg (by rw [h1]; decide), if_neg h2]
/-- A token of kind 3, whole. -/
theorem next_name {s : ByteArray} (hs : s ∈ names) {r : List UInt8} (hr : Delim r) : blk false (lst s ++ r) = 0 ∧ nextT (lst s ++ r) = (3, 0, (lst s).length, 0) := by
  have gen : ∀ (c : UInt8) (l : List UInt8), pFront (c.toNat : Int) = true → (∀ d ∈ c :: l, pInner (d.toNat : Int) = true) → (c :: l).length ≤ 20 → pBlank (c.toNat : Int) = false → (c.toNat : Int) ≠ 59 → (c.toNat : Int) ≠ 40 → (c.toNat : Int) ≠ 41 → (c.toNat : Int) ≠ 42 → (c.toNat : Int) ≠ 45 →
      blk false ((c :: l) ++ r) = 0 ∧ nextT ((c :: l) ++ r) = (3, 0, (c :: l).length, 0) := by
    intro c l h1 h2 h3 h4 h5 h6 h7 h8 h9
    have e : spn pInner ((c :: l) ++ r) = (c :: l).length := by
      rw [spn_app _ _ h2]
      have : spn pInner r = 0 := hr
      omega
    refine ⟨blk_no h4 h5, ?_⟩
    unfold nextT
    rw [e]
    rw [show nb ((c :: l) ++ r) 0 = (c.toNat : Int) from rfl, if_neg h6, if_neg h7, if_neg h8, if_neg (fun h => h9 h.1), if_pos h1, if_neg (by omega)]
  have hc : s = ⟨#[97]⟩ ∨ s = ⟨#[98]⟩ ∨ s = ⟨#[102, 110]⟩ ∨ s = ⟨#[45, 62]⟩ ∨ s = ⟨#[42]⟩ ∨ s = ⟨#[122, 101, 114, 111]⟩ ∨ s = ⟨#[120, 39]⟩ ∨ s = ⟨#[95]⟩ ∨ s = ⟨#[85, 48]⟩ ∨ s = ⟨#[112, 97, 105, 114]⟩ := by simpa [names] using hs
  rcases hc with rfl | rfl | rfl | rfl | rfl | rfl | rfl | rfl | rfl | rfl
  · exact gen 97 [] (by decide) (by decide) (by decide) (by decide) (by decide) (by decide) (by decide) (by decide) (by decide)
  · exact gen 98 [] (by decide) (by decide) (by decide) (by decide) (by decide) (by decide) (by decide) (by decide) (by decide)
  · exact gen 102 [110] (by decide) (by decide) (by decide) (by decide) (by decide) (by decide) (by decide) (by decide) (by decide)
  · refine ⟨blk_no (by decide) (by decide), ?_⟩
    show nextT (45 :: 62 :: r) = (3, 0, 2, 0)
    unfold nextT
    rw [nb_0, nb_1, if_neg (by decide), if_neg (by decide), if_neg (by decide), if_pos ⟨by decide, by simp, by decide⟩]
  · refine ⟨blk_no (by decide) (by decide), ?_⟩
    show nextT (42 :: r) = (3, 0, 1, 0)
    unfold nextT
    rw [nb_0, if_neg (by decide), if_neg (by decide), if_pos (by decide)]
  · exact gen 122 [101, 114, 111] (by decide) (by decide) (by decide) (by decide) (by decide) (by decide) (by decide) (by decide) (by decide)
  · exact gen 120 [39] (by decide) (by decide) (by decide) (by decide) (by decide) (by decide) (by decide) (by decide) (by decide)
  · exact gen 95 [] (by decide) (by decide) (by decide) (by decide) (by decide) (by decide) (by decide) (by decide) (by decide)
  · exact gen 85 [48] (by decide) (by decide) (by decide) (by decide) (by decide) (by decide) (by decide) (by decide) (by decide)
  · exact gen 112 [97, 105, 114] (by decide) (by decide) (by decide) (by decide) (by decide) (by decide) (by decide) (by decide) (by decide)
/-! ### Numbers -/
theorem dig (n : Nat) (h : n < 10) : ((UInt8.ofNat (48 + n)).toNat : Int) = 48 + n := by
  rw [UInt8.toNat_ofNat']
  omega
theorem dec_digits : ∀ (n : Nat), ∀ c ∈ Lib.decDigits n, pDigit (c.toNat : Int) = true := by
  intro n
  induction n using Nat.strongRecOn with
  | _ n ih =>
    intro c hc
    rw [Lib.decDigits] at hc
    have one : ∀ m, m < 10 → pDigit ((UInt8.ofNat (48 + m)).toNat : Int) = true := by
      intro m hm
      rw [dig m hm]
      unfold pDigit
      simp
      omega
    split at hc
    · rename_i h
      rw [List.mem_singleton.1 hc]
      exact one n h
    · rename_i h
      rcases List.mem_append.1 hc with hc | hc
      · exact ih (n / 10) (by omega) c hc
      · rw [List.mem_singleton.1 hc]
        exact one (n % 10) (by omega)
theorem dec_pos (n : Nat) : ∃ c l, Lib.decDigits n = c :: l := by
  rw [Lib.decDigits]
  split
  · exact ⟨_, _, rfl⟩
  · cases h : Lib.decDigits (n / 10) with
    | nil => exact ⟨_, _, rfl⟩
    | cons c l => exact ⟨_, _, rfl⟩
theorem numD_snoc : ∀ (l : List UInt8) (c : UInt8) (a : Int), numD (l ++ [c]) a = (numD l a).bind (fun n => numD [c] n)
  | [], c, a => by simp [numD]
  | d :: l, c, a => by
    rw [List.cons_append, numD, numD]
    split
    · rfl
    · exact numD_snoc l c _
theorem numD_dec : ∀ (n : Nat), n ≤ 4611686018427387904 → numD (Lib.decDigits n) 0 = some (n : Int) := by
  intro n
  induction n using Nat.strongRecOn with
  | _ n ih =>
    intro hn
    rw [Lib.decDigits]
    split
    · rename_i h
      rw [numD, dig n h, if_neg (by omega), numD]
      congr 1
      omega
    · rename_i h
      rw [numD_snoc, ih (n / 10) (by omega) (by omega), Option.bind_some, numD, dig (n % 10) (by omega), if_neg (by omega), numD]
      congr 1
      omega
theorem next_num {z : Int} (hz : -549755813888 ≤ z ∧ z < 549755813888) {r : List UInt8} (hr : Delim r) : blk false (Lib.itoa z ++ r) = 0 ∧ nextT (Lib.itoa z ++ r) = (4, z, (Lib.itoa z).length, 0) := by
  have dg : ∀ c : Int, pDigit c = true → 48 ≤ c ∧ c ≤ 57 := by
    intro c h
    unfold pDigit at h
    simpa using h
  have nf : ∀ c : Int, 48 ≤ c ∧ c ≤ 57 → pFront c = false := by
    intro c h
    unfold pFront
    simp
    omega
  unfold Lib.itoa
  by_cases h : z < 0
  · rw [if_pos h]
    obtain ⟨c, l, e⟩ := dec_pos z.natAbs
    have hd := dec_digits z.natAbs
    have hnum := numD_dec z.natAbs (by omega)
    rw [e] at hd hnum ⊢
    have hc := dg _ (hd c (by simp))
    have hs : spn pDigit ((c :: l) ++ r) = (c :: l).length := by
      rw [spn_app _ _ hd, delim_digit hr]
      omega
    refine ⟨blk_no (by decide) (by decide), ?_⟩
    show nextT (45 :: ((c :: l) ++ r)) = (4, z, (45 :: c :: l).length, 0)
    have hsg : sgn (45 :: ((c :: l) ++ r)) = 1 + (c :: l).length := by
      unfold sgn
      rw [nb_0, if_pos (by decide), List.drop_succ_cons, List.drop_zero, hs, if_pos (by simp)]
    have htk : (45 :: ((c :: l) ++ r)).take (1 + (c :: l).length) = 45 :: c :: l := by
      rw [Nat.add_comm, List.take_succ_cons, List.take_left]
    have hnm : num (45 :: c :: l) = some z := by
      unfold num
      rw [nb_0, if_pos (by decide), List.drop_succ_cons, List.drop_zero, hnum]
      simp only [Option.map_some, Option.some.injEq]
      omega
    unfold nextT
    rw [nb_0, hsg, htk, hnm, if_neg (by decide), if_neg (by decide), if_neg (by decide)]
    rw [if_neg (by
      rintro ⟨-, -, h2⟩
      rw [List.cons_append, nb_1] at h2
      omega), if_neg (by decide), if_neg (by simp)]
    simp only [List.length_cons]
    congr 3
    omega
  · rw [if_neg h]
    obtain ⟨c, l, e⟩ := dec_pos z.toNat
    have hd := dec_digits z.toNat
    have hnum := numD_dec z.toNat (by omega)
    rw [e] at hd hnum ⊢
    have hc := dg _ (hd c (by simp))
    have hs : spn pDigit ((c :: l) ++ r) = (c :: l).length := by
      rw [spn_app _ _ hd, delim_digit hr]
      omega
    refine ⟨blk_no (by unfold pBlank; simp; omega) (by omega), ?_⟩
    have hsg : sgn ((c :: l) ++ r) = (c :: l).length := by
      unfold sgn
      rw [List.cons_append, nb_0, if_neg (by omega), ← List.cons_append, hs]
    have htk : ((c :: l) ++ r).take (c :: l).length = c :: l := List.take_left
    have hnm : num (c :: l) = some z := by
      unfold num
      rw [nb_0, if_neg (by omega), hnum]
      simp only [Option.some.injEq]
      omega
    unfold nextT
    rw [hsg, htk, hnm, show nb ((c :: l) ++ r) 0 = (c.toNat : Int) from rfl, if_neg (by omega), if_neg (by omega), if_neg (by omega), if_neg (by omega), if_neg (by rw [nf _ hc]; decide), if_neg (by simp)]
/-! ### Forms -/
/-- A text's tokens are just these, and they put that form behind the others. -/
def Par (n : Nat) (ts : List S63) (w : List UInt8) (xs : List S42) (p : Nat) (r : List UInt8) : Prop :=
  (∀ f acc, toks (f + ts.length) (w ++ r) p acc = toks f r (p + w.length) (acc ++ ts)) ∧ (∀ q st top sz, st.length + n ≤ 30 → frun (ts ++ q) st top sz = frun q st (top ++ xs) sz) ∧ ts.length ≤ w.length ∧ (xs ≠ [] → 0 < ts.length)
theorem names_pos : ∀ s ∈ names, 0 < (lst s).length := by decide
theorem txt_name {s : ByteArray} {r : List UInt8} : txt 3 (lst s ++ r) (lst s).length = s := by
  unfold txt
  rw [if_pos rfl, List.take_left]
  exact lst_inj (lst_mk _)
theorem delim_41 (r : List UInt8) : Delim (41 :: r) := by
  unfold Delim
  rw [spn, if_neg (by decide)]
theorem delim_32 (r : List UInt8) : Delim (32 :: r) := by
  unfold Delim
  rw [spn, if_neg (by decide)]
theorem delim_txr {l : List S42} {r : List UInt8} (h : Delim r) : Delim (txr l ++ r) := by
  cases l with
  | nil => exact h
  | cons x l =>
    rw [txr]
    exact delim_32 _
theorem frun_n {t : S63} {r : List S63} {st : List (List S42)} {top : List S42} {sz : Int} : ∀ (h : t.f0 = 3), frun (t :: r) st top sz = frun r st (top ++ [⟨1, 0, t.f3, []⟩]) sz := by
  intro h
  rw [frun.eq_def]
  simp only [if_neg (show ¬ t.f0 = 1 by omega), if_neg (show ¬ t.f0 = 2 by omega), if_pos h]
theorem frun_m {t : S63} {r : List S63} {st : List (List S42)} {top : List S42} {sz : Int} : ∀ (h : t.f0 = 4), frun (t :: r) st top sz = frun r st (top ++ [⟨2, t.f1, ⟨#[]⟩, []⟩]) sz := by
  intro h
  rw [frun.eq_def]
  simp only [if_neg (show ¬ t.f0 = 1 by omega), if_neg (show ¬ t.f0 = 2 by omega), if_neg (show ¬ t.f0 = 3 by omega)]
theorem frun_o {t : S63} {r : List S63} {st : List (List S42)} {top : List S42} {sz : Int} (h : t.f0 = 1) (h2 : st.length < 30) : frun (t :: r) st top sz = frun r (top :: st) [] sz := by
  rw [frun.eq_def]
  simp only [if_pos h, if_pos h2]
theorem frun_c {t : S63} {r : List S63} {p : List S42} {st : List (List S42)} {top : List S42} {sz : Int} (h : t.f0 = 2) : frun (t :: r) (p :: st) top sz = frun r st (p ++ [⟨3, 0, ⟨#[]⟩, top⟩]) sz := by
  rw [frun.eq_def]
  simp only [if_neg (show ¬ t.f0 = 1 by omega), if_pos h]
theorem par_one {n : Nat} {w : List UInt8} {x : S42} {k v : Int} {p : Nat} {r : List UInt8} (hb : blk false (w ++ r) = 0) (hw : 0 < w.length) (hn : nextT (w ++ r) = (k, v, w.length, 0)) (hf : ∀ q st top sz, frun (⟨k, v, (p : Int), txt k (w ++ r) w.length⟩ :: q) st top sz = frun q st (top ++ [x]) sz) :
    ∃ ts, Par n ts w [x] p r := by
  refine ⟨[⟨k, v, (p : Int), txt k (w ++ r) w.length⟩], fun f acc => ?_, fun q st top sz _ => hf q st top sz, by simp only [List.length_singleton]; omega, fun _ => by simp⟩
  rw [List.length_singleton, tok_step hb (by rw [List.length_append]; omega) hn, List.drop_left]
theorem par_form {n : Nat} {t : S42} (h : Fine n t) : ∀ (p : Nat) (r : List UInt8), Delim r → ∃ ts, Par n ts (tx t) [t] p r := by
  induction h with
  | name n s hs =>
    intro p r hr
    have e : tx ⟨1, 0, s, []⟩ = lst s := by simp [tx]
    rw [e]
    obtain ⟨h1, h2⟩ := next_name hs hr
    have hl : 0 < (lst s).length := names_pos s hs
    exact par_one h1 hl h2 (fun q st top sz => by rw [frun_n rfl, txt_name])
  | num n z hz =>
    intro p r hr
    have e : tx ⟨2, z, ⟨#[]⟩, []⟩ = Lib.itoa z := by simp [tx]
    rw [e]
    obtain ⟨h1, h2⟩ := next_num hz hr
    have hl : 0 < (Lib.itoa z).length := by
      unfold Lib.itoa
      split
      · simp
      · obtain ⟨c, l, e⟩ := dec_pos z.toNat
        rw [e]
        simp
    exact par_one h1 hl h2 (fun q st top sz => by rw [frun_m rfl])
  | list n l hl ih =>
    intro p r hr
    -- what stands behind the first one
    have rest : ∀ (m : List S42), (∀ x ∈ m, x ∈ l) → ∀ (p : Nat) (r : List UInt8), Delim r → ∃ ts, Par n ts (txr m) m p r := by
      intro m
      induction m with
      | nil => exact fun _ p r _ => ⟨[], fun f acc => by simp [txr], fun q st top sz _ => by simp, by simp, fun h => absurd rfl h⟩
      | cons x m ihm =>
        intro hm p r hr
        obtain ⟨t1, a1, b1, c1, d1⟩ := ih x (hm x (by simp)) (p + 1) (txr m ++ r) (delim_txr hr)
        obtain ⟨t2, a2, b2, c2, d2⟩ := ihm (fun y hy => hm y (by simp [hy])) (p + 1 + (tx x).length) r hr
        have hpos : 0 < t1.length := d1 (by simp)
        refine ⟨t1 ++ t2, fun f acc => ?_, fun q st top sz hd => ?_, ?_, fun _ => ?_⟩
        · have e : txr (x :: m) ++ r = [32] ++ (tx x ++ (txr m ++ r)) := by simp [txr]
          obtain ⟨j, hj⟩ : ∃ j, f + (t1 ++ t2).length = j + 1 := ⟨f + (t1 ++ t2).length - 1, by rw [List.length_append]; omega⟩
          rw [e, hj, tok_blank (blk_32 _), ← hj, List.length_append, show f + (t1.length + t2.length) = (f + t2.length) + t1.length by omega, show p + ([32] : List UInt8).length = p + 1 from rfl, a1, a2, List.append_assoc]
          congr 1
          simp only [txr, List.length_cons, List.length_append]
          omega
        · rw [List.append_assoc, b1 _ _ _ _ hd, b2 _ _ _ _ hd, List.append_assoc]
          rfl
        · simp only [txr, List.length_cons, List.length_append]
          omega
        · rw [List.length_append]
          omega
    have all : ∀ (p : Nat), ∃ ts, Par n ts (txs l) l p (41 :: r) := by
      intro p
      cases l with
      | nil => exact ⟨[], fun f acc => by simp [txs], fun q st top sz _ => by simp, by simp, fun h => absurd rfl h⟩
      | cons x m =>
        obtain ⟨t1, a1, b1, c1, d1⟩ := ih x (by simp) p (txr m ++ 41 :: r) (delim_txr (delim_41 r))
        obtain ⟨t2, a2, b2, c2, d2⟩ := rest m (fun y hy => by simp [hy]) (p + (tx x).length) (41 :: r) (delim_41 r)
        refine ⟨t1 ++ t2, fun f acc => ?_, fun q st top sz hd => ?_, ?_, fun _ => ?_⟩
        · have e : txs (x :: m) ++ 41 :: r = tx x ++ (txr m ++ 41 :: r) := by simp [txs]
          rw [e, List.length_append, show f + (t1.length + t2.length) = (f + t2.length) + t1.length by omega, a1, a2, List.append_assoc]
          congr 1
          simp only [txs, List.length_append]
          omega
        · rw [List.append_assoc, b1 _ _ _ _ hd, b2 _ _ _ _ hd, List.append_assoc]
          rfl
        · simp only [txs, List.length_append]
          omega
        · have := d1 (by simp)
          rw [List.length_append]
          omega
    obtain ⟨ts, a1, b1, c1, d1⟩ := all (p + 1)
    have e : tx ⟨3, 0, ⟨#[]⟩, l⟩ = 40 :: (txs l ++ [41]) := by simp [tx]
    rw [e]
    refine ⟨⟨1, 0, (p : Int), txt 1 (40 :: (txs l ++ 41 :: r)) 1⟩ :: (ts ++ [⟨2, 0, ((p + 1 + (txs l).length : Nat) : Int), txt 2 (41 :: r) 1⟩]), fun f acc => ?_, fun q st top sz hd => ?_, ?_, fun _ => ?_⟩
    · have e2 : (40 :: (txs l ++ [41])) ++ r = 40 :: (txs l ++ 41 :: r) := by simp
      have n1 : nextT (40 :: (txs l ++ 41 :: r)) = (1, 0, 1, 0) := by
        unfold nextT
        rw [nb_0, if_pos (by decide)]
      have n2 : nextT (41 :: r) = (2, 0, 1, 0) := by
        unfold nextT
        rw [nb_0, if_neg (by decide), if_pos (by decide)]
      rw [e2, List.length_cons, List.length_append, List.length_singleton, show f + (ts.length + 1 + 1) = (f + 1 + ts.length) + 1 by omega, tok_step (blk_no (by decide) (by decide)) (by simp) n1, List.drop_succ_cons, List.drop_zero, a1, tok_step (blk_no (by decide) (by decide)) (by simp) n2, List.drop_succ_cons, List.drop_zero]
      congr 1
      · simp only [List.length_cons, List.length_append, List.length_nil]
        omega
      · simp
    · rw [List.cons_append, frun_o rfl (by omega), List.append_assoc, b1 _ _ _ _ (by simp only [List.length_cons]; omega), List.singleton_append, frun_c rfl]
      rfl
    · simp only [List.length_cons, List.length_append, List.length_nil]
      omega
    · simp
end Go.Proofs.YtkkmgahgejjhgaaDoor.Pure
/- Two forms are the same: what the reference's Same comes to; texts tell made forms apart. No conditions but those that each theorem tells. -/
namespace Go.Proofs.YtkkmgahgejjhgaaDoor.Pure
open Go.RowKit Go.Proofs.YtkkmgahgejjhgaaDoor.P Go.Proofs.YtkkmgahgejjhgaaDoor.Lex Go.Proofs.YtkkmgahgejjhgaaDoor.Frm Go.Proofs.YtkkmgahgejjhgaaDoorW.PrintWords Go.Proofs.YtkkmgahgejjhgaaDoorW.PrintLast Go.Proofs.YtkkmgahgejjhgaaDoorW.PrintMore
set_option linter.unusedVariables false
set_option linter.unusedSimpArgs false
mutual
/-- Are two forms the same? -/
def sm : S42 → S42 → Bool
  | ⟨k, z, s, l⟩, ⟨k', z', s', l'⟩ => decide (k = k') && (decide (z = z') && (decide (s.toList = s'.toList) && sms l l'))
def sms : List S42 → List S42 → Bool
  | [], [] => true
  | x :: l, y :: l' => sm x y && sms l l'
  | [], _ :: _ => false
  | _ :: _, [] => false
end
mutual
theorem sm_iff : ∀ (x y : S42), sm x y = true ↔ x = y
  | ⟨k, z, s, l⟩, ⟨k', z', s', l'⟩ => by
    have h := sms_iff l l'
    simp only [sm, Bool.and_eq_true, decide_eq_true_eq, h, S42.mk.injEq]
    refine and_congr_right fun _ => and_congr_right fun _ => and_congr_left fun _ => ?_
    rw [lst_toList, lst_toList]
    exact ⟨fun h => lst_inj h, fun h => by rw [h]⟩
theorem sms_iff : ∀ (l l' : List S42), sms l l' = true ↔ l = l'
  | [], [] => by simp [sms]
  | x :: l, y :: l' => by
    have h1 := sm_iff x y
    have h2 := sms_iff l l'
    simp only [sms, Bool.and_eq_true, h1, h2, List.cons.injEq]
  | [], _ :: _ => by simp [sms]
  | _ :: _, [] => by simp [sms]
end
theorem sms_len : ∀ (l l' : List S42), l.length ≠ l'.length → sms l l' = false
  | [], [], h => absurd rfl h
  | x :: l, y :: l', h => by
    rw [sms, sms_len l l' (by simpa using h), Bool.and_false]
  | [], _ :: _, _ => rfl
  | _ :: _, [], _ => rfl
theorem eta42' (x : S42) : x = ⟨x.f0, x.f1, x.f2, x.f3⟩ := by cases x; rfl
theorem sm_eta (x y : S42) : sm x y = (decide (x.f0 = y.f0) && (decide (x.f1 = y.f1) && (decide (x.f2.toList = y.f2.toList) && sms x.f3 y.f3))) := by
  cases x; cases y; rfl
theorem same_ev : ∀ (n : Nat) (x y : S42), size42 x ≤ n → n ≤ 1000000 → Ev (fun k => thyrsusref3_Same.f k x.f0 x.f1 x.f2 x.f3 y.f0 y.f1 y.f2 y.f3) (sm x y) := by
  intro n
  induction n with
  | zero => intro x y h; cases x; simp [size42] at h
  | succ n ih =>
    rintro ⟨k, z, s, l⟩ ⟨k', z', s', l'⟩ hs hn
    have no : Ev (fun j => thyrsusref3_Same.j0 j true k z s l k' z' s' l') false := Ev.step (f := fun _ => some false) (fun j => by simp only [thyrsusref3_Same.j0, if_true]) (Ev.now _)
    simp only [sm]
    by_cases h1 : k = k'
    · by_cases h2 : z = z'
      · by_cases h3 : s.toList = s'.toList
        · rw [decide_eq_true h1, decide_eq_true h2, decide_eq_true h3, Bool.true_and, Bool.true_and, Bool.true_and]
          refine Ev.step (f := fun j => thyrsusref3_Same.j0 j ((l.length : Int) != (l'.length : Int)) k z s l k' z' s' l') (fun j => by simp only [thyrsusref3_Same.f]; rw [if_pos h1, if_pos h2, if_pos h3]) ?_
          by_cases h4 : l.length = l'.length
          · have e : ((l.length : Int) != (l'.length : Int)) = false := by simp [h4]
            rw [e]
            simp only [size42] at hs
            have hll : l.length ≤ 1000000 := Nat.le_trans (sizes42_len l) (by omega)
            have loop : ∀ (d i : Nat), i + d = l.length → Ev (fun j => thyrsusref3_Same.l0 j (i : Int) k z s l k' z' s' l') (sms (l.drop i) (l'.drop i)) := by
              intro d
              induction d with
              | zero =>
                intro i hi
                rw [List.drop_of_length_le (by omega), List.drop_of_length_le (by omega)]
                refine Ev.step (f := fun _ => some true) (fun j => ?_) (Ev.now _)
                simp only [thyrsusref3_Same.l0]
                rw [if_neg (by omega)]
              | succ d ihd =>
                intro i hi
                have hil : i < l.length := by omega
                have hil' : i < l'.length := by omega
                have hm := sizes42_mem l l[i] (List.getElem_mem hil)
                rw [List.drop_eq_getElem_cons hil, List.drop_eq_getElem_cons hil', sms]
                have h5 := ih l[i] l'[i] (by omega) (by omega)
                refine Ev.step (f := fun j => (thyrsusref3_Same.f j l[i].f0 l[i].f1 l[i].f2 l[i].f3 l'[i].f0 l'[i].f1 l'[i].f2 l'[i].f3).bind fun t => if t = true then thyrsusref3_Same.l0 j ((i + 1 : Nat) : Int) k z s l k' z' s' l' else some false) (fun j => ?_) (Ev.bind h5 ?_)
                · simp only [thyrsusref3_Same.l0]
                  rw [if_pos (by omega), if_pos (by omega), if_pos (by omega), rd42 hil, rd42 hil', wrap_id (n := (i : Int) + 1) (by omega)]
                  rfl
                · cases hb : sm l[i] l'[i] with
                  | true => simpa using ihd (i + 1) (by omega)
                  | false => simpa using Ev.now false
            refine Ev.step (f := fun j => thyrsusref3_Same.l0 j ((0 : Nat) : Int) k z s l k' z' s' l') (fun j => by simp only [thyrsusref3_Same.j0]; rfl) (loop l.length 0 (by omega))
          · have e : ((l.length : Int) != (l'.length : Int)) = true := by simp; omega
            rw [e, sms_len l l' h4]
            exact no
        · rw [decide_eq_false h3, Bool.false_and, Bool.and_false, Bool.and_false]
          exact Ev.step (f := fun j => thyrsusref3_Same.j0 j true k z s l k' z' s' l') (fun j => by simp only [thyrsusref3_Same.f]; rw [if_pos h1, if_pos h2, if_neg h3]) no
      · rw [decide_eq_false h2, Bool.false_and, Bool.and_false]
        exact Ev.step (f := fun j => thyrsusref3_Same.j0 j true k z s l k' z' s' l') (fun j => by simp only [thyrsusref3_Same.f]; rw [if_pos h1, if_neg h2]) no
    · rw [decide_eq_false h1, Bool.false_and]
      exact Ev.step (f := fun j => thyrsusref3_Same.j0 j true k z s l k' z' s' l') (fun j => by simp only [thyrsusref3_Same.f]; rw [if_neg h1]) no
/-- Texts tell made forms apart. -/
theorem tx_inj {n m : Nat} {x y : S42} (hx : Fine n x) (hy : Fine m y) (hn : n ≤ 30) (hm : m ≤ 30) (h : tx x = tx y) : x = y := by
  obtain ⟨t1, a1, b1, _, _⟩ := par_form hx 0 [] rfl
  obtain ⟨t2, a2, b2, _, _⟩ := par_form hy 0 [] rfl
  have e1 := a1 (t2.length + 1) []
  have e2 := a2 (t1.length + 1) []
  have fin : ∀ f p acc, toks (f + 1) [] p acc = (acc, 0, 0) := by
    intro f p acc
    rw [toks]
    simp [blk]
  rw [show t2.length + 1 + t1.length = t1.length + 1 + t2.length by omega, fin, h] at e1
  rw [fin] at e2
  rw [e1] at e2
  simp only [List.nil_append, Prod.mk.injEq, and_true] at e2
  have f1 := b1 [] [] [] 0 (by simpa using hn)
  have f2 := b2 [] [] [] 0 (by simpa using hm)
  rw [e2] at f1
  rw [f1] at f2
  simp only [List.nil_append] at f2
  have g : ∀ top : List S42, frun [] [] top 0 = (top, 0, 0) := fun top => by rw [frun.eq_def]
  rw [g, g] at f2
  simpa using f2
end Go.Proofs.YtkkmgahgejjhgaaDoor.Pure
