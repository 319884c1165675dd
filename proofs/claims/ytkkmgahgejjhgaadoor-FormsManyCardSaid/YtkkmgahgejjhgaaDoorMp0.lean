/- Several texts in one. -/
import Derived.Test.YtkkmgahgejjhgaaDoorPx0
import Derived.Test.YtkkmgahgejjhgaaDoorTextF
import Derived.Test.YtkkmgahgejjhgaaDoorHandG
import Derived.Test.YtkkmgahgejjhgaaDoorPx1
import Derived.Test.YtkkmgahgejjhgaaDoorPx5
import Derived.Test.YtkkmgahgejjhgaaDoorPx9
import Derived.Test.YtkkmgahgejjhgaaDoorMod
import Derived.Test.YtkkmgahgejjhgaaDoorFMod
import Derived.Test.YtkkmgahgejjhgaaDoorPx4
import Derived.Test.YtkkmgahgejjhgaaDoorPx6
import Derived.Lib.SmallJoins
import Derived.ProofKit
import Derived.ChangeMaps5
import Derived.Test.YtkkmgahgejjhgaaDoorRows
import Derived.Test.YtkkmgahgejjhgaaDoorHandStr
import Derived.Lib.LaidTab
import Derived.KernelRfl
/- Chapter 3: known, printed by mkprint.py, turned by toQ3.py (strconv's table stands: TabP). -/
-- Printed by mkprint.py (a program of this session, over the kit's print). Lean checks it.
namespace Go.Proofs.YtkkmgahgejjhgaaDoor.P
open Go.RowKit Go.Proofs.YtkkmgahgejjhgaaDoorW.PrintWords Go.Proofs.YtkkmgahgejjhgaaDoorW.PrintLast Go.Proofs.YtkkmgahgejjhgaaDoorW.PrintMore
attribute [local go_sem] max2_int min2_int max_two min_two max_three min_three max_four min_four   -- for this text's walks alone
set_option linter.unusedVariables false
set_option linter.unusedSimpArgs false

-- GIVEN: function 13 (forms_Parse)

-- GIVEN: function 19 (forms_Text)

theorem szA1 (a : UInt8) : (⟨#[a]⟩ : ByteArray).size = 1 := rfl
theorem szA2 (a b : UInt8) : (⟨#[a, b]⟩ : ByteArray).size = 2 := rfl
/-! ### thyrsuslaw3_known: function 10 -/
def thyrsuslaw3_known.f (k : Nat)  : Option (Bool) := (forms_Parse.f (⟨#[40, 97, 32, 40, 49, 41, 41]⟩ : ByteArray)).bind fun bt101 => ((forms_Text.f k 3 0 (⟨#[]⟩ : ByteArray) ([] : List (S42))).bind fun t106 => (if t106.toList = ([40, 41] : List UInt8) then (if bt101.2.2 = 0 then (if (bt101.1.length : Int) = 1 then (if 0 < (bt101.1.length : Int) then (some ((((rd_T42 bt101.1 0).f3).length : Int) == 2)) else (none)) else (none)) else (none)) else (none)))
theorem thyrsuslaw3_known.mono : ∀ k, LeO (thyrsuslaw3_known.f k ) (thyrsuslaw3_known.f (k + 1) ) := by
  intro  k
  unfold thyrsuslaw3_known.f
  repeat' first
      | (with_reducible exact forms_Text.mono _ _ _ _ _)
      | (with_reducible exact LeO.refl _)
      | (with_reducible exact LeO.none _)
      | (with_reducible refine LeO.ite ?_ ?_)
      | (with_reducible refine LeO.bind ?_ (fun _ => ?_))
      | exact forms_Text.mono _ _ _ _ _
      | exact LeO.none _
      | refine LeO.ite ?_ ?_
      | refine LeO.bind ?_ (fun _ => ?_)
set_option maxHeartbeats 8000000 in
set_option maxRecDepth 100000 in
theorem thyrsuslaw3_known.calls (k : Nat)  (r : Bool) (w : World) (hT : TabP w) (h : thyrsuslaw3_known.f k  = some r) :
    Calls Tryd.prog 10 #[] w fun e w' => e = .returned (.bool r) ∧ Below w.heap.size w w' := by
  have hu42 := Tryd.underlying42
  have HTB := Aside0.mk hT
  clear hT
  have HB := Aside0.mk (Below.refl w.heap.size w)
  have H : ((forms_Parse.f (⟨#[40, 97, 32, 40, 49, 41, 41]⟩ : ByteArray)).bind fun bt101 => ((forms_Text.f k 3 0 (⟨#[]⟩ : ByteArray) ([] : List (S42))).bind fun t106 => (if t106.toList = ([40, 41] : List UInt8) then (if bt101.2.2 = 0 then (if (bt101.1.length : Int) = 1 then (if 0 < (bt101.1.length : Int) then (some ((((rd_T42 bt101.1 0).f3).length : Int) == 2)) else (none)) else (none)) else (none)) else (none)))) = some r := h
  clear h
  replace H := Option.bind_eq_some_iff.mp H
  obtain ⟨⟨t101, t102, t103⟩, A10, H⟩ := H
  replace H : ((forms_Text.f k 3 0 (⟨#[]⟩ : ByteArray) ([] : List (S42))).bind fun t106 => (if t106.toList = ([40, 41] : List UInt8) then (if t103 = 0 then (if (t101.length : Int) = 1 then (if 0 < (t101.length : Int) then (some ((((rd_T42 t101 0).f3).length : Int) == 2)) else (none)) else (none)) else (none)) else (none))) = some r := H
  have A1 := Aside0.mk A10
  clear A10
  replace H := Option.bind_eq_some_iff.mp H
  obtain ⟨t106, A20, H⟩ := H
  replace H : (if t106.toList = ([40, 41] : List UInt8) then (if t103 = 0 then (if (t101.length : Int) = 1 then (if 0 < (t101.length : Int) then (some ((((rd_T42 t101 0).f3).length : Int) == 2)) else (none)) else (none)) else (none)) else (none)) = some r := H
  have A2 := Aside0.mk A20
  clear A20
  by_cases c3 : t106.toList = ([40, 41] : List UInt8)
  · rw [if_pos c3] at H
    have c3b0 : (t106.toList == ([40, 41] : List UInt8)) = true := beq_iff_eq.mpr c3
    have c3b1 : (t106.toList != ([40, 41] : List UInt8)) = false := bne_eq_false_iff_eq.mpr c3
    clear c3
    by_cases c4 : t103 = 0
    · rw [if_pos c4] at H
      have c4b0 : (t103 == 0) = true := beq_iff_eq.mpr c4
      have c4b1 : (t103 != 0) = false := bne_eq_false_iff_eq.mpr c4
      clear c4
      by_cases c5 : (t101.length : Int) = 1
      · rw [if_pos c5] at H
        have c5b0 : ((t101.length : Int) == 1) = true := beq_iff_eq.mpr c5
        have c5b1 : ((t101.length : Int) != 1) = false := bne_eq_false_iff_eq.mpr c5
        clear c5
        by_cases c6 : 0 < (t101.length : Int)
        · rw [if_pos c6] at H
          have c6b0 : decide (0 < (t101.length : Int)) = true := decide_eq_true c6
          have c6b1 : decide (0 < t101.length) = true := decide_eq_true (by omega)
          clear c6
          obtain rfl := Option.some.inj H
          go_enter Tryd.func10, Tryd.ntmps10
          go_wp2_with (first | ((with_reducible refine gate_callee (f := 13) rfl ?_); refine goesL_ (some 5) rfl rfl Tryd.func13 (by kernel_rfl) rfl #[.string (⟨#[40, 97, 32, 40, 49, 41, 41]⟩ : ByteArray)] rfl (by (try simp only [List.map_toArray, List.map_cons, List.map_nil]); first | done | rfl | (simp only [List.length_drop, List.length_take]; rfl)) ?_; (with_reducible refine (forms_Parse.calls (⟨#[40, 97, 32, 40, 49, 41, 41]⟩ : ByteArray) t101 t102 t103 _ A1.out).mono ?_); rintro e w7 ⟨v104, rfl, ho0, hb⟩; refine ⟨_, rfl, ?_⟩; have n0_ := Aside0.mk (Kd.R_lower ho0 (below_size (by repeat (first | (with_reducible first | exact HB.out | apply below_alloc | apply pw_below_drewN | apply below_drew1) | exact HB.out)))); have n1_ := Aside0.mk (below_step (by repeat (first | (with_reducible first | exact HB.out | apply below_alloc | apply pw_below_drewN | apply below_drew1) | exact HB.out)) hb); clear HB; have HO105 := n0_; have HB := n1_; clear n0_ n1_; (try clear hb); (try clear hb2); (try clear hk); (try clear hi); (try clear ho0)) | ((with_reducible refine gate_callee (f := 19) rfl ?_); refine goesL_ (some 10) rfl rfl Tryd.func19 (by kernel_rfl) rfl #[.agg #[.int .i64 3, .int .i64 0, .string (⟨#[]⟩ : ByteArray), .slice none 0 0]] rfl (by (try simp only [List.map_toArray, List.map_cons, List.map_nil]); first | done | rfl | (simp only [List.length_drop, List.length_take]; rfl)) ?_; (refine (forms_Text.calls k 3 0 (⟨#[]⟩ : ByteArray) _ _ ([] : List (S42)) t106 _ ?sideT ?side1 ?side2 A2.out).mono ?_); (case sideT => exact TabP.below HTB.out (by repeat (first | (with_reducible first | exact HB.out | apply below_alloc | apply pw_below_drewN | apply below_drew1) | exact HB.out))); (case side1 => exact Kd.C_nil _ _); (case side2 => exact Nat.le_refl _); rintro e w8 ⟨rfl, hb⟩; refine ⟨_, rfl, ?_⟩; have n0_ := Aside0.mk (Kd.R_below (by (with_reducible repeat (first | apply Kd.R_alloc | apply Kd.R_drewN | apply Kd.R_drew)); exact HO105.out) hb); have n1_ := Aside0.mk (below_step (by repeat (first | (with_reducible first | exact HB.out | apply below_alloc | apply pw_below_drewN | apply below_drew1) | exact HB.out)) hb); clear HO105; clear HB; have HO105 := n0_; have HB := n1_; clear n0_ n1_; (try clear hb); (try clear hb2); (try clear hk); (try clear hi); obtain ⟨Ao9, co9, eo9⟩ := Kd.R_slice HO105.out; subst eo9; have p107 : 0 ≤ (0 : Int) := (by omega); have q107 : 0 < (t101.length : Int) := of_decide_eq_true (by first | (with_reducible assumption) | assumption); obtain ⟨ad107, A107_3, c107_3, e107, hx107_0, hx107_1, hx107_2, hx107_3, hl107_3, hi107_3⟩ := at_T42 (Kd.R_reads' HO105.out).2.2 0 p107 q107; cases e107; obtain ⟨ce107, hce107, hMe107, hcc107⟩ := Kd.R_get HO105.out z42 0 p107 (by first | exact q107 | exact of_decide_eq_true (by first | (with_reducible assumption) | assumption) | (have e_ := (Kd.R_reads' HO105.out).1; omega)); obtain ⟨ve107_3, rfl, ge107_3⟩ := k42_openM hMe107; have hv107_3 := hcc107 3 _ rfl; rw [add_field _ _ 3 (by omega)] at hv107_3; replace hv107_3 := Option.some.inj (hv107_3.symm.trans hx107_3); rw [hv107_3] at ge107_3; have HL107_3 := Aside0.mk (show Kd.R k42 42 _ _ _ _ ((rd_T42 t101 0).f3) from ge107_3); clear hv107_3 ge107_3; clear hcc107 hce107; have qi107 : (0 < t101.length) = True := eq_true (by omega); (try rw [show ((0 : Int)).toNat = 0 from rfl] at hx107_0); (try rw [show 0 * 4 = 0 from rfl] at hx107_0); (try rw [Addr.add_zero'] at hx107_0); (try rw [show ((0 : Int)).toNat = 0 from rfl] at hx107_1); (try rw [show 0 * 4 = 0 from rfl] at hx107_1); (try rw [Addr.add_zero'] at hx107_1); (try rw [show ((0 : Int)).toNat = 0 from rfl] at hx107_2); (try rw [show 0 * 4 = 0 from rfl] at hx107_2); (try rw [Addr.add_zero'] at hx107_2); (try rw [show ((0 : Int)).toNat = 0 from rfl] at hx107_3); (try rw [show 0 * 4 = 0 from rfl] at hx107_3); (try rw [Addr.add_zero'] at hx107_3); have HR107_3 := Aside0.mk hi107_3; have HC107_3 := Aside0.mk hl107_3; clear hi107_3 hl107_3; replace p107 := eq_true p107; replace q107 := eq_true q107))
          go_ret
          exact ⟨by first | rfl | (simp [errW_none, errW_some] <;> rfl) | (simp [*, errW_none, errW_some] <;> rfl), by repeat (first | (with_reducible first | exact HB.out | apply below_alloc | apply pw_below_drewN | apply below_drew1) | exact HB.out)⟩
        · rw [if_neg c6] at H
          exact absurd H (by simp)
      · rw [if_neg c5] at H
        exact absurd H (by simp)
    · rw [if_neg c4] at H
      exact absurd H (by simp)
  · rw [if_neg c3] at H
    exact absurd H (by simp)

-- GIVEN: function 12 (thyrsuslaw3_within)

-- GIVEN: function 21 (forms_Check)
end Go.Proofs.YtkkmgahgejjhgaaDoor.P
/- What the laws of chapter 3 share: the chapter's example, a number from 0 to n - 1. -/
namespace Go.Proofs.YtkkmgahgejjhgaaDoor.Pure
open Go.RowKit Go.Proofs.YtkkmgahgejjhgaaDoor.P Go.Proofs.YtkkmgahgejjhgaaDoorW.PrintWords Go.Proofs.YtkkmgahgejjhgaaDoorW.PrintLast
theorem wrap_ok (n : Int) (h0 : -9223372036854775808 ≤ n) (h1 : n ≤ 9223372036854775807) : wrap64 n = n := by
  unfold wrap64
  omega
theorem i64_of {n : Int} (h : (Lit.int .i64 n).wf = true) : -9223372036854775808 ≤ n ∧ n ≤ 9223372036854775807 := by
  have h1 : IntKind.i64.min ≤ n ∧ n ≤ 9223372036854775807 := by simpa [Lit.wf] using h
  exact h1
theorem within_val {a n : Int} (ha : -9223372036854775808 ≤ a ∧ a ≤ 9223372036854775807) (h0 : 0 < n) (hn : n ≤ 4611686018427387904) : thyrsuslaw3_within.f a n = some (a % n) := by
  unfold thyrsuslaw3_within.f
  rw [if_neg (by omega)]
  have h1 := Int.emod_nonneg a (show n ≠ 0 by omega)
  have h2 := Int.emod_lt_of_pos a h0
  by_cases h : 0 ≤ a
  · rw [Int.tmod_eq_emod_of_nonneg h, if_neg (by omega)]
  · have e := Int.tmod_eq_emod (a := a) (b := n)
    by_cases hd : n ∣ a
    · rw [if_pos (.inr hd)] at e
      have h3 := Int.emod_eq_zero_of_dvd hd
      rw [if_neg (by omega)]
      simp only [Option.some.injEq]
      omega
    · rw [if_neg (by omega)] at e
      rw [if_pos (by omega)]
      simp only [Option.some.injEq]
      unfold wrap64
      omega
theorem within_ex {a n : Int} (ha : -9223372036854775808 ≤ a ∧ a ≤ 9223372036854775807) (h0 : 0 < n) (hn : n ≤ 4611686018427387904) : ∃ t : Nat, (t : Int) < n ∧ thyrsuslaw3_within.f a n = some (t : Int) := by
  have h1 := Int.emod_nonneg a (show n ≠ 0 by omega)
  have h2 := Int.emod_lt_of_pos a h0
  refine ⟨(a % n).toNat, by omega, ?_⟩
  rw [within_val ha h0 hn]
  congr 1
  omega
theorem le_rounds {α : Type} {f : Nat → Option α} (hm : ∀ k, LeO (f k) (f (k + 1))) {k : Nat} {r : α} (h : f k = some r) : ∀ d, f (k + d) = some r
  | 0 => h
  | d + 1 => hm (k + d) r (le_rounds hm h d)
theorem known_k (d : Nat) : thyrsuslaw3_known.f (d + 3) = some true := by kernel_rfl
end Go.Proofs.YtkkmgahgejjhgaaDoor.Pure
/- Chapter 3's Count, Few, Make: what they come to: a form that may be, not too deep, not too great. No conditions but those that each theorem tells. -/
namespace Go.Proofs.YtkkmgahgejjhgaaDoor.Pure
open Go.RowKit Go.Proofs.YtkkmgahgejjhgaaDoor.P Go.Proofs.YtkkmgahgejjhgaaDoorW.PrintWords Go.Proofs.YtkkmgahgejjhgaaDoorW.PrintLast Go.Proofs.YtkkmgahgejjhgaaDoorW.PrintMore
set_option linter.unusedVariables false
set_option linter.unusedSimpArgs false
/-- Numbers of their kind, lists that memory can hold. -/
inductive WF38 : S38 → Prop
  | mk (a b : Int) (s : ByteArray) (l : List S38) (ha : (Lit.int .i64 a).wf = true) (hb : (Lit.int .i64 b).wf = true) (hn : l.length ≤ 9223372036854775807) (hl : ∀ x ∈ l, WF38 x) : WF38 ⟨a, b, s, l⟩
mutual
def size38 : S38 → Nat
  | ⟨_, _, _, l⟩ => 1 + sizes38 l
def sizes38 : List S38 → Nat
  | [] => 0
  | x :: l => size38 x + sizes38 l
end
theorem rd38 {l : List S38} {i : Nat} (h : i < l.length) : rd_T38 l (i : Int) = l[i] := by simp [rd_T38, h]
theorem rd42 {l : List S42} {i : Nat} (h : i < l.length) : rd_T42 l (i : Int) = l[i] := by simp [rd_T42, h]
theorem sizes38_drop {l : List S38} {i : Nat} (h : i < l.length) : sizes38 (l.drop i) = size38 l[i] + sizes38 (l.drop (i + 1)) := by
  rw [List.drop_eq_getElem_cons h]; rfl
theorem sizes38_len : ∀ l : List S38, l.length ≤ sizes38 l
  | [] => by simp [sizes38]
  | ⟨a, b, c, k⟩ :: l => by
    have := sizes38_len l
    simp [sizes38, size38]
    omega
theorem wrap_id {n : Int} (h : -9223372036854775808 ≤ n ∧ n ≤ 9223372036854775807) : wrap64 n = n := by unfold wrap64; omega
theorem count_ev {x : S38} (h : WF38 x) : ∀ m : Int, 1 ≤ m → m ≤ 1000000 → ∃ c : Int, Ev (fun k => thyrsuslaw3_Count.f k x.f0 x.f1 x.f2 x.f3 m) c ∧ 1 ≤ c ∧ c ≤ m ∧ (c < m → c = size38 x) := by
  induction h with
  | mk a b s l ha hb hn hl ih =>
    intro m hm hm2
    have loop : ∀ (d i : Nat) (n : Int), i + d = l.length → 1 ≤ n → n ≤ m → ∃ c : Int, Ev (fun k => thyrsuslaw3_Count.l0 k m n (i : Int) a b s l) c ∧ n ≤ c ∧ c ≤ m ∧ (c < m → c = n + sizes38 (l.drop i)) := by
      intro d
      induction d with
      | zero =>
        intro i n hi h1 h2
        refine ⟨n, Ev.step (f := fun _ => some n) (fun k => ?_) (Ev.now n), by omega, h2, fun _ => ?_⟩
        · simp only [thyrsuslaw3_Count.l0]
          rw [if_neg (by omega)]
        · rw [List.drop_of_length_le (by omega)]
          simp [sizes38]
      | succ d ihd =>
        intro i n hi h1 h2
        have hil : i < l.length := by omega
        by_cases hnm : n < m
        · obtain ⟨c1, e1, g1, g2, g3⟩ := ih l[i] (List.getElem_mem hil) (m - n) (by omega) (by omega)
          obtain ⟨c, e2, q1, q2, q3⟩ := ihd (i + 1) (n + c1) (by omega) (by omega) (by omega)
          refine ⟨c, Ev.step (f := fun k => (thyrsuslaw3_Count.f k l[i].f0 l[i].f1 l[i].f2 l[i].f3 (m - n)).bind fun t => thyrsuslaw3_Count.l0 k m (wrap64 (n + t)) (wrap64 ((i : Int) + 1)) a b s l) (fun k => ?_) (Ev.bind e1 ?_), by omega, q2, fun hc => ?_⟩
          · simp only [thyrsuslaw3_Count.l0]
            rw [if_pos (by omega), if_pos hnm, if_pos (by omega), rd38 hil, wrap_id (n := m - n) (by omega)]
          · rw [wrap_id (n := n + c1) (by omega), wrap_id (n := (i : Int) + 1) (by omega)]
            exact e2
          · rw [q3 hc, sizes38_drop hil]
            have := g3 (by omega)
            omega
        · refine ⟨n, Ev.step (f := fun _ => some n) (fun k => ?_) (Ev.now n), by omega, h2, fun hc => by omega⟩
          simp only [thyrsuslaw3_Count.l0]
          rw [if_pos (by omega), if_neg hnm]
    obtain ⟨c, e, q1, q2, q3⟩ := loop l.length 0 1 (by omega) (by omega) (by omega)
    refine ⟨c, Ev.step (f := fun k => thyrsuslaw3_Count.l0 k m 1 0 a b s l) (fun k => by simp only [thyrsuslaw3_Count.f]) e, q1, q2, fun hc => ?_⟩
    rw [q3 hc]
    simp [size38]
/-- Few raw nodes, or not; if few, that many there are. -/
theorem few_ev {x : S38} (h : WF38 x) : ∃ b : Bool, Ev (fun k => thyrsuslaw3_Few.f k x.f0 x.f1 x.f2 x.f3) b ∧ (b = true → size38 x < 200) := by
  obtain ⟨c, e, _, h2, h3⟩ := count_ev h 200 (by omega) (by omega)
  refine ⟨decide (c < 200), ?_, fun hb => ?_⟩
  · unfold thyrsuslaw3_Few.f
    exact Ev.bind e (Ev.now _)
  · have hc : c < 200 := by simpa using hb
    have := h3 hc
    omega
/-- The names that Make takes. -/
def names : List ByteArray := [⟨#[97]⟩, ⟨#[98]⟩, ⟨#[102, 110]⟩, ⟨#[45, 62]⟩, ⟨#[42]⟩, ⟨#[122, 101, 114, 111]⟩, ⟨#[120, 39]⟩, ⟨#[95]⟩, ⟨#[85, 48]⟩, ⟨#[112, 97, 105, 114]⟩]
/-- A form that Make makes, so deep. -/
inductive Fine : Nat → S42 → Prop
  | name (n : Nat) (s : ByteArray) (h : s ∈ names) : Fine n ⟨1, 0, s, []⟩
  | num (n : Nat) (z : Int) (h : -549755813888 ≤ z ∧ z < 549755813888) : Fine n ⟨2, z, ⟨#[]⟩, []⟩
  | list (n : Nat) (l : List S42) (h : ∀ x ∈ l, Fine n x) : Fine (n + 1) ⟨3, 0, ⟨#[]⟩, l⟩
mutual
def size42 : S42 → Nat
  | ⟨_, _, _, l⟩ => 1 + sizes42 l
def sizes42 : List S42 → Nat
  | [] => 0
  | x :: l => size42 x + sizes42 l
end
theorem sizes42_snoc : ∀ (l : List S42) (x : S42), sizes42 (l ++ [x]) = sizes42 l + size42 x
  | [], x => by simp [sizes42]
  | y :: l, x => by
    simp only [List.cons_append, sizes42, sizes42_snoc l x]
    omega
theorem sizes42_len : ∀ l : List S42, l.length ≤ sizes42 l
  | [] => by simp [sizes42]
  | ⟨a, b, c, k⟩ :: l => by
    have := sizes42_len l
    simp [sizes42, size42]
    omega
theorem eta42 (x : S42) : (⟨x.f0, x.f1, x.f2, x.f3⟩ : S42) = x := by cases x; rfl
theorem make_ev {x : S38} (h : WF38 x) : ∀ (n : Nat), n ≤ 1000 → size38 x ≤ 1000 → ∃ t : S42, Ev (fun k => thyrsuslaw3_Make.f k x.f0 x.f1 x.f2 x.f3 (n : Int)) (t.f0, t.f1, t.f2, t.f3) ∧ Fine n t ∧ size42 t ≤ size38 x := by
  induction h with
  | mk a b s l ha hb hn hl ih =>
    intro n hn1 hs
    have w1 := within_val (i64_of ha) (n := 3) (by decide) (by decide)
    have m1 := Int.emod_nonneg a (show (3 : Int) ≠ 0 by decide)
    have m2 := Int.emod_lt_of_pos a (show (0 : Int) < 3 by decide)
    have w2 := within_val (i64_of hb) (n := 10) (by decide) (by decide)
    have p1 := Int.emod_nonneg b (show (10 : Int) ≠ 0 by decide)
    have p2 := Int.emod_lt_of_pos b (show (0 : Int) < 10 by decide)
    have w3 := within_val (i64_of hb) (n := 1099511627776) (by decide) (by decide)
    have q1 := Int.emod_nonneg b (show (1099511627776 : Int) ≠ 0 by decide)
    have q2 := Int.emod_lt_of_pos b (show (0 : Int) < 1099511627776 by decide)
    have hw : wrap64 (1 + a % 3) = 1 + a % 3 := wrap_id (by omega)
    -- a name
    have hname : ∀ x5 : Int, ∃ t : S42, (∀ k, thyrsuslaw3_Make.j0 (k + 1) (n : Int) x5 false a b s l = some (t.f0, t.f1, t.f2, t.f3)) ∧ Fine n t ∧ size42 t ≤ size38 ⟨a, b, s, l⟩ := by
      intro x5
      obtain ⟨j, hj⟩ : ∃ j : Nat, b % 10 = (j : Int) := ⟨(b % 10).toNat, by omega⟩
      have hj2 : j < 10 := by omega
      have hm : rdOf ByteArray.empty names (j : Int) ∈ names := by
        have hl : j < names.length := hj2
        rw [show rdOf ByteArray.empty names (j : Int) = names[j] by simp [rdOf, hl]]
        exact List.getElem_mem hl
      refine ⟨⟨1, 0, rdOf ByteArray.empty names (j : Int), []⟩, fun k => ?_, Fine.name _ _ hm, by simp [size42, sizes42, size38]⟩
      simp only [thyrsuslaw3_Make.j0]
      rw [if_neg (by decide), Option.bind_some, w2, Option.bind_some, if_pos p1]
      refine (if_pos (show b % 10 < (names.length : Int) from p2)).trans ?_
      rw [hj]
      rfl
    by_cases c2 : 1 + a % 3 = 2
    · have hz : wrap64 (b % 1099511627776 - 549755813888) = b % 1099511627776 - 549755813888 := wrap_id (by omega)
      refine ⟨⟨2, b % 1099511627776 - 549755813888, ⟨#[]⟩, []⟩, Ev.step (f := fun _ => some (2, b % 1099511627776 - 549755813888, ⟨#[]⟩, [])) (fun k => ?_) (Ev.now _), Fine.num _ _ (by omega), by simp [size42, sizes42, size38]⟩
      simp only [thyrsuslaw3_Make.f]
      rw [w1, Option.bind_some, hw, if_pos c2, w3, Option.bind_some, hz, c2]
    by_cases c3 : 1 + a % 3 = 3
    · cases n with
      | zero =>
        obtain ⟨t, ht, h1, h2⟩ := hname 3
        refine ⟨t, Ev.step (f := fun k => thyrsuslaw3_Make.j0 k ((0 : Nat) : Int) 3 false a b s l) (fun k => ?_) (Ev.step (f := fun _ => some (t.f0, t.f1, t.f2, t.f3)) ht (Ev.now _)), h1, h2⟩
        simp only [thyrsuslaw3_Make.f]
        rw [w1, Option.bind_some, hw, if_neg c2, if_pos c3, c3]
        rfl
      | succ n =>
        have loop : ∀ (d i : Nat) (acc : List S42), i + d = l.length → (∀ x ∈ acc, Fine n x) → sizes42 acc + sizes38 (l.drop i) ≤ 1000 → ∃ ks, Ev (fun k => thyrsuslaw3_Make.l0 k ((n + 1 : Nat) : Int) (i : Int) a b s l 3 0 ⟨#[]⟩ acc) (3, 0, ⟨#[]⟩, ks) ∧ (∀ x ∈ ks, Fine n x) ∧ sizes42 ks ≤ sizes42 acc + sizes38 (l.drop i) := by
          intro d
          induction d with
          | zero =>
            intro i acc hi hf hinv
            refine ⟨acc, Ev.step (f := fun _ => some (3, 0, ⟨#[]⟩, acc)) (fun k => ?_) (Ev.now _), hf, by omega⟩
            simp only [thyrsuslaw3_Make.l0]
            rw [if_neg (by omega)]
          | succ d ihd =>
            intro i acc hi hf hinv
            have hil : i < l.length := by omega
            have hlen := sizes42_len acc
            have hl9 : l.length ≤ 1000 := Nat.le_trans (sizes38_len l) (by simp only [size38] at hs; omega)
            rw [sizes38_drop hil] at hinv ⊢
            obtain ⟨t, et, f1, f2⟩ := ih l[i] (List.getElem_mem hil) n (by omega) (by omega)
            obtain ⟨ks, e2, g1, g2⟩ := ihd (i + 1) (acc ++ [t]) (by omega) (fun x hx => by rcases List.mem_append.1 hx with hx | hx; exact hf x hx; rw [List.mem_singleton.1 hx]; exact f1) (by rw [sizes42_snoc]; omega)
            rw [sizes42_snoc] at g2
            refine ⟨ks, Ev.step (f := fun k => (thyrsuslaw3_Make.f k l[i].f0 l[i].f1 l[i].f2 l[i].f3 (n : Int)).bind fun bt => thyrsuslaw3_Make.l0 k ((n + 1 : Nat) : Int) ((i + 1 : Nat) : Int) a b s l 3 0 ⟨#[]⟩ (acc ++ [(⟨bt.1, bt.2.1, bt.2.2.1, bt.2.2.2⟩ : S42)])) (fun k => ?_) (Ev.bind et ?_), g1, by omega⟩
            · simp only [thyrsuslaw3_Make.l0]
              rw [if_pos (by omega), if_pos (by omega), rd38 hil, wrap_id (n := ((n + 1 : Nat) : Int) - 1) (by omega), wrap_id (n := (i : Int) + 1) (by omega), show ((n + 1 : Nat) : Int) - 1 = (n : Int) by omega]
              simp only [if_pos (show acc.length < 2513169434916 by omega)]
              rfl
            · simp only [eta42]
              exact e2
        simp only [size38] at hs
        obtain ⟨ks, e1, g1, g2⟩ := loop l.length 0 [] (by omega) (fun x hx => by simp at hx) (by simp only [sizes42, List.drop_zero]; omega)
        refine ⟨⟨3, 0, ⟨#[]⟩, ks⟩, Ev.step (f := fun k => thyrsuslaw3_Make.j0 k ((n + 1 : Nat) : Int) 3 true a b s l) (fun k => ?_) (Ev.step (f := fun k => thyrsuslaw3_Make.l0 k ((n + 1 : Nat) : Int) ((0 : Nat) : Int) a b s l 3 0 ⟨#[]⟩ []) (fun k => ?_) e1), Fine.list _ _ g1, ?_⟩
        · simp only [thyrsuslaw3_Make.f]
          rw [w1, Option.bind_some, hw, if_neg c2, if_pos c3, c3, show decide (((n + 1 : Nat) : Int) > 0) = true from decide_eq_true (by omega)]
        · simp only [thyrsuslaw3_Make.j0, if_true]
          rfl
        · simp only [size42, size38]
          simp only [sizes42, List.drop_zero] at g2
          omega
    · have c1 : 1 + a % 3 = 1 := by omega
      obtain ⟨t, ht, h1, h2⟩ := hname 1
      refine ⟨t, Ev.step (f := fun k => thyrsuslaw3_Make.j0 k (n : Int) 1 false a b s l) (fun k => ?_) (Ev.step (f := fun _ => some (t.f0, t.f1, t.f2, t.f3)) ht (Ev.now _)), h1, h2⟩
      simp only [thyrsuslaw3_Make.f]
      rw [w1, Option.bind_some, hw, if_neg c2, if_neg c3, c1]
end Go.Proofs.YtkkmgahgejjhgaaDoor.Pure
/- Chapter 3's texts, plainly: what forms.Text and the reference's Text come to, of a form that Make makes. No conditions but those that each theorem tells. -/
namespace Go.Proofs.YtkkmgahgejjhgaaDoor.Pure
open Go.RowKit Go.Proofs.YtkkmgahgejjhgaaDoor.P Go.Proofs.YtkkmgahgejjhgaaDoor.Lex Go.Proofs.YtkkmgahgejjhgaaDoorW.PrintWords Go.Proofs.YtkkmgahgejjhgaaDoorW.PrintLast Go.Proofs.YtkkmgahgejjhgaaDoorW.PrintMore
set_option linter.unusedVariables false
set_option linter.unusedSimpArgs false
mutual
/-- A form's text. -/
def tx : S42 → List UInt8
  | ⟨k, z, s, l⟩ => if k = 1 then lst s else if k = 2 then Lib.itoa z else 40 :: (txs l ++ [41])
/-- The texts of a list's forms. -/
def txs : List S42 → List UInt8
  | [] => []
  | x :: l => tx x ++ txr l
/-- .. of those behind the first one. -/
def txr : List S42 → List UInt8
  | [] => []
  | x :: l => 32 :: (tx x ++ txr l)
end
theorem txr_map : ∀ l : List S42, txr l = Lib.joinTail [32] (l.map tx)
  | [] => rfl
  | x :: l => by
    rw [txr, txr_map l]
    simp [Lib.joinTail]
theorem txs_join (l : List S42) : txs l = Lib.join (l.map tx) [32] := by
  cases l with
  | nil => rfl
  | cons x l =>
    rw [txs, txr_map, List.map_cons, Lib.join_cons]
theorem dec_len : ∀ (d n : Nat), n < 10 ^ (d + 1) → (Lib.decDigits n).length ≤ d + 1
  | 0, n, h => by
    rw [Lib.decDigits, dif_pos (by simpa using h)]
    simp
  | d + 1, n, h => by
    rw [Lib.decDigits]
    split
    · simp
    · rw [List.length_append, List.length_singleton]
      have := dec_len d (n / 10) (by rw [Nat.pow_succ] at h; omega)
      omega
theorem itoa_len {z : Int} (h : -549755813888 ≤ z ∧ z < 549755813888) : (Lib.itoa z).length ≤ 13 := by
  unfold Lib.itoa
  split
  · have := dec_len 11 z.natAbs (by show z.natAbs < 1000000000000; omega)
    rw [List.length_cons]
    omega
  · have := dec_len 11 z.toNat (by show z.toNat < 1000000000000; omega)
    omega
theorem names_len : ∀ s ∈ names, (lst s).length ≤ 4 := by decide
mutual
theorem tx_len {n : Nat} {t : S42} (h : Fine n t) : (tx t).length + 1 ≤ 16 * size42 t := by
  match t, h with
  | _, .name _ s hs =>
    have := names_len s hs
    simp only [tx, if_true, size42, sizes42]
    omega
  | _, .num _ z hz =>
    have := itoa_len hz
    simp only [tx, size42, sizes42, if_true]
    rw [if_neg (by decide)]
    omega
  | _, .list m l hl =>
    have := txs_len l hl
    simp only [tx, size42]
    rw [if_neg (by decide), if_neg (by decide), List.length_cons, List.length_append, List.length_singleton]
    omega
theorem txs_len {n : Nat} (l : List S42) (h : ∀ x ∈ l, Fine n x) : (txs l).length ≤ 16 * sizes42 l := by
  match l with
  | [] => simp [txs, sizes42]
  | x :: l =>
    have h1 := tx_len (h x (by simp))
    have h2 := txr_len l (fun y hy => h y (by simp [hy]))
    simp only [txs, sizes42, List.length_append]
    omega
theorem txr_len {n : Nat} (l : List S42) (h : ∀ x ∈ l, Fine n x) : (txr l).length ≤ 16 * sizes42 l := by
  match l with
  | [] => simp [txr, sizes42]
  | x :: l =>
    have h1 := tx_len (h x (by simp))
    have h2 := txr_len l (fun y hy => h y (by simp [hy]))
    simp only [txr, sizes42, List.length_append, List.length_cons]
    omega
end
theorem lst_mk (l : List UInt8) : lst ⟨l.toArray⟩ = l := by simp [lst]
theorem sizes42_drop {l : List S42} {i : Nat} (h : i < l.length) : sizes42 (l.drop i) = size42 l[i] + sizes42 (l.drop (i + 1)) := by
  rw [List.drop_eq_getElem_cons h]; rfl
theorem sizes42_mem : ∀ (l : List S42) (x : S42), x ∈ l → size42 x ≤ sizes42 l
  | y :: l, x, h => by
    rcases List.mem_cons.1 h with rfl | h
    · simp [sizes42]
    · have := sizes42_mem l x h
      simp only [sizes42]
      omega
theorem text_ev {n : Nat} {t : S42} (h : Fine n t) (hs : size42 t ≤ 1000) : ∃ b : ByteArray, Ev (fun k => forms_Text.f k t.f0 t.f1 t.f2 t.f3) b ∧ lst b = tx t := by
  induction h with
  | name n s hm => exact ⟨s, Ev.step (f := fun _ => some s) (fun k => by simp only [forms_Text.f]; rfl) (Ev.now _), by simp [tx]⟩
  | num n z hz =>
    refine ⟨⟨(Lib.itoa z).toArray⟩, Ev.step (f := fun _ => some ⟨(Lib.itoa z).toArray⟩) (fun k => ?_) (Ev.now _), by simp [tx, lst_mk]⟩
    simp only [forms_Text.f, if_true]
    rw [if_neg (by decide)]
    unfold strconv_Itoa.f
    rw [if_pos (by omega)]
    rfl
  | list n l hl ih =>
    simp only [size42] at hs
    have hlen : l.length ≤ 1000 := Nat.le_trans (sizes42_len l) (by omega)
    have htx := txs_len l hl
    have loop : ∀ (d i : Nat) (acc : List ByteArray), i + d = l.length → acc.map lst = (l.take i).map tx → ∃ b : ByteArray, Ev (fun k => forms_Text.l0 k acc l (l.length : Int) (i : Int)) b ∧ lst b = 40 :: (txs l ++ [41]) := by
      intro d
      induction d with
      | zero =>
        intro i acc hi hacc
        obtain rfl : i = l.length := by omega
        rw [List.take_length] at hacc
        have hal : acc.length = l.length := by
          have := congrArg List.length hacc
          simpa using this
        have hj : Lib.join (acc.map (·.data.toList)) (⟨#[32]⟩ : ByteArray).data.toList = txs l := by
          rw [txs_join, ← hacc]
          rfl
        have hJ : strings_Join.f acc (⟨#[32]⟩ : ByteArray) = some ⟨(txs l).toArray⟩ := by
          unfold strings_Join.f
          rw [hj, if_pos (by omega)]
        have hz : (⟨(txs l).toArray⟩ : ByteArray).size = (txs l).length := by rw [← lst_len, lst_mk]
        refine ⟨((⟨#[40]⟩ : ByteArray) ++ ⟨(txs l).toArray⟩) ++ (⟨#[41]⟩ : ByteArray), Ev.step (f := fun _ => some (((⟨#[40]⟩ : ByteArray) ++ ⟨(txs l).toArray⟩) ++ (⟨#[41]⟩ : ByteArray))) (fun k => ?_) (Ev.now _), ?_⟩
        · simp only [forms_Text.l0]
          rw [if_neg (by omega), hJ, Option.bind_some, if_pos (by rw [hz]; omega), if_pos (by rw [ByteArray.size_append, hz, szA1]; omega)]
        · rw [lst_append, lst_append, lst_mk]
          rfl
      | succ d ihd =>
        intro i acc hi hacc
        have hil : i < l.length := by omega
        have hsz : size42 l[i] ≤ sizes42 l := by
          have h1 := sizes42_mem l l[i] (List.getElem_mem hil)
          exact h1
        obtain ⟨t, et, ht⟩ := ih l[i] (List.getElem_mem hil) (by omega)
        have hal : acc.length = i := by
          have := congrArg List.length hacc
          simp at this
          omega
        obtain ⟨b, e2, hb⟩ := ihd (i + 1) (acc ++ [t]) (by omega) (by rw [List.map_append, hacc, List.take_succ_eq_append_getElem hil, List.map_append]; simp [ht])
        refine ⟨b, Ev.step (f := fun k => (forms_Text.f k l[i].f0 l[i].f1 l[i].f2 l[i].f3).bind fun t => forms_Text.l0 k (acc ++ [t]) l (l.length : Int) ((i + 1 : Nat) : Int)) (fun k => ?_) (Ev.bind et e2), hb⟩
        simp only [forms_Text.l0]
        rw [if_pos (by omega), if_pos (by omega), if_pos (by omega), rd42 hil, wrap_id (n := (i : Int) + 1) (by omega)]
        simp only [if_pos (show acc.length < 8796093022208 by omega)]
        rfl
    obtain ⟨b, e1, hb⟩ := loop l.length 0 [] (by omega) (by simp)
    refine ⟨b, Ev.step (f := fun k => forms_Text.l0 k [] l (l.length : Int) ((0 : Nat) : Int)) (fun k => ?_) e1, ?_⟩
    · simp only [forms_Text.f]
      rw [if_neg (by decide), if_neg (by decide)]
      rfl
    · rw [hb]
      simp [tx]
end Go.Proofs.YtkkmgahgejjhgaaDoor.Pure
/- Chapter 3's texts read back, plainly: a made form's text is read as just that form. No conditions but those that each theorem tells. -/
namespace Go.Proofs.YtkkmgahgejjhgaaDoor.Pure
open Go.RowKit Go.Proofs.YtkkmgahgejjhgaaDoor.P Go.Proofs.YtkkmgahgejjhgaaDoor.Lex Go.Proofs.YtkkmgahgejjhgaaDoor.Frm Go.Proofs.YtkkmgahgejjhgaaDoorW.PrintWords Go.Proofs.YtkkmgahgejjhgaaDoorW.PrintLast Go.Proofs.YtkkmgahgejjhgaaDoorW.PrintMore
set_option linter.unusedVariables false
set_option linter.unusedSimpArgs false
/-- No byte that may stand in a name begins it. -/
def Delim (r : List UInt8) : Prop := spn pInner r = 0
theorem spn_app {p : Int → Bool} : ∀ (l r : List UInt8), (∀ c ∈ l, p (c.toNat : Int) = true) → spn p (l ++ r) = l.length + spn p r
  | [], r, _ => by simp
  | c :: l, r, h => by
    rw [List.cons_append, spn, if_pos (h c (by simp)), spn_app l r (fun d hd => h d (by simp [hd]))]
    simp only [List.length_cons]
    omega
theorem delim_digit {r : List UInt8} (h : Delim r) : spn pDigit r = 0 := by
  cases r with
  | nil => rfl
  | cons c r =>
    unfold Delim at h
    rw [spn] at h ⊢
    by_cases hd : pDigit (c.toNat : Int) = true
    · rw [if_pos (by unfold pInner; rw [hd]; simp)] at h
      omega
    · rw [if_neg hd]
theorem nb_0 (c : UInt8) (l : List UInt8) : nb (c :: l) 0 = (c.toNat : Int) := rfl
theorem nb_1 (c d : UInt8) (l : List UInt8) : nb (c :: d :: l) 1 = (d.toNat : Int) := rfl
/-- A token is taken: no blank ahead of it. -/
theorem tok_step {l : List UInt8} {k v : Int} {m : Nat} (hb : blk false l = 0) (hl : 0 < l.length) (hn : nextT l = (k, v, m, 0)) (f p : Nat) (acc : List S63) :
    toks (f + 1) l p acc = toks f (l.drop m) (p + m) (acc ++ [⟨k, v, (p : Int), txt k l m⟩]) := by
  rw [toks, hb, List.drop_zero, if_neg (by omega), hn, if_pos rfl, Nat.add_zero]
/-- Blanks are passed over. -/
theorem tok_blank {s w : List UInt8} (h : blk false (s ++ w) = s.length + blk false w) (f p : Nat) (acc : List S63) : toks (f + 1) (s ++ w) p acc = toks (f + 1) w (p + s.length) acc := by
  have hd : (s ++ w).drop (s.length + blk false w) = w.drop (blk false w) := by
    rw [← List.drop_drop, List.drop_left]
  rw [toks, toks, h, hd]
  simp only [Nat.add_assoc]
theorem blk_32 (w : List UInt8) : blk false ([32] ++ w) = ([32] : List UInt8).length + blk false w := by
  show blk false (32 :: w) = _
  rw [blk_f, if_pos (by decide)]
  simp only [List.length_singleton]
  omega
theorem blk_no {c : UInt8} {r : List UInt8} (h1 : pBlank (c.toNat : Int) = false) (h2 : (c.toNat : Int) ≠ 59) : blk false (c :: r) = 0 := by
  rw [blk_f, if_neg (by rw [h1]; decide), if_neg h2]
/-- A token of kind 3, whole. -/
theorem next_name {s : ByteArray} (hs : s ∈ names) {r : List UInt8} (hr : Delim r) : blk false (lst s ++ r) = 0 ∧ nextT (lst s ++ r) = (3, 0, (lst s).length, 0) := by
  have gen : ∀ (c : UInt8) (l : List UInt8), pFront (c.toNat : Int) = true → (∀ d ∈ c :: l, pInner (d.toNat : Int) = true) → (c :: l).length ≤ 20 → pBlank (c.toNat : Int) = false → (c.toNat : Int) ≠ 59 → (c.toNat : Int) ≠ 40 → (c.toNat : Int) ≠ 41 → (c.toNat : Int) ≠ 42 → (c.toNat : Int) ≠ 45 →
      blk false ((c :: l) ++ r) = 0 ∧ nextT ((c :: l) ++ r) = (3, 0, (c :: l).length, 0) := by
    intro c l h1 h2 h3 h4 h5 h6 h7 h8 h9
    have e : spn pInner ((c :: l) ++ r) = (c :: l).length := by
      rw [spn_app _ _ h2]
      have : spn pInner r = 0 := hr
      omega
    refine ⟨blk_no h4 h5, ?_⟩
    unfold nextT
    rw [e]
    rw [show nb ((c :: l) ++ r) 0 = (c.toNat : Int) from rfl, if_neg h6, if_neg h7, if_neg h8, if_neg (fun h => h9 h.1), if_pos h1, if_neg (by omega)]
  have hc : s = ⟨#[97]⟩ ∨ s = ⟨#[98]⟩ ∨ s = ⟨#[102, 110]⟩ ∨ s = ⟨#[45, 62]⟩ ∨ s = ⟨#[42]⟩ ∨ s = ⟨#[122, 101, 114, 111]⟩ ∨ s = ⟨#[120, 39]⟩ ∨ s = ⟨#[95]⟩ ∨ s = ⟨#[85, 48]⟩ ∨ s = ⟨#[112, 97, 105, 114]⟩ := by simpa [names] using hs
  rcases hc with rfl | rfl | rfl | rfl | rfl | rfl | rfl | rfl | rfl | rfl
  · exact gen 97 [] (by decide) (by decide) (by decide) (by decide) (by decide) (by decide) (by decide) (by decide) (by decide)
  · exact gen 98 [] (by decide) (by decide) (by decide) (by decide) (by decide) (by decide) (by decide) (by decide) (by decide)
  · exact gen 102 [110] (by decide) (by decide) (by decide) (by decide) (by decide) (by decide) (by decide) (by decide) (by decide)
  · refine ⟨blk_no (by decide) (by decide), ?_⟩
    show nextT (45 :: 62 :: r) = (3, 0, 2, 0)
    unfold nextT
    rw [nb_0, nb_1, if_neg (by decide), if_neg (by decide), if_neg (by decide), if_pos ⟨by decide, by simp, by decide⟩]
  · refine ⟨blk_no (by decide) (by decide), ?_⟩
    show nextT (42 :: r) = (3, 0, 1, 0)
    unfold nextT
    rw [nb_0, if_neg (by decide), if_neg (by decide), if_pos (by decide)]
  · exact gen 122 [101, 114, 111] (by decide) (by decide) (by decide) (by decide) (by decide) (by decide) (by decide) (by decide) (by decide)
  · exact gen 120 [39] (by decide) (by decide) (by decide) (by decide) (by decide) (by decide) (by decide) (by decide) (by decide)
  · exact gen 95 [] (by decide) (by decide) (by decide) (by decide) (by decide) (by decide) (by decide) (by decide) (by decide)
  · exact gen 85 [48] (by decide) (by decide) (by decide) (by decide) (by decide) (by decide) (by decide) (by decide) (by decide)
  · exact gen 112 [97, 105, 114] (by decide) (by decide) (by decide) (by decide) (by decide) (by decide) (by decide) (by decide) (by decide)
/-! ### Numbers -/
theorem dig (n : Nat) (h : n < 10) : ((UInt8.ofNat (48 + n)).toNat : Int) = 48 + n := by
  rw [UInt8.toNat_ofNat']
  omega
theorem dec_digits : ∀ (n : Nat), ∀ c ∈ Lib.decDigits n, pDigit (c.toNat : Int) = true := by
  intro n
  induction n using Nat.strongRecOn with
  | _ n ih =>
    intro c hc
    rw [Lib.decDigits] at hc
    have one : ∀ m, m < 10 → pDigit ((UInt8.ofNat (48 + m)).toNat : Int) = true := by
      intro m hm
      rw [dig m hm]
      unfold pDigit
      simp
      omega
    split at hc
    · rename_i h
      rw [List.mem_singleton.1 hc]
      exact one n h
    · rename_i h
      rcases List.mem_append.1 hc with hc | hc
      · exact ih (n / 10) (by omega) c hc
      · rw [List.mem_singleton.1 hc]
        exact one (n % 10) (by omega)
theorem dec_pos (n : Nat) : ∃ c l, Lib.decDigits n = c :: l := by
  rw [Lib.decDigits]
  split
  · exact ⟨_, _, rfl⟩
  · cases h : Lib.decDigits (n / 10) with
    | nil => exact ⟨_, _, rfl⟩
    | cons c l => exact ⟨_, _, rfl⟩
theorem numD_snoc : ∀ (l : List UInt8) (c : UInt8) (a : Int), numD (l ++ [c]) a = (numD l a).bind (fun n => numD [c] n)
  | [], c, a => by simp [numD]
  | d :: l, c, a => by
    rw [List.cons_append, numD, numD]
    split
    · rfl
    · exact numD_snoc l c _
theorem numD_dec : ∀ (n : Nat), n ≤ 4611686018427387904 → numD (Lib.decDigits n) 0 = some (n : Int) := by
  intro n
  induction n using Nat.strongRecOn with
  | _ n ih =>
    intro hn
    rw [Lib.decDigits]
    split
    · rename_i h
      rw [numD, dig n h, if_neg (by omega), numD]
      congr 1
      omega
    · rename_i h
      rw [numD_snoc, ih (n / 10) (by omega) (by omega), Option.bind_some, numD, dig (n % 10) (by omega), if_neg (by omega), numD]
      congr 1
      omega
theorem next_num {z : Int} (hz : -549755813888 ≤ z ∧ z < 549755813888) {r : List UInt8} (hr : Delim r) : blk false (Lib.itoa z ++ r) = 0 ∧ nextT (Lib.itoa z ++ r) = (4, z, (Lib.itoa z).length, 0) := by
  have dg : ∀ c : Int, pDigit c = true → 48 ≤ c ∧ c ≤ 57 := by
    intro c h
    unfold pDigit at h
    simpa using h
  have nf : ∀ c : Int, 48 ≤ c ∧ c ≤ 57 → pFront c = false := by
    intro c h
    unfold pFront
    simp
    omega
  unfold Lib.itoa
  by_cases h : z < 0
  · rw [if_pos h]
    obtain ⟨c, l, e⟩ := dec_pos z.natAbs
    have hd := dec_digits z.natAbs
    have hnum := numD_dec z.natAbs (by omega)
    rw [e] at hd hnum ⊢
    have hc := dg _ (hd c (by simp))
    have hs : spn pDigit ((c :: l) ++ r) = (c :: l).length := by
      rw [spn_app _ _ hd, delim_digit hr]
      omega
    refine ⟨blk_no (by decide) (by decide), ?_⟩
    show nextT (45 :: ((c :: l) ++ r)) = (4, z, (45 :: c :: l).length, 0)
    have hsg : sgn (45 :: ((c :: l) ++ r)) = 1 + (c :: l).length := by
      unfold sgn
      rw [nb_0, if_pos (by decide), List.drop_succ_cons, List.drop_zero, hs, if_pos (by simp)]
    have htk : (45 :: ((c :: l) ++ r)).take (1 + (c :: l).length) = 45 :: c :: l := by
      rw [Nat.add_comm, List.take_succ_cons, List.take_left]
    have hnm : num (45 :: c :: l) = some z := by
      unfold num
      rw [nb_0, if_pos (by decide), List.drop_succ_cons, List.drop_zero, hnum]
      simp only [Option.map_some, Option.some.injEq]
      omega
    unfold nextT
    rw [nb_0, hsg, htk, hnm, if_neg (by decide), if_neg (by decide), if_neg (by decide)]
    rw [if_neg (by
      rintro ⟨-, -, h2⟩
      rw [List.cons_append, nb_1] at h2
      omega), if_neg (by decide), if_neg (by simp)]
    simp only [List.length_cons]
    congr 3
    omega
  · rw [if_neg h]
    obtain ⟨c, l, e⟩ := dec_pos z.toNat
    have hd := dec_digits z.toNat
    have hnum := numD_dec z.toNat (by omega)
    rw [e] at hd hnum ⊢
    have hc := dg _ (hd c (by simp))
    have hs : spn pDigit ((c :: l) ++ r) = (c :: l).length := by
      rw [spn_app _ _ hd, delim_digit hr]
      omega
    refine ⟨blk_no (by unfold pBlank; simp; omega) (by omega), ?_⟩
    have hsg : sgn ((c :: l) ++ r) = (c :: l).length := by
      unfold sgn
      rw [List.cons_append, nb_0, if_neg (by omega), ← List.cons_append, hs]
    have htk : ((c :: l) ++ r).take (c :: l).length = c :: l := List.take_left
    have hnm : num (c :: l) = some z := by
      unfold num
      rw [nb_0, if_neg (by omega), hnum]
      simp only [Option.some.injEq]
      omega
    unfold nextT
    rw [hsg, htk, hnm, show nb ((c :: l) ++ r) 0 = (c.toNat : Int) from rfl, if_neg (by omega), if_neg (by omega), if_neg (by omega), if_neg (by omega), if_neg (by rw [nf _ hc]; decide), if_neg (by simp)]
/-! ### Forms -/
/-- A text's tokens are just these, and they put that form behind the others. -/
def Par (n : Nat) (ts : List S63) (w : List UInt8) (xs : List S42) (p : Nat) (r : List UInt8) : Prop :=
  (∀ f acc, toks (f + ts.length) (w ++ r) p acc = toks f r (p + w.length) (acc ++ ts)) ∧ (∀ q st top sz, st.length + n ≤ 30 → frun (ts ++ q) st top sz = frun q st (top ++ xs) sz) ∧ ts.length ≤ w.length ∧ (xs ≠ [] → 0 < ts.length)
theorem names_pos : ∀ s ∈ names, 0 < (lst s).length := by decide
theorem txt_name {s : ByteArray} {r : List UInt8} : txt 3 (lst s ++ r) (lst s).length = s := by
  unfold txt
  rw [if_pos rfl, List.take_left]
  exact lst_inj (lst_mk _)
theorem delim_41 (r : List UInt8) : Delim (41 :: r) := by
  unfold Delim
  rw [spn, if_neg (by decide)]
theorem delim_32 (r : List UInt8) : Delim (32 :: r) := by
  unfold Delim
  rw [spn, if_neg (by decide)]
theorem delim_txr {l : List S42} {r : List UInt8} (h : Delim r) : Delim (txr l ++ r) := by
  cases l with
  | nil => exact h
  | cons x l =>
    rw [txr]
    exact delim_32 _
theorem frun_n {t : S63} {r : List S63} {st : List (List S42)} {top : List S42} {sz : Int} : ∀ (h : t.f0 = 3), frun (t :: r) st top sz = frun r st (top ++ [⟨1, 0, t.f3, []⟩]) sz := by
  intro h
  rw [frun.eq_def]
  simp only [if_neg (show ¬ t.f0 = 1 by omega), if_neg (show ¬ t.f0 = 2 by omega), if_pos h]
theorem frun_m {t : S63} {r : List S63} {st : List (List S42)} {top : List S42} {sz : Int} : ∀ (h : t.f0 = 4), frun (t :: r) st top sz = frun r st (top ++ [⟨2, t.f1, ⟨#[]⟩, []⟩]) sz := by
  intro h
  rw [frun.eq_def]
  simp only [if_neg (show ¬ t.f0 = 1 by omega), if_neg (show ¬ t.f0 = 2 by omega), if_neg (show ¬ t.f0 = 3 by omega)]
theorem frun_o {t : S63} {r : List S63} {st : List (List S42)} {top : List S42} {sz : Int} (h : t.f0 = 1) (h2 : st.length < 30) : frun (t :: r) st top sz = frun r (top :: st) [] sz := by
  rw [frun.eq_def]
  simp only [if_pos h, if_pos h2]
theorem frun_c {t : S63} {r : List S63} {p : List S42} {st : List (List S42)} {top : List S42} {sz : Int} (h : t.f0 = 2) : frun (t :: r) (p :: st) top sz = frun r st (p ++ [⟨3, 0, ⟨#[]⟩, top⟩]) sz := by
  rw [frun.eq_def]
  simp only [if_neg (show ¬ t.f0 = 1 by omega), if_pos h]
theorem par_one {n : Nat} {w : List UInt8} {x : S42} {k v : Int} {p : Nat} {r : List UInt8} (hb : blk false (w ++ r) = 0) (hw : 0 < w.length) (hn : nextT (w ++ r) = (k, v, w.length, 0)) (hf : ∀ q st top sz, frun (⟨k, v, (p : Int), txt k (w ++ r) w.length⟩ :: q) st top sz = frun q st (top ++ [x]) sz) :
    ∃ ts, Par n ts w [x] p r := by
  refine ⟨[⟨k, v, (p : Int), txt k (w ++ r) w.length⟩], fun f acc => ?_, fun q st top sz _ => hf q st top sz, by simp only [List.length_singleton]; omega, fun _ => by simp⟩
  rw [List.length_singleton, tok_step hb (by rw [List.length_append]; omega) hn, List.drop_left]
theorem par_form {n : Nat} {t : S42} (h : Fine n t) : ∀ (p : Nat) (r : List UInt8), Delim r → ∃ ts, Par n ts (tx t) [t] p r := by
  induction h with
  | name n s hs =>
    intro p r hr
    have e : tx ⟨1, 0, s, []⟩ = lst s := by simp [tx]
    rw [e]
    obtain ⟨h1, h2⟩ := next_name hs hr
    have hl : 0 < (lst s).length := names_pos s hs
    exact par_one h1 hl h2 (fun q st top sz => by rw [frun_n rfl, txt_name])
  | num n z hz =>
    intro p r hr
    have e : tx ⟨2, z, ⟨#[]⟩, []⟩ = Lib.itoa z := by simp [tx]
    rw [e]
    obtain ⟨h1, h2⟩ := next_num hz hr
    have hl : 0 < (Lib.itoa z).length := by
      unfold Lib.itoa
      split
      · simp
      · obtain ⟨c, l, e⟩ := dec_pos z.toNat
        rw [e]
        simp
    exact par_one h1 hl h2 (fun q st top sz => by rw [frun_m rfl])
  | list n l hl ih =>
    intro p r hr
    -- what stands behind the first one
    have rest : ∀ (m : List S42), (∀ x ∈ m, x ∈ l) → ∀ (p : Nat) (r : List UInt8), Delim r → ∃ ts, Par n ts (txr m) m p r := by
      intro m
      induction m with
      | nil => exact fun _ p r _ => ⟨[], fun f acc => by simp [txr], fun q st top sz _ => by simp, by simp, fun h => absurd rfl h⟩
      | cons x m ihm =>
        intro hm p r hr
        obtain ⟨t1, a1, b1, c1, d1⟩ := ih x (hm x (by simp)) (p + 1) (txr m ++ r) (delim_txr hr)
        obtain ⟨t2, a2, b2, c2, d2⟩ := ihm (fun y hy => hm y (by simp [hy])) (p + 1 + (tx x).length) r hr
        have hpos : 0 < t1.length := d1 (by simp)
        refine ⟨t1 ++ t2, fun f acc => ?_, fun q st top sz hd => ?_, ?_, fun _ => ?_⟩
        · have e : txr (x :: m) ++ r = [32] ++ (tx x ++ (txr m ++ r)) := by simp [txr]
          obtain ⟨j, hj⟩ : ∃ j, f + (t1 ++ t2).length = j + 1 := ⟨f + (t1 ++ t2).length - 1, by rw [List.length_append]; omega⟩
          rw [e, hj, tok_blank (blk_32 _), ← hj, List.length_append, show f + (t1.length + t2.length) = (f + t2.length) + t1.length by omega, show p + ([32] : List UInt8).length = p + 1 from rfl, a1, a2, List.append_assoc]
          congr 1
          simp only [txr, List.length_cons, List.length_append]
          omega
        · rw [List.append_assoc, b1 _ _ _ _ hd, b2 _ _ _ _ hd, List.append_assoc]
          rfl
        · simp only [txr, List.length_cons, List.length_append]
          omega
        · rw [List.length_append]
          omega
    have all : ∀ (p : Nat), ∃ ts, Par n ts (txs l) l p (41 :: r) := by
      intro p
      cases l with
      | nil => exact ⟨[], fun f acc => by simp [txs], fun q st top sz _ => by simp, by simp, fun h => absurd rfl h⟩
      | cons x m =>
        obtain ⟨t1, a1, b1, c1, d1⟩ := ih x (by simp) p (txr m ++ 41 :: r) (delim_txr (delim_41 r))
        obtain ⟨t2, a2, b2, c2, d2⟩ := rest m (fun y hy => by simp [hy]) (p + (tx x).length) (41 :: r) (delim_41 r)
        refine ⟨t1 ++ t2, fun f acc => ?_, fun q st top sz hd => ?_, ?_, fun _ => ?_⟩
        · have e : txs (x :: m) ++ 41 :: r = tx x ++ (txr m ++ 41 :: r) := by simp [txs]
          rw [e, List.length_append, show f + (t1.length + t2.length) = (f + t2.length) + t1.length by omega, a1, a2, List.append_assoc]
          congr 1
          simp only [txs, List.length_append]
          omega
        · rw [List.append_assoc, b1 _ _ _ _ hd, b2 _ _ _ _ hd, List.append_assoc]
          rfl
        · simp only [txs, List.length_append]
          omega
        · have := d1 (by simp)
          rw [List.length_append]
          omega
    obtain ⟨ts, a1, b1, c1, d1⟩ := all (p + 1)
    have e : tx ⟨3, 0, ⟨#[]⟩, l⟩ = 40 :: (txs l ++ [41]) := by simp [tx]
    rw [e]
    refine ⟨⟨1, 0, (p : Int), txt 1 (40 :: (txs l ++ 41 :: r)) 1⟩ :: (ts ++ [⟨2, 0, ((p + 1 + (txs l).length : Nat) : Int), txt 2 (41 :: r) 1⟩]), fun f acc => ?_, fun q st top sz hd => ?_, ?_, fun _ => ?_⟩
    · have e2 : (40 :: (txs l ++ [41])) ++ r = 40 :: (txs l ++ 41 :: r) := by simp
      have n1 : nextT (40 :: (txs l ++ 41 :: r)) = (1, 0, 1, 0) := by
        unfold nextT
        rw [nb_0, if_pos (by decide)]
      have n2 : nextT (41 :: r) = (2, 0, 1, 0) := by
        unfold nextT
        rw [nb_0, if_neg (by decide), if_pos (by decide)]
      rw [e2, List.length_cons, List.length_append, List.length_singleton, show f + (ts.length + 1 + 1) = (f + 1 + ts.length) + 1 by omega, tok_step (blk_no (by decide) (by decide)) (by simp) n1, List.drop_succ_cons, List.drop_zero, a1, tok_step (blk_no (by decide) (by decide)) (by simp) n2, List.drop_succ_cons, List.drop_zero]
      congr 1
      · simp only [List.length_cons, List.length_append, List.length_nil]
        omega
      · simp
    · rw [List.cons_append, frun_o rfl (by omega), List.append_assoc, b1 _ _ _ _ (by simp only [List.length_cons]; omega), List.singleton_append, frun_c rfl]
      rfl
    · simp only [List.length_cons, List.length_append, List.length_nil]
      omega
    · simp
end Go.Proofs.YtkkmgahgejjhgaaDoor.Pure
/- Two forms are the same: what the reference's Same comes to; texts tell made forms apart. No conditions but those that each theorem tells. -/
namespace Go.Proofs.YtkkmgahgejjhgaaDoor.Pure
open Go.RowKit Go.Proofs.YtkkmgahgejjhgaaDoor.P Go.Proofs.YtkkmgahgejjhgaaDoor.Lex Go.Proofs.YtkkmgahgejjhgaaDoor.Frm Go.Proofs.YtkkmgahgejjhgaaDoorW.PrintWords Go.Proofs.YtkkmgahgejjhgaaDoorW.PrintLast Go.Proofs.YtkkmgahgejjhgaaDoorW.PrintMore
set_option linter.unusedVariables false
set_option linter.unusedSimpArgs false
mutual
/-- Are two forms the same? -/
def sm : S42 → S42 → Bool
  | ⟨k, z, s, l⟩, ⟨k', z', s', l'⟩ => decide (k = k') && (decide (z = z') && (decide (s.toList = s'.toList) && sms l l'))
def sms : List S42 → List S42 → Bool
  | [], [] => true
  | x :: l, y :: l' => sm x y && sms l l'
  | [], _ :: _ => false
  | _ :: _, [] => false
end
mutual
theorem sm_iff : ∀ (x y : S42), sm x y = true ↔ x = y
  | ⟨k, z, s, l⟩, ⟨k', z', s', l'⟩ => by
    have h := sms_iff l l'
    simp only [sm, Bool.and_eq_true, decide_eq_true_eq, h, S42.mk.injEq]
    refine and_congr_right fun _ => and_congr_right fun _ => and_congr_left fun _ => ?_
    rw [lst_toList, lst_toList]
    exact ⟨fun h => lst_inj h, fun h => by rw [h]⟩
theorem sms_iff : ∀ (l l' : List S42), sms l l' = true ↔ l = l'
  | [], [] => by simp [sms]
  | x :: l, y :: l' => by
    have h1 := sm_iff x y
    have h2 := sms_iff l l'
    simp only [sms, Bool.and_eq_true, h1, h2, List.cons.injEq]
  | [], _ :: _ => by simp [sms]
  | _ :: _, [] => by simp [sms]
end
theorem sms_len : ∀ (l l' : List S42), l.length ≠ l'.length → sms l l' = false
  | [], [], h => absurd rfl h
  | x :: l, y :: l', h => by
    rw [sms, sms_len l l' (by simpa using h), Bool.and_false]
  | [], _ :: _, _ => rfl
  | _ :: _, [], _ => rfl
theorem eta42' (x : S42) : x = ⟨x.f0, x.f1, x.f2, x.f3⟩ := by cases x; rfl
theorem sm_eta (x y : S42) : sm x y = (decide (x.f0 = y.f0) && (decide (x.f1 = y.f1) && (decide (x.f2.toList = y.f2.toList) && sms x.f3 y.f3))) := by
  cases x; cases y; rfl
theorem same_ev : ∀ (n : Nat) (x y : S42), size42 x ≤ n → n ≤ 1000000 → Ev (fun k => thyrsusref3_Same.f k x.f0 x.f1 x.f2 x.f3 y.f0 y.f1 y.f2 y.f3) (sm x y) := by
  intro n
  induction n with
  | zero => intro x y h; cases x; simp [size42] at h
  | succ n ih =>
    rintro ⟨k, z, s, l⟩ ⟨k', z', s', l'⟩ hs hn
    have no : Ev (fun j => thyrsusref3_Same.j0 j true k z s l k' z' s' l') false := Ev.step (f := fun _ => some false) (fun j => by simp only [thyrsusref3_Same.j0, if_true]) (Ev.now _)
    simp only [sm]
    by_cases h1 : k = k'
    · by_cases h2 : z = z'
      · by_cases h3 : s.toList = s'.toList
        · rw [decide_eq_true h1, decide_eq_true h2, decide_eq_true h3, Bool.true_and, Bool.true_and, Bool.true_and]
          refine Ev.step (f := fun j => thyrsusref3_Same.j0 j ((l.length : Int) != (l'.length : Int)) k z s l k' z' s' l') (fun j => by simp only [thyrsusref3_Same.f]; rw [if_pos h1, if_pos h2, if_pos h3]) ?_
          by_cases h4 : l.length = l'.length
          · have e : ((l.length : Int) != (l'.length : Int)) = false := by simp [h4]
            rw [e]
            simp only [size42] at hs
            have hll : l.length ≤ 1000000 := Nat.le_trans (sizes42_len l) (by omega)
            have loop : ∀ (d i : Nat), i + d = l.length → Ev (fun j => thyrsusref3_Same.l0 j (i : Int) k z s l k' z' s' l') (sms (l.drop i) (l'.drop i)) := by
              intro d
              induction d with
              | zero =>
                intro i hi
                rw [List.drop_of_length_le (by omega), List.drop_of_length_le (by omega)]
                refine Ev.step (f := fun _ => some true) (fun j => ?_) (Ev.now _)
                simp only [thyrsusref3_Same.l0]
                rw [if_neg (by omega)]
              | succ d ihd =>
                intro i hi
                have hil : i < l.length := by omega
                have hil' : i < l'.length := by omega
                have hm := sizes42_mem l l[i] (List.getElem_mem hil)
                rw [List.drop_eq_getElem_cons hil, List.drop_eq_getElem_cons hil', sms]
                have h5 := ih l[i] l'[i] (by omega) (by omega)
                refine Ev.step (f := fun j => (thyrsusref3_Same.f j l[i].f0 l[i].f1 l[i].f2 l[i].f3 l'[i].f0 l'[i].f1 l'[i].f2 l'[i].f3).bind fun t => if t = true then thyrsusref3_Same.l0 j ((i + 1 : Nat) : Int) k z s l k' z' s' l' else some false) (fun j => ?_) (Ev.bind h5 ?_)
                · simp only [thyrsusref3_Same.l0]
                  rw [if_pos (by omega), if_pos (by omega), if_pos (by omega), rd42 hil, rd42 hil', wrap_id (n := (i : Int) + 1) (by omega)]
                  rfl
                · cases hb : sm l[i] l'[i] with
                  | true => simpa using ihd (i + 1) (by omega)
                  | false => simpa using Ev.now false
            refine Ev.step (f := fun j => thyrsusref3_Same.l0 j ((0 : Nat) : Int) k z s l k' z' s' l') (fun j => by simp only [thyrsusref3_Same.j0]; rfl) (loop l.length 0 (by omega))
          · have e : ((l.length : Int) != (l'.length : Int)) = true := by simp; omega
            rw [e, sms_len l l' h4]
            exact no
        · rw [decide_eq_false h3, Bool.false_and, Bool.and_false, Bool.and_false]
          exact Ev.step (f := fun j => thyrsusref3_Same.j0 j true k z s l k' z' s' l') (fun j => by simp only [thyrsusref3_Same.f]; rw [if_pos h1, if_pos h2, if_neg h3]) no
      · rw [decide_eq_false h2, Bool.false_and, Bool.and_false]
        exact Ev.step (f := fun j => thyrsusref3_Same.j0 j true k z s l k' z' s' l') (fun j => by simp only [thyrsusref3_Same.f]; rw [if_pos h1, if_neg h2]) no
    · rw [decide_eq_false h1, Bool.false_and]
      exact Ev.step (f := fun j => thyrsusref3_Same.j0 j true k z s l k' z' s' l') (fun j => by simp only [thyrsusref3_Same.f]; rw [if_neg h1]) no
/-- Texts tell made forms apart. -/
theorem tx_inj {n m : Nat} {x y : S42} (hx : Fine n x) (hy : Fine m y) (hn : n ≤ 30) (hm : m ≤ 30) (h : tx x = tx y) : x = y := by
  obtain ⟨t1, a1, b1, _, _⟩ := par_form hx 0 [] rfl
  obtain ⟨t2, a2, b2, _, _⟩ := par_form hy 0 [] rfl
  have e1 := a1 (t2.length + 1) []
  have e2 := a2 (t1.length + 1) []
  have fin : ∀ f p acc, toks (f + 1) [] p acc = (acc, 0, 0) := by
    intro f p acc
    rw [toks]
    simp [blk]
  rw [show t2.length + 1 + t1.length = t1.length + 1 + t2.length by omega, fin, h] at e1
  rw [fin] at e2
  rw [e1] at e2
  simp only [List.nil_append, Prod.mk.injEq, and_true] at e2
  have f1 := b1 [] [] [] 0 (by simpa using hn)
  have f2 := b2 [] [] [] 0 (by simpa using hm)
  rw [e2] at f1
  rw [f1] at f2
  simp only [List.nil_append] at f2
  have g : ∀ top : List S42, frun [] [] top 0 = (top, 0, 0) := fun top => by rw [frun.eq_def]
  rw [g, g] at f2
  simpa using f2
end Go.Proofs.YtkkmgahgejjhgaaDoor.Pure
/- The reference's text of a made form; a text of one made form, of two, is read as just those. No conditions but those that each theorem tells. -/
namespace Go.Proofs.YtkkmgahgejjhgaaDoor.Pure
open Go.RowKit Go.Proofs.YtkkmgahgejjhgaaDoor.P Go.Proofs.YtkkmgahgejjhgaaDoor.Lex Go.Proofs.YtkkmgahgejjhgaaDoor.Frm Go.Proofs.YtkkmgahgejjhgaaDoorW.PrintWords Go.Proofs.YtkkmgahgejjhgaaDoorW.PrintLast Go.Proofs.YtkkmgahgejjhgaaDoorW.PrintMore
set_option linter.unusedVariables false
set_option linter.unusedSimpArgs false
theorem lst_one (n : Nat) (h : n < 10) : lst (strOfNums [(wrap64 (48 + (n : Int))) % 256]) = [UInt8.ofNat (48 + n)] := by
  have hc : n = 0 ∨ n = 1 ∨ n = 2 ∨ n = 3 ∨ n = 4 ∨ n = 5 ∨ n = 6 ∨ n = 7 ∨ n = 8 ∨ n = 9 := by omega
  rcases hc with rfl | rfl | rfl | rfl | rfl | rfl | rfl | rfl | rfl | rfl <;> (show _ = _; kernel_rfl)
theorem digits_nat : ∀ (n : Nat), n < 10 ^ 15 → ∃ b : ByteArray, Ev (fun k => thyrsusref3_Digits.f k (n : Int)) b ∧ lst b = Lib.decDigits n := by
  intro n
  induction n using Nat.strongRecOn with
  | _ n ih =>
    intro hn
    have hn2 : n < 1000000000000000 := hn
    by_cases h : n < 10
    · refine ⟨strOfNums [(wrap64 (48 + (n : Int))) % 256], Ev.step (f := fun _ => some (strOfNums [(wrap64 (48 + (n : Int))) % 256])) (fun k => ?_) (Ev.now _), ?_⟩
      · simp only [thyrsusref3_Digits.f]
        rw [if_neg (by omega), if_neg (by omega)]
      · rw [lst_one n h, Lib.decDigits, dif_pos h]
    · obtain ⟨b1, e1, l1⟩ := ih (n / 10) (by omega) (by show n / 10 < 1000000000000000; omega)
      obtain ⟨b2, e2, l2⟩ := ih (n % 10) (by omega) (by show n % 10 < 1000000000000000; omega)
      have d1 : Int.tdiv (n : Int) 10 = ((n / 10 : Nat) : Int) := by
        rw [Int.tdiv_eq_ediv_of_nonneg (by omega)]
        omega
      have d2 : Int.tmod (n : Int) 10 = ((n % 10 : Nat) : Int) := by
        rw [Int.tmod_eq_emod_of_nonneg (by omega)]
        omega
      have z1 : b1.size ≤ 15 := by
        rw [← lst_len, l1]
        exact dec_len 14 (n / 10) (by show n / 10 < 1000000000000000; omega)
      have z2 : b2.size ≤ 15 := by
        rw [← lst_len, l2]
        exact dec_len 14 (n % 10) (by show n % 10 < 1000000000000000; omega)
      refine ⟨b1 ++ b2, Ev.step (f := fun k => (thyrsusref3_Digits.f k ((n / 10 : Nat) : Int)).bind fun t213 => ((thyrsusref3_Digits.f k ((n % 10 : Nat) : Int)).bind fun t214 => (if t213.size + t214.size ≤ 9223372036854775807 then (some (t213 ++ t214)) else (none)))) (fun k => ?_) (Ev.bind e1 (Ev.bind e2 ?_)), ?_⟩
      · simp only [thyrsusref3_Digits.f]
        rw [if_neg (by omega), if_pos (by omega), d1, d2, wrap_id (n := ((n / 10 : Nat) : Int)) (by omega)]
      · simp only [if_pos (show b1.size + b2.size ≤ 9223372036854775807 by omega)]
        exact Ev.now _
      · rw [lst_append, l1, l2]
        have e := Lib.decDigits.eq_1 n
        rw [dif_neg h] at e
        rw [e]
        congr 1
        rw [Lib.decDigits, dif_pos (by omega)]
theorem digits_ev {z : Int} (hz : -549755813888 ≤ z ∧ z < 549755813888) : ∃ b : ByteArray, Ev (fun k => thyrsusref3_Digits.f k z) b ∧ lst b = Lib.itoa z := by
  unfold Lib.itoa
  by_cases h : z < 0
  · rw [if_pos h]
    obtain ⟨b, e, l⟩ := digits_nat z.natAbs (by show z.natAbs < 1000000000000000; omega)
    have zb : b.size ≤ 15 := by
      rw [← lst_len, l]
      exact dec_len 14 z.natAbs (by show z.natAbs < 1000000000000000; omega)
    refine ⟨(⟨#[45]⟩ : ByteArray) ++ b, Ev.step (f := fun k => (thyrsusref3_Digits.f k ((z.natAbs : Nat) : Int)).bind fun t212 => (if 1 + t212.size ≤ 9223372036854775807 then (some ((⟨#[45]⟩ : ByteArray) ++ t212)) else (none))) (fun k => ?_) (Ev.bind e ?_), ?_⟩
    · simp only [thyrsusref3_Digits.f]
      rw [if_pos h, if_neg (by omega), wrap_id (n := -z) (by omega), show -z = ((z.natAbs : Nat) : Int) by omega]
    · simp only [if_pos (show 1 + b.size ≤ 9223372036854775807 by omega)]
      exact Ev.now _
    · rw [lst_append, l]
      rfl
  · rw [if_neg h]
    obtain ⟨n, rfl⟩ := Int.eq_ofNat_of_zero_le (show 0 ≤ z by omega)
    exact digits_nat n (by show n < 1000000000000000; omega)
theorem txs_snoc : ∀ (l : List S42) (x : S42), txr (l ++ [x]) = txr l ++ 32 :: tx x
  | [], x => by simp [txr]
  | y :: l, x => by
    rw [List.cons_append, txr, txs_snoc l x, txr]
    simp
theorem txs_snoc' {l : List S42} (x : S42) (h : l ≠ []) : txs (l ++ [x]) = txs l ++ 32 :: tx x := by
  cases l with
  | nil => exact absurd rfl h
  | cons y l =>
    rw [List.cons_append, txs, txs_snoc l x, txs]
    simp
theorem txs_take_len {n : Nat} {l : List S42} (h : ∀ x ∈ l, Fine n x) (i : Nat) : (txs (l.take i)).length ≤ 16 * sizes42 l := by
  have h1 := txs_len (l.take i) (fun x hx => h x (List.mem_of_mem_take hx))
  have h2 : ∀ (l : List S42) (i : Nat), sizes42 (l.take i) ≤ sizes42 l := by
    intro l
    induction l with
    | nil => intro i; simp [sizes42]
    | cons x l ih =>
      intro i
      cases i with
      | zero => simp [sizes42]
      | succ i =>
        have := ih i
        simp only [List.take_succ_cons, sizes42]
        omega
  have := h2 l i
  omega
theorem rtext_ev {n : Nat} {t : S42} (h : Fine n t) (hs : size42 t ≤ 1000) : ∃ b : ByteArray, Ev (fun k => thyrsusref3_Text.f k t.f0 t.f1 t.f2 t.f3) b ∧ lst b = tx t := by
  induction h with
  | name n s hm => exact ⟨s, Ev.step (f := fun _ => some s) (fun k => by simp only [thyrsusref3_Text.f]; rfl) (Ev.now _), by simp [tx]⟩
  | num n z hz =>
    obtain ⟨b, e, l⟩ := digits_ev hz
    refine ⟨b, Ev.step (f := fun k => (thyrsusref3_Digits.f k z).bind fun t219 => some t219) (fun k => ?_) (Ev.bind e (Ev.now _)), by simp [tx, l]⟩
    simp only [thyrsusref3_Text.f, if_true]
    rw [if_neg (by decide)]
  | list n l hl ih =>
    simp only [size42] at hs
    have hlen : l.length ≤ 1000 := Nat.le_trans (sizes42_len l) (by omega)
    have loop : ∀ (d i : Nat) (acc : ByteArray), i + d = l.length → lst acc = 40 :: txs (l.take i) → ∃ b : ByteArray, Ev (fun k => thyrsusref3_Text.l0 k acc (i : Int) 3 0 ⟨#[]⟩ l) b ∧ lst b = 40 :: (txs l ++ [41]) := by
      intro d
      induction d with
      | zero =>
        intro i acc hi hacc
        obtain rfl : i = l.length := by omega
        rw [List.take_length] at hacc
        have hz : acc.size ≤ 20000 := by
          have := txs_len l hl
          rw [← lst_len, hacc, List.length_cons]
          omega
        refine ⟨acc ++ (⟨#[41]⟩ : ByteArray), Ev.step (f := fun _ => some (acc ++ (⟨#[41]⟩ : ByteArray))) (fun k => ?_) (Ev.now _), ?_⟩
        · simp only [thyrsusref3_Text.l0]
          rw [if_neg (by omega), if_pos (by omega)]
        · rw [lst_append, hacc]
          rfl
      | succ d ihd =>
        intro i acc hi hacc
        have hil : i < l.length := by omega
        have hsz := sizes42_mem l l[i] (List.getElem_mem hil)
        obtain ⟨t, et, ht⟩ := ih l[i] (List.getElem_mem hil) (by omega)
        have hz : acc.size ≤ 20000 := by
          have := txs_take_len hl i
          rw [← lst_len, hacc, List.length_cons]
          omega
        have htz : t.size ≤ 20000 := by
          have := tx_len (hl l[i] (List.getElem_mem hil))
          rw [← lst_len, ht]
          omega
        by_cases h0 : i = 0
        · subst h0
          obtain ⟨b, e2, hb⟩ := ihd 1 (acc ++ t) (by omega) (by
            rw [lst_append, hacc, ht, List.take_zero]
            cases l with
            | nil => simp at hil
            | cons x l => simp [txs, txr])
          refine ⟨b, Ev.step (f := fun k => (thyrsusref3_Text.f k l[0].f0 l[0].f1 l[0].f2 l[0].f3).bind fun t223 => (if acc.size + t223.size ≤ 9223372036854775807 then thyrsusref3_Text.l0 k (acc ++ t223) ((1 : Nat) : Int) 3 0 ⟨#[]⟩ l else none)) (fun k => ?_) (Ev.bind et ?_), hb⟩
          · simp only [thyrsusref3_Text.l0]
            rw [if_pos (by omega), if_neg (by omega), if_pos (by omega), rd42 hil, wrap_id (n := ((0 : Nat) : Int) + 1) (by omega)]
            rfl
          · simp only [if_pos (show acc.size + t.size ≤ 9223372036854775807 by omega)]
            exact e2
        · obtain ⟨b, e2, hb⟩ := ihd (i + 1) ((acc ++ (⟨#[32]⟩ : ByteArray)) ++ t) (by omega) (by
            rw [lst_append, lst_append, hacc, ht, List.take_succ_eq_append_getElem hil, txs_snoc' _ (by
              intro h
              have h9 := congrArg List.length h
              rw [List.length_take, List.length_nil] at h9
              omega)]
            simp [lst])
          refine ⟨b, Ev.step (f := fun k => (thyrsusref3_Text.f k l[i].f0 l[i].f1 l[i].f2 l[i].f3).bind fun t221 => (if (acc ++ (⟨#[32]⟩ : ByteArray)).size + t221.size ≤ 9223372036854775807 then thyrsusref3_Text.l0 k ((acc ++ (⟨#[32]⟩ : ByteArray)) ++ t221) ((i + 1 : Nat) : Int) 3 0 ⟨#[]⟩ l else none)) (fun k => ?_) (Ev.bind et ?_), hb⟩
          · simp only [thyrsusref3_Text.l0]
            rw [if_pos (by omega), if_pos (by omega), if_pos (by omega), if_pos (by omega), rd42 hil, wrap_id (n := (i : Int) + 1) (by omega)]
            rfl
          · simp only [if_pos (show (acc ++ (⟨#[32]⟩ : ByteArray)).size + t.size ≤ 9223372036854775807 by rw [ByteArray.size_append, szA1]; omega)]
            exact e2
    obtain ⟨b, e1, hb⟩ := loop l.length 0 ⟨#[40]⟩ (by omega) (by simp [txs, lst])
    refine ⟨b, Ev.step (f := fun k => thyrsusref3_Text.l0 k ⟨#[40]⟩ ((0 : Nat) : Int) 3 0 ⟨#[]⟩ l) (fun k => ?_) e1, ?_⟩
    · simp only [thyrsusref3_Text.f]
      rw [if_neg (by decide), if_neg (by decide)]
      rfl
    · rw [hb]
      simp [tx]
/-! ### Texts of one form, of two -/
theorem toks_end (f p : Nat) (acc : List S63) : toks (f + 1) [] p acc = (acc, 0, 0) := by
  rw [toks]
  simp [blk]
theorem frun_end (top : List S42) (sz : Int) : frun [] [] top sz = (top, 0, 0) := by rw [frun.eq_def]
theorem parse_one {n : Nat} {t : S42} (h : Fine n t) (hn : n ≤ 30) {s : ByteArray} (hs : lst s = tx t) (hl : s.size ≤ 4000) : fparse s = ([t], 0, 0) := by
  obtain ⟨ts, a, b, c, _⟩ := par_form h 0 [] rfl
  have hz : (tx t).length = s.size := by rw [← hs, lst_len]
  have e : tokens (lst s) = (ts, 0, 0) := by
    unfold tokens
    rw [if_neg (by rw [lst_len]; omega), hs]
    have := a ((tx t).length - ts.length + 1) []
    rw [List.append_nil, toks_end, List.nil_append, show (tx t).length - ts.length + 1 + ts.length = (tx t).length + 1 by omega] at this
    exact this
  unfold fparse
  rw [e]
  have f := b [] [] [] (s.size : Int) (by simpa using hn)
  rw [List.append_nil, frun_end] at f
  exact f
/-- Blanks and remarks. -/
def Sep (s : List UInt8) : Prop := (∀ w, blk false (s ++ w) = s.length + blk false w) ∧ ∀ w, Delim w → Delim (s ++ w)
theorem Sep.nil : Sep [] := ⟨fun w => by simp, fun w h => h⟩
theorem Sep.app {s t : List UInt8} (h1 : Sep s) (h2 : Sep t) : Sep (s ++ t) :=
  ⟨fun w => by rw [List.append_assoc, h1.1, h2.1, List.length_append]; omega, fun w h => by rw [List.append_assoc]; exact h1.2 _ (h2.2 _ h)⟩
theorem sep_of {c : UInt8} {s : List UInt8} (h : pInner (c.toNat : Int) = false) (hb : ∀ w, blk false ((c :: s) ++ w) = (c :: s).length + blk false w) : Sep (c :: s) :=
  ⟨hb, fun w _ => by
    unfold Delim
    rw [List.cons_append, spn, if_neg (by rw [h]; decide)]⟩
theorem sep_32 : Sep [32] := sep_of (by decide) blk_32
theorem sep_10 : Sep [10] := sep_of (by decide) (fun w => by
  show blk false (10 :: w) = _
  rw [blk_f, if_pos (by decide)]
  simp only [List.length_singleton]
  omega)
theorem sep_9 : Sep [9] := sep_of (by decide) (fun w => by
  show blk false (9 :: w) = _
  rw [blk_f, if_pos (by decide)]
  simp only [List.length_singleton]
  omega)
theorem sep_rem : Sep [59, 32, 40, 10] := sep_of (by decide) (fun w => by
  show blk false (59 :: 32 :: 40 :: 10 :: w) = _
  rw [blk_f, if_neg (by decide), if_pos (by decide), blk_t, if_neg (by decide), blk_t, if_neg (by decide), blk_t, if_pos (by decide)]
  simp only [List.length_cons, List.length_nil]
  omega)
theorem parse_two {n m : Nat} {x y : S42} (hx : Fine n x) (hy : Fine m y) (hn : n ≤ 30) (hm : m ≤ 30) {sp : List UInt8} (hsp : Sep sp) {s : ByteArray} (hs : lst s = tx x ++ (sp ++ [32] ++ tx y)) (hl : s.size ≤ 4000) : fparse s = ([x, y], 0, 0) := by
  have hS : Sep (sp ++ [32]) := hsp.app sep_32
  have hd : Delim (sp ++ [32] ++ tx y) := by
    rw [List.append_assoc]
    exact hsp.2 _ (delim_32 _)
  obtain ⟨t1, a1, b1, c1, _⟩ := par_form hx 0 (sp ++ [32] ++ tx y) hd
  obtain ⟨t2, a2, b2, c2, d2⟩ := par_form hy (0 + (tx x).length + (sp ++ [32]).length) [] rfl
  have hz : (tx x).length + ((sp ++ [32]).length + (tx y).length) = s.size := by rw [← lst_len, hs]; simp only [List.length_append]
  have e : tokens (lst s) = (t1 ++ t2, 0, 0) := by
    unfold tokens
    rw [if_neg (by rw [lst_len]; omega), lst_len, hs]
    obtain ⟨j, hj⟩ : ∃ j, s.size + 1 = (j + 1 + t2.length) + t1.length := ⟨s.size - t2.length - t1.length, by omega⟩
    have h1 := a1 (j + 1 + t2.length) []
    rw [← hj, List.nil_append] at h1
    rw [h1]
    obtain ⟨i, hi⟩ : ∃ i, j + 1 + t2.length = i + 1 := ⟨j + t2.length, by omega⟩
    have h2 := a2 (j + 1) t1
    rw [List.append_nil, toks_end] at h2
    rw [hi, tok_blank (hS.1 (tx y)), ← hi, h2]
  unfold fparse
  rw [e]
  have f1 := b1 t2 [] [] (s.size : Int) (by simpa using hn)
  have f2 := b2 [] [] ([] ++ [x]) (s.size : Int) (by simpa using hm)
  rw [List.append_nil, frun_end] at f2
  rw [f2] at f1
  exact f1
end Go.Proofs.YtkkmgahgejjhgaaDoor.Pure
/- Chapter 3's law: FormsMany, printed by mkprint.py, turned by toQ3.py (strconv's table stands: TabP). -/
-- Printed by mkprint.py (a program of this session, over the kit's print). Lean checks it.
namespace Go.Proofs.YtkkmgahgejjhgaaDoor.P
open Go.RowKit Go.Proofs.YtkkmgahgejjhgaaDoorW.PrintWords Go.Proofs.YtkkmgahgejjhgaaDoorW.PrintLast Go.Proofs.YtkkmgahgejjhgaaDoorW.PrintMore
attribute [local go_sem] max2_int min2_int max_two min_two max_three min_three max_four min_four   -- for this text's walks alone
set_option linter.unusedVariables false
set_option linter.unusedSimpArgs false

/-! ### thyrsuslaw3_FormsMany: function 4 -/
mutual
def thyrsuslaw3_FormsMany.j0 : Nat → List Int → Bool → Int → Int → ByteArray → List (S38) → Int → Int → ByteArray → List (S38) → Option (Bool)
  | 0, _, _, _, _, _, _, _, _, _, _ => none
  | k + 1, x2, x28, x180000, x180001, x180002, x180003, x181000, x181001, x181002, x181003 => if x28 = true then (some true) else ((thyrsuslaw3_Make.f k x180000 x180001 x180002 x180003 5).bind fun bt184 => ((thyrsusref3_Text.f k bt184.1 bt184.2.1 bt184.2.2.1 bt184.2.2.2).bind fun t190 => ((thyrsuslaw3_Make.f k x181000 x181001 x181002 x181003 5).bind fun bt191 => ((thyrsusref3_Text.f k bt191.1 bt191.2.1 bt191.2.2.1 bt191.2.2.2).bind fun t197 => (thyrsuslaw3_FormsMany.l0 k x2 t190 t197 t190 0)))))
def thyrsuslaw3_FormsMany.l0 : Nat → List Int → ByteArray → ByteArray → ByteArray → Int → Option (Bool)
  | 0, _, _, _, _, _ => none
  | k + 1, x2, x7, x8, x9, x10 => if x10 < (x2.length : Int) then ((some (([(⟨#[32]⟩ : ByteArray), (⟨#[10]⟩ : ByteArray), (⟨#[59, 32, 40, 10]⟩ : ByteArray), (⟨#[9]⟩ : ByteArray)] : List ByteArray) : List ByteArray)).bind fun y198 => (if 0 ≤ x10 then ((thyrsuslaw3_within.f (rd x2 x10) 4).bind fun t202 => (if 0 ≤ t202 then (if t202 < (y198.length : Int) then (if x9.size + (rdOf ByteArray.empty y198 t202).size ≤ 9223372036854775807 then (thyrsuslaw3_FormsMany.l0 k x2 x7 x8 (x9 ++ (rdOf ByteArray.empty y198 t202)) (wrap64 (x10 + 1))) else (none)) else (none)) else (none))) else (none))) else (if x9.size + 1 ≤ 9223372036854775807 then (if (x9 ++ (⟨#[32]⟩ : ByteArray)).size + x8.size ≤ 9223372036854775807 then (if (((x9 ++ (⟨#[32]⟩ : ByteArray)) ++ x8).size : Int) > 4000 then (some true) else ((forms_Parse.f ((x9 ++ (⟨#[32]⟩ : ByteArray)) ++ x8)).bind fun bt204 => (if bt204.2.2 = 0 then (if (bt204.1.length : Int) = 2 then (if 0 < (bt204.1.length : Int) then ((forms_Text.f k ((rd_T42 bt204.1 0).f0) ((rd_T42 bt204.1 0).f1) ((rd_T42 bt204.1 0).f2) ((rd_T42 bt204.1 0).f3)).bind fun t210 => (if t210.toList = x7.toList then (if 1 < (bt204.1.length : Int) then ((forms_Text.f k ((rd_T42 bt204.1 1).f0) ((rd_T42 bt204.1 1).f1) ((rd_T42 bt204.1 1).f2) ((rd_T42 bt204.1 1).f3)).bind fun t212 => (some (t212.toList == x8.toList))) else (none)) else (none))) else (none)) else (none)) else (none)))) else (none)) else (none))
end
def thyrsuslaw3_FormsMany.f (k : Nat) (a0_0 : Int) (a0_1 : Int) (a0_2 : ByteArray) (l0_3 : List (S38)) (a1_0 : Int) (a1_1 : Int) (a1_2 : ByteArray) (l1_3 : List (S38)) (l2 : List Int) : Option (Bool) := (thyrsuslaw3_known.f k).bind fun t181 => (if t181 = true then ((thyrsuslaw3_Few.f k a0_0 a0_1 a0_2 l0_3).bind fun t182 => (if t182 = true then ((thyrsuslaw3_Few.f k a1_0 a1_1 a1_2 l1_3).bind fun t183 => (if t183 = true then (thyrsuslaw3_FormsMany.j0 k l2 (decide ((l2.length : Int) > 10)) a0_0 a0_1 a0_2 l0_3 a1_0 a1_1 a1_2 l1_3) else (thyrsuslaw3_FormsMany.j0 k l2 true a0_0 a0_1 a0_2 l0_3 a1_0 a1_1 a1_2 l1_3))) else (thyrsuslaw3_FormsMany.j0 k l2 true a0_0 a0_1 a0_2 l0_3 a1_0 a1_1 a1_2 l1_3))) else (none))
theorem thyrsuslaw3_FormsMany.mono_l : ∀ k, (∀ y0 y1 y2 y3 y4 y5 y6 y7 y8 y9, LeO (thyrsuslaw3_FormsMany.j0 k y0 y1 y2 y3 y4 y5 y6 y7 y8 y9) (thyrsuslaw3_FormsMany.j0 (k + 1) y0 y1 y2 y3 y4 y5 y6 y7 y8 y9)) ∧ (∀ y0 y1 y2 y3 y4, LeO (thyrsuslaw3_FormsMany.l0 k y0 y1 y2 y3 y4) (thyrsuslaw3_FormsMany.l0 (k + 1) y0 y1 y2 y3 y4))
  | 0 => ⟨fun _ _ _ _ _ _ _ _ _ _ r h => by simp [thyrsuslaw3_FormsMany.j0] at h, fun _ _ _ _ _ r h => by simp [thyrsuslaw3_FormsMany.l0] at h⟩
  | k + 1 => by
    obtain ⟨ih0, ih1⟩ := thyrsuslaw3_FormsMany.mono_l k
    refine ⟨?_, ?_⟩
    · intro y0 y1 y2 y3 y4 y5 y6 y7 y8 y9
      unfold thyrsuslaw3_FormsMany.j0
      repeat' first
      | (with_reducible exact ih0 _ _ _ _ _ _ _ _ _ _)
      | (with_reducible exact ih1 _ _ _ _ _)
      | (with_reducible exact forms_Text.mono _ _ _ _ _)
      | (with_reducible exact thyrsuslaw3_Few.mono _ _ _ _ _)
      | (with_reducible exact thyrsuslaw3_Make.mono _ _ _ _ _ _)
      | (with_reducible exact thyrsuslaw3_known.mono _)
      | (with_reducible exact thyrsusref3_Text.mono _ _ _ _ _)
      | (with_reducible exact LeO.refl _)
      | (with_reducible exact LeO.none _)
      | (with_reducible refine LeO.ite ?_ ?_)
      | (with_reducible refine LeO.bind ?_ (fun _ => ?_))
      | exact ih0 _ _ _ _ _ _ _ _ _ _
      | exact ih1 _ _ _ _ _
      | exact forms_Text.mono _ _ _ _ _
      | exact thyrsuslaw3_Few.mono _ _ _ _ _
      | exact thyrsuslaw3_Make.mono _ _ _ _ _ _
      | exact thyrsuslaw3_known.mono _
      | exact thyrsusref3_Text.mono _ _ _ _ _
      | exact LeO.none _
      | refine LeO.ite ?_ ?_
      | refine LeO.bind ?_ (fun _ => ?_)
    · intro y0 y1 y2 y3 y4
      unfold thyrsuslaw3_FormsMany.l0
      repeat' first
      | (with_reducible exact ih0 _ _ _ _ _ _ _ _ _ _)
      | (with_reducible exact ih1 _ _ _ _ _)
      | (with_reducible exact forms_Text.mono _ _ _ _ _)
      | (with_reducible exact thyrsuslaw3_Few.mono _ _ _ _ _)
      | (with_reducible exact thyrsuslaw3_Make.mono _ _ _ _ _ _)
      | (with_reducible exact thyrsuslaw3_known.mono _)
      | (with_reducible exact thyrsusref3_Text.mono _ _ _ _ _)
      | (with_reducible exact LeO.refl _)
      | (with_reducible exact LeO.none _)
      | (with_reducible refine LeO.ite ?_ ?_)
      | (with_reducible refine LeO.bind ?_ (fun _ => ?_))
      | exact ih0 _ _ _ _ _ _ _ _ _ _
      | exact ih1 _ _ _ _ _
      | exact forms_Text.mono _ _ _ _ _
      | exact thyrsuslaw3_Few.mono _ _ _ _ _
      | exact thyrsuslaw3_Make.mono _ _ _ _ _ _
      | exact thyrsuslaw3_known.mono _
      | exact thyrsusref3_Text.mono _ _ _ _ _
      | exact LeO.none _
      | refine LeO.ite ?_ ?_
      | refine LeO.bind ?_ (fun _ => ?_)
theorem thyrsuslaw3_FormsMany.mono : ∀ a0 a1 a2 a3 a4 a5 a6 a7 a8 k, LeO (thyrsuslaw3_FormsMany.f k a0 a1 a2 a3 a4 a5 a6 a7 a8) (thyrsuslaw3_FormsMany.f (k + 1) a0 a1 a2 a3 a4 a5 a6 a7 a8) := by
  intro a0 a1 a2 a3 a4 a5 a6 a7 a8 k
  obtain ⟨ih0, ih1⟩ := thyrsuslaw3_FormsMany.mono_l k
  unfold thyrsuslaw3_FormsMany.f
  repeat' first
      | (with_reducible exact ih0 _ _ _ _ _ _ _ _ _ _)
      | (with_reducible exact ih1 _ _ _ _ _)
      | (with_reducible exact forms_Text.mono _ _ _ _ _)
      | (with_reducible exact thyrsuslaw3_Few.mono _ _ _ _ _)
      | (with_reducible exact thyrsuslaw3_Make.mono _ _ _ _ _ _)
      | (with_reducible exact thyrsuslaw3_known.mono _)
      | (with_reducible exact thyrsusref3_Text.mono _ _ _ _ _)
      | (with_reducible exact LeO.refl _)
      | (with_reducible exact LeO.none _)
      | (with_reducible refine LeO.ite ?_ ?_)
      | (with_reducible refine LeO.bind ?_ (fun _ => ?_))
      | exact ih0 _ _ _ _ _ _ _ _ _ _
      | exact ih1 _ _ _ _ _
      | exact forms_Text.mono _ _ _ _ _
      | exact thyrsuslaw3_Few.mono _ _ _ _ _
      | exact thyrsuslaw3_Make.mono _ _ _ _ _ _
      | exact thyrsuslaw3_known.mono _
      | exact thyrsusref3_Text.mono _ _ _ _ _
      | exact LeO.none _
      | refine LeO.ite ?_ ?_
      | refine LeO.bind ?_ (fun _ => ?_)
def thyrsuslaw3_FormsMany.T5 : Bool × List (List Nat × List Nat) := (true, [([], []), ([0], [0]), ([1, 1], [1]), ([], []), ([3, 2], [3]), ([4, 4], [4]), ([2, 5, 0, 1, 2], [2]), ([5, 6, 0, 1, 2, 3, 4, 5, 6], [5])])
def thyrsuslaw3_FormsMany.B5 : List Nat := [0, 1, 3, 0, 15, 31, 63, 127]
theorem thyrsuslaw3_FormsMany.tab5 : rtab .any (opsOf Tryd.f4 5) = thyrsuslaw3_FormsMany.T5 := by kernel_rfl
theorem thyrsuslaw3_FormsMany.bits5 : waitsOk thyrsuslaw3_FormsMany.T5.2 thyrsuslaw3_FormsMany.B5 = true := by kernel_rfl
set_option maxHeartbeats 8000000 in
set_option maxRecDepth 100000 in
theorem thyrsuslaw3_FormsMany.calls (k : Nat) (a0_0 : Int) (a0_1 : Int) (a0_2 : ByteArray) (A0_3 : Option Addr) (c0_3 : Nat) (l0_3 : List (S38)) (a1_0 : Int) (a1_1 : Int) (a1_2 : ByteArray) (A1_3 : Option Addr) (c1_3 : Nat) (l1_3 : List (S38)) (A2 : Option Addr) (c2 : Nat) (l2 : List Int) (r : Bool) (w : World) (hT : TabP w) (hr0_3 : Kd.C k38 w A0_3 l0_3.length l0_3) (hc0_3 : l0_3.length ≤ c0_3) (hr1_3 : Kd.C k38 w A1_3 l1_3.length l1_3) (hc1_3 : l1_3.length ≤ c1_3) (hr2 : Kd.C (Kd.int .i64) w A2 l2.length l2) (hc2 : l2.length ≤ c2) (h : thyrsuslaw3_FormsMany.f k a0_0 a0_1 a0_2 l0_3 a1_0 a1_1 a1_2 l1_3 l2 = some r) :
    Calls Tryd.prog 4 #[.agg #[.int .i64 a0_0, .int .i64 a0_1, .string a0_2, .slice A0_3 l0_3.length c0_3], .agg #[.int .i64 a1_0, .int .i64 a1_1, .string a1_2, .slice A1_3 l1_3.length c1_3], .slice A2 l2.length c2] w fun e w' => e = .returned (.bool r) ∧ Below w.heap.size w w' := by
  have hu38 := Tryd.underlying38
  have hu42 := Tryd.underlying42
  have HR0_3 := Aside0.mk hr0_3
  have HC0_3 := Aside0.mk hc0_3
  clear hr0_3 hc0_3
  have HR1_3 := Aside0.mk hr1_3
  have HC1_3 := Aside0.mk hc1_3
  clear hr1_3 hc1_3
  have HR2 := Aside0.mk hr2
  have HC2 := Aside0.mk hc2
  clear hr2 hc2
  have HTB := Aside0.mk hT
  clear hT
  have HB := Aside0.mk (Below.refl w.heap.size w)
  have H : ((thyrsuslaw3_known.f k).bind fun t181 => (if t181 = true then ((thyrsuslaw3_Few.f k a0_0 a0_1 a0_2 l0_3).bind fun t182 => (if t182 = true then ((thyrsuslaw3_Few.f k a1_0 a1_1 a1_2 l1_3).bind fun t183 => (if t183 = true then (thyrsuslaw3_FormsMany.j0 k l2 (decide ((l2.length : Int) > 10)) a0_0 a0_1 a0_2 l0_3 a1_0 a1_1 a1_2 l1_3) else (thyrsuslaw3_FormsMany.j0 k l2 true a0_0 a0_1 a0_2 l0_3 a1_0 a1_1 a1_2 l1_3))) else (thyrsuslaw3_FormsMany.j0 k l2 true a0_0 a0_1 a0_2 l0_3 a1_0 a1_1 a1_2 l1_3))) else (none))) = some r := h
  clear h
  replace H := Option.bind_eq_some_iff.mp H
  obtain ⟨t181, A40, H⟩ := H
  replace H : (if t181 = true then ((thyrsuslaw3_Few.f k a0_0 a0_1 a0_2 l0_3).bind fun t182 => (if t182 = true then ((thyrsuslaw3_Few.f k a1_0 a1_1 a1_2 l1_3).bind fun t183 => (if t183 = true then (thyrsuslaw3_FormsMany.j0 k l2 (decide ((l2.length : Int) > 10)) a0_0 a0_1 a0_2 l0_3 a1_0 a1_1 a1_2 l1_3) else (thyrsuslaw3_FormsMany.j0 k l2 true a0_0 a0_1 a0_2 l0_3 a1_0 a1_1 a1_2 l1_3))) else (thyrsuslaw3_FormsMany.j0 k l2 true a0_0 a0_1 a0_2 l0_3 a1_0 a1_1 a1_2 l1_3))) else (none)) = some r := H
  have A4 := Aside0.mk A40
  clear A40
  by_cases c5 : t181 = true
  · subst c5
    have H1 : ((thyrsuslaw3_Few.f k a0_0 a0_1 a0_2 l0_3).bind fun t182 => (if t182 = true then ((thyrsuslaw3_Few.f k a1_0 a1_1 a1_2 l1_3).bind fun t183 => (if t183 = true then (thyrsuslaw3_FormsMany.j0 k l2 (decide ((l2.length : Int) > 10)) a0_0 a0_1 a0_2 l0_3 a1_0 a1_1 a1_2 l1_3) else (thyrsuslaw3_FormsMany.j0 k l2 true a0_0 a0_1 a0_2 l0_3 a1_0 a1_1 a1_2 l1_3))) else (thyrsuslaw3_FormsMany.j0 k l2 true a0_0 a0_1 a0_2 l0_3 a1_0 a1_1 a1_2 l1_3))) = some r := by rw [if_pos rfl] at H; exact H
    clear H
    have H := H1
    clear H1
    have HC6 := Aside0.mk H
    clear H
    go_enter Tryd.func4, Tryd.ntmps4
    go_upto_region 3 with (first | ((with_reducible refine gate_dst (N := 3) rfl ?_); (try (refine gate_guard (by rfl) ?_; dsimp only)); refine box_event ?hg (N := 3) ?hd (cs := #[.int .i64 a0_0, .int .i64 a0_1, .string a0_2, .slice A0_3 l0_3.length c0_3]) (t := 38) ?hr ?_; (case hd => rfl); (case hg => rfl); (case hr => first | (go_simp; done) | (go_simp; rfl)); intro gb179 hg w7 hbox hb; have n0_ := Aside0.mk (below_step (by repeat (first | (with_reducible first | exact HB.out | apply below_alloc | apply pw_below_drewN | apply below_drew1) | exact HB.out)) hb); have n1_ := Aside0.mk (hbox); have n2_ := Aside0.mk ((by rw [hg]; exact (below_size (by repeat (first | (with_reducible first | exact HB.out | apply below_alloc | apply pw_below_drewN | apply below_drew1) | exact HB.out))) : w.heap.size ≤ gb179)); have n3_ := Aside0.mk ((by rw [hg]; exact (below_size (by repeat (first | (with_reducible first | exact HB.out | apply below_alloc | apply pw_below_drewN | apply below_drew1) | exact HB.out))) : w.heap.size ≤ gb179)); clear HB; have HB := n0_; have BK179 := n1_; have GW179 := n2_; have GE179 := n3_; clear n0_ n1_ n2_ n3_; clear hb hbox hg) | ((with_reducible refine gate_dst (N := 4) rfl ?_); (try (refine gate_guard (by rfl) ?_; dsimp only)); refine box_event ?hg (N := 4) ?hd (cs := #[.int .i64 a1_0, .int .i64 a1_1, .string a1_2, .slice A1_3 l1_3.length c1_3]) (t := 38) ?hr ?_; (case hd => rfl); (case hg => rfl); (case hr => first | (go_simp; done) | (go_simp; rfl)); intro gb180 hg w8 hbox hb; have n0_ := Aside0.mk (blk_below (g := gb179) (o := .cells #[.int .i64 a0_0, .int .i64 a0_1, .string a0_2, .slice A0_3 l0_3.length c0_3] 38 (0, 0)) (by (with_reducible repeat (first | refine blk_drewN ?_ _ | refine blk_drew ?_ | refine blk_alloc ?_ _)); exact BK179.out) hb); have n1_ := Aside0.mk (below_step (by repeat (first | (with_reducible first | exact HB.out | apply below_alloc | apply pw_below_drewN | apply below_drew1 | refine below_set ?_ GE179.out) | exact HB.out)) hb); have n2_ := Aside0.mk (hbox); have n3_ := Aside0.mk ((by rw [hg]; exact (below_size (by repeat (first | (with_reducible first | exact HB.out | apply below_alloc | apply pw_below_drewN | apply below_drew1 | refine below_set ?_ GE179.out) | exact HB.out))) : w.heap.size ≤ gb180)); have n4_ := Aside0.mk ((by rw [hg]; exact (below_size (by repeat (first | (with_reducible first | exact HB.out | apply below_alloc | apply pw_below_drewN | apply below_drew1 | refine below_set ?_ GE179.out) | exact HB.out))) : w.heap.size ≤ gb180)); have n5_ := Aside0.mk ((by rw [hg]; exact Nat.ne_of_lt (blk_lt (g := gb179) (o := .cells #[.int .i64 a0_0, .int .i64 a0_1, .string a0_2, .slice A0_3 l0_3.length c0_3] 38 (0, 0)) (by (with_reducible repeat (first | refine blk_drewN ?_ _ | refine blk_drew ?_ | refine blk_alloc ?_ _)); exact BK179.out)) : gb179 ≠ gb180)); have n6_ := Aside0.mk ((by rw [hg]; exact Nat.ne_of_gt (blk_lt (g := gb179) (o := .cells #[.int .i64 a0_0, .int .i64 a0_1, .string a0_2, .slice A0_3 l0_3.length c0_3] 38 (0, 0)) (by (with_reducible repeat (first | refine blk_drewN ?_ _ | refine blk_drew ?_ | refine blk_alloc ?_ _)); exact BK179.out)) : gb180 ≠ gb179)); clear BK179; clear HB; have BK179 := n0_; have HB := n1_; have BK180 := n2_; have GW180 := n3_; have GE180 := n4_; have NB179_180 := n5_; have NB180_179 := n6_; clear n0_ n1_ n2_ n3_ n4_ n5_ n6_; clear hb hbox hg) | ((with_reducible refine gate_callee (f := 10) rfl ?_); refine goesL_ (some 14) rfl rfl Tryd.func10 (by kernel_rfl) rfl #[] rfl (by (try simp only [List.map_toArray, List.map_cons, List.map_nil]); first | done | rfl | (simp only [List.length_drop, List.length_take]; rfl)) ?_; (with_reducible refine (thyrsuslaw3_known.calls k  true _ ?sideT A4.out).mono ?_); (case sideT => exact TabP.below HTB.out (by repeat (first | (with_reducible first | exact HB.out | apply below_alloc | apply pw_below_drewN | apply below_drew1 | refine below_set ?_ GE179.out | refine below_set ?_ GE180.out) | exact HB.out))); rintro e w9 ⟨rfl, hb⟩; refine ⟨_, rfl, ?_⟩; have n0_ := Aside0.mk (blk_below (g := gb179) (o := .cells #[.int .i64 a0_0, .int .i64 a0_1, .string a0_2, .slice A0_3 l0_3.length c0_3] 38 (0, 0)) (by (with_reducible repeat (first | refine blk_drewN ?_ _ | refine blk_drew ?_ | refine blk_alloc ?_ _)); exact BK179.out) hb); have n1_ := Aside0.mk (blk_below (g := gb180) (o := .cells #[.int .i64 a1_0, .int .i64 a1_1, .string a1_2, .slice A1_3 l1_3.length c1_3] 38 (0, 0)) (by (with_reducible repeat (first | refine blk_drewN ?_ _ | refine blk_drew ?_ | refine blk_alloc ?_ _)); exact BK180.out) hb); have n2_ := Aside0.mk (below_step (by repeat (first | (with_reducible first | exact HB.out | apply below_alloc | apply pw_below_drewN | apply below_drew1 | refine below_set ?_ GE179.out | refine below_set ?_ GE180.out) | exact HB.out)) hb); clear BK179; clear BK180; clear HB; have BK179 := n0_; have BK180 := n1_; have HB := n2_; clear n0_ n1_ n2_; (try clear hb); (try clear hb2); (try clear hk); (try clear hi)))
    (try simp only [Act.put, List.setIfInBounds_toArray, List.set_cons_zero, List.set_cons_succ])
    go_cut [28] (fun v28 wc => ∃ (kq : Nat) (x28_5 : Bool), v28 = .bool x28_5 ∧ Aside0 (thyrsuslaw3_FormsMany.j0 kq l2 x28_5 a0_0 a0_1 a0_2 l0_3 a1_0 a1_1 a1_2 l1_3 = some r) ∧ Aside0 (kq ≤ k) ∧ Aside0 (wc.heap[gb179]? = some (.cells #[.int .i64 a0_0, .int .i64 a0_1, .string a0_2, (.slice A0_3 l0_3.length c0_3)] 38 (0, 0))) ∧ Aside0 (wc.heap[gb180]? = some (.cells #[.int .i64 a1_0, .int .i64 a1_1, .string a1_2, (.slice A1_3 l1_3.length c1_3)] 38 (0, 0))) ∧ Aside0 (Below w.heap.size w wc))
    case first =>
      have H := HC6.out
      clear HC6
      replace H := Option.bind_eq_some_iff.mp H
      obtain ⟨t182, A100, H⟩ := H
      replace H : (if t182 = true then ((thyrsuslaw3_Few.f k a1_0 a1_1 a1_2 l1_3).bind fun t183 => (if t183 = true then (thyrsuslaw3_FormsMany.j0 k l2 (decide ((l2.length : Int) > 10)) a0_0 a0_1 a0_2 l0_3 a1_0 a1_1 a1_2 l1_3) else (thyrsuslaw3_FormsMany.j0 k l2 true a0_0 a0_1 a0_2 l0_3 a1_0 a1_1 a1_2 l1_3))) else (thyrsuslaw3_FormsMany.j0 k l2 true a0_0 a0_1 a0_2 l0_3 a1_0 a1_1 a1_2 l1_3)) = some r := H
      have A10 := Aside0.mk A100
      clear A100
      by_cases c11 : t182 = true
      · subst c11
        have H1 : ((thyrsuslaw3_Few.f k a1_0 a1_1 a1_2 l1_3).bind fun t183 => (if t183 = true then (thyrsuslaw3_FormsMany.j0 k l2 (decide ((l2.length : Int) > 10)) a0_0 a0_1 a0_2 l0_3 a1_0 a1_1 a1_2 l1_3) else (thyrsuslaw3_FormsMany.j0 k l2 true a0_0 a0_1 a0_2 l0_3 a1_0 a1_1 a1_2 l1_3))) = some r := by rw [if_pos rfl] at H; exact H
        clear H
        have H := H1
        clear H1
        replace H := Option.bind_eq_some_iff.mp H
        obtain ⟨t183, A120, H⟩ := H
        replace H : (if t183 = true then (thyrsuslaw3_FormsMany.j0 k l2 (decide ((l2.length : Int) > 10)) a0_0 a0_1 a0_2 l0_3 a1_0 a1_1 a1_2 l1_3) else (thyrsuslaw3_FormsMany.j0 k l2 true a0_0 a0_1 a0_2 l0_3 a1_0 a1_1 a1_2 l1_3)) = some r := H
        have A12 := Aside0.mk A120
        clear A120
        by_cases c13 : t183 = true
        · subst c13
          have H1 : (thyrsuslaw3_FormsMany.j0 k l2 (decide ((l2.length : Int) > 10)) a0_0 a0_1 a0_2 l0_3 a1_0 a1_1 a1_2 l1_3) = some r := by rw [if_pos rfl] at H; exact H
          clear H
          have H := H1
          clear H1
          have H' := Aside0.mk H
          clear H
          have hnb14 := NB179_180.out
          have hnc14 := NB180_179.out
          have hcz15_0 : w9.cell? ⟨gb179, 0, none⟩ = some (.int .i64 a0_0) := (blk_cell BK179.out 0).trans rfl
          have hcz15_1 : w9.cell? ⟨gb179, 1, none⟩ = some (.int .i64 a0_1) := (blk_cell BK179.out 1).trans rfl
          have hcz15_2 : w9.cell? ⟨gb179, 2, none⟩ = some (.string a0_2) := (blk_cell BK179.out 2).trans rfl
          have hcz15_3 : w9.cell? ⟨gb179, 3, none⟩ = some (.slice A0_3 l0_3.length c0_3) := (blk_cell BK179.out 3).trans rfl
          have hfz15_0 := blk_frozen BK179.out 0
          have hfz15_1 := blk_frozen BK179.out 1
          have hfz15_2 := blk_frozen BK179.out 2
          have hfz15_3 := blk_frozen BK179.out 3
          go_wp2_with (first | ((with_reducible refine gate_callee (f := 16) rfl ?_); refine goesL_ (some 17) rfl rfl Tryd.func16 (by kernel_rfl) rfl #[.agg #[.int .i64 a0_0, .int .i64 a0_1, .string a0_2, .slice A0_3 l0_3.length c0_3]] rfl (by (try simp only [List.map_toArray, List.map_cons, List.map_nil]); first | done | rfl | (simp only [List.length_drop, List.length_take]; rfl)) ?_; (with_reducible refine (thyrsuslaw3_Few.calls k a0_0 a0_1 a0_2 _ _ l0_3 true _ ?side1 ?side2 A10.out).mono ?_); (case side1 => repeat (first | exact (Kd.C_below HR0_3.out HB.out) | (with_reducible refine Kd.C_alloc ?_ _) | (with_reducible refine Kd.C_drewN ?_ _) | (with_reducible refine Kd.C_drew ?_))); (case side2 => exact HC0_3.out); rintro e w16 ⟨rfl, hb⟩; refine ⟨_, rfl, ?_⟩; have n0_ := Aside0.mk (blk_below (g := gb179) (o := .cells #[.int .i64 a0_0, .int .i64 a0_1, .string a0_2, .slice A0_3 l0_3.length c0_3] 38 (0, 0)) (by (with_reducible repeat (first | refine blk_drewN ?_ _ | refine blk_drew ?_ | refine blk_alloc ?_ _)); exact BK179.out) hb); have n1_ := Aside0.mk (blk_below (g := gb180) (o := .cells #[.int .i64 a1_0, .int .i64 a1_1, .string a1_2, .slice A1_3 l1_3.length c1_3] 38 (0, 0)) (by (with_reducible repeat (first | refine blk_drewN ?_ _ | refine blk_drew ?_ | refine blk_alloc ?_ _)); exact BK180.out) hb); have n2_ := Aside0.mk (below_step (by repeat (first | (with_reducible first | exact HB.out | apply below_alloc | apply pw_below_drewN | apply below_drew1 | refine below_set ?_ GE179.out | refine below_set ?_ GE180.out) | exact HB.out)) hb); clear BK179; clear BK180; clear HB; have BK179 := n0_; have BK180 := n1_; have HB := n2_; clear n0_ n1_ n2_; (try clear hb); (try clear hb2); (try clear hk); (try clear hi); have hcz17_0 : w16.cell? ⟨gb180, 0, none⟩ = some (.int .i64 a1_0) := (blk_cell BK180.out 0).trans rfl; have hcz17_1 : w16.cell? ⟨gb180, 1, none⟩ = some (.int .i64 a1_1) := (blk_cell BK180.out 1).trans rfl; have hcz17_2 : w16.cell? ⟨gb180, 2, none⟩ = some (.string a1_2) := (blk_cell BK180.out 2).trans rfl; have hcz17_3 : w16.cell? ⟨gb180, 3, none⟩ = some (.slice A1_3 l1_3.length c1_3) := (blk_cell BK180.out 3).trans rfl; have hfz17_0 := blk_frozen BK180.out 0; have hfz17_1 := blk_frozen BK180.out 1; have hfz17_2 := blk_frozen BK180.out 2; have hfz17_3 := blk_frozen BK180.out 3) | (go_at_call 16; (with_reducible refine (thyrsuslaw3_Few.calls k a1_0 a1_1 a1_2 _ _ l1_3 true _ ?side1 ?side2 A12.out).mono ?_); (case side1 => repeat (first | exact (Kd.C_below HR1_3.out HB.out) | (with_reducible refine Kd.C_alloc ?_ _) | (with_reducible refine Kd.C_drewN ?_ _) | (with_reducible refine Kd.C_drew ?_))); (case side2 => exact HC1_3.out); rintro e w18 ⟨rfl, hb⟩; have n0_ := Aside0.mk (blk_below (g := gb179) (o := .cells #[.int .i64 a0_0, .int .i64 a0_1, .string a0_2, .slice A0_3 l0_3.length c0_3] 38 (0, 0)) (by (with_reducible repeat (first | refine blk_drewN ?_ _ | refine blk_drew ?_ | refine blk_alloc ?_ _)); exact BK179.out) hb); have n1_ := Aside0.mk (blk_below (g := gb180) (o := .cells #[.int .i64 a1_0, .int .i64 a1_1, .string a1_2, .slice A1_3 l1_3.length c1_3] 38 (0, 0)) (by (with_reducible repeat (first | refine blk_drewN ?_ _ | refine blk_drew ?_ | refine blk_alloc ?_ _)); exact BK180.out) hb); have n2_ := Aside0.mk (below_step (by repeat (first | (with_reducible first | exact HB.out | apply below_alloc | apply pw_below_drewN | apply below_drew1 | refine below_set ?_ GE179.out | refine below_set ?_ GE180.out) | exact HB.out)) hb); clear BK179; clear BK180; clear HB; have BK179 := n0_; have BK180 := n1_; have HB := n2_; clear n0_ n1_ n2_; (try clear hb); (try clear hb2); (try clear hk); (try clear hi)))
          go_meet
          case rel => exact ⟨_, (decide ((l2.length : Int) > 10)), (by first | rfl | (simp; done) | (simp [*]; done)), H', ⟨by first | omega | exact Nat.le_refl _⟩, ⟨by (with_reducible repeat (first | refine blk_drewN ?_ _ | refine blk_drew ?_ | refine blk_alloc ?_ _)); exact BK179.out⟩, ⟨by (with_reducible repeat (first | refine blk_drewN ?_ _ | refine blk_drew ?_ | refine blk_alloc ?_ _)); exact BK180.out⟩, ⟨by repeat (first | (with_reducible first | exact HB.out | apply below_alloc | apply pw_below_drewN | apply below_drew1 | refine below_set ?_ GE179.out | refine below_set ?_ GE180.out) | exact HB.out)⟩⟩
        · replace c13 := Bool.eq_false_iff.mpr c13
          subst c13
          have H1 : (thyrsuslaw3_FormsMany.j0 k l2 true a0_0 a0_1 a0_2 l0_3 a1_0 a1_1 a1_2 l1_3) = some r := by rw [if_neg (show ¬ (false = true) by decide)] at H; exact H
          clear H
          have H := H1
          clear H1
          have H' := Aside0.mk H
          clear H
          have hnb19 := NB179_180.out
          have hnc19 := NB180_179.out
          have hcz20_0 : w9.cell? ⟨gb179, 0, none⟩ = some (.int .i64 a0_0) := (blk_cell BK179.out 0).trans rfl
          have hcz20_1 : w9.cell? ⟨gb179, 1, none⟩ = some (.int .i64 a0_1) := (blk_cell BK179.out 1).trans rfl
          have hcz20_2 : w9.cell? ⟨gb179, 2, none⟩ = some (.string a0_2) := (blk_cell BK179.out 2).trans rfl
          have hcz20_3 : w9.cell? ⟨gb179, 3, none⟩ = some (.slice A0_3 l0_3.length c0_3) := (blk_cell BK179.out 3).trans rfl
          have hfz20_0 := blk_frozen BK179.out 0
          have hfz20_1 := blk_frozen BK179.out 1
          have hfz20_2 := blk_frozen BK179.out 2
          have hfz20_3 := blk_frozen BK179.out 3
          go_wp2_with (first | ((with_reducible refine gate_callee (f := 16) rfl ?_); refine goesL_ (some 17) rfl rfl Tryd.func16 (by kernel_rfl) rfl #[.agg #[.int .i64 a0_0, .int .i64 a0_1, .string a0_2, .slice A0_3 l0_3.length c0_3]] rfl (by (try simp only [List.map_toArray, List.map_cons, List.map_nil]); first | done | rfl | (simp only [List.length_drop, List.length_take]; rfl)) ?_; (with_reducible refine (thyrsuslaw3_Few.calls k a0_0 a0_1 a0_2 _ _ l0_3 true _ ?side1 ?side2 A10.out).mono ?_); (case side1 => repeat (first | exact (Kd.C_below HR0_3.out HB.out) | (with_reducible refine Kd.C_alloc ?_ _) | (with_reducible refine Kd.C_drewN ?_ _) | (with_reducible refine Kd.C_drew ?_))); (case side2 => exact HC0_3.out); rintro e w21 ⟨rfl, hb⟩; refine ⟨_, rfl, ?_⟩; have n0_ := Aside0.mk (blk_below (g := gb179) (o := .cells #[.int .i64 a0_0, .int .i64 a0_1, .string a0_2, .slice A0_3 l0_3.length c0_3] 38 (0, 0)) (by (with_reducible repeat (first | refine blk_drewN ?_ _ | refine blk_drew ?_ | refine blk_alloc ?_ _)); exact BK179.out) hb); have n1_ := Aside0.mk (blk_below (g := gb180) (o := .cells #[.int .i64 a1_0, .int .i64 a1_1, .string a1_2, .slice A1_3 l1_3.length c1_3] 38 (0, 0)) (by (with_reducible repeat (first | refine blk_drewN ?_ _ | refine blk_drew ?_ | refine blk_alloc ?_ _)); exact BK180.out) hb); have n2_ := Aside0.mk (below_step (by repeat (first | (with_reducible first | exact HB.out | apply below_alloc | apply pw_below_drewN | apply below_drew1 | refine below_set ?_ GE179.out | refine below_set ?_ GE180.out) | exact HB.out)) hb); clear BK179; clear BK180; clear HB; have BK179 := n0_; have BK180 := n1_; have HB := n2_; clear n0_ n1_ n2_; (try clear hb); (try clear hb2); (try clear hk); (try clear hi); have hcz22_0 : w21.cell? ⟨gb180, 0, none⟩ = some (.int .i64 a1_0) := (blk_cell BK180.out 0).trans rfl; have hcz22_1 : w21.cell? ⟨gb180, 1, none⟩ = some (.int .i64 a1_1) := (blk_cell BK180.out 1).trans rfl; have hcz22_2 : w21.cell? ⟨gb180, 2, none⟩ = some (.string a1_2) := (blk_cell BK180.out 2).trans rfl; have hcz22_3 : w21.cell? ⟨gb180, 3, none⟩ = some (.slice A1_3 l1_3.length c1_3) := (blk_cell BK180.out 3).trans rfl; have hfz22_0 := blk_frozen BK180.out 0; have hfz22_1 := blk_frozen BK180.out 1; have hfz22_2 := blk_frozen BK180.out 2; have hfz22_3 := blk_frozen BK180.out 3) | (go_at_call 16; (with_reducible refine (thyrsuslaw3_Few.calls k a1_0 a1_1 a1_2 _ _ l1_3 false _ ?side1 ?side2 A12.out).mono ?_); (case side1 => repeat (first | exact (Kd.C_below HR1_3.out HB.out) | (with_reducible refine Kd.C_alloc ?_ _) | (with_reducible refine Kd.C_drewN ?_ _) | (with_reducible refine Kd.C_drew ?_))); (case side2 => exact HC1_3.out); rintro e w23 ⟨rfl, hb⟩; have n0_ := Aside0.mk (blk_below (g := gb179) (o := .cells #[.int .i64 a0_0, .int .i64 a0_1, .string a0_2, .slice A0_3 l0_3.length c0_3] 38 (0, 0)) (by (with_reducible repeat (first | refine blk_drewN ?_ _ | refine blk_drew ?_ | refine blk_alloc ?_ _)); exact BK179.out) hb); have n1_ := Aside0.mk (blk_below (g := gb180) (o := .cells #[.int .i64 a1_0, .int .i64 a1_1, .string a1_2, .slice A1_3 l1_3.length c1_3] 38 (0, 0)) (by (with_reducible repeat (first | refine blk_drewN ?_ _ | refine blk_drew ?_ | refine blk_alloc ?_ _)); exact BK180.out) hb); have n2_ := Aside0.mk (below_step (by repeat (first | (with_reducible first | exact HB.out | apply below_alloc | apply pw_below_drewN | apply below_drew1 | refine below_set ?_ GE179.out | refine below_set ?_ GE180.out) | exact HB.out)) hb); clear BK179; clear BK180; clear HB; have BK179 := n0_; have BK180 := n1_; have HB := n2_; clear n0_ n1_ n2_; (try clear hb); (try clear hb2); (try clear hk); (try clear hi)))
          go_meet
          case rel => exact ⟨_, (true), (by first | rfl | (simp; done) | (simp [*]; done)), H', ⟨by first | omega | exact Nat.le_refl _⟩, ⟨by (with_reducible repeat (first | refine blk_drewN ?_ _ | refine blk_drew ?_ | refine blk_alloc ?_ _)); exact BK179.out⟩, ⟨by (with_reducible repeat (first | refine blk_drewN ?_ _ | refine blk_drew ?_ | refine blk_alloc ?_ _)); exact BK180.out⟩, ⟨by repeat (first | (with_reducible first | exact HB.out | apply below_alloc | apply pw_below_drewN | apply below_drew1 | refine below_set ?_ GE179.out | refine below_set ?_ GE180.out) | exact HB.out)⟩⟩
      · replace c11 := Bool.eq_false_iff.mpr c11
        subst c11
        have H1 : (thyrsuslaw3_FormsMany.j0 k l2 true a0_0 a0_1 a0_2 l0_3 a1_0 a1_1 a1_2 l1_3) = some r := by rw [if_neg (show ¬ (false = true) by decide)] at H; exact H
        clear H
        have H := H1
        clear H1
        have H' := Aside0.mk H
        clear H
        have hnb24 := NB179_180.out
        have hnc24 := NB180_179.out
        have hcz25_0 : w9.cell? ⟨gb179, 0, none⟩ = some (.int .i64 a0_0) := (blk_cell BK179.out 0).trans rfl
        have hcz25_1 : w9.cell? ⟨gb179, 1, none⟩ = some (.int .i64 a0_1) := (blk_cell BK179.out 1).trans rfl
        have hcz25_2 : w9.cell? ⟨gb179, 2, none⟩ = some (.string a0_2) := (blk_cell BK179.out 2).trans rfl
        have hcz25_3 : w9.cell? ⟨gb179, 3, none⟩ = some (.slice A0_3 l0_3.length c0_3) := (blk_cell BK179.out 3).trans rfl
        have hfz25_0 := blk_frozen BK179.out 0
        have hfz25_1 := blk_frozen BK179.out 1
        have hfz25_2 := blk_frozen BK179.out 2
        have hfz25_3 := blk_frozen BK179.out 3
        go_wp2_with (first | ((with_reducible refine gate_callee (f := 16) rfl ?_); refine goesL_ (some 17) rfl rfl Tryd.func16 (by kernel_rfl) rfl #[.agg #[.int .i64 a0_0, .int .i64 a0_1, .string a0_2, .slice A0_3 l0_3.length c0_3]] rfl (by (try simp only [List.map_toArray, List.map_cons, List.map_nil]); first | done | rfl | (simp only [List.length_drop, List.length_take]; rfl)) ?_; (with_reducible refine (thyrsuslaw3_Few.calls k a0_0 a0_1 a0_2 _ _ l0_3 false _ ?side1 ?side2 A10.out).mono ?_); (case side1 => repeat (first | exact (Kd.C_below HR0_3.out HB.out) | (with_reducible refine Kd.C_alloc ?_ _) | (with_reducible refine Kd.C_drewN ?_ _) | (with_reducible refine Kd.C_drew ?_))); (case side2 => exact HC0_3.out); rintro e w26 ⟨rfl, hb⟩; refine ⟨_, rfl, ?_⟩; have n0_ := Aside0.mk (blk_below (g := gb179) (o := .cells #[.int .i64 a0_0, .int .i64 a0_1, .string a0_2, .slice A0_3 l0_3.length c0_3] 38 (0, 0)) (by (with_reducible repeat (first | refine blk_drewN ?_ _ | refine blk_drew ?_ | refine blk_alloc ?_ _)); exact BK179.out) hb); have n1_ := Aside0.mk (blk_below (g := gb180) (o := .cells #[.int .i64 a1_0, .int .i64 a1_1, .string a1_2, .slice A1_3 l1_3.length c1_3] 38 (0, 0)) (by (with_reducible repeat (first | refine blk_drewN ?_ _ | refine blk_drew ?_ | refine blk_alloc ?_ _)); exact BK180.out) hb); have n2_ := Aside0.mk (below_step (by repeat (first | (with_reducible first | exact HB.out | apply below_alloc | apply pw_below_drewN | apply below_drew1 | refine below_set ?_ GE179.out | refine below_set ?_ GE180.out) | exact HB.out)) hb); clear BK179; clear BK180; clear HB; have BK179 := n0_; have BK180 := n1_; have HB := n2_; clear n0_ n1_ n2_; (try clear hb); (try clear hb2); (try clear hk); (try clear hi)))
        go_meet
        case rel => exact ⟨_, (true), (by first | rfl | (simp; done) | (simp [*]; done)), H', ⟨by first | omega | exact Nat.le_refl _⟩, ⟨by (with_reducible repeat (first | refine blk_drewN ?_ _ | refine blk_drew ?_ | refine blk_alloc ?_ _)); exact BK179.out⟩, ⟨by (with_reducible repeat (first | refine blk_drewN ?_ _ | refine blk_drew ?_ | refine blk_alloc ?_ _)); exact BK180.out⟩, ⟨by repeat (first | (with_reducible first | exact HB.out | apply below_alloc | apply pw_below_drewN | apply below_drew1 | refine below_set ?_ GE179.out | refine below_set ?_ GE180.out) | exact HB.out)⟩⟩
    case rest =>
      clear HC6
      try clear c1
      try clear c2
      try clear p2
      try clear c4
      try clear c5
      try clear c10
      try clear c11
      try clear c13
      try clear c14
      try clear c16
      try clear c19
      try clear c24
      try clear hcz15_0
      try clear hcz15_1
      try clear hcz15_2
      try clear hcz15_3
      try clear hcz17_0
      try clear hcz17_1
      try clear hcz17_2
      try clear hcz17_3
      try clear hcz20_0
      try clear hcz20_1
      try clear hcz20_2
      try clear hcz20_3
      try clear hcz22_0
      try clear hcz22_1
      try clear hcz22_2
      try clear hcz22_3
      try clear hcz25_0
      try clear hcz25_1
      try clear hcz25_2
      try clear hcz25_3
      try clear hfz15_0
      try clear hfz15_1
      try clear hfz15_2
      try clear hfz15_3
      try clear hfz17_0
      try clear hfz17_1
      try clear hfz17_2
      try clear hfz17_3
      try clear hfz20_0
      try clear hfz20_1
      try clear hfz20_2
      try clear hfz20_3
      try clear hfz22_0
      try clear hfz22_1
      try clear hfz22_2
      try clear hfz22_3
      try clear hfz25_0
      try clear hfz25_1
      try clear hfz25_2
      try clear hfz25_3
      obtain ⟨kq, x28_5, rfl, HA, HJ5, BK179, BK180, HB⟩ := hcut
      cases kq with
      | zero => exact absurd HA.out (by simp [thyrsuslaw3_FormsMany.j0])
      | succ kj5 =>
        have H := HA.out
        clear HA
        simp only [thyrsuslaw3_FormsMany.j0] at H
        by_cases c27 : x28_5 = true
        · subst c27
          have H1 : (some true) = some r := by rw [if_pos rfl] at H; exact H
          clear H
          have H := H1
          clear H1
          obtain rfl := Option.some.inj H
          go_wp2
          go_ret
          exact ⟨by first | rfl | (simp [errW_none, errW_some] <;> rfl) | (simp [*, errW_none, errW_some] <;> rfl), by repeat (first | (with_reducible first | exact HB.out | apply below_alloc | apply pw_below_drewN | apply below_drew1 | refine below_set ?_ GE179.out | refine below_set ?_ GE180.out) | exact HB.out)⟩
        · replace c27 := Bool.eq_false_iff.mpr c27
          subst c27
          have H1 : ((thyrsuslaw3_Make.f kj5 a0_0 a0_1 a0_2 l0_3 5).bind fun bt184 => ((thyrsusref3_Text.f kj5 bt184.1 bt184.2.1 bt184.2.2.1 bt184.2.2.2).bind fun t190 => ((thyrsuslaw3_Make.f kj5 a1_0 a1_1 a1_2 l1_3 5).bind fun bt191 => ((thyrsusref3_Text.f kj5 bt191.1 bt191.2.1 bt191.2.2.1 bt191.2.2.2).bind fun t197 => (thyrsuslaw3_FormsMany.l0 kj5 l2 t190 t197 t190 0))))) = some r := by rw [if_neg (show ¬ (false = true) by decide)] at H; exact H
          clear H
          have H := H1
          clear H1
          replace H := Option.bind_eq_some_iff.mp H
          obtain ⟨⟨t184, t185, t186, t187⟩, A280, H⟩ := H
          replace H : ((thyrsusref3_Text.f kj5 t184 t185 t186 t187).bind fun t190 => ((thyrsuslaw3_Make.f kj5 a1_0 a1_1 a1_2 l1_3 5).bind fun bt191 => ((thyrsusref3_Text.f kj5 bt191.1 bt191.2.1 bt191.2.2.1 bt191.2.2.2).bind fun t197 => (thyrsuslaw3_FormsMany.l0 kj5 l2 t190 t197 t190 0)))) = some r := H
          have A28 := Aside0.mk A280
          clear A280
          replace H := Option.bind_eq_some_iff.mp H
          obtain ⟨t190, A290, H⟩ := H
          replace H : ((thyrsuslaw3_Make.f kj5 a1_0 a1_1 a1_2 l1_3 5).bind fun bt191 => ((thyrsusref3_Text.f kj5 bt191.1 bt191.2.1 bt191.2.2.1 bt191.2.2.2).bind fun t197 => (thyrsuslaw3_FormsMany.l0 kj5 l2 t190 t197 t190 0))) = some r := H
          have A29 := Aside0.mk A290
          clear A290
          replace H := Option.bind_eq_some_iff.mp H
          obtain ⟨⟨t191, t192, t193, t194⟩, A300, H⟩ := H
          replace H : ((thyrsusref3_Text.f kj5 t191 t192 t193 t194).bind fun t197 => (thyrsuslaw3_FormsMany.l0 kj5 l2 t190 t197 t190 0)) = some r := H
          have A30 := Aside0.mk A300
          clear A300
          replace H := Option.bind_eq_some_iff.mp H
          obtain ⟨t197, A310, H⟩ := H
          replace H : (thyrsuslaw3_FormsMany.l0 kj5 l2 t190 t197 t190 0) = some r := H
          have A31 := Aside0.mk A310
          clear A310
          have H' := Aside0.mk H
          clear H
          try go_wp2
          have n0_ := Aside0.mk (blk_drew BK179.out)
          have n1_ := Aside0.mk (blk_drew BK180.out)
          have n2_ := Aside0.mk (below_drew1 HB.out)
          clear BK179
          clear BK180
          clear HB
          have BK179 := n0_
          have BK180 := n1_
          have HB := n2_
          clear n0_ n1_ n2_
          refine start_ (n := 8) (S := fun w' => w'.cell? ⟨gb179, 0, none⟩ = some (.int .i64 a0_0) ∧ w'.cell? ⟨gb179, 1, none⟩ = some (.int .i64 a0_1) ∧ w'.cell? ⟨gb179, 2, none⟩ = some (.string a0_2) ∧ w'.cell? ⟨gb179, 3, none⟩ = some (.slice A0_3 l0_3.length c0_3) ∧ w'.cell? ⟨gb180, 0, none⟩ = some (.int .i64 a1_0) ∧ w'.cell? ⟨gb180, 1, none⟩ = some (.int .i64 a1_1) ∧ w'.cell? ⟨gb180, 2, none⟩ = some (.string a1_2) ∧ w'.cell? ⟨gb180, 3, none⟩ = some (.slice A1_3 l1_3.length c1_3)) (ds := []) #[false, false, false, false, false, false, false, false] (by kernel_rfl) rfl rfl ⟨(blk_cell BK179.out 0).trans rfl, (blk_cell BK179.out 1).trans rfl, (blk_cell BK179.out 2).trans rfl, (blk_cell BK179.out 3).trans rfl, (blk_cell BK180.out 0).trans rfl, (blk_cell BK180.out 1).trans rfl, (blk_cell BK180.out 2).trans rfl, (blk_cell BK180.out 3).trans rfl⟩ (fun hHeld => ?_); refine with_tabW thyrsuslaw3_FormsMany.tab5 thyrsuslaw3_FormsMany.bits5 (fun HT_ HW_ => ?_)
          generalize wc.drew = w32 at BK179 BK180 HB hHeld ⊢
          refine take_ (i := 0) (N := some 29) (v := ?_) (a' := ?_) #[true, false, false, false, false, false, false, false] rfl rfl (take_ofW HT_.out HW_.out (by kernel_rfl)) (fun _ _ _ h => h) (Or.inl ⟨by rfl, ?_⟩) hHeld ?_ ?_
          rotate_left
          · rintro w' ⟨s0, s1, s2, s3, s4, s5, s6, s7⟩
            go_simp
            with_reducible rfl
          rotate_left
          · simp only [Act.put, List.setIfInBounds_toArray, List.set_cons_zero, List.set_cons_succ, i64_w, i32_w, u8_w, u32_w]
            rfl
          refine take_ (i := 3) (N := some 32) (v := ?_) (a' := ?_) #[true, false, false, true, false, false, false, false] rfl rfl (take_ofW HT_.out HW_.out (by kernel_rfl)) (fun _ _ _ h => h) (Or.inl ⟨by rfl, ?_⟩) hHeld ?_ ?_
          rotate_left
          · rintro w' ⟨s0, s1, s2, s3, s4, s5, s6, s7⟩
            go_simp
            with_reducible rfl
          rotate_left
          · simp only [Act.put, List.setIfInBounds_toArray, List.set_cons_zero, List.set_cons_succ, i64_w, i32_w, u8_w, u32_w]
            rfl
          refine one_ (i := 1) (N := some 30) #[true, true, false, true, false, false, false, false] rfl rfl (one_of HT_.out (by kernel_rfl)) (by decide) (fun K hK => ?_)
          refine goes_ Tryd.func18 (by kernel_rfl) rfl #[.agg #[.int .i64 a0_0, .int .i64 a0_1, .string a0_2, .slice A0_3 l0_3.length c0_3], .int .i64 5] (by rfl) rfl rfl (by (try simp only [List.map_toArray, List.map_cons, List.map_nil]); first | done | rfl | (simp only [List.length_drop, List.length_take]; rfl)) ?_
          with_reducible refine (thyrsuslaw3_Make.calls kj5 a0_0 a0_1 a0_2 _ _ l0_3 5 t184 t185 t186 t187 _ ?side1 ?side2 A28.out).mono ?_
          (case side1 => repeat (first | exact (Kd.C_below HR0_3.out HB.out) | (with_reducible refine Kd.C_alloc ?_ _) | (with_reducible refine Kd.C_drewN ?_ _) | (with_reducible refine Kd.C_drew ?_)))
          (case side2 => exact HC0_3.out)
          rintro e w33 ⟨v188, rfl, ho0, hb⟩
          refine ⟨_, rfl, ?_⟩
          have n0_ := Aside0.mk (Kd.N_lower (Kd.N_mono (ok' := fun k_ => k_ ≠ gb179 ∧ k_ ≠ gb180) (Kd.R_N (Kd.R_bound ho0)) (fun k_ hk_ => ⟨(Kd.freshB (g := gb179) (o := .cells #[.int .i64 a0_0, .int .i64 a0_1, .string a0_2, .slice A0_3 l0_3.length c0_3] 38 (0, 0)) (by (with_reducible repeat (first | refine blk_drewN ?_ _ | refine blk_drew ?_ | refine blk_alloc ?_ _)); exact BK179.out) k_ hk_.2.1), (Kd.freshB (g := gb180) (o := .cells #[.int .i64 a1_0, .int .i64 a1_1, .string a1_2, .slice A1_3 l1_3.length c1_3] 38 (0, 0)) (by (with_reducible repeat (first | refine blk_drewN ?_ _ | refine blk_drew ?_ | refine blk_alloc ?_ _)); exact BK180.out) k_ hk_.2.1)⟩)) (below_size (by repeat (first | (with_reducible first | exact HB.out | apply below_alloc | apply pw_below_drewN | apply below_drew1 | refine below_set ?_ GE179.out | refine below_set ?_ GE180.out) | exact HB.out))))
          have n1_ := Aside0.mk (blk_below (g := gb179) (o := .cells #[.int .i64 a0_0, .int .i64 a0_1, .string a0_2, .slice A0_3 l0_3.length c0_3] 38 (0, 0)) (by (with_reducible repeat (first | refine blk_drewN ?_ _ | refine blk_drew ?_ | refine blk_alloc ?_ _)); exact BK179.out) hb)
          have n2_ := Aside0.mk (blk_below (g := gb180) (o := .cells #[.int .i64 a1_0, .int .i64 a1_1, .string a1_2, .slice A1_3 l1_3.length c1_3] 38 (0, 0)) (by (with_reducible repeat (first | refine blk_drewN ?_ _ | refine blk_drew ?_ | refine blk_alloc ?_ _)); exact BK180.out) hb)
          have n3_ := Aside0.mk (below_step (by repeat (first | (with_reducible first | exact HB.out | apply below_alloc | apply pw_below_drewN | apply below_drew1 | refine below_set ?_ GE179.out | refine below_set ?_ GE180.out) | exact HB.out)) hb)
          clear BK179
          clear BK180
          clear HB
          have HO189 := n0_
          have BK179 := n1_
          have BK180 := n2_
          have HB := n3_
          clear n0_ n1_ n2_ n3_
          (try clear hb)
          (try clear hb2)
          (try clear hk)
          (try clear hi)
          (try clear ho0)
          obtain ⟨Ao34, co34, eo34⟩ := Kd.N_slice HO189.out
          (first | subst eo34 | (injection eo34 with f1_ f2_ f3_; have f4_ := f1_.symm; have f5_ := f3_.symm; clear f1_ f2_ f3_; subst f4_; subst f5_))
          refine hK.out _ _ ⟨(blk_cell BK179.out 0).trans rfl, (blk_cell BK179.out 1).trans rfl, (blk_cell BK179.out 2).trans rfl, (blk_cell BK179.out 3).trans rfl, (blk_cell BK180.out 0).trans rfl, (blk_cell BK180.out 1).trans rfl, (blk_cell BK180.out 2).trans rfl, (blk_cell BK180.out 3).trans rfl⟩ (fun hHeld => ?_)
          clear hK K
          refine norm_ (a' := ?_) ?_ ?_
          rotate_left
          · show Act.put _ (some 30) _ = _
            simp only [Act.put, List.setIfInBounds_toArray, List.set_cons_zero, List.set_cons_succ, i64_w, i32_w, u8_w, u32_w]
            rfl
          refine one_ (i := 2) (N := some 31) #[true, true, true, true, false, false, false, false] rfl rfl (one_of HT_.out (by kernel_rfl)) (by decide) (fun K hK => ?_)
          refine goes_ Tryd.func17 (by kernel_rfl) rfl #[.agg #[.int .i64 t184, .int .i64 t185, .string t186, .slice Ao34 t187.length co34]] (by rfl) rfl rfl (by (try simp only [List.map_toArray, List.map_cons, List.map_nil]); first | done | rfl | (simp only [List.length_drop, List.length_take]; rfl)) ?_
          with_reducible refine (thyrsusref3_Text.calls kj5 t184 t185 t186 _ _ t187 t190 _ ?side1 ?side2 A29.out).mono ?_
          (case side1 => repeat (first | exact (Kd.N_reads' HO189.out).2.2 | (with_reducible refine Kd.C_alloc ?_ _) | (with_reducible refine Kd.C_drewN ?_ _) | (with_reducible refine Kd.C_drew ?_)))
          (case side2 => exact (Kd.N_reads' HO189.out).2.1)
          rintro e w35 ⟨rfl, hb⟩
          refine ⟨_, rfl, ?_⟩
          have n0_ := Aside0.mk (Kd.N_below (by (with_reducible repeat (first | apply Kd.N_alloc | apply Kd.N_drewN | apply Kd.N_drew)); exact HO189.out) hb)
          have n1_ := Aside0.mk (blk_below (g := gb179) (o := .cells #[.int .i64 a0_0, .int .i64 a0_1, .string a0_2, .slice A0_3 l0_3.length c0_3] 38 (0, 0)) (by (with_reducible repeat (first | refine blk_drewN ?_ _ | refine blk_drew ?_ | refine blk_alloc ?_ _)); exact BK179.out) hb)
          have n2_ := Aside0.mk (blk_below (g := gb180) (o := .cells #[.int .i64 a1_0, .int .i64 a1_1, .string a1_2, .slice A1_3 l1_3.length c1_3] 38 (0, 0)) (by (with_reducible repeat (first | refine blk_drewN ?_ _ | refine blk_drew ?_ | refine blk_alloc ?_ _)); exact BK180.out) hb)
          have n3_ := Aside0.mk (below_step (by repeat (first | (with_reducible first | exact HB.out | apply below_alloc | apply pw_below_drewN | apply below_drew1 | refine below_set ?_ GE179.out | refine below_set ?_ GE180.out) | exact HB.out)) hb)
          clear HO189
          clear BK179
          clear BK180
          clear HB
          have HO189 := n0_
          have BK179 := n1_
          have BK180 := n2_
          have HB := n3_
          clear n0_ n1_ n2_ n3_
          (try clear hb)
          (try clear hb2)
          (try clear hk)
          (try clear hi)
          refine hK.out _ _ ⟨(blk_cell BK179.out 0).trans rfl, (blk_cell BK179.out 1).trans rfl, (blk_cell BK179.out 2).trans rfl, (blk_cell BK179.out 3).trans rfl, (blk_cell BK180.out 0).trans rfl, (blk_cell BK180.out 1).trans rfl, (blk_cell BK180.out 2).trans rfl, (blk_cell BK180.out 3).trans rfl⟩ (fun hHeld => ?_)
          clear hK K
          refine norm_ (a' := ?_) ?_ ?_
          rotate_left
          · show Act.put _ (some 31) _ = _
            simp only [Act.put, List.setIfInBounds_toArray, List.set_cons_zero, List.set_cons_succ, i64_w, i32_w, u8_w, u32_w]
            rfl
          refine one_ (i := 4) (N := some 33) #[true, true, true, true, true, false, false, false] rfl rfl (one_of HT_.out (by kernel_rfl)) (by decide) (fun K hK => ?_)
          refine goes_ Tryd.func18 (by kernel_rfl) rfl #[.agg #[.int .i64 a1_0, .int .i64 a1_1, .string a1_2, .slice A1_3 l1_3.length c1_3], .int .i64 5] (by rfl) rfl rfl (by (try simp only [List.map_toArray, List.map_cons, List.map_nil]); first | done | rfl | (simp only [List.length_drop, List.length_take]; rfl)) ?_
          with_reducible refine (thyrsuslaw3_Make.calls kj5 a1_0 a1_1 a1_2 _ _ l1_3 5 t191 t192 t193 t194 _ ?side1 ?side2 A30.out).mono ?_
          (case side1 => repeat (first | exact (Kd.C_below HR1_3.out HB.out) | (with_reducible refine Kd.C_alloc ?_ _) | (with_reducible refine Kd.C_drewN ?_ _) | (with_reducible refine Kd.C_drew ?_)))
          (case side2 => exact HC1_3.out)
          rintro e w36 ⟨v195, rfl, ho0, hb⟩
          refine ⟨_, rfl, ?_⟩
          have n0_ := Aside0.mk (Kd.N_elder' (by (with_reducible repeat (first | apply Kd.N_alloc | apply Kd.N_drewN | apply Kd.N_drew)); exact HO189.out) (by first | exact Kd.N_base ho0 | exact Kd.R_base ho0) hb)
          have n1_ := Aside0.mk (Kd.N_lower (Kd.N_mono (ok' := fun k_ => some k_ ≠ (.slice Ao34 t187.length co34 : Value).ownBlock ∧ k_ ≠ gb179 ∧ k_ ≠ gb180) (Kd.R_N (Kd.R_bound ho0)) (fun k_ hk_ => ⟨(Kd.fresh' (Kd.N_lt (by (with_reducible repeat (first | apply Kd.N_alloc | apply Kd.N_drewN | apply Kd.N_drew)); exact HO189.out)) k_ hk_.2.1), (Kd.freshB (g := gb179) (o := .cells #[.int .i64 a0_0, .int .i64 a0_1, .string a0_2, .slice A0_3 l0_3.length c0_3] 38 (0, 0)) (by (with_reducible repeat (first | refine blk_drewN ?_ _ | refine blk_drew ?_ | refine blk_alloc ?_ _)); exact BK179.out) k_ hk_.2.1), (Kd.freshB (g := gb180) (o := .cells #[.int .i64 a1_0, .int .i64 a1_1, .string a1_2, .slice A1_3 l1_3.length c1_3] 38 (0, 0)) (by (with_reducible repeat (first | refine blk_drewN ?_ _ | refine blk_drew ?_ | refine blk_alloc ?_ _)); exact BK180.out) k_ hk_.2.1)⟩)) (below_size (by repeat (first | (with_reducible first | exact HB.out | apply below_alloc | apply pw_below_drewN | apply below_drew1 | refine below_set ?_ GE179.out | refine below_set ?_ GE180.out) | exact HB.out))))
          have n2_ := Aside0.mk (blk_below (g := gb179) (o := .cells #[.int .i64 a0_0, .int .i64 a0_1, .string a0_2, .slice A0_3 l0_3.length c0_3] 38 (0, 0)) (by (with_reducible repeat (first | refine blk_drewN ?_ _ | refine blk_drew ?_ | refine blk_alloc ?_ _)); exact BK179.out) hb)
          have n3_ := Aside0.mk (blk_below (g := gb180) (o := .cells #[.int .i64 a1_0, .int .i64 a1_1, .string a1_2, .slice A1_3 l1_3.length c1_3] 38 (0, 0)) (by (with_reducible repeat (first | refine blk_drewN ?_ _ | refine blk_drew ?_ | refine blk_alloc ?_ _)); exact BK180.out) hb)
          have n4_ := Aside0.mk (below_step (by repeat (first | (with_reducible first | exact HB.out | apply below_alloc | apply pw_below_drewN | apply below_drew1 | refine below_set ?_ GE179.out | refine below_set ?_ GE180.out) | exact HB.out)) hb)
          clear HO189
          clear BK179
          clear BK180
          clear HB
          have HO189 := n0_
          have HO196 := n1_
          have BK179 := n2_
          have BK180 := n3_
          have HB := n4_
          clear n0_ n1_ n2_ n3_ n4_
          (try clear hb)
          (try clear hb2)
          (try clear hk)
          (try clear hi)
          (try clear ho0)
          obtain ⟨Ao37, co37, eo37⟩ := Kd.N_slice HO196.out
          (first | subst eo37 | (injection eo37 with f1_ f2_ f3_; have f4_ := f1_.symm; have f5_ := f3_.symm; clear f1_ f2_ f3_; subst f4_; subst f5_))
          refine hK.out _ _ ⟨(blk_cell BK179.out 0).trans rfl, (blk_cell BK179.out 1).trans rfl, (blk_cell BK179.out 2).trans rfl, (blk_cell BK179.out 3).trans rfl, (blk_cell BK180.out 0).trans rfl, (blk_cell BK180.out 1).trans rfl, (blk_cell BK180.out 2).trans rfl, (blk_cell BK180.out 3).trans rfl⟩ (fun hHeld => ?_)
          clear hK K
          refine norm_ (a' := ?_) ?_ ?_
          rotate_left
          · show Act.put _ (some 33) _ = _
            simp only [Act.put, List.setIfInBounds_toArray, List.set_cons_zero, List.set_cons_succ, i64_w, i32_w, u8_w, u32_w]
            rfl
          refine one_ (i := 5) (N := some 34) #[true, true, true, true, true, true, false, false] rfl rfl (one_of HT_.out (by kernel_rfl)) (by decide) (fun K hK => ?_)
          refine goes_ Tryd.func17 (by kernel_rfl) rfl #[.agg #[.int .i64 t191, .int .i64 t192, .string t193, .slice Ao37 t194.length co37]] (by rfl) rfl rfl (by (try simp only [List.map_toArray, List.map_cons, List.map_nil]); first | done | rfl | (simp only [List.length_drop, List.length_take]; rfl)) ?_
          with_reducible refine (thyrsusref3_Text.calls kj5 t191 t192 t193 _ _ t194 t197 _ ?side1 ?side2 A31.out).mono ?_
          (case side1 => repeat (first | exact (Kd.N_reads' HO196.out).2.2 | (with_reducible refine Kd.C_alloc ?_ _) | (with_reducible refine Kd.C_drewN ?_ _) | (with_reducible refine Kd.C_drew ?_)))
          (case side2 => exact (Kd.N_reads' HO196.out).2.1)
          rintro e w38 ⟨rfl, hb⟩
          refine ⟨_, rfl, ?_⟩
          have n0_ := Aside0.mk (Kd.N_below (by (with_reducible repeat (first | apply Kd.N_alloc | apply Kd.N_drewN | apply Kd.N_drew)); exact HO189.out) hb)
          have n1_ := Aside0.mk (Kd.N_below (by (with_reducible repeat (first | apply Kd.N_alloc | apply Kd.N_drewN | apply Kd.N_drew)); exact HO196.out) hb)
          have n2_ := Aside0.mk (blk_below (g := gb179) (o := .cells #[.int .i64 a0_0, .int .i64 a0_1, .string a0_2, .slice A0_3 l0_3.length c0_3] 38 (0, 0)) (by (with_reducible repeat (first | refine blk_drewN ?_ _ | refine blk_drew ?_ | refine blk_alloc ?_ _)); exact BK179.out) hb)
          have n3_ := Aside0.mk (blk_below (g := gb180) (o := .cells #[.int .i64 a1_0, .int .i64 a1_1, .string a1_2, .slice A1_3 l1_3.length c1_3] 38 (0, 0)) (by (with_reducible repeat (first | refine blk_drewN ?_ _ | refine blk_drew ?_ | refine blk_alloc ?_ _)); exact BK180.out) hb)
          have n4_ := Aside0.mk (below_step (by repeat (first | (with_reducible first | exact HB.out | apply below_alloc | apply pw_below_drewN | apply below_drew1 | refine below_set ?_ GE179.out | refine below_set ?_ GE180.out) | exact HB.out)) hb)
          clear HO189
          clear HO196
          clear BK179
          clear BK180
          clear HB
          have HO189 := n0_
          have HO196 := n1_
          have BK179 := n2_
          have BK180 := n3_
          have HB := n4_
          clear n0_ n1_ n2_ n3_ n4_
          (try clear hb)
          (try clear hb2)
          (try clear hk)
          (try clear hi)
          refine hK.out _ _ ⟨(blk_cell BK179.out 0).trans rfl, (blk_cell BK179.out 1).trans rfl, (blk_cell BK179.out 2).trans rfl, (blk_cell BK179.out 3).trans rfl, (blk_cell BK180.out 0).trans rfl, (blk_cell BK180.out 1).trans rfl, (blk_cell BK180.out 2).trans rfl, (blk_cell BK180.out 3).trans rfl⟩ (fun hHeld => ?_)
          clear hK K
          refine norm_ (a' := ?_) ?_ ?_
          rotate_left
          · show Act.put _ (some 34) _ = _
            simp only [Act.put, List.setIfInBounds_toArray, List.set_cons_zero, List.set_cons_succ, i64_w, i32_w, u8_w, u32_w]
            rfl
          refine pure_ (i := 6) (N := some 7) (v := ?_) (a' := ?_) #[true, true, true, true, true, true, true, false] rfl rfl (any_of HT_.out (by kernel_rfl)) (fun _ _ _ h => h) (Or.inl ⟨by rfl, ?_⟩) ?_ ?_
          rotate_left
          · intro w'
            go_simp
            with_reducible rfl
          rotate_left
          · simp only [Act.put, List.setIfInBounds_toArray, List.set_cons_zero, List.set_cons_succ, i64_w, i32_w, u8_w, u32_w]
            rfl
          refine pure_ (i := 7) (N := some 8) (v := ?_) (a' := ?_) #[true, true, true, true, true, true, true, true] rfl rfl (any_of HT_.out (by kernel_rfl)) (fun _ _ _ h => h) (Or.inl ⟨by rfl, ?_⟩) ?_ ?_
          rotate_left
          · intro w'
            go_simp
            with_reducible rfl
          rotate_left
          · simp only [Act.put, List.setIfInBounds_toArray, List.set_cons_zero, List.set_cons_succ, i64_w, i32_w, u8_w, u32_w]
            rfl
          refine done_ (done_of HT_.out (by kernel_rfl)) ?_
          try go_wp2
          go_loopg [9, 10] kj5 (fun kq v9 v10 w' => ∃ (x9_2 : ByteArray) (x10_2 : Int), v9 = .string x9_2 ∧ v10 = .int .i64 x10_2 ∧ Aside0 (thyrsuslaw3_FormsMany.l0 kq l2 t190 t197 x9_2 x10_2 = some r) ∧ Aside0 (kq ≤ kj5) ∧ Aside0 (w'.heap[gb179]? = some (.cells #[.int .i64 a0_0, .int .i64 a0_1, .string a0_2, (.slice A0_3 l0_3.length c0_3)] 38 (0, 0))) ∧ Aside0 (w'.heap[gb180]? = some (.cells #[.int .i64 a1_0, .int .i64 a1_1, .string a1_2, (.slice A1_3 l1_3.length c1_3)] 38 (0, 0))) ∧ Aside0 (Below w.heap.size w w'))
          case atStart => exact ⟨(t190), (0), (by first | rfl | (simp; done) | (simp [*]; done)), (by first | rfl | (simp; done) | (simp [*]; done)), H', ⟨Nat.le_refl _⟩, ⟨by (with_reducible repeat (first | refine blk_drewN ?_ _ | refine blk_drew ?_ | refine blk_alloc ?_ _)); exact BK179.out⟩, ⟨by (with_reducible repeat (first | refine blk_drewN ?_ _ | refine blk_drew ?_ | refine blk_alloc ?_ _)); exact BK180.out⟩, ⟨by repeat (first | (with_reducible first | exact HB.out | apply below_alloc | apply pw_below_drewN | apply below_drew1 | refine below_set ?_ GE179.out | refine below_set ?_ GE180.out) | exact HB.out)⟩⟩
          case round =>
            clear H'
            try clear c1
            try clear c2
            try clear p2
            try clear c4
            try clear c5
            try clear c10
            try clear c11
            try clear c13
            try clear c14
            try clear c16
            try clear c17
            try clear c18
            try clear c19
            try clear c24
            try clear c27
            try clear hcz15_0
            try clear hcz15_1
            try clear hcz15_2
            try clear hcz15_3
            try clear hcz17_0
            try clear hcz17_1
            try clear hcz17_2
            try clear hcz17_3
            try clear hcz20_0
            try clear hcz20_1
            try clear hcz20_2
            try clear hcz20_3
            try clear hcz22_0
            try clear hcz22_1
            try clear hcz22_2
            try clear hcz22_3
            try clear hcz25_0
            try clear hcz25_1
            try clear hcz25_2
            try clear hcz25_3
            try clear hfz15_0
            try clear hfz15_1
            try clear hfz15_2
            try clear hfz15_3
            try clear hfz17_0
            try clear hfz17_1
            try clear hfz17_2
            try clear hfz17_3
            try clear hfz20_0
            try clear hfz20_1
            try clear hfz20_2
            try clear hfz20_3
            try clear hfz22_0
            try clear hfz22_1
            try clear hfz22_2
            try clear hfz22_3
            try clear hfz25_0
            try clear hfz25_1
            try clear hfz25_2
            try clear hfz25_3
            try clear p2
            try clear BK179
            try clear BK180
            try clear HB
            obtain ⟨x9_2, x10_2, rfl, rfl, HA, HK2, BK179, BK180, HB⟩ := hrel
            cases gk with
            | zero => exact absurd HA.out (by simp [thyrsuslaw3_FormsMany.l0])
            | succ k2 =>
              have H := HA.out
              clear HA
              simp only [thyrsuslaw3_FormsMany.l0] at H
              by_cases c39 : x10_2 < (l2.length : Int)
              · rw [if_pos c39] at H
                have c39b0 : decide (x10_2 < (l2.length : Int)) = true := decide_eq_true c39
                clear c39
                obtain ⟨y198, hy198⟩ : ∃ y_ : List ByteArray, y_ = (([(⟨#[32]⟩ : ByteArray), (⟨#[10]⟩ : ByteArray), (⟨#[59, 32, 40, 10]⟩ : ByteArray), (⟨#[9]⟩ : ByteArray)] : List ByteArray)) := ⟨_, rfl⟩
                replace H : (if 0 ≤ x10_2 then ((thyrsuslaw3_within.f (rd l2 x10_2) 4).bind fun t202 => (if 0 ≤ t202 then (if t202 < (y198.length : Int) then (if x9_2.size + (rdOf ByteArray.empty y198 t202).size ≤ 9223372036854775807 then (thyrsuslaw3_FormsMany.l0 k2 l2 t190 t197 (x9_2 ++ (rdOf ByteArray.empty y198 t202)) (wrap64 (x10_2 + 1))) else (none)) else (none)) else (none))) else (none)) = some r := by first | (rw [hy198]; with_reducible exact H) | (have H2_ := (Option.bind_some _ _).symm.trans H; rw [hy198]; with_reducible exact H2_) | (have H2_ := (Option.bind_some _ _).symm.trans H; with_reducible exact H2_) | with_reducible exact H | (rw [hy198]; exact H) | exact H
                have Ny198 := Aside0.mk hy198
                clear hy198
                by_cases c40 : 0 ≤ x10_2
                · rw [if_pos c40] at H
                  have c40b0 : decide (0 ≤ x10_2) = true := decide_eq_true c40
                  clear c40
                  replace H := Option.bind_eq_some_iff.mp H
                  obtain ⟨t202, A410, H⟩ := H
                  replace H : (if 0 ≤ t202 then (if t202 < (y198.length : Int) then (if x9_2.size + (rdOf ByteArray.empty y198 t202).size ≤ 9223372036854775807 then (thyrsuslaw3_FormsMany.l0 k2 l2 t190 t197 (x9_2 ++ (rdOf ByteArray.empty y198 t202)) (wrap64 (x10_2 + 1))) else (none)) else (none)) else (none)) = some r := H
                  have A41 := Aside0.mk A410
                  clear A410
                  by_cases c42 : 0 ≤ t202
                  · rw [if_pos c42] at H
                    have c42b0 : decide (0 ≤ t202) = true := decide_eq_true c42
                    clear c42
                    by_cases c43 : t202 < (y198.length : Int)
                    · rw [if_pos c43] at H
                      have c43b0 : decide (t202 < (y198.length : Int)) = true := decide_eq_true c43
                      clear c43
                      by_cases c44 : x9_2.size + (rdOf ByteArray.empty y198 t202).size ≤ 9223372036854775807
                      · rw [if_pos c44] at H
                        have c44b0 := eq_true c44
                        have c44b1 : decide (x9_2.size + (rdOf ByteArray.empty y198 t202).size ≤ 9223372036854775807) = true := decide_eq_true c44
                        try have c44b2 : (9223372036854775807 < x9_2.size + (rdOf ByteArray.empty y198 t202).size) = False := eq_false (Nat.not_lt.2 c44)
                        have H' := Aside0.mk H
                        clear H
                        go_wp2_with (first | ((with_reducible refine gate_dst (N := 43) rfl ?_); (try (refine gate_guard (by rfl) ?_; dsimp only)); refine Kd.R_lit Kd.string _ 9 ?hg (N := 43) ?hd (xs := ([(⟨#[32]⟩ : ByteArray), (⟨#[10]⟩ : ByteArray), (⟨#[59, 32, 40, 10]⟩ : ByteArray), (⟨#[9]⟩ : ByteArray)] : List ByteArray)) (inner := [.string (⟨#[32]⟩ : ByteArray), .string (⟨#[10]⟩ : ByteArray), .string (⟨#[59, 32, 40, 10]⟩ : ByteArray), .string (⟨#[9]⟩ : ByteArray)]) (ok := fun _ => True) (okp := fun _ => True) ?hr ?hp (fun _ hk => hk) trivial (Below.refl _ _) (Nat.le_refl _) (by simp) ?_; (case hd => rfl); (case hg => rfl); (case hr => first | (go_simp; done) | (go_simp; rfl)); (case hp => exact (Reps.one (show Kd.M Kd.string _ _ _ (⟨#[32]⟩ : ByteArray) [.string (⟨#[32]⟩ : ByteArray)] from rfl) (Reps.one (show Kd.M Kd.string _ _ _ (⟨#[10]⟩ : ByteArray) [.string (⟨#[10]⟩ : ByteArray)] from rfl) (Reps.one (show Kd.M Kd.string _ _ _ (⟨#[59, 32, 40, 10]⟩ : ByteArray) [.string (⟨#[59, 32, 40, 10]⟩ : ByteArray)] from rfl) (Reps.one (show Kd.M Kd.string _ _ _ (⟨#[9]⟩ : ByteArray) [.string (⟨#[9]⟩ : ByteArray)] from rfl) (Reps.none _ _)))))); intro v199 w45 ho46 hb hg_ hnew_; clear hg_ hnew_; (first | rw [← Ny198.out] at ho46 | (simp only [Int.reduceToNat] at ho46; rw [← Ny198.out] at ho46)); have n0_ := Aside0.mk (Kd.R_lower ho46 (below_size (by repeat (first | (with_reducible first | exact HB.out | apply below_alloc | apply pw_below_drewN | apply below_drew1 | refine below_set ?_ GE179.out | refine below_set ?_ GE180.out) | exact HB.out)))); have n1_ := Aside0.mk (blk_below (g := gb179) (o := .cells #[.int .i64 a0_0, .int .i64 a0_1, .string a0_2, .slice A0_3 l0_3.length c0_3] 38 (0, 0)) (by (with_reducible repeat (first | refine blk_drewN ?_ _ | refine blk_drew ?_ | refine blk_alloc ?_ _)); exact BK179.out) hb); have n2_ := Aside0.mk (blk_below (g := gb180) (o := .cells #[.int .i64 a1_0, .int .i64 a1_1, .string a1_2, .slice A1_3 l1_3.length c1_3] 38 (0, 0)) (by (with_reducible repeat (first | refine blk_drewN ?_ _ | refine blk_drew ?_ | refine blk_alloc ?_ _)); exact BK180.out) hb); have n3_ := Aside0.mk (below_step (by repeat (first | (with_reducible first | exact HB.out | apply below_alloc | apply pw_below_drewN | apply below_drew1 | refine below_set ?_ GE179.out | refine below_set ?_ GE180.out) | exact HB.out)) hb); clear BK179; clear BK180; clear HB; have HO200 := n0_; have BK179 := n1_; have BK180 := n2_; have HB := n3_; clear n0_ n1_ n2_ n3_; clear hb ho46; have p201 : 0 ≤ (x10_2 : Int) := of_decide_eq_true (by first | (with_reducible assumption) | assumption); have q201 : x10_2 < (l2.length : Int) := of_decide_eq_true (by first | (with_reducible assumption) | assumption); obtain ⟨ad201, e201, hx201_0⟩ := Kd.at_int HR2.out x10_2 p201 q201; cases e201; replace hx201_0 := (HB.out.cell (World.block_lt_of_cell? w _ hx201_0)).trans hx201_0; replace p201 := eq_true p201; replace q201 := eq_true q201) | ((with_reducible refine gate_callee (f := 12) rfl ?_); refine goesL_ (some 48) rfl rfl Tryd.func12 (by kernel_rfl) rfl #[.int .i64 (rd l2 x10_2), .int .i64 4] rfl (by (try simp only [List.map_toArray, List.map_cons, List.map_nil]); first | done | rfl | (simp only [List.length_drop, List.length_take]; rfl)) ?_; (with_reducible refine (thyrsuslaw3_within.calls (rd l2 x10_2) 4 t202 _ A41.out).mono ?_); rintro e w' ⟨rfl, ⟨nd, rfl⟩⟩; refine ⟨_, rfl, ?_⟩; obtain ⟨Ao47, co47, eo47⟩ := Kd.R_slice HO200.out; subst eo47; have p203 : 0 ≤ (t202 : Int) := of_decide_eq_true (by first | (with_reducible assumption) | assumption); have q203 : t202 < (y198.length : Int) := of_decide_eq_true (by first | (with_reducible assumption) | assumption); obtain ⟨ad203, e203, hx203_0⟩ := Kd.at_string (Kd.R_reads' HO200.out).2.2 t202 p203 q203; cases e203; replace p203 := eq_true p203; replace q203 := eq_true q203))
                        go_roundg k2
                        case measure => have := HJ5.out; have := HK2.out; omega
                        case rel => exact ⟨(x9_2 ++ (rdOf ByteArray.empty y198 t202)), (wrap64 (x10_2 + 1)), (by first | rfl | (simp; done) | (simp [*]; done)), (by first | rfl | (simp; done) | (simp [*]; done)), H', ⟨by have := HJ5.out; have := HK2.out; omega⟩, ⟨by (with_reducible repeat (first | refine blk_drewN ?_ _ | refine blk_drew ?_ | refine blk_alloc ?_ _)); exact BK179.out⟩, ⟨by (with_reducible repeat (first | refine blk_drewN ?_ _ | refine blk_drew ?_ | refine blk_alloc ?_ _)); exact BK180.out⟩, ⟨by repeat (first | (with_reducible first | exact HB.out | apply below_alloc | apply pw_below_drewN | apply below_drew1 | refine below_set ?_ GE179.out | refine below_set ?_ GE180.out) | exact HB.out)⟩⟩
                      · rw [if_neg c44] at H
                        exact absurd H (by simp)
                    · rw [if_neg c43] at H
                      exact absurd H (by simp)
                  · rw [if_neg c42] at H
                    exact absurd H (by simp)
                · rw [if_neg c40] at H
                  exact absurd H (by simp)
              · rw [if_neg c39] at H
                have c39b0 : decide (x10_2 < (l2.length : Int)) = false := decide_eq_false c39
                clear c39
                by_cases c48 : x9_2.size + 1 ≤ 9223372036854775807
                · rw [if_pos c48] at H
                  have c48b0 := eq_true c48
                  have c48b1 : decide (x9_2.size + 1 ≤ 9223372036854775807) = true := decide_eq_true c48
                  try have c48b2 : (9223372036854775807 < x9_2.size + 1) = False := eq_false (Nat.not_lt.2 c48)
                  by_cases c49 : (x9_2 ++ (⟨#[32]⟩ : ByteArray)).size + t197.size ≤ 9223372036854775807
                  · rw [if_pos c49] at H
                    have c49b0 := eq_true c49
                    have c49b1 : decide ((x9_2 ++ (⟨#[32]⟩ : ByteArray)).size + t197.size ≤ 9223372036854775807) = true := decide_eq_true c49
                    have c49b1x := c49b1
                    try simp only [ByteArray.size_append, szA1, szA2] at c49b1x
                    have c49b1y := c49b1x
                    try simp only [Int.natCast_add, Int.cast_ofNat_Int] at c49b1y
                    try have c49b2 : (9223372036854775807 < (x9_2 ++ (⟨#[32]⟩ : ByteArray)).size + t197.size) = False := eq_false (Nat.not_lt.2 c49)
                    have c49n := c49
                    try simp only [ByteArray.size_append, szA1, szA2] at c49n
                    have c49b3 := eq_false (Nat.not_lt.2 c49n)
                    clear c49n
                    by_cases c50 : (((x9_2 ++ (⟨#[32]⟩ : ByteArray)) ++ t197).size : Int) > 4000
                    · rw [if_pos c50] at H
                      have c50b0 : decide (4000 < (((x9_2 ++ (⟨#[32]⟩ : ByteArray)) ++ t197).size : Int)) = true := decide_eq_true c50
                      have c50b0x := c50b0
                      try simp only [ByteArray.size_append, szA1, szA2] at c50b0x
                      have c50b0y := c50b0x
                      try simp only [Int.natCast_add, Int.cast_ofNat_Int] at c50b0y
                      have c50b1 : decide (4000 < ((x9_2 ++ (⟨#[32]⟩ : ByteArray)) ++ t197).size) = true := decide_eq_true (by omega)
                      have c50b1x := c50b1
                      try simp only [ByteArray.size_append, szA1, szA2] at c50b1x
                      have c50b1y := c50b1x
                      try simp only [Int.natCast_add, Int.cast_ofNat_Int] at c50b1y
                      clear c50
                      obtain rfl := Option.some.inj H
                      go_wp2
                      go_ret
                      exact ⟨by first | rfl | (simp [errW_none, errW_some] <;> rfl) | (simp [*, errW_none, errW_some] <;> rfl), by repeat (first | (with_reducible first | exact HB.out | apply below_alloc | apply pw_below_drewN | apply below_drew1 | refine below_set ?_ GE179.out | refine below_set ?_ GE180.out) | exact HB.out)⟩
                    · rw [if_neg c50] at H
                      have c50b0 : decide (4000 < (((x9_2 ++ (⟨#[32]⟩ : ByteArray)) ++ t197).size : Int)) = false := decide_eq_false c50
                      have c50b0x := c50b0
                      try simp only [ByteArray.size_append, szA1, szA2] at c50b0x
                      have c50b0y := c50b0x
                      try simp only [Int.natCast_add, Int.cast_ofNat_Int] at c50b0y
                      have c50b1 : decide (4000 < ((x9_2 ++ (⟨#[32]⟩ : ByteArray)) ++ t197).size) = false := decide_eq_false (by omega)
                      have c50b1x := c50b1
                      try simp only [ByteArray.size_append, szA1, szA2] at c50b1x
                      have c50b1y := c50b1x
                      try simp only [Int.natCast_add, Int.cast_ofNat_Int] at c50b1y
                      clear c50
                      replace H := Option.bind_eq_some_iff.mp H
                      obtain ⟨⟨t204, t205, t206⟩, A510, H⟩ := H
                      replace H : (if t206 = 0 then (if (t204.length : Int) = 2 then (if 0 < (t204.length : Int) then ((forms_Text.f k2 ((rd_T42 t204 0).f0) ((rd_T42 t204 0).f1) ((rd_T42 t204 0).f2) ((rd_T42 t204 0).f3)).bind fun t210 => (if t210.toList = t190.toList then (if 1 < (t204.length : Int) then ((forms_Text.f k2 ((rd_T42 t204 1).f0) ((rd_T42 t204 1).f1) ((rd_T42 t204 1).f2) ((rd_T42 t204 1).f3)).bind fun t212 => (some (t212.toList == t197.toList))) else (none)) else (none))) else (none)) else (none)) else (none)) = some r := H
                      have A51 := Aside0.mk A510
                      clear A510
                      by_cases c52 : t206 = 0
                      · rw [if_pos c52] at H
                        have c52b0 : (t206 == 0) = true := beq_iff_eq.mpr c52
                        have c52b1 : (t206 != 0) = false := bne_eq_false_iff_eq.mpr c52
                        clear c52
                        by_cases c53 : (t204.length : Int) = 2
                        · rw [if_pos c53] at H
                          have c53b0 : ((t204.length : Int) == 2) = true := beq_iff_eq.mpr c53
                          have c53b1 : ((t204.length : Int) != 2) = false := bne_eq_false_iff_eq.mpr c53
                          clear c53
                          by_cases c54 : 0 < (t204.length : Int)
                          · rw [if_pos c54] at H
                            have c54b0 : decide (0 < (t204.length : Int)) = true := decide_eq_true c54
                            have c54b1 : decide (0 < t204.length) = true := decide_eq_true (by omega)
                            clear c54
                            replace H := Option.bind_eq_some_iff.mp H
                            obtain ⟨t210, A550, H⟩ := H
                            replace H : (if t210.toList = t190.toList then (if 1 < (t204.length : Int) then ((forms_Text.f k2 ((rd_T42 t204 1).f0) ((rd_T42 t204 1).f1) ((rd_T42 t204 1).f2) ((rd_T42 t204 1).f3)).bind fun t212 => (some (t212.toList == t197.toList))) else (none)) else (none)) = some r := H
                            have A55 := Aside0.mk A550
                            clear A550
                            by_cases c56 : t210.toList = t190.toList
                            · rw [if_pos c56] at H
                              have c56b0 : (t210.toList == t190.toList) = true := beq_iff_eq.mpr c56
                              have c56b1 : (t210.toList != t190.toList) = false := bne_eq_false_iff_eq.mpr c56
                              clear c56
                              by_cases c57 : 1 < (t204.length : Int)
                              · rw [if_pos c57] at H
                                have c57b0 : decide (1 < (t204.length : Int)) = true := decide_eq_true c57
                                have c57b1 : decide (1 < t204.length) = true := decide_eq_true (by omega)
                                clear c57
                                replace H := Option.bind_eq_some_iff.mp H
                                obtain ⟨t212, A580, H⟩ := H
                                replace H : (some (t212.toList == t197.toList)) = some r := H
                                have A58 := Aside0.mk A580
                                clear A580
                                obtain rfl := Option.some.inj H
                                go_wp2_with (first | ((with_reducible refine gate_callee (f := 13) rfl ?_); refine goesL_ (some 61) rfl rfl Tryd.func13 (by kernel_rfl) rfl #[.string ((x9_2 ++ (⟨#[32]⟩ : ByteArray)) ++ t197)] rfl (by (try simp only [List.map_toArray, List.map_cons, List.map_nil]); first | done | rfl | (simp only [List.length_drop, List.length_take]; rfl)) ?_; (with_reducible refine (forms_Parse.calls ((x9_2 ++ (⟨#[32]⟩ : ByteArray)) ++ t197) t204 t205 t206 _ A51.out).mono ?_); rintro e w59 ⟨v207, rfl, ho0, hb⟩; refine ⟨_, rfl, ?_⟩; have n0_ := Aside0.mk (Kd.N_lower (Kd.N_mono (ok' := fun k_ => k_ ≠ gb179 ∧ k_ ≠ gb180) (Kd.R_N (Kd.R_bound ho0)) (fun k_ hk_ => ⟨(Kd.freshB (g := gb179) (o := .cells #[.int .i64 a0_0, .int .i64 a0_1, .string a0_2, .slice A0_3 l0_3.length c0_3] 38 (0, 0)) (by (with_reducible repeat (first | refine blk_drewN ?_ _ | refine blk_drew ?_ | refine blk_alloc ?_ _)); exact BK179.out) k_ hk_.2.1), (Kd.freshB (g := gb180) (o := .cells #[.int .i64 a1_0, .int .i64 a1_1, .string a1_2, .slice A1_3 l1_3.length c1_3] 38 (0, 0)) (by (with_reducible repeat (first | refine blk_drewN ?_ _ | refine blk_drew ?_ | refine blk_alloc ?_ _)); exact BK180.out) k_ hk_.2.1)⟩)) (below_size (by repeat (first | (with_reducible first | exact HB.out | apply below_alloc | apply pw_below_drewN | apply below_drew1 | refine below_set ?_ GE179.out | refine below_set ?_ GE180.out) | exact HB.out)))); have n1_ := Aside0.mk (blk_below (g := gb179) (o := .cells #[.int .i64 a0_0, .int .i64 a0_1, .string a0_2, .slice A0_3 l0_3.length c0_3] 38 (0, 0)) (by (with_reducible repeat (first | refine blk_drewN ?_ _ | refine blk_drew ?_ | refine blk_alloc ?_ _)); exact BK179.out) hb); have n2_ := Aside0.mk (blk_below (g := gb180) (o := .cells #[.int .i64 a1_0, .int .i64 a1_1, .string a1_2, .slice A1_3 l1_3.length c1_3] 38 (0, 0)) (by (with_reducible repeat (first | refine blk_drewN ?_ _ | refine blk_drew ?_ | refine blk_alloc ?_ _)); exact BK180.out) hb); have n3_ := Aside0.mk (below_step (by repeat (first | (with_reducible first | exact HB.out | apply below_alloc | apply pw_below_drewN | apply below_drew1 | refine below_set ?_ GE179.out | refine below_set ?_ GE180.out) | exact HB.out)) hb); clear BK179; clear BK180; clear HB; have HO208 := n0_; have BK179 := n1_; have BK180 := n2_; have HB := n3_; clear n0_ n1_ n2_ n3_; (try clear hb); (try clear hb2); (try clear hk); (try clear hi); (try clear ho0); obtain ⟨Ao60, co60, eo60⟩ := Kd.N_slice HO208.out; subst eo60; have p209 : 0 ≤ (0 : Int) := (by omega); have q209 : 0 < (t204.length : Int) := of_decide_eq_true (by first | (with_reducible assumption) | assumption); obtain ⟨ad209, A209_3, c209_3, e209, hx209_0, hx209_1, hx209_2, hx209_3, hl209_3, hi209_3⟩ := at_T42 (Kd.N_reads' HO208.out).2.2 0 p209 q209; cases e209; obtain ⟨ce209, hce209, hMe209, hcc209⟩ := Kd.N_get HO208.out z42 0 p209 (by first | exact q209 | exact of_decide_eq_true (by first | (with_reducible assumption) | assumption) | (have e_ := (Kd.N_reads' HO208.out).1; omega)); obtain ⟨ua209_3, uc209_3, rfl, ul209_3, ge209_3⟩ := k42_openF hMe209; have hv209_3 := hcc209 3 _ rfl; rw [add_field _ _ 3 (by omega)] at hv209_3; replace hv209_3 := Option.some.inj (hv209_3.symm.trans hx209_3); injection hv209_3 with hva_ hvn_ hvc_; rw [hva_] at ge209_3; rw [hvc_] at ul209_3; have HL209_3 := Aside0.mk (show Kd.V k42 42 _ w.heap.size _ _ ((rd_T42 t204 0).f3) from Kd.V_mk ul209_3 ge209_3); clear hva_ hvn_ hvc_ ge209_3 ul209_3; clear hcc209 hce209; have qi209 : (0 < t204.length) = True := eq_true (by omega); (try rw [show ((0 : Int)).toNat = 0 from rfl] at hx209_0); (try rw [show 0 * 4 = 0 from rfl] at hx209_0); (try rw [Addr.add_zero'] at hx209_0); (try rw [show ((0 : Int)).toNat = 0 from rfl] at hx209_1); (try rw [show 0 * 4 = 0 from rfl] at hx209_1); (try rw [Addr.add_zero'] at hx209_1); (try rw [show ((0 : Int)).toNat = 0 from rfl] at hx209_2); (try rw [show 0 * 4 = 0 from rfl] at hx209_2); (try rw [Addr.add_zero'] at hx209_2); (try rw [show ((0 : Int)).toNat = 0 from rfl] at hx209_3); (try rw [show 0 * 4 = 0 from rfl] at hx209_3); (try rw [Addr.add_zero'] at hx209_3); have HR209_3 := Aside0.mk hi209_3; have HC209_3 := Aside0.mk hl209_3; clear hi209_3 hl209_3; replace p209 := eq_true p209; replace q209 := eq_true q209) | (go_at_call 19; (with_reducible refine (forms_Text.calls k2 ((rd_T42 t204 0).f0) ((rd_T42 t204 0).f1) ((rd_T42 t204 0).f2) _ _ ((rd_T42 t204 0).f3) t210 _ ?sideT ?side1 ?side2 A55.out).mono ?_); (case sideT => exact TabP.below HTB.out (by repeat (first | (with_reducible first | exact HB.out | apply below_alloc | apply pw_below_drewN | apply below_drew1 | refine below_set ?_ GE179.out | refine below_set ?_ GE180.out) | exact HB.out))); (case side1 => repeat (first | exact (by repeat (first | (with_reducible exact HR209_3.out) | (with_reducible refine Kd.C_alloc ?_ _) | (with_reducible refine Kd.C_drewN ?_ _) | (with_reducible refine Kd.C_drew ?_) | exact HR209_3.out)) | (with_reducible refine Kd.C_alloc ?_ _) | (with_reducible refine Kd.C_drewN ?_ _) | (with_reducible refine Kd.C_drew ?_))); (case side2 => exact HC209_3.out); rintro e w61 ⟨rfl, hb⟩; have n0_ := Aside0.mk (Kd.N_below (by (with_reducible repeat (first | apply Kd.N_alloc | apply Kd.N_drewN | apply Kd.N_drew)); exact HO208.out) hb); have n1_ := Aside0.mk (Kd.V_below (by (with_reducible repeat (first | apply Kd.V_alloc | apply Kd.V_drewN | apply Kd.V_drew)); exact HL209_3.out) hb); have n2_ := Aside0.mk (blk_below (g := gb179) (o := .cells #[.int .i64 a0_0, .int .i64 a0_1, .string a0_2, .slice A0_3 l0_3.length c0_3] 38 (0, 0)) (by (with_reducible repeat (first | refine blk_drewN ?_ _ | refine blk_drew ?_ | refine blk_alloc ?_ _)); exact BK179.out) hb); have n3_ := Aside0.mk (blk_below (g := gb180) (o := .cells #[.int .i64 a1_0, .int .i64 a1_1, .string a1_2, .slice A1_3 l1_3.length c1_3] 38 (0, 0)) (by (with_reducible repeat (first | refine blk_drewN ?_ _ | refine blk_drew ?_ | refine blk_alloc ?_ _)); exact BK180.out) hb); have n4_ := Aside0.mk (Kd.C_below (by repeat (first | (with_reducible exact HR209_3.out) | (with_reducible refine Kd.C_alloc ?_ _) | (with_reducible refine Kd.C_drewN ?_ _) | (with_reducible refine Kd.C_drew ?_) | exact HR209_3.out)) hb); have n5_ := Aside0.mk (below_step (by repeat (first | (with_reducible first | exact HB.out | apply below_alloc | apply pw_below_drewN | apply below_drew1 | refine below_set ?_ GE179.out | refine below_set ?_ GE180.out) | exact HB.out)) hb); clear HO208; clear HL209_3; clear BK179; clear BK180; clear HR209_3; clear HB; have HO208 := n0_; have HL209_3 := n1_; have BK179 := n2_; have BK180 := n3_; have HR209_3 := n4_; have HB := n5_; clear n0_ n1_ n2_ n3_ n4_ n5_; (try clear hb); (try clear hb2); (try clear hk); (try clear hi); have p211 : 0 ≤ (1 : Int) := (by omega); have q211 : 1 < (t204.length : Int) := of_decide_eq_true (by first | (with_reducible assumption) | assumption); obtain ⟨ad211, A211_3, c211_3, e211, hx211_0, hx211_1, hx211_2, hx211_3, hl211_3, hi211_3⟩ := at_T42 (Kd.N_reads' HO208.out).2.2 1 p211 q211; obtain rfl : ad209 = ad211 := (by injection e211); obtain ⟨ce211, hce211, hMe211, hcc211⟩ := Kd.N_get HO208.out z42 1 p211 (by first | exact q211 | exact of_decide_eq_true (by first | (with_reducible assumption) | assumption) | (have e_ := (Kd.N_reads' HO208.out).1; omega)); obtain ⟨ua211_3, uc211_3, rfl, ul211_3, ge211_3⟩ := k42_openF hMe211; have hv211_3 := hcc211 3 _ rfl; rw [add_field _ _ 3 (by omega)] at hv211_3; replace hv211_3 := Option.some.inj (hv211_3.symm.trans hx211_3); injection hv211_3 with hva_ hvn_ hvc_; rw [hva_] at ge211_3; rw [hvc_] at ul211_3; have HL211_3 := Aside0.mk (show Kd.V k42 42 _ w.heap.size _ _ ((rd_T42 t204 1).f3) from Kd.V_mk ul211_3 ge211_3); clear hva_ hvn_ hvc_ ge211_3 ul211_3; clear hcc211 hce211; (try simp only [show (1 : Int).toNat = 1 from rfl, Nat.reduceMul, Nat.reduceEqDiff, Go.Addr.add, ↓reduceIte] at hx211_0); (try simp only [show (1 : Int).toNat = 1 from rfl, Nat.reduceMul, Nat.reduceEqDiff, Go.Addr.add, ↓reduceIte] at hx211_1); (try simp only [show (1 : Int).toNat = 1 from rfl, Nat.reduceMul, Nat.reduceEqDiff, Go.Addr.add, ↓reduceIte] at hx211_2); (try simp only [show (1 : Int).toNat = 1 from rfl, Nat.reduceMul, Nat.reduceEqDiff, Go.Addr.add, ↓reduceIte] at hx211_3); have qi211 : (1 < t204.length) = True := eq_true (by omega); (try rw [show ((1 : Int)).toNat = 1 from rfl] at hx211_0); (try rw [show 1 * 4 = 4 from rfl] at hx211_0); (try rw [show ((1 : Int)).toNat = 1 from rfl] at hx211_1); (try rw [show 1 * 4 = 4 from rfl] at hx211_1); (try rw [show ((1 : Int)).toNat = 1 from rfl] at hx211_2); (try rw [show 1 * 4 = 4 from rfl] at hx211_2); (try rw [show ((1 : Int)).toNat = 1 from rfl] at hx211_3); (try rw [show 1 * 4 = 4 from rfl] at hx211_3); have HR211_3 := Aside0.mk hi211_3; have HC211_3 := Aside0.mk hl211_3; clear hi211_3 hl211_3; replace p211 := eq_true p211; replace q211 := eq_true q211) | (go_at_call 19; (with_reducible refine (forms_Text.calls k2 ((rd_T42 t204 1).f0) ((rd_T42 t204 1).f1) ((rd_T42 t204 1).f2) _ _ ((rd_T42 t204 1).f3) t212 _ ?sideT ?side1 ?side2 A58.out).mono ?_); (case sideT => exact TabP.below HTB.out (by repeat (first | (with_reducible first | exact HB.out | apply below_alloc | apply pw_below_drewN | apply below_drew1 | refine below_set ?_ GE179.out | refine below_set ?_ GE180.out) | exact HB.out))); (case side1 => repeat (first | exact (by repeat (first | (with_reducible exact HR211_3.out) | (with_reducible refine Kd.C_alloc ?_ _) | (with_reducible refine Kd.C_drewN ?_ _) | (with_reducible refine Kd.C_drew ?_) | exact HR211_3.out)) | (with_reducible refine Kd.C_alloc ?_ _) | (with_reducible refine Kd.C_drewN ?_ _) | (with_reducible refine Kd.C_drew ?_))); (case side2 => exact HC211_3.out); rintro e w62 ⟨rfl, hb⟩; have n0_ := Aside0.mk (Kd.N_below (by (with_reducible repeat (first | apply Kd.N_alloc | apply Kd.N_drewN | apply Kd.N_drew)); exact HO208.out) hb); have n1_ := Aside0.mk (Kd.V_below (by (with_reducible repeat (first | apply Kd.V_alloc | apply Kd.V_drewN | apply Kd.V_drew)); exact HL209_3.out) hb); have n2_ := Aside0.mk (Kd.V_below (by (with_reducible repeat (first | apply Kd.V_alloc | apply Kd.V_drewN | apply Kd.V_drew)); exact HL211_3.out) hb); have n3_ := Aside0.mk (blk_below (g := gb179) (o := .cells #[.int .i64 a0_0, .int .i64 a0_1, .string a0_2, .slice A0_3 l0_3.length c0_3] 38 (0, 0)) (by (with_reducible repeat (first | refine blk_drewN ?_ _ | refine blk_drew ?_ | refine blk_alloc ?_ _)); exact BK179.out) hb); have n4_ := Aside0.mk (blk_below (g := gb180) (o := .cells #[.int .i64 a1_0, .int .i64 a1_1, .string a1_2, .slice A1_3 l1_3.length c1_3] 38 (0, 0)) (by (with_reducible repeat (first | refine blk_drewN ?_ _ | refine blk_drew ?_ | refine blk_alloc ?_ _)); exact BK180.out) hb); have n5_ := Aside0.mk (Kd.C_below (by repeat (first | (with_reducible exact HR209_3.out) | (with_reducible refine Kd.C_alloc ?_ _) | (with_reducible refine Kd.C_drewN ?_ _) | (with_reducible refine Kd.C_drew ?_) | exact HR209_3.out)) hb); have n6_ := Aside0.mk (Kd.C_below (by repeat (first | (with_reducible exact HR211_3.out) | (with_reducible refine Kd.C_alloc ?_ _) | (with_reducible refine Kd.C_drewN ?_ _) | (with_reducible refine Kd.C_drew ?_) | exact HR211_3.out)) hb); have n7_ := Aside0.mk (below_step (by repeat (first | (with_reducible first | exact HB.out | apply below_alloc | apply pw_below_drewN | apply below_drew1 | refine below_set ?_ GE179.out | refine below_set ?_ GE180.out) | exact HB.out)) hb); clear HO208; clear HL209_3; clear HL211_3; clear BK179; clear BK180; clear HR209_3; clear HR211_3; clear HB; have HO208 := n0_; have HL209_3 := n1_; have HL211_3 := n2_; have BK179 := n3_; have BK180 := n4_; have HR209_3 := n5_; have HR211_3 := n6_; have HB := n7_; clear n0_ n1_ n2_ n3_ n4_ n5_ n6_ n7_; (try clear hb); (try clear hb2); (try clear hk); (try clear hi)))
                                go_ret
                                exact ⟨by first | rfl | (simp [errW_none, errW_some] <;> rfl) | (simp [*, errW_none, errW_some] <;> rfl), by repeat (first | (with_reducible first | exact HB.out | apply below_alloc | apply pw_below_drewN | apply below_drew1 | refine below_set ?_ GE179.out | refine below_set ?_ GE180.out) | exact HB.out)⟩
                              · rw [if_neg c57] at H
                                exact absurd H (by simp)
                            · rw [if_neg c56] at H
                              exact absurd H (by simp)
                          · rw [if_neg c54] at H
                            exact absurd H (by simp)
                        · rw [if_neg c53] at H
                          exact absurd H (by simp)
                      · rw [if_neg c52] at H
                        exact absurd H (by simp)
                  · rw [if_neg c49] at H
                    exact absurd H (by simp)
                · rw [if_neg c48] at H
                  exact absurd H (by simp)
  · replace c5 := Bool.eq_false_iff.mpr c5
    subst c5
    have H1 : (none) = some r := by rw [if_neg (show ¬ (false = true) by decide)] at H; exact H
    clear H
    have H := H1
    clear H1
    exact absurd H (by simp)

-- GIVEN: function 22 (thyrsuslaw3_Plain)

-- GIVEN: function 23 (thyrsusref3_Check)
end Go.Proofs.YtkkmgahgejjhgaaDoor.P
/- FormsMany: its plain part: the forms of two texts, one behind the other, are those of both. No conditions. -/
namespace Go.Proofs.YtkkmgahgejjhgaaDoor.Pure
open Go.RowKit Go.Proofs.YtkkmgahgejjhgaaDoor.P Go.Proofs.YtkkmgahgejjhgaaDoor.Lex Go.Proofs.YtkkmgahgejjhgaaDoor.Frm Go.Proofs.YtkkmgahgejjhgaaDoorW.PrintWords Go.Proofs.YtkkmgahgejjhgaaDoorW.PrintLast Go.Proofs.YtkkmgahgejjhgaaDoorW.PrintMore
set_option linter.unusedVariables false
set_option linter.unusedSimpArgs false
theorem known_ev : Ev (fun k => thyrsuslaw3_known.f k) true := ⟨3, fun k hk => by
  obtain ⟨d, rfl⟩ : ∃ d, k = d + 3 := ⟨k - 3, by omega⟩
  exact known_k d⟩
def seps : List ByteArray := [⟨#[32]⟩, ⟨#[10]⟩, ⟨#[59, 32, 40, 10]⟩, ⟨#[9]⟩]
theorem seps_ok {s : ByteArray} (h : s ∈ seps) : Sep (lst s) ∧ s.size ≤ 4 := by
  have hc : s = ⟨#[32]⟩ ∨ s = ⟨#[10]⟩ ∨ s = ⟨#[59, 32, 40, 10]⟩ ∨ s = ⟨#[9]⟩ := by simpa [seps] using h
  rcases hc with rfl | rfl | rfl | rfl
  · exact ⟨sep_32, by decide⟩
  · exact ⟨sep_10, by decide⟩
  · exact ⟨sep_rem, by decide⟩
  · exact ⟨sep_9, by decide⟩
theorem FormsMany {x y : S38} (hx : WF38 x) (hy : WF38 y) (l : List Int) (hl : ∀ z ∈ l, -9223372036854775808 ≤ z ∧ z ≤ 9223372036854775807) : ∃ k, thyrsuslaw3_FormsMany.f k x.f0 x.f1 x.f2 x.f3 y.f0 y.f1 y.f2 y.f3 l = some true := by
  refine Ev.rounds (g := fun k => thyrsuslaw3_FormsMany.f k x.f0 x.f1 x.f2 x.f3 y.f0 y.f1 y.f2 y.f3 l) ?_
  obtain ⟨b1, e1, s1⟩ := few_ev hx
  obtain ⟨b2, e2, s2⟩ := few_ev hy
  have yes : Ev (fun k => thyrsuslaw3_FormsMany.j0 k l true x.f0 x.f1 x.f2 x.f3 y.f0 y.f1 y.f2 y.f3) true := Ev.step (f := fun _ => some true) (fun k => by simp only [thyrsuslaw3_FormsMany.j0, if_true]) (Ev.now _)
  unfold thyrsuslaw3_FormsMany.f
  refine Ev.bind known_ev ?_
  simp only [if_true]
  refine Ev.bind e1 ?_
  cases b1 with
  | false => simpa using yes
  | true =>
  simp only [if_true]
  refine Ev.bind e2 ?_
  cases b2 with
  | false => simpa using yes
  | true =>
  simp only [if_true]
  by_cases hlen : (l.length : Int) > 10
  · rw [show decide ((l.length : Int) > 10) = true from decide_eq_true hlen]
    exact yes
  rw [show decide ((l.length : Int) > 10) = false from decide_eq_false hlen]
  have z1 := s1 rfl
  have z2 := s2 rfl
  obtain ⟨t1, m1, f1, g1⟩ := make_ev hx 5 (by decide) (by omega)
  obtain ⟨t2, m2, f2, g2⟩ := make_ev hy 5 (by decide) (by omega)
  obtain ⟨c1, r1, l1⟩ := rtext_ev f1 (by omega)
  obtain ⟨c2, r2, l2⟩ := rtext_ev f2 (by omega)
  obtain ⟨d1, q1, p1⟩ := text_ev f1 (by omega)
  obtain ⟨d2, q2, p2⟩ := text_ev f2 (by omega)
  have w1 := tx_len f1
  have w2 := tx_len f2
  have v1 : c1.size ≤ 16000 := by rw [← lst_len, l1]; omega
  have v2 : c2.size ≤ 16000 := by rw [← lst_len, l2]; omega
  have loop : ∀ (d i : Nat) (acc : ByteArray) (sp : List UInt8), i + d = l.length → lst acc = tx t1 ++ sp → Sep sp → acc.size ≤ 16000 + 4 * i → Ev (fun k => thyrsuslaw3_FormsMany.l0 k l c1 c2 acc (i : Int)) true := by
    intro d
    induction d with
    | zero =>
      intro i acc sp hi hacc hsp hz
      obtain rfl : i = l.length := by omega
      have hs : lst ((acc ++ (⟨#[32]⟩ : ByteArray)) ++ c2) = tx t1 ++ (sp ++ [32] ++ tx t2) := by
        rw [lst_append, lst_append, hacc, l2]
        simp [lst]
      by_cases hbig : (((acc ++ (⟨#[32]⟩ : ByteArray)) ++ c2).size : Int) > 4000
      · refine Ev.step (f := fun _ => some true) (fun k => ?_) (Ev.now _)
        simp only [thyrsuslaw3_FormsMany.l0]
        rw [if_neg (by omega), if_pos (by omega), if_pos (by rw [ByteArray.size_append, szA1]; omega), if_pos hbig]
      · have hp := parse_two f1 f2 (by decide) (by decide) hsp hs (by omega)
        refine Ev.step (f := fun k => (forms_Text.f k t1.f0 t1.f1 t1.f2 t1.f3).bind fun t210 => (if t210.toList = c1.toList then ((forms_Text.f k t2.f0 t2.f1 t2.f2 t2.f3).bind fun t212 => (some (t212.toList == c2.toList))) else (none))) (fun k => ?_) (Ev.bind q1 ?_)
        · simp only [thyrsuslaw3_FormsMany.l0]
          rw [if_neg (by omega), if_pos (by omega), if_pos (by rw [ByteArray.size_append, szA1]; omega), if_neg hbig, forms_Parse.f, hp, Option.bind_some]
          rfl
        · have e1 : d1.toList = c1.toList := by rw [lst_toList, lst_toList, p1, l1]
          simp only [if_pos e1]
          refine Ev.bind q2 ?_
          have e2 : (d2.toList == c2.toList) = true := by rw [lst_toList, lst_toList, p2, l2]; simp
          rw [e2]
          exact Ev.now _
    | succ d ihd =>
      intro i acc sp hi hacc hsp hz
      have hil : i < l.length := by omega
      have hm : rd l (i : Int) = l[i] := by simp [rd, hil]
      obtain ⟨t, ht, hw⟩ := within_ex (hl l[i] (List.getElem_mem hil)) (n := 4) (by decide) (by decide)
      have ht4 : t < 4 := by omega
      have hmem : rdOf ByteArray.empty seps (t : Int) ∈ seps := by
        have hl4 : t < seps.length := ht4
        rw [show rdOf ByteArray.empty seps (t : Int) = seps[t] by simp [rdOf, hl4]]
        exact List.getElem_mem hl4
      obtain ⟨h1, h2⟩ := seps_ok hmem
      refine Ev.step (f := fun k => thyrsuslaw3_FormsMany.l0 k l c1 c2 (acc ++ rdOf ByteArray.empty seps (t : Int)) ((i + 1 : Nat) : Int)) (fun k => ?_) (ihd (i + 1) _ (sp ++ lst (rdOf ByteArray.empty seps (t : Int))) (by omega) (by rw [lst_append, hacc, List.append_assoc]) (hsp.app h1) (by rw [ByteArray.size_append]; omega))
      simp only [thyrsuslaw3_FormsMany.l0]
      rw [if_pos (by omega), Option.bind_some, if_pos (by omega), hm, hw, Option.bind_some, if_pos (by omega)]
      refine (if_pos (show (t : Int) < (seps.length : Int) from ht)).trans ?_
      refine (if_pos (show acc.size + (rdOf ByteArray.empty seps (t : Int)).size ≤ 9223372036854775807 by omega)).trans ?_
      rw [wrap_id (n := (i : Int) + 1) (by omega)]
      rfl
  refine Ev.step (f := fun k => (thyrsuslaw3_Make.f k x.f0 x.f1 x.f2 x.f3 5).bind fun bt184 => ((thyrsusref3_Text.f k bt184.1 bt184.2.1 bt184.2.2.1 bt184.2.2.2).bind fun t190 => ((thyrsuslaw3_Make.f k y.f0 y.f1 y.f2 y.f3 5).bind fun bt191 => ((thyrsusref3_Text.f k bt191.1 bt191.2.1 bt191.2.2.1 bt191.2.2.2).bind fun t197 => (thyrsuslaw3_FormsMany.l0 k l t190 t197 t190 0))))) (fun k => by simp only [thyrsuslaw3_FormsMany.j0]; rfl) ?_
  exact Ev.bind m1 (Ev.bind r1 (Ev.bind m2 (Ev.bind r2 (loop l.length 0 c1 [] (by omega) (by rw [l1, List.append_nil]) Sep.nil (by omega)))))
end Go.Proofs.YtkkmgahgejjhgaaDoor.Pure
namespace Go.Proofs.YtkkmgahgejjhgaaDoor.P
open Go.RowKit Go.Proofs.YtkkmgahgejjhgaaDoor.Pure Go.Proofs.YtkkmgahgejjhgaaDoorW.PrintWords Go.Proofs.YtkkmgahgejjhgaaDoorW.PrintLast Go.Proofs.YtkkmgahgejjhgaaDoorW.PrintMore
theorem row_C {k : IntKind} {w : World} {a : Option Addr} {len cap : Nat} {zs : List Int} (h : (a = none ∧ len = 0 ∧ cap = 0 ∧ zs = []) ∨ ∃ x, a = some x ∧ len ≤ cap ∧ cap ≤ maxLen ∧ zs.length = cap ∧ (∀ i, i < zs.length → w.cell? (x.add i) = some (.int k (zs.getD i 0))) ∧ ∀ n ∈ zs, (Lit.int k n).wf = true) :
    ∃ l : List Int, len = l.length ∧ l.length ≤ cap ∧ Kd.C (Kd.int k) w a l.length l ∧ ∀ x ∈ l, (Lit.int k x).wf = true := by
  obtain ⟨l, h1, h2, h3, h4⟩ := ReadsInt.ofRow h
  refine ⟨l, h1, ?_, Kd.C_of_reads (enc := Value.int k) (d := (0 : Int)) h2, h4⟩
  rcases h with ⟨_, h5, h6, _⟩ | ⟨_, _, h5, _⟩ <;> omega
theorem formsMany_walk (x0 : S38) (A0 : Option Addr) (c0 : Nat) {W : World} (hl0 : x0.f3.length ≤ c0) (hC0 : Kd.C k38 W A0 x0.f3.length x0.f3) (wf0 : WF38 x0) (x1 : S38) (A1 : Option Addr) (c1 : Nat) (hl1 : x1.f3.length ≤ c1) (hC1 : Kd.C k38 W A1 x1.f3.length x1.f3) (wf1 : WF38 x1)
    (a2 : Option Addr) (len2 cap2 : Nat) (z2 : List Int) (h2 : (a2 = none ∧ len2 = 0 ∧ cap2 = 0 ∧ z2 = []) ∨ ∃ x, a2 = some x ∧ len2 ≤ cap2 ∧ cap2 ≤ maxLen ∧ z2.length = cap2 ∧ (∀ i, i < z2.length → W.cell? (x.add i) = some (.int .i64 (z2.getD i 0))) ∧ ∀ n ∈ z2, (Lit.int .i64 n).wf = true) (y2 : len2 * 8 ≤ 140737488351232) (hT : TabP W) :
    Calls Tryd.prog 4 #[.agg #[.int .i64 x0.f0, .int .i64 x0.f1, .string x0.f2, .slice A0 x0.f3.length c0], .agg #[.int .i64 x1.f0, .int .i64 x1.f1, .string x1.f2, .slice A1 x1.f3.length c1], .slice a2 len2 cap2] W fun e w' => e = .returned (.bool true) ∧ Below W.heap.size W w' := by
  obtain ⟨l2, rfl, e2, C2, r2⟩ := row_C h2
  obtain ⟨k, h⟩ := FormsMany wf0 wf1 l2 (fun z hz => i64_of (r2 z hz))
  exact thyrsuslaw3_FormsMany.calls k x0.f0 x0.f1 x0.f2 A0 c0 x0.f3 x1.f0 x1.f1 x1.f2 A1 c1 x1.f3 a2 cap2 l2 true W hT hC0 hl0 hC1 hl1 C2 e2 h
end Go.Proofs.YtkkmgahgejjhgaaDoor.P
/- A tree that came in (struct type 38: two numbers, a string, a slice of itself), opened: it reads as a Lean tree. -/
namespace Go.Proofs.YtkkmgahgejjhgaaDoor.P
open Go.RowKit Go.ChangeShapes Go.WideShapes Go.ChangeAt Go.Proofs.YtkkmgahgejjhgaaDoor.Pure Go.Proofs.YtkkmgahgejjhgaaDoorW.PrintWords Go.Proofs.YtkkmgahgejjhgaaDoorW.PrintLast Go.Proofs.YtkkmgahgejjhgaaDoorW.PrintMore
set_option linter.unusedVariables false
set_option linter.unusedSimpArgs false
theorem cells38 : Tryd.prog.cellsOf 38 = 4 := by kernel_rfl
theorem cells3 : Tryd.prog.cellsOf 3 = 1 := by kernel_rfl
theorem cells9 : Tryd.prog.cellsOf 9 = 1 := by kernel_rfl
theorem cells36 : Tryd.prog.cellsOf 36 = 1 := by kernel_rfl
theorem list_of {α : Type} (P : Nat → α → Prop) (n : Nat) (h : ∀ i, i < n → ∃ y, P i y) : ∃ l : List α, l.length = n ∧ ∀ i y, l[i]? = some y → P i y := by
  induction n with
  | zero => exact ⟨[], rfl, fun i y h => by simp at h⟩
  | succ n ih =>
    obtain ⟨l, h1, h2⟩ := ih (fun i hi => h i (by omega))
    obtain ⟨y, hy⟩ := h n (by omega)
    refine ⟨l ++ [y], by simp [h1], fun i z hz => ?_⟩
    rcases Nat.lt_or_ge i n with hi | hi
    · rw [List.getElem?_append_left (by omega)] at hz
      exact h2 i z hz
    · rw [List.getElem?_append_right (by omega)] at hz
      have : i = n := by
        have := (List.getElem?_eq_some_iff.1 hz).1
        simp at this
        omega
      subst this
      simp [h1] at hz
      rw [← hz]
      exact hy

set_option maxRecDepth 100000 in
theorem tree38 {H : Type} {enc : TypeId × Value → H} {W : World} {base : Nat} {spare : Nat → Bool} {held : Bool} : ∀ (fuel : Nat) (cs : List Value) (x : DataW H × List MemPlace), DataW.trod enc Tryd.prog W base spare held fuel 38 cs = some x → ∃ y : S38, k38.K W y cs ∧ WF38 y := by
  intro fuel
  induction fuel using Nat.strongRecOn with
  | _ fuel ih =>
  intro cs x h
  obtain ⟨xs, n, hn, _, hlen, hxs, hf⟩ := DataW.trod_struct Tryd.underlying38 h
  rw [cells38] at hlen
  obtain ⟨c0, c1, c2, c3, rfl⟩ : ∃ a b c d, cs = [a, b, c, d] := by
    match cs, hlen with
    | [a, b, c, d], _ => exact ⟨a, b, c, d, rfl⟩
  have f0 := hf 0 _ rfl
  have f1 := hf 1 _ rfl
  have f2 := hf 2 _ rfl
  have f3 := hf 3 _ rfl
  change DataW.trod _ _ _ _ _ _ _ 3 (([c0, c1, c2, c3].drop 0).take (Tryd.prog.cellsOf 3)) = _ at f0
  change DataW.trod _ _ _ _ _ _ _ 3 (([c0, c1, c2, c3].drop 1).take (Tryd.prog.cellsOf 3)) = _ at f1
  change DataW.trod _ _ _ _ _ _ _ 9 (([c0, c1, c2, c3].drop 2).take (Tryd.prog.cellsOf 9)) = _ at f2
  change DataW.trod _ _ _ _ _ _ _ 36 (([c0, c1, c2, c3].drop 3).take (Tryd.prog.cellsOf 36)) = _ at f3
  rw [cells3] at f0 f1
  rw [cells9] at f2
  rw [cells36] at f3
  simp only [List.drop_zero, List.drop_succ_cons, List.take_succ_cons, List.take_zero] at f0 f1 f2 f3
  have hx : ∀ i, i < xs.length → ∃ y, xs[i]? = some y := fun i hi => ⟨xs[i], List.getElem?_eq_getElem hi⟩
  obtain ⟨y0, e0⟩ := hx 0 (by rw [hxs]; decide)
  obtain ⟨y1, e1⟩ := hx 1 (by rw [hxs]; decide)
  obtain ⟨y2, e2⟩ := hx 2 (by rw [hxs]; decide)
  obtain ⟨y3, e3⟩ := hx 3 (by rw [hxs]; decide)
  rw [e0] at f0
  rw [e1] at f1
  rw [e2] at f2
  rw [e3] at f3
  obtain ⟨a, ha, _, wa⟩ := DataW.trod_int Tryd.underlying3 f0
  obtain ⟨b, hb, _, wb⟩ := DataW.trod_int Tryd.underlying3 f1
  obtain ⟨s, hs, _, _⟩ := DataW.trod_string Tryd.underlying9 f2
  obtain rfl : c0 = .int .i64 a := by simpa using ha
  obtain rfl : c1 = .int .i64 b := by simpa using hb
  obtain rfl : c2 = .string s := by simpa using hs
  rcases DataW.trod_slice Tryd.underlying36 f3 with ⟨h2, _⟩ | ⟨ad, len, cap, elems, rest, m, hm, h2, _, _, hlc, hcm, hel, hcell, _, _⟩
  · obtain rfl : c3 = .slice none 0 0 := by simpa using h2
    exact ⟨⟨a, b, s, []⟩, k38_mk W ⟨a, b, s, []⟩ (by simp) ⟨rfl, by simp, fun h => by simp at h⟩, WF38.mk a b s [] wa wb (by simp) (by simp)⟩
  · obtain rfl : c3 = .slice (some ad) len cap := by simpa using h2
    rw [cells38] at hcell
    have hall : ∀ i, i < len → ∃ y : S38, (∃ c : List Value, c.length = 4 ∧ k38.K W y c ∧ ∀ j u, c[j]? = some u → W.cell? (ad.add (i * 4 + j)) = some u) ∧ WF38 y := by
      intro i hi
      have h1 := hcell i hi
      have h3 : ∃ z, elems[i]? = some z := ⟨elems[i], List.getElem?_eq_getElem (by omega)⟩
      obtain ⟨z, hz⟩ := h3
      rw [hz, Option.bind_eq_some_iff] at h1
      obtain ⟨ci, hci, htr⟩ := h1
      obtain ⟨y, hy, wy⟩ := ih m (by omega) ci z htr
      obtain ⟨_, hl3, hcc⟩ := World.cells?_some hci
      refine ⟨y, ⟨ci, hl3, hy, fun j u hu => ?_⟩, wy⟩
      have hj : j < 4 := by
        have := (List.getElem?_eq_some_iff.1 hu).1
        omega
      have h4 := hcc j hj
      rw [← hu, ← h4, add_add]
    obtain ⟨l, hl, hP⟩ := list_of _ len hall
    subst hl
    have hmx : l.length ≤ 9223372036854775807 := by unfold maxLen at hcm; omega
    refine ⟨⟨a, b, s, l⟩, k38_mk W ⟨a, b, s, l⟩ hlc ⟨rfl, hmx, fun _ => ⟨ad, rfl, fun j p hj => (hP j p hj).1⟩⟩, WF38.mk a b s l wa wb hmx (fun y hy => ?_)⟩
    obtain ⟨i, hi, e⟩ := List.mem_iff_getElem.1 hy
    exact (hP i y (by rw [← e]; exact List.getElem?_eq_getElem hi)).2

set_option maxRecDepth 100000 in
theorem open_T38 {H : Type} {enc : TypeId × Value → H} {W : World} {spare : Nat → Bool} {held : Bool} {r : Reach} {b0 base : Nat} {v : Value} {d : DataW H} {ps : List MemPlace} (hv : Value.okWide Tryd.prog W r b0 38 v)
    (h : DataW.Trod enc Tryd.prog W base spare held 38 v d ps) :
    ∃ (x : S38) (A : Option Addr) (c : Nat), v = .agg #[.int .i64 x.f0, .int .i64 x.f1, .string x.f2, .slice A x.f3.length c] ∧ x.f3.length ≤ c ∧ Kd.C k38 W A x.f3.length x.f3 ∧ WF38 x := by
  obtain ⟨v0, v1, v2, v3, y0, y1, y2, y3, n, rfl, _, _, h0, h1, h2, h3⟩ := Joins.open_agg4 Tryd.underlying38 (by kernel_rfl) cells38 hv h
  obtain ⟨fuel, hf⟩ := h
  obtain ⟨y, hy, wy⟩ := tree38 fuel _ _ hf
  obtain ⟨A, c, e, hl, hC⟩ := k38_open hy
  obtain ⟨a, ha, _, _⟩ := DataW.trod_int Tryd.underlying3 h0
  obtain ⟨b, hb, _, _⟩ := DataW.trod_int Tryd.underlying3 h1
  obtain ⟨s, hs, _, _⟩ := DataW.trod_string Tryd.underlying9 h2
  obtain rfl : v0 = .int .i64 a := by simpa using ha
  obtain rfl : v1 = .int .i64 b := by simpa using hb
  obtain rfl : v2 = .string s := by simpa using hs
  have e2 : ∃ A' n' c', v3 = .slice A' n' c' := by
    rcases DataW.trod_slice Tryd.underlying36 h3 with ⟨q, _⟩ | ⟨ad, len, cap, _, _, _, _, q, _⟩
    · exact ⟨_, _, _, by simpa using q⟩
    · exact ⟨_, _, _, by simpa using q⟩
  obtain ⟨A', n', c', rfl⟩ := e2
  simp [Value.cells] at e
  obtain ⟨rfl, rfl, rfl, rfl, rfl, rfl⟩ := e
  exact ⟨y, A', c', rfl, hl, hC, wy⟩
end Go.Proofs.YtkkmgahgejjhgaaDoor.P
/- The rows' condition on listed variables, for strconv's table of powers of ten. -/
namespace Go.Proofs.YtkkmgahgejjhgaaDoor.P
theorem tabP_of {W : World} (h : laidMetH Tryd.prog Rows.formsDeepRow.laid W) : TabP W := by
  have h' : laidMet Tryd.prog Rows.formsDeepRow.laid W := h
  obtain ⟨ps, ⟨g1, t1, c1, f1, p1, q1, _, _, _, _, ⟨g2, t2, c2, f2, p2, q2, _, _, _, _, ⟨g, t, cs, fuel, p, q, hg, ht, hvar, hd, _, _⟩, _⟩, _⟩, _⟩ := h'
  have hg1 : Tryd.prog.globalNamed "internal/strconv.uint64pow10" = some 0 := by kernel_rfl
  obtain rfl := Option.some.inj (hg1.symm.trans hg)
  have ht1 : (Tryd.prog.globals[0]?).map (·.type) = some 107 := by kernel_rfl
  obtain rfl := Option.some.inj (ht1.symm.trans ht)
  have e := Lib.cells_of_tab (n := 20) (k := .u64) (zs := Lib.pow10Tab) Tryd.underlying107 Tryd.underlying91 (by kernel_rfl) (by kernel_rfl) hd
  unfold TabP Lib.TabIs
  rw [hvar, ← e]
end Go.Proofs.YtkkmgahgejjhgaaDoor.P
