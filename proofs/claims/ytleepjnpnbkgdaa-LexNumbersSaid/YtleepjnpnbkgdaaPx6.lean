-- Printed by mkprint.py (a program of this session, over the kit's print). Lean checks it.
import Derived.Test.YtleepjnpnbkgdaaPx0
import Derived.Test.YtleepjnpnbkgdaaPx1
import Derived.Test.YtleepjnpnbkgdaaPx2
import Derived.Test.YtleepjnpnbkgdaaHandT
namespace Go.Proofs.Ytleepjnpnbkgdaa.P
open Go.RowKit Go.Proofs.YtleepjnpnbkgdaaW.PrintWords Go.Proofs.YtleepjnpnbkgdaaW.PrintLast Go.Proofs.YtleepjnpnbkgdaaW.PrintMore
attribute [local go_sem] max2_int min2_int max_two min_two max_three min_three max_four min_four   -- for this text's walks alone
set_option linter.unusedVariables false
set_option linter.unusedSimpArgs false

attribute [local go_sem high] eqA29
/-! ### thyrsusref3_Digits: function 14 -/
def thyrsusref3_Digits.f : Nat → Int → Option (ByteArray)
  | 0, _ => none
  | k + 1, a0 => if a0 < 0 then (if a0 = (-9223372036854775808) then (some (⟨#[45, 57, 50, 50, 51, 51, 55, 50, 48, 51, 54, 56, 53, 52, 55, 55, 53, 56, 48, 56]⟩ : ByteArray)) else ((thyrsusref3_Digits.f k (wrap64 (-a0))).bind fun t178 => (if 1 + t178.size ≤ 9223372036854775807 then (some ((⟨#[45]⟩ : ByteArray) ++ t178)) else (none)))) else (if a0 ≥ 10 then ((thyrsusref3_Digits.f k (wrap64 (Int.tdiv a0 10))).bind fun t179 => ((thyrsusref3_Digits.f k (Int.tmod a0 10)).bind fun t180 => (if t179.size + t180.size ≤ 9223372036854775807 then (some (t179 ++ t180)) else (none)))) else (some (strOfNums (([(wrap64 (48 + a0)) % 256] : List Int)))))
theorem thyrsusref3_Digits.mono_l : ∀ k, (∀ y0, LeO (thyrsusref3_Digits.f k y0) (thyrsusref3_Digits.f (k + 1) y0))
  | 0 => fun _ r h => by simp [thyrsusref3_Digits.f] at h
  | k + 1 => by
    have ih0 := thyrsusref3_Digits.mono_l k
    · intro y0
      unfold thyrsusref3_Digits.f
      repeat' first
      | (with_reducible exact ih0 _)
      | (with_reducible exact LeO.refl _)
      | (with_reducible exact LeO.none _)
      | (with_reducible refine LeO.ite ?_ ?_)
      | (with_reducible refine LeO.bind ?_ (fun _ => ?_))
      | exact ih0 _
      | exact LeO.none _
      | refine LeO.ite ?_ ?_
      | refine LeO.bind ?_ (fun _ => ?_)
theorem thyrsusref3_Digits.mono : ∀ a0 k, LeO (thyrsusref3_Digits.f k a0) (thyrsusref3_Digits.f (k + 1) a0) := by
  intro a0 k
  have ih0 := thyrsusref3_Digits.mono_l k
  exact ih0 a0
set_option maxHeartbeats 8000000 in
set_option maxRecDepth 100000 in
theorem thyrsusref3_Digits.calls (k : Nat) : ∀ (a0 : Int) (r : ByteArray) (w : World) (h : thyrsusref3_Digits.f k a0 = some r),
    Calls Try.prog 14 #[.int .i64 a0] w fun e w' => e = .returned (.string r) ∧ Below w.heap.size w w' := by
  induction k using Nat.strongRecOn with
  | _ k ih =>
  intro a0 r w h
  cases k with
  | zero => exact absurd h (by simp [thyrsusref3_Digits.f])
  | succ k =>
  simp only [thyrsusref3_Digits.f] at h
  have HB := Aside0.mk (Below.refl w.heap.size w)
  have H : (if a0 < 0 then (if a0 = (-9223372036854775808) then (some (⟨#[45, 57, 50, 50, 51, 51, 55, 50, 48, 51, 54, 56, 53, 52, 55, 55, 53, 56, 48, 56]⟩ : ByteArray)) else ((thyrsusref3_Digits.f k (wrap64 (-a0))).bind fun t178 => (if 1 + t178.size ≤ 9223372036854775807 then (some ((⟨#[45]⟩ : ByteArray) ++ t178)) else (none)))) else (if a0 ≥ 10 then ((thyrsusref3_Digits.f k (wrap64 (Int.tdiv a0 10))).bind fun t179 => ((thyrsusref3_Digits.f k (Int.tmod a0 10)).bind fun t180 => (if t179.size + t180.size ≤ 9223372036854775807 then (some (t179 ++ t180)) else (none)))) else (some (strOfNums (([(wrap64 (48 + a0)) % 256] : List Int)))))) = some r := h
  clear h
  by_cases c2 : a0 < 0
  · rw [if_pos c2] at H
    have c2b0 : decide (a0 < 0) = true := decide_eq_true c2
    clear c2
    by_cases c3 : a0 = (-9223372036854775808)
    · rw [if_pos c3] at H
      have c3b0 : (a0 == (-9223372036854775808)) = true := beq_iff_eq.mpr c3
      have c3b1 : (a0 != (-9223372036854775808)) = false := bne_eq_false_iff_eq.mpr c3
      clear c3
      obtain rfl := Option.some.inj H
      go_enter Try.func14, Try.ntmps14
      go_wp2
      go_ret
      exact ⟨by first | rfl | (simp [errW_none, errW_some] <;> rfl) | (simp [*, errW_none, errW_some] <;> rfl), by repeat (first | (with_reducible first | exact HB.out | apply below_alloc | apply pw_below_drewN | apply below_drew1) | exact HB.out)⟩
    · rw [if_neg c3] at H
      have c3b0 : (a0 == (-9223372036854775808)) = false := beq_eq_false_iff_ne.mpr c3
      have c3b1 : (a0 != (-9223372036854775808)) = true := bne_iff_ne.mpr c3
      replace H := Option.bind_eq_some_iff.mp H
      obtain ⟨t178, A40, H⟩ := H
      replace H : (if 1 + t178.size ≤ 9223372036854775807 then (some ((⟨#[45]⟩ : ByteArray) ++ t178)) else (none)) = some r := H
      have A4 := Aside0.mk A40
      clear A40
      by_cases c5 : 1 + t178.size ≤ 9223372036854775807
      · rw [if_pos c5] at H
        have c5b0 := eq_true c5
        have c5b1 : decide (1 + t178.size ≤ 9223372036854775807) = true := decide_eq_true c5
        try have c5b2 : (9223372036854775807 < 1 + t178.size) = False := eq_false (Nat.not_lt.2 c5)
        obtain rfl := Option.some.inj H
        go_enter Try.func14, Try.ntmps14
        go_wp2_with (first | ((with_reducible refine gate_callee (f := 14) rfl ?_); refine goesL_ (some 9) rfl rfl Try.func14 (by kernel_rfl) rfl #[.int .i64 (wrap64 (-a0))] rfl (by (try simp only [List.map_toArray, List.map_cons, List.map_nil]); first | done | rfl | (simp only [List.length_drop, List.length_take]; rfl)) ?_; (with_reducible refine (ih k (by omega) (wrap64 (-a0)) t178 _ A4.out).mono ?_); rintro e w6 ⟨rfl, hb⟩; refine ⟨_, rfl, ?_⟩; have n0_ := Aside0.mk (below_step (by repeat (first | (with_reducible first | exact HB.out | apply below_alloc | apply pw_below_drewN | apply below_drew1) | exact HB.out)) hb); clear HB; have HB := n0_; clear n0_; (try clear hb); (try clear hb2); (try clear hk); (try clear hi)))
        go_ret
        exact ⟨by first | rfl | (simp [errW_none, errW_some] <;> rfl) | (simp [*, errW_none, errW_some] <;> rfl), by repeat (first | (with_reducible first | exact HB.out | apply below_alloc | apply pw_below_drewN | apply below_drew1) | exact HB.out)⟩
      · rw [if_neg c5] at H
        exact absurd H (by simp)
  · rw [if_neg c2] at H
    have c2b0 : decide (a0 < 0) = false := decide_eq_false c2
    clear c2
    by_cases c7 : a0 ≥ 10
    · rw [if_pos c7] at H
      have c7b0 : decide (10 ≤ a0) = true := decide_eq_true c7
      clear c7
      replace H := Option.bind_eq_some_iff.mp H
      obtain ⟨t179, A80, H⟩ := H
      replace H : ((thyrsusref3_Digits.f k (Int.tmod a0 10)).bind fun t180 => (if t179.size + t180.size ≤ 9223372036854775807 then (some (t179 ++ t180)) else (none))) = some r := H
      have A8 := Aside0.mk A80
      clear A80
      replace H := Option.bind_eq_some_iff.mp H
      obtain ⟨t180, A90, H⟩ := H
      replace H : (if t179.size + t180.size ≤ 9223372036854775807 then (some (t179 ++ t180)) else (none)) = some r := H
      have A9 := Aside0.mk A90
      clear A90
      by_cases c10 : t179.size + t180.size ≤ 9223372036854775807
      · rw [if_pos c10] at H
        have c10b0 := eq_true c10
        have c10b1 : decide (t179.size + t180.size ≤ 9223372036854775807) = true := decide_eq_true c10
        try have c10b2 : (9223372036854775807 < t179.size + t180.size) = False := eq_false (Nat.not_lt.2 c10)
        obtain rfl := Option.some.inj H
        go_enter Try.func14, Try.ntmps14
        go_wp2_with (first | ((with_reducible refine gate_callee (f := 14) rfl ?_); refine goesL_ (some 15) rfl rfl Try.func14 (by kernel_rfl) rfl #[.int .i64 (wrap64 (Int.tdiv a0 10))] rfl (by (try simp only [List.map_toArray, List.map_cons, List.map_nil]); first | done | rfl | (simp only [List.length_drop, List.length_take]; rfl)) ?_; (with_reducible refine (ih k (by omega) (wrap64 (Int.tdiv a0 10)) t179 _ A8.out).mono ?_); rintro e w11 ⟨rfl, hb⟩; refine ⟨_, rfl, ?_⟩; have n0_ := Aside0.mk (below_step (by repeat (first | (with_reducible first | exact HB.out | apply below_alloc | apply pw_below_drewN | apply below_drew1) | exact HB.out)) hb); clear HB; have HB := n0_; clear n0_; (try clear hb); (try clear hb2); (try clear hk); (try clear hi)) | ((with_reducible refine gate_callee (f := 14) rfl ?_); refine goesL_ (some 18) rfl rfl Try.func14 (by kernel_rfl) rfl #[.int .i64 (Int.tmod a0 10)] rfl (by (try simp only [List.map_toArray, List.map_cons, List.map_nil]); first | done | rfl | (simp only [List.length_drop, List.length_take]; rfl)) ?_; (with_reducible refine (ih k (by omega) (Int.tmod a0 10) t180 _ A9.out).mono ?_); rintro e w12 ⟨rfl, hb⟩; refine ⟨_, rfl, ?_⟩; have n0_ := Aside0.mk (below_step (by repeat (first | (with_reducible first | exact HB.out | apply below_alloc | apply pw_below_drewN | apply below_drew1) | exact HB.out)) hb); clear HB; have HB := n0_; clear n0_; (try clear hb); (try clear hb2); (try clear hk); (try clear hi)))
        go_ret
        exact ⟨by first | rfl | (simp [errW_none, errW_some] <;> rfl) | (simp [*, errW_none, errW_some] <;> rfl), by repeat (first | (with_reducible first | exact HB.out | apply below_alloc | apply pw_below_drewN | apply below_drew1) | exact HB.out)⟩
      · rw [if_neg c10] at H
        exact absurd H (by simp)
    · rw [if_neg c7] at H
      have c7b0 : decide (10 ≤ a0) = false := decide_eq_false c7
      clear c7
      obtain ⟨y181, hy181⟩ : ∃ y_ : List Int, y_ = (([(wrap64 (48 + a0)) % 256] : List Int)) := ⟨_, rfl⟩
      replace H : (some (strOfNums y181)) = some r := by first | (rw [hy181]; with_reducible exact H) | (have H2_ := (Option.bind_some _ _).symm.trans H; rw [hy181]; with_reducible exact H2_) | (have H2_ := (Option.bind_some _ _).symm.trans H; with_reducible exact H2_) | with_reducible exact H | (rw [hy181]; exact H) | exact H
      have Ny181 := Aside0.mk hy181
      clear hy181
      obtain rfl := Option.some.inj H
      go_enter Try.func14, Try.ntmps14
      go_wp2_with (first | ((with_reducible refine gate_dst (N := 23) rfl ?_); refine Kd.R_lit (Kd.int .u8) _ 5 ?hg (N := 23) ?hd (xs := ([(wrap64 (48 + a0)) % 256] : List Int)) (inner := [.int .u8 ((wrap64 (48 + a0)) % 256)]) (ok := fun _ => True) (okp := fun _ => True) ?hr ?hp (fun _ hk => hk) trivial (Below.refl _ _) (Nat.le_refl _) (by simp) ?_; (case hd => rfl); (case hg => rfl); (case hr => first | (go_simp; done) | (go_simp; rfl)); (case hp => exact (Reps.one (show Kd.M (Kd.int .u8) _ _ _ ((wrap64 (48 + a0)) % 256) [.int .u8 ((wrap64 (48 + a0)) % 256)] from rfl) (Reps.none _ _))); intro v182 w13 ho14 hb hg_ hnew_; clear hg_ hnew_; (first | rw [← Ny181.out] at ho14 | (simp only [Int.reduceToNat] at ho14; rw [← Ny181.out] at ho14)); have n0_ := Aside0.mk (Kd.R_lower ho14 (below_size (by repeat (first | (with_reducible first | exact HB.out | apply below_alloc | apply pw_below_drewN | apply below_drew1) | exact HB.out)))); have n1_ := Aside0.mk (below_step (by repeat (first | (with_reducible first | exact HB.out | apply below_alloc | apply pw_below_drewN | apply below_drew1) | exact HB.out)) hb); clear HB; have HO183 := n0_; have HB := n1_; clear n0_ n1_; clear hb ho14; have hcv15 := own_string (P := Try.prog) Try.underlying38 Try.underlying5 Try.underlying9 (Kd.own_of_R HO183.out)))
      go_ret
      exact ⟨by first | rfl | (simp [errW_none, errW_some] <;> rfl) | (simp [*, errW_none, errW_some] <;> rfl), by repeat (first | (with_reducible first | exact HB.out | apply below_alloc | apply pw_below_drewN | apply below_drew1) | exact HB.out)⟩

/-! ### thyrsuslaw2_LexNumbers: function 4 -/
mutual
def thyrsuslaw2_LexNumbers.j0 : Nat → Int → Int → Int → List (S29) → Int → Bool → Option (Bool)
  | 0, _, _, _, _, _, _ => none
  | k + 1, x0, x1, x2, x7, x9, x10 => if (x10 != (x9 == 4)) = true then (thyrsuslaw2_LexNumbers.j1 k x1 x2 true) else (if x10 = true then (thyrsuslaw2_LexNumbers.j1 k x1 x2 false) else (if x9 = 0 then (if (x7.length : Int) = 1 then (if 0 < (x7.length : Int) then (if ((rd_T29 x7 0).f1) = x0 then (thyrsuslaw2_LexNumbers.j1 k x1 x2 (((rd_T29 x7 0).f0) != 4)) else (thyrsuslaw2_LexNumbers.j1 k x1 x2 true)) else (none)) else (thyrsuslaw2_LexNumbers.j1 k x1 x2 true)) else (thyrsuslaw2_LexNumbers.j1 k x1 x2 true)))
def thyrsuslaw2_LexNumbers.j1 : Nat → Int → Int → Bool → Option (Bool)
  | 0, _, _, _ => none
  | k + 1, x1, x2, x61 => if x61 = true then (none) else ((thyrsuslaw2_within.f x2 5).bind fun t193 => ((thyrsuslaw2_within.f x1 2).bind fun t194 => (if t194 = 1 then (thyrsuslaw2_LexNumbers.j2 k (wrap64 (-(wrap64 (4611686018427387902 + t193))))) else (thyrsuslaw2_LexNumbers.j2 k (wrap64 (4611686018427387902 + t193))))))
def thyrsuslaw2_LexNumbers.j2 : Nat → Int → Option (Bool)
  | 0, _ => none
  | k + 1, x11 => (thyrsusref3_Digits.f k x11).bind fun t195 => (if 1 + t195.size ≤ 9223372036854775807 then ((lex_Tokens.f ((⟨#[32]⟩ : ByteArray) ++ t195)).bind fun bt196 => (if x11 > 4611686018427387904 then (if bt196.2.2 = 4 then (if bt196.2.1 = 1 then (some ((bt196.1.length : Int) == 0)) else (none)) else (none)) else (if x11 < (-4611686018427387904) then (if bt196.2.2 = 4 then (if bt196.2.1 = 1 then (some ((bt196.1.length : Int) == 0)) else (none)) else (none)) else (if bt196.2.2 = 0 then (if (bt196.1.length : Int) = 1 then (if 0 < (bt196.1.length : Int) then (some (((rd_T29 bt196.1 0).f0) == 4 && (((rd_T29 bt196.1 0).f1) == x11 && (((rd_T29 bt196.1 0).f2) == 1 && ((((rd_T29 bt196.1 0).f3).toList) == ([] : List UInt8)))))) else (none)) else (none)) else (none))))) else (none))
end
def thyrsuslaw2_LexNumbers.f (k : Nat) (a0 : Int) (a1 : Int) (a2 : Int) : Option (Bool) := (thyrsuslaw2_known.f).bind fun t184 => (if t184 = true then ((thyrsusref3_Digits.f k a0).bind fun t185 => ((lex_Tokens.f t185).bind fun bt186 => (if a0 < (-4611686018427387904) then (thyrsuslaw2_LexNumbers.j0 k a0 a1 a2 bt186.1 bt186.2.2 true) else (thyrsuslaw2_LexNumbers.j0 k a0 a1 a2 bt186.1 bt186.2.2 (decide (a0 > 4611686018427387904)))))) else (none))
theorem thyrsuslaw2_LexNumbers.mono_l : ∀ k, (∀ y0 y1 y2 y3 y4 y5, LeO (thyrsuslaw2_LexNumbers.j0 k y0 y1 y2 y3 y4 y5) (thyrsuslaw2_LexNumbers.j0 (k + 1) y0 y1 y2 y3 y4 y5)) ∧ (∀ y0 y1 y2, LeO (thyrsuslaw2_LexNumbers.j1 k y0 y1 y2) (thyrsuslaw2_LexNumbers.j1 (k + 1) y0 y1 y2)) ∧ (∀ y0, LeO (thyrsuslaw2_LexNumbers.j2 k y0) (thyrsuslaw2_LexNumbers.j2 (k + 1) y0))
  | 0 => ⟨fun _ _ _ _ _ _ r h => by simp [thyrsuslaw2_LexNumbers.j0] at h, fun _ _ _ r h => by simp [thyrsuslaw2_LexNumbers.j1] at h, fun _ r h => by simp [thyrsuslaw2_LexNumbers.j2] at h⟩
  | k + 1 => by
    obtain ⟨ih0, ih1, ih2⟩ := thyrsuslaw2_LexNumbers.mono_l k
    refine ⟨?_, ?_, ?_⟩
    · intro y0 y1 y2 y3 y4 y5
      unfold thyrsuslaw2_LexNumbers.j0
      repeat' first
      | (with_reducible exact ih0 _ _ _ _ _ _)
      | (with_reducible exact ih1 _ _ _)
      | (with_reducible exact ih2 _)
      | (with_reducible exact thyrsusref3_Digits.mono _ _)
      | (with_reducible exact LeO.refl _)
      | (with_reducible exact LeO.none _)
      | (with_reducible refine LeO.ite ?_ ?_)
      | (with_reducible refine LeO.bind ?_ (fun _ => ?_))
      | exact ih0 _ _ _ _ _ _
      | exact ih1 _ _ _
      | exact ih2 _
      | exact thyrsusref3_Digits.mono _ _
      | exact LeO.none _
      | refine LeO.ite ?_ ?_
      | refine LeO.bind ?_ (fun _ => ?_)
    · intro y0 y1 y2
      unfold thyrsuslaw2_LexNumbers.j1
      repeat' first
      | (with_reducible exact ih0 _ _ _ _ _ _)
      | (with_reducible exact ih1 _ _ _)
      | (with_reducible exact ih2 _)
      | (with_reducible exact thyrsusref3_Digits.mono _ _)
      | (with_reducible exact LeO.refl _)
      | (with_reducible exact LeO.none _)
      | (with_reducible refine LeO.ite ?_ ?_)
      | (with_reducible refine LeO.bind ?_ (fun _ => ?_))
      | exact ih0 _ _ _ _ _ _
      | exact ih1 _ _ _
      | exact ih2 _
      | exact thyrsusref3_Digits.mono _ _
      | exact LeO.none _
      | refine LeO.ite ?_ ?_
      | refine LeO.bind ?_ (fun _ => ?_)
    · intro y0
      unfold thyrsuslaw2_LexNumbers.j2
      repeat' first
      | (with_reducible exact ih0 _ _ _ _ _ _)
      | (with_reducible exact ih1 _ _ _)
      | (with_reducible exact ih2 _)
      | (with_reducible exact thyrsusref3_Digits.mono _ _)
      | (with_reducible exact LeO.refl _)
      | (with_reducible exact LeO.none _)
      | (with_reducible refine LeO.ite ?_ ?_)
      | (with_reducible refine LeO.bind ?_ (fun _ => ?_))
      | exact ih0 _ _ _ _ _ _
      | exact ih1 _ _ _
      | exact ih2 _
      | exact thyrsusref3_Digits.mono _ _
      | exact LeO.none _
      | refine LeO.ite ?_ ?_
      | refine LeO.bind ?_ (fun _ => ?_)
theorem thyrsuslaw2_LexNumbers.mono : ∀ a0 a1 a2 k, LeO (thyrsuslaw2_LexNumbers.f k a0 a1 a2) (thyrsuslaw2_LexNumbers.f (k + 1) a0 a1 a2) := by
  intro a0 a1 a2 k
  obtain ⟨ih0, ih1, ih2⟩ := thyrsuslaw2_LexNumbers.mono_l k
  unfold thyrsuslaw2_LexNumbers.f
  repeat' first
      | (with_reducible exact ih0 _ _ _ _ _ _)
      | (with_reducible exact ih1 _ _ _)
      | (with_reducible exact ih2 _)
      | (with_reducible exact thyrsusref3_Digits.mono _ _)
      | (with_reducible exact LeO.refl _)
      | (with_reducible exact LeO.none _)
      | (with_reducible refine LeO.ite ?_ ?_)
      | (with_reducible refine LeO.bind ?_ (fun _ => ?_))
      | exact ih0 _ _ _ _ _ _
      | exact ih1 _ _ _
      | exact ih2 _
      | exact thyrsusref3_Digits.mono _ _
      | exact LeO.none _
      | refine LeO.ite ?_ ?_
      | refine LeO.bind ?_ (fun _ => ?_)
set_option maxHeartbeats 8000000 in
set_option maxRecDepth 100000 in
theorem thyrsuslaw2_LexNumbers.calls (k : Nat) (a0 : Int) (a1 : Int) (a2 : Int) (r : Bool) (w : World) (h : thyrsuslaw2_LexNumbers.f k a0 a1 a2 = some r) :
    Calls Try.prog 4 #[.int .i64 a0, .int .i64 a1, .int .i64 a2] w fun e w' => e = .returned (.bool r) ∧ Below w.heap.size w w' := by
  have hu29 := Try.underlying29
  have HB := Aside0.mk (Below.refl w.heap.size w)
  have H : ((thyrsuslaw2_known.f).bind fun t184 => (if t184 = true then ((thyrsusref3_Digits.f k a0).bind fun t185 => ((lex_Tokens.f t185).bind fun bt186 => (if a0 < (-4611686018427387904) then (thyrsuslaw2_LexNumbers.j0 k a0 a1 a2 bt186.1 bt186.2.2 true) else (thyrsuslaw2_LexNumbers.j0 k a0 a1 a2 bt186.1 bt186.2.2 (decide (a0 > 4611686018427387904)))))) else (none))) = some r := h
  clear h
  replace H := Option.bind_eq_some_iff.mp H
  obtain ⟨t184, A40, H⟩ := H
  replace H : (if t184 = true then ((thyrsusref3_Digits.f k a0).bind fun t185 => ((lex_Tokens.f t185).bind fun bt186 => (if a0 < (-4611686018427387904) then (thyrsuslaw2_LexNumbers.j0 k a0 a1 a2 bt186.1 bt186.2.2 true) else (thyrsuslaw2_LexNumbers.j0 k a0 a1 a2 bt186.1 bt186.2.2 (decide (a0 > 4611686018427387904)))))) else (none)) = some r := H
  have A4 := Aside0.mk A40
  clear A40
  by_cases c5 : t184 = true
  · subst c5
    have H1 : ((thyrsusref3_Digits.f k a0).bind fun t185 => ((lex_Tokens.f t185).bind fun bt186 => (if a0 < (-4611686018427387904) then (thyrsuslaw2_LexNumbers.j0 k a0 a1 a2 bt186.1 bt186.2.2 true) else (thyrsuslaw2_LexNumbers.j0 k a0 a1 a2 bt186.1 bt186.2.2 (decide (a0 > 4611686018427387904)))))) = some r := by rw [if_pos rfl] at H; exact H
    clear H
    have H := H1
    clear H1
    replace H := Option.bind_eq_some_iff.mp H
    obtain ⟨t185, A60, H⟩ := H
    replace H : ((lex_Tokens.f t185).bind fun bt186 => (if a0 < (-4611686018427387904) then (thyrsuslaw2_LexNumbers.j0 k a0 a1 a2 bt186.1 bt186.2.2 true) else (thyrsuslaw2_LexNumbers.j0 k a0 a1 a2 bt186.1 bt186.2.2 (decide (a0 > 4611686018427387904))))) = some r := H
    have A6 := Aside0.mk A60
    clear A60
    replace H := Option.bind_eq_some_iff.mp H
    obtain ⟨⟨t186, t187, t188⟩, A70, H⟩ := H
    replace H : (if a0 < (-4611686018427387904) then (thyrsuslaw2_LexNumbers.j0 k a0 a1 a2 t186 t188 true) else (thyrsuslaw2_LexNumbers.j0 k a0 a1 a2 t186 t188 (decide (a0 > 4611686018427387904)))) = some r := H
    have A7 := Aside0.mk A70
    clear A70
    have HC8 := Aside0.mk H
    clear H
    go_enter Try.func4, Try.ntmps4
    go_upto_region 4 with (first | ((with_reducible refine gate_callee (f := 9) rfl ?_); refine goesL_ (some 15) rfl rfl Try.func9 (by kernel_rfl) rfl #[] rfl (by (try simp only [List.map_toArray, List.map_cons, List.map_nil]); first | done | rfl | (simp only [List.length_drop, List.length_take]; rfl)) ?_; (with_reducible refine (thyrsuslaw2_known.calls  true _ A4.out).mono ?_); rintro e w9 ⟨rfl, hb⟩; refine ⟨_, rfl, ?_⟩; have n0_ := Aside0.mk (below_step (by repeat (first | (with_reducible first | exact HB.out | apply below_alloc | apply pw_below_drewN | apply below_drew1) | exact HB.out)) hb); clear HB; have HB := n0_; clear n0_; (try clear hb); (try clear hb2); (try clear hk); (try clear hi)) | ((with_reducible refine gate_callee (f := 14) rfl ?_); refine goesL_ (some 19) rfl rfl Try.func14 (by kernel_rfl) rfl #[.int .i64 a0] rfl (by (try simp only [List.map_toArray, List.map_cons, List.map_nil]); first | done | rfl | (simp only [List.length_drop, List.length_take]; rfl)) ?_; (with_reducible refine (thyrsusref3_Digits.calls k a0 t185 _ A6.out).mono ?_); rintro e w10 ⟨rfl, hb⟩; refine ⟨_, rfl, ?_⟩; have n0_ := Aside0.mk (below_step (by repeat (first | (with_reducible first | exact HB.out | apply below_alloc | apply pw_below_drewN | apply below_drew1) | exact HB.out)) hb); clear HB; have HB := n0_; clear n0_; (try clear hb); (try clear hb2); (try clear hk); (try clear hi)) | ((with_reducible refine gate_callee (f := 13) rfl ?_); refine goesL_ (some 20) rfl rfl Try.func13 (by kernel_rfl) rfl #[.string t185] rfl (by (try simp only [List.map_toArray, List.map_cons, List.map_nil]); first | done | rfl | (simp only [List.length_drop, List.length_take]; rfl)) ?_; (with_reducible refine (lex_Tokens.calls t185 t186 t187 t188 _ A7.out).mono ?_); rintro e w11 ⟨v189, rfl, ho0, hb⟩; refine ⟨_, rfl, ?_⟩; have n0_ := Aside0.mk (Kd.R_lower ho0 (below_size (by repeat (first | (with_reducible first | exact HB.out | apply below_alloc | apply pw_below_drewN | apply below_drew1) | exact HB.out)))); have n1_ := Aside0.mk (below_step (by repeat (first | (with_reducible first | exact HB.out | apply below_alloc | apply pw_below_drewN | apply below_drew1) | exact HB.out)) hb); clear HB; have HO190 := n0_; have HB := n1_; clear n0_ n1_; (try clear hb); (try clear hb2); (try clear hk); (try clear hi); (try clear ho0)))
    (try simp only [Act.put, List.setIfInBounds_toArray, List.set_cons_zero, List.set_cons_succ])
    go_cut [10] (fun v10 wc => ∃ (kq : Nat) (x10_7 : Bool), v10 = .bool x10_7 ∧ Aside0 (thyrsuslaw2_LexNumbers.j0 kq a0 a1 a2 t186 t188 x10_7 = some r) ∧ Aside0 (kq ≤ k) ∧ Aside0 (Kd.R k29 29 wc w.heap.size (fun _ => True) v189 t186) ∧ Aside0 (Below w.heap.size w wc))
    case first =>
      have H := HC8.out
      clear HC8
      by_cases c12 : a0 < (-4611686018427387904)
      · rw [if_pos c12] at H
        have c12b0 : decide (a0 < (-4611686018427387904)) = true := decide_eq_true c12
        clear c12
        (first | rw [c12b0] | (simp only [i64_w, i32_w, u8_w, u32_w]; rw [c12b0]) | skip)
        have H' := Aside0.mk H
        clear H
        go_wp2
        go_meet
        case rel => exact ⟨_, (true), (by first | rfl | (simp; done) | (simp [*]; done)), H', ⟨by first | omega | exact Nat.le_refl _⟩, ⟨by (with_reducible repeat (first | apply Kd.R_alloc | apply Kd.R_drewN | apply Kd.R_drew)); exact HO190.out⟩, ⟨by repeat (first | (with_reducible first | exact HB.out | apply below_alloc | apply pw_below_drewN | apply below_drew1) | exact HB.out)⟩⟩
      · rw [if_neg c12] at H
        have c12b0 : decide (a0 < (-4611686018427387904)) = false := decide_eq_false c12
        clear c12
        (first | rw [c12b0] | (simp only [i64_w, i32_w, u8_w, u32_w]; rw [c12b0]) | skip)
        have H' := Aside0.mk H
        clear H
        go_wp2
        go_meet
        case rel => exact ⟨_, (decide (a0 > 4611686018427387904)), (by first | rfl | (simp; done) | (simp [*]; done)), H', ⟨by first | omega | exact Nat.le_refl _⟩, ⟨by (with_reducible repeat (first | apply Kd.R_alloc | apply Kd.R_drewN | apply Kd.R_drew)); exact HO190.out⟩, ⟨by repeat (first | (with_reducible first | exact HB.out | apply below_alloc | apply pw_below_drewN | apply below_drew1) | exact HB.out)⟩⟩
    case rest =>
      clear HC8
      try clear c1
      try clear p2
      try clear c4
      try clear c5
      try clear c9
      try clear c12
      try clear c12b0
      obtain ⟨kq, x10_7, rfl, HA, HJ7, HO_7, HB⟩ := hcut
      cases kq with
      | zero => exact absurd HA.out (by simp [thyrsuslaw2_LexNumbers.j0])
      | succ kj7 =>
        have H := HA.out
        clear HA
        simp only [thyrsuslaw2_LexNumbers.j0] at H
        have HC13 := Aside0.mk H
        clear H
        go_upto_region 5 with (fail)
        go_cut [61] (fun v61 wc => ∃ (kq : Nat) (x61_12 : Bool), v61 = .bool x61_12 ∧ Aside0 (thyrsuslaw2_LexNumbers.j1 kq a1 a2 x61_12 = some r) ∧ Aside0 (kq ≤ kj7) ∧ Aside0 (Below w.heap.size w wc))
        case first =>
          have H := HC13.out
          clear HC13
          by_cases c14 : (x10_7 != (t188 == 4)) = true
          · rw [if_pos c14] at H
            have c14b0 : (x10_7 != (t188 == 4)) = true := c14
            (try (have c14b1 : decide (x10_7 = (t188 == 4)) = false := by simpa using c14))
            (try (have c14b2 : (x10_7 == (t188 == 4)) = false := by simpa using c14))
            (try (have c14b3 : ¬ (x10_7 = (t188 == 4)) := by simpa using c14))
            clear c14
            (first | rw [c14b0] | (simp only [i64_w, i32_w, u8_w, u32_w]; rw [c14b0]) | skip)
            have H' := Aside0.mk H
            clear H
            go_wp2
            go_meet
            case rel => exact ⟨_, (true), (by first | rfl | (simp; done) | (simp [*]; done)), H', ⟨by have := HJ7.out; first | omega | exact Nat.le_refl _⟩, ⟨by repeat (first | (with_reducible first | exact HB.out | apply below_alloc | apply pw_below_drewN | apply below_drew1) | exact HB.out)⟩⟩
          · rw [if_neg c14] at H
            have c14b0 : (x10_7 != (t188 == 4)) = false := by simpa using c14
            (try (have c14b1 : decide (x10_7 = (t188 == 4)) = true := by simpa using c14))
            (try (have c14b2 : (x10_7 == (t188 == 4)) = true := by simpa using c14))
            clear c14
            (first | rw [c14b0] | (simp only [i64_w, i32_w, u8_w, u32_w]; rw [c14b0]) | skip)
            by_cases c15 : x10_7 = true
            · subst c15
              have H1 : (thyrsuslaw2_LexNumbers.j1 kj7 a1 a2 false) = some r := by rw [if_pos rfl] at H; exact H
              clear H
              have H := H1
              clear H1
              have H' := Aside0.mk H
              clear H
              go_wp2
              go_meet
              case rel => exact ⟨_, (false), (by first | rfl | (simp; done) | (simp [*]; done)), H', ⟨by have := HJ7.out; first | omega | exact Nat.le_refl _⟩, ⟨by repeat (first | (with_reducible first | exact HB.out | apply below_alloc | apply pw_below_drewN | apply below_drew1) | exact HB.out)⟩⟩
            · replace c15 := Bool.eq_false_iff.mpr c15
              subst c15
              have H1 : (if t188 = 0 then (if (t186.length : Int) = 1 then (if 0 < (t186.length : Int) then (if ((rd_T29 t186 0).f1) = a0 then (thyrsuslaw2_LexNumbers.j1 kj7 a1 a2 (((rd_T29 t186 0).f0) != 4)) else (thyrsuslaw2_LexNumbers.j1 kj7 a1 a2 true)) else (none)) else (thyrsuslaw2_LexNumbers.j1 kj7 a1 a2 true)) else (thyrsuslaw2_LexNumbers.j1 kj7 a1 a2 true)) = some r := by rw [if_neg (show ¬ (false = true) by decide)] at H; exact H
              clear H
              have H := H1
              clear H1
              by_cases c16 : t188 = 0
              · rw [if_pos c16] at H
                have c16b0 : (t188 == 0) = true := beq_iff_eq.mpr c16
                have c16b1 : (t188 != 0) = false := bne_eq_false_iff_eq.mpr c16
                clear c16
                by_cases c17 : (t186.length : Int) = 1
                · rw [if_pos c17] at H
                  have c17b0 : ((t186.length : Int) == 1) = true := beq_iff_eq.mpr c17
                  have c17b1 : ((t186.length : Int) != 1) = false := bne_eq_false_iff_eq.mpr c17
                  clear c17
                  by_cases c18 : 0 < (t186.length : Int)
                  · rw [if_pos c18] at H
                    have c18b0 : decide (0 < (t186.length : Int)) = true := decide_eq_true c18
                    have c18b1 : decide (0 < t186.length) = true := decide_eq_true (by omega)
                    clear c18
                    by_cases c19 : ((rd_T29 t186 0).f1) = a0
                    · rw [if_pos c19] at H
                      have c19b0 : (((rd_T29 t186 0).f1) == a0) = true := beq_iff_eq.mpr c19
                      have c19b1 : (((rd_T29 t186 0).f1) != a0) = false := bne_eq_false_iff_eq.mpr c19
                      clear c19
                      have H' := Aside0.mk H
                      clear H
                      obtain ⟨Ao20, co20, eo20⟩ := Kd.R_slice HO_7.out
                      subst eo20
                      have p191 : 0 ≤ (0 : Int) := (by omega)
                      have q191 : 0 < (t186.length : Int) := of_decide_eq_true (by first | (with_reducible assumption) | assumption)
                      obtain ⟨ad191, e191, hx191_0, hx191_1, hx191_2, hx191_3⟩ := at_T29 (Kd.R_reads' HO_7.out).2.2 0 p191 q191
                      cases e191
                      have qi191 : (0 < t186.length) = True := eq_true (by omega)
                      (try rw [show ((0 : Int)).toNat = 0 from rfl] at hx191_0)
                      (try rw [show 0 * 4 = 0 from rfl] at hx191_0)
                      (try rw [Addr.add_zero'] at hx191_0)
                      (try rw [show ((0 : Int)).toNat = 0 from rfl] at hx191_1)
                      (try rw [show 0 * 4 = 0 from rfl] at hx191_1)
                      (try rw [Addr.add_zero'] at hx191_1)
                      (try rw [show ((0 : Int)).toNat = 0 from rfl] at hx191_2)
                      (try rw [show 0 * 4 = 0 from rfl] at hx191_2)
                      (try rw [Addr.add_zero'] at hx191_2)
                      (try rw [show ((0 : Int)).toNat = 0 from rfl] at hx191_3)
                      (try rw [show 0 * 4 = 0 from rfl] at hx191_3)
                      (try rw [Addr.add_zero'] at hx191_3)
                      replace p191 := eq_true p191
                      replace q191 := eq_true q191
                      have p192 : 0 ≤ (0 : Int) := (by omega)
                      have q192 : 0 < (t186.length : Int) := of_decide_eq_true (by first | (with_reducible assumption) | assumption)
                      obtain ⟨ad192, e192, hx192_0, hx192_1, hx192_2, hx192_3⟩ := at_T29 (Kd.R_reads' HO_7.out).2.2 0 p192 q192
                      obtain rfl : ad191 = ad192 := (by injection e192)
                      have qi192 : (0 < t186.length) = True := eq_true (by omega)
                      (try rw [show ((0 : Int)).toNat = 0 from rfl] at hx192_0)
                      (try rw [show 0 * 4 = 0 from rfl] at hx192_0)
                      (try rw [Addr.add_zero'] at hx192_0)
                      (try rw [show ((0 : Int)).toNat = 0 from rfl] at hx192_1)
                      (try rw [show 0 * 4 = 0 from rfl] at hx192_1)
                      (try rw [Addr.add_zero'] at hx192_1)
                      (try rw [show ((0 : Int)).toNat = 0 from rfl] at hx192_2)
                      (try rw [show 0 * 4 = 0 from rfl] at hx192_2)
                      (try rw [Addr.add_zero'] at hx192_2)
                      (try rw [show ((0 : Int)).toNat = 0 from rfl] at hx192_3)
                      (try rw [show 0 * 4 = 0 from rfl] at hx192_3)
                      (try rw [Addr.add_zero'] at hx192_3)
                      replace p192 := eq_true p192
                      replace q192 := eq_true q192
                      go_wp2
                      go_meet
                      case rel => exact ⟨_, ((((rd_T29 t186 0).f0) != 4)), (by first | rfl | (simp; done) | (simp [*]; done)), H', ⟨by have := HJ7.out; first | omega | exact Nat.le_refl _⟩, ⟨by repeat (first | (with_reducible first | exact HB.out | apply below_alloc | apply pw_below_drewN | apply below_drew1) | exact HB.out)⟩⟩
                    · rw [if_neg c19] at H
                      have c19b0 : (((rd_T29 t186 0).f1) == a0) = false := beq_eq_false_iff_ne.mpr c19
                      have c19b1 : (((rd_T29 t186 0).f1) != a0) = true := bne_iff_ne.mpr c19
                      have H' := Aside0.mk H
                      clear H
                      obtain ⟨Ao21, co21, eo21⟩ := Kd.R_slice HO_7.out
                      subst eo21
                      have p191 : 0 ≤ (0 : Int) := (by omega)
                      have q191 : 0 < (t186.length : Int) := of_decide_eq_true (by first | (with_reducible assumption) | assumption)
                      obtain ⟨ad191, e191, hx191_0, hx191_1, hx191_2, hx191_3⟩ := at_T29 (Kd.R_reads' HO_7.out).2.2 0 p191 q191
                      cases e191
                      have qi191 : (0 < t186.length) = True := eq_true (by omega)
                      (try rw [show ((0 : Int)).toNat = 0 from rfl] at hx191_0)
                      (try rw [show 0 * 4 = 0 from rfl] at hx191_0)
                      (try rw [Addr.add_zero'] at hx191_0)
                      (try rw [show ((0 : Int)).toNat = 0 from rfl] at hx191_1)
                      (try rw [show 0 * 4 = 0 from rfl] at hx191_1)
                      (try rw [Addr.add_zero'] at hx191_1)
                      (try rw [show ((0 : Int)).toNat = 0 from rfl] at hx191_2)
                      (try rw [show 0 * 4 = 0 from rfl] at hx191_2)
                      (try rw [Addr.add_zero'] at hx191_2)
                      (try rw [show ((0 : Int)).toNat = 0 from rfl] at hx191_3)
                      (try rw [show 0 * 4 = 0 from rfl] at hx191_3)
                      (try rw [Addr.add_zero'] at hx191_3)
                      replace p191 := eq_true p191
                      replace q191 := eq_true q191
                      go_wp2
                      go_meet
                      case rel => exact ⟨_, (true), (by first | rfl | (simp; done) | (simp [*]; done)), H', ⟨by have := HJ7.out; first | omega | exact Nat.le_refl _⟩, ⟨by repeat (first | (with_reducible first | exact HB.out | apply below_alloc | apply pw_below_drewN | apply below_drew1) | exact HB.out)⟩⟩
                  · rw [if_neg c18] at H
                    exact absurd H (by simp)
                · rw [if_neg c17] at H
                  have c17b0 : ((t186.length : Int) == 1) = false := beq_eq_false_iff_ne.mpr c17
                  have c17b1 : ((t186.length : Int) != 1) = true := bne_iff_ne.mpr c17
                  have H' := Aside0.mk H
                  clear H
                  obtain ⟨Ao22, co22, eo22⟩ := Kd.R_slice HO_7.out
                  subst eo22
                  go_wp2
                  go_meet
                  case rel => exact ⟨_, (true), (by first | rfl | (simp; done) | (simp [*]; done)), H', ⟨by have := HJ7.out; first | omega | exact Nat.le_refl _⟩, ⟨by repeat (first | (with_reducible first | exact HB.out | apply below_alloc | apply pw_below_drewN | apply below_drew1) | exact HB.out)⟩⟩
              · rw [if_neg c16] at H
                have c16b0 : (t188 == 0) = false := beq_eq_false_iff_ne.mpr c16
                have c16b1 : (t188 != 0) = true := bne_iff_ne.mpr c16
                have H' := Aside0.mk H
                clear H
                go_wp2
                go_meet
                case rel => exact ⟨_, (true), (by first | rfl | (simp; done) | (simp [*]; done)), H', ⟨by have := HJ7.out; first | omega | exact Nat.le_refl _⟩, ⟨by repeat (first | (with_reducible first | exact HB.out | apply below_alloc | apply pw_below_drewN | apply below_drew1) | exact HB.out)⟩⟩
        case rest =>
          clear HC13
          try clear c1
          try clear p1
          try clear q1
          try clear hx1
          try clear qi1
          try clear p2
          try clear c4
          try clear c5
          try clear c9
          try clear c12
          try clear c12b0
          try clear c13
          try clear c14
          try clear c14b0
          try clear c14b1
          try clear c14b2
          try clear c15
          try clear c16
          try clear c16b0
          try clear c16b1
          try clear c17
          try clear c17b0
          try clear c17b1
          try clear c18
          try clear c18b0
          try clear c18b1
          try clear c19
          try clear c19b0
          try clear c19b1
          try clear p19
          try clear q19
          try clear hx19
          try clear qi19
          try clear hx191_0
          try clear hx191_1
          try clear hx191_2
          try clear hx191_3
          try clear hx192_0
          try clear hx192_1
          try clear hx192_2
          try clear hx192_3
          try clear p191
          try clear p192
          try clear p2
          try clear q191
          try clear q192
          obtain ⟨kq, x61_12, rfl, HA, HJ12, HB⟩ := hcut
          cases kq with
          | zero => exact absurd HA.out (by simp [thyrsuslaw2_LexNumbers.j1])
          | succ kj12 =>
            have H := HA.out
            clear HA
            simp only [thyrsuslaw2_LexNumbers.j1] at H
            by_cases c23 : x61_12 = true
            · subst c23
              have H1 : (none) = some r := by rw [if_pos rfl] at H; exact H
              clear H
              have H := H1
              clear H1
              exact absurd H (by simp)
            · replace c23 := Bool.eq_false_iff.mpr c23
              subst c23
              have H1 : ((thyrsuslaw2_within.f a2 5).bind fun t193 => ((thyrsuslaw2_within.f a1 2).bind fun t194 => (if t194 = 1 then (thyrsuslaw2_LexNumbers.j2 kj12 (wrap64 (-(wrap64 (4611686018427387902 + t193))))) else (thyrsuslaw2_LexNumbers.j2 kj12 (wrap64 (4611686018427387902 + t193)))))) = some r := by rw [if_neg (show ¬ (false = true) by decide)] at H; exact H
              clear H
              have H := H1
              clear H1
              replace H := Option.bind_eq_some_iff.mp H
              obtain ⟨t193, A240, H⟩ := H
              replace H : ((thyrsuslaw2_within.f a1 2).bind fun t194 => (if t194 = 1 then (thyrsuslaw2_LexNumbers.j2 kj12 (wrap64 (-(wrap64 (4611686018427387902 + t193))))) else (thyrsuslaw2_LexNumbers.j2 kj12 (wrap64 (4611686018427387902 + t193))))) = some r := H
              have A24 := Aside0.mk A240
              clear A240
              replace H := Option.bind_eq_some_iff.mp H
              obtain ⟨t194, A250, H⟩ := H
              replace H : (if t194 = 1 then (thyrsuslaw2_LexNumbers.j2 kj12 (wrap64 (-(wrap64 (4611686018427387902 + t193))))) else (thyrsuslaw2_LexNumbers.j2 kj12 (wrap64 (4611686018427387902 + t193)))) = some r := H
              have A25 := Aside0.mk A250
              clear A250
              have HC26 := Aside0.mk H
              clear H
              go_upto_if 67 with (first | ((with_reducible refine gate_callee (f := 12) rfl ?_); refine goesL_ (some 63) rfl rfl Try.func12 (by kernel_rfl) rfl #[.int .i64 a2, .int .i64 5] rfl (by (try simp only [List.map_toArray, List.map_cons, List.map_nil]); first | done | rfl | (simp only [List.length_drop, List.length_take]; rfl)) ?_; (with_reducible refine (thyrsuslaw2_within.calls a2 5 t193 _ A24.out).mono ?_); rintro e w' ⟨rfl, ⟨nd, rfl⟩⟩; refine ⟨_, rfl, ?_⟩) | ((with_reducible refine gate_callee (f := 12) rfl ?_); refine goesL_ (some 66) rfl rfl Try.func12 (by kernel_rfl) rfl #[.int .i64 a1, .int .i64 2] rfl (by (try simp only [List.map_toArray, List.map_cons, List.map_nil]); first | done | rfl | (simp only [List.length_drop, List.length_take]; rfl)) ?_; (with_reducible refine (thyrsuslaw2_within.calls a1 2 t194 _ A25.out).mono ?_); rintro e w' ⟨rfl, ⟨nd, rfl⟩⟩; refine ⟨_, rfl, ?_⟩))
              (try simp only [Act.put, List.setIfInBounds_toArray, List.set_cons_zero, List.set_cons_succ])
              go_cut [11] (fun v11 wc => ∃ (kq : Nat) (x11_25 : Int), v11 = .int .i64 x11_25 ∧ Aside0 (thyrsuslaw2_LexNumbers.j2 kq x11_25 = some r) ∧ Aside0 (kq ≤ kj12) ∧ Aside0 (Below w.heap.size w wc))
              case first =>
                have H := HC26.out
                clear HC26
                by_cases c27 : t194 = 1
                · rw [if_pos c27] at H
                  have c27b0 : (t194 == 1) = true := beq_iff_eq.mpr c27
                  have c27b1 : (t194 != 1) = false := bne_eq_false_iff_eq.mpr c27
                  clear c27
                  (first | rw [c27b0] | (simp only [i64_w, i32_w, u8_w, u32_w]; rw [c27b0]) | skip)
                  have H' := Aside0.mk H
                  clear H
                  go_wp2
                  go_meet
                  case rel => exact ⟨_, (wrap64 (-(wrap64 (4611686018427387902 + t193)))), (by first | rfl | (simp; done) | (simp [*]; done)), H', ⟨by have := HJ7.out; have := HJ12.out; first | omega | exact Nat.le_refl _⟩, ⟨by repeat (first | (with_reducible first | exact HB.out | apply below_alloc | apply pw_below_drewN | apply below_drew1) | exact HB.out)⟩⟩
                · rw [if_neg c27] at H
                  have c27b0 : (t194 == 1) = false := beq_eq_false_iff_ne.mpr c27
                  have c27b1 : (t194 != 1) = true := bne_iff_ne.mpr c27
                  (first | rw [c27b0] | (simp only [i64_w, i32_w, u8_w, u32_w]; rw [c27b0]) | skip)
                  have H' := Aside0.mk H
                  clear H
                  go_wp2
                  go_meet
                  case rel => exact ⟨_, (wrap64 (4611686018427387902 + t193)), (by first | rfl | (simp; done) | (simp [*]; done)), H', ⟨by have := HJ7.out; have := HJ12.out; first | omega | exact Nat.le_refl _⟩, ⟨by repeat (first | (with_reducible first | exact HB.out | apply below_alloc | apply pw_below_drewN | apply below_drew1) | exact HB.out)⟩⟩
              case rest =>
                clear HC26
                try clear c1
                try clear p1
                try clear q1
                try clear hx1
                try clear qi1
                try clear c2
                try clear p2
                try clear c4
                try clear c5
                try clear p6
                try clear c9
                try clear c12
                try clear c12b0
                try clear c13
                try clear c14
                try clear c14b0
                try clear c14b1
                try clear c14b2
                try clear c15
                try clear c16
                try clear c16b0
                try clear c16b1
                try clear c17
                try clear c17b0
                try clear c17b1
                try clear c18
                try clear c18b0
                try clear c18b1
                try clear c19
                try clear c19b0
                try clear c19b1
                try clear p19
                try clear q19
                try clear hx19
                try clear qi19
                try clear c23
                try clear c27
                try clear c27b0
                try clear c27b1
                try clear hx191_0
                try clear hx191_1
                try clear hx191_2
                try clear hx191_3
                try clear hx192_0
                try clear hx192_1
                try clear hx192_2
                try clear hx192_3
                try clear p1
                try clear p19
                try clear p191
                try clear p192
                try clear p2
                try clear q1
                try clear q19
                try clear q191
                try clear q192
                obtain ⟨kq, x11_25, rfl, HA, HJ25, HB⟩ := hcut
                cases kq with
                | zero => exact absurd HA.out (by simp [thyrsuslaw2_LexNumbers.j2])
                | succ kj25 =>
                  have H := HA.out
                  clear HA
                  simp only [thyrsuslaw2_LexNumbers.j2] at H
                  replace H := Option.bind_eq_some_iff.mp H
                  obtain ⟨t195, A280, H⟩ := H
                  replace H : (if 1 + t195.size ≤ 9223372036854775807 then ((lex_Tokens.f ((⟨#[32]⟩ : ByteArray) ++ t195)).bind fun bt196 => (if x11_25 > 4611686018427387904 then (if bt196.2.2 = 4 then (if bt196.2.1 = 1 then (some ((bt196.1.length : Int) == 0)) else (none)) else (none)) else (if x11_25 < (-4611686018427387904) then (if bt196.2.2 = 4 then (if bt196.2.1 = 1 then (some ((bt196.1.length : Int) == 0)) else (none)) else (none)) else (if bt196.2.2 = 0 then (if (bt196.1.length : Int) = 1 then (if 0 < (bt196.1.length : Int) then (some (((rd_T29 bt196.1 0).f0) == 4 && (((rd_T29 bt196.1 0).f1) == x11_25 && (((rd_T29 bt196.1 0).f2) == 1 && ((((rd_T29 bt196.1 0).f3).toList) == ([] : List UInt8)))))) else (none)) else (none)) else (none))))) else (none)) = some r := H
                  have A28 := Aside0.mk A280
                  clear A280
                  by_cases c29 : 1 + t195.size ≤ 9223372036854775807
                  · rw [if_pos c29] at H
                    have c29b0 := eq_true c29
                    have c29b1 : decide (1 + t195.size ≤ 9223372036854775807) = true := decide_eq_true c29
                    try have c29b2 : (9223372036854775807 < 1 + t195.size) = False := eq_false (Nat.not_lt.2 c29)
                    replace H := Option.bind_eq_some_iff.mp H
                    obtain ⟨⟨t196, t197, t198⟩, A300, H⟩ := H
                    replace H : (if x11_25 > 4611686018427387904 then (if t198 = 4 then (if t197 = 1 then (some ((t196.length : Int) == 0)) else (none)) else (none)) else (if x11_25 < (-4611686018427387904) then (if t198 = 4 then (if t197 = 1 then (some ((t196.length : Int) == 0)) else (none)) else (none)) else (if t198 = 0 then (if (t196.length : Int) = 1 then (if 0 < (t196.length : Int) then (some (((rd_T29 t196 0).f0) == 4 && (((rd_T29 t196 0).f1) == x11_25 && (((rd_T29 t196 0).f2) == 1 && ((((rd_T29 t196 0).f3).toList) == ([] : List UInt8)))))) else (none)) else (none)) else (none)))) = some r := H
                    have A30 := Aside0.mk A300
                    clear A300
                    by_cases c31 : x11_25 > 4611686018427387904
                    · rw [if_pos c31] at H
                      have c31b0 : decide (4611686018427387904 < x11_25) = true := decide_eq_true c31
                      clear c31
                      by_cases c32 : t198 = 4
                      · rw [if_pos c32] at H
                        have c32b0 : (t198 == 4) = true := beq_iff_eq.mpr c32
                        have c32b1 : (t198 != 4) = false := bne_eq_false_iff_eq.mpr c32
                        clear c32
                        by_cases c33 : t197 = 1
                        · rw [if_pos c33] at H
                          have c33b0 : (t197 == 1) = true := beq_iff_eq.mpr c33
                          have c33b1 : (t197 != 1) = false := bne_eq_false_iff_eq.mpr c33
                          clear c33
                          obtain rfl := Option.some.inj H
                          go_wp2_with (first | ((with_reducible refine gate_callee (f := 14) rfl ?_); refine goesL_ (some 72) rfl rfl Try.func14 (by kernel_rfl) rfl #[.int .i64 x11_25] rfl (by (try simp only [List.map_toArray, List.map_cons, List.map_nil]); first | done | rfl | (simp only [List.length_drop, List.length_take]; rfl)) ?_; (with_reducible refine (thyrsusref3_Digits.calls kj25 x11_25 t195 _ A28.out).mono ?_); rintro e w34 ⟨rfl, hb⟩; refine ⟨_, rfl, ?_⟩; have n0_ := Aside0.mk (below_step (by repeat (first | (with_reducible first | exact HB.out | apply below_alloc | apply pw_below_drewN | apply below_drew1) | exact HB.out)) hb); clear HB; have HB := n0_; clear n0_; (try clear hb); (try clear hb2); (try clear hk); (try clear hi)) | ((with_reducible refine gate_callee (f := 13) rfl ?_); refine goesL_ (some 74) rfl rfl Try.func13 (by kernel_rfl) rfl #[.string ((⟨#[32]⟩ : ByteArray) ++ t195)] rfl (by (try simp only [List.map_toArray, List.map_cons, List.map_nil]); first | done | rfl | (simp only [List.length_drop, List.length_take]; rfl)) ?_; (with_reducible refine (lex_Tokens.calls ((⟨#[32]⟩ : ByteArray) ++ t195) t196 t197 t198 _ A30.out).mono ?_); rintro e w35 ⟨v199, rfl, ho0, hb⟩; refine ⟨_, rfl, ?_⟩; have n0_ := Aside0.mk (Kd.R_lower ho0 (below_size (by repeat (first | (with_reducible first | exact HB.out | apply below_alloc | apply pw_below_drewN | apply below_drew1) | exact HB.out)))); have n1_ := Aside0.mk (below_step (by repeat (first | (with_reducible first | exact HB.out | apply below_alloc | apply pw_below_drewN | apply below_drew1) | exact HB.out)) hb); clear HB; have HO200 := n0_; have HB := n1_; clear n0_ n1_; (try clear hb); (try clear hb2); (try clear hk); (try clear hi); (try clear ho0); obtain ⟨Ao36, co36, eo36⟩ := Kd.R_slice HO200.out; subst eo36))
                          go_ret
                          exact ⟨by first | rfl | (simp [errW_none, errW_some] <;> rfl) | (simp [*, errW_none, errW_some] <;> rfl), by repeat (first | (with_reducible first | exact HB.out | apply below_alloc | apply pw_below_drewN | apply below_drew1) | exact HB.out)⟩
                        · rw [if_neg c33] at H
                          exact absurd H (by simp)
                      · rw [if_neg c32] at H
                        exact absurd H (by simp)
                    · rw [if_neg c31] at H
                      have c31b0 : decide (4611686018427387904 < x11_25) = false := decide_eq_false c31
                      clear c31
                      by_cases c37 : x11_25 < (-4611686018427387904)
                      · rw [if_pos c37] at H
                        have c37b0 : decide (x11_25 < (-4611686018427387904)) = true := decide_eq_true c37
                        clear c37
                        by_cases c38 : t198 = 4
                        · rw [if_pos c38] at H
                          have c38b0 : (t198 == 4) = true := beq_iff_eq.mpr c38
                          have c38b1 : (t198 != 4) = false := bne_eq_false_iff_eq.mpr c38
                          clear c38
                          by_cases c39 : t197 = 1
                          · rw [if_pos c39] at H
                            have c39b0 : (t197 == 1) = true := beq_iff_eq.mpr c39
                            have c39b1 : (t197 != 1) = false := bne_eq_false_iff_eq.mpr c39
                            clear c39
                            obtain rfl := Option.some.inj H
                            go_wp2_with (first | ((with_reducible refine gate_callee (f := 14) rfl ?_); refine goesL_ (some 72) rfl rfl Try.func14 (by kernel_rfl) rfl #[.int .i64 x11_25] rfl (by (try simp only [List.map_toArray, List.map_cons, List.map_nil]); first | done | rfl | (simp only [List.length_drop, List.length_take]; rfl)) ?_; (with_reducible refine (thyrsusref3_Digits.calls kj25 x11_25 t195 _ A28.out).mono ?_); rintro e w40 ⟨rfl, hb⟩; refine ⟨_, rfl, ?_⟩; have n0_ := Aside0.mk (below_step (by repeat (first | (with_reducible first | exact HB.out | apply below_alloc | apply pw_below_drewN | apply below_drew1) | exact HB.out)) hb); clear HB; have HB := n0_; clear n0_; (try clear hb); (try clear hb2); (try clear hk); (try clear hi)) | ((with_reducible refine gate_callee (f := 13) rfl ?_); refine goesL_ (some 74) rfl rfl Try.func13 (by kernel_rfl) rfl #[.string ((⟨#[32]⟩ : ByteArray) ++ t195)] rfl (by (try simp only [List.map_toArray, List.map_cons, List.map_nil]); first | done | rfl | (simp only [List.length_drop, List.length_take]; rfl)) ?_; (with_reducible refine (lex_Tokens.calls ((⟨#[32]⟩ : ByteArray) ++ t195) t196 t197 t198 _ A30.out).mono ?_); rintro e w41 ⟨v199, rfl, ho0, hb⟩; refine ⟨_, rfl, ?_⟩; have n0_ := Aside0.mk (Kd.R_lower ho0 (below_size (by repeat (first | (with_reducible first | exact HB.out | apply below_alloc | apply pw_below_drewN | apply below_drew1) | exact HB.out)))); have n1_ := Aside0.mk (below_step (by repeat (first | (with_reducible first | exact HB.out | apply below_alloc | apply pw_below_drewN | apply below_drew1) | exact HB.out)) hb); clear HB; have HO200 := n0_; have HB := n1_; clear n0_ n1_; (try clear hb); (try clear hb2); (try clear hk); (try clear hi); (try clear ho0); obtain ⟨Ao42, co42, eo42⟩ := Kd.R_slice HO200.out; subst eo42))
                            go_ret
                            exact ⟨by first | rfl | (simp [errW_none, errW_some] <;> rfl) | (simp [*, errW_none, errW_some] <;> rfl), by repeat (first | (with_reducible first | exact HB.out | apply below_alloc | apply pw_below_drewN | apply below_drew1) | exact HB.out)⟩
                          · rw [if_neg c39] at H
                            exact absurd H (by simp)
                        · rw [if_neg c38] at H
                          exact absurd H (by simp)
                      · rw [if_neg c37] at H
                        have c37b0 : decide (x11_25 < (-4611686018427387904)) = false := decide_eq_false c37
                        clear c37
                        by_cases c43 : t198 = 0
                        · rw [if_pos c43] at H
                          have c43b0 : (t198 == 0) = true := beq_iff_eq.mpr c43
                          have c43b1 : (t198 != 0) = false := bne_eq_false_iff_eq.mpr c43
                          clear c43
                          by_cases c44 : (t196.length : Int) = 1
                          · rw [if_pos c44] at H
                            have c44b0 : ((t196.length : Int) == 1) = true := beq_iff_eq.mpr c44
                            have c44b1 : ((t196.length : Int) != 1) = false := bne_eq_false_iff_eq.mpr c44
                            clear c44
                            by_cases c45 : 0 < (t196.length : Int)
                            · rw [if_pos c45] at H
                              have c45b0 : decide (0 < (t196.length : Int)) = true := decide_eq_true c45
                              have c45b1 : decide (0 < t196.length) = true := decide_eq_true (by omega)
                              clear c45
                              obtain rfl := Option.some.inj H
                              go_wp2_with (first | ((with_reducible refine gate_callee (f := 14) rfl ?_); refine goesL_ (some 72) rfl rfl Try.func14 (by kernel_rfl) rfl #[.int .i64 x11_25] rfl (by (try simp only [List.map_toArray, List.map_cons, List.map_nil]); first | done | rfl | (simp only [List.length_drop, List.length_take]; rfl)) ?_; (with_reducible refine (thyrsusref3_Digits.calls kj25 x11_25 t195 _ A28.out).mono ?_); rintro e w46 ⟨rfl, hb⟩; refine ⟨_, rfl, ?_⟩; have n0_ := Aside0.mk (below_step (by repeat (first | (with_reducible first | exact HB.out | apply below_alloc | apply pw_below_drewN | apply below_drew1) | exact HB.out)) hb); clear HB; have HB := n0_; clear n0_; (try clear hb); (try clear hb2); (try clear hk); (try clear hi)) | ((with_reducible refine gate_callee (f := 13) rfl ?_); refine goesL_ (some 74) rfl rfl Try.func13 (by kernel_rfl) rfl #[.string ((⟨#[32]⟩ : ByteArray) ++ t195)] rfl (by (try simp only [List.map_toArray, List.map_cons, List.map_nil]); first | done | rfl | (simp only [List.length_drop, List.length_take]; rfl)) ?_; (with_reducible refine (lex_Tokens.calls ((⟨#[32]⟩ : ByteArray) ++ t195) t196 t197 t198 _ A30.out).mono ?_); rintro e w47 ⟨v199, rfl, ho0, hb⟩; refine ⟨_, rfl, ?_⟩; have n0_ := Aside0.mk (Kd.R_lower ho0 (below_size (by repeat (first | (with_reducible first | exact HB.out | apply below_alloc | apply pw_below_drewN | apply below_drew1) | exact HB.out)))); have n1_ := Aside0.mk (below_step (by repeat (first | (with_reducible first | exact HB.out | apply below_alloc | apply pw_below_drewN | apply below_drew1) | exact HB.out)) hb); clear HB; have HO200 := n0_; have HB := n1_; clear n0_ n1_; (try clear hb); (try clear hb2); (try clear hk); (try clear hi); (try clear ho0); obtain ⟨Ao48, co48, eo48⟩ := Kd.R_slice HO200.out; subst eo48; have p201 : 0 ≤ (0 : Int) := (by omega); have q201 : 0 < (t196.length : Int) := of_decide_eq_true (by first | (with_reducible assumption) | assumption); obtain ⟨ad201, e201, hx201_0, hx201_1, hx201_2, hx201_3⟩ := at_T29 (Kd.R_reads' HO200.out).2.2 0 p201 q201; cases e201; have qi201 : (0 < t196.length) = True := eq_true (by omega); (try rw [show ((0 : Int)).toNat = 0 from rfl] at hx201_0); (try rw [show 0 * 4 = 0 from rfl] at hx201_0); (try rw [Addr.add_zero'] at hx201_0); (try rw [show ((0 : Int)).toNat = 0 from rfl] at hx201_1); (try rw [show 0 * 4 = 0 from rfl] at hx201_1); (try rw [Addr.add_zero'] at hx201_1); (try rw [show ((0 : Int)).toNat = 0 from rfl] at hx201_2); (try rw [show 0 * 4 = 0 from rfl] at hx201_2); (try rw [Addr.add_zero'] at hx201_2); (try rw [show ((0 : Int)).toNat = 0 from rfl] at hx201_3); (try rw [show 0 * 4 = 0 from rfl] at hx201_3); (try rw [Addr.add_zero'] at hx201_3); replace p201 := eq_true p201; replace q201 := eq_true q201))
                              go_ret
                              exact ⟨by first | rfl | (simp [errW_none, errW_some] <;> rfl) | (simp [*, errW_none, errW_some] <;> rfl), by repeat (first | (with_reducible first | exact HB.out | apply below_alloc | apply pw_below_drewN | apply below_drew1) | exact HB.out)⟩
                            · rw [if_neg c45] at H
                              exact absurd H (by simp)
                          · rw [if_neg c44] at H
                            exact absurd H (by simp)
                        · rw [if_neg c43] at H
                          exact absurd H (by simp)
                  · rw [if_neg c29] at H
                    exact absurd H (by simp)
  · replace c5 := Bool.eq_false_iff.mpr c5
    subst c5
    have H1 : (none) = some r := by rw [if_neg (show ¬ (false = true) by decide)] at H; exact H
    clear H
    have H := H1
    clear H1
    exact absurd H (by simp)

/-- THE ONE PURE STATEMENT of thyrsuslaw2_LexNumbers: yours. -/
def thyrsuslaw2_LexNumbers.Pure : Prop := ∀ (a0 : Int) (a1 : Int) (a2 : Int), (Lit.int .i64 a0).wf = true → (Lit.int .i64 a1).wf = true → (Lit.int .i64 a2).wf = true → ∃ k, thyrsuslaw2_LexNumbers.f k a0 a1 a2 = some true
theorem thyrsuslaw2_LexNumbers.walk (P : thyrsuslaw2_LexNumbers.Pure) (a0 : Int) (a1 : Int) (a2 : Int) (w : World) (w0 : (Lit.int .i64 a0).wf = true) (w1 : (Lit.int .i64 a1).wf = true) (w2 : (Lit.int .i64 a2).wf = true) :
    Calls Try.prog 4 #[.int .i64 a0, .int .i64 a1, .int .i64 a2] w fun e w' => e = .returned (.bool true) ∧ Below w.heap.size w w' := by
  obtain ⟨k, h⟩ := P a0 a1 a2 w0 w1 w2
  refine (thyrsuslaw2_LexNumbers.calls k a0 a1 a2 true w h).mono ?_
  rintro e w' ⟨rfl, hd⟩
  exact ⟨rfl, hd⟩

end Go.Proofs.Ytleepjnpnbkgdaa.P
