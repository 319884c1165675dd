/- Package forms: name: which texts may be names; its closures, and slices' ContainsFunc over them. No conditions. (The first closure is printed by mkprint.py.) -/
import Derived.Test.YtkkmgahgejjhgaaDoorCHandU
import Derived.Lib.SliceRun
namespace Go.Proofs.YtkkmgahgejjhgaaDoor.Nam
open Go.RowKit Go.Proofs.YtkkmgahgejjhgaaDoor.P Go.Proofs.YtkkmgahgejjhgaaDoor.Lex Go.Proofs.YtkkmgahgejjhgaaDoorW.PrintWords Go.Proofs.YtkkmgahgejjhgaaDoorW.PrintLast Go.Proofs.YtkkmgahgejjhgaaDoorW.PrintMore
attribute [local go_sem] max2_int min2_int max_two min_two max_three min_three max_four min_four
set_option linter.unusedVariables false
set_option linter.unusedSimpArgs false
/-! ### forms_name_1: function 61 -/
def forms_name_1.f (a0 : Int) : Option (Bool) := if a0 ≥ 97 then (if a0 ≤ 122 then (some true) else (if a0 ≥ 65 then (if a0 ≤ 90 then (some true) else (if a0 ≥ 48 then (if a0 ≤ 57 then (some true) else (if a0 = 95 then (some true) else (some (a0 == 39)))) else (if a0 = 95 then (some true) else (some (a0 == 39))))) else (if a0 ≥ 48 then (if a0 ≤ 57 then (some true) else (if a0 = 95 then (some true) else (some (a0 == 39)))) else (if a0 = 95 then (some true) else (some (a0 == 39)))))) else (if a0 ≥ 65 then (if a0 ≤ 90 then (some true) else (if a0 ≥ 48 then (if a0 ≤ 57 then (some true) else (if a0 = 95 then (some true) else (some (a0 == 39)))) else (if a0 = 95 then (some true) else (some (a0 == 39))))) else (if a0 ≥ 48 then (if a0 ≤ 57 then (some true) else (if a0 = 95 then (some true) else (some (a0 == 39)))) else (if a0 = 95 then (some true) else (some (a0 == 39)))))
set_option maxHeartbeats 8000000 in
set_option maxRecDepth 100000 in
theorem forms_name_1.calls (a0 : Int) (r : Bool) (w : World) (h : forms_name_1.f a0 = some r) :
    Calls Tryd.prog 61 #[.int .u8 a0] w fun e w' => e = .returned (.bool r) ∧ w' = w := by
  have H : (if a0 ≥ 97 then (if a0 ≤ 122 then (some true) else (if a0 ≥ 65 then (if a0 ≤ 90 then (some true) else (if a0 ≥ 48 then (if a0 ≤ 57 then (some true) else (if a0 = 95 then (some true) else (some (a0 == 39)))) else (if a0 = 95 then (some true) else (some (a0 == 39))))) else (if a0 ≥ 48 then (if a0 ≤ 57 then (some true) else (if a0 = 95 then (some true) else (some (a0 == 39)))) else (if a0 = 95 then (some true) else (some (a0 == 39)))))) else (if a0 ≥ 65 then (if a0 ≤ 90 then (some true) else (if a0 ≥ 48 then (if a0 ≤ 57 then (some true) else (if a0 = 95 then (some true) else (some (a0 == 39)))) else (if a0 = 95 then (some true) else (some (a0 == 39))))) else (if a0 ≥ 48 then (if a0 ≤ 57 then (some true) else (if a0 = 95 then (some true) else (some (a0 == 39)))) else (if a0 = 95 then (some true) else (some (a0 == 39)))))) = some r := h
  clear h
  by_cases c2 : a0 ≥ 97
  · rw [if_pos c2] at H
    have c2b0 : decide (97 ≤ a0) = true := decide_eq_true c2
    clear c2
    by_cases c3 : a0 ≤ 122
    · rw [if_pos c3] at H
      have c3b0 : decide (a0 ≤ 122) = true := decide_eq_true c3
      clear c3
      obtain rfl := Option.some.inj H
      go_enter Tryd.func61, Tryd.ntmps61
      go_wp2
      go_ret
      exact ⟨by first | rfl | (simp; done) | (simp [*]; done), rfl⟩
    · rw [if_neg c3] at H
      have c3b0 : decide (a0 ≤ 122) = false := decide_eq_false c3
      clear c3
      by_cases c4 : a0 ≥ 65
      · rw [if_pos c4] at H
        have c4b0 : decide (65 ≤ a0) = true := decide_eq_true c4
        clear c4
        by_cases c5 : a0 ≤ 90
        · rw [if_pos c5] at H
          have c5b0 : decide (a0 ≤ 90) = true := decide_eq_true c5
          clear c5
          obtain rfl := Option.some.inj H
          go_enter Tryd.func61, Tryd.ntmps61
          go_wp2
          go_ret
          exact ⟨by first | rfl | (simp; done) | (simp [*]; done), rfl⟩
        · rw [if_neg c5] at H
          have c5b0 : decide (a0 ≤ 90) = false := decide_eq_false c5
          clear c5
          by_cases c6 : a0 ≥ 48
          · rw [if_pos c6] at H
            have c6b0 : decide (48 ≤ a0) = true := decide_eq_true c6
            clear c6
            by_cases c7 : a0 ≤ 57
            · rw [if_pos c7] at H
              have c7b0 : decide (a0 ≤ 57) = true := decide_eq_true c7
              clear c7
              obtain rfl := Option.some.inj H
              go_enter Tryd.func61, Tryd.ntmps61
              go_wp2
              go_ret
              exact ⟨by first | rfl | (simp; done) | (simp [*]; done), rfl⟩
            · rw [if_neg c7] at H
              have c7b0 : decide (a0 ≤ 57) = false := decide_eq_false c7
              clear c7
              by_cases c8 : a0 = 95
              · rw [if_pos c8] at H
                have c8b0 : (a0 == 95) = true := beq_iff_eq.mpr c8
                have c8b1 : (a0 != 95) = false := bne_eq_false_iff_eq.mpr c8
                clear c8
                obtain rfl := Option.some.inj H
                go_enter Tryd.func61, Tryd.ntmps61
                go_wp2
                go_ret
                exact ⟨by first | rfl | (simp; done) | (simp [*]; done), rfl⟩
              · rw [if_neg c8] at H
                have c8b0 : (a0 == 95) = false := beq_eq_false_iff_ne.mpr c8
                have c8b1 : (a0 != 95) = true := bne_iff_ne.mpr c8
                obtain rfl := Option.some.inj H
                go_enter Tryd.func61, Tryd.ntmps61
                go_wp2
                go_ret
                exact ⟨by first | rfl | (simp; done) | (simp [*]; done), rfl⟩
          · rw [if_neg c6] at H
            have c6b0 : decide (48 ≤ a0) = false := decide_eq_false c6
            clear c6
            by_cases c9 : a0 = 95
            · rw [if_pos c9] at H
              have c9b0 : (a0 == 95) = true := beq_iff_eq.mpr c9
              have c9b1 : (a0 != 95) = false := bne_eq_false_iff_eq.mpr c9
              clear c9
              obtain rfl := Option.some.inj H
              go_enter Tryd.func61, Tryd.ntmps61
              go_wp2
              go_ret
              exact ⟨by first | rfl | (simp; done) | (simp [*]; done), rfl⟩
            · rw [if_neg c9] at H
              have c9b0 : (a0 == 95) = false := beq_eq_false_iff_ne.mpr c9
              have c9b1 : (a0 != 95) = true := bne_iff_ne.mpr c9
              obtain rfl := Option.some.inj H
              go_enter Tryd.func61, Tryd.ntmps61
              go_wp2
              go_ret
              exact ⟨by first | rfl | (simp; done) | (simp [*]; done), rfl⟩
      · rw [if_neg c4] at H
        have c4b0 : decide (65 ≤ a0) = false := decide_eq_false c4
        clear c4
        by_cases c10 : a0 ≥ 48
        · rw [if_pos c10] at H
          have c10b0 : decide (48 ≤ a0) = true := decide_eq_true c10
          clear c10
          by_cases c11 : a0 ≤ 57
          · rw [if_pos c11] at H
            have c11b0 : decide (a0 ≤ 57) = true := decide_eq_true c11
            clear c11
            obtain rfl := Option.some.inj H
            go_enter Tryd.func61, Tryd.ntmps61
            go_wp2
            go_ret
            exact ⟨by first | rfl | (simp; done) | (simp [*]; done), rfl⟩
          · rw [if_neg c11] at H
            have c11b0 : decide (a0 ≤ 57) = false := decide_eq_false c11
            clear c11
            by_cases c12 : a0 = 95
            · rw [if_pos c12] at H
              have c12b0 : (a0 == 95) = true := beq_iff_eq.mpr c12
              have c12b1 : (a0 != 95) = false := bne_eq_false_iff_eq.mpr c12
              clear c12
              obtain rfl := Option.some.inj H
              go_enter Tryd.func61, Tryd.ntmps61
              go_wp2
              go_ret
              exact ⟨by first | rfl | (simp; done) | (simp [*]; done), rfl⟩
            · rw [if_neg c12] at H
              have c12b0 : (a0 == 95) = false := beq_eq_false_iff_ne.mpr c12
              have c12b1 : (a0 != 95) = true := bne_iff_ne.mpr c12
              obtain rfl := Option.some.inj H
              go_enter Tryd.func61, Tryd.ntmps61
              go_wp2
              go_ret
              exact ⟨by first | rfl | (simp; done) | (simp [*]; done), rfl⟩
        · rw [if_neg c10] at H
          have c10b0 : decide (48 ≤ a0) = false := decide_eq_false c10
          clear c10
          by_cases c13 : a0 = 95
          · rw [if_pos c13] at H
            have c13b0 : (a0 == 95) = true := beq_iff_eq.mpr c13
            have c13b1 : (a0 != 95) = false := bne_eq_false_iff_eq.mpr c13
            clear c13
            obtain rfl := Option.some.inj H
            go_enter Tryd.func61, Tryd.ntmps61
            go_wp2
            go_ret
            exact ⟨by first | rfl | (simp; done) | (simp [*]; done), rfl⟩
          · rw [if_neg c13] at H
            have c13b0 : (a0 == 95) = false := beq_eq_false_iff_ne.mpr c13
            have c13b1 : (a0 != 95) = true := bne_iff_ne.mpr c13
            obtain rfl := Option.some.inj H
            go_enter Tryd.func61, Tryd.ntmps61
            go_wp2
            go_ret
            exact ⟨by first | rfl | (simp; done) | (simp [*]; done), rfl⟩
  · rw [if_neg c2] at H
    have c2b0 : decide (97 ≤ a0) = false := decide_eq_false c2
    clear c2
    by_cases c14 : a0 ≥ 65
    · rw [if_pos c14] at H
      have c14b0 : decide (65 ≤ a0) = true := decide_eq_true c14
      clear c14
      by_cases c15 : a0 ≤ 90
      · rw [if_pos c15] at H
        have c15b0 : decide (a0 ≤ 90) = true := decide_eq_true c15
        clear c15
        obtain rfl := Option.some.inj H
        go_enter Tryd.func61, Tryd.ntmps61
        go_wp2
        go_ret
        exact ⟨by first | rfl | (simp; done) | (simp [*]; done), rfl⟩
      · rw [if_neg c15] at H
        have c15b0 : decide (a0 ≤ 90) = false := decide_eq_false c15
        clear c15
        by_cases c16 : a0 ≥ 48
        · rw [if_pos c16] at H
          have c16b0 : decide (48 ≤ a0) = true := decide_eq_true c16
          clear c16
          by_cases c17 : a0 ≤ 57
          · rw [if_pos c17] at H
            have c17b0 : decide (a0 ≤ 57) = true := decide_eq_true c17
            clear c17
            obtain rfl := Option.some.inj H
            go_enter Tryd.func61, Tryd.ntmps61
            go_wp2
            go_ret
            exact ⟨by first | rfl | (simp; done) | (simp [*]; done), rfl⟩
          · rw [if_neg c17] at H
            have c17b0 : decide (a0 ≤ 57) = false := decide_eq_false c17
            clear c17
            by_cases c18 : a0 = 95
            · rw [if_pos c18] at H
              have c18b0 : (a0 == 95) = true := beq_iff_eq.mpr c18
              have c18b1 : (a0 != 95) = false := bne_eq_false_iff_eq.mpr c18
              clear c18
              obtain rfl := Option.some.inj H
              go_enter Tryd.func61, Tryd.ntmps61
              go_wp2
              go_ret
              exact ⟨by first | rfl | (simp; done) | (simp [*]; done), rfl⟩
            · rw [if_neg c18] at H
              have c18b0 : (a0 == 95) = false := beq_eq_false_iff_ne.mpr c18
              have c18b1 : (a0 != 95) = true := bne_iff_ne.mpr c18
              obtain rfl := Option.some.inj H
              go_enter Tryd.func61, Tryd.ntmps61
              go_wp2
              go_ret
              exact ⟨by first | rfl | (simp; done) | (simp [*]; done), rfl⟩
        · rw [if_neg c16] at H
          have c16b0 : decide (48 ≤ a0) = false := decide_eq_false c16
          clear c16
          by_cases c19 : a0 = 95
          · rw [if_pos c19] at H
            have c19b0 : (a0 == 95) = true := beq_iff_eq.mpr c19
            have c19b1 : (a0 != 95) = false := bne_eq_false_iff_eq.mpr c19
            clear c19
            obtain rfl := Option.some.inj H
            go_enter Tryd.func61, Tryd.ntmps61
            go_wp2
            go_ret
            exact ⟨by first | rfl | (simp; done) | (simp [*]; done), rfl⟩
          · rw [if_neg c19] at H
            have c19b0 : (a0 == 95) = false := beq_eq_false_iff_ne.mpr c19
            have c19b1 : (a0 != 95) = true := bne_iff_ne.mpr c19
            obtain rfl := Option.some.inj H
            go_enter Tryd.func61, Tryd.ntmps61
            go_wp2
            go_ret
            exact ⟨by first | rfl | (simp; done) | (simp [*]; done), rfl⟩
    · rw [if_neg c14] at H
      have c14b0 : decide (65 ≤ a0) = false := decide_eq_false c14
      clear c14
      by_cases c20 : a0 ≥ 48
      · rw [if_pos c20] at H
        have c20b0 : decide (48 ≤ a0) = true := decide_eq_true c20
        clear c20
        by_cases c21 : a0 ≤ 57
        · rw [if_pos c21] at H
          have c21b0 : decide (a0 ≤ 57) = true := decide_eq_true c21
          clear c21
          obtain rfl := Option.some.inj H
          go_enter Tryd.func61, Tryd.ntmps61
          go_wp2
          go_ret
          exact ⟨by first | rfl | (simp; done) | (simp [*]; done), rfl⟩
        · rw [if_neg c21] at H
          have c21b0 : decide (a0 ≤ 57) = false := decide_eq_false c21
          clear c21
          by_cases c22 : a0 = 95
          · rw [if_pos c22] at H
            have c22b0 : (a0 == 95) = true := beq_iff_eq.mpr c22
            have c22b1 : (a0 != 95) = false := bne_eq_false_iff_eq.mpr c22
            clear c22
            obtain rfl := Option.some.inj H
            go_enter Tryd.func61, Tryd.ntmps61
            go_wp2
            go_ret
            exact ⟨by first | rfl | (simp; done) | (simp [*]; done), rfl⟩
          · rw [if_neg c22] at H
            have c22b0 : (a0 == 95) = false := beq_eq_false_iff_ne.mpr c22
            have c22b1 : (a0 != 95) = true := bne_iff_ne.mpr c22
            obtain rfl := Option.some.inj H
            go_enter Tryd.func61, Tryd.ntmps61
            go_wp2
            go_ret
            exact ⟨by first | rfl | (simp; done) | (simp [*]; done), rfl⟩
      · rw [if_neg c20] at H
        have c20b0 : decide (48 ≤ a0) = false := decide_eq_false c20
        clear c20
        by_cases c23 : a0 = 95
        · rw [if_pos c23] at H
          have c23b0 : (a0 == 95) = true := beq_iff_eq.mpr c23
          have c23b1 : (a0 != 95) = false := bne_eq_false_iff_eq.mpr c23
          clear c23
          obtain rfl := Option.some.inj H
          go_enter Tryd.func61, Tryd.ntmps61
          go_wp2
          go_ret
          exact ⟨by first | rfl | (simp; done) | (simp [*]; done), rfl⟩
        · rw [if_neg c23] at H
          have c23b0 : (a0 == 95) = false := beq_eq_false_iff_ne.mpr c23
          have c23b1 : (a0 != 95) = true := bne_iff_ne.mpr c23
          obtain rfl := Option.some.inj H
          go_enter Tryd.func61, Tryd.ntmps61
          go_wp2
          go_ret
          exact ⟨by first | rfl | (simp; done) | (simp [*]; done), rfl⟩

theorem name1_f (c : Int) : forms_name_1.f c = some (pInner c) := by
  unfold forms_name_1.f pInner pFront pDigit
  by_cases h1 : (97 : Int) ≤ c <;> by_cases h2 : c ≤ 122 <;> by_cases h3 : (65 : Int) ≤ c <;> by_cases h4 : c ≤ 90 <;> by_cases h5 : c = 95 <;> by_cases h6 : (48 : Int) ≤ c <;> by_cases h7 : c ≤ 57 <;> simp [h1, h2, h3, h4, h5, h6, h7]
theorem call61 (c : Int) (w : World) : Calls Tryd.prog 61 #[.int .u8 c] w fun e w' => e = .returned (.bool (pInner c)) ∧ w' = w := forms_name_1.calls c (pInner c) w (name1_f c)
set_option maxHeartbeats 4000000 in
set_option maxRecDepth 100000 in
theorem call63 (c : Int) (g : Nat) (w : World) (h : w.cell? ⟨g, 0, none⟩ = some (.func (.func 61) #[] #[])) : Calls Tryd.prog 63 #[.int .u8 c, .pointer (some ⟨g, 0, none⟩)] w fun e w' => e = .returned (.bool (!pInner c)) ∧ w' = w := by
  have CC := Aside0.mk (call61 c w)
  go_enter Tryd.func63, Tryd.ntmps63
  go_wp2_with (first | (go_at_call 61; refine CC.out.mono ?_; rintro e w' ⟨rfl, rfl⟩))
  go_ret
  exact ⟨by first | rfl | (simp; done) | (simp [*]; done), rfl⟩
/-- All bytes are inner ones. -/
def inn (l : List UInt8) : Bool := decide (spn pInner l = l.length)
set_option maxHeartbeats 8000000 in
set_option maxRecDepth 100000 in
theorem index73 (l : List UInt8) (B g c : Nat) (w : World) (hl : l.length ≤ 4000) (hc : ∀ j, j < l.length → w.cell? ⟨B, j, none⟩ = some (.int .u8 (nb l j))) (h : w.cell? ⟨g, 0, none⟩ = some (.func (.func 61) #[] #[])) :
    Calls Tryd.prog 73 #[.slice (some ⟨B, 0, none⟩) l.length c, .func (.func 63) #[] #[.pointer (some ⟨g, 0, none⟩)]] w fun e w' => (∃ r : Int, e = .returned (.int .i64 r) ∧ decide (0 ≤ r) = !inn l) ∧ w' = w := by
  have HL := Aside0.mk hl
  have HC := Aside0.mk hc
  have HG := Aside0.mk h
  clear hl hc h
  go_enter Tryd.func73, Tryd.ntmps73
  go_wp2
  go_loopw [8] (fun v8 w' => ∃ i : Nat, i ≤ l.length ∧ v8 = .int .i64 i ∧ Aside0 (i + spn pInner (l.drop i) = spn pInner l) ∧ w' = w) (fun v8 _ => l.length - (intOf v8).toNat)
  case atStart => exact ⟨0, Nat.zero_le _, rfl, ⟨by simp⟩, rfl⟩
  case round =>
    obtain ⟨i, hi, rfl, H, rfl⟩ := hrel
    by_cases hlt : i < l.length
    · have e1 : ((i : Int) < (l.length : Int)) = True := eq_true (by omega)
      have e2 : (i < l.length) = True := eq_true hlt
      have e3 : decide ((i : Int) < (l.length : Int)) = true := decide_eq_true (by omega)
      have K1 := HC.out i hlt
      have ST := Aside0.mk (spn_drop (p := pInner) (l := l) (i := i) hlt)
      have HI := Aside0.mk (And.intro hi hlt)
      have W1 := Aside0.mk (w1 i (by have := HL.out; omega))
      have CC := Aside0.mk (call63 (nb l i) g wr HG.out)
      clear hi
      by_cases hp : pInner (nb l i) = true
      · rw [hp] at CC
        have HP := Aside0.mk hp
        clear hp
        go_wp2_with (first | (go_at_call 63; refine CC.out.mono ?_; rintro e w' ⟨rfl, rfl⟩))
        have hs := ST.out
        rw [if_pos HP.out] at hs
        have h1 := H.out
        rw [W1.out]
        refine ⟨⟨i + 1, HI.out.2, rfl, ⟨by omega⟩, trivial⟩, ?_⟩
        simp only [intOf, Int.toNat_natCast]
        have := HI.out.2
        omega
      · have hp' : pInner (nb l i) = false := by simpa using hp
        rw [hp'] at CC
        have HP := Aside0.mk hp'
        clear hp hp'
        go_wp2_with (first | (go_at_call 63; refine CC.out.mono ?_; rintro e w' ⟨rfl, rfl⟩))
        have hs := ST.out
        rw [if_neg (by rw [HP.out]; decide)] at hs
        have h1 := H.out
        go_ret
        refine ⟨⟨i, by first | rfl | (simp; done) | (simp [*]; done), ?_⟩, rfl⟩
        have hi := HI.out.2
        have e_ : inn l = false := by
          unfold inn
          exact decide_eq_false (by omega)
        rw [e_, decide_eq_true (by omega : (0 : Int) ≤ (i : Int))]
        rfl
    · obtain rfl : i = l.length := by omega
      go_wp2
      have h1 := H.out
      go_ret
      refine ⟨⟨-1, by first | rfl | (simp; done) | (simp [*]; done), ?_⟩, rfl⟩
      rw [List.drop_eq_nil_of_le (Nat.le_refl _)] at h1
      have e_ : inn l = true := by
        unfold inn
        exact decide_eq_true (by rw [spn] at h1; omega)
      rw [e_]
      rfl
set_option maxHeartbeats 4000000 in
set_option maxRecDepth 100000 in
theorem contains62 (l : List UInt8) (B g c : Nat) (w : World) (hl : l.length ≤ 4000) (hc : ∀ j, j < l.length → w.cell? ⟨B, j, none⟩ = some (.int .u8 (nb l j))) (h : w.cell? ⟨g, 0, none⟩ = some (.func (.func 61) #[] #[])) :
    Calls Tryd.prog 62 #[.slice (some ⟨B, 0, none⟩) l.length c, .func (.func 63) #[] #[.pointer (some ⟨g, 0, none⟩)]] w fun e w' => e = .returned (.bool (!inn l)) ∧ w' = w := by
  have CC := Aside0.mk (index73 l B g c w hl hc h)
  clear hl hc h
  go_enter Tryd.func62, Tryd.ntmps62
  go_wp2_with (first | (go_at_call 73; refine CC.out.mono ?_; rintro e w' ⟨⟨r, rfl, hr⟩, rfl⟩; have HR := Aside0.mk hr; clear hr))
  go_ret
  have h_ := HR.out
  exact ⟨by first | rfl | (rw [← h_]; rfl) | (simp [h_]; done) | (simp [*]; done), rfl⟩
theorem run_store_func {P : Program} {w : World} {a : Addr} {m : Mode} (f : Fn) (x y : Array Value) : (store a (.func f x y) m).run P w = stored P w a (.func f x y) m := run_store P w a _ m rfl
attribute [local go_sem] run_store_func
theorem st_ev {P : Program} {ops : Array Oper} {rest : List Oper} {o : Oper} {a : Act} {Q : Exit → Act → World → Prop} {W w1 : World} (hgd : o.guard = none) {t : TypeId} {p : Tmp} {v : Operand} (_ho : o.op = .store t (.tmp p) v) (hN : o.dst = none)
    (hrun : (execOp a.eval o).run P W = .ok .skip w1) (h : ∀ w', w' = w1 → wpList P ops Q rest a w') : wpList P ops Q (o :: rest) a W := store_event hgd _ho hN hrun h
/-- May a text be a name? -/
def isName (s : ByteArray) : Bool := (s.toList == [45, 62] || s.toList == [42]) || (!(s.toList == [] || decide (s.size > 20) || pDigit (nb (lst s) 0)) && inn (lst s))
set_option maxHeartbeats 8000000 in
set_option maxRecDepth 100000 in
theorem name48 (s : ByteArray) (w : World) : Calls Tryd.prog 48 #[.string s] w fun e w' => e = .returned (.bool (isName s)) ∧ Below w.heap.size w w' := by
  obtain ⟨r, hr⟩ : ∃ r, r = isName s := ⟨_, rfl⟩
  rw [← hr]
  unfold isName at hr
  by_cases h1 : s.toList = [45, 62]
  · have c1 : (s.toList == [45, 62]) = true := by simpa using h1
    rw [c1] at hr
    simp only [Bool.true_or] at hr
    subst hr
    clear h1
    go_enter Tryd.func48, Tryd.ntmps48
    go_wp2
    go_ret
    exact ⟨by first | rfl | (simp; done) | (simp [*]; done), Below.refl _ _⟩
  have c1 : (s.toList == [45, 62]) = false := by simpa using h1
  by_cases h2 : s.toList = [42]
  · have c2 : (s.toList == [42]) = true := by simpa using h2
    rw [c1, c2] at hr
    simp only [Bool.true_or, Bool.false_or] at hr
    subst hr
    clear h1 h2
    go_enter Tryd.func48, Tryd.ntmps48
    go_wp2
    go_ret
    exact ⟨by first | rfl | (simp; done) | (simp [*]; done), Below.refl _ _⟩
  have c2 : (s.toList == [42]) = false := by simpa using h2
  rw [c1, c2] at hr
  simp only [Bool.false_or] at hr
  by_cases h3 : s.toList = []
  · have c3 : (s.toList == []) = true := by simpa using h3
    rw [c3] at hr
    simp only [Bool.true_or, Bool.not_true, Bool.false_and] at hr
    subst hr
    clear h1 h2 h3
    go_enter Tryd.func48, Tryd.ntmps48
    go_wp2
    go_ret
    exact ⟨by first | rfl | (simp; done) | (simp [*]; done), by repeat (first | exact Below.refl _ _ | apply below_alloc)⟩
  have c3 : (s.toList == []) = false := by simpa using h3
  rw [c3] at hr
  simp only [Bool.false_or] at hr
  by_cases h4 : s.size > 20
  · have c4 : decide (20 < (s.size : Int)) = true := decide_eq_true (by omega)
    have c4' : decide (20 < s.size) = true := decide_eq_true h4
    rw [show decide (s.size > 20) = true from decide_eq_true h4] at hr
    simp only [Bool.true_or, Bool.not_true, Bool.false_and] at hr
    subst hr
    clear h1 h2 h3 h4
    go_enter Tryd.func48, Tryd.ntmps48
    go_wp2
    go_ret
    exact ⟨by first | rfl | (simp; done) | (simp [*]; done), by repeat (first | exact Below.refl _ _ | apply below_alloc)⟩
  have c4 : decide (20 < (s.size : Int)) = false := decide_eq_false (by omega)
  have c4' : decide (20 < s.size) = false := decide_eq_false h4
  rw [show decide (s.size > 20) = false from decide_eq_false h4] at hr
  simp only [Bool.false_or] at hr
  have hz : 0 < s.size := by
    rcases Nat.eq_zero_or_pos s.size with h | h
    · exfalso
      apply h3
      rw [lst_toList]
      exact List.eq_nil_of_length_eq_zero (by rw [lst_len]; exact h)
    · exact h
  have f1 : ((0 : Int) < (s.size : Int)) = True := eq_true (by omega)
  have f2 : (0 < s.size) = True := eq_true hz
  have hb := bt_at s 0 (by simpa using hz)
  have hb0 : (s[0].toNat : Int) = nb (lst s) 0 := hb.trans (bt_nb s 0)
  obtain ⟨c, hc⟩ : ∃ c, c = nb (lst s) 0 := ⟨_, rfl⟩
  rw [← hc] at hr hb0
  unfold pDigit at hr
  by_cases h5 : 48 ≤ c
  · by_cases h6 : c ≤ 57
    · have c5 : decide (48 ≤ c) = true := decide_eq_true h5
      have c6 : decide (c ≤ 57) = true := decide_eq_true h6
      rw [c5, c6] at hr
      simp only [Bool.true_and, Bool.not_true, Bool.false_and] at hr
      subst hr
      clear h1 h2 h3 h4 h5 h6 hc
      go_enter Tryd.func48, Tryd.ntmps48
      go_wp2
      go_ret
      exact ⟨by first | rfl | (simp; done) | (simp [*]; done), by repeat (first | exact Below.refl _ _ | apply below_alloc)⟩
    · have c5 : decide (48 ≤ c) = true := decide_eq_true h5
      have c6 : decide (c ≤ 57) = false := decide_eq_false h6
      rw [c5, c6] at hr
      simp only [Bool.and_false, Bool.not_false, Bool.true_and] at hr
      clear h6
      have HR := Aside0.mk hr
      clear hr
      have H4 := Aside0.mk (show s.size ≤ 4000 by omega)
      have kb := fun W => print_bytes (P := Tryd.prog) 9 25 5 Tryd.underlying9 Tryd.underlying25 Tryd.underlying5 s W
      clear h1 h2 h3 h4 h5 hc
      go_enter Tryd.func48, Tryd.ntmps48
      go_wp2_with (first | ((with_reducible refine gate_dst (N := 3) rfl ?_); refine box_event ?hg (N := 3) ?hd (cs := #[.nilFunc]) (t := 76) ?hr ?_; (case hd => rfl); (case hg => rfl); (case hr => first | (go_simp; done) | (go_simp; rfl)); intro g3 hg3 w3 hbox hb; have K3 := Aside0.mk hbox; have G3 := Aside0.mk hg3; have B3 := Aside0.mk hb; clear hbox hb hg3; have k3 : w3.cell? ⟨g3, 0, none⟩ = some .nilFunc := (blk_cell K3.out 0).trans rfl; have kf3 := blk_frozen K3.out 0) | ((with_reducible refine gate_ (.store 76 (.tmp 3) (.func 61)) rfl ?_); refine st_ev (w1 := ?inwa) rfl rfl rfl ?hr ?_; (case hr => go_simp; rfl); intro w4 hw4; have K4 : Aside0 (w4.heap[g3]? = some (.cells #[.func (.func 61) #[] #[]] 76 (0, 0))) := ⟨(by rw [hw4]; exact blk_put K3.out 0 _ rfl)⟩; have B4 : Aside0 (Below w.heap.size w w4) := ⟨(by rw [hw4]; exact below_set B3.out (Nat.le_of_eq G3.out.symm))⟩; clear hw4 k3 kf3 K3 B3) | (go_at_call 62; have K5_ := blk_below K4.out (bytes_below (Below.refl w4.heap.size w4) (Nat.le_refl _) 5 s); have C5_ := contains62 (lst s) w4.heap.size g3 (grownCap w4 s.size 0 5) (Lib.bytesWorld w4 5 s) (by rw [lst_len]; exact H4.out) (fun j hj => by rw [Lib.bytesWorld_cell _ _ _ _ (by rw [lst_len] at hj; exact hj)]; rfl) ((blk_cell K5_ 0).trans rfl); rw [lst_len] at C5_; refine C5_.mono ?_; rintro e w' ⟨rfl, rfl⟩; clear K5_))
      have hr := HR.out
      go_ret
      exact ⟨by first | rfl | (simp; done) | (simp [*]; done), bytes_below B4.out B4.out.size 5 s⟩
  · have c5 : decide (48 ≤ c) = false := decide_eq_false h5
    rw [c5] at hr
    simp only [Bool.false_and, Bool.not_false, Bool.true_and] at hr
    have HR := Aside0.mk hr
    clear hr
    have H4 := Aside0.mk (show s.size ≤ 4000 by omega)
    have kb := fun W => print_bytes (P := Tryd.prog) 9 25 5 Tryd.underlying9 Tryd.underlying25 Tryd.underlying5 s W
    clear h1 h2 h3 h4 h5 hc
    go_enter Tryd.func48, Tryd.ntmps48
    go_wp2_with (first | ((with_reducible refine gate_dst (N := 3) rfl ?_); refine box_event ?hg (N := 3) ?hd (cs := #[.nilFunc]) (t := 76) ?hr ?_; (case hd => rfl); (case hg => rfl); (case hr => first | (go_simp; done) | (go_simp; rfl)); intro g3 hg3 w3 hbox hb; have K3 := Aside0.mk hbox; have G3 := Aside0.mk hg3; have B3 := Aside0.mk hb; clear hbox hb hg3; have k3 : w3.cell? ⟨g3, 0, none⟩ = some .nilFunc := (blk_cell K3.out 0).trans rfl; have kf3 := blk_frozen K3.out 0) | ((with_reducible refine gate_ (.store 76 (.tmp 3) (.func 61)) rfl ?_); refine st_ev (w1 := ?inwb) rfl rfl rfl ?hr ?_; (case hr => go_simp; rfl); intro w4 hw4; have K4 : Aside0 (w4.heap[g3]? = some (.cells #[.func (.func 61) #[] #[]] 76 (0, 0))) := ⟨(by rw [hw4]; exact blk_put K3.out 0 _ rfl)⟩; have B4 : Aside0 (Below w.heap.size w w4) := ⟨(by rw [hw4]; exact below_set B3.out (Nat.le_of_eq G3.out.symm))⟩; clear hw4 k3 kf3 K3 B3) | (go_at_call 62; have K5_ := blk_below K4.out (bytes_below (Below.refl w4.heap.size w4) (Nat.le_refl _) 5 s); have C5_ := contains62 (lst s) w4.heap.size g3 (grownCap w4 s.size 0 5) (Lib.bytesWorld w4 5 s) (by rw [lst_len]; exact H4.out) (fun j hj => by rw [Lib.bytesWorld_cell _ _ _ _ (by rw [lst_len] at hj; exact hj)]; rfl) ((blk_cell K5_ 0).trans rfl); rw [lst_len] at C5_; refine C5_.mono ?_; rintro e w' ⟨rfl, rfl⟩; clear K5_))
    have hr := HR.out
    go_ret
    exact ⟨by first | rfl | (simp; done) | (simp [*]; done), bytes_below B4.out B4.out.size 5 s⟩
end Go.Proofs.YtkkmgahgejjhgaaDoor.Nam
namespace Go.Proofs.YtkkmgahgejjhgaaDoor.P
open Go.RowKit Go.Proofs.YtkkmgahgejjhgaaDoorW.PrintWords
def forms_name.f (s : ByteArray) : Option Bool := some (Nam.isName s)
theorem forms_name.calls (s : ByteArray) (r : Bool) (w : World) (h : forms_name.f s = some r) :
    Calls Tryd.prog 48 #[.string s] w fun e w' => e = .returned (.bool r) ∧ Below w.heap.size w w' := by
  obtain rfl := Option.some.inj h
  exact Nam.name48 s w
end Go.Proofs.YtkkmgahgejjhgaaDoor.P
