/- Package lex: the two closures of blank, the predicates of names and digits, and span over each of them. -/
import Derived.Test.YtkkmgahgejjhgaaDoorCMod
import Derived.Test.YtkkmgahgejjhgaaDoorCHandS
import Derived.Test.YtkkmgahgejjhgaaDoorCHandX
namespace Go.Proofs.YtkkmgahgejjhgaaDoor.Lex
open Go.RowKit Go.Proofs.YtkkmgahgejjhgaaDoor.P Go.Proofs.YtkkmgahgejjhgaaDoorW.PrintWords Go.Proofs.YtkkmgahgejjhgaaDoorW.PrintLast Go.Proofs.YtkkmgahgejjhgaaDoorW.PrintMore
set_option linter.unusedVariables false
set_option linter.unusedSimpArgs false

theorem w1 (i : Nat) (h : i ≤ 4000) : wrap64 ((i : Int) + 1) = ((i + 1 : Nat) : Int) := by unfold wrap64; omega
theorem meas {n i : Nat} (h : i < n) (hw : wrap64 ((i : Int) + 1) = ((i + 1 : Nat) : Int)) : n - (intOf (.int .i64 (wrap64 ((i : Int) + 1)))).toNat < n - (intOf (.int .i64 (i : Int))).toNat := by
  rw [hw]
  show n - (((i + 1 : Nat) : Int)).toNat < n - ((i : Int)).toNat
  omega
theorem callP25 (c : Int) (w : World) : Calls Tryd.prog 51 #[.int .u8 c] w fun e w' => e = .returned (.bool (pBlank c)) ∧ w' = w := P.blank1 c w
theorem callP26 (c : Int) (w : World) : Calls Tryd.prog 52 #[.int .u8 c] w fun e w' => e = .returned (.bool (pLine c)) ∧ w' = w := P.blank2 c w
theorem digit_f (c : Int) : X.lex_digit.f c = some (pDigit c) := by
  unfold X.lex_digit.f pDigit
  by_cases h : c ≥ 48
  · rw [if_pos h]
    simp [show (48 : Int) ≤ c from h]
  · rw [if_neg h]
    simp [show ¬ (48 : Int) ≤ c from h]
theorem front_f (c : Int) : X.lex_front.f c = some (pFront c) := by
  unfold X.lex_front.f pFront
  by_cases h1 : (97 : Int) ≤ c <;> by_cases h2 : c ≤ 122 <;> by_cases h3 : (65 : Int) ≤ c <;> by_cases h4 : c ≤ 90 <;> by_cases h5 : c = 95 <;> simp [h1, h2, h3, h4, h5]
theorem inner_f (c : Int) : X.lex_inner.f c = some (pInner c) := by
  unfold X.lex_inner.f pInner
  rw [front_f, digit_f]
  cases pFront c <;> simp
theorem callP29 (c : Int) (w : World) : Calls Tryd.prog 55 #[.int .u8 c] w fun e w' => e = .returned (.bool (pInner c)) ∧ w' = w := X.lex_inner.calls c (pInner c) w (inner_f c)
theorem callP33 (c : Int) (w : World) : Calls Tryd.prog 65 #[.int .u8 c] w fun e w' => e = .returned (.bool (pDigit c)) ∧ w' = w := X.lex_digit.calls c (pDigit c) w (digit_f c)
theorem callP28 (c : Int) (w : World) : Calls Tryd.prog 54 #[.int .u8 c] w fun e w' => e = .returned (.bool (pFront c)) ∧ w' = w := X.lex_front.calls c (pFront c) w (front_f c)

theorem span25 (s : ByteArray) (hs : s.size ≤ 4000) (w : World) : Calls Tryd.prog 50 #[.string s, .func (.func 51) #[] #[]] w fun e w' => e = .returned (.int .i64 (spn pBlank (lst s) : Nat)) ∧ w' = w := by
  have HS := Aside0.mk hs
  clear hs
  go_enter Tryd.func50, Tryd.ntmps50
  go_wp2
  go_loopw [5] (fun v5 w' => ∃ i : Nat, i ≤ s.size ∧ v5 = .int .i64 i ∧ Aside0 (i + spn pBlank ((lst s).drop i) = spn pBlank (lst s)) ∧ w' = w) (fun v5 _ => s.size - (intOf v5).toNat)
  case atStart => exact ⟨0, Nat.zero_le _, rfl, ⟨by simp⟩, rfl⟩
  case round =>
    obtain ⟨i, hi, rfl, H, rfl⟩ := hrel
    by_cases hlt : i < s.size
    · have e1 : ((i : Int) < (s.size : Int)) = True := eq_true (by omega)
      have e2 : (i < s.size) = True := eq_true hlt
      have e3 : decide ((i : Int) < (s.size : Int)) = true := decide_eq_true (by omega)
      have hb := bt_at s (i : Int) (by simpa using hlt)
      simp only [Int.toNat_natCast] at hb
      have BN := Aside0.mk (hb.trans (bt_nb s i))
      have ST := Aside0.mk (spn_drop (p := pBlank) (l := lst s) (i := i) (by rw [lst_len]; exact hlt))
      have HI := Aside0.mk (And.intro hi hlt)
      have W1 := Aside0.mk (w1 i (by have := HS.out; omega))
      clear hb hi
      by_cases hp : pBlank (s[i].toNat : Int) = true
      · have CC := Aside0.mk (fun w => callP25 (s[i].toNat : Int) w)
        rw [hp] at CC
        have HP := Aside0.mk hp
        clear hp
        go_wp2_with (first | (go_at_call 51; refine (CC.out _).mono ?_; rintro e w' ⟨rfl, rfl⟩) | fail)
        go_roundw
        case measure =>
          exact meas HI.out.2 W1.out
        case rel =>
          have h2 := ST.out
          have h3 := HI.out
          rw [← BN.out, if_pos HP.out] at h2
          exact ⟨i + 1, by omega, by rw [W1.out], ⟨by have := H.out; omega⟩, trivial⟩
      · have hp2 : pBlank (s[i].toNat : Int) = false := by simpa using hp
        have CC := Aside0.mk (fun w => callP25 (s[i].toNat : Int) w)
        rw [hp2] at CC
        have HP := Aside0.mk hp
        clear hp hp2
        go_wp2_with (first | (go_at_call 51; refine (CC.out _).mono ?_; rintro e w' ⟨rfl, rfl⟩) | fail)
        go_ret
        have h2 := ST.out
        rw [← BN.out, if_neg HP.out] at h2
        exact ⟨by rw [← H.out, h2, Nat.add_zero]; rfl, rfl⟩
    · obtain rfl : i = s.size := by omega
      have e1 : ((s.size : Int) < (s.size : Int)) = False := eq_false (by omega)
      go_wp2
      go_ret
      have h2 := H.out
      rw [List.drop_of_length_le (by rw [lst_len]; exact Nat.le_refl _)] at h2
      exact ⟨by rw [← h2]; rfl, rfl⟩

theorem span26 (s : ByteArray) (hs : s.size ≤ 4000) (w : World) : Calls Tryd.prog 50 #[.string s, .func (.func 52) #[] #[]] w fun e w' => e = .returned (.int .i64 (spn pLine (lst s) : Nat)) ∧ w' = w := by
  have HS := Aside0.mk hs
  clear hs
  go_enter Tryd.func50, Tryd.ntmps50
  go_wp2
  go_loopw [5] (fun v5 w' => ∃ i : Nat, i ≤ s.size ∧ v5 = .int .i64 i ∧ Aside0 (i + spn pLine ((lst s).drop i) = spn pLine (lst s)) ∧ w' = w) (fun v5 _ => s.size - (intOf v5).toNat)
  case atStart => exact ⟨0, Nat.zero_le _, rfl, ⟨by simp⟩, rfl⟩
  case round =>
    obtain ⟨i, hi, rfl, H, rfl⟩ := hrel
    by_cases hlt : i < s.size
    · have e1 : ((i : Int) < (s.size : Int)) = True := eq_true (by omega)
      have e2 : (i < s.size) = True := eq_true hlt
      have e3 : decide ((i : Int) < (s.size : Int)) = true := decide_eq_true (by omega)
      have hb := bt_at s (i : Int) (by simpa using hlt)
      simp only [Int.toNat_natCast] at hb
      have BN := Aside0.mk (hb.trans (bt_nb s i))
      have ST := Aside0.mk (spn_drop (p := pLine) (l := lst s) (i := i) (by rw [lst_len]; exact hlt))
      have HI := Aside0.mk (And.intro hi hlt)
      have W1 := Aside0.mk (w1 i (by have := HS.out; omega))
      clear hb hi
      by_cases hp : pLine (s[i].toNat : Int) = true
      · have CC := Aside0.mk (fun w => callP26 (s[i].toNat : Int) w)
        rw [hp] at CC
        have HP := Aside0.mk hp
        clear hp
        go_wp2_with (first | (go_at_call 52; refine (CC.out _).mono ?_; rintro e w' ⟨rfl, rfl⟩) | fail)
        go_roundw
        case measure =>
          exact meas HI.out.2 W1.out
        case rel =>
          have h2 := ST.out
          have h3 := HI.out
          rw [← BN.out, if_pos HP.out] at h2
          exact ⟨i + 1, by omega, by rw [W1.out], ⟨by have := H.out; omega⟩, trivial⟩
      · have hp2 : pLine (s[i].toNat : Int) = false := by simpa using hp
        have CC := Aside0.mk (fun w => callP26 (s[i].toNat : Int) w)
        rw [hp2] at CC
        have HP := Aside0.mk hp
        clear hp hp2
        go_wp2_with (first | (go_at_call 52; refine (CC.out _).mono ?_; rintro e w' ⟨rfl, rfl⟩) | fail)
        go_ret
        have h2 := ST.out
        rw [← BN.out, if_neg HP.out] at h2
        exact ⟨by rw [← H.out, h2, Nat.add_zero]; rfl, rfl⟩
    · obtain rfl : i = s.size := by omega
      have e1 : ((s.size : Int) < (s.size : Int)) = False := eq_false (by omega)
      go_wp2
      go_ret
      have h2 := H.out
      rw [List.drop_of_length_le (by rw [lst_len]; exact Nat.le_refl _)] at h2
      exact ⟨by rw [← h2]; rfl, rfl⟩

theorem span29 (s : ByteArray) (hs : s.size ≤ 4000) (w : World) : Calls Tryd.prog 50 #[.string s, .func (.func 55) #[] #[]] w fun e w' => e = .returned (.int .i64 (spn pInner (lst s) : Nat)) ∧ w' = w := by
  have HS := Aside0.mk hs
  clear hs
  go_enter Tryd.func50, Tryd.ntmps50
  go_wp2
  go_loopw [5] (fun v5 w' => ∃ i : Nat, i ≤ s.size ∧ v5 = .int .i64 i ∧ Aside0 (i + spn pInner ((lst s).drop i) = spn pInner (lst s)) ∧ w' = w) (fun v5 _ => s.size - (intOf v5).toNat)
  case atStart => exact ⟨0, Nat.zero_le _, rfl, ⟨by simp⟩, rfl⟩
  case round =>
    obtain ⟨i, hi, rfl, H, rfl⟩ := hrel
    by_cases hlt : i < s.size
    · have e1 : ((i : Int) < (s.size : Int)) = True := eq_true (by omega)
      have e2 : (i < s.size) = True := eq_true hlt
      have e3 : decide ((i : Int) < (s.size : Int)) = true := decide_eq_true (by omega)
      have hb := bt_at s (i : Int) (by simpa using hlt)
      simp only [Int.toNat_natCast] at hb
      have BN := Aside0.mk (hb.trans (bt_nb s i))
      have ST := Aside0.mk (spn_drop (p := pInner) (l := lst s) (i := i) (by rw [lst_len]; exact hlt))
      have HI := Aside0.mk (And.intro hi hlt)
      have W1 := Aside0.mk (w1 i (by have := HS.out; omega))
      clear hb hi
      by_cases hp : pInner (s[i].toNat : Int) = true
      · have CC := Aside0.mk (fun w => callP29 (s[i].toNat : Int) w)
        rw [hp] at CC
        have HP := Aside0.mk hp
        clear hp
        go_wp2_with (first | (go_at_call 55; refine (CC.out _).mono ?_; rintro e w' ⟨rfl, rfl⟩) | fail)
        go_roundw
        case measure =>
          exact meas HI.out.2 W1.out
        case rel =>
          have h2 := ST.out
          have h3 := HI.out
          rw [← BN.out, if_pos HP.out] at h2
          exact ⟨i + 1, by omega, by rw [W1.out], ⟨by have := H.out; omega⟩, trivial⟩
      · have hp2 : pInner (s[i].toNat : Int) = false := by simpa using hp
        have CC := Aside0.mk (fun w => callP29 (s[i].toNat : Int) w)
        rw [hp2] at CC
        have HP := Aside0.mk hp
        clear hp hp2
        go_wp2_with (first | (go_at_call 55; refine (CC.out _).mono ?_; rintro e w' ⟨rfl, rfl⟩) | fail)
        go_ret
        have h2 := ST.out
        rw [← BN.out, if_neg HP.out] at h2
        exact ⟨by rw [← H.out, h2, Nat.add_zero]; rfl, rfl⟩
    · obtain rfl : i = s.size := by omega
      have e1 : ((s.size : Int) < (s.size : Int)) = False := eq_false (by omega)
      go_wp2
      go_ret
      have h2 := H.out
      rw [List.drop_of_length_le (by rw [lst_len]; exact Nat.le_refl _)] at h2
      exact ⟨by rw [← h2]; rfl, rfl⟩

theorem span33 (s : ByteArray) (hs : s.size ≤ 4000) (w : World) : Calls Tryd.prog 50 #[.string s, .func (.func 65) #[] #[]] w fun e w' => e = .returned (.int .i64 (spn pDigit (lst s) : Nat)) ∧ w' = w := by
  have HS := Aside0.mk hs
  clear hs
  go_enter Tryd.func50, Tryd.ntmps50
  go_wp2
  go_loopw [5] (fun v5 w' => ∃ i : Nat, i ≤ s.size ∧ v5 = .int .i64 i ∧ Aside0 (i + spn pDigit ((lst s).drop i) = spn pDigit (lst s)) ∧ w' = w) (fun v5 _ => s.size - (intOf v5).toNat)
  case atStart => exact ⟨0, Nat.zero_le _, rfl, ⟨by simp⟩, rfl⟩
  case round =>
    obtain ⟨i, hi, rfl, H, rfl⟩ := hrel
    by_cases hlt : i < s.size
    · have e1 : ((i : Int) < (s.size : Int)) = True := eq_true (by omega)
      have e2 : (i < s.size) = True := eq_true hlt
      have e3 : decide ((i : Int) < (s.size : Int)) = true := decide_eq_true (by omega)
      have hb := bt_at s (i : Int) (by simpa using hlt)
      simp only [Int.toNat_natCast] at hb
      have BN := Aside0.mk (hb.trans (bt_nb s i))
      have ST := Aside0.mk (spn_drop (p := pDigit) (l := lst s) (i := i) (by rw [lst_len]; exact hlt))
      have HI := Aside0.mk (And.intro hi hlt)
      have W1 := Aside0.mk (w1 i (by have := HS.out; omega))
      clear hb hi
      by_cases hp : pDigit (s[i].toNat : Int) = true
      · have CC := Aside0.mk (fun w => callP33 (s[i].toNat : Int) w)
        rw [hp] at CC
        have HP := Aside0.mk hp
        clear hp
        go_wp2_with (first | (go_at_call 65; refine (CC.out _).mono ?_; rintro e w' ⟨rfl, rfl⟩) | fail)
        go_roundw
        case measure =>
          exact meas HI.out.2 W1.out
        case rel =>
          have h2 := ST.out
          have h3 := HI.out
          rw [← BN.out, if_pos HP.out] at h2
          exact ⟨i + 1, by omega, by rw [W1.out], ⟨by have := H.out; omega⟩, trivial⟩
      · have hp2 : pDigit (s[i].toNat : Int) = false := by simpa using hp
        have CC := Aside0.mk (fun w => callP33 (s[i].toNat : Int) w)
        rw [hp2] at CC
        have HP := Aside0.mk hp
        clear hp hp2
        go_wp2_with (first | (go_at_call 65; refine (CC.out _).mono ?_; rintro e w' ⟨rfl, rfl⟩) | fail)
        go_ret
        have h2 := ST.out
        rw [← BN.out, if_neg HP.out] at h2
        exact ⟨by rw [← H.out, h2, Nat.add_zero]; rfl, rfl⟩
    · obtain rfl : i = s.size := by omega
      have e1 : ((s.size : Int) < (s.size : Int)) = False := eq_false (by omega)
      go_wp2
      go_ret
      have h2 := H.out
      rw [List.drop_of_length_le (by rw [lst_len]; exact Nat.le_refl _)] at h2
      exact ⟨by rw [← h2]; rfl, rfl⟩
end Go.Proofs.YtkkmgahgejjhgaaDoor.Lex
