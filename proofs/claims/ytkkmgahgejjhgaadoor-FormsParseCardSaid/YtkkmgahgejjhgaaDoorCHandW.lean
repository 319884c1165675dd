/- Package lex: what TrimPrefix and HasPrefix come to; signed: how many bytes the number at the front has. -/
import Derived.Test.YtkkmgahgejjhgaaDoorCHandU
namespace Go.Proofs.YtkkmgahgejjhgaaDoor.Lex
open Go.RowKit Go.Proofs.YtkkmgahgejjhgaaDoor.P Go.Proofs.YtkkmgahgejjhgaaDoorW.PrintWords Go.Proofs.YtkkmgahgejjhgaaDoorW.PrintLast Go.Proofs.YtkkmgahgejjhgaaDoorW.PrintMore
set_option linter.unusedVariables false
set_option linter.unusedSimpArgs false
theorem lite_f (s p : ByteArray) : X.stringslite_HasPrefix.f s p = some (decide (p.size ≤ s.size ∧ (lst s).take p.size = lst p)) := by
  unfold X.stringslite_HasPrefix.f
  by_cases h : (s.size : Int) ≥ (p.size : Int)
  · have h2 : p.size ≤ s.size := by omega
    rw [if_pos h, if_pos (by omega), if_pos (by omega), lst_toList, lst_toList, Int.toNat_natCast, lst_upto]
    by_cases e : (lst s).take p.size = lst p
    · simp [e, h2]
    · simp [e, h2]
  · have h2 : ¬ p.size ≤ s.size := by omega
    rw [if_neg h]
    simp [h2]
theorem has_f (s p : ByteArray) : X.strings_HasPrefix.f s p = some (decide (p.size ≤ s.size ∧ (lst s).take p.size = lst p)) := by
  unfold X.strings_HasPrefix.f
  rw [lite_f]
  rfl
theorem u8_eq (c : UInt8) (k : Nat) (h : k < 256) : ((c.toNat : Int) = (k : Int)) ↔ c = UInt8.ofNat k := by
  constructor
  · intro e
    apply UInt8.toNat_inj.1
    rw [UInt8.toNat_ofNat']
    omega
  · rintro rfl
    rw [UInt8.toNat_ofNat']
    omega
theorem dash (s : ByteArray) : (1 ≤ s.size ∧ (lst s).take 1 = [45]) ↔ nb (lst s) 0 = 45 := by
  rw [← lst_len]
  cases h : lst s with
  | nil => simp [nb]
  | cons c r =>
    have e : nb (c :: r) 0 = (c.toNat : Int) := rfl
    have u := u8_eq c 45 (by decide)
    simp only [e, List.length_cons, List.take_succ_cons, List.take_zero]
    rw [show ((45 : Int)) = ((45 : Nat) : Int) from rfl, u]
    simp
theorem arrow (s : ByteArray) : (2 ≤ s.size ∧ (lst s).take 2 = [45, 62]) ↔ (nb (lst s) 0 = 45 ∧ 1 < (lst s).length ∧ nb (lst s) 1 = 62) := by
  rw [← lst_len]
  cases h : lst s with
  | nil => simp [nb]
  | cons c r =>
    cases r with
    | nil => simp
    | cons d r =>
      have e : nb (c :: d :: r) 0 = (c.toNat : Int) := rfl
      have e2 : nb (c :: d :: r) 1 = (d.toNat : Int) := rfl
      have u := u8_eq c 45 (by decide)
      have u2 := u8_eq d 62 (by decide)
      simp only [e, e2, List.length_cons, List.take_succ_cons, List.take_zero]
      rw [show ((45 : Int)) = ((45 : Nat) : Int) from rfl, u, show ((62 : Int)) = ((62 : Nat) : Int) from rfl, u2]
      simp
theorem trim_f (s : ByteArray) : X.strings_TrimPrefix.f s ⟨#[45]⟩ = some (if nb (lst s) 0 = 45 then s.extract 1 s.size else s) := by
  unfold X.strings_TrimPrefix.f X.stringslite_TrimPrefix.f
  rw [lite_f]
  have d : ((⟨#[45]⟩ : ByteArray).size ≤ s.size ∧ (lst s).take (⟨#[45]⟩ : ByteArray).size = lst ⟨#[45]⟩) ↔ nb (lst s) 0 = 45 := dash s
  by_cases h : nb (lst s) 0 = 45
  · rw [if_pos h]
    have h2 := d.2 h
    simp only [d, h, decide_true]
    show ((if true = true then (if (0 : Int) ≤ ((1 : Nat) : Int) then (if ((1 : Nat) : Int) ≤ (s.size : Int) then (some (s.extract (((1 : Nat) : Int)).toNat s.size)) else none) else none) else some s).bind fun t => some t) = _
    have h3 : 1 ≤ s.size := h2.1
    rw [if_pos rfl, if_pos (by decide), if_pos (by omega)]
    rfl
  · rw [if_neg h]
    simp only [d, h, decide_false]
    rfl
theorem minus_of (s : ByteArray) (h : nb (lst s) 0 = 45) : 1 ≤ s.size := ((dash s).2 h).1

set_option maxHeartbeats 8000000 in
set_option maxRecDepth 100000 in
theorem signed30 (s : ByteArray) (hs : s.size ≤ 4000) (w : World) : Calls Tryd.prog 56 #[.string s] w fun e w' => e = .returned (.int .i64 (sgn (lst s) : Nat)) ∧ w' = w := by
  by_cases h : nb (lst s) 0 = 45
  · have h1 := minus_of s h
    obtain ⟨t, ht⟩ : ∃ t, t = s.extract 1 s.size := ⟨_, rfl⟩
    have T0 := X.strings_TrimPrefix.calls s ⟨#[45]⟩ t
    have TR := Aside0.mk (fun w => T0 w (by rw [trim_f, if_pos h, ht]))
    obtain ⟨k, hk⟩ : ∃ k, k = spn pDigit ((lst s).drop 1) := ⟨_, rfl⟩
    have hkl : k ≤ s.size := by
      have := spn_le pDigit ((lst s).drop 1)
      rw [List.length_drop, lst_len] at this
      omega
    have SP0 : ∀ w, Calls Tryd.prog 50 #[.string (s.extract 1 s.size), .func (.func 65) #[] #[]] w fun e w' => e = .returned (.int .i64 (k : Nat)) ∧ w' = w := by
      intro w
      have := span33 (s.extract 1 s.size) (by rw [ByteArray.size_extract]; omega) w
      rw [lst_from, ← hk] at this
      exact this
    have SP := Aside0.mk SP0
    have W1 : wrap64 ((s.size : Int) - (t.size : Int)) = 1 := by
      rw [ht, ByteArray.size_extract]
      unfold wrap64
      omega
    have f1 : ((1 : Int) ≤ (s.size : Int)) = True := eq_true (by omega)
    have f2 : (1 ≤ s.size) = True := eq_true h1
    have HH := Aside0.mk h
    have HK := Aside0.mk hk
    have H1 := Aside0.mk h1
    clear T0 SP0 h1 h hk ht
    have HKL := Aside0.mk (And.intro hkl hs)
    clear hkl hs
    by_cases hp : 0 < k
    · have g1 : ((k : Int) > 0) = True := eq_true (by omega)
      have g2 : decide ((k : Int) > 0) = true := decide_eq_true (by omega)
      have g3 : (0 < k) = True := eq_true hp
      have HP := Aside0.mk hp
      clear hp
      go_enter Tryd.func56, Tryd.ntmps56
      go_wp2_with (first | (go_at_call 66; (with_reducible refine (TR.out _).mono ?_); rintro e w' ⟨rfl, rfl⟩) | (go_at_call 50; (with_reducible refine (SP.out _).mono ?_); rintro e w' ⟨rfl, rfl⟩))
      go_ret
      refine ⟨?_, rfl⟩
      have e : sgn (lst s) = 1 + k := by
        have := HP.out
        unfold sgn
        rw [if_pos HH.out, ← HK.out, if_pos HP.out]
      have W2 : wrap64 (1 + (k : Int)) = ((1 + k : Nat) : Int) := by
        have := HKL.out
        unfold wrap64
        omega
      rw [e, ← W2]
      rfl
    · obtain rfl : k = 0 := by omega
      go_enter Tryd.func56, Tryd.ntmps56
      go_wp2_with (first | (go_at_call 66; (with_reducible refine (TR.out _).mono ?_); rintro e w' ⟨rfl, rfl⟩) | (go_at_call 50; (with_reducible refine (SP.out _).mono ?_); rintro e w' ⟨rfl, rfl⟩))
      go_ret
      refine ⟨?_, rfl⟩
      have e : sgn (lst s) = 0 := by
        unfold sgn
        rw [if_pos HH.out, ← HK.out]
        rfl
      rw [e]
      rfl
  · have T0 := X.strings_TrimPrefix.calls s ⟨#[45]⟩ s
    have TR := Aside0.mk (fun w => T0 w (by rw [trim_f, if_neg h]))
    obtain ⟨k, hk⟩ : ∃ k, k = spn pDigit (lst s) := ⟨_, rfl⟩
    have SP := Aside0.mk (fun w => span33 s hs w)
    rw [← hk] at SP
    have HH := Aside0.mk h
    have HK := Aside0.mk hk
    have hkl : k ≤ s.size := by
      have := spn_le pDigit (lst s)
      rw [lst_len] at this
      omega
    have HKL := Aside0.mk (And.intro hkl hs)
    clear hkl hs h T0 hk
    by_cases hp : 0 < k
    · have g1 : ((k : Int) > 0) = True := eq_true (by omega)
      have g2 : decide ((k : Int) > 0) = true := decide_eq_true (by omega)
      have g3 : (0 < k) = True := eq_true hp
      have HP := Aside0.mk hp
      clear hp
      go_enter Tryd.func56, Tryd.ntmps56
      go_wp2_with (first | (go_at_call 66; (with_reducible refine (TR.out _).mono ?_); rintro e w' ⟨rfl, rfl⟩) | (go_at_call 50; (with_reducible refine (SP.out _).mono ?_); rintro e w' ⟨rfl, rfl⟩))
      go_ret
      refine ⟨?_, rfl⟩
      have e : sgn (lst s) = k := by
        unfold sgn
        rw [if_neg HH.out, ← HK.out]
      have W2 : wrap64 (k : Int) = (k : Int) := by
        have := HKL.out
        unfold wrap64
        omega
      rw [e]
      first | rfl | (rw [W2]; rfl)
    · obtain rfl : k = 0 := by omega
      go_enter Tryd.func56, Tryd.ntmps56
      go_wp2_with (first | (go_at_call 66; (with_reducible refine (TR.out _).mono ?_); rintro e w' ⟨rfl, rfl⟩) | (go_at_call 50; (with_reducible refine (SP.out _).mono ?_); rintro e w' ⟨rfl, rfl⟩))
      go_ret
      refine ⟨?_, rfl⟩
      have e : sgn (lst s) = 0 := by
        unfold sgn
        rw [if_neg HH.out, ← HK.out]
      rw [e]
      rfl
end Go.Proofs.YtkkmgahgejjhgaaDoor.Lex
