/- Package lex: blank: how many bytes of blanks and remarks stand at the front. -/
import Derived.Test.YtkkmgahgejjhgaaDoorCHandU
import Derived.ScopeJumps
import Derived.WalkMore
namespace Go.Proofs.YtkkmgahgejjhgaaDoor.Lex
open Go.RowKit Go.Proofs.YtkkmgahgejjhgaaDoor.P Go.Proofs.YtkkmgahgejjhgaaDoorW.PrintWords Go.Proofs.YtkkmgahgejjhgaaDoorW.PrintLast Go.Proofs.YtkkmgahgejjhgaaDoorW.PrintMore
set_option linter.unusedVariables false
set_option linter.unusedSimpArgs false

set_option maxHeartbeats 8000000 in
set_option maxRecDepth 100000 in
theorem blank22 (s : ByteArray) (hs : s.size ≤ 4000) (w : World) : Calls Tryd.prog 37 #[.string s] w fun e w' => e = .returned (.int .i64 (blk false (lst s) : Nat)) ∧ w' = w := by
  have HS := Aside0.mk hs
  clear hs
  go_enter Tryd.func37, Tryd.ntmps37
  go_wp2
  refine wp_scope_jumps 0 (fun a' w' => w' = w ∧ ∃ (n : Nat) (u2 u4 u5 u6 u7 u8 u9 u10 u11 u12 u13 u14 u15 u16 u17 u18 u19 u20 u21 u22 u23 u24 u25 : Value), a' = { tmps := #[.string s, undef, u2, .int .i64 n, u4, u5, u6, u7, u8, u9, u10, u11, u12, u13, u14, u15, u16, u17, u18, u19, u20, u21, u22, u23, u24, u25, undef], defers := [] } ∧ n ≤ s.size ∧ n + blk false ((lst s).drop n) = blk false (lst s)) (fun a' _ => s.size - (intOf (a'.tmps.getD 3 undef)).toNat) rfl ?_ ?_
  · obtain ⟨n, hn0⟩ : ∃ n : Nat, n = 0 := ⟨0, rfl⟩
    have hn : n ≤ s.size := by omega
    have hb : n + blk false ((lst s).drop n) = blk false (lst s) := by rw [hn0, List.drop_zero, Nat.zero_add]
    go_wp2
    go_step3
    rw [show Value.int .i64 0 = Value.int .i64 (n : Int) by rw [hn0]; rfl]
    clear hn0
    have HB := Aside0.mk hb
    have HN := Aside0.mk hn
    obtain ⟨k, hk⟩ : ∃ k, k = spn pBlank ((lst s).drop n) := ⟨_, rfl⟩
    obtain ⟨m, hm⟩ : ∃ m, m = n + k := ⟨_, rfl⟩
    have hkl : k ≤ s.size - n := by
      have := spn_le pBlank ((lst s).drop n)
      rw [List.length_drop, lst_len] at this
      omega
    have hms : m ≤ s.size := by omega
    have CB0 : ∀ w, Calls Tryd.prog 50 #[.string (s.extract n s.size), .func (.func 51) #[] #[]] w fun e w' => e = .returned (.int .i64 (k : Nat)) ∧ w' = w := by
      intro w
      have := span25 (s.extract n s.size) (by have := HS.out; rw [ByteArray.size_extract]; omega) w
      rw [lst_from, ← hk] at this
      exact this
    have W1 : wrap64 ((n : Int) + (k : Int)) = (m : Int) := by
      have := HS.out
      unfold wrap64
      omega
    have CB := Aside0.mk CB0
    have HK := Aside0.mk hk
    have HM := Aside0.mk hm
    have HKL := Aside0.mk hkl
    have HMS := Aside0.mk hms
    have f1 : (0 ≤ (n : Int)) = True := eq_true (by omega)
    have f2 : ((n : Int) ≤ (s.size : Int)) = True := eq_true (by omega)
    have f3 : (n ≤ s.size) = True := eq_true hn
    have B20 : n + blk false ((lst s).drop n) = m + blk false ((lst s).drop m) := by
      have := blk_blank ((lst s).drop n)
      rw [← hk, List.drop_drop, ← hm] at this
      omega
    have B2 := Aside0.mk B20
    clear hb hn hk hm hkl CB0 B20
    by_cases hlt : m < s.size
    · have HLT := Aside0.mk hlt
      have g1 : ((m : Int) < (s.size : Int)) = True := eq_true (by omega)
      have g2 : (m < s.size) = True := eq_true hlt
      have g3 : decide ((m : Int) < (s.size : Int)) = true := decide_eq_true (by omega)
      have g4 : (0 ≤ (m : Int)) = True := eq_true (by omega)
      have hb := bt_at s (m : Int) (by simpa using hlt)
      simp only [Int.toNat_natCast] at hb
      have BN := Aside0.mk (hb.trans (bt_nb s m))
      clear hb hms
      by_cases hc : (s[m].toNat : Int) = 59
      · have c1 : ((s[m].toNat : Int) == 59) = true := by simpa using hc
        obtain ⟨j, hj⟩ : ∃ j, j = spn pLine ((lst s).drop m) := ⟨_, rfl⟩
        obtain ⟨q, hq⟩ : ∃ q, q = m + j := ⟨_, rfl⟩
        have hjl : j ≤ s.size - m := by
          have := spn_le pLine ((lst s).drop m)
          rw [List.length_drop, lst_len] at this
          omega
        have hj1 : 1 ≤ j := by
          have := spn_drop (p := pLine) (l := lst s) (i := m) (by rw [lst_len]; exact hlt)
          rw [← BN.out, hc, if_pos (by decide), ← hj] at this
          omega
        have CC0 : ∀ w, Calls Tryd.prog 50 #[.string (s.extract m s.size), .func (.func 52) #[] #[]] w fun e w' => e = .returned (.int .i64 (j : Nat)) ∧ w' = w := by
          intro w
          have := span26 (s.extract m s.size) (by have := HS.out; rw [ByteArray.size_extract]; omega) w
          rw [lst_from, ← hj] at this
          exact this
        have CC := Aside0.mk CC0
        have W2 : wrap64 ((m : Int) + (j : Int)) = (q : Int) := by
          have := HS.out
          unfold wrap64
          omega
        have B30 : m + blk false ((lst s).drop m) = q + blk false ((lst s).drop q) := by
          have := blk_rem (l := (lst s).drop m) (by rw [List.length_drop, lst_len]; omega) (by rw [nb_drop, Nat.add_zero, ← BN.out]; exact hc)
          rw [← hj, List.drop_drop, ← hq] at this
          omega
        have B3 := Aside0.mk B30
        have HQ := Aside0.mk (show q ≤ s.size ∧ m < q by omega)
        have f4 : ((m : Int) ≤ (s.size : Int)) = True := eq_true (by omega)
        have f5 : (m ≤ s.size) = True := eq_true (by omega)
        clear hc hj hq hjl hj1 CC0 B30
        go_wp2_with (first | (go_at_call 50; (with_reducible refine (CB.out _).mono ?_); rintro e w' ⟨rfl, rfl⟩) | (go_at_call 50; (with_reducible refine (CC.out _).mono ?_); rintro e w' ⟨rfl, rfl⟩))
        go_step3
        rw [W2]
        refine ⟨rfl, rfl, q, _, _, _, _, _, _, _, _, _, _, _, _, _, _, _, _, _, _, _, _, _, _, _, rfl, HQ.out.1, ?_⟩
        · rw [← B3.out, ← B2.out]
          exact HB.out
      · have c1 : ((s[m].toNat : Int) == 59) = false := by simpa using hc
        have HC := Aside0.mk hc
        clear hc
        go_wp2_with (first | (go_at_call 50; (with_reducible refine (CB.out _).mono ?_); rintro e w' ⟨rfl, rfl⟩) | fail)
        simp only [Exit.jump]
        go_ret
        refine ⟨?_, rfl⟩
        have hz : blk false ((lst s).drop m) = 0 := by
          refine blk_stop (by rw [List.length_drop, lst_len]; have := HLT.out; omega) ?_ ?_
          · have := spn_stop pBlank ((lst s).drop n) (by rw [← HK.out, List.length_drop, lst_len]; have := HLT.out; have := HM.out; omega)
            rw [← HK.out, nb_drop, ← HM.out] at this
            rw [nb_drop, Nat.add_zero]
            exact this
          · rw [nb_drop, Nat.add_zero, ← BN.out]
            exact HC.out
        rw [← HB.out, B2.out, hz, Nat.add_zero]
        first | rfl | (rw [W1]; rfl)
    · obtain rfl : m = s.size := by omega
      have g1 : ((s.size : Int) < (s.size : Int)) = False := eq_false (by omega)
      go_wp2_with (first | (go_at_call 50; (with_reducible refine (CB.out _).mono ?_); rintro e w' ⟨rfl, rfl⟩))
      simp only [Exit.jump]
      go_ret
      refine ⟨?_, rfl⟩
      rw [← HB.out, B2.out, List.drop_of_length_le (by rw [lst_len]; exact Nat.le_refl _)]
      first | rfl | (rw [W1]; rfl)
  · rintro a' w' ⟨rfl, n, u2, u4, u5, u6, u7, u8, u9, u10, u11, u12, u13, u14, u15, u16, u17, u18, u19, u20, u21, u22, u23, u24, u25, rfl, hn, hb⟩
    have HB := Aside0.mk hb
    have HN := Aside0.mk hn
    obtain ⟨k, hk⟩ : ∃ k, k = spn pBlank ((lst s).drop n) := ⟨_, rfl⟩
    obtain ⟨m, hm⟩ : ∃ m, m = n + k := ⟨_, rfl⟩
    have hkl : k ≤ s.size - n := by
      have := spn_le pBlank ((lst s).drop n)
      rw [List.length_drop, lst_len] at this
      omega
    have hms : m ≤ s.size := by omega
    have CB0 : ∀ w, Calls Tryd.prog 50 #[.string (s.extract n s.size), .func (.func 51) #[] #[]] w fun e w' => e = .returned (.int .i64 (k : Nat)) ∧ w' = w := by
      intro w
      have := span25 (s.extract n s.size) (by have := HS.out; rw [ByteArray.size_extract]; omega) w
      rw [lst_from, ← hk] at this
      exact this
    have W1 : wrap64 ((n : Int) + (k : Int)) = (m : Int) := by
      have := HS.out
      unfold wrap64
      omega
    have CB := Aside0.mk CB0
    have HK := Aside0.mk hk
    have HM := Aside0.mk hm
    have HKL := Aside0.mk hkl
    have HMS := Aside0.mk hms
    have f1 : (0 ≤ (n : Int)) = True := eq_true (by omega)
    have f2 : ((n : Int) ≤ (s.size : Int)) = True := eq_true (by omega)
    have f3 : (n ≤ s.size) = True := eq_true hn
    have B20 : n + blk false ((lst s).drop n) = m + blk false ((lst s).drop m) := by
      have := blk_blank ((lst s).drop n)
      rw [← hk, List.drop_drop, ← hm] at this
      omega
    have B2 := Aside0.mk B20
    clear hb hn hk hm hkl CB0 B20
    by_cases hlt : m < s.size
    · have HLT := Aside0.mk hlt
      have g1 : ((m : Int) < (s.size : Int)) = True := eq_true (by omega)
      have g2 : (m < s.size) = True := eq_true hlt
      have g3 : decide ((m : Int) < (s.size : Int)) = true := decide_eq_true (by omega)
      have g4 : (0 ≤ (m : Int)) = True := eq_true (by omega)
      have hb := bt_at s (m : Int) (by simpa using hlt)
      simp only [Int.toNat_natCast] at hb
      have BN := Aside0.mk (hb.trans (bt_nb s m))
      clear hb hms
      by_cases hc : (s[m].toNat : Int) = 59
      · have c1 : ((s[m].toNat : Int) == 59) = true := by simpa using hc
        obtain ⟨j, hj⟩ : ∃ j, j = spn pLine ((lst s).drop m) := ⟨_, rfl⟩
        obtain ⟨q, hq⟩ : ∃ q, q = m + j := ⟨_, rfl⟩
        have hjl : j ≤ s.size - m := by
          have := spn_le pLine ((lst s).drop m)
          rw [List.length_drop, lst_len] at this
          omega
        have hj1 : 1 ≤ j := by
          have := spn_drop (p := pLine) (l := lst s) (i := m) (by rw [lst_len]; exact hlt)
          rw [← BN.out, hc, if_pos (by decide), ← hj] at this
          omega
        have CC0 : ∀ w, Calls Tryd.prog 50 #[.string (s.extract m s.size), .func (.func 52) #[] #[]] w fun e w' => e = .returned (.int .i64 (j : Nat)) ∧ w' = w := by
          intro w
          have := span26 (s.extract m s.size) (by have := HS.out; rw [ByteArray.size_extract]; omega) w
          rw [lst_from, ← hj] at this
          exact this
        have CC := Aside0.mk CC0
        have W2 : wrap64 ((m : Int) + (j : Int)) = (q : Int) := by
          have := HS.out
          unfold wrap64
          omega
        have B30 : m + blk false ((lst s).drop m) = q + blk false ((lst s).drop q) := by
          have := blk_rem (l := (lst s).drop m) (by rw [List.length_drop, lst_len]; omega) (by rw [nb_drop, Nat.add_zero, ← BN.out]; exact hc)
          rw [← hj, List.drop_drop, ← hq] at this
          omega
        have B3 := Aside0.mk B30
        have HQ := Aside0.mk (show q ≤ s.size ∧ m < q by omega)
        have f4 : ((m : Int) ≤ (s.size : Int)) = True := eq_true (by omega)
        have f5 : (m ≤ s.size) = True := eq_true (by omega)
        clear hc hj hq hjl hj1 CC0 B30
        go_wp2_with (first | (go_at_call 50; (with_reducible refine (CB.out _).mono ?_); rintro e w' ⟨rfl, rfl⟩) | (go_at_call 50; (with_reducible refine (CC.out _).mono ?_); rintro e w' ⟨rfl, rfl⟩))
        go_step3
        rw [W2]
        refine ⟨rfl, ⟨rfl, q, _, _, _, _, _, _, _, _, _, _, _, _, _, _, _, _, _, _, _, _, _, _, _, rfl, HQ.out.1, ?_⟩, ?_⟩
        · rw [← B3.out, ← B2.out]
          exact HB.out
        · have h1 := HM.out
          have h2 := HQ.out
          have h3 := HLT.out
          show s.size - (intOf (.int .i64 (q : Int))).toNat < s.size - (intOf (.int .i64 (n : Int))).toNat
          simp only [intOf, Int.toNat_natCast]
          omega
      · have c1 : ((s[m].toNat : Int) == 59) = false := by simpa using hc
        have HC := Aside0.mk hc
        clear hc
        go_wp2_with (first | (go_at_call 50; (with_reducible refine (CB.out _).mono ?_); rintro e w' ⟨rfl, rfl⟩) | fail)
        simp only [Exit.jump]
        go_ret
        refine ⟨?_, rfl⟩
        have hz : blk false ((lst s).drop m) = 0 := by
          refine blk_stop (by rw [List.length_drop, lst_len]; have := HLT.out; omega) ?_ ?_
          · have := spn_stop pBlank ((lst s).drop n) (by rw [← HK.out, List.length_drop, lst_len]; have := HLT.out; have := HM.out; omega)
            rw [← HK.out, nb_drop, ← HM.out] at this
            rw [nb_drop, Nat.add_zero]
            exact this
          · rw [nb_drop, Nat.add_zero, ← BN.out]
            exact HC.out
        rw [← HB.out, B2.out, hz, Nat.add_zero]
        first | rfl | (rw [W1]; rfl)
    · obtain rfl : m = s.size := by omega
      have g1 : ((s.size : Int) < (s.size : Int)) = False := eq_false (by omega)
      go_wp2_with (first | (go_at_call 50; (with_reducible refine (CB.out _).mono ?_); rintro e w' ⟨rfl, rfl⟩))
      simp only [Exit.jump]
      go_ret
      refine ⟨?_, rfl⟩
      rw [← HB.out, B2.out, List.drop_of_length_le (by rw [lst_len]; exact Nat.le_refl _)]
      first | rfl | (rw [W1]; rfl)
end Go.Proofs.YtkkmgahgejjhgaaDoor.Lex
