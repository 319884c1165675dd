/- Package lex: number: what a number's digits come to, or that it is too far from 0. -/
import Derived.Test.YtkkmgahgejjhgaaDoorCHandW
namespace Go.Proofs.YtkkmgahgejjhgaaDoor.Lex
open Go.RowKit Go.Proofs.YtkkmgahgejjhgaaDoor.P Go.Proofs.YtkkmgahgejjhgaaDoorW.PrintWords Go.Proofs.YtkkmgahgejjhgaaDoorW.PrintLast Go.Proofs.YtkkmgahgejjhgaaDoorW.PrintMore
set_option linter.unusedVariables false
set_option linter.unusedSimpArgs false
theorem num_of {s t : ByteArray} (ht : t = (if nb (lst s) 0 = 45 then s.extract 1 s.size else s)) : num (lst s) = if nb (lst s) 0 = 45 then (numD (lst t) 0).map (fun n => -n) else numD (lst t) 0 := by
  unfold num
  by_cases h : nb (lst s) 0 = 45
  · rw [if_pos h] at ht
    rw [if_pos h, if_pos h, ht, lst_from]
  · rw [if_neg h] at ht
    rw [if_neg h, if_neg h, ht]
theorem num_none {s t : ByteArray} (ht : t = (if nb (lst s) 0 = 45 then s.extract 1 s.size else s)) (h : numD (lst t) 0 = none) : num (lst s) = none := by
  rw [num_of ht, h]
  split <;> rfl
theorem num_some {s t : ByteArray} {g : Bool} {n : Int} (ht : t = (if nb (lst s) 0 = 45 then s.extract 1 s.size else s)) (hg : g = decide (nb (lst s) 0 = 45)) (h : numD (lst t) 0 = some n) : num (lst s) = some (if g = true then -n else n) := by
  rw [num_of ht, h, hg]
  by_cases h : nb (lst s) 0 = 45
  · rw [if_pos h, if_pos (decide_eq_true h)]
    rfl
  · rw [if_neg h, if_neg (by simpa using h)]
set_option maxHeartbeats 8000000 in
set_option maxRecDepth 100000 in
theorem number31 (s : ByteArray) (hs : s.size ≤ 4000) (h0 : 0 < s.size) (w : World) : Calls Tryd.prog 57 #[.string s] w fun e w' => e = .returned (.tuple #[.int .i64 ((num (lst s)).getD 0), .bool (num (lst s)).isSome]) ∧ ∃ t, w' = Lib.bytesWorld w 5 t := by
  obtain ⟨t, ht⟩ : ∃ t, t = (if nb (lst s) 0 = 45 then s.extract 1 s.size else s) := ⟨_, rfl⟩
  obtain ⟨g, hg⟩ : ∃ g : Bool, g = decide (nb (lst s) 0 = 45) := ⟨_, rfl⟩
  have T0 := X.strings_TrimPrefix.calls s ⟨#[45]⟩ t
  have TR := Aside0.mk (fun w => T0 w (by rw [trim_f, ht]))
  have HT := Aside0.mk ht
  have HG := Aside0.mk hg
  have hts : t.size ≤ 4000 := by
    rw [ht]
    split
    · rw [ByteArray.size_extract]
      omega
    · exact hs
  have f1 : ((0 : Int) < (s.size : Int)) = True := eq_true (by omega)
  have f2 : (0 < s.size) = True := eq_true h0
  have hb := bt_at s 0 h0
  have c0 : ((s[0].toNat : Int) == 45) = g := by
    have h2 : (s[0].toNat : Int) = nb (lst s) 0 := hb.trans (bt_nb s 0)
    rw [hg, h2]
    rfl
  have kb := fun W => print_bytes (P := Tryd.prog) 9 25 5 Tryd.underlying9 Tryd.underlying25 Tryd.underlying5 t W
  clear T0 ht hg hb
  have HH := Aside0.mk (And.intro hs (And.intro h0 hts))
  clear hs hts
  go_enter Tryd.func57, Tryd.ntmps57
  go_wp2_with (first | (go_at_call 66; (with_reducible refine (TR.out _).mono ?_); rintro e w' ⟨rfl, rfl⟩))
  obtain ⟨W1, hW1⟩ : ∃ W1, Lib.bytesWorld w' 5 t = W1 := ⟨_, rfl⟩
  obtain ⟨B, hB⟩ : ∃ B, w'.heap.size = B := ⟨_, rfl⟩
  have CELL := Aside0.mk (show ∀ j : Nat, j < t.size → W1.cell? ⟨B, j, none⟩ = some (.int .u8 (nb (lst t) j)) by
    intro j hj
    rw [← hW1, ← hB, Lib.bytesWorld_cell _ _ _ _ hj]
    rfl)
  rw [hW1, hB]
  clear kb
  go_loopw [5, 16] (fun v5 v16 w' => ∃ (i : Nat) (n : Int), i ≤ t.size ∧ v5 = .int .i64 n ∧ v16 = .int .i64 i ∧ Aside0 (0 ≤ n ∧ n ≤ 4611686018427387904 ∧ numD ((lst t).drop i) n = numD (lst t) 0) ∧ w' = W1) (fun _ v16 _ => t.size - (intOf v16).toNat)
  case atStart => exact ⟨0, 0, Nat.zero_le _, rfl, rfl, ⟨Int.le_refl _, by decide, by simp⟩, rfl⟩
  case round =>
    obtain ⟨i, n, hi, rfl, rfl, H, rfl⟩ := hrel
    by_cases hlt : i < t.size
    · have e1 : ((i : Int) < (t.size : Int)) = True := eq_true (by omega)
      have e2 : (i < t.size) = True := eq_true hlt
      have e3 : decide ((i : Int) < (t.size : Int)) = true := decide_eq_true (by omega)
      have e4 : (0 ≤ (i : Int)) = True := eq_true (by omega)
      obtain ⟨c, hc⟩ : ∃ c, c = nb (lst t) i := ⟨_, rfl⟩
      have K1 := CELL.out i hlt
      rw [← hc] at K1
      have HI := Aside0.mk (And.intro hi hlt)
      have HC := Aside0.mk hc
      clear hi hc
      by_cases hq : n ≤ (4611686018427387904 - (c - 48) % 256) / 10
      · have q1 : ((4611686018427387904 - (c - 48) % 256) / 10 < n) = False := eq_false (by omega)
        have q2 : decide ((4611686018427387904 - (c - 48) % 256) / 10 < n) = false := decide_eq_false (by omega)
        have HQ := Aside0.mk hq
        clear hq hlt
        go_wp2
        go_roundw
        case measure => exact meas HI.out.2 (w1 i (by have := HI.out; have := HH.out; omega))
        case rel =>
          have h1 := H.out
          have h2 := HQ.out
          have h3 := HI.out
          have h4 := HH.out
          have d1 : 0 ≤ (c - 48) % 256 := Int.emod_nonneg _ (by decide)
          have d2 : (c - 48) % 256 < 256 := Int.emod_lt_of_pos _ (by decide)
          generalize hd : (c - 48) % 256 = d at *
          have hn : wrap64 (wrap64 (10 * n) + d) = 10 * n + d := by
            rw [show wrap64 (10 * n) = 10 * n by unfold wrap64; omega]
            unfold wrap64
            omega
          refine ⟨i + 1, 10 * n + d, by omega, by rw [hn], by rw [w1 i (by omega)], ⟨by omega, by omega, ?_⟩, trivial⟩
          have e : (((lst t).getD i 0).toNat : Int) = c := HC.out.symm
          have h5 := h1.2.2
          rw [drop_cons (i := i) (by rw [lst_len]; exact h3.2), numD, e, hd, if_neg (by omega)] at h5
          exact h5
      · have q1 : ((4611686018427387904 - (c - 48) % 256) / 10 < n) = True := eq_true (by omega)
        have q2 : decide ((4611686018427387904 - (c - 48) % 256) / 10 < n) = true := decide_eq_true (by omega)
        have HQ := Aside0.mk hq
        clear hq hlt
        go_wp2
        refine bodyPost_ret (v := .tuple #[.int .i64 0, .bool false]) (by simp [results, Tryd.results57, go_sem]) rfl ?_
        have h1 := H.out
        have h3 := HI.out
        have e : numD (lst t) 0 = none := by
          rw [← h1.2.2, drop_cons (by rw [lst_len]; exact h3.2), numD]
          have e : (((lst t).getD i 0).toNat : Int) = c := HC.out.symm
          have h2 := HQ.out
          rw [e, if_pos (by omega)]
        have e2 : num (lst s) = none := num_none HT.out e
        rw [e2]
        exact ⟨rfl, t, hW1.symm⟩
    · obtain rfl : i = t.size := by omega
      have e1 : ((t.size : Int) < (t.size : Int)) = False := eq_false (by omega)
      have h1 := H.out
      rw [List.drop_of_length_le (by rw [lst_len]; exact Nat.le_refl _), numD] at h1
      have H2 := Aside0.mk h1
      have e2 : num (lst s) = some (if g = true then -n else n) := num_some HT.out HG.out h1.2.2.symm
      have NV := Aside0.mk e2
      clear h1 e2 hlt hi
      cases g with
      | false =>
        go_wp2
        refine bodyPost_ret (v := .tuple #[.int .i64 n, .bool true]) (by simp [results, Tryd.results57, go_sem]) rfl ?_
        rw [NV.out]
        exact ⟨rfl, t, hW1.symm⟩
      | true =>
        go_wp2
        refine bodyPost_ret (v := .tuple #[.int .i64 (wrap64 (-n)), .bool true]) (by simp [results, Tryd.results57, go_sem]) rfl ?_
        rw [NV.out]
        refine ⟨?_, t, hW1.symm⟩
        have h1 := H2.out
        have hn : wrap64 (-n) = -n := by unfold wrap64; omega
        first | rfl | (rw [hn]; rfl)
end Go.Proofs.YtkkmgahgejjhgaaDoor.Lex
