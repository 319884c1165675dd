/- The reference's Parse: its contract. -/
import Derived.Test.YtfbjdfgadhlhlaaRefB
namespace Go.Proofs.Ytfbjdfgadhlhlaa.P
open Go.RowKit Go.Proofs.YtfbjdfgadhlhlaaW.PrintWords Go.Proofs.YtfbjdfgadhlhlaaW.PrintLast Go.Proofs.YtfbjdfgadhlhlaaW.PrintMore
set_option linter.unusedVariables false
set_option linter.unusedSimpArgs false
set_option maxHeartbeats 4000000

theorem pTerm_cut_eq (f : Nat) {B : List Int} {p : Nat} {n : Int} (h : n ≤ 2999) (h2 : B.length < p + 10) : pTerm B (f + 1) p n = (⟨0, 0, []⟩, p, n + 1, 2) := by
  have a6 : ¬ 3000 < n + 1 := by omega
  simp only [pTerm, if_neg a6, if_pos h2]
theorem pTerm_full_eq (f : Nat) {B : List Int} {p : Nat} {n : Int} (h : 2999 < n) : pTerm B (f + 1) p n = (⟨0, 0, []⟩, p, n + 1, 5) := by
  have a6 : 3000 < n + 1 := by omega
  simp only [pTerm, if_pos a6]
theorem pterm_any {B : List Int} (hx : ∀ x ∈ B, 0 ≤ x ∧ x ≤ 255) : ∀ f : Nat, PCON B f
  | 0 => by
    intro h hB hg hp hd hd0 hn0 hn
    refine (pterm_err h hB hg hn0 hn hd0 (by omega) (by omega)).mono fun en w' hh => ?_
    exact ⟨_, hh.1, Kd.R_nil _ _ _ _ _, hh.2⟩
  | f + 1 => by
    intro h hB hg hp hd hd0 hn0 hn
    rename_i W w g p n d
    by_cases h1 : n ≤ 2999
    · by_cases h2 : p + 10 ≤ B.length
      · exact pterm_some f (pterm_any hx f) h hB hg hx hp (by omega) hd0 hn0 h1 h2
      · rw [pTerm_cut_eq f (by omega) (by omega)]
        refine (pterm_cut h hB hg hn0 h1 hd0 (by omega) hp (by omega)).mono fun en w' hh => ?_
        exact ⟨_, hh.1, Kd.R_nil _ _ _ _ _, hh.2⟩
    · rw [pTerm_full_eq f (by omega)]
      refine (pterm_err h hB hg hn0 hn hd0 (by omega) (by omega)).mono fun en w' hh => ?_
      exact ⟨_, hh.1, Kd.R_nil _ _ _ _ _, hh.2⟩
theorem pparse_bad {f : Nat} (hf : f = 120) {w : World} {A : Option Addr} {c : Nat} {l : List Int} (hr : Kd.C (Kd.int .u8) w A l.length l) (hc : l.length ≤ c) (hx : ∀ x ∈ l, 0 ≤ x ∧ x ≤ 255)
    {l' : Nat} {e' : Int} (hl : (pTerm l f 0 0).2.1 = l') (he : (pTerm l f 0 0).2.2.2 = e') (hcase : e' ≠ 0 ∨ (e' = 0 ∧ l' < l.length)) :
    Calls Try.prog 17 #[.slice A l.length c] w fun e w' => e = .returned (.tuple #[.agg #[.int .i64 0, .int .i64 0, .slice none 0 0], .int .i64 (if e' = 0 then 3 else e')]) ∧ Below w.heap.size w w' := by
  have HF := Aside0.mk hf
  clear hf
  have HC := Aside0.mk hc
  have HR := Aside0.mk hr
  have HX := Aside0.mk hx
  have HL := Aside0.mk hl
  have HE := Aside0.mk he
  clear hc hr hx hl he
  have hu61 := Try.underlying61
  have hu29 := Try.underlying29
  rcases hcase with h | ⟨h, hp⟩
  · have h1 : (e' == 0) = false := by simpa using h
    have h2 : (e' != 0) = true := by simpa using h
    have HH : Aside0 ((if e' = 0 then 3 else e') = e') := ⟨if_neg h⟩
    rw [HH.out]
    clear h HH
    go_enter Try.func17, Try.ntmps17
    go_wp2_with (first | ((with_reducible refine gate_dst (N := 2) rfl ?_); refine box_event ?hg (N := 2) ?hd (cs := #[.int .i64 0, .int .i64 0, .slice none 0 0]) (t := 29) ?hr ?_; (case hd => rfl); (case hg => rfl); (case hr => first | (go_simp; done) | (go_simp; rfl)); intro g2 hg2 w2 hbox hb2; have K2 := Aside0.mk hbox; have B2 := Aside0.mk hb2; have G2 := Aside0.mk hg2; clear hbox hb2 hg2) | ((with_reducible refine gate_dst (N := 8) rfl ?_); refine box_event ?hg (N := 8) ?hd (cs := #[.slice A l.length c, .int .i64 0, .int .i64 0, .int .i64 0]) (t := 61) ?hr ?_; (case hd => rfl); (case hg => rfl); (case hr => first | (go_simp; done) | (go_simp; rfl)); intro g hg w3 hbox hb3; have R3 : Aside0 (PD w w3 g l 0 0 0) := ⟨⟨A, c, hbox, HC.out, HR.out⟩⟩; have K3 := Aside0.mk (blk_below K2.out hb3); have B3 := Aside0.mk (B2.out.trans (hb3.mono B2.out.size)); have G3 := Aside0.mk hg; have N3 : Aside0 (g2 ≠ g) := ⟨by have := blk_lt K2.out; omega⟩; have S2 := Aside0.mk B2.out.size; clear hbox hb3 hg K2 B2) | (go_at_call 27; refine (pterm_any HX.out f R3.out B3.out (by rw [G3.out]; exact S2.out) (Nat.zero_le _) (by have := HF.out; omega) (by omega) (by omega) (by omega)).mono ?_; rintro en w4 ⟨v4, rfl, hR, hRD, hK, hB⟩; obtain ⟨Ac, cc, ec⟩ := Kd.R_slice hR; subst ec; have O4 := Aside0.mk hR; rw [HL.out, HE.out] at hRD; obtain ⟨A5, c5, r1, r2, r3⟩ := hRD; have K4 := Aside0.mk (keep_blk hK K3.out N3.out); have B4 := Aside0.mk hB; have Z4 := Aside0.mk hK.1; have U3 := Aside0.mk (PD.lt R3.out); have R1 := Aside0.mk r1; clear hR r1 r2 r3 hK hB R3 K3) | ((with_reducible refine gate_dst (N := 5) rfl ?_); refine box_event ?hg (N := 5) ?hd (cs := #[.int .i64 0, .int .i64 0, .slice none 0 0]) (t := 29) ?hr ?_; (case hd => rfl); (case hg => rfl); (case hr => first | (go_simp; done) | (go_simp; rfl)); intro g5 hg5 w5 hbox hb5; have R5 := Aside0.mk (blk_below R1.out hb5); have L5 := Aside0.mk hbox; have K5 := Aside0.mk (blk_below K4.out hb5); have G5 := Aside0.mk hg5; have ne1 : g ≠ g5 := (by have := blk_lt R1.out; omega); have ne2 : g5 ≠ g := Ne.symm ne1; have ne3 : g2 ≠ g5 := (by have := blk_lt K4.out; omega); have ne4 : g5 ≠ g2 := Ne.symm ne3; have ne5 := N3.out; have ne6 := Ne.symm N3.out; have O5 := Aside0.mk (Kd.R_below O4.out hb5); have B5 := Aside0.mk (B4.out.trans (hb5.mono B4.out.size)); have e0 : w5.cell? ⟨g, 0, none⟩ = some (.slice A5 l.length c5) := (blk_cell R5.out 0).trans rfl; have e1p : w5.cell? ⟨g, 1, none⟩ = some (.int .i64 l') := (blk_cell R5.out 1).trans rfl; have e2 : w5.cell? ⟨g, 3, none⟩ = some (.int .i64 e') := (blk_cell R5.out 3).trans rfl; have f2 := blk_frozen R5.out 3; have d0 : w5.cell? ⟨g5, 0, none⟩ = some (.int .i64 0) := (blk_cell L5.out 0).trans rfl; have d1 : w5.cell? ⟨g5, 1, none⟩ = some (.int .i64 0) := (blk_cell L5.out 1).trans rfl; have d2 : w5.cell? ⟨g5, 2, none⟩ = some (.slice none 0 0) := (blk_cell L5.out 2).trans rfl; have fd0 := blk_frozen L5.out 0; have fd1 := blk_frozen L5.out 1; have fd2 := blk_frozen L5.out 2; have k0 : w5.cell? ⟨g2, 0, none⟩ = some (.int .i64 0) := (blk_cell K5.out 0).trans rfl; have k1 : w5.cell? ⟨g2, 1, none⟩ = some (.int .i64 0) := (blk_cell K5.out 1).trans rfl; have k2 : w5.cell? ⟨g2, 2, none⟩ = some (.slice none 0 0) := (blk_cell K5.out 2).trans rfl; have kf0 := blk_frozen K5.out 0; have kf1 := blk_frozen K5.out 1; have kf2 := blk_frozen K5.out 2; clear hbox hb5 hg5) | fail)
    generalize hw6 : World.setCell (World.setCell (World.setCell w5 ⟨g5, 0, none⟩ _) ⟨g5, 1, none⟩ _) ⟨g5, 2, none⟩ _ = w6
    have W2 : w.heap.size ≤ g2 := by rw [G2.out]; exact Nat.le_refl _
    have WW5 : w.heap.size ≤ g5 := by rw [G5.out]; exact B4.out.size
    have WG : w.heap.size ≤ g := by rw [G3.out]; exact S2.out
    have B6 := Aside0.mk (show Below w.heap.size w w6 by rw [← hw6]; exact below_set (below_set (below_set B5.out WW5) WW5) WW5)
    have K6 := Aside0.mk (show w6.heap[g2]? = some (.cells #[.int .i64 0, .int .i64 0, .slice none 0 0] 29 (0, 0)) by rw [← hw6]; exact blk_far (blk_far (blk_far K5.out ne3 _) ne3 _) ne3 _)
    have R6 := Aside0.mk (show w6.heap[g]? = some (.cells #[.slice A5 l.length c5, .int .i64 l', .int .i64 _, .int .i64 e'] 61 (0, 0)) by rw [← hw6]; exact blk_far (blk_far (blk_far R5.out ne1 _) ne1 _) ne1 _)
    clear hw6 e0 e1p e2 f2 d0 d1 d2 fd0 fd1 fd2 k0 k1 k2 kf0 kf1 kf2
    have e2 : w6.cell? ⟨g, 3, none⟩ = some (.int .i64 e') := (blk_cell R6.out 3).trans rfl
    have k0 : w6.cell? ⟨g2, 0, none⟩ = some (.int .i64 0) := (blk_cell K6.out 0).trans rfl
    have k1 : w6.cell? ⟨g2, 1, none⟩ = some (.int .i64 0) := (blk_cell K6.out 1).trans rfl
    have k2 : w6.cell? ⟨g2, 2, none⟩ = some (.slice none 0 0) := (blk_cell K6.out 2).trans rfl
    have kf0 := blk_frozen K6.out 0
    have kf1 := blk_frozen K6.out 1
    have kf2 := blk_frozen K6.out 2
    have e2d : w6.drew.cell? ⟨g, 3, none⟩ = some (.int .i64 e') := e2
    have K7 := Aside0.mk (blk_drew K6.out)
    have B7 := Aside0.mk (below_drew1 B6.out)
    clear k0 k1 k2 kf0 kf1 kf2 e2 K6 B6
    refine start_ (n := 7) (S := fun w' => w'.cell? ⟨g, 3, none⟩ = some (.int .i64 e')) (ds := []) #[false, false, false, false, false, false, false] (by kernel_rfl) rfl rfl e2d (fun hHeld => ?_)
    generalize w6.drew = w7 at K7 B7 e2d hHeld ⊢
    refine pure_ (i := 0) (N := some 33) (v := ?_) (a' := ?_) #[true, false, false, false, false, false, false] rfl rfl (by kernel_rfl) (fun _ _ _ h => h) (Or.inl ⟨by rfl, ?_⟩) ?_ ?_
    rotate_left
    · intro w'
      go_simp
      with_reducible rfl
    rotate_left
    · simp only [Act.put, List.setIfInBounds_toArray, List.set_cons_zero, List.set_cons_succ, i64_w, i32_w]
      rfl
    refine pure_ (i := 1) (N := some 34) (v := ?_) (a' := ?_) #[true, true, false, false, false, false, false] rfl rfl (by kernel_rfl) (fun _ _ _ h => h) (Or.inl ⟨by rfl, ?_⟩) ?_ ?_
    rotate_left
    · intro w'
      go_simp
      with_reducible rfl
    rotate_left
    · simp only [Act.put, List.setIfInBounds_toArray, List.set_cons_zero, List.set_cons_succ, i64_w, i32_w]
      rfl
    refine pure_ (i := 2) (N := some 35) (v := ?_) (a' := ?_) #[true, true, true, false, false, false, false] rfl rfl (by kernel_rfl) (fun _ _ _ h => h) (Or.inl ⟨by rfl, ?_⟩) ?_ ?_
    rotate_left
    · intro w'
      go_simp
      with_reducible rfl
    rotate_left
    · simp only [Act.put, List.setIfInBounds_toArray, List.set_cons_zero, List.set_cons_succ, i64_w, i32_w]
      rfl
    refine pure_ (i := 3) (N := some 36) (v := ?_) (a' := ?_) #[true, true, true, true, false, false, false] rfl rfl (by kernel_rfl) (fun _ _ _ h => h) (Or.inl ⟨by rfl, ?_⟩) ?_ ?_
    rotate_left
    · intro w'
      go_simp
      with_reducible rfl
    rotate_left
    · simp only [Act.put, List.setIfInBounds_toArray, List.set_cons_zero, List.set_cons_succ, i64_w, i32_w]
      rfl
    refine take_ (i := 4) (N := some 37) (v := ?_) (a' := ?_) #[true, true, true, true, true, false, false] rfl rfl (by kernel_rfl) (fun _ _ _ h => h) (Or.inl ⟨by rfl, ?_⟩) hHeld ?_ ?_
    rotate_left
    · intro w' s0
      go_simp
      with_reducible rfl
    rotate_left
    · simp only [Act.put, List.setIfInBounds_toArray, List.set_cons_zero, List.set_cons_succ, i64_w, i32_w]
      rfl
    refine one_ (i := 5) (N := none) #[true, true, true, true, true, true, false] rfl rfl (by kernel_rfl) (by decide) (fun K hK => ?_)
    have k0 : w7.cell? ⟨g2, 0, none⟩ = some (.int .i64 0) := (blk_cell K7.out 0).trans rfl
    have k1 : w7.cell? ⟨g2, 1, none⟩ = some (.int .i64 0) := (blk_cell K7.out 1).trans rfl
    have k2 : w7.cell? ⟨g2, 2, none⟩ = some (.slice none 0 0) := (blk_cell K7.out 2).trans rfl
    have kf0 := blk_frozen K7.out 0
    have kf1 := blk_frozen K7.out 1
    have kf2 := blk_frozen K7.out 2
    refine skip_ (w1 := ?_) (by rfl) rfl ?_ ?_
    rotate_left
    · go_simp
      rfl
    refine hK.out _ _ ((cell_far (p := ⟨g2, _, none⟩) (Ne.symm N3.out) _).trans ((cell_far (p := ⟨g2, _, none⟩) (Ne.symm N3.out) _).trans ((cell_far (p := ⟨g2, _, none⟩) (Ne.symm N3.out) _).trans hHeld))) (fun hHeld => ?_)
    clear hK K
    refine pure_ (i := 6) (N := some 3) (v := ?_) (a' := ?_) #[true, true, true, true, true, true, true] rfl rfl (by kernel_rfl) (fun _ _ _ h => h) (Or.inl ⟨by rfl, ?_⟩) ?_ ?_
    rotate_left
    · intro w'
      go_simp
      with_reducible rfl
    rotate_left
    · simp only [Act.put, List.setIfInBounds_toArray, List.set_cons_zero, List.set_cons_succ, i64_w, i32_w]
      rfl
    refine done_ (by kernel_rfl) ?_
    clear k0 k1 k2 kf0 kf1 kf2 e2d hHeld
    go_wp2
    have K8 := Aside0.mk (blk_put (blk_put (blk_put K7.out 0 (.int .i64 0) rfl) 1 (.int .i64 0) rfl) 2 (.slice none 0 0) rfl)
    have m0 := (blk_cell K8.out 0).trans rfl
    have m1 := (blk_cell K8.out 1).trans rfl
    have m2 := (blk_cell K8.out 2).trans rfl
    have hu29b := Try.underlying29
    refine bodyPost_ret (v := .tuple #[.agg #[.int .i64 0, .int .i64 0, .slice none 0 0], .int .i64 e']) (by simp [results, Try.results17, go_sem, hu29b, m0, m1, m2]) rfl ⟨rfl, ?_⟩
    exact below_set (below_set (below_set B7.out W2) W2) W2
  · have HH : Aside0 ((if e' = 0 then 3 else e') = 3) := ⟨if_pos h⟩
    rw [HH.out]
    subst h
    clear HH
    have hp1 : decide (l' < l.length) = true := decide_eq_true hp
    have hp2 : decide ((l' : Int) < (l.length : Int)) = true := decide_eq_true (by omega)
    go_enter Try.func17, Try.ntmps17
    go_wp2_with (first | ((with_reducible refine gate_dst (N := 2) rfl ?_); refine box_event ?hg (N := 2) ?hd (cs := #[.int .i64 0, .int .i64 0, .slice none 0 0]) (t := 29) ?hr ?_; (case hd => rfl); (case hg => rfl); (case hr => first | (go_simp; done) | (go_simp; rfl)); intro g2 hg2 w2 hbox hb2; have K2 := Aside0.mk hbox; have B2 := Aside0.mk hb2; have G2 := Aside0.mk hg2; clear hbox hb2 hg2) | ((with_reducible refine gate_dst (N := 8) rfl ?_); refine box_event ?hg (N := 8) ?hd (cs := #[.slice A l.length c, .int .i64 0, .int .i64 0, .int .i64 0]) (t := 61) ?hr ?_; (case hd => rfl); (case hg => rfl); (case hr => first | (go_simp; done) | (go_simp; rfl)); intro g hg w3 hbox hb3; have R3 : Aside0 (PD w w3 g l 0 0 0) := ⟨⟨A, c, hbox, HC.out, HR.out⟩⟩; have K3 := Aside0.mk (blk_below K2.out hb3); have B3 := Aside0.mk (B2.out.trans (hb3.mono B2.out.size)); have G3 := Aside0.mk hg; have N3 : Aside0 (g2 ≠ g) := ⟨by have := blk_lt K2.out; omega⟩; have S2 := Aside0.mk B2.out.size; clear hbox hb3 hg K2 B2) | (go_at_call 27; refine (pterm_any HX.out f R3.out B3.out (by rw [G3.out]; exact S2.out) (Nat.zero_le _) (by have := HF.out; omega) (by omega) (by omega) (by omega)).mono ?_; rintro en w4 ⟨v4, rfl, hR, hRD, hK, hB⟩; obtain ⟨Ac, cc, ec⟩ := Kd.R_slice hR; subst ec; have O4 := Aside0.mk hR; rw [HL.out, HE.out] at hRD; obtain ⟨A5, c5, r1, r2, r3⟩ := hRD; have K4 := Aside0.mk (keep_blk hK K3.out N3.out); have B4 := Aside0.mk hB; have Z4 := Aside0.mk hK.1; have U3 := Aside0.mk (PD.lt R3.out); have R1 := Aside0.mk r1; clear hR r1 r2 r3 hK hB R3 K3) | ((with_reducible refine gate_dst (N := 5) rfl ?_); refine box_event ?hg (N := 5) ?hd (cs := #[.int .i64 0, .int .i64 0, .slice none 0 0]) (t := 29) ?hr ?_; (case hd => rfl); (case hg => rfl); (case hr => first | (go_simp; done) | (go_simp; rfl)); intro g5 hg5 w5 hbox hb5; have R5 := Aside0.mk (blk_below R1.out hb5); have L5 := Aside0.mk hbox; have K5 := Aside0.mk (blk_below K4.out hb5); have G5 := Aside0.mk hg5; have ne1 : g ≠ g5 := (by have := blk_lt R1.out; omega); have ne2 : g5 ≠ g := Ne.symm ne1; have ne3 : g2 ≠ g5 := (by have := blk_lt K4.out; omega); have ne4 : g5 ≠ g2 := Ne.symm ne3; have ne5 := N3.out; have ne6 := Ne.symm N3.out; have O5 := Aside0.mk (Kd.R_below O4.out hb5); have B5 := Aside0.mk (B4.out.trans (hb5.mono B4.out.size)); have e0 : w5.cell? ⟨g, 0, none⟩ = some (.slice A5 l.length c5) := (blk_cell R5.out 0).trans rfl; have e1p : w5.cell? ⟨g, 1, none⟩ = some (.int .i64 l') := (blk_cell R5.out 1).trans rfl; have e2 : w5.cell? ⟨g, 3, none⟩ = some (.int .i64 0) := (blk_cell R5.out 3).trans rfl; have f2 := blk_frozen R5.out 3; have d0 : w5.cell? ⟨g5, 0, none⟩ = some (.int .i64 0) := (blk_cell L5.out 0).trans rfl; have d1 : w5.cell? ⟨g5, 1, none⟩ = some (.int .i64 0) := (blk_cell L5.out 1).trans rfl; have d2 : w5.cell? ⟨g5, 2, none⟩ = some (.slice none 0 0) := (blk_cell L5.out 2).trans rfl; have fd0 := blk_frozen L5.out 0; have fd1 := blk_frozen L5.out 1; have fd2 := blk_frozen L5.out 2; have k0 : w5.cell? ⟨g2, 0, none⟩ = some (.int .i64 0) := (blk_cell K5.out 0).trans rfl; have k1 : w5.cell? ⟨g2, 1, none⟩ = some (.int .i64 0) := (blk_cell K5.out 1).trans rfl; have k2 : w5.cell? ⟨g2, 2, none⟩ = some (.slice none 0 0) := (blk_cell K5.out 2).trans rfl; have kf0 := blk_frozen K5.out 0; have kf1 := blk_frozen K5.out 1; have kf2 := blk_frozen K5.out 2; clear hbox hb5 hg5) | fail)
    generalize hw6 : World.setCell (World.setCell (World.setCell (World.setCell w5 ⟨g5, 0, none⟩ _) ⟨g5, 1, none⟩ _) ⟨g5, 2, none⟩ _) ⟨g, 3, none⟩ _ = w6
    have W2 : w.heap.size ≤ g2 := by rw [G2.out]; exact Nat.le_refl _
    have WW5 : w.heap.size ≤ g5 := by rw [G5.out]; exact B4.out.size
    have WG : w.heap.size ≤ g := by rw [G3.out]; exact S2.out
    have B6 := Aside0.mk (show Below w.heap.size w w6 by rw [← hw6]; exact below_set (below_set (below_set (below_set B5.out WW5) WW5) WW5) WG)
    have K6 := Aside0.mk (show w6.heap[g2]? = some (.cells #[.int .i64 0, .int .i64 0, .slice none 0 0] 29 (0, 0)) by rw [← hw6]; exact blk_far (blk_far (blk_far (blk_far K5.out ne3 _) ne3 _) ne3 _) ne5 _)
    have R6 := Aside0.mk (show w6.heap[g]? = some (.cells #[.slice A5 l.length c5, .int .i64 l', .int .i64 _, .int .i64 3] 61 (0, 0)) by rw [← hw6]; exact blk_put (blk_far (blk_far (blk_far R5.out ne1 _) ne1 _) ne1 _) 3 _ rfl)
    clear hw6 e0 e1p e2 f2 d0 d1 d2 fd0 fd1 fd2 k0 k1 k2 kf0 kf1 kf2
    have e2 : w6.cell? ⟨g, 3, none⟩ = some (.int .i64 3) := (blk_cell R6.out 3).trans rfl
    have k0 : w6.cell? ⟨g2, 0, none⟩ = some (.int .i64 0) := (blk_cell K6.out 0).trans rfl
    have k1 : w6.cell? ⟨g2, 1, none⟩ = some (.int .i64 0) := (blk_cell K6.out 1).trans rfl
    have k2 : w6.cell? ⟨g2, 2, none⟩ = some (.slice none 0 0) := (blk_cell K6.out 2).trans rfl
    have kf0 := blk_frozen K6.out 0
    have kf1 := blk_frozen K6.out 1
    have kf2 := blk_frozen K6.out 2
    have e2d : w6.drew.cell? ⟨g, 3, none⟩ = some (.int .i64 3) := e2
    have K7 := Aside0.mk (blk_drew K6.out)
    have B7 := Aside0.mk (below_drew1 B6.out)
    clear k0 k1 k2 kf0 kf1 kf2 e2 K6 B6
    refine start_ (n := 7) (S := fun w' => w'.cell? ⟨g, 3, none⟩ = some (.int .i64 3)) (ds := []) #[false, false, false, false, false, false, false] (by kernel_rfl) rfl rfl e2d (fun hHeld => ?_)
    generalize w6.drew = w7 at K7 B7 e2d hHeld ⊢
    refine pure_ (i := 0) (N := some 33) (v := ?_) (a' := ?_) #[true, false, false, false, false, false, false] rfl rfl (by kernel_rfl) (fun _ _ _ h => h) (Or.inl ⟨by rfl, ?_⟩) ?_ ?_
    rotate_left
    · intro w'
      go_simp
      with_reducible rfl
    rotate_left
    · simp only [Act.put, List.setIfInBounds_toArray, List.set_cons_zero, List.set_cons_succ, i64_w, i32_w]
      rfl
    refine pure_ (i := 1) (N := some 34) (v := ?_) (a' := ?_) #[true, true, false, false, false, false, false] rfl rfl (by kernel_rfl) (fun _ _ _ h => h) (Or.inl ⟨by rfl, ?_⟩) ?_ ?_
    rotate_left
    · intro w'
      go_simp
      with_reducible rfl
    rotate_left
    · simp only [Act.put, List.setIfInBounds_toArray, List.set_cons_zero, List.set_cons_succ, i64_w, i32_w]
      rfl
    refine pure_ (i := 2) (N := some 35) (v := ?_) (a' := ?_) #[true, true, true, false, false, false, false] rfl rfl (by kernel_rfl) (fun _ _ _ h => h) (Or.inl ⟨by rfl, ?_⟩) ?_ ?_
    rotate_left
    · intro w'
      go_simp
      with_reducible rfl
    rotate_left
    · simp only [Act.put, List.setIfInBounds_toArray, List.set_cons_zero, List.set_cons_succ, i64_w, i32_w]
      rfl
    refine pure_ (i := 3) (N := some 36) (v := ?_) (a' := ?_) #[true, true, true, true, false, false, false] rfl rfl (by kernel_rfl) (fun _ _ _ h => h) (Or.inl ⟨by rfl, ?_⟩) ?_ ?_
    rotate_left
    · intro w'
      go_simp
      with_reducible rfl
    rotate_left
    · simp only [Act.put, List.setIfInBounds_toArray, List.set_cons_zero, List.set_cons_succ, i64_w, i32_w]
      rfl
    refine take_ (i := 4) (N := some 37) (v := ?_) (a' := ?_) #[true, true, true, true, true, false, false] rfl rfl (by kernel_rfl) (fun _ _ _ h => h) (Or.inl ⟨by rfl, ?_⟩) hHeld ?_ ?_
    rotate_left
    · intro w' s0
      go_simp
      with_reducible rfl
    rotate_left
    · simp only [Act.put, List.setIfInBounds_toArray, List.set_cons_zero, List.set_cons_succ, i64_w, i32_w]
      rfl
    refine one_ (i := 5) (N := none) #[true, true, true, true, true, true, false] rfl rfl (by kernel_rfl) (by decide) (fun K hK => ?_)
    have k0 : w7.cell? ⟨g2, 0, none⟩ = some (.int .i64 0) := (blk_cell K7.out 0).trans rfl
    have k1 : w7.cell? ⟨g2, 1, none⟩ = some (.int .i64 0) := (blk_cell K7.out 1).trans rfl
    have k2 : w7.cell? ⟨g2, 2, none⟩ = some (.slice none 0 0) := (blk_cell K7.out 2).trans rfl
    have kf0 := blk_frozen K7.out 0
    have kf1 := blk_frozen K7.out 1
    have kf2 := blk_frozen K7.out 2
    refine skip_ (w1 := ?_) (by rfl) rfl ?_ ?_
    rotate_left
    · go_simp
      rfl
    refine hK.out _ _ ((cell_far (p := ⟨g2, _, none⟩) (Ne.symm N3.out) _).trans ((cell_far (p := ⟨g2, _, none⟩) (Ne.symm N3.out) _).trans ((cell_far (p := ⟨g2, _, none⟩) (Ne.symm N3.out) _).trans hHeld))) (fun hHeld => ?_)
    clear hK K
    refine pure_ (i := 6) (N := some 3) (v := ?_) (a' := ?_) #[true, true, true, true, true, true, true] rfl rfl (by kernel_rfl) (fun _ _ _ h => h) (Or.inl ⟨by rfl, ?_⟩) ?_ ?_
    rotate_left
    · intro w'
      go_simp
      with_reducible rfl
    rotate_left
    · simp only [Act.put, List.setIfInBounds_toArray, List.set_cons_zero, List.set_cons_succ, i64_w, i32_w]
      rfl
    refine done_ (by kernel_rfl) ?_
    clear k0 k1 k2 kf0 kf1 kf2 e2d hHeld
    go_wp2
    have K8 := Aside0.mk (blk_put (blk_put (blk_put K7.out 0 (.int .i64 0) rfl) 1 (.int .i64 0) rfl) 2 (.slice none 0 0) rfl)
    have m0 := (blk_cell K8.out 0).trans rfl
    have m1 := (blk_cell K8.out 1).trans rfl
    have m2 := (blk_cell K8.out 2).trans rfl
    have hu29b := Try.underlying29
    refine bodyPost_ret (v := .tuple #[.agg #[.int .i64 0, .int .i64 0, .slice none 0 0], .int .i64 3]) (by simp [results, Try.results17, go_sem, hu29b, m0, m1, m2]) rfl ⟨rfl, ?_⟩
    exact below_set (below_set (below_set B7.out W2) W2) W2

theorem pparse_good {f : Nat} (hf : f = 120) {w : World} {A : Option Addr} {c : Nat} {l : List Int} (hr : Kd.C (Kd.int .u8) w A l.length l) (hc : l.length ≤ c) (hx : ∀ x ∈ l, 0 ≤ x ∧ x ≤ 255)
    {l' : Nat} {e' : Int} (hl : (pTerm l f 0 0).2.1 = l') (he : (pTerm l f 0 0).2.2.2 = e') (hcase : e' = 0 ∧ ¬ l' < l.length) :
    Calls Try.prog 17 #[.slice A l.length c] w fun e w' => ∃ v2_ : Value, e = .returned (.tuple #[.agg #[.int .i64 (pTerm l f 0 0).1.f0, .int .i64 (pTerm l f 0 0).1.f1, v2_], .int .i64 0]) ∧ Kd.R k29 29 w' w.heap.size (fun _ => True) v2_ (pTerm l f 0 0).1.f2 ∧ Below w.heap.size w w' := by
  have HF := Aside0.mk hf
  clear hf
  have HC := Aside0.mk hc
  have HR := Aside0.mk hr
  have HX := Aside0.mk hx
  have HL := Aside0.mk hl
  have HE := Aside0.mk he
  clear hc hr hx hl he
  have hu61 := Try.underlying61
  have hu29 := Try.underlying29
  obtain ⟨h, hp⟩ := hcase
  subst h
  have hp1 : decide (l' < l.length) = false := decide_eq_false (by omega)
  have hp2 : decide ((l' : Int) < (l.length : Int)) = false := decide_eq_false (by omega)
  clear hp
  go_enter Try.func17, Try.ntmps17
  go_wp2_with (first | ((with_reducible refine gate_dst (N := 2) rfl ?_); refine box_event ?hg (N := 2) ?hd (cs := #[.int .i64 0, .int .i64 0, .slice none 0 0]) (t := 29) ?hr ?_; (case hd => rfl); (case hg => rfl); (case hr => first | (go_simp; done) | (go_simp; rfl)); intro g2 hg2 w2 hbox hb2; have K2 := Aside0.mk hbox; have B2 := Aside0.mk hb2; have G2 := Aside0.mk hg2; clear hbox hb2 hg2) | ((with_reducible refine gate_dst (N := 8) rfl ?_); refine box_event ?hg (N := 8) ?hd (cs := #[.slice A l.length c, .int .i64 0, .int .i64 0, .int .i64 0]) (t := 61) ?hr ?_; (case hd => rfl); (case hg => rfl); (case hr => first | (go_simp; done) | (go_simp; rfl)); intro g hg w3 hbox hb3; have R3 : Aside0 (PD w w3 g l 0 0 0) := ⟨⟨A, c, hbox, HC.out, HR.out⟩⟩; have K3 := Aside0.mk (blk_below K2.out hb3); have B3 := Aside0.mk (B2.out.trans (hb3.mono B2.out.size)); have G3 := Aside0.mk hg; have S23 := Aside0.mk (show w.heap.size ≤ w3.heap.size from B3.out.size); have T23 : Aside0 (g2 < w3.heap.size) := ⟨blk_lt K3.out⟩; have N3 : Aside0 (g2 ≠ g) := ⟨by have := blk_lt K2.out; omega⟩; have S2 := Aside0.mk B2.out.size; clear hbox hb3 hg K2 B2) | (go_at_call 27; refine (pterm_any HX.out f R3.out B3.out (by rw [G3.out]; exact S2.out) (Nat.zero_le _) (by have := HF.out; omega) (by omega) (by omega) (by omega)).mono ?_; rintro en w4 ⟨v4, rfl, hR, hRD, hK, hB⟩; obtain ⟨Ac, cc, ec⟩ := Kd.R_slice hR; subst ec; have O4 := Aside0.mk hR; rw [HL.out, HE.out] at hRD; obtain ⟨A5, c5, r1, r2, r3⟩ := hRD; have K4 := Aside0.mk (keep_blk hK K3.out N3.out); have B4 := Aside0.mk hB; have Z4 := Aside0.mk hK.1; have U3 := Aside0.mk (PD.lt R3.out); have R1 := Aside0.mk r1; clear hR r1 r2 r3 hK hB R3 K3) | ((with_reducible refine gate_dst (N := 5) rfl ?_); refine box_event ?hg (N := 5) ?hd (cs := #[.int .i64 0, .int .i64 0, .slice none 0 0]) (t := 29) ?hr ?_; (case hd => rfl); (case hg => rfl); (case hr => first | (go_simp; done) | (go_simp; rfl)); intro g5 hg5 w5 hbox hb5; have R5 := Aside0.mk (blk_below R1.out hb5); have L5 := Aside0.mk hbox; have K5 := Aside0.mk (blk_below K4.out hb5); have G5 := Aside0.mk hg5; have B45 := Aside0.mk hb5; have ne1 : g ≠ g5 := (by have := blk_lt R1.out; omega); have ne2 : g5 ≠ g := Ne.symm ne1; have ne3 : g2 ≠ g5 := (by have := blk_lt K4.out; omega); have ne4 : g5 ≠ g2 := Ne.symm ne3; have ne5 := N3.out; have ne6 := Ne.symm N3.out; have O5 := Aside0.mk (Kd.R_below O4.out hb5); have B5 := Aside0.mk (B4.out.trans (hb5.mono B4.out.size)); have e0 : w5.cell? ⟨g, 0, none⟩ = some (.slice A5 l.length c5) := (blk_cell R5.out 0).trans rfl; have e1p : w5.cell? ⟨g, 1, none⟩ = some (.int .i64 l') := (blk_cell R5.out 1).trans rfl; have e2 : w5.cell? ⟨g, 3, none⟩ = some (.int .i64 0) := (blk_cell R5.out 3).trans rfl; have f2 := blk_frozen R5.out 3; have d0 : w5.cell? ⟨g5, 0, none⟩ = some (.int .i64 0) := (blk_cell L5.out 0).trans rfl; have d1 : w5.cell? ⟨g5, 1, none⟩ = some (.int .i64 0) := (blk_cell L5.out 1).trans rfl; have d2 : w5.cell? ⟨g5, 2, none⟩ = some (.slice none 0 0) := (blk_cell L5.out 2).trans rfl; have fd0 := blk_frozen L5.out 0; have fd1 := blk_frozen L5.out 1; have fd2 := blk_frozen L5.out 2; have k0 : w5.cell? ⟨g2, 0, none⟩ = some (.int .i64 0) := (blk_cell K5.out 0).trans rfl; have k1 : w5.cell? ⟨g2, 1, none⟩ = some (.int .i64 0) := (blk_cell K5.out 1).trans rfl; have k2 : w5.cell? ⟨g2, 2, none⟩ = some (.slice none 0 0) := (blk_cell K5.out 2).trans rfl; have kf0 := blk_frozen K5.out 0; have kf1 := blk_frozen K5.out 1; have kf2 := blk_frozen K5.out 2; clear hbox hb5 hg5) | fail)
  have hu29b := Try.underlying29
  have W2 : w.heap.size ≤ g2 := by rw [G2.out]; exact Nat.le_refl _
  have WW5 : w.heap.size ≤ g5 := by rw [G5.out]; exact B4.out.size
  have q1 := Kd.R_mono (ok' := fun k => k ≠ g5 ∧ k ≠ g2) (Kd.R_bound O4.out) (fun k hk => by have h1 := hk.2.2.1; have h2 := G5.out; have h3 := hk.2.1; have h4 := T23.out; exact ⟨by omega, by omega⟩)
  have q2 := Kd.R_lower (Kd.R_below q1 (show Below w4.heap.size w4 w5 from B45.out)) S23.out
  have K6 := blk_far (blk_far (blk_far K5.out ne3 (.int .i64 (pTerm l f 0 0).1.f0) (p := ⟨g5, 0, none⟩)) ne3 (.int .i64 (pTerm l f 0 0).1.f1) (p := ⟨g5, 1, none⟩)) ne3 (.slice Ac (pTerm l f 0 0).1.f2.length cc) (p := ⟨g5, 2, none⟩)
  have K8 := Aside0.mk (blk_put (blk_put (blk_put K6 0 (.int .i64 (pTerm l f 0 0).1.f0) rfl) 1 (.int .i64 (pTerm l f 0 0).1.f1) rfl) 2 (.slice Ac (pTerm l f 0 0).1.f2.length cc) rfl)
  have m0 := (blk_cell K8.out 0).trans rfl
  have m1 := (blk_cell K8.out 1).trans rfl
  have m2 := (blk_cell K8.out 2).trans rfl
  refine bodyPost_ret (v := .tuple #[.agg #[.int .i64 (pTerm l f 0 0).1.f0, .int .i64 (pTerm l f 0 0).1.f1, .slice Ac (pTerm l f 0 0).1.f2.length cc], .int .i64 0]) (by simp [results, Try.results17, go_sem, hu29b, m0, m1, m2]) rfl ⟨_, rfl, ?_, ?_⟩
  · exact Kd.R_mono (Kd.R_far (p := ⟨g2, 2, none⟩) (Kd.R_far (p := ⟨g2, 1, none⟩) (Kd.R_far (p := ⟨g2, 0, none⟩) (Kd.R_far (p := ⟨g5, 2, none⟩) (Kd.R_far (p := ⟨g5, 1, none⟩) (Kd.R_far (p := ⟨g5, 0, none⟩) q2 (fun k hk => hk.1) _) (fun k hk => hk.1) _) (fun k hk => hk.1) _) (fun k hk => hk.2) _) (fun k hk => hk.2) _) (fun k hk => hk.2) _) (fun _ _ => trivial)
  · exact below_set (below_set (below_set (below_set (below_set (below_set B5.out WW5) WW5) WW5) W2) W2) W2


end Go.Proofs.Ytfbjdfgadhlhlaa.P
