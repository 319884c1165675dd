/- The contract of the reader's method term of package code, where a node is read. -/
import Derived.Test.YtfbjdfgadhlhlaaHandB
namespace Go.Proofs.Ytfbjdfgadhlhlaa.P
open Go.RowKit Go.Proofs.YtfbjdfgadhlhlaaW.PrintWords Go.Proofs.YtfbjdfgadhlhlaaW.PrintLast Go.Proofs.YtfbjdfgadhlhlaaW.PrintMore
set_option linter.unusedVariables false
set_option linter.unusedSimpArgs false

theorem RD.below {W w w' : World} {g : Nat} {l : List Int} {n e : Int} (h : RD W w g l n e) (hb : Below w.heap.size w w') : RD W w' g l n e := by
  obtain ⟨A, c, h1, h2, h3⟩ := h
  exact ⟨A, c, blk_below h1 hb, h2, h3⟩
theorem RD.far {W w : World} {g g' j : Nat} {u : Value} {l : List Int} {n e : Int} (h : RD W w g l n e) (hne : g ≠ g') : RD W (w.setCell ⟨g', j, none⟩ u) g l n e := by
  obtain ⟨A, c, h1, h2, h3⟩ := h
  exact ⟨A, c, blk_far h1 hne _, h2, h3⟩
theorem RD.lt {W w : World} {g : Nat} {l : List Int} {n e : Int} (h : RD W w g l n e) : g < w.heap.size := by
  obtain ⟨A, c, h1, _⟩ := h
  exact blk_lt h1
theorem keep_far {w w' : World} {g g' j : Nat} {u : Value} (h : KeepBut w w' g none) (hg : w.heap.size ≤ g') : KeepBut w (w'.setCell ⟨g', j, none⟩ u) g none := by
  refine ⟨by simpa [World.setCell] using h.1, fun i hi hne hr => ?_⟩
  have h6 : i ≠ g' := by omega
  rw [Below.heap_setCell _ _ _ _ h6]
  exact h.2 i hi hne hr
theorem keep_below {w w' w2 : World} {g : Nat} (h : KeepBut w w' g none) (hb : Below w'.heap.size w' w2) : KeepBut w w2 g none :=
  ⟨Nat.le_trans h.1 hb.size, fun i hi hne hr => (hb.block i (Nat.lt_of_lt_of_le hi h.1)).trans (h.2 i hi hne hr)⟩
theorem keep_blk {w w' : World} {g g' : Nat} {o : Obj} (h : KeepBut w w' g none) (hb : w.heap[g']? = some o) (hne : g' ≠ g) : w'.heap[g']? = some o :=
  (h.2 g' (blk_lt hb) hne (by simp)).trans hb
theorem rdByte_range {l : List Int} {e : Int} (hx : ∀ x ∈ l, 0 ≤ x ∧ x ≤ 255) : 0 ≤ (rdByte l e).1 ∧ (rdByte l e).1 ≤ 255 := by
  unfold rdByte
  split
  · split
    · simp
    · exact hx _ (by simp)
  · simp

theorem rdKids_inv (rec : List Int → Int → S29 × List Int × Int × Int)
    (hrec : ∀ l n, 0 ≤ n → n ≤ 3000 → (∀ x ∈ l, 0 ≤ x ∧ x ≤ 255) → (0 ≤ (rec l n).2.2.1 ∧ (rec l n).2.2.1 ≤ 3001 ∧ ((rec l n).2.2.2 = 0 → (rec l n).2.2.1 ≤ 3000)) ∧ (∀ x ∈ (rec l n).2.1, 0 ≤ x ∧ x ≤ 255)) :
    ∀ (m : Nat) (ks : List S29) (l : List Int) (n e : Int), 0 ≤ n → n ≤ 3001 → (e = 0 → n ≤ 3000) → (∀ x ∈ l, 0 ≤ x ∧ x ≤ 255) →
      (0 ≤ (rdKids rec m ks l n e).2.2.1 ∧ (rdKids rec m ks l n e).2.2.1 ≤ 3001 ∧ ((rdKids rec m ks l n e).2.2.2 = 0 → (rdKids rec m ks l n e).2.2.1 ≤ 3000)) ∧ (∀ x ∈ (rdKids rec m ks l n e).2.1, 0 ≤ x ∧ x ≤ 255)
  | 0, ks, l, n, e, h0, h1, h2, hx => ⟨⟨h0, h1, h2⟩, hx⟩
  | m + 1, ks, l, n, e, h0, h1, h2, hx => by
    unfold rdKids
    by_cases he : e = 0
    · rw [if_pos he]
      have hr := hrec l n h0 (h2 he) hx
      exact rdKids_inv rec hrec m _ _ _ _ hr.1.1 hr.1.2.1 hr.1.2.2 hr.2
    · rw [if_neg he]
      exact ⟨⟨h0, h1, h2⟩, hx⟩
theorem rdTerm_inv : ∀ (f : Nat) (l : List Int) (n : Int), 0 ≤ n → n ≤ 3000 → (∀ x ∈ l, 0 ≤ x ∧ x ≤ 255) →
    (0 ≤ (rdTerm f l n).2.2.1 ∧ (rdTerm f l n).2.2.1 ≤ 3001 ∧ ((rdTerm f l n).2.2.2 = 0 → (rdTerm f l n).2.2.1 ≤ 3000)) ∧ (∀ x ∈ (rdTerm f l n).2.1, 0 ≤ x ∧ x ≤ 255)
  | 0, l, n, h0, h1, hx => ⟨⟨by simp only [rdTerm]; omega, by simp only [rdTerm]; omega, by simp [rdTerm]⟩, hx⟩
  | f + 1, l, n, h0, h1, hx => by
    unfold rdTerm
    split
    · exact ⟨⟨by simp only []; omega, by simp only []; omega, by simp⟩, hx⟩
    · rename_i hn
      exact rdKids_inv (rdTerm f) (fun l n a b c => rdTerm_inv f l n a b c) _ _ _ _ _ (by omega) (by omega) (fun _ => by omega) (fun x h => hx x (rdByte_sub (rdNum_sub (rdByte_sub h))))

theorem term_some (f : Nat)
    (ih : ∀ {W w : World} {g : Nat} {l : List Int} {n d : Int}, RD W w g l n 0 → Below W.heap.size W w → W.heap.size ≤ g → (∀ x ∈ l, 0 ≤ x ∧ x ≤ 255) → d + f = 121 → 0 ≤ d → 0 ≤ n → n ≤ 3000 →
      Calls Try.prog 25 #[.pointer (some ⟨g, 0, none⟩), .int .i64 d] w fun en w' => ∃ v, en = .returned (.agg #[.int .i64 (rdTerm f l n).1.f0, .int .i64 (rdTerm f l n).1.f1, v]) ∧ Kd.R k29 29 w' w.heap.size (fun _ => True) v (rdTerm f l n).1.f2 ∧ RD W w' g (rdTerm f l n).2.1 (rdTerm f l n).2.2.1 (rdTerm f l n).2.2.2 ∧ KeepBut w w' g none ∧ Below W.heap.size W w')
    {W w : World} {g : Nat} {l : List Int} {n d : Int} (h : RD W w g l n 0) (hB : Below W.heap.size W w) (hg : W.heap.size ≤ g) (hx : ∀ x ∈ l, 0 ≤ x ∧ x ≤ 255) (hd : d + f = 120) (hd0 : 0 ≤ d) (hn0 : 0 ≤ n) (hn : n ≤ 2999) :
    Calls Try.prog 25 #[.pointer (some ⟨g, 0, none⟩), .int .i64 d] w fun en w' => ∃ v, en = .returned (.agg #[.int .i64 (rdTerm (f + 1) l n).1.f0, .int .i64 (rdTerm (f + 1) l n).1.f1, v]) ∧ Kd.R k29 29 w' w.heap.size (fun _ => True) v (rdTerm (f + 1) l n).1.f2 ∧ RD W w' g (rdTerm (f + 1) l n).2.1 (rdTerm (f + 1) l n).2.2.1 (rdTerm (f + 1) l n).2.2.2 ∧ KeepBut w w' g none ∧ Below W.heap.size W w' := by
  obtain ⟨A, c, hb, hc1, hr⟩ := h
  have HC := Aside0.mk hc1
  have HR := Aside0.mk hr
  have HG := Aside0.mk hg
  have HB := Aside0.mk hB
  have HK := Aside0.mk hb
  have HX := Aside0.mk hx
  have HD := Aside0.mk hd
  have IH := Aside0.mk @ih
  have hd9 : d ≤ 120 := by omega
  clear hc1 hr hg hB hb hx hd ih
  have hu56 := Try.underlying56
  have hu29 := Try.underlying29
  go_enter Try.func25, Try.ntmps25
  go_wp2_with (first | ((with_reducible refine gate_dst (N := 4) rfl ?_); refine box_event ?hg (N := 4) ?hd (cs := #[.int .i64 0, .int .i64 0, .slice none 0 0]) (t := 29) ?hr ?_; (case hd => rfl); (case hg => rfl); (case hr => first | (go_simp; done) | (go_simp; rfl)); intro g4 hg4 w3 hbox hb3; have K4 := Aside0.mk hbox; have KR := Aside0.mk (blk_below HK.out hb3); have B3 := Aside0.mk hb3; have G4 := Aside0.mk hg4; clear hbox hb3 hg4; have c0 : w3.cell? ⟨g, 0, none⟩ = some (.slice A l.length c) := (blk_cell KR.out 0).trans rfl; have c1 : w3.cell? ⟨g, 1, none⟩ = some (.int .i64 n) := (blk_cell KR.out 1).trans rfl; have c2 : w3.cell? ⟨g, 2, none⟩ = some (.int .i64 0) := (blk_cell KR.out 2).trans rfl; have f1 := blk_frozen KR.out 1; have f2 := blk_frozen KR.out 2) | fail)
  generalize hw4 : (World.setCell w3 ⟨g, 1, none⟩ _) = w4
  have hne : g ≠ g4 := by
    have h1 := blk_lt HK.out
    have h2 := G4.out
    omega
  have NE := Aside0.mk hne
  have W4 : Aside0 (w.heap.size ≤ g4) := ⟨by have h1 := G4.out; omega⟩
  have R4 : Aside0 (RD W w4 g l (n + 1) 0) := ⟨by rw [← hw4]; exact ⟨A, c, blk_put KR.out 1 _ rfl, HC.out, HR.out⟩⟩
  have K4' : Aside0 (w4.heap[g4]? = some (.cells #[.int .i64 0, .int .i64 0, .slice none 0 0] 29 (0, 0))) := ⟨by rw [← hw4]; exact blk_far K4.out (fun e => hne e.symm) _⟩
  have B4 : Aside0 (Below W.heap.size W w4) := ⟨by rw [← hw4]; exact below_set (HB.out.trans (B3.out.mono HB.out.size)) HG.out⟩
  have Q4 : Aside0 (KeepBut w w4 g none) := ⟨by rw [← hw4]; exact keepBut_trans ⟨B3.out.size, fun i hi _ _ => B3.out.block i hi⟩ keep_set⟩
  clear hw4 K4 KR c0 c1 c2 f1 f2 hne B3 HK HC HR
  have K4 := K4'
  clear K4'
  have hb0 := rdByte_range (e := 0) HX.out
  generalize hs1 : rdByte l 0 = s1 at hb0
  have X1 : Aside0 (∀ x ∈ s1.2.1, 0 ≤ x ∧ x ≤ 255) := ⟨fun x hx => HX.out x (by rw [← hs1] at hx; exact rdByte_sub hx)⟩
  have S1 := Aside0.mk hs1
  clear hs1
  obtain ⟨b0, b1⟩ := hb0
  go_wp2_with (first | (go_at_call 28; refine (byte_any R4.out B4.out HG.out HX.out).mono ?_; rintro en w5 ⟨rfl, h2, h3, h4⟩; rw [S1.out] at h2 ⊢; have R5 := Aside0.mk h2; have K5 := Aside0.mk (keep_blk h3 K4.out (Ne.symm NE.out)); have Q5 := Aside0.mk (keepBut_trans Q4.out h3); have B5 := Aside0.mk h4; clear h2 h3 h4 R4 K4 Q4 B4) | fail)
  generalize hs2 : rdNum s1.2.1 s1.2.2 8 = s2
  have X2 : Aside0 (∀ x ∈ s2.2.1, 0 ≤ x ∧ x ≤ 255) := ⟨fun x hx => X1.out x (by rw [← hs2] at hx; exact rdNum_sub hx)⟩
  have S2 := Aside0.mk hs2
  clear hs2
  go_wp2_with (first | (go_at_call 29; refine (number_any R5.out B5.out HG.out X1.out).mono ?_; rintro en w6 ⟨rfl, h2, h3, h4⟩; rw [S2.out] at h2 ⊢; have R6 := Aside0.mk h2; have K6 := Aside0.mk (keep_blk h3 K5.out (Ne.symm NE.out)); have Q6 := Aside0.mk (keepBut_trans Q5.out h3); have B6 := Aside0.mk h4; clear h2 h3 h4 R5 K5 Q5 B5) | ((with_reducible refine gate_dst (N := 5) rfl ?_); refine box_event ?hg (N := 5) ?hd (cs := #[.int .i64 0, .int .i64 0, .slice none 0 0]) (t := 29) ?hr ?_; (case hd => rfl); (case hg => rfl); (case hr => first | (go_simp; done) | (go_simp; rfl)); intro g5 hg5 w7 hbox hb7; have L7 := Aside0.mk hbox; have K7 := Aside0.mk (blk_below K6.out hb7); have R7 := Aside0.mk (RD.below R6.out hb7); have Q7 := Aside0.mk (keep_below Q6.out hb7); have B7 := Aside0.mk (B6.out.trans (hb7.mono B6.out.size)); have G5 := Aside0.mk hg5; have S6 := Aside0.mk (Q6.out.1); have T6 := Aside0.mk (blk_lt K6.out); have U6 := Aside0.mk (RD.lt R6.out); clear hbox hb7 hg5 R6 K6 Q6 B6; have d0 : w7.cell? ⟨g5, 0, none⟩ = some (.int .i64 0) := (blk_cell L7.out 0).trans rfl; have d1 : w7.cell? ⟨g5, 1, none⟩ = some (.int .i64 0) := (blk_cell L7.out 1).trans rfl; have d2 : w7.cell? ⟨g5, 2, none⟩ = some (.slice none 0 0) := (blk_cell L7.out 2).trans rfl; have fd0 := blk_frozen L7.out 0; have fd1 := blk_frozen L7.out 1; have fd2 := blk_frozen L7.out 2) | fail)
  generalize hw8 : (World.setCell (World.setCell (World.setCell w7 ⟨g5, 0, none⟩ (.int .i64 s1.1)) ⟨g5, 1, none⟩ (.int .i64 (wrap64 s2.1))) ⟨g5, 2, none⟩ (.slice none 0 0)) = w8
  have N5 : Aside0 (g ≠ g5) := ⟨by have h1 := U6.out; have h2 := G5.out; omega⟩
  have N45 : Aside0 (g4 ≠ g5) := ⟨by have h1 := T6.out; have h2 := G5.out; omega⟩
  have W5 : Aside0 (w.heap.size ≤ g5) := ⟨by have h1 := G5.out; have h2 := S6.out; omega⟩
  have WW5 : Aside0 (W.heap.size ≤ g5) := ⟨Nat.le_trans HB.out.size W5.out⟩
  have R8 : Aside0 (RD W w8 g s2.2.1 (n + 1) s2.2.2) := ⟨by rw [← hw8]; exact RD.far (RD.far (RD.far R7.out N5.out) N5.out) N5.out⟩
  have K8 : Aside0 (w8.heap[g4]? = some (.cells #[.int .i64 0, .int .i64 0, .slice none 0 0] 29 (0, 0))) := ⟨by rw [← hw8]; exact blk_far (blk_far (blk_far K7.out N45.out _) N45.out _) N45.out _⟩
  have L8 : Aside0 (w8.heap[g5]? = some (.cells #[.int .i64 s1.1, .int .i64 (wrap64 s2.1), .slice none 0 0] 29 (0, 0))) := ⟨by rw [← hw8]; exact blk_put (blk_put (blk_put L7.out 0 _ rfl) 1 _ rfl) 2 _ rfl⟩
  have B8 : Aside0 (Below W.heap.size W w8) := ⟨by rw [← hw8]; exact below_set (below_set (below_set B7.out WW5.out) WW5.out) WW5.out⟩
  have Q8 : Aside0 (KeepBut w w8 g none) := ⟨by rw [← hw8]; exact keep_far (keep_far (keep_far Q7.out W5.out) W5.out) W5.out⟩
  clear hw8 d0 d1 d2 fd0 fd1 fd2 R7 K7 L7 B7 Q7
  have hb0 := rdByte_range (e := s2.2.2) X2.out
  generalize hs3 : rdByte s2.2.1 s2.2.2 = s3 at hb0
  have X3 : Aside0 (∀ x ∈ s3.2.1, 0 ≤ x ∧ x ≤ 255) := ⟨fun x hx => X2.out x (by rw [← hs3] at hx; exact rdByte_sub hx)⟩
  have S3 := Aside0.mk hs3
  clear hs3
  obtain ⟨m, hm⟩ := Int.eq_ofNat_of_zero_le hb0.1
  have hm9 : m ≤ 255 := by omega
  have M := Aside0.mk hm
  clear hm hb0
  go_wp2_with (first | (go_at_call 28; refine (byte_any R8.out B8.out HG.out X2.out).mono ?_; rintro en w9 ⟨he, h2, h3, h4⟩; rw [S3.out] at he h2; rw [M.out] at he; subst he; have R9 := Aside0.mk h2; have K9 := Aside0.mk (keep_blk h3 K8.out (Ne.symm NE.out)); have L9 := Aside0.mk (keep_blk h3 L8.out (Ne.symm N5.out)); have Q9 := Aside0.mk (keepBut_trans Q8.out h3); have B9 := Aside0.mk h4; clear h2 h3 h4 R8 K8 L8 Q8 B8) | fail)
  generalize hkk : rdKids (rdTerm f) m [] s3.2.1 (n + 1) s3.2.2 = KK
  have KE := Aside0.mk hkk
  have KE0 := Aside0.mk hkk
  clear hkk
  go_loopw [40] (fun v40 w' => ∃ (i : Nat) (ks : List S29) (v : Value) (l' : List Int) (n' e' : Int), v40 = .int .u64 i ∧ i ≤ m ∧ Aside0 (rdKids (rdTerm f) (m - i) ks l' n' e' = KK) ∧ Aside0 (ks.length ≤ i) ∧ Aside0 (Kd.R k29 29 w' w.heap.size (fun k => k ≠ g ∧ k ≠ g4 ∧ k ≠ g5) v ks) ∧ Aside0 (w'.heap[g4]? = some (.cells #[.int .i64 0, .int .i64 0, .slice none 0 0] 29 (0, 0))) ∧ Aside0 (w'.heap[g5]? = some (.cells #[.int .i64 s1.1, .int .i64 (wrap64 s2.1), v] 29 (0, 0))) ∧ Aside0 (RD W w' g l' n' e') ∧ Aside0 (0 ≤ n' ∧ n' ≤ 3001 ∧ (e' = 0 → n' ≤ 3000)) ∧ Aside0 (∀ x ∈ l', 0 ≤ x ∧ x ≤ 255) ∧ Aside0 (KeepBut w w' g none) ∧ Aside0 (Below W.heap.size W w')) (fun v40 _ => m - (intOf v40).toNat)
  case atStart => exact ⟨0, [], .slice none 0 0, s3.2.1, n + 1, s3.2.2, rfl, by omega, KE, ⟨by simp⟩, ⟨Kd.R_nil _ _ _ _ _⟩, K9, L9, R9, ⟨by omega, by omega, fun _ => by omega⟩, X3, Q9, B9⟩
  case round =>
    clear K9 L9 R9 Q9 B9 KE
    obtain ⟨i, ks, v, l', n', e', rfl, hi, KE, KL, HO, K9, L9, R9, N9, X9, Q9, B9⟩ := hrel
    obtain ⟨A9, c9, r1, r2, r3⟩ := R9.out
    have e2 : wr.cell? ⟨g, 2, none⟩ = some (.int .i64 e') := (blk_cell r1 2).trans rfl
    clear r1 r2 r3
    have l0 : wr.cell? ⟨g5, 0, none⟩ = some (.int .i64 s1.1) := (blk_cell L9.out 0).trans rfl
    have l1 : wr.cell? ⟨g5, 1, none⟩ = some (.int .i64 (wrap64 s2.1)) := (blk_cell L9.out 1).trans rfl
    have l2 : wr.cell? ⟨g5, 2, none⟩ = some v := (blk_cell L9.out 2).trans rfl
    have k0 : wr.cell? ⟨g4, 0, none⟩ = some (.int .i64 0) := (blk_cell K9.out 0).trans rfl
    have k1 : wr.cell? ⟨g4, 1, none⟩ = some (.int .i64 0) := (blk_cell K9.out 1).trans rfl
    have k2 : wr.cell? ⟨g4, 2, none⟩ = some (.slice none 0 0) := (blk_cell K9.out 2).trans rfl
    have kf0 := blk_frozen K9.out 0
    have kf1 := blk_frozen K9.out 1
    have kf2 := blk_frozen K9.out 2
    obtain ⟨Av, cv, ev⟩ := Kd.R_slice HO.out
    subst ev
    by_cases hlt : i < m ∧ e' = 0
    · obtain ⟨hlt, rfl⟩ := hlt
      have l2f := blk_frozen L9.out 2
      go_wp2
      have HOd := Aside0.mk (Kd.R_drew HO.out)
      have K9d := Aside0.mk (blk_drew K9.out)
      have L9d := Aside0.mk (blk_drew L9.out)
      have R9d : Aside0 (RD W wr.drew g l' n' 0) := R9
      have Q9d : Aside0 (KeepBut w wr.drew g none) := Q9
      have B9d := Aside0.mk (below_drew1 B9.out)
      have l2d : wr.drew.cell? ⟨g5, 2, none⟩ = some (.slice Av ks.length cv) := l2
      clear HO K9 L9 R9 Q9 B9 l0 l1 l2 k0 k1 k2 kf0 kf1 kf2 e2 l2f
      refine start_ (n := 10) (S := fun w' => w'.cell? ⟨g5, 2, none⟩ = some (.slice Av ks.length cv)) (ds := [9]) #[false, false, false, false, false, false, false, false, false, false] (by kernel_rfl) rfl rfl l2d (fun hHeld => ?_)
      generalize wr.drew = w10 at HOd K9d L9d R9d Q9d B9d l2d hHeld ⊢
      refine pure_ (i := 0) (N := some 47) (v := ?_) (a' := ?_) #[true, false, false, false, false, false, false, false, false, false] rfl rfl (by kernel_rfl) (fun _ _ _ h => h) (Or.inl ⟨by rfl, ?_⟩) ?_ ?_
      rotate_left
      · intro w'
        go_simp
        with_reducible rfl
      rotate_left
      · simp only [Act.put, List.setIfInBounds_toArray, List.set_cons_zero, List.set_cons_succ, i64_w, i32_w]
        rfl
      refine pure_ (i := 2) (N := some 49) (v := ?_) (a' := ?_) #[true, false, true, false, false, false, false, false, false, false] rfl rfl (by kernel_rfl) (fun _ _ _ h => h) (Or.inl ⟨by rfl, ?_⟩) ?_ ?_
      rotate_left
      · intro w'
        go_simp
        with_reducible rfl
      rotate_left
      · simp only [Act.put, List.setIfInBounds_toArray, List.set_cons_zero, List.set_cons_succ, i64_w, i32_w]
        rfl
      refine pure_ (i := 3) (N := some 50) (v := ?_) (a' := ?_) #[true, false, true, true, false, false, false, false, false, false] rfl rfl (by kernel_rfl) (fun _ _ _ h => h) (Or.inl ⟨by rfl, ?_⟩) ?_ ?_
      rotate_left
      · intro w'
        go_simp
        with_reducible rfl
      rotate_left
      · simp only [Act.put, List.setIfInBounds_toArray, List.set_cons_zero, List.set_cons_succ, i64_w, i32_w]
        rfl
      refine pure_ (i := 4) (N := some 51) (v := ?_) (a' := ?_) #[true, false, true, true, true, false, false, false, false, false] rfl rfl (by kernel_rfl) (fun _ _ _ h => h) (Or.inl ⟨by rfl, ?_⟩) ?_ ?_
      rotate_left
      · intro w'
        go_simp
        with_reducible rfl
      rotate_left
      · simp only [Act.put, List.setIfInBounds_toArray, List.set_cons_zero, List.set_cons_succ, i64_w, i32_w]
        rfl
      refine take_ (i := 1) (N := some 48) (v := ?_) (a' := ?_) #[true, true, true, true, true, false, false, false, false, false] rfl rfl (by kernel_rfl) (fun _ _ _ h => h) (Or.inl ⟨by rfl, ?_⟩) hHeld ?_ ?_
      rotate_left
      · intro w' s0
        go_simp
        with_reducible rfl
      rotate_left
      · simp only [Act.put, List.setIfInBounds_toArray, List.set_cons_zero, List.set_cons_succ, i64_w, i32_w]
        rfl
      refine one_ (i := 5) (N := some 52) #[true, true, true, true, true, true, false, false, false, false] rfl rfl (by kernel_rfl) (by decide) (fun K hK => ?_)
      refine goes_ Try.func25 (by kernel_rfl) rfl #[.pointer (some ⟨g, 0, none⟩), .int .i64 (wrap64 (d + 1))] (by rfl) rfl rfl (by (try simp only [List.map_toArray, List.map_cons, List.map_nil]); rfl) ?_
      rw [show wrap64 (d + 1) = d + 1 from by unfold wrap64; omega]
      refine (IH.out R9d.out B9d.out HG.out X9.out (by have := HD.out; omega) (by omega) N9.out.1 (by obtain ⟨_, _, h⟩ := N9.out; exact h trivial)).mono ?_
      rintro e w11 ⟨vc, rfl, hR, hRD, hK1, hB1⟩
      refine ⟨_, rfl, ?_⟩
      obtain ⟨Ac, cc, ec⟩ := Kd.R_slice hR
      subst ec
      have g_lt := Aside0.mk (RD.lt R9d.out)
      have g4_lt := Aside0.mk (blk_lt K9d.out)
      have g5_lt := Aside0.mk (blk_lt L9d.out)
      have own_lt : Aside0 (∀ k, (Value.slice Av ks.length cv).ownBlock = some k → k < w10.heap.size ∧ w.heap.size ≤ k ∧ k ≠ g ∧ k ≠ g4 ∧ k ≠ g5) := ⟨fun k hk => by
        have hk1 := (Kd.R_bound HOd.out).1 k hk
        exact ⟨hk1.2.2.1, hk1.2.1, hk1.1⟩⟩
      have HO11 : Aside0 (Kd.R k29 29 w11 w.heap.size (fun k => k ≠ g ∧ k ≠ g4 ∧ k ≠ g5) (.slice Av ks.length cv) ks) := ⟨Kd.R_keep HOd.out hK1 (fun k hk => hk.1)⟩
      have HC11 : Aside0 (Kd.R k29 29 w11 w.heap.size (fun k => (k ≠ g ∧ k ≠ g4 ∧ k ≠ g5) ∧ some k ≠ (Value.slice Av ks.length cv).ownBlock) (.slice Ac (rdTerm f l' n').1.f2.length cc) (rdTerm f l' n').1.f2) := ⟨Kd.R_lower (Kd.R_mono (Kd.R_bound hR) (fun k hk => by
        have a1 := g_lt.out
        have a2 := g4_lt.out
        have a3 := g5_lt.out
        have a4 := hk.2.1
        exact ⟨⟨by omega, by omega, by omega⟩, fun e => by have := (own_lt.out k e.symm).1; omega⟩)) Q9d.out.1⟩
      have K11 := Aside0.mk (keep_blk hK1 K9d.out (Ne.symm NE.out))
      have L11 := Aside0.mk (keep_blk hK1 L9d.out (Ne.symm N5.out))
      have R11 := Aside0.mk hRD
      have Q11 := Aside0.mk (keepBut_trans Q9d.out hK1)
      have B11 := Aside0.mk hB1
      have Z11 := Aside0.mk hK1.1
      clear hR hRD hK1 hB1 HOd K9d L9d R9d Q9d B9d
      refine hK.out _ _ ((blk_cell L11.out 2).trans rfl) (fun hHeld => ?_)
      clear hK K
      refine norm_ (a' := ?_) ?_ ?_
      rotate_left
      · show Act.put _ (some 52) _ = _
        simp only [Act.put, List.setIfInBounds_toArray, List.set_cons_zero, List.set_cons_succ, i64_w, i32_w]
        rfl
      refine one_ (i := 6) (N := some 53) #[true, true, true, true, true, true, true, false, false, false] rfl rfl (by kernel_rfl) (by decide) (fun K hK => ?_)
      refine value_ (w1 := ?_) (v := ?_) (by rfl) rfl ?_ ?_
      rotate_left 2
      · go_simp
        constructor
        · rfl
        · rfl
      refine hK.out _ _ ((blk_cell (blk_alloc L11.out _) 2).trans rfl) (fun hHeld => ?_)
      clear hK K
      refine norm_ (a' := ?_) ?_ ?_
      rotate_left
      · show Act.put _ (some 53) _ = _
        simp only [Act.put, List.setIfInBounds_toArray, List.set_cons_zero, List.set_cons_succ, i64_w, i32_w]
        rfl
      refine one_ (i := 7) (N := some 54) #[true, true, true, true, true, true, true, true, false, false] rfl rfl (by kernel_rfl) (by decide) (fun K hK => ?_)
      refine Kd.R_append_step k29 (w0 := w11) w.heap.size (by rfl) (.tmp 48) (.tmp 53) 27 29 (.agg #[(.int .i64 0), (.int .i64 0), (.slice none 0 0)]) 40 rfl Try.underlying27 info29 rfl (by decide) (by omega) (.slice Av ks.length cv) ks (rdTerm f l' n').1 [.int .i64 (rdTerm f l' n').1.f0, .int .i64 (rdTerm f l' n').1.f1, .slice Ac (rdTerm f l' n').1.f2.length cc] (fun k_ => k_ ≠ g ∧ k_ ≠ g4 ∧ k_ ≠ g5) (fun k_ => (k_ ≠ g ∧ k_ ≠ g4 ∧ k_ ≠ g5) ∧ some k_ ≠ (Value.slice Av ks.length cv).ownBlock) rfl rfl ?aP (fun _ hk => hk) ?aF ?aO ?aB ?aS ?aL ?_
      (case aP => exact k29_mkM _ _ _ (rdTerm f l' n').1 HC11.out)
      (case aB => exact Below.refl _ _)
      (case aF => exact (fun k_ hk => by
        have a0 := Z11.out
        have a1 := g_lt.out
        have a2 := g4_lt.out
        have a3 := g5_lt.out
        exact ⟨by omega, by omega, by omega⟩))
      (case aO => exact HO11.out)
      (case aS => exact Q11.out.1)
      (case aL => have := KL.out; omega)
      intro v2 w12 ho hb hg hat
      have K12 := Aside0.mk (blk_grown K11.out hg (fun e => (own_lt.out g4 e.symm).2.2.2.1 rfl))
      have L12 := Aside0.mk (blk_grown L11.out hg (fun e => (own_lt.out g5 e.symm).2.2.2.2 rfl))
      have R12 : Aside0 (RD W w12 g (rdTerm f l' n').2.1 (rdTerm f l' n').2.2.1 (rdTerm f l' n').2.2.2) := ⟨by
        obtain ⟨A, c, h1, h2, h3⟩ := R11.out
        exact ⟨A, c, blk_grown h1 hg (fun e => (own_lt.out g e.symm).2.2.1 rfl), h2, h3⟩⟩
      have Q12 : Aside0 (KeepBut w w12 g none) := ⟨Nat.le_trans Q11.out.1 hg.size, fun i hi hne hr => (hg.block i (Nat.lt_of_lt_of_le hi Q11.out.1) (fun e => by have := (own_lt.out i e.symm).2.1; omega)).trans (Q11.out.2 i hi hne hr)⟩
      have B12 : Aside0 (Below W.heap.size W w12) := ⟨B11.out.grown hg (Nat.le_trans HB.out.size Q11.out.1) (fun k hk => Nat.le_trans HB.out.size (own_lt.out k hk).2.1)⟩
      have HO12 := Aside0.mk ho
      clear ho hb hg hat HO11 HC11 K11 L11 R11 Q11 B11
      obtain ⟨Av2, cv2, ev2⟩ := Kd.R_slice HO12.out
      subst ev2
      refine hK.out _ _ ((blk_cell L12.out 2).trans rfl) (fun hHeld => ?_)
      clear hK K
      refine norm_ (a' := ?_) ?_ ?_
      rotate_left
      · show Act.put _ (some 54) _ = _
        simp only [Act.put, List.setIfInBounds_toArray, List.set_cons_zero, List.set_cons_succ, i64_w, i32_w]
        rfl
      refine pure_ (i := 8) (N := some 55) (v := ?_) (a' := ?_) #[true, true, true, true, true, true, true, true, true, false] rfl rfl (by kernel_rfl) (fun _ _ _ h => h) (Or.inl ⟨by rfl, ?_⟩) ?_ ?_
      rotate_left
      · intro w'
        go_simp
        with_reducible rfl
      rotate_left
      · simp only [Act.put, List.setIfInBounds_toArray, List.set_cons_zero, List.set_cons_succ, i64_w, i32_w]
        rfl
      refine last_ (i := 9) (N := none) #[true, true, true, true, true, true, true, true, true, true] rfl rfl (by kernel_rfl) (by decide) (fun K hK => ?_)
      have hs9 : w12.cell? ⟨g5, 2, none⟩ = some (.slice Av ks.length cv) := (blk_cell L12.out 2).trans rfl
      have hfs9 := blk_frozen L12.out 2
      refine skip_ (w1 := ?_) (by rfl) rfl ?_ ?_
      rotate_left
      · go_simp
        rfl
      refine hK.out _ _ ?_
      clear hK K
      refine done_ (by kernel_rfl) ?_
      clear hs9 hfs9 hHeld
      go_wp2
      go_roundw
      case measure => simp [intOf]; omega
      case rel => 
        have hi2 : m - i = (m - (i + 1)) + 1 := by omega
        have hinv := rdTerm_inv f l' n' N9.out.1 (by obtain ⟨_, _, h⟩ := N9.out; exact h trivial) X9.out
        exact ⟨i + 1, ks ++ [(rdTerm f l' n').1], _, _, _, _, by go_num, by omega, ⟨by rw [← KE.out, hi2]; rfl⟩, ⟨by have := KL.out; simp; omega⟩,
          ⟨Kd.R_mono (Kd.R_far (p := ⟨g5, 2, none⟩) HO12.out (fun k hk => hk.2.2) _) (fun k hk => hk)⟩,
          ⟨blk_far K12.out N45.out _⟩, ⟨blk_put L12.out 2 _ (by simp)⟩, ⟨RD.far R12.out N5.out⟩, ⟨hinv.1⟩, ⟨hinv.2⟩, ⟨keep_far Q12.out W5.out⟩, ⟨below_set B12.out WW5.out⟩⟩
    · have hke : KK = (ks, l', n', e') := by
        have := KE.out
        rw [← this]
        by_cases h1 : i < m
        · have he : e' ≠ 0 := fun e => hlt ⟨h1, e⟩
          rw [show m - i = (m - (i + 1)) + 1 from by omega]
          simp only [rdKids, if_neg he]
        · rw [show m - i = 0 from by omega]
          rfl
      have hrt : rdTerm (f + 1) l n = (⟨s1.1, wrap64 s2.1, ks⟩, l', n', e') := by
        have a6 : ¬ 3000 < n + 1 := by omega
        simp only [rdTerm, if_neg a6, S1.out, S2.out, S3.out, M.out]
        rw [show ((m : Int)).toNat = m from by omega, KE0.out, hke]
      have HT := Aside0.mk hrt
      have H2 : Aside0 (¬ (i < m ∧ e' = 0)) := ⟨hlt⟩
      clear hke hrt hlt KE KE0
      by_cases h1 : i < m
      all_goals
        first
        | (have he : (e' != 0) = true := by
            have := H2.out
            simp
            omega
           have he2 : (e' == 0) = false := by
            have := H2.out
            simp
            omega)
        | skip
        go_wp2
        refine bodyPost_ret (results_cell_row rfl _ _ g4 29 #[.int .i64 s1.1, .int .i64 (wrap64 s2.1), .slice Av ks.length cv] (0, 0) _ rfl (by exact blk_put (blk_put (blk_put K9.out 0 _ rfl) 1 _ rfl) 2 _ rfl) Try.underlying29 rfl (by kernel_rfl)) rfl ?_
        rw [HT.out]
        exact ⟨_, rfl, Kd.R_mono (Kd.R_far (p := ⟨g4, 2, none⟩) (Kd.R_far (p := ⟨g4, 1, none⟩) (Kd.R_far (p := ⟨g4, 0, none⟩) HO.out (fun k hk => hk.2.1) _) (fun k hk => hk.2.1) _) (fun k hk => hk.2.1) _) (fun _ _ => trivial), RD.far (RD.far (RD.far R9.out NE.out) NE.out) NE.out, keep_far (keep_far (keep_far Q9.out W4.out) W4.out) W4.out, below_set (below_set (below_set B9.out (Nat.le_trans HB.out.size W4.out)) (Nat.le_trans HB.out.size W4.out)) (Nat.le_trans HB.out.size W4.out)⟩
end Go.Proofs.Ytfbjdfgadhlhlaa.P
