/- The contract of the reader's method term of package code. -/
import Derived.Test.YtfbjdfgadhlhlaaHandA
namespace Go.Proofs.Ytfbjdfgadhlhlaa.P
open Go.RowKit Go.Proofs.YtfbjdfgadhlhlaaW.PrintWords Go.Proofs.YtfbjdfgadhlhlaaW.PrintLast Go.Proofs.YtfbjdfgadhlhlaaW.PrintMore
set_option linter.unusedVariables false
set_option linter.unusedSimpArgs false

def rdKids (rec : List Int → Int → S29 × List Int × Int × Int) : Nat → List S29 → List Int → Int → Int → List S29 × List Int × Int × Int
  | 0, ks, l, n, e => (ks, l, n, e)
  | m + 1, ks, l, n, e => if e = 0 then rdKids rec m (ks ++ [(rec l n).1]) (rec l n).2.1 (rec l n).2.2.1 (rec l n).2.2.2 else (ks, l, n, e)

/-- A term of what is left (no error so far, n nodes read), so many levels left. -/
def rdTerm : Nat → List Int → Int → S29 × List Int × Int × Int
  | 0, l, n => (⟨0, 0, []⟩, l, n + 1, 5)
  | f + 1, l, n =>
    if 3000 < n + 1 then (⟨0, 0, []⟩, l, n + 1, 5) else
    (⟨(rdByte l 0).1, wrap64 (rdNum (rdByte l 0).2.1 (rdByte l 0).2.2 8).1,
       (rdKids (rdTerm f) (rdByte (rdNum (rdByte l 0).2.1 (rdByte l 0).2.2 8).2.1 (rdNum (rdByte l 0).2.1 (rdByte l 0).2.2 8).2.2).1.toNat []
          (rdByte (rdNum (rdByte l 0).2.1 (rdByte l 0).2.2 8).2.1 (rdNum (rdByte l 0).2.1 (rdByte l 0).2.2 8).2.2).2.1 (n + 1)
          (rdByte (rdNum (rdByte l 0).2.1 (rdByte l 0).2.2 8).2.1 (rdNum (rdByte l 0).2.1 (rdByte l 0).2.2 8).2.2).2.2).1⟩,
      (rdKids (rdTerm f) (rdByte (rdNum (rdByte l 0).2.1 (rdByte l 0).2.2 8).2.1 (rdNum (rdByte l 0).2.1 (rdByte l 0).2.2 8).2.2).1.toNat []
          (rdByte (rdNum (rdByte l 0).2.1 (rdByte l 0).2.2 8).2.1 (rdNum (rdByte l 0).2.1 (rdByte l 0).2.2 8).2.2).2.1 (n + 1)
          (rdByte (rdNum (rdByte l 0).2.1 (rdByte l 0).2.2 8).2.1 (rdNum (rdByte l 0).2.1 (rdByte l 0).2.2 8).2.2).2.2).2)

theorem rdByte_err {l : List Int} {e : Int} (he : e ≠ 0) : rdByte l e = (0, l, e) := by simp [rdByte, he]
theorem rdNum_err {l : List Int} {e : Int} (he : e ≠ 0) : ∀ k, rdNum l e k = (0, l, e)
  | 0 => rfl
  | k + 1 => by
    simp only [rdNum, rdNum_err he k, rdByte_err he]
    rw [Int.zero_mul]
    rfl

theorem byte_e {W w : World} {g : Nat} {l : List Int} {n e : Int} (h : RD W w g l n e) (he : e ≠ 0) (hB : Below W.heap.size W w) (hg : W.heap.size ≤ g) :
    Calls Try.prog 28 #[.pointer (some ⟨g, 0, none⟩)] w fun en w' => en = .returned (.int .u64 0) ∧ w = w' := by
  obtain ⟨A, c, hb, hc, hr⟩ := h
  exact byte_err hb he

theorem number_e {W w : World} {g : Nat} {l : List Int} {n e : Int} (h : RD W w g l n e) (he : e ≠ 0) (hB : Below W.heap.size W w) (hg : W.heap.size ≤ g) :
    Calls Try.prog 29 #[.pointer (some ⟨g, 0, none⟩)] w fun en w' => en = .returned (.int .i64 0) ∧ w = w' := by
  have H := Aside0.mk h
  have HB := Aside0.mk hB
  have HG := Aside0.mk hg
  have HE := Aside0.mk he
  clear h hB hg he
  go_enter Try.func29, Try.ntmps29
  go_wp2
  go_loop [3, 8] (fun v3 v8 => ∃ k : Nat, k ≤ 8 ∧ v8 = .int .i64 k ∧ v3 = .int .u64 0) (fun _ v8 => 8 - (intOf v8).toNat)
  case atStart => exact ⟨0, by omega, rfl, rfl⟩
  case round =>
    obtain ⟨k, hk, rfl, rfl⟩ := hrel
    by_cases hlt : k < 8
    · have hz : Go.bits .or .u64 0 (IntKind.u64.wrap (0 * 2 ^ (8 * k))) = 0 := by rw [Int.zero_mul]; rfl
      go_wp2_with (go_at_call 28; refine (byte_e H.out HE.out HB.out HG.out).mono ?_; rintro en w2 ⟨rfl, rfl⟩)
      go_round
      case measure => simp [intOf]; omega
      case rel => exact ⟨k + 1, by omega, by go_num, by first | rfl | (rw [Int.zero_mul]; rfl)⟩
    · obtain rfl : k = 8 := by omega
      go_wp2
      go_ret
      exact ⟨rfl, rfl⟩

theorem term_err (f : Nat) {W w : World} {g : Nat} {l : List Int} {n d : Int} (h : RD W w g l n 0) (hB : Below W.heap.size W w) (hg : W.heap.size ≤ g)
    (hn : 0 ≤ n) (hn2 : n ≤ 3000) (hd : 0 ≤ d) (hd2 : d ≤ 121) (hc : 121 ≤ d ∨ (d ≤ 120 ∧ 3000 ≤ n)) :
    Calls Try.prog 25 #[.pointer (some ⟨g, 0, none⟩), .int .i64 d] w fun en w' => en = .returned (.agg #[.int .i64 0, .int .i64 0, .slice none 0 0]) ∧ RD W w' g l (n + 1) 5 ∧ KeepBut w w' g none ∧ Below W.heap.size W w' := by
  obtain ⟨A, c, hb, hc1, hr⟩ := h
  have HC := Aside0.mk hc1
  have HR := Aside0.mk hr
  have HG := Aside0.mk hg
  have HB := Aside0.mk hB
  have HK := Aside0.mk hb
  clear hc1 hr hg hB hb
  have hu56 := Try.underlying56
  have hu29 := Try.underlying29
  have RB : ∀ {w w' : World} {l : List Int} {n e : Int}, RD W w g l n e → Below w.heap.size w w' → RD W w' g l n e := fun h hb => by
    obtain ⟨A, c, h1, h2, h3⟩ := h
    exact ⟨A, c, blk_below h1 hb, h2, h3⟩
  have RBA := Aside0.mk @RB
  clear RB
  rcases hc with hc | ⟨hc, hc'⟩
  all_goals
    go_enter Try.func25, Try.ntmps25
    go_wp2_with (first | ((with_reducible refine gate_dst (N := 4) rfl ?_); refine box_event ?hg (N := 4) ?hd (cs := #[.int .i64 0, .int .i64 0, .slice none 0 0]) (t := 29) ?hr ?_; (case hd => rfl); (case hg => rfl); (case hr => first | (go_simp; done) | (go_simp; rfl)); intro g4 hg4 w3 hbox hb3; have K4 := Aside0.mk hbox; have KR := Aside0.mk (blk_below HK.out hb3); have B3 := Aside0.mk hb3; have G4 := Aside0.mk hg4; clear hbox hb3 hg4; have c0 : w3.cell? ⟨g, 0, none⟩ = some (.slice A l.length c) := (blk_cell KR.out 0).trans rfl; have c1 : w3.cell? ⟨g, 1, none⟩ = some (.int .i64 n) := (blk_cell KR.out 1).trans rfl; have c2 : w3.cell? ⟨g, 2, none⟩ = some (.int .i64 0) := (blk_cell KR.out 2).trans rfl; have f1 := blk_frozen KR.out 1; have f2 := blk_frozen KR.out 2) | fail)
    generalize hw4 : (World.setCell (World.setCell w3 ⟨g, 1, none⟩ _) ⟨g, 2, none⟩ (.int .i64 5)) = w4
    have hne : g ≠ g4 := by
      have h1 := blk_lt HK.out
      have h2 := G4.out
      omega
    have R4 : Aside0 (RD W w4 g l (n + 1) 5) := ⟨by rw [← hw4]; exact ⟨A, c, blk_put (blk_put KR.out 1 _ rfl) 2 _ rfl, HC.out, HR.out⟩⟩
    have K4' : Aside0 (w4.heap[g4]? = some (.cells #[.int .i64 0, .int .i64 0, .slice none 0 0] 29 (0, 0))) := ⟨by rw [← hw4]; exact blk_far (blk_far K4.out (fun e => hne e.symm) _) (fun e => hne e.symm) _⟩
    have B4 : Aside0 (Below W.heap.size W w4) := ⟨by rw [← hw4]; exact below_set (below_set (HB.out.trans (B3.out.mono HB.out.size)) HG.out) HG.out⟩
    have Q4 : Aside0 (KeepBut w w4 g none) := ⟨by rw [← hw4]; exact keepBut_trans (keepBut_trans ⟨B3.out.size, fun i hi _ _ => B3.out.block i hi⟩ keep_set) keep_set⟩
    have NE := Aside0.mk hne
    have LT4 := Aside0.mk (blk_lt K4.out)
    clear hw4 K4 KR c0 c1 c2 f1 f2 hne
    have K4 := K4'
    clear K4'
    go_wp2_with (first | (go_at_call 28; refine (byte_e R4.out (by decide) B4.out HG.out).mono ?_; rintro en w' ⟨rfl, rfl⟩) | (go_at_call 29; refine (number_e R4.out (by decide) B4.out HG.out).mono ?_; rintro en w' ⟨rfl, rfl⟩) | ((with_reducible refine gate_dst (N := 5) rfl ?_); refine box_event ?hg (N := 5) ?hd (cs := #[.int .i64 0, .int .i64 0, .slice none 0 0]) (t := 29) ?hr ?_; (case hd => rfl); (case hg => rfl); (case hr => first | (go_simp; done) | (go_simp; rfl)); intro g5 hg5 w5 hbox hb5; have L5 := Aside0.mk hbox; have K5 := Aside0.mk (blk_below K4.out hb5); have R5 := Aside0.mk (RBA.out R4.out hb5); have B5 := Aside0.mk hb5; have G5 := Aside0.mk hg5; clear hbox hb5 hg5; have d0 : w5.cell? ⟨g5, 0, none⟩ = some (.int .i64 0) := (blk_cell L5.out 0).trans rfl; have d1 : w5.cell? ⟨g5, 1, none⟩ = some (.int .i64 0) := (blk_cell L5.out 1).trans rfl; have d2 : w5.cell? ⟨g5, 2, none⟩ = some (.slice none 0 0) := (blk_cell L5.out 2).trans rfl; have fd0 := blk_frozen L5.out 0; have fd1 := blk_frozen L5.out 1; have fd2 := blk_frozen L5.out 2) | fail)
    generalize hw6 : (World.setCell (World.setCell (World.setCell w5 ⟨g5, 0, none⟩ (.int .i64 0)) ⟨g5, 1, none⟩ (.int .i64 0)) ⟨g5, 2, none⟩ (.slice none 0 0)) = w6
    have NE5 : Aside0 (g ≠ g5) := ⟨by
      have h1 := R4.out
      obtain ⟨A, c, h1, _⟩ := h1
      have h1 := blk_lt h1
      have h2 := G5.out
      omega⟩
    have NE45 : Aside0 (g4 ≠ g5) := ⟨by
      have h1 := blk_lt K4.out
      have h2 := G5.out
      omega⟩
    have R6 : Aside0 (RD W w6 g l (n + 1) 5) := ⟨by
      rw [← hw6]
      obtain ⟨A, c, h1, h2, h3⟩ := R5.out
      exact ⟨A, c, blk_far (blk_far (blk_far h1 NE5.out _) NE5.out _) NE5.out _, h2, h3⟩⟩
    have K6 : Aside0 (w6.heap[g4]? = some (.cells #[.int .i64 0, .int .i64 0, .slice none 0 0] 29 (0, 0))) := ⟨by rw [← hw6]; exact blk_far (blk_far (blk_far K5.out NE45.out _) NE45.out _) NE45.out _⟩
    have L6 : Aside0 (w6.heap[g5]? = some (.cells #[.int .i64 0, .int .i64 0, .slice none 0 0] 29 (0, 0))) := ⟨by rw [← hw6]; exact blk_put (blk_put (blk_put L5.out 0 _ rfl) 1 _ rfl) 2 _ rfl⟩
    have W5 : Aside0 (W.heap.size ≤ g5) := ⟨by have h1 := G5.out; have h2 := B4.out.size; omega⟩
    have W4 : Aside0 (w.heap.size ≤ g4) := ⟨by have h1 := G4.out; omega⟩
    have B6 : Aside0 (Below W.heap.size W w6) := ⟨by rw [← hw6]; exact below_set (below_set (below_set (B4.out.trans (B5.out.mono B4.out.size)) W5.out) W5.out) W5.out⟩
    have Q6 : Aside0 (KeepBut w w6 g none) := ⟨by
      rw [← hw6]
      refine ⟨Nat.le_trans Q4.out.1 (by simpa [World.setCell] using B5.out.size), fun i hi hne hr => ?_⟩
      have h5 : i < w4.heap.size := Nat.lt_of_lt_of_le hi Q4.out.1
      have h6 : i ≠ g5 := by have := G5.out; omega
      rw [Below.heap_setCell _ _ _ _ h6, Below.heap_setCell _ _ _ _ h6, Below.heap_setCell _ _ _ _ h6, B5.out.block i h5]
      exact Q4.out.2 i hi hne hr⟩
    clear hw6 d0 d1 d2 fd0 fd1 fd2 K4 K5 L5 R5 R4 B4 B5 Q4 G5
    have e0 : w6.cell? ⟨g5, 0, none⟩ = some (.int .i64 0) := (blk_cell L6.out 0).trans rfl
    have e1 : w6.cell? ⟨g5, 1, none⟩ = some (.int .i64 0) := (blk_cell L6.out 1).trans rfl
    have e2 : w6.cell? ⟨g5, 2, none⟩ = some (.slice none 0 0) := (blk_cell L6.out 2).trans rfl
    have k0 : w6.cell? ⟨g4, 0, none⟩ = some (.int .i64 0) := (blk_cell K6.out 0).trans rfl
    have k1 : w6.cell? ⟨g4, 1, none⟩ = some (.int .i64 0) := (blk_cell K6.out 1).trans rfl
    have k2 : w6.cell? ⟨g4, 2, none⟩ = some (.slice none 0 0) := (blk_cell K6.out 2).trans rfl
    have kf0 := blk_frozen K6.out 0
    have kf1 := blk_frozen K6.out 1
    have kf2 := blk_frozen K6.out 2
    go_wp2_with (first | (go_at_call 28; refine (byte_e R6.out (by decide) B6.out HG.out).mono ?_; rintro en w' ⟨rfl, rfl⟩) | fail)
    go_loop [40] (fun v40 => v40 = .int .u64 0) (fun _ => 0)
    case atStart => rfl
    case round =>
      subst hrel
      go_wp2
      refine bodyPost_ret (results_cell_row rfl _ _ g4 29 #[.int .i64 0, .int .i64 0, .slice none 0 0] (0, 0) _ rfl (by exact blk_put (blk_put (blk_put K6.out 0 _ rfl) 1 _ rfl) 2 _ rfl) Try.underlying29 rfl (by kernel_rfl)) rfl ?_
      refine ⟨rfl, ?_, ?_, ?_⟩
      · obtain ⟨A, c, h1, h2, h3⟩ := R6.out
        exact ⟨A, c, blk_far (blk_far (blk_far h1 NE.out _) NE.out _) NE.out _, h2, h3⟩
      · refine ⟨by simpa [World.setCell] using Q6.out.1, fun i hi hne hr => ?_⟩
        have h6 : i ≠ g4 := by have := W4.out; omega
        rw [Below.heap_setCell _ _ _ _ h6, Below.heap_setCell _ _ _ _ h6, Below.heap_setCell _ _ _ _ h6]
        exact Q6.out.2 i hi hne hr
      · have W4' : W.heap.size ≤ g4 := Nat.le_trans HB.out.size W4.out
        exact below_set (below_set (below_set B6.out W4') W4') W4'
end Go.Proofs.Ytfbjdfgadhlhlaa.P
