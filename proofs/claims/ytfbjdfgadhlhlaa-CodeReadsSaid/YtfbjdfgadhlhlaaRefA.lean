/- The reference's parser: what it comes to, and its contract where it ends in an error. -/
import Derived.Test.YtfbjdfgadhlhlaaHandD
import Derived.Test.YtfbjdfgadhlhlaaFacts
namespace Go.Proofs.Ytfbjdfgadhlhlaa.P
open Go.RowKit Go.Proofs.YtfbjdfgadhlhlaaW.PrintWords Go.Proofs.YtfbjdfgadhlhlaaW.PrintLast Go.Proofs.YtfbjdfgadhlhlaaW.PrintMore
set_option linter.unusedVariables false
set_option linter.unusedSimpArgs false
set_option maxHeartbeats 4000000

/-- The parser at block g holds the bytes B (read at world W), its place, its count, its error. -/
def PD (W w : World) (g : Nat) (B : List Int) (p : Nat) (n e : Int) : Prop :=
  ∃ A c, w.heap[g]? = some (.cells #[.slice A B.length c, .int .i64 p, .int .i64 n, .int .i64 e] 61 (0, 0)) ∧ B.length ≤ c ∧ Kd.C (Kd.int .u8) W A B.length B
theorem PD.below {W w w' : World} {g : Nat} {B : List Int} {p : Nat} {n e : Int} (h : PD W w g B p n e) (hb : Below w.heap.size w w') : PD W w' g B p n e := by
  obtain ⟨A, c, h1, h2, h3⟩ := h
  exact ⟨A, c, blk_below h1 hb, h2, h3⟩
theorem PD.far {W w : World} {g g' j : Nat} {u : Value} {B : List Int} {p : Nat} {n e : Int} (h : PD W w g B p n e) (hne : g ≠ g') : PD W (w.setCell ⟨g', j, none⟩ u) g B p n e := by
  obtain ⟨A, c, h1, h2, h3⟩ := h
  exact ⟨A, c, blk_far h1 hne _, h2, h3⟩
theorem PD.lt {W w : World} {g : Nat} {B : List Int} {p : Nat} {n e : Int} (h : PD W w g B p n e) : g < w.heap.size := by
  obtain ⟨A, c, h1, _⟩ := h
  exact blk_lt h1

/-- The eight bytes behind place p, the highest first. -/
def pNum (B : List Int) (p : Nat) : Nat → Int
  | 0 => 0
  | k + 1 => Go.bits .or .u64 (IntKind.u64.wrap (pNum B p k * 256)) (rd B ((p + (8 - k) : Nat) : Int))
/-- Kids, as many as said, until one ends in an error. -/
def pKids (rec : Nat → Int → S29 × Nat × Int × Int) : Nat → List S29 → Nat → Int → List S29 × Nat × Int × Int
  | 0, ks, p, n => (ks, p, n, 0)
  | m + 1, ks, p, n => if (rec p n).2.2.2 = 0 then pKids rec m (ks ++ [(rec p n).1]) (rec p n).2.1 (rec p n).2.2.1 else ([], (rec p n).2)
/-- A term at place p (n nodes read), so many levels left: the term, the place behind it, the count, the error. -/
def pTerm (B : List Int) : Nat → Nat → Int → S29 × Nat × Int × Int
  | 0, p, n => (⟨0, 0, []⟩, p, n + 1, 5)
  | f + 1, p, n =>
    if 3000 < n + 1 then (⟨0, 0, []⟩, p, n + 1, 5) else
    if B.length < p + 10 then (⟨0, 0, []⟩, p, n + 1, 2) else
    if (pKids (pTerm B f) (rd B ((p + 9 : Nat) : Int)).toNat [] (p + 10) (n + 1)).2.2.2 = 0 then
      (⟨rd B (p : Int), wrap64 (pNum B p 8), (pKids (pTerm B f) (rd B ((p + 9 : Nat) : Int)).toNat [] (p + 10) (n + 1)).1⟩, (pKids (pTerm B f) (rd B ((p + 9 : Nat) : Int)).toNat [] (p + 10) (n + 1)).2)
    else (⟨0, 0, []⟩, (pKids (pTerm B f) (rd B ((p + 9 : Nat) : Int)).toNat [] (p + 10) (n + 1)).2)

theorem pterm_err {W w : World} {g : Nat} {B : List Int} {p : Nat} {n d : Int} (h : PD W w g B p n 0) (hB : Below W.heap.size W w) (hg : W.heap.size ≤ g)
    (hn : 0 ≤ n) (hn2 : n ≤ 3000) (hd : 0 ≤ d) (hd2 : d ≤ 121) (hc : 3000 ≤ n ∨ (n ≤ 2999 ∧ 121 ≤ d)) :
    Calls Try.prog 27 #[.pointer (some ⟨g, 0, none⟩), .int .i64 d] w fun en w' => en = .returned (.agg #[.int .i64 0, .int .i64 0, .slice none 0 0]) ∧ PD W w' g B p (n + 1) 5 ∧ KeepBut w w' g none ∧ Below W.heap.size W w' := by
  obtain ⟨A, c, hb, hc1, hr⟩ := h
  have HC := Aside0.mk hc1
  have HR := Aside0.mk hr
  have HG := Aside0.mk hg
  have HB := Aside0.mk hB
  have HK := Aside0.mk hb
  clear hc1 hr hg hB hb
  have hu61 := Try.underlying61
  have hu29 := Try.underlying29
  rcases hc with hc | ⟨hc, hc'⟩
  all_goals
    go_enter Try.func27, Try.ntmps27
    go_wp2_with (first | ((with_reducible refine gate_dst (N := 4) rfl ?_); refine box_event ?hg (N := 4) ?hd (cs := #[.int .i64 0, .int .i64 0, .slice none 0 0]) (t := 29) ?hr ?_; (case hd => rfl); (case hg => rfl); (case hr => first | (go_simp; done) | (go_simp; rfl)); intro g4 hg_ w3 hbox hb_; have K4 := Aside0.mk hbox; have KR := Aside0.mk (blk_below HK.out hb_); have B3 := Aside0.mk hb_; have G4 := Aside0.mk hg_; have n1 : g ≠ g4 := (by have h1 := blk_lt HK.out; have h2 := G4.out; omega); have n2 : g4 ≠ g := (Ne.symm n1); clear hbox hb_ hg_; have c0 : w3.cell? ⟨g, 0, none⟩ = some (.slice A B.length c) := (blk_cell KR.out 0).trans rfl; have c1 : w3.cell? ⟨g, 1, none⟩ = some (.int .i64 p) := (blk_cell KR.out 1).trans rfl; have c2 : w3.cell? ⟨g, 2, none⟩ = some (.int .i64 n) := (blk_cell KR.out 2).trans rfl; have c3 : w3.cell? ⟨g, 3, none⟩ = some (.int .i64 0) := (blk_cell KR.out 3).trans rfl; have f1 := blk_frozen KR.out 1; have f2 := blk_frozen KR.out 2; have f3 := blk_frozen KR.out 3; have k0 : w3.cell? ⟨g4, 0, none⟩ = some (.int .i64 0) := (blk_cell K4.out 0).trans rfl; have k1 : w3.cell? ⟨g4, 1, none⟩ = some (.int .i64 0) := (blk_cell K4.out 1).trans rfl; have k2 : w3.cell? ⟨g4, 2, none⟩ = some (.slice none 0 0) := (blk_cell K4.out 2).trans rfl; have kf0 := blk_frozen K4.out 0; have kf1 := blk_frozen K4.out 1; have kf2 := blk_frozen K4.out 2) | fail)
    refine bodyPost_ret (results_cell_row rfl _ _ g4 29 #[.int .i64 0, .int .i64 0, .slice none 0 0] (0, 0) _ rfl (by exact blk_put (blk_put (blk_put (blk_far (blk_far K4.out n2 _) n2 _) 0 _ rfl) 1 _ rfl) 2 _ rfl) Try.underlying29 rfl (by kernel_rfl)) rfl ?_
    have W4 : w.heap.size ≤ g4 := Nat.le_of_eq G4.out.symm
    have WW4 : W.heap.size ≤ g4 := Nat.le_trans HB.out.size W4
    exact ⟨rfl, PD.far (PD.far (PD.far ⟨A, c, blk_put (blk_put KR.out 2 _ rfl) 3 _ rfl, HC.out, HR.out⟩ n1) n1) n1,
      keep_far (keep_far (keep_far (keepBut_trans (keepBut_trans ⟨B3.out.size, fun i hi _ _ => B3.out.block i hi⟩ keep_set) keep_set) W4) W4) W4,
      below_set (below_set (below_set (below_set (below_set (HB.out.trans (B3.out.mono HB.out.size)) HG.out) HG.out) WW4) WW4) WW4⟩
theorem keep_drew {a b : World} {g : Nat} (h : KeepBut a b g none) : KeepBut a b.drew g none := ⟨h.1, h.2⟩
theorem pterm_cut {W w : World} {g : Nat} {B : List Int} {p : Nat} {n d : Int} (h : PD W w g B p n 0) (hB : Below W.heap.size W w) (hg : W.heap.size ≤ g)
    (hn : 0 ≤ n) (hn2 : n ≤ 2999) (hd : 0 ≤ d) (hd2 : d ≤ 120) (hp : p ≤ B.length) (hc : B.length < p + 10) :
    Calls Try.prog 27 #[.pointer (some ⟨g, 0, none⟩), .int .i64 d] w fun en w' => en = .returned (.agg #[.int .i64 0, .int .i64 0, .slice none 0 0]) ∧ PD W w' g B p (n + 1) 2 ∧ KeepBut w w' g none ∧ Below W.heap.size W w' := by
  obtain ⟨A, c, hb, hc1, hr⟩ := h
  have HC := Aside0.mk hc1
  have HR := Aside0.mk hr
  have HG := Aside0.mk hg
  have HB := Aside0.mk hB
  have HK := Aside0.mk hb
  clear hc1 hr hg hB hb
  have hu61 := Try.underlying61
  have hu29 := Try.underlying29
  have hB1 := HR.out.2.1
  go_enter Try.func27, Try.ntmps27
  go_wp2_with (first | ((with_reducible refine gate_dst (N := 4) rfl ?_); refine box_event ?hg (N := 4) ?hd (cs := #[.int .i64 0, .int .i64 0, .slice none 0 0]) (t := 29) ?hr ?_; (case hd => rfl); (case hg => rfl); (case hr => first | (go_simp; done) | (go_simp; rfl)); intro g4 hg_ w3 hbox hb_; have K4 := Aside0.mk hbox; have KR := Aside0.mk (blk_below HK.out hb_); have B3 := Aside0.mk hb_; have G4 := Aside0.mk hg_; have n1 : g ≠ g4 := (by have h1 := blk_lt HK.out; have h2 := G4.out; omega); have n2 : g4 ≠ g := (Ne.symm n1); clear hbox hb_ hg_; have c0 : w3.cell? ⟨g, 0, none⟩ = some (.slice A B.length c) := (blk_cell KR.out 0).trans rfl; have c1 : w3.cell? ⟨g, 1, none⟩ = some (.int .i64 p) := (blk_cell KR.out 1).trans rfl; have c2 : w3.cell? ⟨g, 2, none⟩ = some (.int .i64 n) := (blk_cell KR.out 2).trans rfl; have c3 : w3.cell? ⟨g, 3, none⟩ = some (.int .i64 0) := (blk_cell KR.out 3).trans rfl; have f1 := blk_frozen KR.out 1; have f2 := blk_frozen KR.out 2; have f3 := blk_frozen KR.out 3; have k0 : w3.cell? ⟨g4, 0, none⟩ = some (.int .i64 0) := (blk_cell K4.out 0).trans rfl; have k1 : w3.cell? ⟨g4, 1, none⟩ = some (.int .i64 0) := (blk_cell K4.out 1).trans rfl; have k2 : w3.cell? ⟨g4, 2, none⟩ = some (.slice none 0 0) := (blk_cell K4.out 2).trans rfl; have kf0 := blk_frozen K4.out 0; have kf1 := blk_frozen K4.out 1; have kf2 := blk_frozen K4.out 2) | fail)
  generalize hw4 : (World.setCell w3 ⟨g, 2, none⟩ _) = w4
  have R4 := Aside0.mk (show w4.heap[g]? = some (.cells #[.slice A B.length c, .int .i64 p, .int .i64 (n + 1), .int .i64 0] 61 (0, 0)) by rw [← hw4]; exact blk_put KR.out 2 _ rfl)
  have K4' := Aside0.mk (show w4.heap[g4]? = some (.cells #[.int .i64 0, .int .i64 0, .slice none 0 0] 29 (0, 0)) by rw [← hw4]; exact blk_far K4.out n2 _)
  have B4 := Aside0.mk (show Below W.heap.size W w4 by rw [← hw4]; exact below_set (HB.out.trans (B3.out.mono HB.out.size)) HG.out)
  have Q4 := Aside0.mk (show KeepBut w w4 g none by rw [← hw4]; exact keepBut_trans ⟨B3.out.size, fun i hi _ _ => B3.out.block i hi⟩ keep_set)
  have N1 := Aside0.mk n1
  have W4 := Aside0.mk (Nat.le_of_eq G4.out.symm)
  clear hw4 K4 KR c0 c1 c2 c3 f1 f2 f3 k0 k1 k2 kf0 kf1 kf2 n1 n2 B3
  have K4 := K4'
  clear K4'
  have R4_ := Aside0.mk (blk_drew R4.out)
  clear R4
  have R4 := R4_
  clear R4_
  have K4_ := Aside0.mk (blk_drew K4.out)
  clear K4
  have K4 := K4_
  clear K4_
  have B4_ := Aside0.mk (below_drew1 B4.out)
  clear B4
  have B4 := B4_
  clear B4_
  have Q4_ := Aside0.mk (keep_drew Q4.out)
  clear Q4
  have Q4 := Q4_
  clear Q4_
  have c0 : w4.drew.cell? ⟨g, 0, none⟩ = some (.slice A B.length c) := (blk_cell R4.out 0).trans rfl
  have c1 : w4.drew.cell? ⟨g, 1, none⟩ = some (.int .i64 p) := (blk_cell R4.out 1).trans rfl
  have hsub : wrap64 ((B.length : Int) - (p : Int)) = (B.length : Int) - (p : Int) := wrap_id (by omega)
  have hlt : decide ((B.length : Int) - (p : Int) < 10) = true := decide_eq_true (by omega)
  refine start_ (n := 11) (S := fun w' => w' = w4.drew) (ds := []) #[false, false, false, false, false, false, false, false, false, false, false] (by kernel_rfl) rfl rfl rfl (fun hHeld => ?_)
  generalize w4.drew = w5 at R4 K4 B4 Q4 c0 c1 hHeld ⊢
  refine take_ (i := 0) (N := some 31) (v := ?_) (a' := ?_) #[true, false, false, false, false, false, false, false, false, false, false] rfl rfl (by kernel_rfl) (fun _ _ _ h => h) (Or.inl ⟨by rfl, ?_⟩) hHeld ?_ ?_
  rotate_left
  · rintro w' rfl
    go_simp
    with_reducible rfl
  rotate_left
  · simp only [Act.put, List.setIfInBounds_toArray, List.set_cons_zero, List.set_cons_succ, i64_w, i32_w, u8_w, u32_w, hsub, hlt]
    rfl
  refine take_ (i := 1) (N := some 32) (v := ?_) (a' := ?_) #[true, true, false, false, false, false, false, false, false, false, false] rfl rfl (by kernel_rfl) (fun _ _ _ h => h) (Or.inl ⟨by rfl, ?_⟩) hHeld ?_ ?_
  rotate_left
  · rintro w' rfl
    go_simp
    with_reducible rfl
  rotate_left
  · simp only [Act.put, List.setIfInBounds_toArray, List.set_cons_zero, List.set_cons_succ, i64_w, i32_w, u8_w, u32_w, hsub, hlt]
    rfl
  refine take_ (i := 2) (N := some 33) (v := ?_) (a' := ?_) #[true, true, true, false, false, false, false, false, false, false, false] rfl rfl (by kernel_rfl) (fun _ _ _ h => h) (Or.inl ⟨by rfl, ?_⟩) hHeld ?_ ?_
  rotate_left
  · rintro w' rfl
    go_simp
    with_reducible rfl
  rotate_left
  · simp only [Act.put, List.setIfInBounds_toArray, List.set_cons_zero, List.set_cons_succ, i64_w, i32_w, u8_w, u32_w, hsub, hlt]
    rfl
  refine take_ (i := 3) (N := some 34) (v := ?_) (a' := ?_) #[true, true, true, true, false, false, false, false, false, false, false] rfl rfl (by kernel_rfl) (fun _ _ _ h => h) (Or.inl ⟨by rfl, ?_⟩) hHeld ?_ ?_
  rotate_left
  · rintro w' rfl
    go_simp
    with_reducible rfl
  rotate_left
  · simp only [Act.put, List.setIfInBounds_toArray, List.set_cons_zero, List.set_cons_succ, i64_w, i32_w, u8_w, u32_w, hsub, hlt]
    rfl
  refine take_ (i := 4) (N := some 35) (v := ?_) (a' := ?_) #[true, true, true, true, true, false, false, false, false, false, false] rfl rfl (by kernel_rfl) (fun _ _ _ h => h) (Or.inl ⟨by rfl, ?_⟩) hHeld ?_ ?_
  rotate_left
  · rintro w' rfl
    go_simp
    with_reducible rfl
  rotate_left
  · simp only [Act.put, List.setIfInBounds_toArray, List.set_cons_zero, List.set_cons_succ, i64_w, i32_w, u8_w, u32_w, hsub, hlt]
    rfl
  refine take_ (i := 5) (N := some 36) (v := ?_) (a' := ?_) #[true, true, true, true, true, true, false, false, false, false, false] rfl rfl (by kernel_rfl) (fun _ _ _ h => h) (Or.inl ⟨by rfl, ?_⟩) hHeld ?_ ?_
  rotate_left
  · rintro w' rfl
    go_simp
    with_reducible rfl
  rotate_left
  · simp only [Act.put, List.setIfInBounds_toArray, List.set_cons_zero, List.set_cons_succ, i64_w, i32_w, u8_w, u32_w, hsub, hlt]
    rfl
  refine take_ (i := 6) (N := some 37) (v := ?_) (a' := ?_) #[true, true, true, true, true, true, true, false, false, false, false] rfl rfl (by kernel_rfl) (fun _ _ _ h => h) (Or.inl ⟨by rfl, ?_⟩) hHeld ?_ ?_
  rotate_left
  · rintro w' rfl
    go_simp
    with_reducible rfl
  rotate_left
  · simp only [Act.put, List.setIfInBounds_toArray, List.set_cons_zero, List.set_cons_succ, i64_w, i32_w, u8_w, u32_w, hsub, hlt]
    rfl
  refine take_ (i := 7) (N := some 38) (v := ?_) (a' := ?_) #[true, true, true, true, true, true, true, true, false, false, false] rfl rfl (by kernel_rfl) (fun _ _ _ h => h) (Or.inl ⟨by rfl, ?_⟩) hHeld ?_ ?_
  rotate_left
  · rintro w' rfl
    go_simp
    with_reducible rfl
  rotate_left
  · simp only [Act.put, List.setIfInBounds_toArray, List.set_cons_zero, List.set_cons_succ, i64_w, i32_w, u8_w, u32_w, hsub, hlt]
    rfl
  refine take_ (i := 8) (N := some 39) (v := ?_) (a' := ?_) #[true, true, true, true, true, true, true, true, true, false, false] rfl rfl (by kernel_rfl) (fun _ _ _ h => h) (Or.inl ⟨by rfl, ?_⟩) hHeld ?_ ?_
  rotate_left
  · rintro w' rfl
    go_simp
    with_reducible rfl
  rotate_left
  · simp only [Act.put, List.setIfInBounds_toArray, List.set_cons_zero, List.set_cons_succ, i64_w, i32_w, u8_w, u32_w, hsub, hlt]
    rfl
  refine take_ (i := 9) (N := some 40) (v := ?_) (a' := ?_) #[true, true, true, true, true, true, true, true, true, true, false] rfl rfl (by kernel_rfl) (fun _ _ _ h => h) (Or.inl ⟨by rfl, ?_⟩) hHeld ?_ ?_
  rotate_left
  · rintro w' rfl
    go_simp
    with_reducible rfl
  rotate_left
  · simp only [Act.put, List.setIfInBounds_toArray, List.set_cons_zero, List.set_cons_succ, i64_w, i32_w, u8_w, u32_w, hsub, hlt]
    rfl
  refine take_ (i := 10) (N := some 41) (v := ?_) (a' := ?_) #[true, true, true, true, true, true, true, true, true, true, true] rfl rfl (by kernel_rfl) (fun _ _ _ h => h) (Or.inl ⟨by rfl, ?_⟩) hHeld ?_ ?_
  rotate_left
  · rintro w' rfl
    go_simp
    with_reducible rfl
  rotate_left
  · simp only [Act.put, List.setIfInBounds_toArray, List.set_cons_zero, List.set_cons_succ, i64_w, i32_w, u8_w, u32_w, hsub, hlt]
    rfl
  refine done_ (by kernel_rfl) ?_
  clear c0 c1 hsub hlt hHeld
  have c0 : w5.cell? ⟨g, 0, none⟩ = some (.slice A B.length c) := (blk_cell R4.out 0).trans rfl
  have c1 : w5.cell? ⟨g, 1, none⟩ = some (.int .i64 p) := (blk_cell R4.out 1).trans rfl
  have c2 : w5.cell? ⟨g, 2, none⟩ = some (.int .i64 (n + 1)) := (blk_cell R4.out 2).trans rfl
  have c3 : w5.cell? ⟨g, 3, none⟩ = some (.int .i64 0) := (blk_cell R4.out 3).trans rfl
  have f3 := blk_frozen R4.out 3
  have k0 : w5.cell? ⟨g4, 0, none⟩ = some (.int .i64 0) := (blk_cell K4.out 0).trans rfl
  have k1 : w5.cell? ⟨g4, 1, none⟩ = some (.int .i64 0) := (blk_cell K4.out 1).trans rfl
  have k2 : w5.cell? ⟨g4, 2, none⟩ = some (.slice none 0 0) := (blk_cell K4.out 2).trans rfl
  have kf0 := blk_frozen K4.out 0
  have kf1 := blk_frozen K4.out 1
  have kf2 := blk_frozen K4.out 2
  have n1 := N1.out
  have n2 : g4 ≠ g := Ne.symm n1
  go_wp2
  refine bodyPost_ret (results_cell_row rfl _ _ g4 29 #[.int .i64 0, .int .i64 0, .slice none 0 0] (0, 0) _ rfl (by exact blk_put (blk_put (blk_put (blk_far K4.out n2 _) 0 _ rfl) 1 _ rfl) 2 _ rfl) Try.underlying29 rfl (by kernel_rfl)) rfl ?_
  have WW4 : W.heap.size ≤ g4 := Nat.le_trans HB.out.size W4.out
  exact ⟨rfl, PD.far (PD.far (PD.far ⟨A, c, blk_put R4.out 3 _ rfl, HC.out, HR.out⟩ n1) n1) n1,
    keep_far (keep_far (keep_far (keepBut_trans Q4.out keep_set) W4.out) W4.out) W4.out,
    below_set (below_set (below_set (below_set B4.out HG.out) WW4) WW4) WW4⟩
end Go.Proofs.Ytfbjdfgadhlhlaa.P
