/- The contract of the reference's parser (method term). -/
import Derived.Test.YtfbjdfgadhlhlaaRefA
import Derived.Deep.RegionHeld3
import Derived.Deep.QuietTactic
import Derived.BigQuiet
namespace Go.Proofs.Ytfbjdfgadhlhlaa.P
open Go.RowKit Go.Proofs.YtfbjdfgadhlhlaaW.PrintWords Go.Proofs.YtfbjdfgadhlhlaaW.PrintLast Go.Proofs.YtfbjdfgadhlhlaaW.PrintMore
set_option linter.unusedVariables false
set_option linter.unusedSimpArgs false
set_option maxHeartbeats 8000000

/-- What a call of the parser answers, so many levels left. -/
def PCON (B : List Int) (f : Nat) : Prop :=
  ∀ {W w : World} {g p : Nat} {n d : Int}, PD W w g B p n 0 → Below W.heap.size W w → W.heap.size ≤ g → p ≤ B.length → d + f = 121 → 0 ≤ d → 0 ≤ n → n ≤ 3000 →
    Calls Try.prog 27 #[.pointer (some ⟨g, 0, none⟩), .int .i64 d] w fun en w' => ∃ v, en = .returned (.agg #[.int .i64 (pTerm B f p n).1.f0, .int .i64 (pTerm B f p n).1.f1, v]) ∧ Kd.R k29 29 w' w.heap.size (fun _ => True) v (pTerm B f p n).1.f2 ∧ PD W w' g B (pTerm B f p n).2.1 (pTerm B f p n).2.2.1 (pTerm B f p n).2.2.2 ∧ KeepBut w w' g none ∧ Below W.heap.size W w'

theorem pKids_inv (L : Nat) (rec : Nat → Int → S29 × Nat × Int × Int)
    (hrec : ∀ p n, 0 ≤ n → n ≤ 3000 → p ≤ L → (0 ≤ (rec p n).2.2.1 ∧ (rec p n).2.2.1 ≤ 3001 ∧ ((rec p n).2.2.2 = 0 → (rec p n).2.2.1 ≤ 3000)) ∧ (rec p n).2.1 ≤ L) :
    ∀ (m : Nat) (ks : List S29) (p : Nat) (n : Int), 0 ≤ n → n ≤ 3000 → p ≤ L →
      (0 ≤ (pKids rec m ks p n).2.2.1 ∧ (pKids rec m ks p n).2.2.1 ≤ 3001 ∧ ((pKids rec m ks p n).2.2.2 = 0 → (pKids rec m ks p n).2.2.1 ≤ 3000)) ∧ (pKids rec m ks p n).2.1 ≤ L
  | 0, ks, p, n, h0, h1, hp => ⟨⟨h0, by simp only [pKids]; omega, fun _ => h1⟩, hp⟩
  | m + 1, ks, p, n, h0, h1, hp => by
    unfold pKids
    have hr := hrec p n h0 h1 hp
    by_cases he : (rec p n).2.2.2 = 0
    · rw [if_pos he]
      exact pKids_inv L rec hrec m _ _ _ hr.1.1 (hr.1.2.2 he) hr.2
    · rw [if_neg he]
      exact hr
theorem pTerm_inv (B : List Int) : ∀ (f p : Nat) (n : Int), 0 ≤ n → n ≤ 3000 → p ≤ B.length →
    (0 ≤ (pTerm B f p n).2.2.1 ∧ (pTerm B f p n).2.2.1 ≤ 3001 ∧ ((pTerm B f p n).2.2.2 = 0 → (pTerm B f p n).2.2.1 ≤ 3000)) ∧ (pTerm B f p n).2.1 ≤ B.length
  | 0, p, n, h0, h1, hp => ⟨⟨by simp only [pTerm]; omega, by simp only [pTerm]; omega, by simp [pTerm]⟩, hp⟩
  | f + 1, p, n, h0, h1, hp => by
    unfold pTerm
    split
    · exact ⟨⟨by simp only []; omega, by simp only []; omega, by simp⟩, hp⟩
    · split
      · exact ⟨⟨by simp only []; omega, by simp only []; omega, by simp⟩, hp⟩
      · have hk := pKids_inv B.length (pTerm B f) (fun p n a b c => pTerm_inv B f p n a b c) (rd B ((p + 9 : Nat) : Int)).toNat [] (p + 10) (n + 1) (by omega) (by omega) (by omega)
        split
        · exact hk
        · exact hk
theorem rd_range {B : List Int} (hx : ∀ x ∈ B, 0 ≤ x ∧ x ≤ 255) (j : Int) : 0 ≤ rd B j ∧ rd B j ≤ 255 := by
  unfold rd
  rw [List.getD_eq_getElem?_getD]
  by_cases h : j.toNat < B.length
  · rw [List.getElem?_eq_getElem h]
    exact hx _ (List.getElem_mem h)
  · rw [List.getElem?_eq_none (by omega)]
    simp

theorem pterm_some (f : Nat) {B : List Int} (ih : PCON B f) {W w : World} {g p : Nat} {n d : Int} (h : PD W w g B p n 0) (hB : Below W.heap.size W w) (hg : W.heap.size ≤ g) (hx : ∀ x ∈ B, 0 ≤ x ∧ x ≤ 255)
    (hp : p ≤ B.length) (hd : d + f = 120) (hd0 : 0 ≤ d) (hn : 0 ≤ n) (hn2 : n ≤ 2999) (hc : p + 10 ≤ B.length) :
    Calls Try.prog 27 #[.pointer (some ⟨g, 0, none⟩), .int .i64 d] w fun en w' => ∃ v, en = .returned (.agg #[.int .i64 (pTerm B (f + 1) p n).1.f0, .int .i64 (pTerm B (f + 1) p n).1.f1, v]) ∧ Kd.R k29 29 w' w.heap.size (fun _ => True) v (pTerm B (f + 1) p n).1.f2 ∧ PD W w' g B (pTerm B (f + 1) p n).2.1 (pTerm B (f + 1) p n).2.2.1 (pTerm B (f + 1) p n).2.2.2 ∧ KeepBut w w' g none ∧ Below W.heap.size W w' := by
  obtain ⟨A, c, hb, hc1, hr⟩ := h
  have HC := Aside0.mk hc1
  have HR := Aside0.mk hr
  have HG := Aside0.mk hg
  have HB := Aside0.mk hB
  have HK := Aside0.mk hb
  have HP := Aside0.mk hp
  have HC9 := Aside0.mk hc
  have IH := Aside0.mk @ih
  have HX := Aside0.mk hx
  have HD := Aside0.mk hd
  have hd9 : d ≤ 120 := by omega
  clear hc1 hr hg hB hb ih hx hd
  have hu61 := Try.underlying61
  have hu29 := Try.underlying29
  have hB1 := HR.out.2.1
  go_enter Try.func27, Try.ntmps27
  go_wp2_with (first | ((with_reducible refine gate_dst (N := 4) rfl ?_); refine box_event ?hg (N := 4) ?hd (cs := #[.int .i64 0, .int .i64 0, .slice none 0 0]) (t := 29) ?hr ?_; (case hd => rfl); (case hg => rfl); (case hr => first | (go_simp; done) | (go_simp; rfl)); intro g4 hg_ w3 hbox hb_; have K4 := Aside0.mk hbox; have KR := Aside0.mk (blk_below HK.out hb_); have B3 := Aside0.mk hb_; have G4 := Aside0.mk hg_; have n1 : g ≠ g4 := (by have h1 := blk_lt HK.out; have h2 := G4.out; omega); have n2 : g4 ≠ g := (Ne.symm n1); clear hbox hb_ hg_; have c0 : w3.cell? ⟨g, 0, none⟩ = some (.slice A B.length c) := (blk_cell KR.out 0).trans rfl; have c1 : w3.cell? ⟨g, 1, none⟩ = some (.int .i64 p) := (blk_cell KR.out 1).trans rfl; have c2 : w3.cell? ⟨g, 2, none⟩ = some (.int .i64 n) := (blk_cell KR.out 2).trans rfl; have c3 : w3.cell? ⟨g, 3, none⟩ = some (.int .i64 0) := (blk_cell KR.out 3).trans rfl; have f1 := blk_frozen KR.out 1; have f2 := blk_frozen KR.out 2; have f3 := blk_frozen KR.out 3; have k0 : w3.cell? ⟨g4, 0, none⟩ = some (.int .i64 0) := (blk_cell K4.out 0).trans rfl; have k1 : w3.cell? ⟨g4, 1, none⟩ = some (.int .i64 0) := (blk_cell K4.out 1).trans rfl; have k2 : w3.cell? ⟨g4, 2, none⟩ = some (.slice none 0 0) := (blk_cell K4.out 2).trans rfl; have kf0 := blk_frozen K4.out 0; have kf1 := blk_frozen K4.out 1; have kf2 := blk_frozen K4.out 2) | fail)
  generalize hw4 : (World.setCell w3 ⟨g, 2, none⟩ _) = w4
  have R4 := Aside0.mk (show w4.heap[g]? = some (.cells #[.slice A B.length c, .int .i64 p, .int .i64 (n + 1), .int .i64 0] 61 (0, 0)) by rw [← hw4]; exact blk_put KR.out 2 _ rfl)
  have K4' := Aside0.mk (show w4.heap[g4]? = some (.cells #[.int .i64 0, .int .i64 0, .slice none 0 0] 29 (0, 0)) by rw [← hw4]; exact blk_far K4.out n2 _)
  have B4 := Aside0.mk (show Below W.heap.size W w4 by rw [← hw4]; exact below_set (HB.out.trans (B3.out.mono HB.out.size)) HG.out)
  have Q4 := Aside0.mk (show KeepBut w w4 g none by rw [← hw4]; exact keepBut_trans ⟨B3.out.size, fun i hi _ _ => B3.out.block i hi⟩ keep_set)
  have N1 := Aside0.mk n1
  have W4 := Aside0.mk (Nat.le_of_eq G4.out.symm)
  clear hw4 K4 KR c0 c1 c2 c3 f1 f2 f3 k0 k1 k2 kf0 kf1 kf2 n1 n2 B3
  have K4 := K4'
  clear K4'
  have R4_ := Aside0.mk (blk_drew R4.out)
  clear R4
  have R4 := R4_
  clear R4_
  have K4_ := Aside0.mk (blk_drew K4.out)
  clear K4
  have K4 := K4_
  clear K4_
  have B4_ := Aside0.mk (below_drew1 B4.out)
  clear B4
  have B4 := B4_
  clear B4_
  have Q4_ := Aside0.mk (keep_drew Q4.out)
  clear Q4
  have Q4 := Q4_
  clear Q4_
  have c0 : w4.drew.cell? ⟨g, 0, none⟩ = some (.slice A B.length c) := (blk_cell R4.out 0).trans rfl
  have c1 : w4.drew.cell? ⟨g, 1, none⟩ = some (.int .i64 p) := (blk_cell R4.out 1).trans rfl
  have hsub : wrap64 ((B.length : Int) - (p : Int)) = (B.length : Int) - (p : Int) := wrap_id (by omega)
  have hlt : decide ((B.length : Int) - (p : Int) < 10) = false := decide_eq_false (by omega)
  refine start_ (n := 11) (S := fun w' => w' = w4.drew) (ds := []) #[false, false, false, false, false, false, false, false, false, false, false] (by kernel_rfl) rfl rfl rfl (fun hHeld => ?_)
  generalize w4.drew = w5 at R4 K4 B4 Q4 c0 c1 hHeld ⊢
  refine take_ (i := 0) (N := some 31) (v := ?_) (a' := ?_) #[true, false, false, false, false, false, false, false, false, false, false] rfl rfl (by kernel_rfl) (fun _ _ _ h => h) (Or.inl ⟨by rfl, ?_⟩) hHeld ?_ ?_
  rotate_left
  · rintro w' rfl
    go_simp
    with_reducible rfl
  rotate_left
  · simp only [Act.put, List.setIfInBounds_toArray, List.set_cons_zero, List.set_cons_succ, i64_w, i32_w, u8_w, u32_w, hsub, hlt]
    rfl
  refine take_ (i := 1) (N := some 32) (v := ?_) (a' := ?_) #[true, true, false, false, false, false, false, false, false, false, false] rfl rfl (by kernel_rfl) (fun _ _ _ h => h) (Or.inl ⟨by rfl, ?_⟩) hHeld ?_ ?_
  rotate_left
  · rintro w' rfl
    go_simp
    with_reducible rfl
  rotate_left
  · simp only [Act.put, List.setIfInBounds_toArray, List.set_cons_zero, List.set_cons_succ, i64_w, i32_w, u8_w, u32_w, hsub, hlt]
    rfl
  refine take_ (i := 2) (N := some 33) (v := ?_) (a' := ?_) #[true, true, true, false, false, false, false, false, false, false, false] rfl rfl (by kernel_rfl) (fun _ _ _ h => h) (Or.inl ⟨by rfl, ?_⟩) hHeld ?_ ?_
  rotate_left
  · rintro w' rfl
    go_simp
    with_reducible rfl
  rotate_left
  · simp only [Act.put, List.setIfInBounds_toArray, List.set_cons_zero, List.set_cons_succ, i64_w, i32_w, u8_w, u32_w, hsub, hlt]
    rfl
  refine take_ (i := 3) (N := some 34) (v := ?_) (a' := ?_) #[true, true, true, true, false, false, false, false, false, false, false] rfl rfl (by kernel_rfl) (fun _ _ _ h => h) (Or.inl ⟨by rfl, ?_⟩) hHeld ?_ ?_
  rotate_left
  · rintro w' rfl
    go_simp
    with_reducible rfl
  rotate_left
  · simp only [Act.put, List.setIfInBounds_toArray, List.set_cons_zero, List.set_cons_succ, i64_w, i32_w, u8_w, u32_w, hsub, hlt]
    rfl
  refine take_ (i := 4) (N := some 35) (v := ?_) (a' := ?_) #[true, true, true, true, true, false, false, false, false, false, false] rfl rfl (by kernel_rfl) (fun _ _ _ h => h) (Or.inl ⟨by rfl, ?_⟩) hHeld ?_ ?_
  rotate_left
  · rintro w' rfl
    go_simp
    with_reducible rfl
  rotate_left
  · simp only [Act.put, List.setIfInBounds_toArray, List.set_cons_zero, List.set_cons_succ, i64_w, i32_w, u8_w, u32_w, hsub, hlt]
    rfl
  refine take_ (i := 5) (N := some 36) (v := ?_) (a' := ?_) #[true, true, true, true, true, true, false, false, false, false, false] rfl rfl (by kernel_rfl) (fun _ _ _ h => h) (Or.inl ⟨by rfl, ?_⟩) hHeld ?_ ?_
  rotate_left
  · rintro w' rfl
    go_simp
    with_reducible rfl
  rotate_left
  · simp only [Act.put, List.setIfInBounds_toArray, List.set_cons_zero, List.set_cons_succ, i64_w, i32_w, u8_w, u32_w, hsub, hlt]
    rfl
  refine take_ (i := 6) (N := some 37) (v := ?_) (a' := ?_) #[true, true, true, true, true, true, true, false, false, false, false] rfl rfl (by kernel_rfl) (fun _ _ _ h => h) (Or.inl ⟨by rfl, ?_⟩) hHeld ?_ ?_
  rotate_left
  · rintro w' rfl
    go_simp
    with_reducible rfl
  rotate_left
  · simp only [Act.put, List.setIfInBounds_toArray, List.set_cons_zero, List.set_cons_succ, i64_w, i32_w, u8_w, u32_w, hsub, hlt]
    rfl
  refine take_ (i := 7) (N := some 38) (v := ?_) (a' := ?_) #[true, true, true, true, true, true, true, true, false, false, false] rfl rfl (by kernel_rfl) (fun _ _ _ h => h) (Or.inl ⟨by rfl, ?_⟩) hHeld ?_ ?_
  rotate_left
  · rintro w' rfl
    go_simp
    with_reducible rfl
  rotate_left
  · simp only [Act.put, List.setIfInBounds_toArray, List.set_cons_zero, List.set_cons_succ, i64_w, i32_w, u8_w, u32_w, hsub, hlt]
    rfl
  refine take_ (i := 8) (N := some 39) (v := ?_) (a' := ?_) #[true, true, true, true, true, true, true, true, true, false, false] rfl rfl (by kernel_rfl) (fun _ _ _ h => h) (Or.inl ⟨by rfl, ?_⟩) hHeld ?_ ?_
  rotate_left
  · rintro w' rfl
    go_simp
    with_reducible rfl
  rotate_left
  · simp only [Act.put, List.setIfInBounds_toArray, List.set_cons_zero, List.set_cons_succ, i64_w, i32_w, u8_w, u32_w, hsub, hlt]
    rfl
  refine take_ (i := 9) (N := some 40) (v := ?_) (a' := ?_) #[true, true, true, true, true, true, true, true, true, true, false] rfl rfl (by kernel_rfl) (fun _ _ _ h => h) (Or.inl ⟨by rfl, ?_⟩) hHeld ?_ ?_
  rotate_left
  · rintro w' rfl
    go_simp
    with_reducible rfl
  rotate_left
  · simp only [Act.put, List.setIfInBounds_toArray, List.set_cons_zero, List.set_cons_succ, i64_w, i32_w, u8_w, u32_w, hsub, hlt]
    rfl
  refine take_ (i := 10) (N := some 41) (v := ?_) (a' := ?_) #[true, true, true, true, true, true, true, true, true, true, true] rfl rfl (by kernel_rfl) (fun _ _ _ h => h) (Or.inl ⟨by rfl, ?_⟩) hHeld ?_ ?_
  rotate_left
  · rintro w' rfl
    go_simp
    with_reducible rfl
  rotate_left
  · simp only [Act.put, List.setIfInBounds_toArray, List.set_cons_zero, List.set_cons_succ, i64_w, i32_w, u8_w, u32_w, hsub, hlt]
    rfl
  refine done_ (by kernel_rfl) ?_
  clear c0 c1 hsub hlt hHeld
  go_wp2
  have R4_ := Aside0.mk (blk_drew R4.out)
  clear R4
  have R4 := R4_
  clear R4_
  have K4_ := Aside0.mk (blk_drew K4.out)
  clear K4
  have K4 := K4_
  clear K4_
  have B4_ := Aside0.mk (below_drew1 B4.out)
  clear B4
  have B4 := B4_
  clear B4_
  have Q4_ := Aside0.mk (keep_drew Q4.out)
  clear Q4
  have Q4 := Q4_
  clear Q4_
  have HY := Aside0.mk (Kd.C_below HR.out B4.out)
  obtain ⟨ad, e1, hx0⟩ := Kd.at_int HY.out (p : Int) (by omega) (by omega)
  subst e1
  rw [show ad.add ((p : Int)).toNat = ad.add p by rw [Int.toNat_natCast]] at hx0
  have c0 : w5.drew.cell? ⟨g, 0, none⟩ = some (.slice (some ad) B.length c) := (blk_cell R4.out 0).trans rfl
  have c1 : w5.drew.cell? ⟨g, 1, none⟩ = some (.int .i64 p) := (blk_cell R4.out 1).trans rfl
  have hp1 : ((p : Int) < (B.length : Int)) = True := eq_true (by omega)
  have hp2 : (p < B.length) = True := eq_true (by omega)


  refine start_ (n := 14) (S := fun w' => w'.cell? ⟨g, 0, none⟩ = some (.slice (some ad) B.length c) ∧ w'.cell? ⟨g, 1, none⟩ = some (.int .i64 p) ∧ w'.cell? (ad.add p) = some (.int .u8 (rd B (p : Int)))) (ds := [13]) #[false, false, false, false, false, false, false, false, false, false, false, false, false, false] (by kernel_rfl) rfl rfl ⟨c0, c1, hx0⟩ (fun hHeld => ?_)
  generalize w5.drew = w6 at R4 K4 B4 Q4 c0 c1 hx0 hHeld ⊢
  refine take_ (i := 0) (N := some 46) (v := ?_) (a' := ?_) #[true, false, false, false, false, false, false, false, false, false, false, false, false, false] rfl rfl (by kernel_rfl) (fun _ _ _ h => h) (Or.inl ⟨by rfl, ?_⟩) hHeld ?_ ?_
  rotate_left
  · rintro w' ⟨s0, s1, s2⟩
    go_simp
    with_reducible rfl
  rotate_left
  · simp only [Act.put, List.setIfInBounds_toArray, List.set_cons_zero, List.set_cons_succ, i64_w, i32_w, u8_w, u32_w, hp1, hp2]
    rfl
  refine take_ (i := 1) (N := some 47) (v := ?_) (a' := ?_) #[true, true, false, false, false, false, false, false, false, false, false, false, false, false] rfl rfl (by kernel_rfl) (fun _ _ _ h => h) (Or.inl ⟨by rfl, ?_⟩) hHeld ?_ ?_
  rotate_left
  · rintro w' ⟨s0, s1, s2⟩
    go_simp
    with_reducible rfl
  rotate_left
  · simp only [Act.put, List.setIfInBounds_toArray, List.set_cons_zero, List.set_cons_succ, i64_w, i32_w, u8_w, u32_w, hp1, hp2]
    rfl
  refine take_ (i := 2) (N := some 48) (v := ?_) (a' := ?_) #[true, true, true, false, false, false, false, false, false, false, false, false, false, false] rfl rfl (by kernel_rfl) (fun _ _ _ h => h) (Or.inl ⟨by rfl, ?_⟩) hHeld ?_ ?_
  rotate_left
  · rintro w' ⟨s0, s1, s2⟩
    go_simp
    with_reducible rfl
  rotate_left
  · simp only [Act.put, List.setIfInBounds_toArray, List.set_cons_zero, List.set_cons_succ, i64_w, i32_w, u8_w, u32_w, hp1, hp2]
    rfl
  refine take_ (i := 3) (N := some 49) (v := ?_) (a' := ?_) #[true, true, true, true, false, false, false, false, false, false, false, false, false, false] rfl rfl (by kernel_rfl) (fun _ _ _ h => h) (Or.inl ⟨by rfl, ?_⟩) hHeld ?_ ?_
  rotate_left
  · rintro w' ⟨s0, s1, s2⟩
    go_simp
    with_reducible rfl
  rotate_left
  · simp only [Act.put, List.setIfInBounds_toArray, List.set_cons_zero, List.set_cons_succ, i64_w, i32_w, u8_w, u32_w, hp1, hp2]
    rfl
  refine take_ (i := 4) (N := some 50) (v := ?_) (a' := ?_) #[true, true, true, true, true, false, false, false, false, false, false, false, false, false] rfl rfl (by kernel_rfl) (fun _ _ _ h => h) (Or.inl ⟨by rfl, ?_⟩) hHeld ?_ ?_
  rotate_left
  · rintro w' ⟨s0, s1, s2⟩
    go_simp
    with_reducible rfl
  rotate_left
  · simp only [Act.put, List.setIfInBounds_toArray, List.set_cons_zero, List.set_cons_succ, i64_w, i32_w, u8_w, u32_w, hp1, hp2]
    rfl
  refine take_ (i := 5) (N := some 51) (v := ?_) (a' := ?_) #[true, true, true, true, true, true, false, false, false, false, false, false, false, false] rfl rfl (by kernel_rfl) (fun _ _ _ h => h) (Or.inl ⟨by rfl, ?_⟩) hHeld ?_ ?_
  rotate_left
  · rintro w' ⟨s0, s1, s2⟩
    go_simp
    with_reducible rfl
  rotate_left
  · simp only [Act.put, List.setIfInBounds_toArray, List.set_cons_zero, List.set_cons_succ, i64_w, i32_w, u8_w, u32_w, hp1, hp2]
    rfl
  refine take_ (i := 6) (N := some 52) (v := ?_) (a' := ?_) #[true, true, true, true, true, true, true, false, false, false, false, false, false, false] rfl rfl (by kernel_rfl) (fun _ _ _ h => h) (Or.inl ⟨by rfl, ?_⟩) hHeld ?_ ?_
  rotate_left
  · rintro w' ⟨s0, s1, s2⟩
    go_simp
    with_reducible rfl
  rotate_left
  · simp only [Act.put, List.setIfInBounds_toArray, List.set_cons_zero, List.set_cons_succ, i64_w, i32_w, u8_w, u32_w, hp1, hp2]
    rfl
  refine take_ (i := 7) (N := some 53) (v := ?_) (a' := ?_) #[true, true, true, true, true, true, true, true, false, false, false, false, false, false] rfl rfl (by kernel_rfl) (fun _ _ _ h => h) (Or.inl ⟨by rfl, ?_⟩) hHeld ?_ ?_
  rotate_left
  · rintro w' ⟨s0, s1, s2⟩
    go_simp
    with_reducible rfl
  rotate_left
  · simp only [Act.put, List.setIfInBounds_toArray, List.set_cons_zero, List.set_cons_succ, i64_w, i32_w, u8_w, u32_w, hp1, hp2]
    rfl
  refine pure_ (i := 8) (N := some 54) (v := ?_) (a' := ?_) #[true, true, true, true, true, true, true, true, true, false, false, false, false, false] rfl rfl (by kernel_rfl) (fun _ _ _ h => h) (Or.inl ⟨by rfl, ?_⟩) ?_ ?_
  rotate_left
  · intro w'
    go_simp
    with_reducible rfl
  rotate_left
  · simp only [Act.put, List.setIfInBounds_toArray, List.set_cons_zero, List.set_cons_succ, i64_w, i32_w, u8_w, u32_w, hp1, hp2]
    rfl
  refine take_ (i := 9) (N := some 55) (v := ?_) (a' := ?_) #[true, true, true, true, true, true, true, true, true, true, false, false, false, false] rfl rfl (by kernel_rfl) (fun _ _ _ h => h) (Or.inl ⟨by rfl, ?_⟩) hHeld ?_ ?_
  rotate_left
  · rintro w' ⟨s0, s1, s2⟩
    go_simp
    with_reducible rfl
  rotate_left
  · simp only [Act.put, List.setIfInBounds_toArray, List.set_cons_zero, List.set_cons_succ, i64_w, i32_w, u8_w, u32_w, hp1, hp2]
    rfl
  refine pure_ (i := 10) (N := some 56) (v := ?_) (a' := ?_) #[true, true, true, true, true, true, true, true, true, true, true, false, false, false] rfl rfl (by kernel_rfl) (fun _ _ _ h => h) (Or.inl ⟨by rfl, ?_⟩) ?_ ?_
  rotate_left
  · intro w'
    go_simp
    with_reducible rfl
  rotate_left
  · simp only [Act.put, List.setIfInBounds_toArray, List.set_cons_zero, List.set_cons_succ, i64_w, i32_w, u8_w, u32_w, hp1, hp2]
    rfl
  refine pure_ (i := 11) (N := some 57) (v := ?_) (a' := ?_) #[true, true, true, true, true, true, true, true, true, true, true, true, false, false] rfl rfl (by kernel_rfl) (fun _ _ _ h => h) (Or.inl ⟨by rfl, ?_⟩) ?_ ?_
  rotate_left
  · intro w'
    go_simp
    with_reducible rfl
  rotate_left
  · simp only [Act.put, List.setIfInBounds_toArray, List.set_cons_zero, List.set_cons_succ, i64_w, i32_w, u8_w, u32_w, hp1, hp2]
    rfl
  refine one_ (i := 12) (N := some 5) #[true, true, true, true, true, true, true, true, true, true, true, true, true, false] rfl rfl (by kernel_rfl) (by decide) (fun K hK => ?_)
  refine value_ (w1 := ?_) (v := ?_) (by rfl) rfl ?_ ?_
  rotate_left 2
  · go_simp
    constructor
    · rfl
    · rfl
  have L7 := Aside0.mk (blk_new w6 (.cells #[.int .i64 0, .int .i64 0, .slice none 0 0] 29 (0, 0)))
  have B67 := Aside0.mk (below_alloc (Below.refl w6.heap.size w6) (.cells #[.int .i64 0, .int .i64 0, .slice none 0 0] 29 (0, 0)))
  obtain ⟨g5, hg5⟩ : ∃ g5, g5 = w6.heap.size := ⟨_, rfl⟩
  rw [← hg5] at L7 ⊢
  have N5 := Aside0.mk (show g ≠ g5 by have h1 := blk_lt R4.out; omega)
  have N45 := Aside0.mk (show g4 ≠ g5 by have h1 := blk_lt K4.out; omega)
  have W5 := Aside0.mk (show w.heap.size ≤ g5 by have h1 := Q4.out.1; omega)
  have WW5 := Aside0.mk (show W.heap.size ≤ g5 by have h1 := B4.out.size; omega)
  clear hg5
  generalize (w6.alloc (.cells #[.int .i64 0, .int .i64 0, .slice none 0 0] 29 (0, 0))) = w7 at L7 B67 ⊢
  have R7 := Aside0.mk (blk_below R4.out B67.out)
  have K7 := Aside0.mk (blk_below K4.out B67.out)
  have B7 := Aside0.mk (B4.out.trans (B67.out.mono B4.out.size))
  have Q7 := Aside0.mk (keep_below Q4.out B67.out)
  clear c0 c1 hx0 hHeld R4 K4 B4 Q4 B67 HY
  have HY := Aside0.mk (Kd.C_below HR.out B7.out)
  obtain ⟨ad', e', hx0⟩ := Kd.at_int HY.out (p : Int) (by omega) (by omega)
  cases e'
  rw [show ad.add ((p : Int)).toNat = ad.add p by rw [Int.toNat_natCast]] at hx0
  refine hK.out _ _ ⟨(blk_cell R7.out 0).trans rfl, (blk_cell R7.out 1).trans rfl, hx0⟩ (fun hHeld => ?_)
  clear hK K hHeld hx0 HY hp1 hp2
  refine norm_ (a' := ?_) ?_ ?_
  rotate_left
  · show Act.put _ (some 5) _ = _
    simp only [Act.put, List.setIfInBounds_toArray, List.set_cons_zero, List.set_cons_succ, i64_w, i32_w, u8_w, u32_w]
    rfl
  refine last_ (i := 13) (N := none) #[true, true, true, true, true, true, true, true, true, true, true, true, true, true] rfl rfl (by kernel_rfl) (by decide) (fun K hK => ?_)
  have l0 : w7.cell? ⟨g5, 0, none⟩ = some (.int .i64 0) := (blk_cell L7.out 0).trans rfl
  have l1 : w7.cell? ⟨g5, 1, none⟩ = some (.int .i64 0) := (blk_cell L7.out 1).trans rfl
  have l2 : w7.cell? ⟨g5, 2, none⟩ = some (.slice none 0 0) := (blk_cell L7.out 2).trans rfl
  have lf0 := blk_frozen L7.out 0
  have lf1 := blk_frozen L7.out 1
  have lf2 := blk_frozen L7.out 2
  refine skip_ (w1 := ?_) (by rfl) rfl ?_ ?_
  rotate_left
  · go_simp
    rfl
  refine hK.out _ _ ?_
  clear hK K
  refine done_ (by kernel_rfl) ?_
  clear l0 l1 l2 lf0 lf1 lf2
  have hrp : wrap64 (rd B (p : Int)) = rd B (p : Int) := wrap_id (by have := rd_range HX.out (p : Int); omega)
  generalize hw8 : World.setCell (World.setCell (World.setCell w7 ⟨g5, 0, none⟩ _) ⟨g5, 1, none⟩ _) ⟨g5, 2, none⟩ _ = w8
  have R8 := Aside0.mk (show w8.heap[g]? = some (.cells #[.slice (some ad) B.length c, .int .i64 p, .int .i64 (n + 1), .int .i64 0] 61 (0, 0)) by rw [← hw8]; exact blk_far (blk_far (blk_far R7.out N5.out _) N5.out _) N5.out _)
  have K8 := Aside0.mk (show w8.heap[g4]? = some (.cells #[.int .i64 0, .int .i64 0, .slice none 0 0] 29 (0, 0)) by rw [← hw8]; exact blk_far (blk_far (blk_far K7.out N45.out _) N45.out _) N45.out _)
  have L8 := Aside0.mk (show w8.heap[g5]? = some (.cells #[.int .i64 (rd B (p : Int)), .int .i64 0, .slice none 0 0] 29 (0, 0)) by rw [← hw8, hrp]; exact blk_put (blk_put (blk_put L7.out 0 _ rfl) 1 _ rfl) 2 _ rfl)
  have B8 := Aside0.mk (show Below W.heap.size W w8 by rw [← hw8]; exact below_set (below_set (below_set B7.out WW5.out) WW5.out) WW5.out)
  have Q8 := Aside0.mk (show KeepBut w w8 g none by rw [← hw8]; exact keep_far (keep_far (keep_far Q7.out W5.out) W5.out) W5.out)
  clear hw8 R7 K7 L7 B7 Q7 hrp
  go_wp2
  go_loopw [6, 7] (fun v6 v7 w' => ∃ j : Nat, j ≤ 8 ∧ v6 = .int .u64 (pNum B p (8 - j)) ∧ v7 = .int .i64 j ∧ Aside0 (w'.heap[g]? = some (.cells #[.slice (some ad) B.length c, .int .i64 p, .int .i64 (n + 1), .int .i64 0] 61 (0, 0))) ∧ Aside0 (w'.heap[g4]? = some (.cells #[.int .i64 0, .int .i64 0, .slice none 0 0] 29 (0, 0))) ∧ Aside0 (w'.heap[g5]? = some (.cells #[.int .i64 (rd B (p : Int)), .int .i64 0, .slice none 0 0] 29 (0, 0))) ∧ Aside0 (Below W.heap.size W w') ∧ Aside0 (KeepBut w w' g none)) (fun v6 v7 _ => (intOf v7).toNat)
  case atStart => exact ⟨8, by omega, rfl, rfl, R8, K8, L8, B8, Q8⟩
  case round =>
    clear R8 K8 L8 B8 Q8
    obtain ⟨j, hj, rfl, rfl, R8, K8, L8, B8, Q8⟩ := hrel
    by_cases hlt : 0 < j
    · have hgt : decide ((j : Int) > 0) = true := decide_eq_true (by omega)
      have hgt2 : ((0 : Int) < (j : Int)) = True := eq_true (by omega)
      have hgt3 : (0 < j) = True := eq_true (by omega)
      have hpn : pNum B p (8 - (j - 1)) = Go.bits .or .u64 (IntKind.u64.wrap (pNum B p (8 - j) * 256)) (rd B ((p + j : Nat) : Int)) := by
        rw [show 8 - (j - 1) = (8 - j) + 1 by omega]
        simp only [pNum]
        rw [show 8 - (8 - j) = j by omega]
      have HPN := Aside0.mk hpn
      clear hpn
      generalize pNum B p (8 - j) = u at HPN ⊢
      go_wp2
      obtain ⟨s, hs⟩ : ∃ s, s = p + j := ⟨_, rfl⟩
      rw [← hs] at HPN
      have R8_ := Aside0.mk (blk_drew R8.out)
      clear R8
      have R8 := R8_
      clear R8_
      have K8_ := Aside0.mk (blk_drew K8.out)
      clear K8
      have K8 := K8_
      clear K8_
      have L8_ := Aside0.mk (blk_drew L8.out)
      clear L8
      have L8 := L8_
      clear L8_
      have B8_ := Aside0.mk (below_drew1 B8.out)
      clear B8
      have B8 := B8_
      clear B8_
      have Q8_ := Aside0.mk (keep_drew Q8.out)
      clear Q8
      have Q8 := Q8_
      clear Q8_
      have HY := Aside0.mk (Kd.C_below HR.out B8.out)
      obtain ⟨ad', e', hxs⟩ := Kd.at_int HY.out (s : Int) (by omega) (by omega)
      cases e'
      rw [show ad.add ((s : Int)).toNat = ad.add s by rw [Int.toNat_natCast]] at hxs
      clear HY
      have hsj : wrap64 ((p : Int) + (j : Int)) = (s : Int) := by (try have := HQ8.out); rw [wrap_id (by omega)]; omega
      have hr0 := rd_range HX.out (s : Int)
      have hru : IntKind.u64.wrap (rd B (s : Int)) = rd B (s : Int) := wrap_u64 (by omega) (by omega)
      clear hr0
      have hp1 : ((s : Int) < (B.length : Int)) = True := eq_true (by omega)
      have hp2 : (s < B.length) = True := eq_true (by omega)
      clear hs
      have c0 : wr.drew.cell? ⟨g, 0, none⟩ = some (.slice (some ad) B.length c) := (blk_cell R8.out 0).trans rfl
      have c1 : wr.drew.cell? ⟨g, 1, none⟩ = some (.int .i64 p) := (blk_cell R8.out 1).trans rfl
      refine start_ (n := 17) (S := fun w' => w' = wr.drew) (ds := []) #[false, false, false, false, false, false, false, false, false, false, false, false, false, false, false, false, false] (by kernel_rfl) rfl rfl rfl (fun hHeld => ?_)
      generalize wr.drew = w10 at R8 K8 L8 B8 Q8 c0 c1 hxs hHeld ⊢
      refine take_ (i := 0) (N := some 62) (v := ?_) (a' := ?_) #[true, false, false, false, false, false, false, false, false, false, false, false, false, false, false, false, false] rfl rfl (by kernel_rfl) (fun _ _ _ h => h) (Or.inl ⟨by rfl, ?_⟩) hHeld ?_ ?_
      rotate_left
      · rintro w' rfl
        go_simp
        with_reducible rfl
      rotate_left
      · simp only [Act.put, List.setIfInBounds_toArray, List.set_cons_zero, List.set_cons_succ, i64_w, i32_w, u8_w, u32_w, hsj, hru]
        rfl
      refine take_ (i := 1) (N := some 63) (v := ?_) (a' := ?_) #[true, true, false, false, false, false, false, false, false, false, false, false, false, false, false, false, false] rfl rfl (by kernel_rfl) (fun _ _ _ h => h) (Or.inl ⟨by rfl, ?_⟩) hHeld ?_ ?_
      rotate_left
      · rintro w' rfl
        go_simp
        with_reducible rfl
      rotate_left
      · simp only [Act.put, List.setIfInBounds_toArray, List.set_cons_zero, List.set_cons_succ, i64_w, i32_w, u8_w, u32_w, hsj, hru]
        rfl
      refine take_ (i := 2) (N := some 64) (v := ?_) (a' := ?_) #[true, true, true, false, false, false, false, false, false, false, false, false, false, false, false, false, false] rfl rfl (by kernel_rfl) (fun _ _ _ h => h) (Or.inl ⟨by rfl, ?_⟩) hHeld ?_ ?_
      rotate_left
      · rintro w' rfl
        go_simp
        with_reducible rfl
      rotate_left
      · simp only [Act.put, List.setIfInBounds_toArray, List.set_cons_zero, List.set_cons_succ, i64_w, i32_w, u8_w, u32_w, hsj, hru]
        rfl
      refine take_ (i := 3) (N := some 65) (v := ?_) (a' := ?_) #[true, true, true, true, false, false, false, false, false, false, false, false, false, false, false, false, false] rfl rfl (by kernel_rfl) (fun _ _ _ h => h) (Or.inl ⟨by rfl, ?_⟩) hHeld ?_ ?_
      rotate_left
      · rintro w' rfl
        go_simp
        with_reducible rfl
      rotate_left
      · simp only [Act.put, List.setIfInBounds_toArray, List.set_cons_zero, List.set_cons_succ, i64_w, i32_w, u8_w, u32_w, hsj, hru]
        rfl
      refine take_ (i := 4) (N := some 66) (v := ?_) (a' := ?_) #[true, true, true, true, true, false, false, false, false, false, false, false, false, false, false, false, false] rfl rfl (by kernel_rfl) (fun _ _ _ h => h) (Or.inl ⟨by rfl, ?_⟩) hHeld ?_ ?_
      rotate_left
      · rintro w' rfl
        go_simp
        with_reducible rfl
      rotate_left
      · simp only [Act.put, List.setIfInBounds_toArray, List.set_cons_zero, List.set_cons_succ, i64_w, i32_w, u8_w, u32_w, hsj, hru]
        rfl
      refine take_ (i := 5) (N := some 67) (v := ?_) (a' := ?_) #[true, true, true, true, true, true, false, false, false, false, false, false, false, false, false, false, false] rfl rfl (by kernel_rfl) (fun _ _ _ h => h) (Or.inl ⟨by rfl, ?_⟩) hHeld ?_ ?_
      rotate_left
      · rintro w' rfl
        go_simp
        with_reducible rfl
      rotate_left
      · simp only [Act.put, List.setIfInBounds_toArray, List.set_cons_zero, List.set_cons_succ, i64_w, i32_w, u8_w, u32_w, hsj, hru]
        rfl
      refine take_ (i := 6) (N := some 68) (v := ?_) (a' := ?_) #[true, true, true, true, true, true, true, false, false, false, false, false, false, false, false, false, false] rfl rfl (by kernel_rfl) (fun _ _ _ h => h) (Or.inl ⟨by rfl, ?_⟩) hHeld ?_ ?_
      rotate_left
      · rintro w' rfl
        go_simp
        with_reducible rfl
      rotate_left
      · simp only [Act.put, List.setIfInBounds_toArray, List.set_cons_zero, List.set_cons_succ, i64_w, i32_w, u8_w, u32_w, hsj, hru]
        rfl
      refine take_ (i := 7) (N := some 69) (v := ?_) (a' := ?_) #[true, true, true, true, true, true, true, true, false, false, false, false, false, false, false, false, false] rfl rfl (by kernel_rfl) (fun _ _ _ h => h) (Or.inl ⟨by rfl, ?_⟩) hHeld ?_ ?_
      rotate_left
      · rintro w' rfl
        go_simp
        with_reducible rfl
      rotate_left
      · simp only [Act.put, List.setIfInBounds_toArray, List.set_cons_zero, List.set_cons_succ, i64_w, i32_w, u8_w, u32_w, hsj, hru]
        rfl
      refine take_ (i := 8) (N := some 70) (v := ?_) (a' := ?_) #[true, true, true, true, true, true, true, true, true, false, false, false, false, false, false, false, false] rfl rfl (by kernel_rfl) (fun _ _ _ h => h) (Or.inl ⟨by rfl, ?_⟩) hHeld ?_ ?_
      rotate_left
      · rintro w' rfl
        go_simp
        with_reducible rfl
      rotate_left
      · simp only [Act.put, List.setIfInBounds_toArray, List.set_cons_zero, List.set_cons_succ, i64_w, i32_w, u8_w, u32_w, hsj, hru]
        rfl
      refine take_ (i := 9) (N := some 71) (v := ?_) (a' := ?_) #[true, true, true, true, true, true, true, true, true, true, false, false, false, false, false, false, false] rfl rfl (by kernel_rfl) (fun _ _ _ h => h) (Or.inl ⟨by rfl, ?_⟩) hHeld ?_ ?_
      rotate_left
      · rintro w' rfl
        go_simp
        with_reducible rfl
      rotate_left
      · simp only [Act.put, List.setIfInBounds_toArray, List.set_cons_zero, List.set_cons_succ, i64_w, i32_w, u8_w, u32_w, hsj, hru]
        rfl
      refine take_ (i := 10) (N := some 72) (v := ?_) (a' := ?_) #[true, true, true, true, true, true, true, true, true, true, true, false, false, false, false, false, false] rfl rfl (by kernel_rfl) (fun _ _ _ h => h) (Or.inl ⟨by rfl, ?_⟩) hHeld ?_ ?_
      rotate_left
      · rintro w' rfl
        go_simp
        with_reducible rfl
      rotate_left
      · simp only [Act.put, List.setIfInBounds_toArray, List.set_cons_zero, List.set_cons_succ, i64_w, i32_w, u8_w, u32_w, hsj, hru]
        rfl
      refine take_ (i := 11) (N := some 73) (v := ?_) (a' := ?_) #[true, true, true, true, true, true, true, true, true, true, true, true, false, false, false, false, false] rfl rfl (by kernel_rfl) (fun _ _ _ h => h) (Or.inl ⟨by rfl, ?_⟩) hHeld ?_ ?_
      rotate_left
      · rintro w' rfl
        go_simp
        with_reducible rfl
      rotate_left
      · simp only [Act.put, List.setIfInBounds_toArray, List.set_cons_zero, List.set_cons_succ, i64_w, i32_w, u8_w, u32_w, hsj, hru]
        rfl
      refine take_ (i := 12) (N := some 74) (v := ?_) (a' := ?_) #[true, true, true, true, true, true, true, true, true, true, true, true, true, false, false, false, false] rfl rfl (by kernel_rfl) (fun _ _ _ h => h) (Or.inl ⟨by rfl, ?_⟩) hHeld ?_ ?_
      rotate_left
      · rintro w' rfl
        go_simp
        with_reducible rfl
      rotate_left
      · simp only [Act.put, List.setIfInBounds_toArray, List.set_cons_zero, List.set_cons_succ, i64_w, i32_w, u8_w, u32_w, hsj, hru]
        rfl
      refine take_ (i := 13) (N := some 75) (v := ?_) (a' := ?_) #[true, true, true, true, true, true, true, true, true, true, true, true, true, true, false, false, false] rfl rfl (by kernel_rfl) (fun _ _ _ h => h) (Or.inl ⟨by rfl, ?_⟩) hHeld ?_ ?_
      rotate_left
      · rintro w' rfl
        go_simp
        with_reducible rfl
      rotate_left
      · simp only [Act.put, List.setIfInBounds_toArray, List.set_cons_zero, List.set_cons_succ, i64_w, i32_w, u8_w, u32_w, hsj, hru]
        rfl
      refine take_ (i := 14) (N := some 76) (v := ?_) (a' := ?_) #[true, true, true, true, true, true, true, true, true, true, true, true, true, true, true, false, false] rfl rfl (by kernel_rfl) (fun _ _ _ h => h) (Or.inl ⟨by rfl, ?_⟩) hHeld ?_ ?_
      rotate_left
      · rintro w' rfl
        go_simp
        with_reducible rfl
      rotate_left
      · simp only [Act.put, List.setIfInBounds_toArray, List.set_cons_zero, List.set_cons_succ, i64_w, i32_w, u8_w, u32_w, hsj, hru]
        rfl
      refine take_ (i := 15) (N := some 77) (v := ?_) (a' := ?_) #[true, true, true, true, true, true, true, true, true, true, true, true, true, true, true, true, false] rfl rfl (by kernel_rfl) (fun _ _ _ h => h) (Or.inl ⟨by rfl, ?_⟩) hHeld ?_ ?_
      rotate_left
      · rintro w' rfl
        go_simp
        with_reducible rfl
      rotate_left
      · simp only [Act.put, List.setIfInBounds_toArray, List.set_cons_zero, List.set_cons_succ, i64_w, i32_w, u8_w, u32_w, hsj, hru]
        rfl
      refine take_ (i := 16) (N := some 6) (v := ?_) (a' := ?_) #[true, true, true, true, true, true, true, true, true, true, true, true, true, true, true, true, true] rfl rfl (by kernel_rfl) (fun _ _ _ h => h) (Or.inl ⟨by rfl, ?_⟩) hHeld ?_ ?_
      rotate_left
      · rintro w' rfl
        go_simp
        with_reducible rfl
      rotate_left
      · simp only [Act.put, List.setIfInBounds_toArray, List.set_cons_zero, List.set_cons_succ, i64_w, i32_w, u8_w, u32_w, hsj, hru]
        rfl
      refine done_ (by kernel_rfl) ?_
      clear hsj hru hp1 hp2 c0 c1 hxs hHeld
      go_wp2
      go_roundw
      case measure => simp [intOf]; omega
      case rel => exact ⟨j - 1, by omega, by rw [HPN.out], by rw [show ((j - 1 : Nat) : Int) = (j : Int) - 1 by omega], R8, K8, L8, B8, Q8⟩
    · have e8 : 8 - j = 8 := by omega
      rw [e8]
      clear e8
      have hgt : decide ((j : Int) > 0) = false := decide_eq_false (by omega)
      have hgt2 : ((0 : Int) < (j : Int)) = False := eq_false (by omega)
      have hgt3 : (0 < j) = False := eq_false (by omega)
      obtain ⟨u, hu⟩ : ∃ u, u = pNum B p 8 := ⟨_, rfl⟩
      rw [← hu]
      have HU := Aside0.mk hu
      clear hu
      have l1 : wr.cell? ⟨g5, 1, none⟩ = some (.int .i64 0) := (blk_cell L8.out 1).trans rfl
      have lf1 := blk_frozen L8.out 1
      go_wp2
      clear hgt hgt2 hgt3 l1 lf1
      generalize hw8 : World.setCell wr ⟨g5, 1, none⟩ _ = w8
      have R8' := Aside0.mk (show w8.heap[g]? = some (.cells #[.slice (some ad) B.length c, .int .i64 p, .int .i64 (n + 1), .int .i64 0] 61 (0, 0)) by rw [← hw8]; exact blk_far R8.out N5.out _)
      have K8' := Aside0.mk (show w8.heap[g4]? = some (.cells #[.int .i64 0, .int .i64 0, .slice none 0 0] 29 (0, 0)) by rw [← hw8]; exact blk_far K8.out N45.out _)
      have L8' := Aside0.mk (show w8.heap[g5]? = some (.cells #[.int .i64 (rd B (p : Int)), .int .i64 (wrap64 u), .slice none 0 0] 29 (0, 0)) by rw [← hw8]; exact blk_put L8.out 1 _ rfl)
      have B8' := Aside0.mk (show Below W.heap.size W w8 by rw [← hw8]; exact below_set B8.out WW5.out)
      have Q8' := Aside0.mk (show KeepBut w w8 g none by rw [← hw8]; exact keep_far Q8.out W5.out)
      clear hw8 R8 K8 L8 B8 Q8
      have R9 := Aside0.mk (blk_drew R8'.out)
      have K9 := Aside0.mk (blk_drew K8'.out)
      have L9 := Aside0.mk (blk_drew L8'.out)
      have B9 := Aside0.mk (below_drew1 B8'.out)
      have Q9 := Aside0.mk (keep_drew Q8'.out)
      clear R8' K8' L8' B8' Q8'
      obtain ⟨q8, hq8⟩ : ∃ q, q = p + 8 := ⟨_, rfl⟩
      obtain ⟨q9, hq9⟩ : ∃ q, q = p + 9 := ⟨_, rfl⟩
      have HY := Aside0.mk (Kd.C_below HR.out B9.out)
      obtain ⟨ad', e', hxq⟩ := Kd.at_int HY.out (q9 : Int) (by omega) (by omega)
      cases e'
      rw [show ad.add ((q9 : Int)).toNat = ad.add q9 by rw [Int.toNat_natCast]] at hxq
      clear HY
      have hr0 := rd_range HX.out (q9 : Int)
      obtain ⟨m, hm⟩ := Int.eq_ofNat_of_zero_le hr0.1
      have hm9 : m ≤ 255 := by omega
      rw [hm] at hxq
      rw [hq9] at hm
      have M := Aside0.mk hm
      clear hm hr0
      have hmm : wrap64 (m : Int) = (m : Int) := wrap_id (by omega)
      have hp1 : ((q9 : Int) < (B.length : Int)) = True := eq_true (by omega)
      have hp2 : (q9 < B.length) = True := eq_true (by omega)
      obtain ⟨q0, hq0⟩ : ∃ q, q = p + 10 := ⟨_, rfl⟩
      have HQ0 := Aside0.mk hq0
      obtain ⟨hw8, hw9, hw10⟩ : wrap64 ((p : Int) + 8) = (q8 : Int) ∧ wrap64 ((q8 : Int) + 1) = (q9 : Int) ∧ wrap64 ((q8 : Int) + 2) = (q0 : Int) := by refine ⟨?_, ?_, ?_⟩ <;> (rw [wrap_id (by omega)]; omega)
      clear hq0
      have HQ8 := Aside0.mk hq8
      clear hq8 hq9
      have c0 : w8.drew.cell? ⟨g, 0, none⟩ = some (.slice (some ad) B.length c) := (blk_cell R9.out 0).trans rfl
      have c1 : w8.drew.cell? ⟨g, 1, none⟩ = some (.int .i64 p) := (blk_cell R9.out 1).trans rfl
      refine start_ (n := 14) (S := fun w' => w' = w8.drew) (ds := []) #[false, false, false, false, false, false, false, false, false, false, false, false, false, false] (by kernel_rfl) rfl rfl rfl (fun hHeld => ?_)
      generalize w8.drew = w9 at R9 K9 L9 B9 Q9 c0 c1 hxq hHeld ⊢
      refine take_ (i := 0) (N := some 81) (v := ?_) (a' := ?_) #[true, false, false, false, false, false, false, false, false, false, false, false, false, false] rfl rfl (by kernel_rfl) (fun _ _ _ h => h) (Or.inl ⟨by rfl, ?_⟩) hHeld ?_ ?_
      rotate_left
      · rintro w' rfl
        go_simp
        with_reducible rfl
      rotate_left
      · simp only [Act.put, List.setIfInBounds_toArray, List.set_cons_zero, List.set_cons_succ, i64_w, i32_w, u8_w, u32_w, hw8, hw9, hmm]
        rfl
      refine take_ (i := 1) (N := some 82) (v := ?_) (a' := ?_) #[true, true, false, false, false, false, false, false, false, false, false, false, false, false] rfl rfl (by kernel_rfl) (fun _ _ _ h => h) (Or.inl ⟨by rfl, ?_⟩) hHeld ?_ ?_
      rotate_left
      · rintro w' rfl
        go_simp
        with_reducible rfl
      rotate_left
      · simp only [Act.put, List.setIfInBounds_toArray, List.set_cons_zero, List.set_cons_succ, i64_w, i32_w, u8_w, u32_w, hw8, hw9, hmm]
        rfl
      refine take_ (i := 2) (N := some 83) (v := ?_) (a' := ?_) #[true, true, true, false, false, false, false, false, false, false, false, false, false, false] rfl rfl (by kernel_rfl) (fun _ _ _ h => h) (Or.inl ⟨by rfl, ?_⟩) hHeld ?_ ?_
      rotate_left
      · rintro w' rfl
        go_simp
        with_reducible rfl
      rotate_left
      · simp only [Act.put, List.setIfInBounds_toArray, List.set_cons_zero, List.set_cons_succ, i64_w, i32_w, u8_w, u32_w, hw8, hw9, hmm]
        rfl
      refine take_ (i := 3) (N := some 84) (v := ?_) (a' := ?_) #[true, true, true, true, false, false, false, false, false, false, false, false, false, false] rfl rfl (by kernel_rfl) (fun _ _ _ h => h) (Or.inl ⟨by rfl, ?_⟩) hHeld ?_ ?_
      rotate_left
      · rintro w' rfl
        go_simp
        with_reducible rfl
      rotate_left
      · simp only [Act.put, List.setIfInBounds_toArray, List.set_cons_zero, List.set_cons_succ, i64_w, i32_w, u8_w, u32_w, hw8, hw9, hmm]
        rfl
      refine take_ (i := 4) (N := some 85) (v := ?_) (a' := ?_) #[true, true, true, true, true, false, false, false, false, false, false, false, false, false] rfl rfl (by kernel_rfl) (fun _ _ _ h => h) (Or.inl ⟨by rfl, ?_⟩) hHeld ?_ ?_
      rotate_left
      · rintro w' rfl
        go_simp
        with_reducible rfl
      rotate_left
      · simp only [Act.put, List.setIfInBounds_toArray, List.set_cons_zero, List.set_cons_succ, i64_w, i32_w, u8_w, u32_w, hw8, hw9, hmm]
        rfl
      refine take_ (i := 5) (N := some 86) (v := ?_) (a' := ?_) #[true, true, true, true, true, true, false, false, false, false, false, false, false, false] rfl rfl (by kernel_rfl) (fun _ _ _ h => h) (Or.inl ⟨by rfl, ?_⟩) hHeld ?_ ?_
      rotate_left
      · rintro w' rfl
        go_simp
        with_reducible rfl
      rotate_left
      · simp only [Act.put, List.setIfInBounds_toArray, List.set_cons_zero, List.set_cons_succ, i64_w, i32_w, u8_w, u32_w, hw8, hw9, hmm]
        rfl
      refine take_ (i := 6) (N := some 87) (v := ?_) (a' := ?_) #[true, true, true, true, true, true, true, false, false, false, false, false, false, false] rfl rfl (by kernel_rfl) (fun _ _ _ h => h) (Or.inl ⟨by rfl, ?_⟩) hHeld ?_ ?_
      rotate_left
      · rintro w' rfl
        go_simp
        with_reducible rfl
      rotate_left
      · simp only [Act.put, List.setIfInBounds_toArray, List.set_cons_zero, List.set_cons_succ, i64_w, i32_w, u8_w, u32_w, hw8, hw9, hmm]
        rfl
      refine take_ (i := 7) (N := some 88) (v := ?_) (a' := ?_) #[true, true, true, true, true, true, true, true, false, false, false, false, false, false] rfl rfl (by kernel_rfl) (fun _ _ _ h => h) (Or.inl ⟨by rfl, ?_⟩) hHeld ?_ ?_
      rotate_left
      · rintro w' rfl
        go_simp
        with_reducible rfl
      rotate_left
      · simp only [Act.put, List.setIfInBounds_toArray, List.set_cons_zero, List.set_cons_succ, i64_w, i32_w, u8_w, u32_w, hw8, hw9, hmm]
        rfl
      refine take_ (i := 8) (N := some 89) (v := ?_) (a' := ?_) #[true, true, true, true, true, true, true, true, true, false, false, false, false, false] rfl rfl (by kernel_rfl) (fun _ _ _ h => h) (Or.inl ⟨by rfl, ?_⟩) hHeld ?_ ?_
      rotate_left
      · rintro w' rfl
        go_simp
        with_reducible rfl
      rotate_left
      · simp only [Act.put, List.setIfInBounds_toArray, List.set_cons_zero, List.set_cons_succ, i64_w, i32_w, u8_w, u32_w, hw8, hw9, hmm]
        rfl
      refine take_ (i := 9) (N := some 90) (v := ?_) (a' := ?_) #[true, true, true, true, true, true, true, true, true, true, false, false, false, false] rfl rfl (by kernel_rfl) (fun _ _ _ h => h) (Or.inl ⟨by rfl, ?_⟩) hHeld ?_ ?_
      rotate_left
      · rintro w' rfl
        go_simp
        with_reducible rfl
      rotate_left
      · simp only [Act.put, List.setIfInBounds_toArray, List.set_cons_zero, List.set_cons_succ, i64_w, i32_w, u8_w, u32_w, hw8, hw9, hmm]
        rfl
      refine take_ (i := 10) (N := some 91) (v := ?_) (a' := ?_) #[true, true, true, true, true, true, true, true, true, true, true, false, false, false] rfl rfl (by kernel_rfl) (fun _ _ _ h => h) (Or.inl ⟨by rfl, ?_⟩) hHeld ?_ ?_
      rotate_left
      · rintro w' rfl
        go_simp
        with_reducible rfl
      rotate_left
      · simp only [Act.put, List.setIfInBounds_toArray, List.set_cons_zero, List.set_cons_succ, i64_w, i32_w, u8_w, u32_w, hw8, hw9, hmm]
        rfl
      refine take_ (i := 11) (N := some 92) (v := ?_) (a' := ?_) #[true, true, true, true, true, true, true, true, true, true, true, true, false, false] rfl rfl (by kernel_rfl) (fun _ _ _ h => h) (Or.inl ⟨by rfl, ?_⟩) hHeld ?_ ?_
      rotate_left
      · rintro w' rfl
        go_simp
        with_reducible rfl
      rotate_left
      · simp only [Act.put, List.setIfInBounds_toArray, List.set_cons_zero, List.set_cons_succ, i64_w, i32_w, u8_w, u32_w, hw8, hw9, hmm]
        rfl
      refine take_ (i := 12) (N := some 93) (v := ?_) (a' := ?_) #[true, true, true, true, true, true, true, true, true, true, true, true, true, false] rfl rfl (by kernel_rfl) (fun _ _ _ h => h) (Or.inl ⟨by rfl, ?_⟩) hHeld ?_ ?_
      rotate_left
      · rintro w' rfl
        go_simp
        with_reducible rfl
      rotate_left
      · simp only [Act.put, List.setIfInBounds_toArray, List.set_cons_zero, List.set_cons_succ, i64_w, i32_w, u8_w, u32_w, hw8, hw9, hmm]
        rfl
      refine take_ (i := 13) (N := some 8) (v := ?_) (a' := ?_) #[true, true, true, true, true, true, true, true, true, true, true, true, true, true] rfl rfl (by kernel_rfl) (fun _ _ _ h => h) (Or.inl ⟨by rfl, ?_⟩) hHeld ?_ ?_
      rotate_left
      · rintro w' rfl
        go_simp
        with_reducible rfl
      rotate_left
      · simp only [Act.put, List.setIfInBounds_toArray, List.set_cons_zero, List.set_cons_succ, i64_w, i32_w, u8_w, u32_w, hw8, hw9, hmm]
        rfl
      refine done_ (by kernel_rfl) ?_
      clear hHeld hxq c0 c1 hmm hp1 hp2 hw9
      have hw8' : IntKind.i64.wrap ((p : Int) + 8) = (q8 : Int) := by rw [i64_w]; exact hw8
      have hw10' : IntKind.i64.wrap ((q8 : Int) + 2) = (q0 : Int) := by rw [i64_w]; exact hw10
      have c1 : w9.cell? ⟨g, 1, none⟩ = some (.int .i64 p) := (blk_cell R9.out 1).trans rfl
      have f1 := blk_frozen R9.out 1
      go_wp2
      generalize hwA : World.setCell w9 ⟨g, 1, none⟩ _ = wA
      have RA := Aside0.mk (show PD W wA g B q0 (n + 1) 0 by rw [← hwA]; exact ⟨some ad, c, blk_put R9.out 1 _ (by simp), HC.out, HR.out⟩)
      have KA := Aside0.mk (show wA.heap[g4]? = some (.cells #[.int .i64 0, .int .i64 0, .slice none 0 0] 29 (0, 0)) by rw [← hwA]; exact blk_far K9.out (Ne.symm N1.out) _)
      have LA := Aside0.mk (show wA.heap[g5]? = some (.cells #[.int .i64 (rd B (p : Int)), .int .i64 (wrap64 u), .slice none 0 0] 29 (0, 0)) by rw [← hwA]; exact blk_far L9.out (Ne.symm N5.out) _)
      have BA := Aside0.mk (show Below W.heap.size W wA by rw [← hwA]; exact below_set B9.out HG.out)
      have QA := Aside0.mk (show KeepBut w wA g none by rw [← hwA]; exact keepBut_trans Q9.out keep_set)
      clear hwA R9 K9 L9 B9 Q9 hw8 hw8' hw10 hw10' c1 f1
      have HM9 := Aside0.mk hm9
      have PA := Aside0.mk (show q0 ≤ B.length by have h1 := HQ0.out; have h2 := HC9.out; omega)
      generalize hkk : pKids (pTerm B f) m [] q0 (n + 1) = KK
      have KE := Aside0.mk hkk
      have KE0 := Aside0.mk hkk
      clear hkk
      go_loopw [9] (fun v9 w' => ∃ (i : Nat) (ks : List S29) (v : Value) (p' : Nat) (n' : Int), v9 = .int .i64 i ∧ i ≤ m ∧ Aside0 (pKids (pTerm B f) (m - i) ks p' n' = KK) ∧ Aside0 (ks.length ≤ i) ∧ Aside0 (Kd.R k29 29 w' w.heap.size (fun k => k ≠ g ∧ k ≠ g4 ∧ k ≠ g5) v ks) ∧ Aside0 (w'.heap[g4]? = some (.cells #[.int .i64 0, .int .i64 0, .slice none 0 0] 29 (0, 0))) ∧ Aside0 (w'.heap[g5]? = some (.cells #[.int .i64 (rd B (p : Int)), .int .i64 (wrap64 u), v] 29 (0, 0))) ∧ Aside0 (PD W w' g B p' n' 0) ∧ Aside0 (0 ≤ n' ∧ n' ≤ 3000 ∧ p' ≤ B.length) ∧ Aside0 (KeepBut w w' g none) ∧ Aside0 (Below W.heap.size W w')) (fun v9 _ => m - (intOf v9).toNat)
      case atStart => exact ⟨0, [], .slice none 0 0, q0, n + 1, rfl, by omega, KE, ⟨by simp⟩, ⟨Kd.R_nil _ _ _ _ _⟩, KA, LA, RA, ⟨by omega, by omega, PA.out⟩, QA, BA⟩
      case round =>
        clear KA LA RA QA BA KE
        obtain ⟨i, ks, v, p', n', rfl, hi, KE, KL, HO, K9, L9, R9, N9, Q9, B9⟩ := hrel
        obtain ⟨Av, cv, ev⟩ := Kd.R_slice HO.out
        subst ev
        have HI := Aside0.mk hi
        by_cases hlt : i < m
        · have CALL := Aside0.mk (IH.out R9.out B9.out HG.out N9.out.2.2 (show (d + 1) + (f : Int) = 121 by have := HD.out; omega) (by omega) N9.out.1 N9.out.2.1)
          have hd1 : wrap64 (d + 1) = d + 1 := wrap_id (by omega)
          have hInv := pTerm_inv B f p' n' N9.out.1 N9.out.2.1 N9.out.2.2
          have hStep : pKids (pTerm B f) (m - i) ks p' n' = if (pTerm B f p' n').2.2.2 = 0 then pKids (pTerm B f) (m - (i + 1)) (ks ++ [(pTerm B f p' n').1]) (pTerm B f p' n').2.1 (pTerm B f p' n').2.2.1 else ([], (pTerm B f p' n').2) := by
            rw [show m - i = (m - (i + 1)) + 1 by omega]
            rfl
          rw [KE.out] at hStep
          have hm1 : decide ((i : Int) < (m : Int)) = true := decide_eq_true (by omega)
          generalize pTerm B f p' n' = T at CALL hInv hStep
          have INV := Aside0.mk hInv
          have STEP := Aside0.mk hStep
          have LT := Aside0.mk hlt
          clear hInv hStep KE hi
          by_cases he : T.2.2.2 = 0
          · have he1 : (T.2.2.2 != 0) = false := by simp [he]
            go_wp2_with (first | (go_at_call 27; refine CALL.out.mono ?_; rintro en w11 ⟨vc, rfl, hR, hRD, hK1, hB1⟩; obtain ⟨Ac, cc, ec⟩ := Kd.R_slice hR; subst ec; have G11 := Aside0.mk (Nat.lt_of_lt_of_le (PD.lt R9.out) hK1.1); have G411 := Aside0.mk (Nat.lt_of_lt_of_le (blk_lt K9.out) hK1.1); have G511 := Aside0.mk (Nat.lt_of_lt_of_le (blk_lt L9.out) hK1.1); have HO11 : Aside0 (Kd.R k29 29 w11 w.heap.size (fun k => k ≠ g ∧ k ≠ g4 ∧ k ≠ g5) (.slice Av ks.length cv) ks) := ⟨Kd.R_keep HO.out hK1 (fun k hk => hk.1)⟩; have HC11 : Aside0 (Kd.R k29 29 w11 w.heap.size (fun k => (k ≠ g ∧ k ≠ g4 ∧ k ≠ g5) ∧ some k ≠ (Value.slice Av ks.length cv).ownBlock) (.slice Ac T.1.f2.length cc) T.1.f2) := ⟨Kd.R_lower (Kd.R_mono (Kd.R_bound hR) (fun k hk => (by have a1 := PD.lt R9.out; have a2 := blk_lt K9.out; have a3 := blk_lt L9.out; have a4 := hk.2.1; exact ⟨⟨by omega, by omega, by omega⟩, fun e => by have := ((Kd.R_bound HO.out).1 k e.symm).2.2.1; omega⟩))) Q9.out.1⟩; have K11 := Aside0.mk (keep_blk hK1 K9.out (Ne.symm N1.out)); have L11 := Aside0.mk (keep_blk hK1 L9.out (Ne.symm N5.out)); have R11 := Aside0.mk hRD; have Q11 := Aside0.mk (keepBut_trans Q9.out hK1); have B11 := Aside0.mk hB1; have Q11_ := Aside0.mk Q11.out.1; clear hR hRD hK1 hB1 HO K9 L9 R9 Q9 B9) | ((with_reducible refine gate_dst (N := 10) rfl ?_); refine box_event ?hg (N := 10) ?hd (cs := #[.int .i64 0, .int .i64 0, .slice none 0 0]) (t := 29) ?hr ?_; (case hd => rfl); (case hg => rfl); (case hr => first | (go_simp; done) | (go_simp; rfl)); intro g10 hg_ w12 hbox hb_; have G10 := Aside0.mk hg_; have X10 := Aside0.mk hbox; have HO12 := Aside0.mk (Kd.R_keep (Kd.R_mono (Kd.R_bound HO11.out) (fun k hk => (⟨hk.1, by have := hk.2.2.1; have := G10.out; omega⟩ : (k ≠ g ∧ k ≠ g4 ∧ k ≠ g5) ∧ k ≠ g10))) (show KeepBut w11 w12 g none from ⟨hb_.size, fun i hi _ _ => hb_.block i hi⟩) (fun k hk => hk.1.1)); have HC12 := Aside0.mk (Kd.R_keep (Kd.R_mono (Kd.R_bound HC11.out) (fun k hk => (⟨hk.1, by have := hk.2.2.1; have := G10.out; omega⟩ : ((k ≠ g ∧ k ≠ g4 ∧ k ≠ g5) ∧ some k ≠ (Value.slice Av ks.length cv).ownBlock) ∧ k ≠ g10))) (show KeepBut w11 w12 g none from ⟨hb_.size, fun i hi _ _ => hb_.block i hi⟩) (fun k hk => hk.1.1.1)); have K12 := Aside0.mk (blk_below K11.out hb_); have L12 := Aside0.mk (blk_below L11.out hb_); have R12 := Aside0.mk (PD.below R11.out hb_); have Q12 := Aside0.mk (keep_below Q11.out hb_); have B12 := Aside0.mk (B11.out.trans (hb_.mono B11.out.size)); have x0 : w12.cell? ⟨g10, 0, none⟩ = some (.int .i64 0) := (blk_cell X10.out 0).trans rfl; have x1 : w12.cell? ⟨g10, 1, none⟩ = some (.int .i64 0) := (blk_cell X10.out 1).trans rfl; have x2 : w12.cell? ⟨g10, 2, none⟩ = some (.slice none 0 0) := (blk_cell X10.out 2).trans rfl; have fx0 := blk_frozen X10.out 0; have fx1 := blk_frozen X10.out 1; have fx2 := blk_frozen X10.out 2; clear hbox hb_ hg_ HO11 HC11 K11 L11 R11 Q11 B11; have NG : g ≠ g10 := (by have h1 := G10.out; have h2 := G11.out; omega); have NG' : g10 ≠ g := Ne.symm NG; have e3 : w12.cell? ⟨g, 3, none⟩ = some (.int .i64 T.2.2.2) := (by obtain ⟨A12, c12, r1, _⟩ := R12.out; exact (blk_cell r1 3).trans rfl); have N4G : g4 ≠ g10 := (by have h1 := G10.out; have h2 := G411.out; omega); have N5G : g5 ≠ g10 := (by have h1 := G10.out; have h2 := G511.out; omega); have N4G' := Ne.symm N4G; have N5G' := Ne.symm N5G; have k0 : w12.cell? ⟨g4, 0, none⟩ = some (.int .i64 0) := (blk_cell K12.out 0).trans rfl; have k1 : w12.cell? ⟨g4, 1, none⟩ = some (.int .i64 0) := (blk_cell K12.out 1).trans rfl; have k2 : w12.cell? ⟨g4, 2, none⟩ = some (.slice none 0 0) := (blk_cell K12.out 2).trans rfl; have kf0 := blk_frozen K12.out 0; have kf1 := blk_frozen K12.out 1; have kf2 := blk_frozen K12.out 2; have l2 : w12.cell? ⟨g5, 2, none⟩ = some (.slice Av ks.length cv) := (blk_cell L12.out 2).trans rfl) | ((with_reducible refine gate_builtin (b := .append) (xs := #[.tmp 119, .tmp 121]) rfl ?_); generalize hw13 : World.setCell (World.setCell (World.setCell w12 ⟨g10, 0, none⟩ _) ⟨g10, 1, none⟩ _) ⟨g10, 2, none⟩ _ = w13; have HSZ := Aside0.mk (show w13.heap.size = w12.heap.size by rw [← hw13]; simp [World.setCell]); have WG : w.heap.size ≤ g10 := (by have h1 := G10.out; have h2 := G11.out; have h3 := Q11_.out; omega); have WWG : W.heap.size ≤ g10 := (Nat.le_trans HB.out.size WG); have R13 := Aside0.mk (show PD W w13 g B T.2.1 T.2.2.1 T.2.2.2 by rw [← hw13]; exact PD.far (PD.far (PD.far R12.out NG) NG) NG); have K13 := Aside0.mk (show w13.heap[g4]? = some (.cells #[.int .i64 0, .int .i64 0, .slice none 0 0] 29 (0, 0)) by rw [← hw13]; exact blk_far (blk_far (blk_far K12.out N4G _) N4G _) N4G _); have L13 := Aside0.mk (show w13.heap[g5]? = some (.cells #[.int .i64 (rd B (p : Int)), .int .i64 (wrap64 u), .slice Av ks.length cv] 29 (0, 0)) by rw [← hw13]; exact blk_far (blk_far (blk_far L12.out N5G _) N5G _) N5G _); have X13 := Aside0.mk (show w13.heap[g10]? = some (.cells #[.int .i64 T.1.f0, .int .i64 T.1.f1, .slice Ac T.1.f2.length cc] 29 (0, 0)) by rw [← hw13]; exact blk_put (blk_put (blk_put X10.out 0 _ rfl) 1 _ rfl) 2 _ rfl); have HO13 := Aside0.mk (show Kd.R k29 29 w13 w.heap.size (fun k => k ≠ g ∧ k ≠ g4 ∧ k ≠ g5) (.slice Av ks.length cv) ks by rw [← hw13]; exact Kd.R_mono (Kd.R_far (p := ⟨g10, 2, none⟩) (Kd.R_far (p := ⟨g10, 1, none⟩) (Kd.R_far (p := ⟨g10, 0, none⟩) HO12.out (fun k hk => hk.2) _) (fun k hk => hk.2) _) (fun k hk => hk.2) _) (fun k hk => hk.1)); have HC13 := Aside0.mk (show Kd.R k29 29 w13 w.heap.size (fun k => (k ≠ g ∧ k ≠ g4 ∧ k ≠ g5) ∧ some k ≠ (Value.slice Av ks.length cv).ownBlock) (.slice Ac T.1.f2.length cc) T.1.f2 by rw [← hw13]; exact Kd.R_mono (Kd.R_far (p := ⟨g10, 2, none⟩) (Kd.R_far (p := ⟨g10, 1, none⟩) (Kd.R_far (p := ⟨g10, 0, none⟩) HC12.out (fun k hk => hk.2) _) (fun k hk => hk.2) _) (fun k hk => hk.2) _) (fun k hk => hk.1)); have Q13 := Aside0.mk (show KeepBut w w13 g none by rw [← hw13]; exact keep_far (keep_far (keep_far Q12.out WG) WG) WG); have B13 := Aside0.mk (show Below W.heap.size W w13 by rw [← hw13]; exact below_set (below_set (below_set B12.out WWG) WWG) WWG); clear hw13 R12 K12 L12 X10 HO12 HC12 Q12 B12 x0 x1 x2 fx0 fx1 fx2 e3 NG NG' N4G N5G N4G' N5G' k0 k1 k2 kf0 kf1 kf2 l2; rw [← HSZ.out]; at_builtin; refine Kd.R_append k29 (w0 := w13) w.heap.size rfl (.tmp 119) (.tmp 121) 27 29 (.agg #[.int .i64 0, .int .i64 0, .slice none 0 0]) 40 rfl Try.underlying27 info29 rfl (by decide) (by omega) (.slice Av ks.length cv) ks T.1 [.int .i64 T.1.f0, .int .i64 T.1.f1, .slice Ac T.1.f2.length cc] (fun k => k ≠ g ∧ k ≠ g4 ∧ k ≠ g5) (fun k => (k ≠ g ∧ k ≠ g4 ∧ k ≠ g5) ∧ some k ≠ (Value.slice Av ks.length cv).ownBlock) rfl rfl ?aP (fun _ hk => hk) ?aF ?aO ?aB ?aS ?aL ?_; (case aP => exact k29_mkM _ _ _ T.1 HC13.out); (case aB => exact Below.refl _ _); (case aF => exact (fun k hk => by have a1 := PD.lt R13.out; have a2 := blk_lt K13.out; have a3 := blk_lt L13.out; exact ⟨by omega, by omega, by omega⟩)); (case aO => exact HO13.out); (case aS => exact Q13.out.1); (case aL => have := KL.out; have := LT.out; have := HM9.out; omega); intro v2 w16 ho hb hg hat; have own_lt : Aside0 (∀ k, (Value.slice Av ks.length cv).ownBlock = some k → k < w13.heap.size ∧ w.heap.size ≤ k ∧ k ≠ g ∧ k ≠ g4 ∧ k ≠ g5) := ⟨fun k hk => (by have hk1 := (Kd.R_bound HO13.out).1 k hk; exact ⟨hk1.2.2.1, hk1.2.1, hk1.1⟩)⟩; have K16 := Aside0.mk (blk_grown K13.out hg (fun e => (own_lt.out g4 e.symm).2.2.2.1 rfl)); have L16 := Aside0.mk (blk_grown L13.out hg (fun e => (own_lt.out g5 e.symm).2.2.2.2 rfl)); have R16 : Aside0 (PD W w16 g B T.2.1 T.2.2.1 T.2.2.2) := ⟨by obtain ⟨A, c, h1, h2, h3⟩ := R13.out; exact ⟨A, c, blk_grown h1 hg (fun e => (own_lt.out g e.symm).2.2.1 rfl), h2, h3⟩⟩; have Q16 : Aside0 (KeepBut w w16 g none) := ⟨Nat.le_trans Q13.out.1 hg.size, fun i hi hne hr => (hg.block i (Nat.lt_of_lt_of_le hi Q13.out.1) (fun e => by have := (own_lt.out i e.symm).2.1; omega)).trans (Q13.out.2 i hi hne hr)⟩; have B16 : Aside0 (Below W.heap.size W w16) := ⟨B13.out.grown hg (Nat.le_trans HB.out.size Q13.out.1) (fun k hk => Nat.le_trans HB.out.size (own_lt.out k hk).2.1)⟩; have HO16 := Aside0.mk ho; clear ho hb hg hat HO13 HC13 K13 L13 X13 R13 Q13 B13; obtain ⟨Av2, cv2, ev2⟩ := Kd.R_slice HO16.out; subst ev2; have hs9 : w16.cell? ⟨g5, 2, none⟩ = some (.slice Av ks.length cv) := (blk_cell L16.out 2).trans rfl; have hfs9 := blk_frozen L16.out 2) | fail)
            clear hs9 hfs9 hd1 he1 hm1 hlt
            go_roundw
            case measure => have := LT.out; simp [intOf]; omega
            case rel =>
              have R17 : PD W w16 g B T.2.1 T.2.2.1 0 := by
                have h := R16.out
                rw [he] at h
                exact h
              have hi2 := STEP.out
              rw [if_pos he] at hi2
              exact ⟨i + 1, ks ++ [T.1], _, _, _, by go_num, by have := LT.out; omega, ⟨hi2.symm⟩, ⟨by have := KL.out; simp; omega⟩,
                ⟨Kd.R_mono (Kd.R_far (p := ⟨g5, 2, none⟩) HO16.out (fun k hk => hk.2.2) _) (fun k hk => hk)⟩,
                ⟨blk_far K16.out N45.out _⟩, ⟨blk_put L16.out 2 _ (by simp)⟩, ⟨PD.far R17 N5.out⟩, ⟨INV.out.1.1, INV.out.1.2.2 he, INV.out.2⟩, ⟨keep_far Q16.out W5.out⟩, ⟨below_set B16.out WW5.out⟩⟩
          · have he1 : (T.2.2.2 != 0) = true := by simp [he]
            go_wp2_with (first | (go_at_call 27; refine CALL.out.mono ?_; rintro en w11 ⟨vc, rfl, hR, hRD, hK1, hB1⟩; obtain ⟨Ac, cc, ec⟩ := Kd.R_slice hR; subst ec; have G11 := Aside0.mk (Nat.lt_of_lt_of_le (PD.lt R9.out) hK1.1); have G411 := Aside0.mk (Nat.lt_of_lt_of_le (blk_lt K9.out) hK1.1); have G511 := Aside0.mk (Nat.lt_of_lt_of_le (blk_lt L9.out) hK1.1); have HO11 : Aside0 (Kd.R k29 29 w11 w.heap.size (fun k => k ≠ g ∧ k ≠ g4 ∧ k ≠ g5) (.slice Av ks.length cv) ks) := ⟨Kd.R_keep HO.out hK1 (fun k hk => hk.1)⟩; have HC11 : Aside0 (Kd.R k29 29 w11 w.heap.size (fun k => (k ≠ g ∧ k ≠ g4 ∧ k ≠ g5) ∧ some k ≠ (Value.slice Av ks.length cv).ownBlock) (.slice Ac T.1.f2.length cc) T.1.f2) := ⟨Kd.R_lower (Kd.R_mono (Kd.R_bound hR) (fun k hk => (by have a1 := PD.lt R9.out; have a2 := blk_lt K9.out; have a3 := blk_lt L9.out; have a4 := hk.2.1; exact ⟨⟨by omega, by omega, by omega⟩, fun e => by have := ((Kd.R_bound HO.out).1 k e.symm).2.2.1; omega⟩))) Q9.out.1⟩; have K11 := Aside0.mk (keep_blk hK1 K9.out (Ne.symm N1.out)); have L11 := Aside0.mk (keep_blk hK1 L9.out (Ne.symm N5.out)); have R11 := Aside0.mk hRD; have Q11 := Aside0.mk (keepBut_trans Q9.out hK1); have B11 := Aside0.mk hB1; have Q11_ := Aside0.mk Q11.out.1; clear hR hRD hK1 hB1 HO K9 L9 R9 Q9 B9) | ((with_reducible refine gate_dst (N := 10) rfl ?_); refine box_event ?hg (N := 10) ?hd (cs := #[.int .i64 0, .int .i64 0, .slice none 0 0]) (t := 29) ?hr ?_; (case hd => rfl); (case hg => rfl); (case hr => first | (go_simp; done) | (go_simp; rfl)); intro g10 hg_ w12 hbox hb_; have G10 := Aside0.mk hg_; have X10 := Aside0.mk hbox; have HO12 := Aside0.mk (Kd.R_keep (Kd.R_mono (Kd.R_bound HO11.out) (fun k hk => (⟨hk.1, by have := hk.2.2.1; have := G10.out; omega⟩ : (k ≠ g ∧ k ≠ g4 ∧ k ≠ g5) ∧ k ≠ g10))) (show KeepBut w11 w12 g none from ⟨hb_.size, fun i hi _ _ => hb_.block i hi⟩) (fun k hk => hk.1.1)); have HC12 := Aside0.mk (Kd.R_keep (Kd.R_mono (Kd.R_bound HC11.out) (fun k hk => (⟨hk.1, by have := hk.2.2.1; have := G10.out; omega⟩ : ((k ≠ g ∧ k ≠ g4 ∧ k ≠ g5) ∧ some k ≠ (Value.slice Av ks.length cv).ownBlock) ∧ k ≠ g10))) (show KeepBut w11 w12 g none from ⟨hb_.size, fun i hi _ _ => hb_.block i hi⟩) (fun k hk => hk.1.1.1)); have K12 := Aside0.mk (blk_below K11.out hb_); have L12 := Aside0.mk (blk_below L11.out hb_); have R12 := Aside0.mk (PD.below R11.out hb_); have Q12 := Aside0.mk (keep_below Q11.out hb_); have B12 := Aside0.mk (B11.out.trans (hb_.mono B11.out.size)); have x0 : w12.cell? ⟨g10, 0, none⟩ = some (.int .i64 0) := (blk_cell X10.out 0).trans rfl; have x1 : w12.cell? ⟨g10, 1, none⟩ = some (.int .i64 0) := (blk_cell X10.out 1).trans rfl; have x2 : w12.cell? ⟨g10, 2, none⟩ = some (.slice none 0 0) := (blk_cell X10.out 2).trans rfl; have fx0 := blk_frozen X10.out 0; have fx1 := blk_frozen X10.out 1; have fx2 := blk_frozen X10.out 2; clear hbox hb_ hg_ HO11 HC11 K11 L11 R11 Q11 B11; have NG : g ≠ g10 := (by have h1 := G10.out; have h2 := G11.out; omega); have NG' : g10 ≠ g := Ne.symm NG; have e3 : w12.cell? ⟨g, 3, none⟩ = some (.int .i64 T.2.2.2) := (by obtain ⟨A12, c12, r1, _⟩ := R12.out; exact (blk_cell r1 3).trans rfl); have N4G : g4 ≠ g10 := (by have h1 := G10.out; have h2 := G411.out; omega); have N5G : g5 ≠ g10 := (by have h1 := G10.out; have h2 := G511.out; omega); have N4G' := Ne.symm N4G; have N5G' := Ne.symm N5G; have k0 : w12.cell? ⟨g4, 0, none⟩ = some (.int .i64 0) := (blk_cell K12.out 0).trans rfl; have k1 : w12.cell? ⟨g4, 1, none⟩ = some (.int .i64 0) := (blk_cell K12.out 1).trans rfl; have k2 : w12.cell? ⟨g4, 2, none⟩ = some (.slice none 0 0) := (blk_cell K12.out 2).trans rfl; have kf0 := blk_frozen K12.out 0; have kf1 := blk_frozen K12.out 1; have kf2 := blk_frozen K12.out 2; have l2 : w12.cell? ⟨g5, 2, none⟩ = some (.slice Av ks.length cv) := (blk_cell L12.out 2).trans rfl) | fail)
            (generalize hw13 : World.setCell (World.setCell (World.setCell w12 ⟨g10, 0, none⟩ _) ⟨g10, 1, none⟩ _) ⟨g10, 2, none⟩ _ = w13; have HSZ := Aside0.mk (show w13.heap.size = w12.heap.size by rw [← hw13]; simp [World.setCell]); have WG : w.heap.size ≤ g10 := (by have h1 := G10.out; have h2 := G11.out; have h3 := Q11_.out; omega); have WWG : W.heap.size ≤ g10 := (Nat.le_trans HB.out.size WG); have R13 := Aside0.mk (show PD W w13 g B T.2.1 T.2.2.1 T.2.2.2 by rw [← hw13]; exact PD.far (PD.far (PD.far R12.out NG) NG) NG); have K13 := Aside0.mk (show w13.heap[g4]? = some (.cells #[.int .i64 0, .int .i64 0, .slice none 0 0] 29 (0, 0)) by rw [← hw13]; exact blk_far (blk_far (blk_far K12.out N4G _) N4G _) N4G _); have L13 := Aside0.mk (show w13.heap[g5]? = some (.cells #[.int .i64 (rd B (p : Int)), .int .i64 (wrap64 u), .slice Av ks.length cv] 29 (0, 0)) by rw [← hw13]; exact blk_far (blk_far (blk_far L12.out N5G _) N5G _) N5G _); have X13 := Aside0.mk (show w13.heap[g10]? = some (.cells #[.int .i64 T.1.f0, .int .i64 T.1.f1, .slice Ac T.1.f2.length cc] 29 (0, 0)) by rw [← hw13]; exact blk_put (blk_put (blk_put X10.out 0 _ rfl) 1 _ rfl) 2 _ rfl); have HO13 := Aside0.mk (show Kd.R k29 29 w13 w.heap.size (fun k => k ≠ g ∧ k ≠ g4 ∧ k ≠ g5) (.slice Av ks.length cv) ks by rw [← hw13]; exact Kd.R_mono (Kd.R_far (p := ⟨g10, 2, none⟩) (Kd.R_far (p := ⟨g10, 1, none⟩) (Kd.R_far (p := ⟨g10, 0, none⟩) HO12.out (fun k hk => hk.2) _) (fun k hk => hk.2) _) (fun k hk => hk.2) _) (fun k hk => hk.1)); have HC13 := Aside0.mk (show Kd.R k29 29 w13 w.heap.size (fun k => (k ≠ g ∧ k ≠ g4 ∧ k ≠ g5) ∧ some k ≠ (Value.slice Av ks.length cv).ownBlock) (.slice Ac T.1.f2.length cc) T.1.f2 by rw [← hw13]; exact Kd.R_mono (Kd.R_far (p := ⟨g10, 2, none⟩) (Kd.R_far (p := ⟨g10, 1, none⟩) (Kd.R_far (p := ⟨g10, 0, none⟩) HC12.out (fun k hk => hk.2) _) (fun k hk => hk.2) _) (fun k hk => hk.2) _) (fun k hk => hk.1)); have Q13 := Aside0.mk (show KeepBut w w13 g none by rw [← hw13]; exact keep_far (keep_far (keep_far Q12.out WG) WG) WG); have B13 := Aside0.mk (show Below W.heap.size W w13 by rw [← hw13]; exact below_set (below_set (below_set B12.out WWG) WWG) WWG); clear hw13 R12 K12 L12 X10 HO12 HC12 Q12 B12 x0 x1 x2 fx0 fx1 fx2 e3 NG NG' N4G N5G N4G' N5G' k0 k1 k2 kf0 kf1 kf2 l2)
            refine bodyPost_ret (results_cell_row rfl _ _ g4 29 #[.int .i64 0, .int .i64 0, .slice none 0 0] (0, 0) _ rfl (by exact blk_put (blk_put (blk_put K13.out 0 _ rfl) 1 _ rfl) 2 _ rfl) Try.underlying29 rfl (by kernel_rfl)) rfl ?_
            have hi2 := STEP.out
            rw [if_neg he] at hi2
            have hrt : pTerm B (f + 1) p n = (⟨0, 0, []⟩, T.2) := by
              have a6 : ¬ 3000 < n + 1 := by omega
              have a7 : ¬ B.length < p + 10 := by have := HC9.out; omega
              have hk := KE0.out
              rw [hi2, HQ0.out] at hk
              simp only [pTerm, if_neg a6, if_neg a7]
              rw [M.out, Int.toNat_natCast, hk, if_neg he]
            rw [hrt]
            exact ⟨_, rfl, Kd.R_nil _ _ _ _ _, PD.far (PD.far (PD.far R13.out N1.out) N1.out) N1.out, keep_far (keep_far (keep_far Q13.out W4.out) W4.out) W4.out, below_set (below_set (below_set B13.out (Nat.le_trans HB.out.size W4.out)) (Nat.le_trans HB.out.size W4.out)) (Nat.le_trans HB.out.size W4.out)⟩
        · have hm1 : decide ((i : Int) < (m : Int)) = false := decide_eq_false (by omega)
          have hm2 : ((i : Int) < (m : Int)) = False := eq_false (by omega)
          have hm3 : (i < m) = False := eq_false (by omega)
          have hke : KK = (ks, p', n', 0) := by
            have := KE.out
            rw [← this, show m - i = 0 by omega]
            rfl
          have l0 : wr.cell? ⟨g5, 0, none⟩ = some (.int .i64 (rd B (p : Int))) := (blk_cell L9.out 0).trans rfl
          have l1 : wr.cell? ⟨g5, 1, none⟩ = some (.int .i64 (wrap64 u)) := (blk_cell L9.out 1).trans rfl
          have l2 : wr.cell? ⟨g5, 2, none⟩ = some (.slice Av ks.length cv) := (blk_cell L9.out 2).trans rfl
          have k0 : wr.cell? ⟨g4, 0, none⟩ = some (.int .i64 0) := (blk_cell K9.out 0).trans rfl
          have k1 : wr.cell? ⟨g4, 1, none⟩ = some (.int .i64 0) := (blk_cell K9.out 1).trans rfl
          have k2 : wr.cell? ⟨g4, 2, none⟩ = some (.slice none 0 0) := (blk_cell K9.out 2).trans rfl
          have kf0 := blk_frozen K9.out 0
          have kf1 := blk_frozen K9.out 1
          have kf2 := blk_frozen K9.out 2
          have hrt : pTerm B (f + 1) p n = (⟨rd B (p : Int), wrap64 u, ks⟩, p', n', 0) := by
            have a6 : ¬ 3000 < n + 1 := by omega
            have a7 : ¬ B.length < p + 10 := by have := HC9.out; omega
            have hk := KE0.out
            rw [hke, HQ0.out] at hk
            simp only [pTerm, if_neg a6, if_neg a7]
            rw [M.out, Int.toNat_natCast, hk, if_pos rfl, HU.out]
          have HT := Aside0.mk hrt
          clear hke hrt KE KE0 hlt
          go_wp2
          refine bodyPost_ret (results_cell_row rfl _ _ g4 29 #[.int .i64 (rd B (p : Int)), .int .i64 (wrap64 u), .slice Av ks.length cv] (0, 0) _ rfl (by exact blk_put (blk_put (blk_put K9.out 0 _ rfl) 1 _ rfl) 2 _ rfl) Try.underlying29 rfl (by kernel_rfl)) rfl ?_
          rw [HT.out]
          exact ⟨_, rfl, Kd.R_mono (Kd.R_far (p := ⟨g4, 2, none⟩) (Kd.R_far (p := ⟨g4, 1, none⟩) (Kd.R_far (p := ⟨g4, 0, none⟩) HO.out (fun k hk => hk.2.1) _) (fun k hk => hk.2.1) _) (fun k hk => hk.2.1) _) (fun _ _ => trivial), PD.far (PD.far (PD.far R9.out N1.out) N1.out) N1.out, keep_far (keep_far (keep_far Q9.out W4.out) W4.out) W4.out, below_set (below_set (below_set B9.out (Nat.le_trans HB.out.size W4.out)) (Nat.le_trans HB.out.size W4.out)) (Nat.le_trans HB.out.size W4.out)⟩
end Go.Proofs.Ytfbjdfgadhlhlaa.P
