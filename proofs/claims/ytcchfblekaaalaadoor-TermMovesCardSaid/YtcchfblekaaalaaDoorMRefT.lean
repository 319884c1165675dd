-- Printed by mkprint.py (a program of this session, over the kit's print). Lean checks it.
import Derived.Test.YtcchfblekaaalaaDoorMPx0
import Derived.Test.YtcchfblekaaalaaDoorMQx16
namespace Go.Proofs.YtcchfblekaaalaaDoor.P
open Go.RowKit Go.Proofs.YtcchfblekaaalaaDoorW.PrintWords Go.Proofs.YtcchfblekaaalaaDoorW.PrintLast Go.Proofs.YtcchfblekaaalaaDoorW.PrintMore
attribute [local go_sem] max2_int min2_int max_two min_two max_three min_three max_four min_four   -- for this text's walks alone
set_option linter.unusedVariables false
set_option linter.unusedSimpArgs false
theorem zja {p : Prop} (h : p := by repeat (first | (with_reducible first | exact HB.out | apply below_alloc | apply pw_below_drewN | apply below_drew1 | refine below_set ?_ GE224.out) | exact HB.out)) : p := h
theorem zjb {p : Prop} (h : p := by (try simp only [List.map_toArray, List.map_cons, List.map_nil]); first | done | rfl | (simp only [List.length_drop, List.length_take]; rfl)) : p := h
theorem zjc {p : Prop} (h : p := by first | rfl | (simp; done) | (simp [*]; done)) : p := h
theorem zjd {p : Prop} (h : p := by repeat (first | (with_reducible first | exact HB.out | apply below_alloc | apply pw_below_drewN | apply below_drew1) | exact HB.out)) : p := h
theorem zje {p : Prop} (h : p := by first | omega | exact Nat.le_refl _) : p := h

/-! ### thyrsusref4_Text: function 40 -/
mutual
def thyrsusref4_Text.j0 : Nat → ByteArray → Int → Int → List (S29) → Option (ByteArray)
 | 0, _, _, _, _ => none
 | k + 1, x3, x225000, x225001, x225002 => if (x225002.length : Int) = 0 then (some x3) else (if 1 + x3.size ≤ 9223372036854775807 then (thyrsusref4_Text.l0 k ((⟨#[40]⟩ : ByteArray) ++ x3) 0 x225000 x225001 x225002) else (none))
def thyrsusref4_Text.l0 : Nat → ByteArray → Int → Int → Int → List (S29) → Option (ByteArray)
 | 0, _, _, _, _, _ => none
 | k + 1, x4, x5, x225000, x225001, x225002 => if x5 < (x225002.length : Int) then (if x4.size + 1 ≤ 9223372036854775807 then (if 0 ≤ x5 then ((thyrsusref4_Text.f k ((rd_T29 x225002 x5).f0) ((rd_T29 x225002 x5).f1) ((rd_T29 x225002 x5).f2)).bind fun t231 => (if (x4 ++ (⟨#[32]⟩ : ByteArray)).size + t231.size ≤ 9223372036854775807 then (thyrsusref4_Text.l0 k ((x4 ++ (⟨#[32]⟩ : ByteArray)) ++ t231) (wrap64 (x5 + 1)) x225000 x225001 x225002) else (none))) else (none)) else (none)) else (if x4.size + 1 ≤ 9223372036854775807 then (some (x4 ++ (⟨#[41]⟩ : ByteArray))) else (none))
def thyrsusref4_Text.f : Nat → Int → Int → List (S29) → Option (ByteArray)
 | 0, _, _, _ => none
 | k + 1, a0_0, a0_1, l0_2 => (thyrsusref3_Digits.f k a0_0).bind fun t225 => (if a0_0 = 1 then ((thyrsusref3_Digits.f k a0_1).bind fun t226 => (if 1 + t226.size ≤ 9223372036854775807 then (thyrsusref4_Text.j0 k ((⟨#[118]⟩ : ByteArray) ++ t226) a0_0 a0_1 l0_2) else (none))) else (if a0_0 = 2 then ((thyrsusref3_Digits.f k a0_1).bind fun t227 => (if 1 + t227.size ≤ 9223372036854775807 then (thyrsusref4_Text.j0 k ((⟨#[85]⟩ : ByteArray) ++ t227) a0_0 a0_1 l0_2) else (none))) else (if a0_0 = 25 then ((thyrsusref3_Digits.f k a0_1).bind fun t228 => (if 1 + t228.size ≤ 9223372036854775807 then (thyrsusref4_Text.j0 k ((⟨#[105]⟩ : ByteArray) ++ t228) a0_0 a0_1 l0_2) else (none))) else (if a0_0 = 26 then (if t225.size + 1 ≤ 9223372036854775807 then ((thyrsusref3_Digits.f k a0_1).bind fun t229 => (if (t225 ++ (⟨#[47]⟩ : ByteArray)).size + t229.size ≤ 9223372036854775807 then (thyrsusref4_Text.j0 k ((t225 ++ (⟨#[47]⟩ : ByteArray)) ++ t229) a0_0 a0_1 l0_2) else (none))) else (none)) else (thyrsusref4_Text.j0 k t225 a0_0 a0_1 l0_2)))))
end
set_option maxHeartbeats 8000000 in
set_option maxRecDepth 100000 in
theorem thyrsusref4_Text.calls (k : Nat) : ∀ (a0_0 : Int) (a0_1 : Int) (A0_2 : Option Addr) (c0_2 : Nat) (l0_2 : List (S29)) (r : ByteArray) (w : World) (hr0_2 : Kd.C k29 w A0_2 l0_2.length l0_2) (hc0_2 : l0_2.length ≤ c0_2) (h : thyrsusref4_Text.f k a0_0 a0_1 l0_2 = some r),
  Calls Tryd.prog 40 #[.agg #[.int .i64 a0_0, .int .i64 a0_1, .slice A0_2 l0_2.length c0_2]] w fun e w' => e = .returned (.string r) ∧ Below w.heap.size w w' := by
 induction k using Nat.strongRecOn with
 | _ k ih =>
 intro a0_0 a0_1 A0_2 c0_2 l0_2 r w hr0_2 hc0_2 h
 cases k with
 | zero => exact absurd h (by simp [thyrsusref4_Text.f])
 | succ k =>
 simp only [thyrsusref4_Text.f] at h
 have hu29 := Tryd.underlying29
 have HR0_2 := Aside0.mk hr0_2
 have HC0_2 := Aside0.mk hc0_2
 clear hr0_2 hc0_2
 have HB := Aside0.mk (Below.refl w.heap.size w)
 have H : ((thyrsusref3_Digits.f k a0_0).bind fun t225 => (if a0_0 = 1 then ((thyrsusref3_Digits.f k a0_1).bind fun t226 => (if 1 + t226.size ≤ 9223372036854775807 then (thyrsusref4_Text.j0 k ((⟨#[118]⟩ : ByteArray) ++ t226) a0_0 a0_1 l0_2) else (none))) else (if a0_0 = 2 then ((thyrsusref3_Digits.f k a0_1).bind fun t227 => (if 1 + t227.size ≤ 9223372036854775807 then (thyrsusref4_Text.j0 k ((⟨#[85]⟩ : ByteArray) ++ t227) a0_0 a0_1 l0_2) else (none))) else (if a0_0 = 25 then ((thyrsusref3_Digits.f k a0_1).bind fun t228 => (if 1 + t228.size ≤ 9223372036854775807 then (thyrsusref4_Text.j0 k ((⟨#[105]⟩ : ByteArray) ++ t228) a0_0 a0_1 l0_2) else (none))) else (if a0_0 = 26 then (if t225.size + 1 ≤ 9223372036854775807 then ((thyrsusref3_Digits.f k a0_1).bind fun t229 => (if (t225 ++ (⟨#[47]⟩ : ByteArray)).size + t229.size ≤ 9223372036854775807 then (thyrsusref4_Text.j0 k ((t225 ++ (⟨#[47]⟩ : ByteArray)) ++ t229) a0_0 a0_1 l0_2) else (none))) else (none)) else (thyrsusref4_Text.j0 k t225 a0_0 a0_1 l0_2)))))) = some r := h
 clear h
 replace H := Option.bind_eq_some_iff.mp H
 obtain ⟨t225, A20, H⟩ := H
 replace H : (if a0_0 = 1 then ((thyrsusref3_Digits.f k a0_1).bind fun t226 => (if 1 + t226.size ≤ 9223372036854775807 then (thyrsusref4_Text.j0 k ((⟨#[118]⟩ : ByteArray) ++ t226) a0_0 a0_1 l0_2) else (none))) else (if a0_0 = 2 then ((thyrsusref3_Digits.f k a0_1).bind fun t227 => (if 1 + t227.size ≤ 9223372036854775807 then (thyrsusref4_Text.j0 k ((⟨#[85]⟩ : ByteArray) ++ t227) a0_0 a0_1 l0_2) else (none))) else (if a0_0 = 25 then ((thyrsusref3_Digits.f k a0_1).bind fun t228 => (if 1 + t228.size ≤ 9223372036854775807 then (thyrsusref4_Text.j0 k ((⟨#[105]⟩ : ByteArray) ++ t228) a0_0 a0_1 l0_2) else (none))) else (if a0_0 = 26 then (if t225.size + 1 ≤ 9223372036854775807 then ((thyrsusref3_Digits.f k a0_1).bind fun t229 => (if (t225 ++ (⟨#[47]⟩ : ByteArray)).size + t229.size ≤ 9223372036854775807 then (thyrsusref4_Text.j0 k ((t225 ++ (⟨#[47]⟩ : ByteArray)) ++ t229) a0_0 a0_1 l0_2) else (none))) else (none)) else (thyrsusref4_Text.j0 k t225 a0_0 a0_1 l0_2))))) = some r := H
 have A2 := Aside0.mk A20
 clear A20
 have HC3 := Aside0.mk H
 clear H
 go_enter Tryd.func40, Tryd.ntmps40
 go_upto_block 0 with (first | ((with_reducible refine gate_dst (N := 1) rfl ?_); refine box_event ?hg (N := 1) ?hd (cs := #[.int .i64 a0_0, .int .i64 a0_1, .slice A0_2 l0_2.length c0_2]) (t := 29) ?hr ?_; (case hd => rfl); (case hg => rfl); (case hr => first | (go_simp; done) | (go_simp; rfl)); intro gb224 hg w4 hbox hb; have n0_ := Aside0.mk (below_step zjd hb); have n1_ := Aside0.mk (hbox); have n2_ := Aside0.mk ((by rw [hg]; exact (below_size zjd) : w.heap.size ≤ gb224)); have n3_ := Aside0.mk ((by rw [hg]; exact (below_size zjd) : w.heap.size ≤ gb224)); clear HB; have HB := n0_; have BK224 := n1_; have GW224 := n2_; have GE224 := n3_; clear n0_ n1_ n2_ n3_; clear hb hbox hg; have hcz5_0 : w4.cell? ⟨gb224, 0, none⟩ = some (.int .i64 a0_0) := bc_ BK224 0; have hcz5_1 : w4.cell? ⟨gb224, 1, none⟩ = some (.int .i64 a0_1) := bc_ BK224 1; have hcz5_2 : w4.cell? ⟨gb224, 2, none⟩ = some (.slice A0_2 l0_2.length c0_2) := bc_ BK224 2; have hfz5_0 := blk_frozen BK224.out 0; have hfz5_1 := blk_frozen BK224.out 1; have hfz5_2 := blk_frozen BK224.out 2) | ((with_reducible refine gate_callee (f := 59) rfl ?_); refine goesL_ (some 8) rfl rfl Tryd.func59 (by kernel_rfl) rfl #[.int .i64 a0_0] rfl zjb ?_; (with_reducible refine (thyrsusref3_Digits.calls k a0_0 t225 _ A2.out).mono ?_); rintro e w6 ⟨rfl, hb⟩; refine ⟨_, rfl, ?_⟩; have n0_ := Aside0.mk (blk_below (g := gb224) (o := .cells #[.int .i64 a0_0, .int .i64 a0_1, .slice A0_2 l0_2.length c0_2] 29 (0, 0)) (bk_ BK224.out) hb); have n1_ := Aside0.mk (below_step zja hb); clear BK224; clear HB; have BK224 := n0_; have HB := n1_; clear n0_ n1_; (try clear hb); (try clear hb2); (try clear hk); (try clear hi); have hcz7_0 : w6.cell? ⟨gb224, 0, none⟩ = some (.int .i64 a0_0) := bc_ BK224 0; have hcz7_1 : w6.cell? ⟨gb224, 1, none⟩ = some (.int .i64 a0_1) := bc_ BK224 1; have hcz7_2 : w6.cell? ⟨gb224, 2, none⟩ = some (.slice A0_2 l0_2.length c0_2) := bc_ BK224 2; have hfz7_0 := blk_frozen BK224.out 0; have hfz7_1 := blk_frozen BK224.out 1; have hfz7_2 := blk_frozen BK224.out 2))
 (try simp only [Act.put, List.setIfInBounds_toArray, List.set_cons_zero, List.set_cons_succ])
 go_cut [3] (fun v3 wc => ∃ (kq : Nat) (x3_2 : ByteArray), v3 = .string x3_2 ∧ Aside0 (thyrsusref4_Text.j0 kq x3_2 a0_0 a0_1 l0_2 = some r) ∧ Aside0 (kq ≤ k) ∧ Aside0 (wc.heap[gb224]? = some (.cells #[.int .i64 a0_0, .int .i64 a0_1, (.slice A0_2 l0_2.length c0_2)] 29 (0, 0))) ∧ Aside0 (Below w.heap.size w wc))
 case first =>
  have H := HC3.out
  clear HC3
  by_cases c8 : a0_0 = 1
  ·rw [if_pos c8] at H
   have c8b0 : (a0_0 == 1) = true := beq_iff_eq.mpr c8
   have c8b1 : (a0_0 != 1) = false := bne_eq_false_iff_eq.mpr c8
   clear c8
   (first | rw [c8b0] | (simp only [i64_w, i32_w, u8_w, u32_w]; rw [c8b0]) | skip)
   replace H := Option.bind_eq_some_iff.mp H
   obtain ⟨t226, A90, H⟩ := H
   replace H : (if 1 + t226.size ≤ 9223372036854775807 then (thyrsusref4_Text.j0 k ((⟨#[118]⟩ : ByteArray) ++ t226) a0_0 a0_1 l0_2) else (none)) = some r := H
   have A9 := Aside0.mk A90
   clear A90
   by_cases c10 : 1 + t226.size ≤ 9223372036854775807
   ·rw [if_pos c10] at H
    have c10b0 := eq_true c10
    have c10b1 : decide (1 + t226.size ≤ 9223372036854775807) = true := decide_eq_true c10
    try have c10b2 : (9223372036854775807 < 1 + t226.size) = False := eq_false (Nat.not_lt.2 c10)
    have H' := Aside0.mk H
    clear H
    have hcz11_0 : w6.cell? ⟨gb224, 0, none⟩ = some (.int .i64 a0_0) := bc_ BK224 0
    have hcz11_1 : w6.cell? ⟨gb224, 1, none⟩ = some (.int .i64 a0_1) := bc_ BK224 1
    have hcz11_2 : w6.cell? ⟨gb224, 2, none⟩ = some (.slice A0_2 l0_2.length c0_2) := bc_ BK224 2
    have hfz11_0 := blk_frozen BK224.out 0
    have hfz11_1 := blk_frozen BK224.out 1
    have hfz11_2 := blk_frozen BK224.out 2
    go_wp2_with (first | ((with_reducible refine gate_callee (f := 59) rfl ?_); refine goesL_ (some 15) rfl rfl Tryd.func59 (by kernel_rfl) rfl #[.int .i64 a0_1] rfl zjb ?_; (with_reducible refine (thyrsusref3_Digits.calls k a0_1 t226 _ A9.out).mono ?_); rintro e w12 ⟨rfl, hb⟩; refine ⟨_, rfl, ?_⟩; have n0_ := Aside0.mk (blk_below (g := gb224) (o := .cells #[.int .i64 a0_0, .int .i64 a0_1, .slice A0_2 l0_2.length c0_2] 29 (0, 0)) (bk_ BK224.out) hb); have n1_ := Aside0.mk (below_step zja hb); clear BK224; clear HB; have BK224 := n0_; have HB := n1_; clear n0_ n1_; (try clear hb); (try clear hb2); (try clear hk); (try clear hi)))
    go_meet
    case rel => exact ⟨_, ((⟨#[118]⟩ : ByteArray) ++ t226), zjc, H', ⟨zje⟩, ⟨bk_ BK224.out⟩, ⟨zja⟩⟩
   ·rw [if_neg c10] at H
    exact absurd H (by simp)
  ·rw [if_neg c8] at H
   have c8b0 : (a0_0 == 1) = false := beq_eq_false_iff_ne.mpr c8
   have c8b1 : (a0_0 != 1) = true := bne_iff_ne.mpr c8
   (first | rw [c8b0] | (simp only [i64_w, i32_w, u8_w, u32_w]; rw [c8b0]) | skip)
   by_cases c13 : a0_0 = 2
   ·rw [if_pos c13] at H
    have c13b0 : (a0_0 == 2) = true := beq_iff_eq.mpr c13
    have c13b1 : (a0_0 != 2) = false := bne_eq_false_iff_eq.mpr c13
    clear c13
    replace H := Option.bind_eq_some_iff.mp H
    obtain ⟨t227, A140, H⟩ := H
    replace H : (if 1 + t227.size ≤ 9223372036854775807 then (thyrsusref4_Text.j0 k ((⟨#[85]⟩ : ByteArray) ++ t227) a0_0 a0_1 l0_2) else (none)) = some r := H
    have A14 := Aside0.mk A140
    clear A140
    by_cases c15 : 1 + t227.size ≤ 9223372036854775807
    ·rw [if_pos c15] at H
     have c15b0 := eq_true c15
     have c15b1 : decide (1 + t227.size ≤ 9223372036854775807) = true := decide_eq_true c15
     try have c15b2 : (9223372036854775807 < 1 + t227.size) = False := eq_false (Nat.not_lt.2 c15)
     have H' := Aside0.mk H
     clear H
     have hcz16_0 : w6.cell? ⟨gb224, 0, none⟩ = some (.int .i64 a0_0) := bc_ BK224 0
     have hcz16_1 : w6.cell? ⟨gb224, 1, none⟩ = some (.int .i64 a0_1) := bc_ BK224 1
     have hcz16_2 : w6.cell? ⟨gb224, 2, none⟩ = some (.slice A0_2 l0_2.length c0_2) := bc_ BK224 2
     have hfz16_0 := blk_frozen BK224.out 0
     have hfz16_1 := blk_frozen BK224.out 1
     have hfz16_2 := blk_frozen BK224.out 2
     go_wp2_with (first | ((with_reducible refine gate_callee (f := 59) rfl ?_); refine goesL_ (some 21) rfl rfl Tryd.func59 (by kernel_rfl) rfl #[.int .i64 a0_1] rfl zjb ?_; (with_reducible refine (thyrsusref3_Digits.calls k a0_1 t227 _ A14.out).mono ?_); rintro e w17 ⟨rfl, hb⟩; refine ⟨_, rfl, ?_⟩; have n0_ := Aside0.mk (blk_below (g := gb224) (o := .cells #[.int .i64 a0_0, .int .i64 a0_1, .slice A0_2 l0_2.length c0_2] 29 (0, 0)) (bk_ BK224.out) hb); have n1_ := Aside0.mk (below_step zja hb); clear BK224; clear HB; have BK224 := n0_; have HB := n1_; clear n0_ n1_; (try clear hb); (try clear hb2); (try clear hk); (try clear hi)))
     go_meet
     case rel => exact ⟨_, ((⟨#[85]⟩ : ByteArray) ++ t227), zjc, H', ⟨zje⟩, ⟨bk_ BK224.out⟩, ⟨zja⟩⟩
    ·rw [if_neg c15] at H
     exact absurd H (by simp)
   ·rw [if_neg c13] at H
    have c13b0 : (a0_0 == 2) = false := beq_eq_false_iff_ne.mpr c13
    have c13b1 : (a0_0 != 2) = true := bne_iff_ne.mpr c13
    by_cases c18 : a0_0 = 25
    ·rw [if_pos c18] at H
     have c18b0 : (a0_0 == 25) = true := beq_iff_eq.mpr c18
     have c18b1 : (a0_0 != 25) = false := bne_eq_false_iff_eq.mpr c18
     clear c18
     replace H := Option.bind_eq_some_iff.mp H
     obtain ⟨t228, A190, H⟩ := H
     replace H : (if 1 + t228.size ≤ 9223372036854775807 then (thyrsusref4_Text.j0 k ((⟨#[105]⟩ : ByteArray) ++ t228) a0_0 a0_1 l0_2) else (none)) = some r := H
     have A19 := Aside0.mk A190
     clear A190
     by_cases c20 : 1 + t228.size ≤ 9223372036854775807
     ·rw [if_pos c20] at H
      have c20b0 := eq_true c20
      have c20b1 : decide (1 + t228.size ≤ 9223372036854775807) = true := decide_eq_true c20
      try have c20b2 : (9223372036854775807 < 1 + t228.size) = False := eq_false (Nat.not_lt.2 c20)
      have H' := Aside0.mk H
      clear H
      have hcz21_0 : w6.cell? ⟨gb224, 0, none⟩ = some (.int .i64 a0_0) := bc_ BK224 0
      have hcz21_1 : w6.cell? ⟨gb224, 1, none⟩ = some (.int .i64 a0_1) := bc_ BK224 1
      have hcz21_2 : w6.cell? ⟨gb224, 2, none⟩ = some (.slice A0_2 l0_2.length c0_2) := bc_ BK224 2
      have hfz21_0 := blk_frozen BK224.out 0
      have hfz21_1 := blk_frozen BK224.out 1
      have hfz21_2 := blk_frozen BK224.out 2
      go_wp2_with (first | ((with_reducible refine gate_callee (f := 59) rfl ?_); refine goesL_ (some 27) rfl rfl Tryd.func59 (by kernel_rfl) rfl #[.int .i64 a0_1] rfl zjb ?_; (with_reducible refine (thyrsusref3_Digits.calls k a0_1 t228 _ A19.out).mono ?_); rintro e w22 ⟨rfl, hb⟩; refine ⟨_, rfl, ?_⟩; have n0_ := Aside0.mk (blk_below (g := gb224) (o := .cells #[.int .i64 a0_0, .int .i64 a0_1, .slice A0_2 l0_2.length c0_2] 29 (0, 0)) (bk_ BK224.out) hb); have n1_ := Aside0.mk (below_step zja hb); clear BK224; clear HB; have BK224 := n0_; have HB := n1_; clear n0_ n1_; (try clear hb); (try clear hb2); (try clear hk); (try clear hi)))
      go_meet
      case rel => exact ⟨_, ((⟨#[105]⟩ : ByteArray) ++ t228), zjc, H', ⟨zje⟩, ⟨bk_ BK224.out⟩, ⟨zja⟩⟩
     ·rw [if_neg c20] at H
      exact absurd H (by simp)
    ·rw [if_neg c18] at H
     have c18b0 : (a0_0 == 25) = false := beq_eq_false_iff_ne.mpr c18
     have c18b1 : (a0_0 != 25) = true := bne_iff_ne.mpr c18
     by_cases c23 : a0_0 = 26
     ·rw [if_pos c23] at H
      have c23b0 : (a0_0 == 26) = true := beq_iff_eq.mpr c23
      have c23b1 : (a0_0 != 26) = false := bne_eq_false_iff_eq.mpr c23
      clear c23
      by_cases c24 : t225.size + 1 ≤ 9223372036854775807
      ·rw [if_pos c24] at H
       have c24b0 := eq_true c24
       have c24b1 : decide (t225.size + 1 ≤ 9223372036854775807) = true := decide_eq_true c24
       try have c24b2 : (9223372036854775807 < t225.size + 1) = False := eq_false (Nat.not_lt.2 c24)
       replace H := Option.bind_eq_some_iff.mp H
       obtain ⟨t229, A250, H⟩ := H
       replace H : (if (t225 ++ (⟨#[47]⟩ : ByteArray)).size + t229.size ≤ 9223372036854775807 then (thyrsusref4_Text.j0 k ((t225 ++ (⟨#[47]⟩ : ByteArray)) ++ t229) a0_0 a0_1 l0_2) else (none)) = some r := H
       have A25 := Aside0.mk A250
       clear A250
       by_cases c26 : (t225 ++ (⟨#[47]⟩ : ByteArray)).size + t229.size ≤ 9223372036854775807
       ·rw [if_pos c26] at H
        have c26b0 := eq_true c26
        have c26b1 : decide ((t225 ++ (⟨#[47]⟩ : ByteArray)).size + t229.size ≤ 9223372036854775807) = true := decide_eq_true c26
        try have c26b2 : (9223372036854775807 < (t225 ++ (⟨#[47]⟩ : ByteArray)).size + t229.size) = False := eq_false (Nat.not_lt.2 c26)
        have c26n : t225.size + 1 + t229.size ≤ 9223372036854775807 := by
         have h_ := c26
         rw [ByteArray.size_append] at h_
         exact h_
        have c26b3 : (9223372036854775807 < t225.size + 1 + t229.size) = False := eq_false (Nat.not_lt.2 c26n)
        clear c26n
        have H' := Aside0.mk H
        clear H
        have hcz27_0 : w6.cell? ⟨gb224, 0, none⟩ = some (.int .i64 a0_0) := bc_ BK224 0
        have hcz27_1 : w6.cell? ⟨gb224, 1, none⟩ = some (.int .i64 a0_1) := bc_ BK224 1
        have hcz27_2 : w6.cell? ⟨gb224, 2, none⟩ = some (.slice A0_2 l0_2.length c0_2) := bc_ BK224 2
        have hfz27_0 := blk_frozen BK224.out 0
        have hfz27_1 := blk_frozen BK224.out 1
        have hfz27_2 := blk_frozen BK224.out 2
        go_wp2_with (first | ((with_reducible refine gate_callee (f := 59) rfl ?_); refine goesL_ (some 35) rfl rfl Tryd.func59 (by kernel_rfl) rfl #[.int .i64 a0_1] rfl zjb ?_; (with_reducible refine (thyrsusref3_Digits.calls k a0_1 t229 _ A25.out).mono ?_); rintro e w28 ⟨rfl, hb⟩; refine ⟨_, rfl, ?_⟩; have n0_ := Aside0.mk (blk_below (g := gb224) (o := .cells #[.int .i64 a0_0, .int .i64 a0_1, .slice A0_2 l0_2.length c0_2] 29 (0, 0)) (bk_ BK224.out) hb); have n1_ := Aside0.mk (below_step zja hb); clear BK224; clear HB; have BK224 := n0_; have HB := n1_; clear n0_ n1_; (try clear hb); (try clear hb2); (try clear hk); (try clear hi)))
        go_meet
        case rel => exact ⟨_, ((t225 ++ (⟨#[47]⟩ : ByteArray)) ++ t229), zjc, H', ⟨zje⟩, ⟨bk_ BK224.out⟩, ⟨zja⟩⟩
       ·rw [if_neg c26] at H
        exact absurd H (by simp)
      ·rw [if_neg c24] at H
       exact absurd H (by simp)
     ·rw [if_neg c23] at H
      have c23b0 : (a0_0 == 26) = false := beq_eq_false_iff_ne.mpr c23
      have c23b1 : (a0_0 != 26) = true := bne_iff_ne.mpr c23
      have H' := Aside0.mk H
      clear H
      go_wp2
      go_meet
      case rel => exact ⟨_, (t225), zjc, H', ⟨zje⟩, ⟨bk_ BK224.out⟩, ⟨zja⟩⟩
 case rest =>
  clear HC3
  try clear c1
  try clear c2
  try clear p2
  try clear c4
  try clear c5
  try clear c8
  try clear c8b0
  try clear c8b1
  try clear c10
  try clear c10b0
  try clear c10b1
  try clear c10b2
  try clear c13
  try clear c13b0
  try clear c13b1
  try clear c15
  try clear c15b0
  try clear c15b1
  try clear c15b2
  try clear c18
  try clear c18b0
  try clear c18b1
  try clear c20
  try clear c20b0
  try clear c20b1
  try clear c20b2
  try clear c23
  try clear c23b0
  try clear c23b1
  try clear c24
  try clear c24b0
  try clear c24b1
  try clear c24b2
  try clear c26
  try clear c26b0
  try clear c26b1
  try clear c26b2
  try clear hcz11_0
  try clear hcz11_1
  try clear hcz11_2
  try clear hcz16_0
  try clear hcz16_1
  try clear hcz16_2
  try clear hcz21_0
  try clear hcz21_1
  try clear hcz21_2
  try clear hcz27_0
  try clear hcz27_1
  try clear hcz27_2
  try clear hcz5_0
  try clear hcz5_1
  try clear hcz5_2
  try clear hcz7_0
  try clear hcz7_1
  try clear hcz7_2
  try clear hfz11_0
  try clear hfz11_1
  try clear hfz11_2
  try clear hfz16_0
  try clear hfz16_1
  try clear hfz16_2
  try clear hfz21_0
  try clear hfz21_1
  try clear hfz21_2
  try clear hfz27_0
  try clear hfz27_1
  try clear hfz27_2
  try clear hfz5_0
  try clear hfz5_1
  try clear hfz5_2
  try clear hfz7_0
  try clear hfz7_1
  try clear hfz7_2
  obtain ⟨kq, x3_2, rfl, HA, HJ2, BK224, HB⟩ := hcut
  cases kq with
  | zero => exact absurd HA.out (by simp [thyrsusref4_Text.j0])
  | succ kj2 =>
   have H := HA.out
   clear HA
   simp only [thyrsusref4_Text.j0] at H
   by_cases c29 : (l0_2.length : Int) = 0
   ·rw [if_pos c29] at H
    have c29b0 : ((l0_2.length : Int) == 0) = true := beq_iff_eq.mpr c29
    have c29b1 : ((l0_2.length : Int) != 0) = false := bne_eq_false_iff_eq.mpr c29
    clear c29
    obtain rfl := Option.some.inj H
    have hcz30_0 : wc.cell? ⟨gb224, 0, none⟩ = some (.int .i64 a0_0) := bc_ BK224 0
    have hcz30_1 : wc.cell? ⟨gb224, 1, none⟩ = some (.int .i64 a0_1) := bc_ BK224 1
    have hcz30_2 : wc.cell? ⟨gb224, 2, none⟩ = some (.slice A0_2 l0_2.length c0_2) := bc_ BK224 2
    have hfz30_0 := blk_frozen BK224.out 0
    have hfz30_1 := blk_frozen BK224.out 1
    have hfz30_2 := blk_frozen BK224.out 2
    go_wp2
    go_ret
    exact ⟨by first | rfl | (simp [errW_none, errW_some] <;> rfl) | (simp [*, errW_none, errW_some] <;> rfl), zja⟩
   ·rw [if_neg c29] at H
    have c29b0 : ((l0_2.length : Int) == 0) = false := beq_eq_false_iff_ne.mpr c29
    have c29b1 : ((l0_2.length : Int) != 0) = true := bne_iff_ne.mpr c29
    have c29b2 : ¬ (l0_2 = []) := fun h_ => c29 (by rw [h_]; rfl)
    by_cases c31 : 1 + x3_2.size ≤ 9223372036854775807
    ·rw [if_pos c31] at H
     have c31b0 := eq_true c31
     have c31b1 : decide (1 + x3_2.size ≤ 9223372036854775807) = true := decide_eq_true c31
     try have c31b2 : (9223372036854775807 < 1 + x3_2.size) = False := eq_false (Nat.not_lt.2 c31)
     have H' := Aside0.mk H
     clear H
     have hcz32_0 : wc.cell? ⟨gb224, 0, none⟩ = some (.int .i64 a0_0) := bc_ BK224 0
     have hcz32_1 : wc.cell? ⟨gb224, 1, none⟩ = some (.int .i64 a0_1) := bc_ BK224 1
     have hcz32_2 : wc.cell? ⟨gb224, 2, none⟩ = some (.slice A0_2 l0_2.length c0_2) := bc_ BK224 2
     have hfz32_0 := blk_frozen BK224.out 0
     have hfz32_1 := blk_frozen BK224.out 1
     have hfz32_2 := blk_frozen BK224.out 2
     go_wp2
     go_loopg [4, 5] kj2 (fun kq v4 v5 w' => ∃ (x4_2 : ByteArray) (x5_2 : Int), v4 = .string x4_2 ∧ v5 = .int .i64 x5_2 ∧ Aside0 (thyrsusref4_Text.l0 kq x4_2 x5_2 a0_0 a0_1 l0_2 = some r) ∧ Aside0 (kq ≤ kj2) ∧ Aside0 (w'.heap[gb224]? = some (.cells #[.int .i64 a0_0, .int .i64 a0_1, (.slice A0_2 l0_2.length c0_2)] 29 (0, 0))) ∧ Aside0 (Below w.heap.size w w'))
     case atStart => exact ⟨((⟨#[40]⟩ : ByteArray) ++ x3_2), (0), zjc, zjc, H', ⟨Nat.le_refl _⟩, ⟨bk_ BK224.out⟩, ⟨zja⟩⟩
     case round =>
      clear H'
      try clear c1
      try clear c2
      try clear p2
      try clear c3
      try clear c4
      try clear c5
      try clear c8
      try clear c8b0
      try clear c8b1
      try clear c10
      try clear c10b0
      try clear c10b1
      try clear c10b2
      try clear c13
      try clear c13b0
      try clear c13b1
      try clear c15
      try clear c15b0
      try clear c15b1
      try clear c15b2
      try clear c18
      try clear c18b0
      try clear c18b1
      try clear c20
      try clear c20b0
      try clear c20b1
      try clear c20b2
      try clear c23
      try clear c23b0
      try clear c23b1
      try clear c24
      try clear c24b0
      try clear c24b1
      try clear c24b2
      try clear c26
      try clear c26b0
      try clear c26b1
      try clear c26b2
      try clear c29
      try clear c29b0
      try clear c29b1
      try clear c29b2
      try clear c31
      try clear c31b0
      try clear c31b1
      try clear c31b2
      try clear hcz11_0
      try clear hcz11_1
      try clear hcz11_2
      try clear hcz16_0
      try clear hcz16_1
      try clear hcz16_2
      try clear hcz21_0
      try clear hcz21_1
      try clear hcz21_2
      try clear hcz27_0
      try clear hcz27_1
      try clear hcz27_2
      try clear hcz30_0
      try clear hcz30_1
      try clear hcz30_2
      try clear hcz32_0
      try clear hcz32_1
      try clear hcz32_2
      try clear hcz5_0
      try clear hcz5_1
      try clear hcz5_2
      try clear hcz7_0
      try clear hcz7_1
      try clear hcz7_2
      try clear hfz11_0
      try clear hfz11_1
      try clear hfz11_2
      try clear hfz16_0
      try clear hfz16_1
      try clear hfz16_2
      try clear hfz21_0
      try clear hfz21_1
      try clear hfz21_2
      try clear hfz27_0
      try clear hfz27_1
      try clear hfz27_2
      try clear hfz30_0
      try clear hfz30_1
      try clear hfz30_2
      try clear hfz32_0
      try clear hfz32_1
      try clear hfz32_2
      try clear hfz5_0
      try clear hfz5_1
      try clear hfz5_2
      try clear hfz7_0
      try clear hfz7_1
      try clear hfz7_2
      try clear p2
      try clear BK224
      try clear HB
      obtain ⟨x4_2, x5_2, rfl, rfl, HA, HK2, BK224, HB⟩ := hrel
      cases gk with
      | zero => exact absurd HA.out (by simp [thyrsusref4_Text.l0])
      | succ k2 =>
       have H := HA.out
       clear HA
       simp only [thyrsusref4_Text.l0] at H
       by_cases c33 : x5_2 < (l0_2.length : Int)
       ·rw [if_pos c33] at H
        have c33b0 : decide (x5_2 < (l0_2.length : Int)) = true := decide_eq_true c33
        clear c33
        by_cases c34 : x4_2.size + 1 ≤ 9223372036854775807
        ·rw [if_pos c34] at H
         have c34b0 := eq_true c34
         have c34b1 : decide (x4_2.size + 1 ≤ 9223372036854775807) = true := decide_eq_true c34
         try have c34b2 : (9223372036854775807 < x4_2.size + 1) = False := eq_false (Nat.not_lt.2 c34)
         by_cases c35 : 0 ≤ x5_2
         ·rw [if_pos c35] at H
          have c35b0 : decide (0 ≤ x5_2) = true := decide_eq_true c35
          clear c35
          replace H := Option.bind_eq_some_iff.mp H
          obtain ⟨t231, A360, H⟩ := H
          replace H : (if (x4_2 ++ (⟨#[32]⟩ : ByteArray)).size + t231.size ≤ 9223372036854775807 then (thyrsusref4_Text.l0 k2 ((x4_2 ++ (⟨#[32]⟩ : ByteArray)) ++ t231) (wrap64 (x5_2 + 1)) a0_0 a0_1 l0_2) else (none)) = some r := H
          have A36 := Aside0.mk A360
          clear A360
          by_cases c37 : (x4_2 ++ (⟨#[32]⟩ : ByteArray)).size + t231.size ≤ 9223372036854775807
          ·rw [if_pos c37] at H
           have c37b0 := eq_true c37
           have c37b1 : decide ((x4_2 ++ (⟨#[32]⟩ : ByteArray)).size + t231.size ≤ 9223372036854775807) = true := decide_eq_true c37
           try have c37b2 : (9223372036854775807 < (x4_2 ++ (⟨#[32]⟩ : ByteArray)).size + t231.size) = False := eq_false (Nat.not_lt.2 c37)
           have c37n : x4_2.size + 1 + t231.size ≤ 9223372036854775807 := by
            have h_ := c37
            rw [ByteArray.size_append] at h_
            exact h_
           have c37b3 : (9223372036854775807 < x4_2.size + 1 + t231.size) = False := eq_false (Nat.not_lt.2 c37n)
           clear c37n
           have H' := Aside0.mk H
           clear H
           have hcz38_0 : wr.cell? ⟨gb224, 0, none⟩ = some (.int .i64 a0_0) := bc_ BK224 0
           have hcz38_1 : wr.cell? ⟨gb224, 1, none⟩ = some (.int .i64 a0_1) := bc_ BK224 1
           have hcz38_2 : wr.cell? ⟨gb224, 2, none⟩ = some (.slice A0_2 l0_2.length c0_2) := bc_ BK224 2
           have hfz38_0 := blk_frozen BK224.out 0
           have hfz38_1 := blk_frozen BK224.out 1
           have hfz38_2 := blk_frozen BK224.out 2
           have p230 : 0 ≤ (x5_2 : Int) := of_decide_eq_true (by first | (with_reducible assumption) | assumption)
           have q230 : x5_2 < (l0_2.length : Int) := of_decide_eq_true (by first | (with_reducible assumption) | assumption)
           obtain ⟨ad230, A230_2, c230_2, e230, hx230_0, hx230_1, hx230_2, hl230_2, hi230_2⟩ := at_T29 HR0_2.out x5_2 p230 q230
           cases e230
           replace hx230_0 := (HB.out.cell (World.block_lt_of_cell? w _ hx230_0)).trans hx230_0
           replace hx230_1 := (HB.out.cell (World.block_lt_of_cell? w _ hx230_1)).trans hx230_1
           replace hx230_2 := (HB.out.cell (World.block_lt_of_cell? w _ hx230_2)).trans hx230_2
           have HR230_2 := Aside0.mk hi230_2
           have HC230_2 := Aside0.mk hl230_2
           clear hi230_2 hl230_2
           replace p230 := eq_true p230
           replace q230 := eq_true q230
           go_wp2_with (first | ((with_reducible refine gate_callee (f := 40) rfl ?_); refine goesL_ (some 58) rfl rfl Tryd.func40 (by kernel_rfl) rfl #[.agg #[.int .i64 ((rd_T29 l0_2 x5_2).f0), .int .i64 ((rd_T29 l0_2 x5_2).f1), .slice A230_2 ((rd_T29 l0_2 x5_2).f2).length c230_2]] rfl zjb ?_; (with_reducible refine (ih k2 (by have := HJ2.out; have := HK2.out; omega) ((rd_T29 l0_2 x5_2).f0) ((rd_T29 l0_2 x5_2).f1) _ _ ((rd_T29 l0_2 x5_2).f2) t231 _ ?side1 ?side2 A36.out).mono ?_); (case side1 => repeat (first | exact (Kd.C_below HR230_2.out HB.out) | (with_reducible refine Kd.C_alloc ?_ _) | (with_reducible refine Kd.C_drewN ?_ _) | (with_reducible refine Kd.C_drew ?_))); (case side2 => exact HC230_2.out); rintro e w39 ⟨rfl, hb⟩; refine ⟨_, rfl, ?_⟩; have n0_ := Aside0.mk (blk_below (g := gb224) (o := .cells #[.int .i64 a0_0, .int .i64 a0_1, .slice (some ad230) l0_2.length c0_2] 29 (0, 0)) (bk_ BK224.out) hb); have n1_ := Aside0.mk (below_step zja hb); clear BK224; clear HB; have BK224 := n0_; have HB := n1_; clear n0_ n1_; (try clear hb); (try clear hb2); (try clear hk); (try clear hi)))
           go_roundg k2
           case measure => have := HJ2.out; have := HK2.out; omega
           case rel => exact ⟨((x4_2 ++ (⟨#[32]⟩ : ByteArray)) ++ t231), (wrap64 (x5_2 + 1)), zjc, zjc, H', ⟨by have := HJ2.out; have := HK2.out; omega⟩, ⟨bk_ BK224.out⟩, ⟨zja⟩⟩
          ·rw [if_neg c37] at H
           exact absurd H (by simp)
         ·rw [if_neg c35] at H
          exact absurd H (by simp)
        ·rw [if_neg c34] at H
         exact absurd H (by simp)
       ·rw [if_neg c33] at H
        have c33b0 : decide (x5_2 < (l0_2.length : Int)) = false := decide_eq_false c33
        clear c33
        by_cases c40 : x4_2.size + 1 ≤ 9223372036854775807
        ·rw [if_pos c40] at H
         have c40b0 := eq_true c40
         have c40b1 : decide (x4_2.size + 1 ≤ 9223372036854775807) = true := decide_eq_true c40
         try have c40b2 : (9223372036854775807 < x4_2.size + 1) = False := eq_false (Nat.not_lt.2 c40)
         obtain rfl := Option.some.inj H
         have hcz41_0 : wr.cell? ⟨gb224, 0, none⟩ = some (.int .i64 a0_0) := bc_ BK224 0
         have hcz41_1 : wr.cell? ⟨gb224, 1, none⟩ = some (.int .i64 a0_1) := bc_ BK224 1
         have hcz41_2 : wr.cell? ⟨gb224, 2, none⟩ = some (.slice A0_2 l0_2.length c0_2) := bc_ BK224 2
         have hfz41_0 := blk_frozen BK224.out 0
         have hfz41_1 := blk_frozen BK224.out 1
         have hfz41_2 := blk_frozen BK224.out 2
         go_wp2
         go_ret
         exact ⟨by first | rfl | (simp [errW_none, errW_some] <;> rfl) | (simp [*, errW_none, errW_some] <;> rfl), zja⟩
        ·rw [if_neg c40] at H
         exact absurd H (by simp)
    ·rw [if_neg c31] at H
     exact absurd H (by simp)

end Go.Proofs.YtcchfblekaaalaaDoor.P
