-- Printed by mkprint.py (a program of this session, over the kit's print). Lean checks it.
import Derived.Test.YtcchfblekaaalaaDoorMPx0
import Derived.Test.YtcchfblekaaalaaDoorMQx1
import Derived.Test.YtcchfblekaaalaaDoorMPx1
namespace Go.Proofs.YtcchfblekaaalaaDoor.P
open Go.RowKit Go.Proofs.YtcchfblekaaalaaDoorW.PrintWords Go.Proofs.YtcchfblekaaalaaDoorW.PrintLast Go.Proofs.YtcchfblekaaalaaDoorW.PrintMore
attribute [local go_sem] max2_int min2_int max_two min_two max_three min_three max_four min_four   -- for this text's walks alone
set_option linter.unusedVariables false
set_option linter.unusedSimpArgs false
theorem zca {p : Prop} (h : p := by repeat (first | (with_reducible first | exact HB.out | apply below_alloc | apply pw_below_drewN | apply below_drew1 | refine below_set ?_ GE496.out | refine below_set ?_ GE497.out | refine below_set ?_ GE498.out) | exact HB.out)) : p := h
theorem zcb {p : Prop} (h : p := by repeat (first | (with_reducible first | exact HB.out | apply below_alloc | apply pw_below_drewN | apply below_drew1 | refine below_set ?_ GE496.out | refine below_set ?_ GE497.out) | exact HB.out)) : p := h
theorem zcc {p : Prop} (h : p := by repeat (first | (with_reducible first | exact HB.out | apply below_alloc | apply pw_below_drewN | apply below_drew1 | refine below_set ?_ GE496.out) | exact HB.out)) : p := h
theorem zcd {p : Prop} (h : p := by repeat (first | (with_reducible first | exact HB.out | apply below_alloc | apply pw_below_drewN | apply below_drew1) | exact HB.out)) : p := h
theorem zce {p : Prop} (h : p := by kernel_rfl) : p := h
theorem zcf {p : Prop} (h : p := by rw [hg]; exact Nat.ne_of_lt (blk_lt (g := gb496) (o := .cells #[.int .i64 a0_0, .int .i64 a0_1, .slice A0_2 l0_2.length c0_2] 29 (0, 0)) (bk_ BK496.out))) : p := h
theorem zcg {p : Prop} (h : p := by rw [hg]; exact Nat.ne_of_gt (blk_lt (g := gb496) (o := .cells #[.int .i64 a0_0, .int .i64 a0_1, .slice A0_2 l0_2.length c0_2] 29 (0, 0)) (bk_ BK496.out))) : p := h
theorem zch {p : Prop} (h : p := by (try simp only [List.map_toArray, List.map_cons, List.map_nil]); first | done | rfl | (simp only [List.length_drop, List.length_take]; rfl)) : p := h
theorem zci {p : Prop} (h : p := by first | rfl | (simp; done) | (simp [*]; done)) : p := h

/-! ### thyrsusref4_Shift: function 38 -/
mutual
def thyrsusref4_Shift.j0 : Nat → Int → Int → Bool → Int → Int → List (S29) → Int → Int → Option (Int × Int × (List (S29)))
 | 0, _, _, _, _, _, _, _, _ => none
 | k + 1, x1, x2, x22, x497000, x497001, x497002, x499000, x499001 => if x22 = true then (thyrsusref4_Shift.j1 k x1 x2 x497000 x497001 x497002 x499000 (wrap64 (x497001 + x1))) else (thyrsusref4_Shift.j1 k x1 x2 x497000 x497001 x497002 x499000 x499001)
def thyrsusref4_Shift.j1 : Nat → Int → Int → Int → Int → List (S29) → Int → Int → Option (Int × Int × (List (S29)))
 | 0, _, _, _, _, _, _, _ => none
 | k + 1, x1, x2, x497000, x497001, x497002, x499000, x499001 => thyrsusref4_Shift.l0 k x1 x2 0 x497000 x497001 x497002 x499000 x499001 ([] : List (S29))
def thyrsusref4_Shift.l0 : Nat → Int → Int → Int → Int → Int → List (S29) → Int → Int → List (S29) → Option (Int × Int × (List (S29)))
 | 0, _, _, _, _, _, _, _, _, _ => none
 | k + 1, x1, x2, x8, x497000, x497001, x497002, x499000, x499001, x499002 => if x8 < (x497002.length : Int) then (if 0 ≤ x8 then ((thyrsusref4_Binders.f k x497000 x8).bind fun t500 => ((thyrsusref4_Shift.f k ((rd_T29 x497002 x8).f0) ((rd_T29 x497002 x8).f1) ((rd_T29 x497002 x8).f2) x1 (wrap64 (x2 + t500))).bind fun bt501 => (if x499002.length < 3518437208883 then (thyrsusref4_Shift.l0 k x1 x2 (wrap64 (x8 + 1)) x497000 x497001 x497002 x499000 x499001 (x499002 ++ [(⟨bt501.1, bt501.2.1, bt501.2.2⟩ : S29)])) else (none)))) else (none)) else (some (x499000, x499001, x499002))
def thyrsusref4_Shift.f : Nat → Int → Int → List (S29) → Int → Int → Option (Int × Int × (List (S29)))
 | 0, _, _, _, _, _ => none
 | k + 1, a0_0, a0_1, l0_2, a1, a2 => if a0_0 = 1 then (thyrsusref4_Shift.j0 k a1 a2 (decide (a0_1 ≥ a2)) a0_0 a0_1 l0_2 a0_0 a0_1) else (thyrsusref4_Shift.j0 k a1 a2 false a0_0 a0_1 l0_2 a0_0 a0_1)
end
def thyrsusref4_Shift.T7 : Bool × List (List Nat × List Nat) := (true, [([], []), ([0], [0]), ([], []), ([2], [2]), ([], []), ([3, 4], [3, 4]), ([5], [5]), ([], []), ([], []), ([], []), ([9], [9]), ([], []), ([10, 11], [10, 11]), ([8, 12], [8, 12]), ([6, 7, 13, 12], [6, 7, 13]), ([14], [14]), ([1, 15, 14], [1, 15]), ([0, 1, 2, 3, 4, 5, 6, 7, 8, 9, 10, 11, 12, 13, 14, 15, 16], []), ([17, 16, 16, 0, 1, 2, 3, 4, 5, 6, 7, 8, 9, 10, 11, 12, 13, 14, 15, 16], [16, 17])])
def thyrsusref4_Shift.B7 : List Nat := [0, 1, 0, 4, 0, 28, 60, 0, 0, 0, 512, 0, 3584, 7936, 16380, 32764, 65535, 131071, 262143]
theorem thyrsusref4_Shift.tab7 : rtab .any (opsOf Tryd.f38 7) = thyrsusref4_Shift.T7 := by kernel_rfl
theorem thyrsusref4_Shift.bits7 : waitsOk thyrsusref4_Shift.T7.2 thyrsusref4_Shift.B7 = true := by kernel_rfl
set_option maxHeartbeats 8000000 in
set_option maxRecDepth 100000 in
theorem thyrsusref4_Shift.calls (k : Nat) : ∀ (a0_0 : Int) (a0_1 : Int) (A0_2 : Option Addr) (c0_2 : Nat) (l0_2 : List (S29)) (a1 : Int) (a2 : Int) (r1 : Int) (r2 : Int) (r3 : List (S29)) (w : World) (hr0_2 : Kd.C k29 w A0_2 l0_2.length l0_2) (hc0_2 : l0_2.length ≤ c0_2) (h : thyrsusref4_Shift.f k a0_0 a0_1 l0_2 a1 a2 = some (r1, r2, r3)),
  Calls Tryd.prog 38 #[.agg #[.int .i64 a0_0, .int .i64 a0_1, .slice A0_2 l0_2.length c0_2], .int .i64 a1, .int .i64 a2] w fun e w' => ∃ v2_ : Value, e = .returned (.agg #[.int .i64 r1, .int .i64 r2, v2_]) ∧ Kd.R k29 29 w' w.heap.size (fun _ => True) v2_ r3 ∧ Below w.heap.size w w' := by
 induction k using Nat.strongRecOn with
 | _ k ih =>
 intro a0_0 a0_1 A0_2 c0_2 l0_2 a1 a2 r1 r2 r3 w hr0_2 hc0_2 h
 cases k with
 | zero => exact absurd h (by simp [thyrsusref4_Shift.f])
 | succ k =>
 simp only [thyrsusref4_Shift.f] at h
 have hu29 := Tryd.underlying29
 have HR0_2 := Aside0.mk hr0_2
 have HC0_2 := Aside0.mk hc0_2
 clear hr0_2 hc0_2
 have HB := Aside0.mk (Below.refl w.heap.size w)
 have H : (if a0_0 = 1 then (thyrsusref4_Shift.j0 k a1 a2 (decide (a0_1 ≥ a2)) a0_0 a0_1 l0_2 a0_0 a0_1) else (thyrsusref4_Shift.j0 k a1 a2 false a0_0 a0_1 l0_2 a0_0 a0_1)) = some (r1, r2, r3) := h
 clear h
 have HC4 := Aside0.mk H
 clear H
 go_enter Tryd.func38, Tryd.ntmps38
 go_upto_region 2 with (first | ((with_reducible refine gate_dst (N := 3) rfl ?_); refine box_event ?hg (N := 3) ?hd (cs := #[.int .i64 a0_0, .int .i64 a0_1, .slice A0_2 l0_2.length c0_2]) (t := 29) ?hr ?_; (case hd => rfl); (case hg => rfl); (case hr => first | (go_simp; done) | (go_simp; rfl)); intro gb496 hg w5 hbox hb; have n0_ := Aside0.mk (below_step zcd hb); have n1_ := Aside0.mk (hbox); have n2_ := Aside0.mk ((by rw [hg]; exact (below_size zcd) : w.heap.size ≤ gb496)); have n3_ := Aside0.mk ((by rw [hg]; exact (below_size zcd) : w.heap.size ≤ gb496)); clear HB; have HB := n0_; have BK496 := n1_; have GW496 := n2_; have GE496 := n3_; clear n0_ n1_ n2_ n3_; clear hb hbox hg) | ((with_reducible refine gate_dst (N := 6) rfl ?_); refine box_event ?hg (N := 6) ?hd (cs := #[.int .i64 0, .int .i64 0, .slice none 0 0]) (t := 29) ?hr ?_; (case hd => rfl); (case hg => rfl); (case hr => first | (go_simp; done) | (go_simp; rfl)); intro gb497 hg w6 hbox hb; have n0_ := Aside0.mk (blk_below (g := gb496) (o := .cells #[.int .i64 a0_0, .int .i64 a0_1, .slice A0_2 l0_2.length c0_2] 29 (0, 0)) (bk_ BK496.out) hb); have n1_ := Aside0.mk (below_step zcc hb); have n2_ := Aside0.mk (hbox); have n3_ := Aside0.mk ((by rw [hg]; exact (below_size zcc) : w.heap.size ≤ gb497)); have n4_ := Aside0.mk ((by rw [hg]; exact (below_size zcc) : w.heap.size ≤ gb497)); have n5_ := Aside0.mk ((zcf : gb496 ≠ gb497)); have n6_ := Aside0.mk ((zcg : gb497 ≠ gb496)); clear BK496; clear HB; have BK496 := n0_; have HB := n1_; have BK497 := n2_; have GW497 := n3_; have GE497 := n4_; have NB496_497 := n5_; have NB497_496 := n6_; clear n0_ n1_ n2_ n3_ n4_ n5_ n6_; clear hb hbox hg; have hnb7 := NB496_497.out; have hnc7 := NB497_496.out; have hcz8_0 : w6.cell? ⟨gb496, 0, none⟩ = some (.int .i64 a0_0) := bc_ BK496 0; have hcz8_1 : w6.cell? ⟨gb496, 1, none⟩ = some (.int .i64 a0_1) := bc_ BK496 1; have hcz8_2 : w6.cell? ⟨gb496, 2, none⟩ = some (.slice A0_2 l0_2.length c0_2) := bc_ BK496 2; have hfz8_0 := blk_frozen BK496.out 0; have hfz8_1 := blk_frozen BK496.out 1; have hfz8_2 := blk_frozen BK496.out 2) | ((with_reducible refine gate_dst (N := 7) rfl ?_); refine box_event ?hg (N := 7) ?hd (cs := #[.int .i64 0, .int .i64 0, .slice none 0 0]) (t := 29) ?hr ?_; (case hd => rfl); (case hg => rfl); (case hr => first | (go_simp; done) | (go_simp; rfl)); intro gb498 hg w9 hbox hb; have n0_ := Aside0.mk (blk_below (g := gb496) (o := .cells #[.int .i64 a0_0, .int .i64 a0_1, .slice A0_2 l0_2.length c0_2] 29 (0, 0)) (bk_ BK496.out) hb); have n1_ := Aside0.mk (blk_below (g := gb497) (o := .cells #[.int .i64 0, .int .i64 0, .slice none 0 0] 29 (0, 0)) (bk_ BK497.out) hb); have n2_ := Aside0.mk (below_step zcb hb); have n3_ := Aside0.mk (hbox); have n4_ := Aside0.mk ((by rw [hg]; exact (below_size zcb) : w.heap.size ≤ gb498)); have n5_ := Aside0.mk ((by rw [hg]; exact (below_size zcb) : w.heap.size ≤ gb498)); have n6_ := Aside0.mk ((zcf : gb496 ≠ gb498)); have n7_ := Aside0.mk ((zcg : gb498 ≠ gb496)); have n8_ := Aside0.mk ((by rw [hg]; exact Nat.ne_of_lt (blk_lt (g := gb497) (o := .cells #[.int .i64 0, .int .i64 0, .slice none 0 0] 29 (0, 0)) (bk_ BK497.out)) : gb497 ≠ gb498)); have n9_ := Aside0.mk ((by rw [hg]; exact Nat.ne_of_gt (blk_lt (g := gb497) (o := .cells #[.int .i64 0, .int .i64 0, .slice none 0 0] 29 (0, 0)) (bk_ BK497.out)) : gb498 ≠ gb497)); clear BK496; clear BK497; clear HB; have BK496 := n0_; have BK497 := n1_; have HB := n2_; have BK498 := n3_; have GW498 := n4_; have GE498 := n5_; have NB496_498 := n6_; have NB498_496 := n7_; have NB497_498 := n8_; have NB498_497 := n9_; clear n0_ n1_ n2_ n3_ n4_ n5_ n6_ n7_ n8_ n9_; clear hb hbox hg; have hnb10 := NB498_496.out; have hnc10 := NB496_498.out; have hnb11 := NB498_497.out; have hnc11 := NB497_498.out; have hcz12_0 : w9.cell? ⟨gb498, 0, none⟩ = some (.int .i64 0) := bc_ BK498 0; have hcz12_1 : w9.cell? ⟨gb498, 1, none⟩ = some (.int .i64 0) := bc_ BK498 1; have hcz12_2 : w9.cell? ⟨gb498, 2, none⟩ = some (.slice none 0 0) := bc_ BK498 2; have hfz12_0 := blk_frozen BK498.out 0; have hfz12_1 := blk_frozen BK498.out 1; have hfz12_2 := blk_frozen BK498.out 2) | ((with_reducible refine gate_store (t := 29) (p := 7) rfl ?_); refine store_event (t := 29) (p := 7) (v := ?vo_w13) (w1 := (((w9.setCell ⟨gb498, 0, none⟩ (.int .i64 a0_0)).setCell ⟨gb498, 1, none⟩ (.int .i64 a0_1)).setCell ⟨gb498, 2, none⟩ (.slice none 0 0))) ?hg ?ho ?hn ?hr ?_; (case ho => rfl); (case hg => rfl); (case hn => rfl); (case hr => first | (go_simp; done) | (go_simp; rfl)); intro w13 hw; have n0_ : Aside0 (w13.heap[gb496]? = some (.cells #[.int .i64 a0_0, .int .i64 a0_1, .slice A0_2 l0_2.length c0_2] 29 (0, 0))) := ⟨(by rw [hw]; exact (by refine bk_ ?_; refine blk_far ?_ NB496_498.out _; refine bk_ ?_; refine blk_far ?_ NB496_498.out _; refine bk_ ?_; refine blk_far ?_ NB496_498.out _; exact bk_ BK496.out))⟩; have n1_ : Aside0 (w13.heap[gb497]? = some (.cells #[.int .i64 0, .int .i64 0, .slice none 0 0] 29 (0, 0))) := ⟨(by rw [hw]; exact (by refine bk_ ?_; refine blk_far ?_ NB497_498.out _; refine bk_ ?_; refine blk_far ?_ NB497_498.out _; refine bk_ ?_; refine blk_far ?_ NB497_498.out _; exact bk_ BK497.out))⟩; have n2_ : Aside0 (w13.heap[gb498]? = some (.cells #[.int .i64 a0_0, .int .i64 a0_1, .slice none 0 0] 29 (0, 0))) := ⟨(by rw [hw]; exact (by refine bk_ ?_; refine blk_put (cs := #[.int .i64 a0_0, .int .i64 a0_1, .slice none 0 0]) ?_ 2 _ rfl; refine bk_ ?_; refine blk_put (cs := #[.int .i64 a0_0, .int .i64 0, .slice none 0 0]) ?_ 1 _ rfl; refine bk_ ?_; refine blk_put (cs := #[.int .i64 0, .int .i64 0, .slice none 0 0]) ?_ 0 _ rfl; exact bk_ BK498.out))⟩; have n3_ : Aside0 (Below w.heap.size w w13) := ⟨(by rw [hw]; exact zca)⟩; clear hw; clear BK496; clear BK497; clear BK498; clear HB; have BK496 := n0_; have BK497 := n1_; have BK498 := n2_; have HB := n3_; clear n0_ n1_ n2_ n3_))
 (try simp only [Act.put, List.setIfInBounds_toArray, List.set_cons_zero, List.set_cons_succ])
 go_cut [22] (fun v22 wc => ∃ (kq : Nat) (x22_3 : Bool), v22 = .bool x22_3 ∧ Aside0 (thyrsusref4_Shift.j0 kq a1 a2 x22_3 a0_0 a0_1 l0_2 a0_0 a0_1 = some (r1, r2, r3)) ∧ Aside0 (kq ≤ k) ∧ Aside0 (wc.heap[gb496]? = some (.cells #[.int .i64 a0_0, .int .i64 a0_1, (.slice A0_2 l0_2.length c0_2)] 29 (0, 0))) ∧ Aside0 (wc.heap[gb497]? = some (.cells #[.int .i64 0, .int .i64 0, (.slice none 0 0)] 29 (0, 0))) ∧ Aside0 (wc.heap[gb498]? = some (.cells #[.int .i64 a0_0, .int .i64 a0_1, (.slice none 0 0)] 29 (0, 0))) ∧ Aside0 (Below w.heap.size w wc))
 case first =>
  have H := HC4.out
  clear HC4
  by_cases c14 : a0_0 = 1
  ·rw [if_pos c14] at H
   have c14b0 : (a0_0 == 1) = true := beq_iff_eq.mpr c14
   have c14b1 : (a0_0 != 1) = false := bne_eq_false_iff_eq.mpr c14
   clear c14
   (first | rw [c14b0] | (simp only [i64_w, i32_w, u8_w, u32_w]; rw [c14b0]) | skip)
   have H' := Aside0.mk H
   clear H
   have hnb15 := NB496_497.out
   have hnc15 := NB497_496.out
   have hnb16 := NB496_498.out
   have hnc16 := NB498_496.out
   have hcz17_0 : w13.cell? ⟨gb496, 0, none⟩ = some (.int .i64 a0_0) := bc_ BK496 0
   have hcz17_1 : w13.cell? ⟨gb496, 1, none⟩ = some (.int .i64 a0_1) := bc_ BK496 1
   have hcz17_2 : w13.cell? ⟨gb496, 2, none⟩ = some (.slice A0_2 l0_2.length c0_2) := bc_ BK496 2
   have hfz17_0 := blk_frozen BK496.out 0
   have hfz17_1 := blk_frozen BK496.out 1
   have hfz17_2 := blk_frozen BK496.out 2
   go_wp2
   go_meet
   case rel => exact ⟨_, (decide (a0_1 ≥ a2)), zci, H', ⟨by first | omega | exact Nat.le_refl _⟩, ⟨bk_ BK496.out⟩, ⟨bk_ BK497.out⟩, ⟨bk_ BK498.out⟩, ⟨zca⟩⟩
  ·rw [if_neg c14] at H
   have c14b0 : (a0_0 == 1) = false := beq_eq_false_iff_ne.mpr c14
   have c14b1 : (a0_0 != 1) = true := bne_iff_ne.mpr c14
   (first | rw [c14b0] | (simp only [i64_w, i32_w, u8_w, u32_w]; rw [c14b0]) | skip)
   have H' := Aside0.mk H
   clear H
   have hnb18 := NB496_497.out
   have hnc18 := NB497_496.out
   have hnb19 := NB496_498.out
   have hnc19 := NB498_496.out
   have hcz20_0 : w13.cell? ⟨gb496, 0, none⟩ = some (.int .i64 a0_0) := bc_ BK496 0
   have hcz20_1 : w13.cell? ⟨gb496, 1, none⟩ = some (.int .i64 a0_1) := bc_ BK496 1
   have hcz20_2 : w13.cell? ⟨gb496, 2, none⟩ = some (.slice A0_2 l0_2.length c0_2) := bc_ BK496 2
   have hfz20_0 := blk_frozen BK496.out 0
   have hfz20_1 := blk_frozen BK496.out 1
   have hfz20_2 := blk_frozen BK496.out 2
   go_wp2
   go_meet
   case rel => exact ⟨_, (false), zci, H', ⟨by first | omega | exact Nat.le_refl _⟩, ⟨bk_ BK496.out⟩, ⟨bk_ BK497.out⟩, ⟨bk_ BK498.out⟩, ⟨zca⟩⟩
 case rest =>
  clear HC4
  try clear c1
  try clear p2
  try clear c3
  try clear c7
  try clear c10
  try clear c11
  try clear c14
  try clear c14b0
  try clear c14b1
  try clear c15
  try clear c16
  try clear c18
  try clear c19
  try clear hcz12_0
  try clear hcz12_1
  try clear hcz12_2
  try clear hcz17_0
  try clear hcz17_1
  try clear hcz17_2
  try clear hcz20_0
  try clear hcz20_1
  try clear hcz20_2
  try clear hcz8_0
  try clear hcz8_1
  try clear hcz8_2
  try clear hfz12_0
  try clear hfz12_1
  try clear hfz12_2
  try clear hfz17_0
  try clear hfz17_1
  try clear hfz17_2
  try clear hfz20_0
  try clear hfz20_1
  try clear hfz20_2
  try clear hfz8_0
  try clear hfz8_1
  try clear hfz8_2
  obtain ⟨kq, x22_3, rfl, HA, HJ3, BK496, BK497, BK498, HB⟩ := hcut
  cases kq with
  | zero => exact absurd HA.out (by simp [thyrsusref4_Shift.j0])
  | succ kj3 =>
   have H := HA.out
   clear HA
   simp only [thyrsusref4_Shift.j0] at H
   have HC21 := Aside0.mk H
   clear H
   go_upto_if 22 with (fail)
   go_cut [] (fun wc => ∃ (kq : Nat) (x499001_20 : Int), Aside0 (thyrsusref4_Shift.j1 kq a1 a2 a0_0 a0_1 l0_2 a0_0 x499001_20 = some (r1, r2, r3)) ∧ Aside0 (kq ≤ kj3) ∧ Aside0 (wc.heap[gb496]? = some (.cells #[.int .i64 a0_0, .int .i64 a0_1, (.slice A0_2 l0_2.length c0_2)] 29 (0, 0))) ∧ Aside0 (wc.heap[gb497]? = some (.cells #[.int .i64 0, .int .i64 0, (.slice none 0 0)] 29 (0, 0))) ∧ Aside0 (wc.heap[gb498]? = some (.cells #[.int .i64 a0_0, .int .i64 x499001_20, (.slice none 0 0)] 29 (0, 0))) ∧ Aside0 (Below w.heap.size w wc))
   case first =>
    have H := HC21.out
    clear HC21
    by_cases c22 : x22_3 = true
    ·subst c22
     have H1 : (thyrsusref4_Shift.j1 kj3 a1 a2 a0_0 a0_1 l0_2 a0_0 (wrap64 (a0_1 + a1))) = some (r1, r2, r3) := by rw [if_pos rfl] at H; exact H
     clear H
     have H := H1
     clear H1
     have H' := Aside0.mk H
     clear H
     have hnb23 := NB496_497.out
     have hnc23 := NB497_496.out
     have hnb24 := NB496_498.out
     have hnc24 := NB498_496.out
     have hcz25_0 : wc.cell? ⟨gb496, 0, none⟩ = some (.int .i64 a0_0) := bc_ BK496 0
     have hcz25_1 : wc.cell? ⟨gb496, 1, none⟩ = some (.int .i64 a0_1) := bc_ BK496 1
     have hcz25_2 : wc.cell? ⟨gb496, 2, none⟩ = some (.slice A0_2 l0_2.length c0_2) := bc_ BK496 2
     have hfz25_0 := blk_frozen BK496.out 0
     have hfz25_1 := blk_frozen BK496.out 1
     have hfz25_2 := blk_frozen BK496.out 2
     have hnb26 := NB498_497.out
     have hnc26 := NB497_498.out
     have hcz27_0 : wc.cell? ⟨gb498, 0, none⟩ = some (.int .i64 a0_0) := bc_ BK498 0
     have hcz27_1 : wc.cell? ⟨gb498, 1, none⟩ = some (.int .i64 a0_1) := bc_ BK498 1
     have hcz27_2 : wc.cell? ⟨gb498, 2, none⟩ = some (.slice none 0 0) := bc_ BK498 2
     have hfz27_0 := blk_frozen BK498.out 0
     have hfz27_1 := blk_frozen BK498.out 1
     have hfz27_2 := blk_frozen BK498.out 2
     go_wp2_with (first | ((with_reducible refine gate_store (t := 3) (p := 27) rfl ?_); refine store_event (t := 3) (p := 27) (v := ?vo_w28) (w1 := (wc.setCell ⟨gb498, 1, none⟩ (.int .i64 (wrap64 (a0_1 + a1))))) ?hg ?ho ?hn ?hr ?_; (case ho => rfl); (case hg => rfl); (case hn => rfl); (case hr => first | (go_simp; done) | (go_simp; rfl)); intro w28 hw; have n0_ : Aside0 (w28.heap[gb496]? = some (.cells #[.int .i64 a0_0, .int .i64 a0_1, .slice A0_2 l0_2.length c0_2] 29 (0, 0))) := ⟨(by rw [hw]; exact (by refine bk_ ?_; refine blk_far ?_ NB496_498.out _; exact bk_ BK496.out))⟩; have n1_ : Aside0 (w28.heap[gb497]? = some (.cells #[.int .i64 0, .int .i64 0, .slice none 0 0] 29 (0, 0))) := ⟨(by rw [hw]; exact (by refine bk_ ?_; refine blk_far ?_ NB497_498.out _; exact bk_ BK497.out))⟩; have n2_ : Aside0 (w28.heap[gb498]? = some (.cells #[.int .i64 a0_0, .int .i64 (wrap64 (a0_1 + a1)), .slice none 0 0] 29 (0, 0))) := ⟨(by rw [hw]; exact (by refine bk_ ?_; refine blk_put (cs := #[.int .i64 a0_0, .int .i64 a0_1, .slice none 0 0]) ?_ 1 _ rfl; exact bk_ BK498.out))⟩; have n3_ : Aside0 (Below w.heap.size w w28) := ⟨(by rw [hw]; exact zca)⟩; clear hw; clear BK496; clear BK497; clear BK498; clear HB; have BK496 := n0_; have BK497 := n1_; have BK498 := n2_; have HB := n3_; clear n0_ n1_ n2_ n3_))
     go_meet
     case rel => exact ⟨_, (wrap64 (a0_1 + a1)), H', ⟨by have := HJ3.out; first | omega | exact Nat.le_refl _⟩, ⟨bk_ BK496.out⟩, ⟨bk_ BK497.out⟩, ⟨bk_ BK498.out⟩, ⟨zca⟩⟩
    ·replace c22 := Bool.eq_false_iff.mpr c22
     subst c22
     have H1 : (thyrsusref4_Shift.j1 kj3 a1 a2 a0_0 a0_1 l0_2 a0_0 a0_1) = some (r1, r2, r3) := by rw [if_neg (show ¬ (false = true) by decide)] at H; exact H
     clear H
     have H := H1
     clear H1
     have H' := Aside0.mk H
     clear H
     go_wp2
     go_meet
     case rel => exact ⟨_, (a0_1), H', ⟨by have := HJ3.out; first | omega | exact Nat.le_refl _⟩, ⟨bk_ BK496.out⟩, ⟨bk_ BK497.out⟩, ⟨bk_ BK498.out⟩, ⟨zca⟩⟩
   case rest =>
    clear HC21
    try clear c1
    try clear c2
    try clear p2
    try clear c3
    try clear p6
    try clear c7
    try clear c10
    try clear c11
    try clear c14
    try clear c14b0
    try clear c14b1
    try clear c15
    try clear c16
    try clear c18
    try clear c19
    try clear c22
    try clear c23
    try clear c24
    try clear c26
    try clear hcz12_0
    try clear hcz12_1
    try clear hcz12_2
    try clear hcz17_0
    try clear hcz17_1
    try clear hcz17_2
    try clear hcz20_0
    try clear hcz20_1
    try clear hcz20_2
    try clear hcz25_0
    try clear hcz25_1
    try clear hcz25_2
    try clear hcz27_0
    try clear hcz27_1
    try clear hcz27_2
    try clear hcz8_0
    try clear hcz8_1
    try clear hcz8_2
    try clear hfz12_0
    try clear hfz12_1
    try clear hfz12_2
    try clear hfz17_0
    try clear hfz17_1
    try clear hfz17_2
    try clear hfz20_0
    try clear hfz20_1
    try clear hfz20_2
    try clear hfz25_0
    try clear hfz25_1
    try clear hfz25_2
    try clear hfz27_0
    try clear hfz27_1
    try clear hfz27_2
    try clear hfz8_0
    try clear hfz8_1
    try clear hfz8_2
    try clear p2
    obtain ⟨kq, x499001_20, HA, HJ20, BK496, BK497, BK498, HB⟩ := hcut
    cases kq with
    | zero => exact absurd HA.out (by simp [thyrsusref4_Shift.j1])
    | succ kj20 =>
     have H := HA.out
     clear HA
     simp only [thyrsusref4_Shift.j1] at H
     have H' := Aside0.mk H
     clear H
     go_wp2
     go_loopg [8] kj20 (fun kq v8 w' => ∃ (x8_3 : Int) (x499002_3 : List (S29)) (u499002 : Value), v8 = .int .i64 x8_3 ∧ Aside0 (thyrsusref4_Shift.l0 kq a1 a2 x8_3 a0_0 a0_1 l0_2 a0_0 x499001_20 x499002_3 = some (r1, r2, r3)) ∧ Aside0 (kq ≤ kj20) ∧ Aside0 (Kd.R k29 29 w' w.heap.size (fun k_ => k_ ≠ gb496 ∧ k_ ≠ gb497 ∧ k_ ≠ gb498) u499002 x499002_3) ∧ Aside0 (w'.heap[gb496]? = some (.cells #[.int .i64 a0_0, .int .i64 a0_1, (.slice A0_2 l0_2.length c0_2)] 29 (0, 0))) ∧ Aside0 (w'.heap[gb497]? = some (.cells #[.int .i64 0, .int .i64 0, (.slice none 0 0)] 29 (0, 0))) ∧ Aside0 (w'.heap[gb498]? = some (.cells #[.int .i64 a0_0, .int .i64 x499001_20, u499002] 29 (0, 0))) ∧ Aside0 (Below w.heap.size w w'))
     case atStart => exact ⟨(0), (([] : List (S29))), (.slice none 0 0), zci, H', ⟨Nat.le_refl _⟩, ⟨by first | exact Kd.R_nil _ _ _ _ _ | exact Kd.N_nil _ _ _ _ _ | exact Kd.V_nil _ _ _ _ _ | exact Kd.Q_nil _ _ _ _ _ | exact Kd.S_nil _ _ _ _ _⟩, ⟨bk_ BK496.out⟩, ⟨bk_ BK497.out⟩, ⟨bk_ BK498.out⟩, ⟨zca⟩⟩
     case round =>
      clear H'
      try clear c1
      try clear c2
      try clear p2
      try clear c3
      try clear p6
      try clear c7
      try clear c10
      try clear c11
      try clear c14
      try clear c14b0
      try clear c14b1
      try clear c15
      try clear c16
      try clear c18
      try clear c19
      try clear c22
      try clear c23
      try clear c24
      try clear c26
      try clear hcz12_0
      try clear hcz12_1
      try clear hcz12_2
      try clear hcz17_0
      try clear hcz17_1
      try clear hcz17_2
      try clear hcz20_0
      try clear hcz20_1
      try clear hcz20_2
      try clear hcz25_0
      try clear hcz25_1
      try clear hcz25_2
      try clear hcz27_0
      try clear hcz27_1
      try clear hcz27_2
      try clear hcz8_0
      try clear hcz8_1
      try clear hcz8_2
      try clear hfz12_0
      try clear hfz12_1
      try clear hfz12_2
      try clear hfz17_0
      try clear hfz17_1
      try clear hfz17_2
      try clear hfz20_0
      try clear hfz20_1
      try clear hfz20_2
      try clear hfz25_0
      try clear hfz25_1
      try clear hfz25_2
      try clear hfz27_0
      try clear hfz27_1
      try clear hfz27_2
      try clear hfz8_0
      try clear hfz8_1
      try clear hfz8_2
      try clear p2
      try clear p6
      try clear HO_499002
      try clear BK496
      try clear BK497
      try clear BK498
      try clear HB
      obtain ⟨x8_3, x499002_3, u499002, rfl, HA, HK3, HO_499002, BK496, BK497, BK498, HB⟩ := hrel
      cases gk with
      | zero => exact absurd HA.out (by simp [thyrsusref4_Shift.l0])
      | succ k3 =>
       have H := HA.out
       clear HA
       simp only [thyrsusref4_Shift.l0] at H
       by_cases c29 : x8_3 < (l0_2.length : Int)
       ·rw [if_pos c29] at H
        have c29b0 : decide (x8_3 < (l0_2.length : Int)) = true := decide_eq_true c29
        clear c29
        by_cases c30 : 0 ≤ x8_3
        ·rw [if_pos c30] at H
         have c30b0 : decide (0 ≤ x8_3) = true := decide_eq_true c30
         clear c30
         replace H := Option.bind_eq_some_iff.mp H
         obtain ⟨t500, A310, H⟩ := H
         replace H : ((thyrsusref4_Shift.f k3 ((rd_T29 l0_2 x8_3).f0) ((rd_T29 l0_2 x8_3).f1) ((rd_T29 l0_2 x8_3).f2) a1 (wrap64 (a2 + t500))).bind fun bt501 => (if x499002_3.length < 3518437208883 then (thyrsusref4_Shift.l0 k3 a1 a2 (wrap64 (x8_3 + 1)) a0_0 a0_1 l0_2 a0_0 x499001_20 (x499002_3 ++ [(⟨bt501.1, bt501.2.1, bt501.2.2⟩ : S29)])) else (none))) = some (r1, r2, r3) := H
         have A31 := Aside0.mk A310
         clear A310
         replace H := Option.bind_eq_some_iff.mp H
         obtain ⟨⟨t501, t502, t503⟩, A320, H⟩ := H
         replace H : (if x499002_3.length < 3518437208883 then (thyrsusref4_Shift.l0 k3 a1 a2 (wrap64 (x8_3 + 1)) a0_0 a0_1 l0_2 a0_0 x499001_20 (x499002_3 ++ [(⟨t501, t502, t503⟩ : S29)])) else (none)) = some (r1, r2, r3) := H
         have A32 := Aside0.mk A320
         clear A320
         by_cases c33 : x499002_3.length < 3518437208883
         ·rw [if_pos c33] at H
          have LMc33 := Aside0.mk c33
          clear c33
          obtain ⟨y506, hy506⟩ : ∃ y_ : List (S29), y_ = (x499002_3 ++ [(⟨t501, t502, t503⟩ : S29)]) := ⟨_, rfl⟩
          replace H : (thyrsusref4_Shift.l0 k3 a1 a2 (wrap64 (x8_3 + 1)) a0_0 a0_1 l0_2 a0_0 x499001_20 y506) = some (r1, r2, r3) := by first | (rw [hy506]; with_reducible exact H) | (have H2_ := (Option.bind_some _ _).symm.trans H; rw [hy506]; with_reducible exact H2_) | (have H2_ := (Option.bind_some _ _).symm.trans H; with_reducible exact H2_) | with_reducible exact H | (rw [hy506]; exact H) | exact H
          have Ny506 := Aside0.mk hy506
          clear hy506
          have H' := Aside0.mk H
          clear H
          have hnb34 := NB496_497.out
          have hnc34 := NB497_496.out
          have hnb35 := NB496_498.out
          have hnc35 := NB498_496.out
          have hcz36_0 : wr.cell? ⟨gb496, 0, none⟩ = some (.int .i64 a0_0) := bc_ BK496 0
          have hcz36_1 : wr.cell? ⟨gb496, 1, none⟩ = some (.int .i64 a0_1) := bc_ BK496 1
          have hcz36_2 : wr.cell? ⟨gb496, 2, none⟩ = some (.slice A0_2 l0_2.length c0_2) := bc_ BK496 2
          have hfz36_0 := blk_frozen BK496.out 0
          have hfz36_1 := blk_frozen BK496.out 1
          have hfz36_2 := blk_frozen BK496.out 2
          try go_wp2
          have n0_ := Aside0.mk (Kd.R_drew HO_499002.out)
          have n1_ := Aside0.mk (blk_drew BK496.out)
          have n2_ := Aside0.mk (blk_drew BK497.out)
          have n3_ := Aside0.mk (blk_drew BK498.out)
          have n4_ := Aside0.mk (below_drew1 HB.out)
          clear HO_499002
          clear BK496
          clear BK497
          clear BK498
          clear HB
          have HO_499002 := n0_
          have BK496 := n1_
          have BK497 := n2_
          have BK498 := n3_
          have HB := n4_
          clear n0_ n1_ n2_ n3_ n4_
          have p499 : 0 ≤ (x8_3 : Int) := of_decide_eq_true (by first | (with_reducible assumption) | assumption)
          have q499 : x8_3 < (l0_2.length : Int) := of_decide_eq_true (by first | (with_reducible assumption) | assumption)
          obtain ⟨ad499, A499_2, c499_2, e499, hx499_0, hx499_1, hx499_2, hl499_2, hi499_2⟩ := at_T29 HR0_2.out x8_3 p499 q499
          have hw499_2 := hx499_2
          have hw499_1 := hx499_1
          have hw499_0 := hx499_0
          cases e499
          replace hx499_0 := (HB.out.cell (World.block_lt_of_cell? w _ hx499_0)).trans hx499_0
          replace hx499_1 := (HB.out.cell (World.block_lt_of_cell? w _ hx499_1)).trans hx499_1
          replace hx499_2 := (HB.out.cell (World.block_lt_of_cell? w _ hx499_2)).trans hx499_2
          have HR499_2 := Aside0.mk hi499_2
          have HC499_2 := Aside0.mk hl499_2
          clear hi499_2 hl499_2
          replace p499 := eq_true p499
          replace q499 := eq_true q499
          refine start_ (n := 19) (S := fun w' => w'.cell? ⟨gb498, 0, none⟩ = some (.int .i64 a0_0) ∧ w'.cell? ⟨gb498, 1, none⟩ = some (.int .i64 x499001_20) ∧ w'.cell? ⟨gb498, 2, none⟩ = some (u499002) ∧ w'.cell? ⟨gb496, 0, none⟩ = some (.int .i64 a0_0) ∧ w'.cell? ⟨gb496, 1, none⟩ = some (.int .i64 a0_1) ∧ w'.cell? ⟨gb496, 2, none⟩ = some (.slice (some ad499) l0_2.length c0_2) ∧ w'.cell? (ad499.add ((x8_3).toNat * 3)) = some (.int .i64 ((rd_T29 l0_2 x8_3).f0)) ∧ w'.cell? ⟨(ad499.add ((x8_3).toNat * 3)).block, (ad499.add ((x8_3).toNat * 3)).off + 1, none⟩ = some (.int .i64 ((rd_T29 l0_2 x8_3).f1)) ∧ w'.cell? ⟨(ad499.add ((x8_3).toNat * 3)).block, (ad499.add ((x8_3).toNat * 3)).off + 2, none⟩ = some (.slice A499_2 ((rd_T29 l0_2 x8_3).f2).length c499_2)) (ds := [18]) #[false, false, false, false, false, false, false, false, false, false, false, false, false, false, false, false, false, false, false] zce rfl rfl ⟨bc_ BK498 0, bc_ BK498 1, bc_ BK498 2, bc_ BK496 0, bc_ BK496 1, bc_ BK496 2, ((HB.out.cell (World.block_lt_of_cell? w _ hw499_0)).trans hw499_0), ((HB.out.cell (World.block_lt_of_cell? w _ hw499_1)).trans hw499_1), ((HB.out.cell (World.block_lt_of_cell? w _ hw499_2)).trans hw499_2)⟩ (fun hHeld => ?_); refine with_tabW thyrsusref4_Shift.tab7 thyrsusref4_Shift.bits7 (fun HT_ HW_ => ?_)
          generalize wr.drew = w37 at HO_499002 BK496 BK497 BK498 HB HR499_2 hx499_0 hx499_1 hx499_2 hHeld ⊢
          refine pure_ (i := 0) (N := some 35) (v := ?_) (a' := ?_) #[true, false, false, false, false, false, false, false, false, false, false, false, false, false, false, false, false, false, false] rfl rfl (any_of HT_.out zce) (fun _ _ _ h => h) (Or.inl ⟨by rfl, ?_⟩) ?_ ?_
          rotate_left
          ·intro w'
           go_simp
           with_reducible rfl
          rotate_left
          ·simp only [Act.put, List.setIfInBounds_toArray, List.set_cons_zero, List.set_cons_succ, i64_w, i32_w, u8_w, u32_w]
           rfl
          refine pure_ (i := 2) (N := some 37) (v := ?_) (a' := ?_) #[true, false, true, false, false, false, false, false, false, false, false, false, false, false, false, false, false, false, false] rfl rfl (any_of HT_.out zce) (fun _ _ _ h => h) (Or.inl ⟨by rfl, ?_⟩) ?_ ?_
          rotate_left
          ·intro w'
           go_simp
           with_reducible rfl
          rotate_left
          ·simp only [Act.put, List.setIfInBounds_toArray, List.set_cons_zero, List.set_cons_succ, i64_w, i32_w, u8_w, u32_w]
           rfl
          refine pure_ (i := 4) (N := some 39) (v := ?_) (a' := ?_) #[true, false, true, false, true, false, false, false, false, false, false, false, false, false, false, false, false, false, false] rfl rfl (any_of HT_.out zce) (fun _ _ _ h => h) (Or.inl ⟨by rfl, ?_⟩) ?_ ?_
          rotate_left
          ·intro w'
           go_simp
           with_reducible rfl
          rotate_left
          ·simp only [Act.put, List.setIfInBounds_toArray, List.set_cons_zero, List.set_cons_succ, i64_w, i32_w, u8_w, u32_w]
           rfl
          refine pure_ (i := 7) (N := some 42) (v := ?_) (a' := ?_) #[true, false, true, false, true, false, false, true, false, false, false, false, false, false, false, false, false, false, false] rfl rfl (any_of HT_.out zce) (fun _ _ _ h => h) (Or.inl ⟨by rfl, ?_⟩) ?_ ?_
          rotate_left
          ·intro w'
           go_simp
           with_reducible rfl
          rotate_left
          ·simp only [Act.put, List.setIfInBounds_toArray, List.set_cons_zero, List.set_cons_succ, i64_w, i32_w, u8_w, u32_w]
           rfl
          refine pure_ (i := 8) (N := some 43) (v := ?_) (a' := ?_) #[true, false, true, false, true, false, false, true, true, false, false, false, false, false, false, false, false, false, false] rfl rfl (any_of HT_.out zce) (fun _ _ _ h => h) (Or.inl ⟨by rfl, ?_⟩) ?_ ?_
          rotate_left
          ·intro w'
           go_simp
           with_reducible rfl
          rotate_left
          ·simp only [Act.put, List.setIfInBounds_toArray, List.set_cons_zero, List.set_cons_succ, i64_w, i32_w, u8_w, u32_w]
           rfl
          refine pure_ (i := 9) (N := some 44) (v := ?_) (a' := ?_) #[true, false, true, false, true, false, false, true, true, true, false, false, false, false, false, false, false, false, false] rfl rfl (any_of HT_.out zce) (fun _ _ _ h => h) (Or.inl ⟨by rfl, ?_⟩) ?_ ?_
          rotate_left
          ·intro w'
           go_simp
           with_reducible rfl
          rotate_left
          ·simp only [Act.put, List.setIfInBounds_toArray, List.set_cons_zero, List.set_cons_succ, i64_w, i32_w, u8_w, u32_w]
           rfl
          refine pure_ (i := 11) (N := some 46) (v := ?_) (a' := ?_) #[true, false, true, false, true, false, false, true, true, true, false, true, false, false, false, false, false, false, false] rfl rfl (any_of HT_.out zce) (fun _ _ _ h => h) (Or.inl ⟨by rfl, ?_⟩) ?_ ?_
          rotate_left
          ·intro w'
           go_simp
           with_reducible rfl
          rotate_left
          ·simp only [Act.put, List.setIfInBounds_toArray, List.set_cons_zero, List.set_cons_succ, i64_w, i32_w, u8_w, u32_w]
           rfl
          refine take_ (i := 1) (N := some 36) (v := ?_) (a' := ?_) #[true, true, true, false, true, false, false, true, true, true, false, true, false, false, false, false, false, false, false] rfl rfl (take_ofW HT_.out HW_.out zce) (fun _ _ _ h => h) (Or.inl ⟨by rfl, ?_⟩) hHeld ?_ ?_
          rotate_left
          ·rintro w' ⟨s0, s1, s2, s3, s4, s5, s6, s7, s8⟩
           go_simp
           with_reducible rfl
          rotate_left
          ·simp only [Act.put, List.setIfInBounds_toArray, List.set_cons_zero, List.set_cons_succ, i64_w, i32_w, u8_w, u32_w]
           rfl
          refine take_ (i := 3) (N := some 38) (v := ?_) (a' := ?_) #[true, true, true, true, true, false, false, true, true, true, false, true, false, false, false, false, false, false, false] rfl rfl (take_ofW HT_.out HW_.out zce) (fun _ _ _ h => h) (Or.inl ⟨by rfl, ?_⟩) hHeld ?_ ?_
          rotate_left
          ·rintro w' ⟨s0, s1, s2, s3, s4, s5, s6, s7, s8⟩
           go_simp
           with_reducible rfl
          rotate_left
          ·simp only [Act.put, List.setIfInBounds_toArray, List.set_cons_zero, List.set_cons_succ, i64_w, i32_w, u8_w, u32_w]
           rfl
          refine pure_ (i := 5) (N := some 40) (v := ?_) (a' := ?_) #[true, true, true, true, true, true, false, true, true, true, false, true, false, false, false, false, false, false, false] rfl rfl (any_of HT_.out zce) (fun _ _ _ h => h) (Or.inl ⟨by rfl, ?_⟩) ?_ ?_
          rotate_left
          ·intro w'
           go_simp
           with_reducible rfl
          rotate_left
          ·simp only [Act.put, List.setIfInBounds_toArray, List.set_cons_zero, List.set_cons_succ, i64_w, i32_w, u8_w, u32_w]
           rfl
          refine take_ (i := 6) (N := some 41) (v := ?_) (a' := ?_) #[true, true, true, true, true, true, true, true, true, true, false, true, false, false, false, false, false, false, false] rfl rfl (take_ofW HT_.out HW_.out zce) (fun _ _ _ h => h) (Or.inl ⟨by rfl, ?_⟩) hHeld ?_ ?_
          rotate_left
          ·rintro w' ⟨s0, s1, s2, s3, s4, s5, s6, s7, s8⟩
           go_simp
           with_reducible rfl
          rotate_left
          ·simp only [Act.put, List.setIfInBounds_toArray, List.set_cons_zero, List.set_cons_succ, i64_w, i32_w, u8_w, u32_w]
           rfl
          refine take_ (i := 10) (N := some 45) (v := ?_) (a' := ?_) #[true, true, true, true, true, true, true, true, true, true, true, true, false, false, false, false, false, false, false] rfl rfl (take_ofW HT_.out HW_.out zce) (fun _ _ _ h => h) (Or.inl ⟨by rfl, ?_⟩) hHeld ?_ ?_
          rotate_left
          ·rintro w' ⟨s0, s1, s2, s3, s4, s5, s6, s7, s8⟩
           go_simp
           with_reducible rfl
          rotate_left
          ·simp only [Act.put, List.setIfInBounds_toArray, List.set_cons_zero, List.set_cons_succ, i64_w, i32_w, u8_w, u32_w]
           rfl
          refine one_ (i := 12) (N := some 47) #[true, true, true, true, true, true, true, true, true, true, true, true, true, false, false, false, false, false, false] rfl rfl (one_of HT_.out zce) (by decide) (fun K hK => ?_)
          refine goes_ Tryd.func31 zce rfl #[.int .i64 a0_0, .int .i64 x8_3] (by rfl) rfl rfl zch ?_
          with_reducible refine (thyrsusref4_Binders.calls k3 a0_0 x8_3 t500 _ A31.out).mono ?_
          rintro e w' ⟨rfl, ⟨nd, rfl⟩⟩
          refine ⟨_, rfl, ?_⟩
          refine hK.out _ _ ⟨bc_ BK498 0, bc_ BK498 1, bc_ BK498 2, bc_ BK496 0, bc_ BK496 1, bc_ BK496 2, ((HB.out.cell (World.block_lt_of_cell? w _ hw499_0)).trans hw499_0), ((HB.out.cell (World.block_lt_of_cell? w _ hw499_1)).trans hw499_1), ((HB.out.cell (World.block_lt_of_cell? w _ hw499_2)).trans hw499_2)⟩ (fun hHeld => ?_)
          clear hK K
          refine norm_ (a' := ?_) ?_ ?_
          rotate_left
          ·show Act.put _ (some 47) _ = _
           simp only [Act.put, List.setIfInBounds_toArray, List.set_cons_zero, List.set_cons_succ, i64_w, i32_w, u8_w, u32_w]
           rfl
          refine pure_ (i := 13) (N := some 48) (v := ?_) (a' := ?_) #[true, true, true, true, true, true, true, true, true, true, true, true, true, true, false, false, false, false, false] rfl rfl (any_of HT_.out zce) (fun _ _ _ h => h) (Or.inl ⟨by rfl, ?_⟩) ?_ ?_
          rotate_left
          ·intro w'
           go_simp
           with_reducible rfl
          rotate_left
          ·simp only [Act.put, List.setIfInBounds_toArray, List.set_cons_zero, List.set_cons_succ, i64_w, i32_w, u8_w, u32_w]
           rfl
          refine one_ (i := 14) (N := some 49) #[true, true, true, true, true, true, true, true, true, true, true, true, true, true, true, false, false, false, false] rfl rfl (one_of HT_.out zce) (by decide) (fun K hK => ?_)
          refine goes_ Tryd.func38 zce rfl #[.agg #[.int .i64 ((rd_T29 l0_2 x8_3).f0), .int .i64 ((rd_T29 l0_2 x8_3).f1), .slice A499_2 ((rd_T29 l0_2 x8_3).f2).length c499_2], .int .i64 a1, .int .i64 (wrap64 (a2 + t500))] (by rfl) rfl rfl zch ?_
          with_reducible refine (ih k3 (by have := HJ3.out; have := HJ20.out; have := HK3.out; omega) ((rd_T29 l0_2 x8_3).f0) ((rd_T29 l0_2 x8_3).f1) _ _ ((rd_T29 l0_2 x8_3).f2) a1 (wrap64 (a2 + t500)) t501 t502 t503 _ ?side1 ?side2 A32.out).mono ?_
          (case side1 => repeat (first | exact (Kd.C_below HR499_2.out zca) | (with_reducible refine Kd.C_alloc ?_ _) | (with_reducible refine Kd.C_drewN ?_ _) | (with_reducible refine Kd.C_drew ?_)))
          (case side2 => exact HC499_2.out)
          rintro e w38 ⟨v504, rfl, ho0, hb⟩
          refine ⟨_, rfl, ?_⟩
          have n0_ := Aside0.mk (Kd.R_elder' (by (with_reducible repeat (first | apply Kd.R_alloc | apply Kd.R_drewN | apply Kd.R_drew)); exact HO_499002.out) (Kd.R_base ho0) hb)
          have n1_ := Aside0.mk (Kd.R_lower (Kd.R_newB (Kd.R_newB (Kd.R_newB (Kd.R_new' ho0 (Kd.R_lt (by (with_reducible repeat (first | apply Kd.R_alloc | apply Kd.R_drewN | apply Kd.R_drew)); exact HO_499002.out))) (g := gb496) (o := .cells #[.int .i64 a0_0, .int .i64 a0_1, .slice (some ad499) l0_2.length c0_2] 29 (0, 0)) (bk_ BK496.out)) (g := gb497) (o := .cells #[.int .i64 0, .int .i64 0, .slice none 0 0] 29 (0, 0)) (bk_ BK497.out)) (g := gb498) (o := .cells #[.int .i64 a0_0, .int .i64 x499001_20, u499002] 29 (0, 0)) (bk_ BK498.out)) (below_size zca))
          have n2_ := Aside0.mk (blk_below (g := gb496) (o := .cells #[.int .i64 a0_0, .int .i64 a0_1, .slice (some ad499) l0_2.length c0_2] 29 (0, 0)) (bk_ BK496.out) hb)
          have n3_ := Aside0.mk (blk_below (g := gb497) (o := .cells #[.int .i64 0, .int .i64 0, .slice none 0 0] 29 (0, 0)) (bk_ BK497.out) hb)
          have n4_ := Aside0.mk (blk_below (g := gb498) (o := .cells #[.int .i64 a0_0, .int .i64 x499001_20, u499002] 29 (0, 0)) (bk_ BK498.out) hb)
          have n5_ := Aside0.mk (below_step zca hb)
          clear HO_499002
          clear BK496
          clear BK497
          clear BK498
          clear HB
          have HO_499002 := n0_
          have HO505 := n1_
          have BK496 := n2_
          have BK497 := n3_
          have BK498 := n4_
          have HB := n5_
          clear n0_ n1_ n2_ n3_ n4_ n5_
          (try clear hb)
          (try clear hb2)
          (try clear hk)
          (try clear hi)
          (try clear ho0)
          obtain ⟨Ao40, co40, eo40⟩ := Kd.R_slice HO505.out
          (first | subst eo40 | (injection eo40 with f1_ f2_ f3_; have f4_ := f1_.symm; have f5_ := f3_.symm; clear f1_ f2_ f3_; subst f4_; subst f5_))
          refine hK.out _ _ ⟨bc_ BK498 0, bc_ BK498 1, bc_ BK498 2, bc_ BK496 0, bc_ BK496 1, bc_ BK496 2, ((HB.out.cell (World.block_lt_of_cell? w _ hw499_0)).trans hw499_0), ((HB.out.cell (World.block_lt_of_cell? w _ hw499_1)).trans hw499_1), ((HB.out.cell (World.block_lt_of_cell? w _ hw499_2)).trans hw499_2)⟩ (fun hHeld => ?_)
          clear hK K
          refine norm_ (a' := ?_) ?_ ?_
          rotate_left
          ·show Act.put _ (some 49) _ = _
           simp only [Act.put, List.setIfInBounds_toArray, List.set_cons_zero, List.set_cons_succ, i64_w, i32_w, u8_w, u32_w]
           rfl
          refine one_ (i := 15) (N := some 50) #[true, true, true, true, true, true, true, true, true, true, true, true, true, true, true, true, false, false, false] rfl rfl (one_of HT_.out zce) (by decide) (fun K hK => ?_)
          refine value_ (w1 := ?_) (v := ?_) (by rfl) rfl ?_ ?_
          rotate_left 2
          ·go_simp
           constructor
           ·rfl
           ·rfl
          refine hK.out _ _ ⟨(blk_cell (blk_alloc BK498.out _) 0).trans rfl, (blk_cell (blk_alloc BK498.out _) 1).trans rfl, (blk_cell (blk_alloc BK498.out _) 2).trans rfl, (blk_cell (blk_alloc BK496.out _) 0).trans rfl, (blk_cell (blk_alloc BK496.out _) 1).trans rfl, (blk_cell (blk_alloc BK496.out _) 2).trans rfl, (World.cell?_alloc_lt _ _ _ (World.block_lt_of_cell? _ _ (((HB.out.cell (World.block_lt_of_cell? w _ hw499_0)).trans hw499_0)))).trans (((HB.out.cell (World.block_lt_of_cell? w _ hw499_0)).trans hw499_0)), (World.cell?_alloc_lt _ _ _ (World.block_lt_of_cell? _ _ (((HB.out.cell (World.block_lt_of_cell? w _ hw499_1)).trans hw499_1)))).trans (((HB.out.cell (World.block_lt_of_cell? w _ hw499_1)).trans hw499_1)), (World.cell?_alloc_lt _ _ _ (World.block_lt_of_cell? _ _ (((HB.out.cell (World.block_lt_of_cell? w _ hw499_2)).trans hw499_2)))).trans (((HB.out.cell (World.block_lt_of_cell? w _ hw499_2)).trans hw499_2))⟩ (fun hHeld => ?_)
          clear hK K
          refine norm_ (a' := ?_) ?_ ?_
          rotate_left
          ·show Act.put _ (some 50) _ = _
           simp only [Act.put, List.setIfInBounds_toArray, List.set_cons_zero, List.set_cons_succ, i64_w, i32_w, u8_w, u32_w]
           rfl
          refine one_ (i := 16) (N := some 51) #[true, true, true, true, true, true, true, true, true, true, true, true, true, true, true, true, true, false, false] rfl rfl (one_of HT_.out zce) (by decide) (fun K hK => ?_)
          refine Kd.R_append_step k29 (w0 := w) w.heap.size (by rfl) (.tmp 36) (.tmp 50) 27 29 (.agg #[(.int .i64 0), (.int .i64 0), (.slice none 0 0)]) 40 rfl Tryd.underlying27 info29 rfl (by decide) (by omega) u499002 x499002_3 (⟨t501, t502, t503⟩ : S29) [.int .i64 t501, .int .i64 t502, .slice Ao40 t503.length co40] (fun k_ => k_ ≠ gb496 ∧ k_ ≠ gb497 ∧ k_ ≠ gb498) (fun k_ => ((fun k_ => k_ ≠ gb496 ∧ k_ ≠ gb497 ∧ k_ ≠ gb498)) k_ ∧ some k_ ≠ (u499002 : Value).ownBlock) rfl rfl ?aP (fun _ hk => hk) ?aF ?aO ?aB ?aS ?aL ?_
          (case aP => exact k29_mkM _ _ _ (⟨t501, t502, t503⟩ : S29) (Kd.R_mono (HO505.out) (fun k_ hk => ⟨⟨hk.1.1.2, ⟨hk.1.2, hk.2⟩⟩, hk.1.1.1.2⟩)))
          (case aB => exact zca)
          (case aF => exact (fun k_ hk => ⟨Kd.freshB (g := gb496) (o := .cells #[.int .i64 a0_0, .int .i64 a0_1, .slice (some ad499) l0_2.length c0_2] 29 (0, 0)) (bk_ BK496.out) k_ hk, Kd.freshB (g := gb497) (o := .cells #[.int .i64 0, .int .i64 0, .slice none 0 0] 29 (0, 0)) (bk_ BK497.out) k_ hk, Kd.freshB (g := gb498) (o := .cells #[.int .i64 a0_0, .int .i64 x499001_20, u499002] 29 (0, 0)) (bk_ BK498.out) k_ hk⟩))
          (case aO => exact (by (with_reducible repeat (first | apply Kd.R_alloc | apply Kd.R_drewN | apply Kd.R_drew)); exact Kd.R_mono HO_499002.out (fun _ hk => ⟨hk.1.1, ⟨hk.1.2.1, hk.1.2.2⟩⟩)))
          (case aS => exact (below_size zca))
          (case aL => have := LMc33.out; omega)
          intro v507 w39 ho hb hg hat
          rw [← Ny506.out] at ho
          have n0_ := Aside0.mk (blk_grown (g := gb496) (o := .cells #[.int .i64 a0_0, .int .i64 a0_1, .slice (some ad499) l0_2.length c0_2] 29 (0, 0)) (bk_ BK496.out) hg (Kd.R_away HO_499002.out (fun _ hk => hk.1.1)))
          have n1_ := Aside0.mk (blk_grown (g := gb497) (o := .cells #[.int .i64 0, .int .i64 0, .slice none 0 0] 29 (0, 0)) (bk_ BK497.out) hg (Kd.R_away HO_499002.out (fun _ hk => hk.1.2.1)))
          have n2_ := Aside0.mk (blk_grown (g := gb498) (o := .cells #[.int .i64 a0_0, .int .i64 x499001_20, u499002] 29 (0, 0)) (bk_ BK498.out) hg (Kd.R_away HO_499002.out (fun _ hk => hk.1.2.2)))
          have n3_ := Aside0.mk (hb)
          have n4_ := Aside0.mk (ho)
          clear BK496
          clear BK497
          clear BK498
          clear HB
          clear HO_499002
          clear HO505
          have BK496 := n0_
          have BK497 := n1_
          have BK498 := n2_
          have HB := n3_
          have HO508 := n4_
          clear n0_ n1_ n2_ n3_ n4_
          clear ho hb hg hat
          obtain ⟨Ao41, co41, eo41⟩ := Kd.R_slice HO508.out
          (first | subst eo41 | (injection eo41 with f1_ f2_ f3_; have f4_ := f1_.symm; have f5_ := f3_.symm; clear f1_ f2_ f3_; subst f4_; subst f5_))
          refine hK.out _ _ ⟨bc_ BK498 0, bc_ BK498 1, bc_ BK498 2, bc_ BK496 0, bc_ BK496 1, bc_ BK496 2, ((HB.out.cell (World.block_lt_of_cell? w _ hw499_0)).trans hw499_0), ((HB.out.cell (World.block_lt_of_cell? w _ hw499_1)).trans hw499_1), ((HB.out.cell (World.block_lt_of_cell? w _ hw499_2)).trans hw499_2)⟩ (fun hHeld => ?_)
          clear hK K
          refine norm_ (a' := ?_) ?_ ?_
          rotate_left
          ·show Act.put _ (some 51) _ = _
           simp only [Act.put, List.setIfInBounds_toArray, List.set_cons_zero, List.set_cons_succ, i64_w, i32_w, u8_w, u32_w]
           rfl
          refine pure_ (i := 17) (N := some 52) (v := ?_) (a' := ?_) #[true, true, true, true, true, true, true, true, true, true, true, true, true, true, true, true, true, true, false] rfl rfl (any_of HT_.out zce) (fun _ _ _ h => h) (Or.inl ⟨by rfl, ?_⟩) ?_ ?_
          rotate_left
          ·intro w'
           go_simp
           with_reducible rfl
          rotate_left
          ·simp only [Act.put, List.setIfInBounds_toArray, List.set_cons_zero, List.set_cons_succ, i64_w, i32_w, u8_w, u32_w]
           rfl
          refine last_ (i := 18) (N := none) #[true, true, true, true, true, true, true, true, true, true, true, true, true, true, true, true, true, true, true] rfl rfl (one_of HT_.out zce) (by decide) (fun K hK => ?_)
          have hs42 : w39.cell? ⟨gb498, 2, none⟩ = some (u499002) := bc_ BK498 2
          have hfs42 := blk_frozen BK498.out 2
          have hns42_0 := NB496_498.out
          have hns42_1 := NB497_498.out
          have hms42_0 := NB498_496.out
          have hms42_1 := NB498_497.out
          refine skip_ (w1 := ?_) (by rfl) rfl ?_ ?_
          rotate_left
          ·go_simp
           rfl
          refine hK.out _ _ ?_
          clear hK K
          refine done_ (done_of HT_.out zce) ?_
          try go_wp2
          go_roundg k3
          case measure => have := HJ3.out; have := HJ20.out; have := HK3.out; omega
          case rel => exact ⟨(wrap64 (x8_3 + 1)), (y506), (.slice Ao41 y506.length co41), zci, H', ⟨by have := HJ3.out; have := HJ20.out; have := HK3.out; omega⟩, ⟨by (with_reducible repeat (first | apply Kd.R_alloc | apply Kd.R_drewN | apply Kd.R_drew)); exact Kd.R_mono (Kd.R_far (p := ⟨gb498, 2, none⟩) (Kd.R_mono HO508.out (fun k_ hk => (⟨hk, hk.2.2⟩ : _ ∧ k_ ≠ gb498))) (fun _ hk => hk.2) (.slice Ao41 y506.length co41)) (fun _ hk => ⟨hk.1.1, ⟨hk.1.2.1, hk.1.2.2⟩⟩)⟩, ⟨by refine bk_ ?_; refine blk_far ?_ NB496_498.out _; exact bk_ BK496.out⟩, ⟨by refine bk_ ?_; refine blk_far ?_ NB497_498.out _; exact bk_ BK497.out⟩, ⟨by refine bk_ ?_; refine blk_put (cs := #[.int .i64 a0_0, .int .i64 x499001_20, u499002]) ?_ 2 _ rfl; exact bk_ BK498.out⟩, ⟨zca⟩⟩
         ·rw [if_neg c33] at H
          exact absurd H (by simp)
        ·rw [if_neg c30] at H
         exact absurd H (by simp)
       ·rw [if_neg c29] at H
        have c29b0 : decide (x8_3 < (l0_2.length : Int)) = false := decide_eq_false c29
        clear c29
        simp only [Option.some.injEq, Prod.mk.injEq] at H
        obtain ⟨rfl, rfl, rfl⟩ := H
        have hnb43 := NB496_497.out
        have hnc43 := NB497_496.out
        have hnb44 := NB496_498.out
        have hnc44 := NB498_496.out
        have hcz45_0 : wr.cell? ⟨gb496, 0, none⟩ = some (.int .i64 a0_0) := bc_ BK496 0
        have hcz45_1 : wr.cell? ⟨gb496, 1, none⟩ = some (.int .i64 a0_1) := bc_ BK496 1
        have hcz45_2 : wr.cell? ⟨gb496, 2, none⟩ = some (.slice A0_2 l0_2.length c0_2) := bc_ BK496 2
        have hfz45_0 := blk_frozen BK496.out 0
        have hfz45_1 := blk_frozen BK496.out 1
        have hfz45_2 := blk_frozen BK496.out 2
        have hnb46 := NB498_497.out
        have hnc46 := NB497_498.out
        have hcz47_0 : wr.cell? ⟨gb498, 0, none⟩ = some (.int .i64 a0_0) := bc_ BK498 0
        have hcz47_1 : wr.cell? ⟨gb498, 1, none⟩ = some (.int .i64 x499001_20) := bc_ BK498 1
        have hcz47_2 : wr.cell? ⟨gb498, 2, none⟩ = some (u499002) := bc_ BK498 2
        have hfz47_0 := blk_frozen BK498.out 0
        have hfz47_1 := blk_frozen BK498.out 1
        have hfz47_2 := blk_frozen BK498.out 2
        have hcz48_0 : wr.cell? ⟨gb497, 0, none⟩ = some (.int .i64 0) := bc_ BK497 0
        have hcz48_1 : wr.cell? ⟨gb497, 1, none⟩ = some (.int .i64 0) := bc_ BK497 1
        have hcz48_2 : wr.cell? ⟨gb497, 2, none⟩ = some (.slice none 0 0) := bc_ BK497 2
        have hfz48_0 := blk_frozen BK497.out 0
        have hfz48_1 := blk_frozen BK497.out 1
        have hfz48_2 := blk_frozen BK497.out 2
        obtain ⟨Ao49, co49, eo49⟩ := Kd.R_slice HO_499002.out
        subst eo49
        go_wp2_with (first | ((with_reducible refine gate_store (t := 29) (p := 6) rfl ?_); refine store_event (t := 29) (p := 6) (v := ?vo_w50) (w1 := (((wr.setCell ⟨gb497, 0, none⟩ (.int .i64 a0_0)).setCell ⟨gb497, 1, none⟩ (.int .i64 x499001_20)).setCell ⟨gb497, 2, none⟩ (.slice Ao49 x499002_3.length co49))) ?hg ?ho ?hn ?hr ?_; (case ho => rfl); (case hg => rfl); (case hn => rfl); (case hr => first | (go_simp; done) | (go_simp; rfl)); intro w50 hw; have n0_ : Aside0 (Kd.R k29 29 w50 w.heap.size (fun k_ => k_ ≠ gb496 ∧ k_ ≠ gb497 ∧ k_ ≠ gb498) (.slice Ao49 x499002_3.length co49) x499002_3) := ⟨(by rw [hw]; exact (by (with_reducible repeat (first | apply Kd.R_alloc | apply Kd.R_drewN | apply Kd.R_drew)); exact Kd.R_mono (Kd.R_far (p := ⟨gb497, 2, none⟩) (Kd.R_far (p := ⟨gb497, 1, none⟩) (Kd.R_far (p := ⟨gb497, 0, none⟩) (Kd.R_mono HO_499002.out (fun k_ hk => (⟨hk, hk.2.1⟩ : _ ∧ k_ ≠ gb497))) (fun _ hk => hk.2) (.int .i64 a0_0)) (fun _ hk => hk.2) (.int .i64 x499001_20)) (fun _ hk => hk.2) (.slice Ao49 x499002_3.length co49)) (fun _ hk => ⟨hk.1.1, ⟨hk.1.2.1, hk.1.2.2⟩⟩)))⟩; have n1_ : Aside0 (w50.heap[gb496]? = some (.cells #[.int .i64 a0_0, .int .i64 a0_1, .slice A0_2 l0_2.length c0_2] 29 (0, 0))) := ⟨(by rw [hw]; exact (by refine bk_ ?_; refine blk_far ?_ NB496_497.out _; refine bk_ ?_; refine blk_far ?_ NB496_497.out _; refine bk_ ?_; refine blk_far ?_ NB496_497.out _; exact bk_ BK496.out))⟩; have n2_ : Aside0 (w50.heap[gb497]? = some (.cells #[.int .i64 a0_0, .int .i64 x499001_20, .slice Ao49 x499002_3.length co49] 29 (0, 0))) := ⟨(by rw [hw]; exact (by refine bk_ ?_; refine blk_put (cs := #[.int .i64 a0_0, .int .i64 x499001_20, .slice none 0 0]) ?_ 2 _ rfl; refine bk_ ?_; refine blk_put (cs := #[.int .i64 a0_0, .int .i64 0, .slice none 0 0]) ?_ 1 _ rfl; refine bk_ ?_; refine blk_put (cs := #[.int .i64 0, .int .i64 0, .slice none 0 0]) ?_ 0 _ rfl; exact bk_ BK497.out))⟩; have n3_ : Aside0 (w50.heap[gb498]? = some (.cells #[.int .i64 a0_0, .int .i64 x499001_20, .slice Ao49 x499002_3.length co49] 29 (0, 0))) := ⟨(by rw [hw]; exact (by refine bk_ ?_; refine blk_far ?_ NB498_497.out _; refine bk_ ?_; refine blk_far ?_ NB498_497.out _; refine bk_ ?_; refine blk_far ?_ NB498_497.out _; exact bk_ BK498.out))⟩; have n4_ : Aside0 (Below w.heap.size w w50) := ⟨(by rw [hw]; exact zca)⟩; clear hw; clear HO_499002; clear BK496; clear BK497; clear BK498; clear HB; have HO_499002 := n0_; have BK496 := n1_; have BK497 := n2_; have BK498 := n3_; have HB := n4_; clear n0_ n1_ n2_ n3_ n4_))
        refine bodyPost_ret (results_cell_row rfl _ _ gb497 29 #[.int .i64 a0_0, .int .i64 x499001_20, .slice Ao49 x499002_3.length co49] (0, 0) _ rfl (bk_ BK497.out) Tryd.underlying29 rfl zce) rfl ?_
        exact ⟨_, by first | rfl | (simp [errW_none, errW_some] <;> rfl) | (simp [*, errW_none, errW_some] <;> rfl), by (with_reducible repeat (first | apply Kd.R_alloc | apply Kd.R_drewN | apply Kd.R_drew)); exact Kd.R_mono HO_499002.out (fun _ hk => trivial), zca⟩

end Go.Proofs.YtcchfblekaaalaaDoor.P
