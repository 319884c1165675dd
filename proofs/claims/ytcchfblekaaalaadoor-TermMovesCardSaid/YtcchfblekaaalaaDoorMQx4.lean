-- Printed by mkprint.py (a program of this session, over the kit's print). Lean checks it.
import Derived.Test.YtcchfblekaaalaaDoorMPx0
import Derived.Test.YtcchfblekaaalaaDoorMQx1
import Derived.Test.YtcchfblekaaalaaDoorMPx1
namespace Go.Proofs.YtcchfblekaaalaaDoor.P
open Go.RowKit Go.Proofs.YtcchfblekaaalaaDoorW.PrintWords Go.Proofs.YtcchfblekaaalaaDoorW.PrintLast Go.Proofs.YtcchfblekaaalaaDoorW.PrintMore
attribute [local go_sem] max2_int min2_int max_two min_two max_three min_three max_four min_four   -- for this text's walks alone
set_option linter.unusedVariables false
set_option linter.unusedSimpArgs false
theorem zga {p : Prop} (h : p := by repeat (first | (with_reducible first | exact HB.out | apply below_alloc | apply pw_below_drewN | apply below_drew1 | refine below_set ?_ GE158.out) | exact HB.out)) : p := h
theorem zgb {p : Prop} (h : p := by repeat (first | (with_reducible first | exact HB.out | apply below_alloc | apply pw_below_drewN | apply below_drew1 | refine below_set ?_ GE158.out | refine below_set ?_ GE160.out) | exact HB.out)) : p := h
theorem zgc {p : Prop} (h : p := by repeat (first | (with_reducible first | exact HB.out | apply below_alloc | apply pw_below_drewN | apply below_drew1) | exact HB.out)) : p := h
theorem zgd {p : Prop} (h : p := by first | rfl | (simp; done) | (simp [*]; done)) : p := h

-- GIVEN: function 22 (term_Subst)

-- GIVEN: function 23 (term_Shift)

/-! ### term_Size: function 32 -/
mutual
def term_Size.l0 : Nat → Int → List (S29) → Int → Int → Option (Int)
 | 0, _, _, _, _ => none
 | k + 1, x3, x7, x8, x9 => if x9 < x8 then (if 0 ≤ x9 then (if x9 < (x7.length : Int) then ((term_Size.f k ((rd_T29 x7 x9).f0) ((rd_T29 x7 x9).f1) ((rd_T29 x7 x9).f2)).bind fun t161 => (term_Size.l0 k (wrap64 (x3 + t161)) x7 x8 (wrap64 (x9 + 1)))) else (none)) else (none)) else (some x3)
def term_Size.f : Nat → Int → Int → List (S29) → Option (Int)
 | 0, _, _, _ => none
 | k + 1, a0_0, a0_1, l0_2 => term_Size.l0 k 1 l0_2 (l0_2.length : Int) 0
end
set_option maxHeartbeats 8000000 in
set_option maxRecDepth 100000 in
theorem term_Size.calls (k : Nat) : ∀ (a0_0 : Int) (a0_1 : Int) (A0_2 : Option Addr) (c0_2 : Nat) (l0_2 : List (S29)) (r : Int) (w : World) (hr0_2 : Kd.C k29 w A0_2 l0_2.length l0_2) (hc0_2 : l0_2.length ≤ c0_2) (h : term_Size.f k a0_0 a0_1 l0_2 = some r),
  Calls Tryd.prog 32 #[.agg #[.int .i64 a0_0, .int .i64 a0_1, .slice A0_2 l0_2.length c0_2]] w fun e w' => e = .returned (.int .i64 r) ∧ Below w.heap.size w w' := by
 induction k using Nat.strongRecOn with
 | _ k ih =>
 intro a0_0 a0_1 A0_2 c0_2 l0_2 r w hr0_2 hc0_2 h
 cases k with
 | zero => exact absurd h (by simp [term_Size.f])
 | succ k =>
 simp only [term_Size.f] at h
 have hu29 := Tryd.underlying29
 have HR0_2 := Aside0.mk hr0_2
 have HC0_2 := Aside0.mk hc0_2
 clear hr0_2 hc0_2
 have HB := Aside0.mk (Below.refl w.heap.size w)
 have H : (term_Size.l0 k 1 l0_2 (l0_2.length : Int) 0) = some r := h
 clear h
 have H' := Aside0.mk H
 clear H
 go_enter Tryd.func32, Tryd.ntmps32
 go_wp2_with (first | ((with_reducible refine gate_dst (N := 1) rfl ?_); refine box_event ?hg (N := 1) ?hd (cs := #[.int .i64 a0_0, .int .i64 a0_1, .slice A0_2 l0_2.length c0_2]) (t := 29) ?hr ?_; (case hd => rfl); (case hg => rfl); (case hr => first | (go_simp; done) | (go_simp; rfl)); intro gb158 hg w2 hbox hb; have n0_ := Aside0.mk (below_step zgc hb); have n1_ := Aside0.mk (hbox); have n2_ := Aside0.mk ((by rw [hg]; exact (below_size zgc) : w.heap.size ≤ gb158)); have n3_ := Aside0.mk ((by rw [hg]; exact (below_size zgc) : w.heap.size ≤ gb158)); clear HB; have HB := n0_; have BK158 := n1_; have GW158 := n2_; have GE158 := n3_; clear n0_ n1_ n2_ n3_; clear hb hbox hg; have hcz3_0 : w2.cell? ⟨gb158, 0, none⟩ = some (.int .i64 a0_0) := bc_ BK158 0; have hcz3_1 : w2.cell? ⟨gb158, 1, none⟩ = some (.int .i64 a0_1) := bc_ BK158 1; have hcz3_2 : w2.cell? ⟨gb158, 2, none⟩ = some (.slice A0_2 l0_2.length c0_2) := bc_ BK158 2; have hfz3_0 := blk_frozen BK158.out 0; have hfz3_1 := blk_frozen BK158.out 1; have hfz3_2 := blk_frozen BK158.out 2))
 go_loopg [3, 9] k (fun kq v3 v9 w' => ∃ (x3_1 : Int) (x9_1 : Int), v3 = .int .i64 x3_1 ∧ v9 = .int .i64 x9_1 ∧ Aside0 (term_Size.l0 kq x3_1 l0_2 (l0_2.length : Int) x9_1 = some r) ∧ Aside0 (kq ≤ k) ∧ Aside0 (w'.heap[gb158]? = some (.cells #[.int .i64 a0_0, .int .i64 a0_1, (.slice A0_2 l0_2.length c0_2)] 29 (0, 0))) ∧ Aside0 (Below w.heap.size w w'))
 case atStart => exact ⟨(1), (0), zgd, zgd, H', ⟨Nat.le_refl _⟩, ⟨bk_ BK158.out⟩, ⟨zga⟩⟩
 case round =>
  clear H'
  try clear p2
  try clear c3
  try clear hcz3_0
  try clear hcz3_1
  try clear hcz3_2
  try clear hfz3_0
  try clear hfz3_1
  try clear hfz3_2
  try clear BK158
  try clear HB
  obtain ⟨x3_1, x9_1, rfl, rfl, HA, HK1, BK158, HB⟩ := hrel
  cases gk with
  | zero => exact absurd HA.out (by simp [term_Size.l0])
  | succ k1 =>
   have H := HA.out
   clear HA
   simp only [term_Size.l0] at H
   by_cases c4 : x9_1 < (l0_2.length : Int)
   ·rw [if_pos c4] at H
    have c4b0 : decide (x9_1 < (l0_2.length : Int)) = true := decide_eq_true c4
    clear c4
    by_cases c5 : 0 ≤ x9_1
    ·rw [if_pos c5] at H
     have c5b0 : decide (0 ≤ x9_1) = true := decide_eq_true c5
     clear c5
     by_cases c6 : x9_1 < (l0_2.length : Int)
     ·rw [if_pos c6] at H
      have c6b0 : decide (x9_1 < (l0_2.length : Int)) = true := decide_eq_true c6
      clear c6
      replace H := Option.bind_eq_some_iff.mp H
      obtain ⟨t161, A70, H⟩ := H
      replace H : (term_Size.l0 k1 (wrap64 (x3_1 + t161)) l0_2 (l0_2.length : Int) (wrap64 (x9_1 + 1))) = some r := H
      have A7 := Aside0.mk A70
      clear A70
      have H' := Aside0.mk H
      clear H
      have p159 : 0 ≤ (x9_1 : Int) := of_decide_eq_true (by first | (with_reducible assumption) | assumption)
      have q159 : x9_1 < (l0_2.length : Int) := of_decide_eq_true (by first | (with_reducible assumption) | assumption)
      obtain ⟨ad159, A159_2, c159_2, e159, hx159_0, hx159_1, hx159_2, hl159_2, hi159_2⟩ := at_T29 HR0_2.out x9_1 p159 q159
      cases e159
      replace hx159_0 := (HB.out.cell (World.block_lt_of_cell? w _ hx159_0)).trans hx159_0
      replace hx159_1 := (HB.out.cell (World.block_lt_of_cell? w _ hx159_1)).trans hx159_1
      replace hx159_2 := (HB.out.cell (World.block_lt_of_cell? w _ hx159_2)).trans hx159_2
      have HR159_2 := Aside0.mk hi159_2
      have HC159_2 := Aside0.mk hl159_2
      clear hi159_2 hl159_2
      replace p159 := eq_true p159
      replace q159 := eq_true q159
      go_wp2_with (first | ((with_reducible refine gate_dst (N := 5) rfl ?_); refine box_event ?hg (N := 5) ?hd (cs := #[.int .i64 0, .int .i64 0, .slice none 0 0]) (t := 29) ?hr ?_; (case hd => rfl); (case hg => rfl); (case hr => first | (go_simp; done) | (go_simp; rfl)); intro gb160 hg w8 hbox hb; have n0_ := Aside0.mk (blk_below (g := gb158) (o := .cells #[.int .i64 a0_0, .int .i64 a0_1, .slice (some ad159) l0_2.length c0_2] 29 (0, 0)) (bk_ BK158.out) hb); have n1_ := Aside0.mk (below_step zga hb); have n2_ := Aside0.mk (hbox); have n3_ := Aside0.mk ((by rw [hg]; exact (below_size zga) : w.heap.size ≤ gb160)); have n4_ := Aside0.mk ((by rw [hg]; exact (below_size zga) : w.heap.size ≤ gb160)); have n5_ := Aside0.mk ((by rw [hg]; exact Nat.ne_of_lt (blk_lt (g := gb158) (o := .cells #[.int .i64 a0_0, .int .i64 a0_1, .slice (some ad159) l0_2.length c0_2] 29 (0, 0)) (bk_ BK158.out)) : gb158 ≠ gb160)); have n6_ := Aside0.mk ((by rw [hg]; exact Nat.ne_of_gt (blk_lt (g := gb158) (o := .cells #[.int .i64 a0_0, .int .i64 a0_1, .slice (some ad159) l0_2.length c0_2] 29 (0, 0)) (bk_ BK158.out)) : gb160 ≠ gb158)); clear BK158; clear HB; have BK158 := n0_; have HB := n1_; have BK160 := n2_; have GW160 := n3_; have GE160 := n4_; have NB158_160 := n5_; have NB160_158 := n6_; clear n0_ n1_ n2_ n3_ n4_ n5_ n6_; clear hb hbox hg; have hnb9 := NB160_158.out; have hnc9 := NB158_160.out; have hcz10_0 : w8.cell? ⟨gb160, 0, none⟩ = some (.int .i64 0) := bc_ BK160 0; have hcz10_1 : w8.cell? ⟨gb160, 1, none⟩ = some (.int .i64 0) := bc_ BK160 1; have hcz10_2 : w8.cell? ⟨gb160, 2, none⟩ = some (.slice none 0 0) := bc_ BK160 2; have hfz10_0 := blk_frozen BK160.out 0; have hfz10_1 := blk_frozen BK160.out 1; have hfz10_2 := blk_frozen BK160.out 2) | ((with_reducible refine gate_store (t := 29) (p := 5) rfl ?_); refine store_event (t := 29) (p := 5) (v := ?vo_w11) (w1 := (((w8.setCell ⟨gb160, 0, none⟩ (.int .i64 ((rd_T29 l0_2 x9_1).f0))).setCell ⟨gb160, 1, none⟩ (.int .i64 ((rd_T29 l0_2 x9_1).f1))).setCell ⟨gb160, 2, none⟩ (.slice A159_2 ((rd_T29 l0_2 x9_1).f2).length c159_2))) ?hg ?ho ?hn ?hr ?_; (case ho => rfl); (case hg => rfl); (case hn => rfl); (case hr => first | (go_simp; done) | (go_simp; rfl)); intro w11 hw; have n0_ : Aside0 (w11.heap[gb158]? = some (.cells #[.int .i64 a0_0, .int .i64 a0_1, .slice (some ad159) l0_2.length c0_2] 29 (0, 0))) := ⟨(by rw [hw]; exact (by refine bk_ ?_; refine blk_far ?_ NB158_160.out _; refine bk_ ?_; refine blk_far ?_ NB158_160.out _; refine bk_ ?_; refine blk_far ?_ NB158_160.out _; exact bk_ BK158.out))⟩; have n1_ : Aside0 (w11.heap[gb160]? = some (.cells #[.int .i64 ((rd_T29 l0_2 x9_1).f0), .int .i64 ((rd_T29 l0_2 x9_1).f1), .slice A159_2 ((rd_T29 l0_2 x9_1).f2).length c159_2] 29 (0, 0))) := ⟨(by rw [hw]; exact (by refine bk_ ?_; refine blk_put (cs := #[.int .i64 ((rd_T29 l0_2 x9_1).f0), .int .i64 ((rd_T29 l0_2 x9_1).f1), .slice none 0 0]) ?_ 2 _ rfl; refine bk_ ?_; refine blk_put (cs := #[.int .i64 ((rd_T29 l0_2 x9_1).f0), .int .i64 0, .slice none 0 0]) ?_ 1 _ rfl; refine bk_ ?_; refine blk_put (cs := #[.int .i64 0, .int .i64 0, .slice none 0 0]) ?_ 0 _ rfl; exact bk_ BK160.out))⟩; have n2_ : Aside0 (Below w.heap.size w w11) := ⟨(by rw [hw]; exact zgb)⟩; clear hw; clear BK158; clear BK160; clear HB; have BK158 := n0_; have BK160 := n1_; have HB := n2_; clear n0_ n1_ n2_; have hcz12_0 : w11.cell? ⟨gb160, 0, none⟩ = some (.int .i64 ((rd_T29 l0_2 x9_1).f0)) := bc_ BK160 0; have hcz12_1 : w11.cell? ⟨gb160, 1, none⟩ = some (.int .i64 ((rd_T29 l0_2 x9_1).f1)) := bc_ BK160 1; have hcz12_2 : w11.cell? ⟨gb160, 2, none⟩ = some (.slice A159_2 ((rd_T29 l0_2 x9_1).f2).length c159_2) := bc_ BK160 2; have hfz12_0 := blk_frozen BK160.out 0; have hfz12_1 := blk_frozen BK160.out 1; have hfz12_2 := blk_frozen BK160.out 2) | ((with_reducible refine gate_callee (f := 32) rfl ?_); refine goesL_ (some 15) rfl rfl Tryd.func32 (by kernel_rfl) rfl #[.agg #[.int .i64 ((rd_T29 l0_2 x9_1).f0), .int .i64 ((rd_T29 l0_2 x9_1).f1), .slice A159_2 ((rd_T29 l0_2 x9_1).f2).length c159_2]] rfl (by (try simp only [List.map_toArray, List.map_cons, List.map_nil]); first | done | rfl | (simp only [List.length_drop, List.length_take]; rfl)) ?_; (with_reducible refine (ih k1 (by have := HK1.out; omega) ((rd_T29 l0_2 x9_1).f0) ((rd_T29 l0_2 x9_1).f1) _ _ ((rd_T29 l0_2 x9_1).f2) t161 _ ?side1 ?side2 A7.out).mono ?_); (case side1 => repeat (first | exact (Kd.C_below HR159_2.out HB.out) | (with_reducible refine Kd.C_alloc ?_ _) | (with_reducible refine Kd.C_drewN ?_ _) | (with_reducible refine Kd.C_drew ?_))); (case side2 => exact HC159_2.out); rintro e w13 ⟨rfl, hb⟩; refine ⟨_, rfl, ?_⟩; have n0_ := Aside0.mk (blk_below (g := gb158) (o := .cells #[.int .i64 a0_0, .int .i64 a0_1, .slice (some ad159) l0_2.length c0_2] 29 (0, 0)) (bk_ BK158.out) hb); have n1_ := Aside0.mk (blk_below (g := gb160) (o := .cells #[.int .i64 ((rd_T29 l0_2 x9_1).f0), .int .i64 ((rd_T29 l0_2 x9_1).f1), .slice A159_2 ((rd_T29 l0_2 x9_1).f2).length c159_2] 29 (0, 0)) (bk_ BK160.out) hb); have n2_ := Aside0.mk (below_step zgb hb); clear BK158; clear BK160; clear HB; have BK158 := n0_; have BK160 := n1_; have HB := n2_; clear n0_ n1_ n2_; (try clear hb); (try clear hb2); (try clear hk); (try clear hi)))
      go_roundg k1
      case measure => have := HK1.out; omega
      case rel => exact ⟨(wrap64 (x3_1 + t161)), (wrap64 (x9_1 + 1)), zgd, zgd, H', ⟨by have := HK1.out; omega⟩, ⟨bk_ BK158.out⟩, ⟨zgb⟩⟩
     ·rw [if_neg c6] at H
      exact absurd H (by simp)
    ·rw [if_neg c5] at H
     exact absurd H (by simp)
   ·rw [if_neg c4] at H
    have c4b0 : decide (x9_1 < (l0_2.length : Int)) = false := decide_eq_false c4
    clear c4
    obtain rfl := Option.some.inj H
    go_wp2
    go_ret
    exact ⟨by first | rfl | (simp [errW_none, errW_some] <;> rfl) | (simp [*, errW_none, errW_some] <;> rfl), zga⟩

/-! ### thyrsuslaw4_places: function 33 -/
end Go.Proofs.YtcchfblekaaalaaDoor.P
