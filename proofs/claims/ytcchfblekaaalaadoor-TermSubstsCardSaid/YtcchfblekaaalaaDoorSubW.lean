/- TermSubsts: its walk (gensubw.py: the print's head, then the drawn regions' lemmas) -/
import Derived.Test.YtcchfblekaaalaaDoorSubR
import Derived.Test.YtcchfblekaaalaaDoorQx1
import Derived.Test.YtcchfblekaaalaaDoorPx1
namespace Go.Proofs.YtcchfblekaaalaaDoor.P
open Go.RowKit Go.Proofs.YtcchfblekaaalaaDoorW.PrintWords Go.Proofs.YtcchfblekaaalaaDoorW.PrintLast Go.Proofs.YtcchfblekaaalaaDoorW.PrintMore
set_option linter.unusedVariables false
set_option linter.unusedSimpArgs false
theorem within_go (a n t : Int) (w : World) (h : thyrsuslaw4_within.f a n = some t) : Calls Tryd.prog 20 #[.int .i64 a, .int .i64 n] w fun e w' => e = .returned (.int .i64 t) ∧ Below w.heap.size w w' :=
  (thyrsuslaw4_within.calls a n t w h).mono fun e w' ⟨he, nd, hd⟩ => ⟨he, hd ▸ pw_below_drewN (Below.refl _ _) nd⟩
attribute [local go_sem] max2_int min2_int max_two min_two max_three min_three max_four min_four
set_option maxHeartbeats 8000000 in
set_option maxRecDepth 100000 in
theorem thyrsuslaw4_TermSubsts.calls (k : Nat) (a0_0 : Int) (a0_1 : Int) (A0_2 : Option Addr) (c0_2 : Nat) (l0_2 : List (S24)) (a1_0 : Int) (a1_1 : Int) (A1_2 : Option Addr) (c1_2 : Nat) (l1_2 : List (S24)) (a2_0 : Int) (a2_1 : Int) (A2_2 : Option Addr) (c2_2 : Nat) (l2_2 : List (S24)) (a3 : Int) (r : Bool) (w : World) (hr0_2 : Kd.C k24 w A0_2 l0_2.length l0_2) (hc0_2 : l0_2.length ≤ c0_2) (hr1_2 : Kd.C k24 w A1_2 l1_2.length l1_2) (hc1_2 : l1_2.length ≤ c1_2) (hr2_2 : Kd.C k24 w A2_2 l2_2.length l2_2) (hc2_2 : l2_2.length ≤ c2_2) (h : thyrsuslaw4_TermSubsts.f k a0_0 a0_1 l0_2 a1_0 a1_1 l1_2 a2_0 a2_1 l2_2 a3 = some r) :
    Calls Tryd.prog 5 #[.agg #[.int .i64 a0_0, .int .i64 a0_1, .slice A0_2 l0_2.length c0_2], .agg #[.int .i64 a1_0, .int .i64 a1_1, .slice A1_2 l1_2.length c1_2], .agg #[.int .i64 a2_0, .int .i64 a2_1, .slice A2_2 l2_2.length c2_2], .int .i64 a3] w fun e w' => e = .returned (.bool r) ∧ Below w.heap.size w w' := by
  have hu24 := Tryd.underlying24
  have hu29 := Tryd.underlying29
  have HR0_2 := Aside0.mk hr0_2
  have HC0_2 := Aside0.mk hc0_2
  clear hr0_2 hc0_2
  have HR1_2 := Aside0.mk hr1_2
  have HC1_2 := Aside0.mk hc1_2
  clear hr1_2 hc1_2
  have HR2_2 := Aside0.mk hr2_2
  have HC2_2 := Aside0.mk hc2_2
  clear hr2_2 hc2_2
  have HB := Aside0.mk (Below.refl w.heap.size w)
  have H : ((thyrsuslaw4_known.f k).bind fun t405 => (if t405 = true then ((thyrsuslaw1_Few.f k a0_0 a0_1 l0_2).bind fun t406 => (if t406 = true then ((thyrsuslaw1_Few.f k a1_0 a1_1 l1_2).bind fun t407 => (if t407 = true then ((thyrsuslaw1_Few.f k a2_0 a2_1 l2_2).bind fun t408 => (thyrsuslaw4_TermSubsts.j0 k a3 (!t408) a0_0 a0_1 l0_2 a1_0 a1_1 l1_2 a2_0 a2_1 l2_2)) else (thyrsuslaw4_TermSubsts.j0 k a3 true a0_0 a0_1 l0_2 a1_0 a1_1 l1_2 a2_0 a2_1 l2_2))) else (thyrsuslaw4_TermSubsts.j0 k a3 true a0_0 a0_1 l0_2 a1_0 a1_1 l1_2 a2_0 a2_1 l2_2))) else (none))) = some r := h
  clear h
  replace H := Option.bind_eq_some_iff.mp H
  obtain ⟨t405, A50, H⟩ := H
  replace H : (if t405 = true then ((thyrsuslaw1_Few.f k a0_0 a0_1 l0_2).bind fun t406 => (if t406 = true then ((thyrsuslaw1_Few.f k a1_0 a1_1 l1_2).bind fun t407 => (if t407 = true then ((thyrsuslaw1_Few.f k a2_0 a2_1 l2_2).bind fun t408 => (thyrsuslaw4_TermSubsts.j0 k a3 (!t408) a0_0 a0_1 l0_2 a1_0 a1_1 l1_2 a2_0 a2_1 l2_2)) else (thyrsuslaw4_TermSubsts.j0 k a3 true a0_0 a0_1 l0_2 a1_0 a1_1 l1_2 a2_0 a2_1 l2_2))) else (thyrsuslaw4_TermSubsts.j0 k a3 true a0_0 a0_1 l0_2 a1_0 a1_1 l1_2 a2_0 a2_1 l2_2))) else (none)) = some r := H
  have A5 := Aside0.mk A50
  clear A50
  by_cases c6 : t405 = true
  · subst c6
    have H1 : ((thyrsuslaw1_Few.f k a0_0 a0_1 l0_2).bind fun t406 => (if t406 = true then ((thyrsuslaw1_Few.f k a1_0 a1_1 l1_2).bind fun t407 => (if t407 = true then ((thyrsuslaw1_Few.f k a2_0 a2_1 l2_2).bind fun t408 => (thyrsuslaw4_TermSubsts.j0 k a3 (!t408) a0_0 a0_1 l0_2 a1_0 a1_1 l1_2 a2_0 a2_1 l2_2)) else (thyrsuslaw4_TermSubsts.j0 k a3 true a0_0 a0_1 l0_2 a1_0 a1_1 l1_2 a2_0 a2_1 l2_2))) else (thyrsuslaw4_TermSubsts.j0 k a3 true a0_0 a0_1 l0_2 a1_0 a1_1 l1_2 a2_0 a2_1 l2_2))) = some r := by rw [if_pos rfl] at H; exact H
    clear H
    have H := H1
    clear H1
    have HC7 := Aside0.mk H
    clear H
    go_enter Tryd.func5, Tryd.ntmps5
    go_upto_region 3 with (first | ((with_reducible refine gate_dst (N := 4) rfl ?_); refine box_event ?hg (N := 4) ?hd (cs := #[.int .i64 a0_0, .int .i64 a0_1, .slice A0_2 l0_2.length c0_2]) (t := 24) ?hr ?_; (case hd => rfl); (case hg => rfl); (case hr => first | (go_simp; done) | (go_simp; rfl)); intro gb402 hg w8 hbox hb; have n0_ := Aside0.mk (below_step (by repeat (first | (with_reducible first | exact HB.out | apply below_alloc | apply pw_below_drewN | apply below_drew1) | exact HB.out)) hb); have n1_ := Aside0.mk (hbox); have n2_ := Aside0.mk ((by rw [hg]; exact (below_size (by repeat (first | (with_reducible first | exact HB.out | apply below_alloc | apply pw_below_drewN | apply below_drew1) | exact HB.out))) : w.heap.size ≤ gb402)); have n3_ := Aside0.mk ((by rw [hg]; exact (below_size (by repeat (first | (with_reducible first | exact HB.out | apply below_alloc | apply pw_below_drewN | apply below_drew1) | exact HB.out))) : w.heap.size ≤ gb402)); clear HB; have HB := n0_; have BK402 := n1_; have GW402 := n2_; have GE402 := n3_; clear n0_ n1_ n2_ n3_; clear hb hbox hg) | ((with_reducible refine gate_dst (N := 5) rfl ?_); refine box_event ?hg (N := 5) ?hd (cs := #[.int .i64 a1_0, .int .i64 a1_1, .slice A1_2 l1_2.length c1_2]) (t := 24) ?hr ?_; (case hd => rfl); (case hg => rfl); (case hr => first | (go_simp; done) | (go_simp; rfl)); intro gb403 hg w9 hbox hb; have n0_ := Aside0.mk (blk_below (g := gb402) (o := .cells #[.int .i64 a0_0, .int .i64 a0_1, .slice A0_2 l0_2.length c0_2] 24 (0, 0)) (by (with_reducible repeat (first | refine blk_drewN ?_ _ | refine blk_drew ?_ | refine blk_alloc ?_ _)); exact BK402.out) hb); have n1_ := Aside0.mk (below_step (by repeat (first | (with_reducible first | exact HB.out | apply below_alloc | apply pw_below_drewN | apply below_drew1 | refine below_set ?_ GE402.out) | exact HB.out)) hb); have n2_ := Aside0.mk (hbox); have n3_ := Aside0.mk ((by rw [hg]; exact (below_size (by repeat (first | (with_reducible first | exact HB.out | apply below_alloc | apply pw_below_drewN | apply below_drew1 | refine below_set ?_ GE402.out) | exact HB.out))) : w.heap.size ≤ gb403)); have n4_ := Aside0.mk ((by rw [hg]; exact (below_size (by repeat (first | (with_reducible first | exact HB.out | apply below_alloc | apply pw_below_drewN | apply below_drew1 | refine below_set ?_ GE402.out) | exact HB.out))) : w.heap.size ≤ gb403)); have n5_ := Aside0.mk ((by rw [hg]; exact Nat.ne_of_lt (blk_lt (g := gb402) (o := .cells #[.int .i64 a0_0, .int .i64 a0_1, .slice A0_2 l0_2.length c0_2] 24 (0, 0)) (by (with_reducible repeat (first | refine blk_drewN ?_ _ | refine blk_drew ?_ | refine blk_alloc ?_ _)); exact BK402.out)) : gb402 ≠ gb403)); have n6_ := Aside0.mk ((by rw [hg]; exact Nat.ne_of_gt (blk_lt (g := gb402) (o := .cells #[.int .i64 a0_0, .int .i64 a0_1, .slice A0_2 l0_2.length c0_2] 24 (0, 0)) (by (with_reducible repeat (first | refine blk_drewN ?_ _ | refine blk_drew ?_ | refine blk_alloc ?_ _)); exact BK402.out)) : gb403 ≠ gb402)); clear BK402; clear HB; have BK402 := n0_; have HB := n1_; have BK403 := n2_; have GW403 := n3_; have GE403 := n4_; have NB402_403 := n5_; have NB403_402 := n6_; clear n0_ n1_ n2_ n3_ n4_ n5_ n6_; clear hb hbox hg) | ((with_reducible refine gate_dst (N := 6) rfl ?_); refine box_event ?hg (N := 6) ?hd (cs := #[.int .i64 a2_0, .int .i64 a2_1, .slice A2_2 l2_2.length c2_2]) (t := 24) ?hr ?_; (case hd => rfl); (case hg => rfl); (case hr => first | (go_simp; done) | (go_simp; rfl)); intro gb404 hg w10 hbox hb; have n0_ := Aside0.mk (blk_below (g := gb402) (o := .cells #[.int .i64 a0_0, .int .i64 a0_1, .slice A0_2 l0_2.length c0_2] 24 (0, 0)) (by (with_reducible repeat (first | refine blk_drewN ?_ _ | refine blk_drew ?_ | refine blk_alloc ?_ _)); exact BK402.out) hb); have n1_ := Aside0.mk (blk_below (g := gb403) (o := .cells #[.int .i64 a1_0, .int .i64 a1_1, .slice A1_2 l1_2.length c1_2] 24 (0, 0)) (by (with_reducible repeat (first | refine blk_drewN ?_ _ | refine blk_drew ?_ | refine blk_alloc ?_ _)); exact BK403.out) hb); have n2_ := Aside0.mk (below_step (by repeat (first | (with_reducible first | exact HB.out | apply below_alloc | apply pw_below_drewN | apply below_drew1 | refine below_set ?_ GE402.out | refine below_set ?_ GE403.out) | exact HB.out)) hb); have n3_ := Aside0.mk (hbox); have n4_ := Aside0.mk ((by rw [hg]; exact (below_size (by repeat (first | (with_reducible first | exact HB.out | apply below_alloc | apply pw_below_drewN | apply below_drew1 | refine below_set ?_ GE402.out | refine below_set ?_ GE403.out) | exact HB.out))) : w.heap.size ≤ gb404)); have n5_ := Aside0.mk ((by rw [hg]; exact (below_size (by repeat (first | (with_reducible first | exact HB.out | apply below_alloc | apply pw_below_drewN | apply below_drew1 | refine below_set ?_ GE402.out | refine below_set ?_ GE403.out) | exact HB.out))) : w.heap.size ≤ gb404)); have n6_ := Aside0.mk ((by rw [hg]; exact Nat.ne_of_lt (blk_lt (g := gb402) (o := .cells #[.int .i64 a0_0, .int .i64 a0_1, .slice A0_2 l0_2.length c0_2] 24 (0, 0)) (by (with_reducible repeat (first | refine blk_drewN ?_ _ | refine blk_drew ?_ | refine blk_alloc ?_ _)); exact BK402.out)) : gb402 ≠ gb404)); have n7_ := Aside0.mk ((by rw [hg]; exact Nat.ne_of_gt (blk_lt (g := gb402) (o := .cells #[.int .i64 a0_0, .int .i64 a0_1, .slice A0_2 l0_2.length c0_2] 24 (0, 0)) (by (with_reducible repeat (first | refine blk_drewN ?_ _ | refine blk_drew ?_ | refine blk_alloc ?_ _)); exact BK402.out)) : gb404 ≠ gb402)); have n8_ := Aside0.mk ((by rw [hg]; exact Nat.ne_of_lt (blk_lt (g := gb403) (o := .cells #[.int .i64 a1_0, .int .i64 a1_1, .slice A1_2 l1_2.length c1_2] 24 (0, 0)) (by (with_reducible repeat (first | refine blk_drewN ?_ _ | refine blk_drew ?_ | refine blk_alloc ?_ _)); exact BK403.out)) : gb403 ≠ gb404)); have n9_ := Aside0.mk ((by rw [hg]; exact Nat.ne_of_gt (blk_lt (g := gb403) (o := .cells #[.int .i64 a1_0, .int .i64 a1_1, .slice A1_2 l1_2.length c1_2] 24 (0, 0)) (by (with_reducible repeat (first | refine blk_drewN ?_ _ | refine blk_drew ?_ | refine blk_alloc ?_ _)); exact BK403.out)) : gb404 ≠ gb403)); clear BK402; clear BK403; clear HB; have BK402 := n0_; have BK403 := n1_; have HB := n2_; have BK404 := n3_; have GW404 := n4_; have GE404 := n5_; have NB402_404 := n6_; have NB404_402 := n7_; have NB403_404 := n8_; have NB404_403 := n9_; clear n0_ n1_ n2_ n3_ n4_ n5_ n6_ n7_ n8_ n9_; clear hb hbox hg) | ((with_reducible refine gate_callee (f := 14) rfl ?_); refine goesL_ (some 16) rfl rfl Tryd.func14 (by kernel_rfl) rfl #[] rfl (by (try simp only [List.map_toArray, List.map_cons, List.map_nil]); first | done | rfl | (simp only [List.length_drop, List.length_take]; rfl)) ?_; (with_reducible refine (thyrsuslaw4_known.calls k  true _ A5.out).mono ?_); rintro e w11 ⟨rfl, hb⟩; refine ⟨_, rfl, ?_⟩; have n0_ := Aside0.mk (blk_below (g := gb402) (o := .cells #[.int .i64 a0_0, .int .i64 a0_1, .slice A0_2 l0_2.length c0_2] 24 (0, 0)) (by (with_reducible repeat (first | refine blk_drewN ?_ _ | refine blk_drew ?_ | refine blk_alloc ?_ _)); exact BK402.out) hb); have n1_ := Aside0.mk (blk_below (g := gb403) (o := .cells #[.int .i64 a1_0, .int .i64 a1_1, .slice A1_2 l1_2.length c1_2] 24 (0, 0)) (by (with_reducible repeat (first | refine blk_drewN ?_ _ | refine blk_drew ?_ | refine blk_alloc ?_ _)); exact BK403.out) hb); have n2_ := Aside0.mk (blk_below (g := gb404) (o := .cells #[.int .i64 a2_0, .int .i64 a2_1, .slice A2_2 l2_2.length c2_2] 24 (0, 0)) (by (with_reducible repeat (first | refine blk_drewN ?_ _ | refine blk_drew ?_ | refine blk_alloc ?_ _)); exact BK404.out) hb); have n3_ := Aside0.mk (below_step (by repeat (first | (with_reducible first | exact HB.out | apply below_alloc | apply pw_below_drewN | apply below_drew1 | refine below_set ?_ GE402.out | refine below_set ?_ GE403.out | refine below_set ?_ GE404.out) | exact HB.out)) hb); clear BK402; clear BK403; clear BK404; clear HB; have BK402 := n0_; have BK403 := n1_; have BK404 := n2_; have HB := n3_; clear n0_ n1_ n2_ n3_; (try clear hb); (try clear hb2); (try clear hk); (try clear hi)))
    (try simp only [Act.put, List.setIfInBounds_toArray, List.set_cons_zero, List.set_cons_succ])
    go_cut [30] (fun v30 wc => ∃ (kq : Nat) (x30_6 : Bool), v30 = .bool x30_6 ∧ Aside0 (thyrsuslaw4_TermSubsts.j0 kq a3 x30_6 a0_0 a0_1 l0_2 a1_0 a1_1 l1_2 a2_0 a2_1 l2_2 = some r) ∧ Aside0 (kq ≤ k) ∧ Aside0 (wc.heap[gb402]? = some (.cells #[.int .i64 a0_0, .int .i64 a0_1, (.slice A0_2 l0_2.length c0_2)] 24 (0, 0))) ∧ Aside0 (wc.heap[gb403]? = some (.cells #[.int .i64 a1_0, .int .i64 a1_1, (.slice A1_2 l1_2.length c1_2)] 24 (0, 0))) ∧ Aside0 (wc.heap[gb404]? = some (.cells #[.int .i64 a2_0, .int .i64 a2_1, (.slice A2_2 l2_2.length c2_2)] 24 (0, 0))) ∧ Aside0 (Below w.heap.size w wc))
    case first =>
      have H := HC7.out
      clear HC7
      replace H := Option.bind_eq_some_iff.mp H
      obtain ⟨t406, A120, H⟩ := H
      replace H : (if t406 = true then ((thyrsuslaw1_Few.f k a1_0 a1_1 l1_2).bind fun t407 => (if t407 = true then ((thyrsuslaw1_Few.f k a2_0 a2_1 l2_2).bind fun t408 => (thyrsuslaw4_TermSubsts.j0 k a3 (!t408) a0_0 a0_1 l0_2 a1_0 a1_1 l1_2 a2_0 a2_1 l2_2)) else (thyrsuslaw4_TermSubsts.j0 k a3 true a0_0 a0_1 l0_2 a1_0 a1_1 l1_2 a2_0 a2_1 l2_2))) else (thyrsuslaw4_TermSubsts.j0 k a3 true a0_0 a0_1 l0_2 a1_0 a1_1 l1_2 a2_0 a2_1 l2_2)) = some r := H
      have A12 := Aside0.mk A120
      clear A120
      by_cases c13 : t406 = true
      · subst c13
        have H1 : ((thyrsuslaw1_Few.f k a1_0 a1_1 l1_2).bind fun t407 => (if t407 = true then ((thyrsuslaw1_Few.f k a2_0 a2_1 l2_2).bind fun t408 => (thyrsuslaw4_TermSubsts.j0 k a3 (!t408) a0_0 a0_1 l0_2 a1_0 a1_1 l1_2 a2_0 a2_1 l2_2)) else (thyrsuslaw4_TermSubsts.j0 k a3 true a0_0 a0_1 l0_2 a1_0 a1_1 l1_2 a2_0 a2_1 l2_2))) = some r := by rw [if_pos rfl] at H; exact H
        clear H
        have H := H1
        clear H1
        replace H := Option.bind_eq_some_iff.mp H
        obtain ⟨t407, A140, H⟩ := H
        replace H : (if t407 = true then ((thyrsuslaw1_Few.f k a2_0 a2_1 l2_2).bind fun t408 => (thyrsuslaw4_TermSubsts.j0 k a3 (!t408) a0_0 a0_1 l0_2 a1_0 a1_1 l1_2 a2_0 a2_1 l2_2)) else (thyrsuslaw4_TermSubsts.j0 k a3 true a0_0 a0_1 l0_2 a1_0 a1_1 l1_2 a2_0 a2_1 l2_2)) = some r := H
        have A14 := Aside0.mk A140
        clear A140
        by_cases c15 : t407 = true
        · subst c15
          have H1 : ((thyrsuslaw1_Few.f k a2_0 a2_1 l2_2).bind fun t408 => (thyrsuslaw4_TermSubsts.j0 k a3 (!t408) a0_0 a0_1 l0_2 a1_0 a1_1 l1_2 a2_0 a2_1 l2_2)) = some r := by rw [if_pos rfl] at H; exact H
          clear H
          have H := H1
          clear H1
          replace H := Option.bind_eq_some_iff.mp H
          obtain ⟨t408, A160, H⟩ := H
          replace H : (thyrsuslaw4_TermSubsts.j0 k a3 (!t408) a0_0 a0_1 l0_2 a1_0 a1_1 l1_2 a2_0 a2_1 l2_2) = some r := H
          have A16 := Aside0.mk A160
          clear A160
          have H' := Aside0.mk H
          clear H
          have hnb17 := NB402_403.out
          have hnc17 := NB403_402.out
          have hnb18 := NB402_404.out
          have hnc18 := NB404_402.out
          have hcz19_0 : w11.cell? ⟨gb402, 0, none⟩ = some (.int .i64 a0_0) := (blk_cell BK402.out 0).trans rfl
          have hcz19_1 : w11.cell? ⟨gb402, 1, none⟩ = some (.int .i64 a0_1) := (blk_cell BK402.out 1).trans rfl
          have hcz19_2 : w11.cell? ⟨gb402, 2, none⟩ = some (.slice A0_2 l0_2.length c0_2) := (blk_cell BK402.out 2).trans rfl
          have hfz19_0 := blk_frozen BK402.out 0
          have hfz19_1 := blk_frozen BK402.out 1
          have hfz19_2 := blk_frozen BK402.out 2
          go_wp2_with (first | ((with_reducible refine gate_callee (f := 15) rfl ?_); refine goesL_ (some 19) rfl rfl Tryd.func15 (by kernel_rfl) rfl #[.agg #[.int .i64 a0_0, .int .i64 a0_1, .slice A0_2 l0_2.length c0_2]] rfl (by (try simp only [List.map_toArray, List.map_cons, List.map_nil]); first | done | rfl | (simp only [List.length_drop, List.length_take]; rfl)) ?_; (with_reducible refine (thyrsuslaw1_Few.calls k a0_0 a0_1 _ _ l0_2 true _ ?side1 ?side2 A12.out).mono ?_); (case side1 => repeat (first | exact (Kd.C_below HR0_2.out HB.out) | (with_reducible refine Kd.C_alloc ?_ _) | (with_reducible refine Kd.C_drewN ?_ _) | (with_reducible refine Kd.C_drew ?_))); (case side2 => exact HC0_2.out); rintro e w20 ⟨rfl, hb⟩; refine ⟨_, rfl, ?_⟩; have n0_ := Aside0.mk (blk_below (g := gb402) (o := .cells #[.int .i64 a0_0, .int .i64 a0_1, .slice A0_2 l0_2.length c0_2] 24 (0, 0)) (by (with_reducible repeat (first | refine blk_drewN ?_ _ | refine blk_drew ?_ | refine blk_alloc ?_ _)); exact BK402.out) hb); have n1_ := Aside0.mk (blk_below (g := gb403) (o := .cells #[.int .i64 a1_0, .int .i64 a1_1, .slice A1_2 l1_2.length c1_2] 24 (0, 0)) (by (with_reducible repeat (first | refine blk_drewN ?_ _ | refine blk_drew ?_ | refine blk_alloc ?_ _)); exact BK403.out) hb); have n2_ := Aside0.mk (blk_below (g := gb404) (o := .cells #[.int .i64 a2_0, .int .i64 a2_1, .slice A2_2 l2_2.length c2_2] 24 (0, 0)) (by (with_reducible repeat (first | refine blk_drewN ?_ _ | refine blk_drew ?_ | refine blk_alloc ?_ _)); exact BK404.out) hb); have n3_ := Aside0.mk (below_step (by repeat (first | (with_reducible first | exact HB.out | apply below_alloc | apply pw_below_drewN | apply below_drew1 | refine below_set ?_ GE402.out | refine below_set ?_ GE403.out | refine below_set ?_ GE404.out) | exact HB.out)) hb); clear BK402; clear BK403; clear BK404; clear HB; have BK402 := n0_; have BK403 := n1_; have BK404 := n2_; have HB := n3_; clear n0_ n1_ n2_ n3_; (try clear hb); (try clear hb2); (try clear hk); (try clear hi); have hnb21 := NB403_404.out; have hnc21 := NB404_403.out; have hcz22_0 : w20.cell? ⟨gb403, 0, none⟩ = some (.int .i64 a1_0) := (blk_cell BK403.out 0).trans rfl; have hcz22_1 : w20.cell? ⟨gb403, 1, none⟩ = some (.int .i64 a1_1) := (blk_cell BK403.out 1).trans rfl; have hcz22_2 : w20.cell? ⟨gb403, 2, none⟩ = some (.slice A1_2 l1_2.length c1_2) := (blk_cell BK403.out 2).trans rfl; have hfz22_0 := blk_frozen BK403.out 0; have hfz22_1 := blk_frozen BK403.out 1; have hfz22_2 := blk_frozen BK403.out 2) | (go_at_call 15; (with_reducible refine (thyrsuslaw1_Few.calls k a1_0 a1_1 _ _ l1_2 true _ ?side1 ?side2 A14.out).mono ?_); (case side1 => repeat (first | exact (Kd.C_below HR1_2.out HB.out) | (with_reducible refine Kd.C_alloc ?_ _) | (with_reducible refine Kd.C_drewN ?_ _) | (with_reducible refine Kd.C_drew ?_))); (case side2 => exact HC1_2.out); rintro e w23 ⟨rfl, hb⟩; have n0_ := Aside0.mk (blk_below (g := gb402) (o := .cells #[.int .i64 a0_0, .int .i64 a0_1, .slice A0_2 l0_2.length c0_2] 24 (0, 0)) (by (with_reducible repeat (first | refine blk_drewN ?_ _ | refine blk_drew ?_ | refine blk_alloc ?_ _)); exact BK402.out) hb); have n1_ := Aside0.mk (blk_below (g := gb403) (o := .cells #[.int .i64 a1_0, .int .i64 a1_1, .slice A1_2 l1_2.length c1_2] 24 (0, 0)) (by (with_reducible repeat (first | refine blk_drewN ?_ _ | refine blk_drew ?_ | refine blk_alloc ?_ _)); exact BK403.out) hb); have n2_ := Aside0.mk (blk_below (g := gb404) (o := .cells #[.int .i64 a2_0, .int .i64 a2_1, .slice A2_2 l2_2.length c2_2] 24 (0, 0)) (by (with_reducible repeat (first | refine blk_drewN ?_ _ | refine blk_drew ?_ | refine blk_alloc ?_ _)); exact BK404.out) hb); have n3_ := Aside0.mk (below_step (by repeat (first | (with_reducible first | exact HB.out | apply below_alloc | apply pw_below_drewN | apply below_drew1 | refine below_set ?_ GE402.out | refine below_set ?_ GE403.out | refine below_set ?_ GE404.out) | exact HB.out)) hb); clear BK402; clear BK403; clear BK404; clear HB; have BK402 := n0_; have BK403 := n1_; have BK404 := n2_; have HB := n3_; clear n0_ n1_ n2_ n3_; (try clear hb); (try clear hb2); (try clear hk); (try clear hi); have hcz24_0 : w23.cell? ⟨gb404, 0, none⟩ = some (.int .i64 a2_0) := (blk_cell BK404.out 0).trans rfl; have hcz24_1 : w23.cell? ⟨gb404, 1, none⟩ = some (.int .i64 a2_1) := (blk_cell BK404.out 1).trans rfl; have hcz24_2 : w23.cell? ⟨gb404, 2, none⟩ = some (.slice A2_2 l2_2.length c2_2) := (blk_cell BK404.out 2).trans rfl; have hfz24_0 := blk_frozen BK404.out 0; have hfz24_1 := blk_frozen BK404.out 1; have hfz24_2 := blk_frozen BK404.out 2) | (go_at_call 15; (with_reducible refine (thyrsuslaw1_Few.calls k a2_0 a2_1 _ _ l2_2 t408 _ ?side1 ?side2 A16.out).mono ?_); (case side1 => repeat (first | exact (Kd.C_below HR2_2.out HB.out) | (with_reducible refine Kd.C_alloc ?_ _) | (with_reducible refine Kd.C_drewN ?_ _) | (with_reducible refine Kd.C_drew ?_))); (case side2 => exact HC2_2.out); rintro e w25 ⟨rfl, hb⟩; have n0_ := Aside0.mk (blk_below (g := gb402) (o := .cells #[.int .i64 a0_0, .int .i64 a0_1, .slice A0_2 l0_2.length c0_2] 24 (0, 0)) (by (with_reducible repeat (first | refine blk_drewN ?_ _ | refine blk_drew ?_ | refine blk_alloc ?_ _)); exact BK402.out) hb); have n1_ := Aside0.mk (blk_below (g := gb403) (o := .cells #[.int .i64 a1_0, .int .i64 a1_1, .slice A1_2 l1_2.length c1_2] 24 (0, 0)) (by (with_reducible repeat (first | refine blk_drewN ?_ _ | refine blk_drew ?_ | refine blk_alloc ?_ _)); exact BK403.out) hb); have n2_ := Aside0.mk (blk_below (g := gb404) (o := .cells #[.int .i64 a2_0, .int .i64 a2_1, .slice A2_2 l2_2.length c2_2] 24 (0, 0)) (by (with_reducible repeat (first | refine blk_drewN ?_ _ | refine blk_drew ?_ | refine blk_alloc ?_ _)); exact BK404.out) hb); have n3_ := Aside0.mk (below_step (by repeat (first | (with_reducible first | exact HB.out | apply below_alloc | apply pw_below_drewN | apply below_drew1 | refine below_set ?_ GE402.out | refine below_set ?_ GE403.out | refine below_set ?_ GE404.out) | exact HB.out)) hb); clear BK402; clear BK403; clear BK404; clear HB; have BK402 := n0_; have BK403 := n1_; have BK404 := n2_; have HB := n3_; clear n0_ n1_ n2_ n3_; (try clear hb); (try clear hb2); (try clear hk); (try clear hi)))
          go_meet
          case rel => exact ⟨_, (!t408), (by first | rfl | (simp; done) | (simp [*]; done)), H', ⟨by first | omega | exact Nat.le_refl _⟩, ⟨by (with_reducible repeat (first | refine blk_drewN ?_ _ | refine blk_drew ?_ | refine blk_alloc ?_ _)); exact BK402.out⟩, ⟨by (with_reducible repeat (first | refine blk_drewN ?_ _ | refine blk_drew ?_ | refine blk_alloc ?_ _)); exact BK403.out⟩, ⟨by (with_reducible repeat (first | refine blk_drewN ?_ _ | refine blk_drew ?_ | refine blk_alloc ?_ _)); exact BK404.out⟩, ⟨by repeat (first | (with_reducible first | exact HB.out | apply below_alloc | apply pw_below_drewN | apply below_drew1 | refine below_set ?_ GE402.out | refine below_set ?_ GE403.out | refine below_set ?_ GE404.out) | exact HB.out)⟩⟩
        · replace c15 := Bool.eq_false_iff.mpr c15
          subst c15
          have H1 : (thyrsuslaw4_TermSubsts.j0 k a3 true a0_0 a0_1 l0_2 a1_0 a1_1 l1_2 a2_0 a2_1 l2_2) = some r := by rw [if_neg (show ¬ (false = true) by decide)] at H; exact H
          clear H
          have H := H1
          clear H1
          have H' := Aside0.mk H
          clear H
          have hnb26 := NB402_403.out
          have hnc26 := NB403_402.out
          have hnb27 := NB402_404.out
          have hnc27 := NB404_402.out
          have hcz28_0 : w11.cell? ⟨gb402, 0, none⟩ = some (.int .i64 a0_0) := (blk_cell BK402.out 0).trans rfl
          have hcz28_1 : w11.cell? ⟨gb402, 1, none⟩ = some (.int .i64 a0_1) := (blk_cell BK402.out 1).trans rfl
          have hcz28_2 : w11.cell? ⟨gb402, 2, none⟩ = some (.slice A0_2 l0_2.length c0_2) := (blk_cell BK402.out 2).trans rfl
          have hfz28_0 := blk_frozen BK402.out 0
          have hfz28_1 := blk_frozen BK402.out 1
          have hfz28_2 := blk_frozen BK402.out 2
          go_wp2_with (first | ((with_reducible refine gate_callee (f := 15) rfl ?_); refine goesL_ (some 19) rfl rfl Tryd.func15 (by kernel_rfl) rfl #[.agg #[.int .i64 a0_0, .int .i64 a0_1, .slice A0_2 l0_2.length c0_2]] rfl (by (try simp only [List.map_toArray, List.map_cons, List.map_nil]); first | done | rfl | (simp only [List.length_drop, List.length_take]; rfl)) ?_; (with_reducible refine (thyrsuslaw1_Few.calls k a0_0 a0_1 _ _ l0_2 true _ ?side1 ?side2 A12.out).mono ?_); (case side1 => repeat (first | exact (Kd.C_below HR0_2.out HB.out) | (with_reducible refine Kd.C_alloc ?_ _) | (with_reducible refine Kd.C_drewN ?_ _) | (with_reducible refine Kd.C_drew ?_))); (case side2 => exact HC0_2.out); rintro e w29 ⟨rfl, hb⟩; refine ⟨_, rfl, ?_⟩; have n0_ := Aside0.mk (blk_below (g := gb402) (o := .cells #[.int .i64 a0_0, .int .i64 a0_1, .slice A0_2 l0_2.length c0_2] 24 (0, 0)) (by (with_reducible repeat (first | refine blk_drewN ?_ _ | refine blk_drew ?_ | refine blk_alloc ?_ _)); exact BK402.out) hb); have n1_ := Aside0.mk (blk_below (g := gb403) (o := .cells #[.int .i64 a1_0, .int .i64 a1_1, .slice A1_2 l1_2.length c1_2] 24 (0, 0)) (by (with_reducible repeat (first | refine blk_drewN ?_ _ | refine blk_drew ?_ | refine blk_alloc ?_ _)); exact BK403.out) hb); have n2_ := Aside0.mk (blk_below (g := gb404) (o := .cells #[.int .i64 a2_0, .int .i64 a2_1, .slice A2_2 l2_2.length c2_2] 24 (0, 0)) (by (with_reducible repeat (first | refine blk_drewN ?_ _ | refine blk_drew ?_ | refine blk_alloc ?_ _)); exact BK404.out) hb); have n3_ := Aside0.mk (below_step (by repeat (first | (with_reducible first | exact HB.out | apply below_alloc | apply pw_below_drewN | apply below_drew1 | refine below_set ?_ GE402.out | refine below_set ?_ GE403.out | refine below_set ?_ GE404.out) | exact HB.out)) hb); clear BK402; clear BK403; clear BK404; clear HB; have BK402 := n0_; have BK403 := n1_; have BK404 := n2_; have HB := n3_; clear n0_ n1_ n2_ n3_; (try clear hb); (try clear hb2); (try clear hk); (try clear hi); have hnb30 := NB403_404.out; have hnc30 := NB404_403.out; have hcz31_0 : w29.cell? ⟨gb403, 0, none⟩ = some (.int .i64 a1_0) := (blk_cell BK403.out 0).trans rfl; have hcz31_1 : w29.cell? ⟨gb403, 1, none⟩ = some (.int .i64 a1_1) := (blk_cell BK403.out 1).trans rfl; have hcz31_2 : w29.cell? ⟨gb403, 2, none⟩ = some (.slice A1_2 l1_2.length c1_2) := (blk_cell BK403.out 2).trans rfl; have hfz31_0 := blk_frozen BK403.out 0; have hfz31_1 := blk_frozen BK403.out 1; have hfz31_2 := blk_frozen BK403.out 2) | (go_at_call 15; (with_reducible refine (thyrsuslaw1_Few.calls k a1_0 a1_1 _ _ l1_2 false _ ?side1 ?side2 A14.out).mono ?_); (case side1 => repeat (first | exact (Kd.C_below HR1_2.out HB.out) | (with_reducible refine Kd.C_alloc ?_ _) | (with_reducible refine Kd.C_drewN ?_ _) | (with_reducible refine Kd.C_drew ?_))); (case side2 => exact HC1_2.out); rintro e w32 ⟨rfl, hb⟩; have n0_ := Aside0.mk (blk_below (g := gb402) (o := .cells #[.int .i64 a0_0, .int .i64 a0_1, .slice A0_2 l0_2.length c0_2] 24 (0, 0)) (by (with_reducible repeat (first | refine blk_drewN ?_ _ | refine blk_drew ?_ | refine blk_alloc ?_ _)); exact BK402.out) hb); have n1_ := Aside0.mk (blk_below (g := gb403) (o := .cells #[.int .i64 a1_0, .int .i64 a1_1, .slice A1_2 l1_2.length c1_2] 24 (0, 0)) (by (with_reducible repeat (first | refine blk_drewN ?_ _ | refine blk_drew ?_ | refine blk_alloc ?_ _)); exact BK403.out) hb); have n2_ := Aside0.mk (blk_below (g := gb404) (o := .cells #[.int .i64 a2_0, .int .i64 a2_1, .slice A2_2 l2_2.length c2_2] 24 (0, 0)) (by (with_reducible repeat (first | refine blk_drewN ?_ _ | refine blk_drew ?_ | refine blk_alloc ?_ _)); exact BK404.out) hb); have n3_ := Aside0.mk (below_step (by repeat (first | (with_reducible first | exact HB.out | apply below_alloc | apply pw_below_drewN | apply below_drew1 | refine below_set ?_ GE402.out | refine below_set ?_ GE403.out | refine below_set ?_ GE404.out) | exact HB.out)) hb); clear BK402; clear BK403; clear BK404; clear HB; have BK402 := n0_; have BK403 := n1_; have BK404 := n2_; have HB := n3_; clear n0_ n1_ n2_ n3_; (try clear hb); (try clear hb2); (try clear hk); (try clear hi)))
          go_meet
          case rel => exact ⟨_, (true), (by first | rfl | (simp; done) | (simp [*]; done)), H', ⟨by first | omega | exact Nat.le_refl _⟩, ⟨by (with_reducible repeat (first | refine blk_drewN ?_ _ | refine blk_drew ?_ | refine blk_alloc ?_ _)); exact BK402.out⟩, ⟨by (with_reducible repeat (first | refine blk_drewN ?_ _ | refine blk_drew ?_ | refine blk_alloc ?_ _)); exact BK403.out⟩, ⟨by (with_reducible repeat (first | refine blk_drewN ?_ _ | refine blk_drew ?_ | refine blk_alloc ?_ _)); exact BK404.out⟩, ⟨by repeat (first | (with_reducible first | exact HB.out | apply below_alloc | apply pw_below_drewN | apply below_drew1 | refine below_set ?_ GE402.out | refine below_set ?_ GE403.out | refine below_set ?_ GE404.out) | exact HB.out)⟩⟩
      · replace c13 := Bool.eq_false_iff.mpr c13
        subst c13
        have H1 : (thyrsuslaw4_TermSubsts.j0 k a3 true a0_0 a0_1 l0_2 a1_0 a1_1 l1_2 a2_0 a2_1 l2_2) = some r := by rw [if_neg (show ¬ (false = true) by decide)] at H; exact H
        clear H
        have H := H1
        clear H1
        have H' := Aside0.mk H
        clear H
        have hnb33 := NB402_403.out
        have hnc33 := NB403_402.out
        have hnb34 := NB402_404.out
        have hnc34 := NB404_402.out
        have hcz35_0 : w11.cell? ⟨gb402, 0, none⟩ = some (.int .i64 a0_0) := (blk_cell BK402.out 0).trans rfl
        have hcz35_1 : w11.cell? ⟨gb402, 1, none⟩ = some (.int .i64 a0_1) := (blk_cell BK402.out 1).trans rfl
        have hcz35_2 : w11.cell? ⟨gb402, 2, none⟩ = some (.slice A0_2 l0_2.length c0_2) := (blk_cell BK402.out 2).trans rfl
        have hfz35_0 := blk_frozen BK402.out 0
        have hfz35_1 := blk_frozen BK402.out 1
        have hfz35_2 := blk_frozen BK402.out 2
        go_wp2_with (first | ((with_reducible refine gate_callee (f := 15) rfl ?_); refine goesL_ (some 19) rfl rfl Tryd.func15 (by kernel_rfl) rfl #[.agg #[.int .i64 a0_0, .int .i64 a0_1, .slice A0_2 l0_2.length c0_2]] rfl (by (try simp only [List.map_toArray, List.map_cons, List.map_nil]); first | done | rfl | (simp only [List.length_drop, List.length_take]; rfl)) ?_; (with_reducible refine (thyrsuslaw1_Few.calls k a0_0 a0_1 _ _ l0_2 false _ ?side1 ?side2 A12.out).mono ?_); (case side1 => repeat (first | exact (Kd.C_below HR0_2.out HB.out) | (with_reducible refine Kd.C_alloc ?_ _) | (with_reducible refine Kd.C_drewN ?_ _) | (with_reducible refine Kd.C_drew ?_))); (case side2 => exact HC0_2.out); rintro e w36 ⟨rfl, hb⟩; refine ⟨_, rfl, ?_⟩; have n0_ := Aside0.mk (blk_below (g := gb402) (o := .cells #[.int .i64 a0_0, .int .i64 a0_1, .slice A0_2 l0_2.length c0_2] 24 (0, 0)) (by (with_reducible repeat (first | refine blk_drewN ?_ _ | refine blk_drew ?_ | refine blk_alloc ?_ _)); exact BK402.out) hb); have n1_ := Aside0.mk (blk_below (g := gb403) (o := .cells #[.int .i64 a1_0, .int .i64 a1_1, .slice A1_2 l1_2.length c1_2] 24 (0, 0)) (by (with_reducible repeat (first | refine blk_drewN ?_ _ | refine blk_drew ?_ | refine blk_alloc ?_ _)); exact BK403.out) hb); have n2_ := Aside0.mk (blk_below (g := gb404) (o := .cells #[.int .i64 a2_0, .int .i64 a2_1, .slice A2_2 l2_2.length c2_2] 24 (0, 0)) (by (with_reducible repeat (first | refine blk_drewN ?_ _ | refine blk_drew ?_ | refine blk_alloc ?_ _)); exact BK404.out) hb); have n3_ := Aside0.mk (below_step (by repeat (first | (with_reducible first | exact HB.out | apply below_alloc | apply pw_below_drewN | apply below_drew1 | refine below_set ?_ GE402.out | refine below_set ?_ GE403.out | refine below_set ?_ GE404.out) | exact HB.out)) hb); clear BK402; clear BK403; clear BK404; clear HB; have BK402 := n0_; have BK403 := n1_; have BK404 := n2_; have HB := n3_; clear n0_ n1_ n2_ n3_; (try clear hb); (try clear hb2); (try clear hk); (try clear hi)))
        go_meet
        case rel => exact ⟨_, (true), (by first | rfl | (simp; done) | (simp [*]; done)), H', ⟨by first | omega | exact Nat.le_refl _⟩, ⟨by (with_reducible repeat (first | refine blk_drewN ?_ _ | refine blk_drew ?_ | refine blk_alloc ?_ _)); exact BK402.out⟩, ⟨by (with_reducible repeat (first | refine blk_drewN ?_ _ | refine blk_drew ?_ | refine blk_alloc ?_ _)); exact BK403.out⟩, ⟨by (with_reducible repeat (first | refine blk_drewN ?_ _ | refine blk_drew ?_ | refine blk_alloc ?_ _)); exact BK404.out⟩, ⟨by repeat (first | (with_reducible first | exact HB.out | apply below_alloc | apply pw_below_drewN | apply below_drew1 | refine below_set ?_ GE402.out | refine below_set ?_ GE403.out | refine below_set ?_ GE404.out) | exact HB.out)⟩⟩
    case rest =>
      clear HC7
      try clear c1
      try clear c2
      try clear p2
      try clear c3
      try clear c5
      try clear c6
      try clear c13
      try clear c14
      try clear c15
      try clear c17
      try clear c18
      try clear c21
      try clear c26
      try clear c27
      try clear c30
      try clear c33
      try clear c34
      try clear hcz19_0
      try clear hcz19_1
      try clear hcz19_2
      try clear hcz22_0
      try clear hcz22_1
      try clear hcz22_2
      try clear hcz24_0
      try clear hcz24_1
      try clear hcz24_2
      try clear hcz28_0
      try clear hcz28_1
      try clear hcz28_2
      try clear hcz31_0
      try clear hcz31_1
      try clear hcz31_2
      try clear hcz35_0
      try clear hcz35_1
      try clear hcz35_2
      try clear hfz19_0
      try clear hfz19_1
      try clear hfz19_2
      try clear hfz22_0
      try clear hfz22_1
      try clear hfz22_2
      try clear hfz24_0
      try clear hfz24_1
      try clear hfz24_2
      try clear hfz28_0
      try clear hfz28_1
      try clear hfz28_2
      try clear hfz31_0
      try clear hfz31_1
      try clear hfz31_2
      try clear hfz35_0
      try clear hfz35_1
      try clear hfz35_2
      obtain ⟨kq, x30_6, rfl, HA, HJ6, BK402, BK403, BK404, HB⟩ := hcut
      cases kq with
      | zero => exact absurd HA.out (by simp [thyrsuslaw4_TermSubsts.j0])
      | succ kj6 =>
        have H := HA.out
        clear HA
        simp only [thyrsuslaw4_TermSubsts.j0] at H
        by_cases c37 : x30_6 = true
        · subst c37
          have H1 : (some true) = some r := by rw [if_pos rfl] at H; exact H
          clear H
          have H := H1
          clear H1
          obtain rfl := Option.some.inj H
          go_wp2
          go_ret
          exact ⟨by first | rfl | (simp [errW_none, errW_some] <;> rfl) | (simp [*, errW_none, errW_some] <;> rfl), by repeat (first | (with_reducible first | exact HB.out | apply below_alloc | apply pw_below_drewN | apply below_drew1 | refine below_set ?_ GE402.out | refine below_set ?_ GE403.out | refine below_set ?_ GE404.out) | exact HB.out)⟩
        · replace c37 := Bool.eq_false_iff.mpr c37
          subst c37
          have H1 : ((thyrsuslaw1_Make.f kj6 a0_0 a0_1 l0_2 5 4).bind fun bt409 => ((thyrsuslaw1_Make.f kj6 a1_0 a1_1 l1_2 3 3).bind fun bt414 => ((thyrsuslaw1_Make.f kj6 a2_0 a2_1 l2_2 3 3).bind fun bt419 => ((thyrsuslaw4_within.f a3 4).bind fun t427 => ((term_Shift.f kj6 bt414.1 bt414.2.1 bt414.2.2 1 0).bind fun bt428 => ((term_Subst.f kj6 bt409.1 bt409.2.1 bt409.2.2 0 bt428.1 bt428.2.1 bt428.2.2).bind fun bt433 => ((term_Subst.f kj6 bt433.1 bt433.2.1 bt433.2.2 0 bt419.1 bt419.2.1 bt419.2.2).bind fun bt438 => ((term_Shift.f kj6 bt419.1 bt419.2.1 bt419.2.2 1 0).bind fun bt444 => ((term_Subst.f kj6 bt409.1 bt409.2.1 bt409.2.2 1 bt444.1 bt444.2.1 bt444.2.2).bind fun bt449 => ((term_Subst.f kj6 bt449.1 bt449.2.1 bt449.2.2 0 bt414.1 bt414.2.1 bt414.2.2).bind fun bt454 => ((term_Subst.f kj6 bt409.1 bt409.2.1 bt409.2.2 0 bt414.1 bt414.2.1 bt414.2.2).bind fun bt460 => ((term_Shift.f kj6 bt460.1 bt460.2.1 bt460.2.2 t427 0).bind fun bt465 => ((term_Shift.f kj6 bt409.1 bt409.2.1 bt409.2.2 t427 1).bind fun bt471 => ((term_Shift.f kj6 bt414.1 bt414.2.1 bt414.2.2 t427 0).bind fun bt476 => ((term_Subst.f kj6 bt471.1 bt471.2.1 bt471.2.2 0 bt476.1 bt476.2.1 bt476.2.2).bind fun bt481 => ((thyrsusref4_Same.f kj6 bt438.1 bt438.2.1 bt438.2.2 bt454.1 bt454.2.1 bt454.2.2).bind fun t487 => (if t487 = true then ((thyrsusref4_Same.f kj6 bt465.1 bt465.2.1 bt465.2.2 bt481.1 bt481.2.1 bt481.2.2).bind fun t488 => (some t488)) else (none)))))))))))))))))) = some r := by rw [if_neg (show ¬ (false = true) by decide)] at H; exact H
          clear H
          have H := H1
          clear H1
          replace H := Option.bind_eq_some_iff.mp H
          obtain ⟨⟨t409, t410, t411⟩, A380, H⟩ := H
          replace H : ((thyrsuslaw1_Make.f kj6 a1_0 a1_1 l1_2 3 3).bind fun bt414 => ((thyrsuslaw1_Make.f kj6 a2_0 a2_1 l2_2 3 3).bind fun bt419 => ((thyrsuslaw4_within.f a3 4).bind fun t427 => ((term_Shift.f kj6 bt414.1 bt414.2.1 bt414.2.2 1 0).bind fun bt428 => ((term_Subst.f kj6 t409 t410 t411 0 bt428.1 bt428.2.1 bt428.2.2).bind fun bt433 => ((term_Subst.f kj6 bt433.1 bt433.2.1 bt433.2.2 0 bt419.1 bt419.2.1 bt419.2.2).bind fun bt438 => ((term_Shift.f kj6 bt419.1 bt419.2.1 bt419.2.2 1 0).bind fun bt444 => ((term_Subst.f kj6 t409 t410 t411 1 bt444.1 bt444.2.1 bt444.2.2).bind fun bt449 => ((term_Subst.f kj6 bt449.1 bt449.2.1 bt449.2.2 0 bt414.1 bt414.2.1 bt414.2.2).bind fun bt454 => ((term_Subst.f kj6 t409 t410 t411 0 bt414.1 bt414.2.1 bt414.2.2).bind fun bt460 => ((term_Shift.f kj6 bt460.1 bt460.2.1 bt460.2.2 t427 0).bind fun bt465 => ((term_Shift.f kj6 t409 t410 t411 t427 1).bind fun bt471 => ((term_Shift.f kj6 bt414.1 bt414.2.1 bt414.2.2 t427 0).bind fun bt476 => ((term_Subst.f kj6 bt471.1 bt471.2.1 bt471.2.2 0 bt476.1 bt476.2.1 bt476.2.2).bind fun bt481 => ((thyrsusref4_Same.f kj6 bt438.1 bt438.2.1 bt438.2.2 bt454.1 bt454.2.1 bt454.2.2).bind fun t487 => (if t487 = true then ((thyrsusref4_Same.f kj6 bt465.1 bt465.2.1 bt465.2.2 bt481.1 bt481.2.1 bt481.2.2).bind fun t488 => (some t488)) else (none))))))))))))))))) = some r := H
          have A38 := Aside0.mk A380
          clear A380
          replace H := Option.bind_eq_some_iff.mp H
          obtain ⟨⟨t414, t415, t416⟩, A390, H⟩ := H
          replace H : ((thyrsuslaw1_Make.f kj6 a2_0 a2_1 l2_2 3 3).bind fun bt419 => ((thyrsuslaw4_within.f a3 4).bind fun t427 => ((term_Shift.f kj6 t414 t415 t416 1 0).bind fun bt428 => ((term_Subst.f kj6 t409 t410 t411 0 bt428.1 bt428.2.1 bt428.2.2).bind fun bt433 => ((term_Subst.f kj6 bt433.1 bt433.2.1 bt433.2.2 0 bt419.1 bt419.2.1 bt419.2.2).bind fun bt438 => ((term_Shift.f kj6 bt419.1 bt419.2.1 bt419.2.2 1 0).bind fun bt444 => ((term_Subst.f kj6 t409 t410 t411 1 bt444.1 bt444.2.1 bt444.2.2).bind fun bt449 => ((term_Subst.f kj6 bt449.1 bt449.2.1 bt449.2.2 0 t414 t415 t416).bind fun bt454 => ((term_Subst.f kj6 t409 t410 t411 0 t414 t415 t416).bind fun bt460 => ((term_Shift.f kj6 bt460.1 bt460.2.1 bt460.2.2 t427 0).bind fun bt465 => ((term_Shift.f kj6 t409 t410 t411 t427 1).bind fun bt471 => ((term_Shift.f kj6 t414 t415 t416 t427 0).bind fun bt476 => ((term_Subst.f kj6 bt471.1 bt471.2.1 bt471.2.2 0 bt476.1 bt476.2.1 bt476.2.2).bind fun bt481 => ((thyrsusref4_Same.f kj6 bt438.1 bt438.2.1 bt438.2.2 bt454.1 bt454.2.1 bt454.2.2).bind fun t487 => (if t487 = true then ((thyrsusref4_Same.f kj6 bt465.1 bt465.2.1 bt465.2.2 bt481.1 bt481.2.1 bt481.2.2).bind fun t488 => (some t488)) else (none)))))))))))))))) = some r := H
          have A39 := Aside0.mk A390
          clear A390
          replace H := Option.bind_eq_some_iff.mp H
          obtain ⟨⟨t419, t420, t421⟩, A400, H⟩ := H
          replace H : ((thyrsuslaw4_within.f a3 4).bind fun t427 => ((term_Shift.f kj6 t414 t415 t416 1 0).bind fun bt428 => ((term_Subst.f kj6 t409 t410 t411 0 bt428.1 bt428.2.1 bt428.2.2).bind fun bt433 => ((term_Subst.f kj6 bt433.1 bt433.2.1 bt433.2.2 0 t419 t420 t421).bind fun bt438 => ((term_Shift.f kj6 t419 t420 t421 1 0).bind fun bt444 => ((term_Subst.f kj6 t409 t410 t411 1 bt444.1 bt444.2.1 bt444.2.2).bind fun bt449 => ((term_Subst.f kj6 bt449.1 bt449.2.1 bt449.2.2 0 t414 t415 t416).bind fun bt454 => ((term_Subst.f kj6 t409 t410 t411 0 t414 t415 t416).bind fun bt460 => ((term_Shift.f kj6 bt460.1 bt460.2.1 bt460.2.2 t427 0).bind fun bt465 => ((term_Shift.f kj6 t409 t410 t411 t427 1).bind fun bt471 => ((term_Shift.f kj6 t414 t415 t416 t427 0).bind fun bt476 => ((term_Subst.f kj6 bt471.1 bt471.2.1 bt471.2.2 0 bt476.1 bt476.2.1 bt476.2.2).bind fun bt481 => ((thyrsusref4_Same.f kj6 bt438.1 bt438.2.1 bt438.2.2 bt454.1 bt454.2.1 bt454.2.2).bind fun t487 => (if t487 = true then ((thyrsusref4_Same.f kj6 bt465.1 bt465.2.1 bt465.2.2 bt481.1 bt481.2.1 bt481.2.2).bind fun t488 => (some t488)) else (none))))))))))))))) = some r := H
          have A40 := Aside0.mk A400
          clear A400
          replace H := Option.bind_eq_some_iff.mp H
          obtain ⟨t427, A410, H⟩ := H
          replace H : ((term_Shift.f kj6 t414 t415 t416 1 0).bind fun bt428 => ((term_Subst.f kj6 t409 t410 t411 0 bt428.1 bt428.2.1 bt428.2.2).bind fun bt433 => ((term_Subst.f kj6 bt433.1 bt433.2.1 bt433.2.2 0 t419 t420 t421).bind fun bt438 => ((term_Shift.f kj6 t419 t420 t421 1 0).bind fun bt444 => ((term_Subst.f kj6 t409 t410 t411 1 bt444.1 bt444.2.1 bt444.2.2).bind fun bt449 => ((term_Subst.f kj6 bt449.1 bt449.2.1 bt449.2.2 0 t414 t415 t416).bind fun bt454 => ((term_Subst.f kj6 t409 t410 t411 0 t414 t415 t416).bind fun bt460 => ((term_Shift.f kj6 bt460.1 bt460.2.1 bt460.2.2 t427 0).bind fun bt465 => ((term_Shift.f kj6 t409 t410 t411 t427 1).bind fun bt471 => ((term_Shift.f kj6 t414 t415 t416 t427 0).bind fun bt476 => ((term_Subst.f kj6 bt471.1 bt471.2.1 bt471.2.2 0 bt476.1 bt476.2.1 bt476.2.2).bind fun bt481 => ((thyrsusref4_Same.f kj6 bt438.1 bt438.2.1 bt438.2.2 bt454.1 bt454.2.1 bt454.2.2).bind fun t487 => (if t487 = true then ((thyrsusref4_Same.f kj6 bt465.1 bt465.2.1 bt465.2.2 bt481.1 bt481.2.1 bt481.2.2).bind fun t488 => (some t488)) else (none)))))))))))))) = some r := H
          have A41 := Aside0.mk A410
          clear A410
          replace H := Option.bind_eq_some_iff.mp H
          obtain ⟨⟨t428, t429, t430⟩, A420, H⟩ := H
          replace H : ((term_Subst.f kj6 t409 t410 t411 0 t428 t429 t430).bind fun bt433 => ((term_Subst.f kj6 bt433.1 bt433.2.1 bt433.2.2 0 t419 t420 t421).bind fun bt438 => ((term_Shift.f kj6 t419 t420 t421 1 0).bind fun bt444 => ((term_Subst.f kj6 t409 t410 t411 1 bt444.1 bt444.2.1 bt444.2.2).bind fun bt449 => ((term_Subst.f kj6 bt449.1 bt449.2.1 bt449.2.2 0 t414 t415 t416).bind fun bt454 => ((term_Subst.f kj6 t409 t410 t411 0 t414 t415 t416).bind fun bt460 => ((term_Shift.f kj6 bt460.1 bt460.2.1 bt460.2.2 t427 0).bind fun bt465 => ((term_Shift.f kj6 t409 t410 t411 t427 1).bind fun bt471 => ((term_Shift.f kj6 t414 t415 t416 t427 0).bind fun bt476 => ((term_Subst.f kj6 bt471.1 bt471.2.1 bt471.2.2 0 bt476.1 bt476.2.1 bt476.2.2).bind fun bt481 => ((thyrsusref4_Same.f kj6 bt438.1 bt438.2.1 bt438.2.2 bt454.1 bt454.2.1 bt454.2.2).bind fun t487 => (if t487 = true then ((thyrsusref4_Same.f kj6 bt465.1 bt465.2.1 bt465.2.2 bt481.1 bt481.2.1 bt481.2.2).bind fun t488 => (some t488)) else (none))))))))))))) = some r := H
          have A42 := Aside0.mk A420
          clear A420
          replace H := Option.bind_eq_some_iff.mp H
          obtain ⟨⟨t433, t434, t435⟩, A430, H⟩ := H
          replace H : ((term_Subst.f kj6 t433 t434 t435 0 t419 t420 t421).bind fun bt438 => ((term_Shift.f kj6 t419 t420 t421 1 0).bind fun bt444 => ((term_Subst.f kj6 t409 t410 t411 1 bt444.1 bt444.2.1 bt444.2.2).bind fun bt449 => ((term_Subst.f kj6 bt449.1 bt449.2.1 bt449.2.2 0 t414 t415 t416).bind fun bt454 => ((term_Subst.f kj6 t409 t410 t411 0 t414 t415 t416).bind fun bt460 => ((term_Shift.f kj6 bt460.1 bt460.2.1 bt460.2.2 t427 0).bind fun bt465 => ((term_Shift.f kj6 t409 t410 t411 t427 1).bind fun bt471 => ((term_Shift.f kj6 t414 t415 t416 t427 0).bind fun bt476 => ((term_Subst.f kj6 bt471.1 bt471.2.1 bt471.2.2 0 bt476.1 bt476.2.1 bt476.2.2).bind fun bt481 => ((thyrsusref4_Same.f kj6 bt438.1 bt438.2.1 bt438.2.2 bt454.1 bt454.2.1 bt454.2.2).bind fun t487 => (if t487 = true then ((thyrsusref4_Same.f kj6 bt465.1 bt465.2.1 bt465.2.2 bt481.1 bt481.2.1 bt481.2.2).bind fun t488 => (some t488)) else (none)))))))))))) = some r := H
          have A43 := Aside0.mk A430
          clear A430
          replace H := Option.bind_eq_some_iff.mp H
          obtain ⟨⟨t438, t439, t440⟩, A440, H⟩ := H
          replace H : ((term_Shift.f kj6 t419 t420 t421 1 0).bind fun bt444 => ((term_Subst.f kj6 t409 t410 t411 1 bt444.1 bt444.2.1 bt444.2.2).bind fun bt449 => ((term_Subst.f kj6 bt449.1 bt449.2.1 bt449.2.2 0 t414 t415 t416).bind fun bt454 => ((term_Subst.f kj6 t409 t410 t411 0 t414 t415 t416).bind fun bt460 => ((term_Shift.f kj6 bt460.1 bt460.2.1 bt460.2.2 t427 0).bind fun bt465 => ((term_Shift.f kj6 t409 t410 t411 t427 1).bind fun bt471 => ((term_Shift.f kj6 t414 t415 t416 t427 0).bind fun bt476 => ((term_Subst.f kj6 bt471.1 bt471.2.1 bt471.2.2 0 bt476.1 bt476.2.1 bt476.2.2).bind fun bt481 => ((thyrsusref4_Same.f kj6 t438 t439 t440 bt454.1 bt454.2.1 bt454.2.2).bind fun t487 => (if t487 = true then ((thyrsusref4_Same.f kj6 bt465.1 bt465.2.1 bt465.2.2 bt481.1 bt481.2.1 bt481.2.2).bind fun t488 => (some t488)) else (none))))))))))) = some r := H
          have A44 := Aside0.mk A440
          clear A440
          replace H := Option.bind_eq_some_iff.mp H
          obtain ⟨⟨t444, t445, t446⟩, A450, H⟩ := H
          replace H : ((term_Subst.f kj6 t409 t410 t411 1 t444 t445 t446).bind fun bt449 => ((term_Subst.f kj6 bt449.1 bt449.2.1 bt449.2.2 0 t414 t415 t416).bind fun bt454 => ((term_Subst.f kj6 t409 t410 t411 0 t414 t415 t416).bind fun bt460 => ((term_Shift.f kj6 bt460.1 bt460.2.1 bt460.2.2 t427 0).bind fun bt465 => ((term_Shift.f kj6 t409 t410 t411 t427 1).bind fun bt471 => ((term_Shift.f kj6 t414 t415 t416 t427 0).bind fun bt476 => ((term_Subst.f kj6 bt471.1 bt471.2.1 bt471.2.2 0 bt476.1 bt476.2.1 bt476.2.2).bind fun bt481 => ((thyrsusref4_Same.f kj6 t438 t439 t440 bt454.1 bt454.2.1 bt454.2.2).bind fun t487 => (if t487 = true then ((thyrsusref4_Same.f kj6 bt465.1 bt465.2.1 bt465.2.2 bt481.1 bt481.2.1 bt481.2.2).bind fun t488 => (some t488)) else (none)))))))))) = some r := H
          have A45 := Aside0.mk A450
          clear A450
          replace H := Option.bind_eq_some_iff.mp H
          obtain ⟨⟨t449, t450, t451⟩, A460, H⟩ := H
          replace H : ((term_Subst.f kj6 t449 t450 t451 0 t414 t415 t416).bind fun bt454 => ((term_Subst.f kj6 t409 t410 t411 0 t414 t415 t416).bind fun bt460 => ((term_Shift.f kj6 bt460.1 bt460.2.1 bt460.2.2 t427 0).bind fun bt465 => ((term_Shift.f kj6 t409 t410 t411 t427 1).bind fun bt471 => ((term_Shift.f kj6 t414 t415 t416 t427 0).bind fun bt476 => ((term_Subst.f kj6 bt471.1 bt471.2.1 bt471.2.2 0 bt476.1 bt476.2.1 bt476.2.2).bind fun bt481 => ((thyrsusref4_Same.f kj6 t438 t439 t440 bt454.1 bt454.2.1 bt454.2.2).bind fun t487 => (if t487 = true then ((thyrsusref4_Same.f kj6 bt465.1 bt465.2.1 bt465.2.2 bt481.1 bt481.2.1 bt481.2.2).bind fun t488 => (some t488)) else (none))))))))) = some r := H
          have A46 := Aside0.mk A460
          clear A460
          replace H := Option.bind_eq_some_iff.mp H
          obtain ⟨⟨t454, t455, t456⟩, A470, H⟩ := H
          replace H : ((term_Subst.f kj6 t409 t410 t411 0 t414 t415 t416).bind fun bt460 => ((term_Shift.f kj6 bt460.1 bt460.2.1 bt460.2.2 t427 0).bind fun bt465 => ((term_Shift.f kj6 t409 t410 t411 t427 1).bind fun bt471 => ((term_Shift.f kj6 t414 t415 t416 t427 0).bind fun bt476 => ((term_Subst.f kj6 bt471.1 bt471.2.1 bt471.2.2 0 bt476.1 bt476.2.1 bt476.2.2).bind fun bt481 => ((thyrsusref4_Same.f kj6 t438 t439 t440 t454 t455 t456).bind fun t487 => (if t487 = true then ((thyrsusref4_Same.f kj6 bt465.1 bt465.2.1 bt465.2.2 bt481.1 bt481.2.1 bt481.2.2).bind fun t488 => (some t488)) else (none)))))))) = some r := H
          have A47 := Aside0.mk A470
          clear A470
          replace H := Option.bind_eq_some_iff.mp H
          obtain ⟨⟨t460, t461, t462⟩, A480, H⟩ := H
          replace H : ((term_Shift.f kj6 t460 t461 t462 t427 0).bind fun bt465 => ((term_Shift.f kj6 t409 t410 t411 t427 1).bind fun bt471 => ((term_Shift.f kj6 t414 t415 t416 t427 0).bind fun bt476 => ((term_Subst.f kj6 bt471.1 bt471.2.1 bt471.2.2 0 bt476.1 bt476.2.1 bt476.2.2).bind fun bt481 => ((thyrsusref4_Same.f kj6 t438 t439 t440 t454 t455 t456).bind fun t487 => (if t487 = true then ((thyrsusref4_Same.f kj6 bt465.1 bt465.2.1 bt465.2.2 bt481.1 bt481.2.1 bt481.2.2).bind fun t488 => (some t488)) else (none))))))) = some r := H
          have A48 := Aside0.mk A480
          clear A480
          replace H := Option.bind_eq_some_iff.mp H
          obtain ⟨⟨t465, t466, t467⟩, A490, H⟩ := H
          replace H : ((term_Shift.f kj6 t409 t410 t411 t427 1).bind fun bt471 => ((term_Shift.f kj6 t414 t415 t416 t427 0).bind fun bt476 => ((term_Subst.f kj6 bt471.1 bt471.2.1 bt471.2.2 0 bt476.1 bt476.2.1 bt476.2.2).bind fun bt481 => ((thyrsusref4_Same.f kj6 t438 t439 t440 t454 t455 t456).bind fun t487 => (if t487 = true then ((thyrsusref4_Same.f kj6 t465 t466 t467 bt481.1 bt481.2.1 bt481.2.2).bind fun t488 => (some t488)) else (none)))))) = some r := H
          have A49 := Aside0.mk A490
          clear A490
          replace H := Option.bind_eq_some_iff.mp H
          obtain ⟨⟨t471, t472, t473⟩, A500, H⟩ := H
          replace H : ((term_Shift.f kj6 t414 t415 t416 t427 0).bind fun bt476 => ((term_Subst.f kj6 t471 t472 t473 0 bt476.1 bt476.2.1 bt476.2.2).bind fun bt481 => ((thyrsusref4_Same.f kj6 t438 t439 t440 t454 t455 t456).bind fun t487 => (if t487 = true then ((thyrsusref4_Same.f kj6 t465 t466 t467 bt481.1 bt481.2.1 bt481.2.2).bind fun t488 => (some t488)) else (none))))) = some r := H
          have A50 := Aside0.mk A500
          clear A500
          replace H := Option.bind_eq_some_iff.mp H
          obtain ⟨⟨t476, t477, t478⟩, A510, H⟩ := H
          replace H : ((term_Subst.f kj6 t471 t472 t473 0 t476 t477 t478).bind fun bt481 => ((thyrsusref4_Same.f kj6 t438 t439 t440 t454 t455 t456).bind fun t487 => (if t487 = true then ((thyrsusref4_Same.f kj6 t465 t466 t467 bt481.1 bt481.2.1 bt481.2.2).bind fun t488 => (some t488)) else (none)))) = some r := H
          have A51 := Aside0.mk A510
          clear A510
          replace H := Option.bind_eq_some_iff.mp H
          obtain ⟨⟨t481, t482, t483⟩, A520, H⟩ := H
          replace H : ((thyrsusref4_Same.f kj6 t438 t439 t440 t454 t455 t456).bind fun t487 => (if t487 = true then ((thyrsusref4_Same.f kj6 t465 t466 t467 t481 t482 t483).bind fun t488 => (some t488)) else (none))) = some r := H
          have A52 := Aside0.mk A520
          clear A520
          replace H := Option.bind_eq_some_iff.mp H
          obtain ⟨t487, A530, H⟩ := H
          replace H : (if t487 = true then ((thyrsusref4_Same.f kj6 t465 t466 t467 t481 t482 t483).bind fun t488 => (some t488)) else (none)) = some r := H
          have A53 := Aside0.mk A530
          clear A530
          by_cases c54 : t487 = true
          · subst c54
            have H1 : ((thyrsusref4_Same.f kj6 t465 t466 t467 t481 t482 t483).bind fun t488 => (some t488)) = some r := by rw [if_pos rfl] at H; exact H
            clear H
            have H := H1
            clear H1
            replace H := Option.bind_eq_some_iff.mp H
            obtain ⟨t488, A550, H⟩ := H
            replace H : (some t488) = some r := H
            have A55 := Aside0.mk A550
            clear A550
            obtain rfl := Option.some.inj H
            try go_wp2
            refine substs_r5 (by rfl) kj6 a0_0 a0_1 A0_2 c0_2 l0_2 gb402 rfl BK402.out (Kd.C_below HR0_2.out HB.out) HC0_2.out a1_0 a1_1 A1_2 c1_2 l1_2 gb403 rfl BK403.out (Kd.C_below HR1_2.out HB.out) HC1_2.out a2_0 a2_1 A2_2 c2_2 l2_2 gb404 rfl BK404.out (Kd.C_below HR2_2.out HB.out) HC2_2.out t409 t410 t411 t414 t415 t416 t419 t420 t421 A38.out A39.out A40.out ?_
            rintro u1 u3 u5 g9 g10 g11 w1 hb _ S6 F6 _ S7 F7 _ S8 F8
            replace HB := Aside0.mk (below_step HB.out hb)
            clear hb BK402 BK403 BK404
            have B9 := Aside0.mk S6
            have T9 := Aside0.mk F6
            clear S6 F6
            have B10 := Aside0.mk S7
            have T10 := Aside0.mk F7
            clear S7 F7
            have B11 := Aside0.mk S8
            have T11 := Aside0.mk F8
            clear S8 F8
            (try simp only [Act.put, List.setIfInBounds_toArray, List.set_cons_zero, List.set_cons_succ])
            go_wp2_with (first | ((with_reducible refine gate_callee (f := 20) rfl ?_); refine goesL_ (some 38) rfl rfl Tryd.func20 (by kernel_rfl) rfl #[.int .i64 a3, .int .i64 4] rfl (by (try simp only [List.map_toArray, List.map_cons, List.map_nil]); first | done | rfl | (simp only [List.length_drop, List.length_take]; rfl)) ?_; refine (within_go a3 4 t427 _ A41.out).mono ?_; rintro e w2 ⟨rfl, hb⟩; refine ⟨_, rfl, ?_⟩; replace B9 := Aside0.mk (blk_below B9.out hb); replace T9 := Aside0.mk (TV.step T9.out hb); replace B10 := Aside0.mk (blk_below B10.out hb); replace T10 := Aside0.mk (TV.step T10.out hb); replace B11 := Aside0.mk (blk_below B11.out hb); replace T11 := Aside0.mk (TV.step T11.out hb); replace HB := Aside0.mk (below_step HB.out hb); clear hb))
            refine substs_r7 (by rfl) kj6 t409 t410 u1 t411 g9 rfl B9.out T9.out t414 t415 u3 t416 g10 rfl B10.out T10.out t419 t420 u5 t421 g11 rfl B11.out T11.out  t428 t429 t430 t433 t434 t435 t438 t439 t440 A42.out A43.out A44.out ?_
            rintro m2 m3 m5 g12 w3 hb _ S_ F_
            replace B9 := Aside0.mk (blk_below B9.out hb)
            replace T9 := Aside0.mk (TV.step T9.out hb)
            replace B10 := Aside0.mk (blk_below B10.out hb)
            replace T10 := Aside0.mk (TV.step T10.out hb)
            replace B11 := Aside0.mk (blk_below B11.out hb)
            replace T11 := Aside0.mk (TV.step T11.out hb)
            replace HB := Aside0.mk (below_step HB.out hb)
            clear hb
            have B12 := Aside0.mk S_
            have T12 := Aside0.mk F_
            clear S_ F_
            (try simp only [Act.put, List.setIfInBounds_toArray, List.set_cons_zero, List.set_cons_succ])
            try go_wp2
            refine substs_r8 (by rfl) kj6 t409 t410 u1 t411 g9 rfl B9.out T9.out t414 t415 u3 t416 g10 rfl B10.out T10.out t419 t420 u5 t421 g11 rfl B11.out T11.out  t444 t445 t446 t449 t450 t451 t454 t455 t456 A45.out A46.out A47.out ?_
            rintro n2 n3 n5 g13 w4 hb _ S_ F_
            replace B9 := Aside0.mk (blk_below B9.out hb)
            replace T9 := Aside0.mk (TV.step T9.out hb)
            replace B10 := Aside0.mk (blk_below B10.out hb)
            replace T10 := Aside0.mk (TV.step T10.out hb)
            replace B11 := Aside0.mk (blk_below B11.out hb)
            replace T11 := Aside0.mk (TV.step T11.out hb)
            replace B12 := Aside0.mk (blk_below B12.out hb)
            replace T12 := Aside0.mk (TV.step T12.out hb)
            replace HB := Aside0.mk (below_step HB.out hb)
            clear hb
            have B13 := Aside0.mk S_
            have T13 := Aside0.mk F_
            clear S_ F_
            (try simp only [Act.put, List.setIfInBounds_toArray, List.set_cons_zero, List.set_cons_succ])
            have hc9_0 : (w4 : World).cell? ⟨g9, 0, none⟩ = some (.int .i64 t409) := (blk_cell B9.out 0).trans rfl
            have hc9_1 : (w4 : World).cell? ⟨g9, 1, none⟩ = some (.int .i64 t410) := (blk_cell B9.out 1).trans rfl
            have hc9_2 : (w4 : World).cell? ⟨g9, 2, none⟩ = some (u1) := (blk_cell B9.out 2).trans rfl
            have hcf9_0 := blk_frozen B9.out 0
            have hcf9_1 := blk_frozen B9.out 1
            have hcf9_2 := blk_frozen B9.out 2
            have hc10_0 : (w4 : World).cell? ⟨g10, 0, none⟩ = some (.int .i64 t414) := (blk_cell B10.out 0).trans rfl
            have hc10_1 : (w4 : World).cell? ⟨g10, 1, none⟩ = some (.int .i64 t415) := (blk_cell B10.out 1).trans rfl
            have hc10_2 : (w4 : World).cell? ⟨g10, 2, none⟩ = some (u3) := (blk_cell B10.out 2).trans rfl
            have hcf10_0 := blk_frozen B10.out 0
            have hcf10_1 := blk_frozen B10.out 1
            have hcf10_2 := blk_frozen B10.out 2
            go_wp2_with (first | ((with_reducible refine gate_callee (f := 22) rfl ?_); refine goesL_ (some 53) rfl rfl Tryd.func22 (by kernel_rfl) rfl #[.agg #[.int .i64 t409, .int .i64 t410, u1], .int .i64 0, .agg #[.int .i64 t414, .int .i64 t415, u3]] rfl (by (try simp only [List.map_toArray, List.map_cons, List.map_nil]); first | done | rfl | (simp only [List.length_drop, List.length_take]; rfl)) ?_; refine (subst_go kj6 t409 t410 u1 t411 0 t414 t415 u3 t416 t460 t461 t462 _ (fun _ => False) (fun _ h => h.elim) T9.out T10.out A48.out).mono ?_; rintro e w5 ⟨v91, rfl, F_, hb⟩; refine ⟨_, rfl, ?_⟩; replace B9 := Aside0.mk (blk_below B9.out hb); replace T9 := Aside0.mk (TV.step T9.out hb); replace B10 := Aside0.mk (blk_below B10.out hb); replace T10 := Aside0.mk (TV.step T10.out hb); replace B11 := Aside0.mk (blk_below B11.out hb); replace T11 := Aside0.mk (TV.step T11.out hb); replace B12 := Aside0.mk (blk_below B12.out hb); replace T12 := Aside0.mk (TV.step T12.out hb); replace B13 := Aside0.mk (blk_below B13.out hb); replace T13 := Aside0.mk (TV.step T13.out hb); replace HB := Aside0.mk (below_step HB.out hb); clear hb; have T91 := Aside0.mk F_; clear F_) | ((with_reducible refine gate_callee (f := 23) rfl ?_); refine goesL_ (some 55) rfl rfl Tryd.func23 (by kernel_rfl) rfl #[.agg #[.int .i64 t460, .int .i64 t461, v91], .int .i64 t427, .int .i64 0] rfl (by (try simp only [List.map_toArray, List.map_cons, List.map_nil]); first | done | rfl | (simp only [List.length_drop, List.length_take]; rfl)) ?_; refine (shift_go kj6 t460 t461 v91 t462 t427 0 t465 t466 t467 _ (fun _ => False) (fun _ h => h.elim) T91.out A49.out).mono ?_; rintro e w6 ⟨v92, rfl, F_, hb⟩; refine ⟨_, rfl, ?_⟩; replace B9 := Aside0.mk (blk_below B9.out hb); replace T9 := Aside0.mk (TV.step T9.out hb); replace B10 := Aside0.mk (blk_below B10.out hb); replace T10 := Aside0.mk (TV.step T10.out hb); replace B11 := Aside0.mk (blk_below B11.out hb); replace T11 := Aside0.mk (TV.step T11.out hb); replace B12 := Aside0.mk (blk_below B12.out hb); replace T12 := Aside0.mk (TV.step T12.out hb); replace B13 := Aside0.mk (blk_below B13.out hb); replace T13 := Aside0.mk (TV.step T13.out hb); replace T91 := Aside0.mk (TV.step T91.out hb); replace HB := Aside0.mk (below_step HB.out hb); clear hb; have T92 := Aside0.mk F_; clear F_) | ((with_reducible refine gate_dst (N := 14) rfl ?_); refine box_event ?hg (N := 14) ?hd (cs := #[.int .i64 0, .int .i64 0, .slice none 0 0]) (t := 29) ?hr ?_; (case hd => rfl); (case hg => rfl); (case hr => first | (go_simp; done) | (go_simp; rfl)); intro g14 hg w7 hbox hb; have T92g := Aside0.mk (TV.below (G' := fun k_ => k_ = g14) T92.out hb (fun k_ h_ => .inr (by rw [h_, hg]; exact Nat.le_refl _))); have hge := Aside0.mk (show w.heap.size ≤ g14 by rw [hg]; exact below_size HB.out); have NE9 := Aside0.mk (show g9 ≠ g14 by rw [hg]; exact Nat.ne_of_lt (blk_lt B9.out)); have NE10 := Aside0.mk (show g10 ≠ g14 by rw [hg]; exact Nat.ne_of_lt (blk_lt B10.out)); have NE11 := Aside0.mk (show g11 ≠ g14 by rw [hg]; exact Nat.ne_of_lt (blk_lt B11.out)); have NE12 := Aside0.mk (show g12 ≠ g14 by rw [hg]; exact Nat.ne_of_lt (blk_lt B12.out)); have NE13 := Aside0.mk (show g13 ≠ g14 by rw [hg]; exact Nat.ne_of_lt (blk_lt B13.out)); replace T9 := Aside0.mk (TV.below (G' := fun k_ => k_ = g14) T9.out hb (fun k_ h_ => .inr (by rw [h_, hg]; exact Nat.le_refl _))); replace T10 := Aside0.mk (TV.below (G' := fun k_ => k_ = g14) T10.out hb (fun k_ h_ => .inr (by rw [h_, hg]; exact Nat.le_refl _))); replace T11 := Aside0.mk (TV.below (G' := fun k_ => k_ = g14) T11.out hb (fun k_ h_ => .inr (by rw [h_, hg]; exact Nat.le_refl _))); replace T12 := Aside0.mk (TV.below (G' := fun k_ => k_ = g14) T12.out hb (fun k_ h_ => .inr (by rw [h_, hg]; exact Nat.le_refl _))); replace T13 := Aside0.mk (TV.below (G' := fun k_ => k_ = g14) T13.out hb (fun k_ h_ => .inr (by rw [h_, hg]; exact Nat.le_refl _))); replace T91 := Aside0.mk (TV.below (G' := fun k_ => k_ = g14) T91.out hb (fun k_ h_ => .inr (by rw [h_, hg]; exact Nat.le_refl _))); replace B9 := Aside0.mk (blk_below B9.out hb); replace B10 := Aside0.mk (blk_below B10.out hb); replace B11 := Aside0.mk (blk_below B11.out hb); replace B12 := Aside0.mk (blk_below B12.out hb); replace B13 := Aside0.mk (blk_below B13.out hb); replace HB := Aside0.mk (below_step HB.out hb); have B14 := Aside0.mk hbox; clear hb hbox hg T92; obtain ⟨As_, cs_, hu_⟩ := Kd.V_slice T92g.out; subst hu_; have hs_0 : (w7 : World).cell? ⟨g14, 0, none⟩ = some (.int .i64 0) := (blk_cell B14.out 0).trans rfl; have hs_1 : (w7 : World).cell? ⟨g14, 1, none⟩ = some (.int .i64 0) := (blk_cell B14.out 1).trans rfl; have hs_2 : (w7 : World).cell? ⟨g14, 2, none⟩ = some (.slice none 0 0) := (blk_cell B14.out 2).trans rfl; have hsf_0 := blk_frozen B14.out 0; have hsf_1 := blk_frozen B14.out 1; have hsf_2 := blk_frozen B14.out 2) | ((with_reducible refine gate_store (t := 29) (p := 14) rfl ?_); refine store_event (t := 29) (p := 14) (v := ?vo) (w1 := (((w7.setCell ⟨g14, 0, none⟩ (.int .i64 t465)).setCell ⟨g14, 1, none⟩ (.int .i64 t466)).setCell ⟨g14, 2, none⟩ (.slice As_ t467.length cs_))) ?hg ?ho ?hn ?hr ?_; (case ho => rfl); (case hg => rfl); (case hn => rfl); (case hr => first | (go_simp; done) | (go_simp; rfl)); intro w8 hw; replace T9 : Aside0 (TV w8 (fun _ => False) _ _) := ⟨hw ▸ (TV.set3 T9.out rfl (.int .i64 t465) (.int .i64 t466) (.slice As_ t467.length cs_)).free⟩; replace T10 : Aside0 (TV w8 (fun _ => False) _ _) := ⟨hw ▸ (TV.set3 T10.out rfl (.int .i64 t465) (.int .i64 t466) (.slice As_ t467.length cs_)).free⟩; replace T11 : Aside0 (TV w8 (fun _ => False) _ _) := ⟨hw ▸ (TV.set3 T11.out rfl (.int .i64 t465) (.int .i64 t466) (.slice As_ t467.length cs_)).free⟩; replace T12 : Aside0 (TV w8 (fun _ => False) _ _) := ⟨hw ▸ (TV.set3 T12.out rfl (.int .i64 t465) (.int .i64 t466) (.slice As_ t467.length cs_)).free⟩; replace T13 : Aside0 (TV w8 (fun _ => False) _ _) := ⟨hw ▸ (TV.set3 T13.out rfl (.int .i64 t465) (.int .i64 t466) (.slice As_ t467.length cs_)).free⟩; replace T91 : Aside0 (TV w8 (fun _ => False) _ _) := ⟨hw ▸ (TV.set3 T91.out rfl (.int .i64 t465) (.int .i64 t466) (.slice As_ t467.length cs_)).free⟩; replace T92g : Aside0 (TV w8 (fun _ => False) _ _) := ⟨hw ▸ (TV.set3 T92g.out rfl (.int .i64 t465) (.int .i64 t466) (.slice As_ t467.length cs_)).free⟩; replace B9 : Aside0 (w8.heap[g9]? = _) := ⟨hw ▸ blk_far3 B9.out NE9.out (.int .i64 t465) (.int .i64 t466) (.slice As_ t467.length cs_)⟩; replace B10 : Aside0 (w8.heap[g10]? = _) := ⟨hw ▸ blk_far3 B10.out NE10.out (.int .i64 t465) (.int .i64 t466) (.slice As_ t467.length cs_)⟩; replace B11 : Aside0 (w8.heap[g11]? = _) := ⟨hw ▸ blk_far3 B11.out NE11.out (.int .i64 t465) (.int .i64 t466) (.slice As_ t467.length cs_)⟩; replace B12 : Aside0 (w8.heap[g12]? = _) := ⟨hw ▸ blk_far3 B12.out NE12.out (.int .i64 t465) (.int .i64 t466) (.slice As_ t467.length cs_)⟩; replace B13 : Aside0 (w8.heap[g13]? = _) := ⟨hw ▸ blk_far3 B13.out NE13.out (.int .i64 t465) (.int .i64 t466) (.slice As_ t467.length cs_)⟩; replace B14 : Aside0 (w8.heap[g14]? = _) := ⟨hw ▸ blk_set3 B14.out rfl (.int .i64 t465) (.int .i64 t466) (.slice As_ t467.length cs_)⟩; replace HB : Aside0 (Below w.heap.size w w8) := ⟨hw ▸ below_set3 HB.out hge.out (.int .i64 t465) (.int .i64 t466) (.slice As_ t467.length cs_)⟩; clear hw))
            clear T91
            have T14 := T92g
            clear T92g
            refine substs_r10 (by rfl) kj6 t409 t410 u1 t411 g9 rfl B9.out T9.out t414 t415 u3 t416 g10 rfl B10.out T10.out t427 rfl t471 t472 t473 t476 t477 t478 t481 t482 t483 A50.out A51.out A52.out ?_
            rintro q2 q5 q6 g15 w9 hb _ S_ F_
            replace B9 := Aside0.mk (blk_below B9.out hb)
            replace T9 := Aside0.mk (TV.step T9.out hb)
            replace B10 := Aside0.mk (blk_below B10.out hb)
            replace T10 := Aside0.mk (TV.step T10.out hb)
            replace B11 := Aside0.mk (blk_below B11.out hb)
            replace T11 := Aside0.mk (TV.step T11.out hb)
            replace B12 := Aside0.mk (blk_below B12.out hb)
            replace T12 := Aside0.mk (TV.step T12.out hb)
            replace B13 := Aside0.mk (blk_below B13.out hb)
            replace T13 := Aside0.mk (TV.step T13.out hb)
            replace B14 := Aside0.mk (blk_below B14.out hb)
            replace T14 := Aside0.mk (TV.step T14.out hb)
            replace HB := Aside0.mk (below_step HB.out hb)
            clear hb
            have B15 := Aside0.mk S_
            have T15 := Aside0.mk F_
            clear S_ F_
            (try simp only [Act.put, List.setIfInBounds_toArray, List.set_cons_zero, List.set_cons_succ])
            have hd12_0 : (w9 : World).cell? ⟨g12, 0, none⟩ = some (.int .i64 t438) := (blk_cell B12.out 0).trans rfl
            have hd12_1 : (w9 : World).cell? ⟨g12, 1, none⟩ = some (.int .i64 t439) := (blk_cell B12.out 1).trans rfl
            have hd12_2 : (w9 : World).cell? ⟨g12, 2, none⟩ = some (m5) := (blk_cell B12.out 2).trans rfl
            have hdf12_0 := blk_frozen B12.out 0
            have hdf12_1 := blk_frozen B12.out 1
            have hdf12_2 := blk_frozen B12.out 2
            have hd13_0 : (w9 : World).cell? ⟨g13, 0, none⟩ = some (.int .i64 t454) := (blk_cell B13.out 0).trans rfl
            have hd13_1 : (w9 : World).cell? ⟨g13, 1, none⟩ = some (.int .i64 t455) := (blk_cell B13.out 1).trans rfl
            have hd13_2 : (w9 : World).cell? ⟨g13, 2, none⟩ = some (n5) := (blk_cell B13.out 2).trans rfl
            have hdf13_0 := blk_frozen B13.out 0
            have hdf13_1 := blk_frozen B13.out 1
            have hdf13_2 := blk_frozen B13.out 2
            go_wp2_with (first | ((with_reducible refine gate_callee (f := 18) rfl ?_); refine goesL_ (some 65) rfl rfl Tryd.func18 (by kernel_rfl) rfl #[.agg #[.int .i64 t438, .int .i64 t439, m5], .agg #[.int .i64 t454, .int .i64 t455, n5]] rfl (by (try simp only [List.map_toArray, List.map_cons, List.map_nil]); first | done | rfl | (simp only [List.length_drop, List.length_take]; rfl)) ?_; refine (same_go kj6 t438 t439 m5 t440 t454 t455 n5 t456 true _ T12.out T13.out A53.out).mono ?_; rintro e w10 ⟨rfl, hb⟩; refine ⟨_, rfl, ?_⟩; replace B9 := Aside0.mk (blk_below B9.out hb); replace T9 := Aside0.mk (TV.step T9.out hb); replace B10 := Aside0.mk (blk_below B10.out hb); replace T10 := Aside0.mk (TV.step T10.out hb); replace B11 := Aside0.mk (blk_below B11.out hb); replace T11 := Aside0.mk (TV.step T11.out hb); replace B12 := Aside0.mk (blk_below B12.out hb); replace T12 := Aside0.mk (TV.step T12.out hb); replace B13 := Aside0.mk (blk_below B13.out hb); replace T13 := Aside0.mk (TV.step T13.out hb); replace B14 := Aside0.mk (blk_below B14.out hb); replace T14 := Aside0.mk (TV.step T14.out hb); replace B15 := Aside0.mk (blk_below B15.out hb); replace T15 := Aside0.mk (TV.step T15.out hb); replace HB := Aside0.mk (below_step HB.out hb); clear hb; have hd14_0 : (w10 : World).cell? ⟨g14, 0, none⟩ = some (.int .i64 t465) := (blk_cell B14.out 0).trans rfl; have hd14_1 : (w10 : World).cell? ⟨g14, 1, none⟩ = some (.int .i64 t466) := (blk_cell B14.out 1).trans rfl; have hd14_2 : (w10 : World).cell? ⟨g14, 2, none⟩ = some ((.slice As_ t467.length cs_)) := (blk_cell B14.out 2).trans rfl; have hdf14_0 := blk_frozen B14.out 0; have hdf14_1 := blk_frozen B14.out 1; have hdf14_2 := blk_frozen B14.out 2; have hd15_0 : (w10 : World).cell? ⟨g15, 0, none⟩ = some (.int .i64 t481) := (blk_cell B15.out 0).trans rfl; have hd15_1 : (w10 : World).cell? ⟨g15, 1, none⟩ = some (.int .i64 t482) := (blk_cell B15.out 1).trans rfl; have hd15_2 : (w10 : World).cell? ⟨g15, 2, none⟩ = some (q6) := (blk_cell B15.out 2).trans rfl; have hdf15_0 := blk_frozen B15.out 0; have hdf15_1 := blk_frozen B15.out 1; have hdf15_2 := blk_frozen B15.out 2) | (go_at_call 18; refine (same_go kj6 t465 t466 (.slice As_ t467.length cs_) t467 t481 t482 q6 t483 _ _ T14.out T15.out A55.out).mono ?_; rintro e w11 ⟨rfl, hb⟩; replace B9 := Aside0.mk (blk_below B9.out hb); replace T9 := Aside0.mk (TV.step T9.out hb); replace B10 := Aside0.mk (blk_below B10.out hb); replace T10 := Aside0.mk (TV.step T10.out hb); replace B11 := Aside0.mk (blk_below B11.out hb); replace T11 := Aside0.mk (TV.step T11.out hb); replace B12 := Aside0.mk (blk_below B12.out hb); replace T12 := Aside0.mk (TV.step T12.out hb); replace B13 := Aside0.mk (blk_below B13.out hb); replace T13 := Aside0.mk (TV.step T13.out hb); replace B14 := Aside0.mk (blk_below B14.out hb); replace T14 := Aside0.mk (TV.step T14.out hb); replace B15 := Aside0.mk (blk_below B15.out hb); replace T15 := Aside0.mk (TV.step T15.out hb); replace HB := Aside0.mk (below_step HB.out hb); clear hb))
            go_ret
            exact ⟨by first | rfl | (simp [errW_none, errW_some] <;> rfl) | (simp [*, errW_none, errW_some] <;> rfl), HB.out⟩
          · replace c54 := Bool.eq_false_iff.mpr c54
            subst c54
            have H1 : (none) = some r := by rw [if_neg (show ¬ (false = true) by decide)] at H; exact H
            exact absurd H1 (by simp)
  · replace c6 := Bool.eq_false_iff.mpr c6
    subst c6
    have H1 : (none) = some r := by rw [if_neg (show ¬ (false = true) by decide)] at H; exact H
    exact absurd H1 (by simp)
end Go.Proofs.YtcchfblekaaalaaDoor.P
