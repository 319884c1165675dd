/- TermClosed, the plain law: where a variable is not free what is put in does not count; of a term without free ones nothing does. -/
import Derived.Test.YtcchfblekaaalaaDoorMake2
import Derived.Test.YtcchfblekaaalaaDoorCloR
import Derived.Test.YtcchfblekaaalaaDoorQx1
import Derived.Test.YtcchfblekaaalaaDoorPx1
section
namespace Go.Proofs.YtcchfblekaaalaaDoor.P
open Go.RowKit Go.Proofs.YtcchfblekaaalaaDoorW.PrintWords Go.Proofs.YtcchfblekaaalaaDoorW.PrintLast Go.Proofs.YtcchfblekaaalaaDoorW.PrintMore
set_option linter.unusedVariables false
set_option linter.unusedSimpArgs false
theorem within_go (a n t : Int) (w : World) (h : thyrsuslaw4_within.f a n = some t) : Calls Tryd.prog 20 #[.int .i64 a, .int .i64 n] w fun e w' => e = .returned (.int .i64 t) ∧ Below w.heap.size w w' :=
  (thyrsuslaw4_within.calls a n t w h).mono fun e w' ⟨he, nd, hd⟩ => ⟨he, hd ▸ pw_below_drewN (Below.refl _ _) nd⟩
attribute [local go_sem] max2_int min2_int max_two min_two max_three min_three max_four min_four
set_option maxHeartbeats 8000000 in
set_option maxRecDepth 100000 in
theorem thyrsuslaw4_TermClosed.calls (k : Nat) (a0_0 : Int) (a0_1 : Int) (A0_2 : Option Addr) (c0_2 : Nat) (l0_2 : List (S24)) (a1_0 : Int) (a1_1 : Int) (A1_2 : Option Addr) (c1_2 : Nat) (l1_2 : List (S24)) (a2_0 : Int) (a2_1 : Int) (A2_2 : Option Addr) (c2_2 : Nat) (l2_2 : List (S24)) (a3 : Int) (r : Bool) (w : World) (hr0_2 : Kd.C k24 w A0_2 l0_2.length l0_2) (hc0_2 : l0_2.length ≤ c0_2) (hr1_2 : Kd.C k24 w A1_2 l1_2.length l1_2) (hc1_2 : l1_2.length ≤ c1_2) (hr2_2 : Kd.C k24 w A2_2 l2_2.length l2_2) (hc2_2 : l2_2.length ≤ c2_2) (h : thyrsuslaw4_TermClosed.f k a0_0 a0_1 l0_2 a1_0 a1_1 l1_2 a2_0 a2_1 l2_2 a3 = some r) :
    Calls Tryd.prog 12 #[.agg #[.int .i64 a0_0, .int .i64 a0_1, .slice A0_2 l0_2.length c0_2], .agg #[.int .i64 a1_0, .int .i64 a1_1, .slice A1_2 l1_2.length c1_2], .agg #[.int .i64 a2_0, .int .i64 a2_1, .slice A2_2 l2_2.length c2_2], .int .i64 a3] w fun e w' => e = .returned (.bool r) ∧ Below w.heap.size w w' := by
  have hu24 := Tryd.underlying24
  have hu29 := Tryd.underlying29
  have HR0_2 := Aside0.mk hr0_2
  have HC0_2 := Aside0.mk hc0_2
  clear hr0_2 hc0_2
  have HR1_2 := Aside0.mk hr1_2
  have HC1_2 := Aside0.mk hc1_2
  clear hr1_2 hc1_2
  have HR2_2 := Aside0.mk hr2_2
  have HC2_2 := Aside0.mk hc2_2
  clear hr2_2 hc2_2
  have HB := Aside0.mk (Below.refl w.heap.size w)
  have H : ((thyrsuslaw4_known.f k).bind fun t354 => (if t354 = true then ((thyrsuslaw1_Few.f k a0_0 a0_1 l0_2).bind fun t355 => (if t355 = true then ((thyrsuslaw1_Few.f k a1_0 a1_1 l1_2).bind fun t356 => (if t356 = true then ((thyrsuslaw1_Few.f k a2_0 a2_1 l2_2).bind fun t357 => (thyrsuslaw4_TermClosed.j0 k a3 (!t357) a0_0 a0_1 l0_2 a1_0 a1_1 l1_2 a2_0 a2_1 l2_2)) else (thyrsuslaw4_TermClosed.j0 k a3 true a0_0 a0_1 l0_2 a1_0 a1_1 l1_2 a2_0 a2_1 l2_2))) else (thyrsuslaw4_TermClosed.j0 k a3 true a0_0 a0_1 l0_2 a1_0 a1_1 l1_2 a2_0 a2_1 l2_2))) else (none))) = some r := h
  clear h
  replace H := Option.bind_eq_some_iff.mp H
  obtain ⟨t354, A50, H⟩ := H
  replace H : (if t354 = true then ((thyrsuslaw1_Few.f k a0_0 a0_1 l0_2).bind fun t355 => (if t355 = true then ((thyrsuslaw1_Few.f k a1_0 a1_1 l1_2).bind fun t356 => (if t356 = true then ((thyrsuslaw1_Few.f k a2_0 a2_1 l2_2).bind fun t357 => (thyrsuslaw4_TermClosed.j0 k a3 (!t357) a0_0 a0_1 l0_2 a1_0 a1_1 l1_2 a2_0 a2_1 l2_2)) else (thyrsuslaw4_TermClosed.j0 k a3 true a0_0 a0_1 l0_2 a1_0 a1_1 l1_2 a2_0 a2_1 l2_2))) else (thyrsuslaw4_TermClosed.j0 k a3 true a0_0 a0_1 l0_2 a1_0 a1_1 l1_2 a2_0 a2_1 l2_2))) else (none)) = some r := H
  have A5 := Aside0.mk A50
  clear A50
  by_cases c6 : t354 = true
  · subst c6
    have H1 : ((thyrsuslaw1_Few.f k a0_0 a0_1 l0_2).bind fun t355 => (if t355 = true then ((thyrsuslaw1_Few.f k a1_0 a1_1 l1_2).bind fun t356 => (if t356 = true then ((thyrsuslaw1_Few.f k a2_0 a2_1 l2_2).bind fun t357 => (thyrsuslaw4_TermClosed.j0 k a3 (!t357) a0_0 a0_1 l0_2 a1_0 a1_1 l1_2 a2_0 a2_1 l2_2)) else (thyrsuslaw4_TermClosed.j0 k a3 true a0_0 a0_1 l0_2 a1_0 a1_1 l1_2 a2_0 a2_1 l2_2))) else (thyrsuslaw4_TermClosed.j0 k a3 true a0_0 a0_1 l0_2 a1_0 a1_1 l1_2 a2_0 a2_1 l2_2))) = some r := by rw [if_pos rfl] at H; exact H
    clear H
    have H := H1
    clear H1
    have HC7 := Aside0.mk H
    clear H
    go_enter Tryd.func12, Tryd.ntmps12
    go_upto_region 3 with (first | ((with_reducible refine gate_dst (N := 4) rfl ?_); refine box_event ?hg (N := 4) ?hd (cs := #[.int .i64 a0_0, .int .i64 a0_1, .slice A0_2 l0_2.length c0_2]) (t := 24) ?hr ?_; (case hd => rfl); (case hg => rfl); (case hr => first | (go_simp; done) | (go_simp; rfl)); intro gb351 hg w8 hbox hb; have n0_ := Aside0.mk (below_step (by repeat (first | (with_reducible first | exact HB.out | apply below_alloc | apply pw_below_drewN | apply below_drew1) | exact HB.out)) hb); have n1_ := Aside0.mk (hbox); have n2_ := Aside0.mk ((by rw [hg]; exact (below_size (by repeat (first | (with_reducible first | exact HB.out | apply below_alloc | apply pw_below_drewN | apply below_drew1) | exact HB.out))) : w.heap.size ≤ gb351)); have n3_ := Aside0.mk ((by rw [hg]; exact (below_size (by repeat (first | (with_reducible first | exact HB.out | apply below_alloc | apply pw_below_drewN | apply below_drew1) | exact HB.out))) : w.heap.size ≤ gb351)); clear HB; have HB := n0_; have BK351 := n1_; have GW351 := n2_; have GE351 := n3_; clear n0_ n1_ n2_ n3_; clear hb hbox hg) | ((with_reducible refine gate_dst (N := 5) rfl ?_); refine box_event ?hg (N := 5) ?hd (cs := #[.int .i64 a1_0, .int .i64 a1_1, .slice A1_2 l1_2.length c1_2]) (t := 24) ?hr ?_; (case hd => rfl); (case hg => rfl); (case hr => first | (go_simp; done) | (go_simp; rfl)); intro gb352 hg w9 hbox hb; have n0_ := Aside0.mk (blk_below (g := gb351) (o := .cells #[.int .i64 a0_0, .int .i64 a0_1, .slice A0_2 l0_2.length c0_2] 24 (0, 0)) (by (with_reducible repeat (first | refine blk_drewN ?_ _ | refine blk_drew ?_ | refine blk_alloc ?_ _)); exact BK351.out) hb); have n1_ := Aside0.mk (below_step (by repeat (first | (with_reducible first | exact HB.out | apply below_alloc | apply pw_below_drewN | apply below_drew1 | refine below_set ?_ GE351.out) | exact HB.out)) hb); have n2_ := Aside0.mk (hbox); have n3_ := Aside0.mk ((by rw [hg]; exact (below_size (by repeat (first | (with_reducible first | exact HB.out | apply below_alloc | apply pw_below_drewN | apply below_drew1 | refine below_set ?_ GE351.out) | exact HB.out))) : w.heap.size ≤ gb352)); have n4_ := Aside0.mk ((by rw [hg]; exact (below_size (by repeat (first | (with_reducible first | exact HB.out | apply below_alloc | apply pw_below_drewN | apply below_drew1 | refine below_set ?_ GE351.out) | exact HB.out))) : w.heap.size ≤ gb352)); have n5_ := Aside0.mk ((by rw [hg]; exact Nat.ne_of_lt (blk_lt (g := gb351) (o := .cells #[.int .i64 a0_0, .int .i64 a0_1, .slice A0_2 l0_2.length c0_2] 24 (0, 0)) (by (with_reducible repeat (first | refine blk_drewN ?_ _ | refine blk_drew ?_ | refine blk_alloc ?_ _)); exact BK351.out)) : gb351 ≠ gb352)); have n6_ := Aside0.mk ((by rw [hg]; exact Nat.ne_of_gt (blk_lt (g := gb351) (o := .cells #[.int .i64 a0_0, .int .i64 a0_1, .slice A0_2 l0_2.length c0_2] 24 (0, 0)) (by (with_reducible repeat (first | refine blk_drewN ?_ _ | refine blk_drew ?_ | refine blk_alloc ?_ _)); exact BK351.out)) : gb352 ≠ gb351)); clear BK351; clear HB; have BK351 := n0_; have HB := n1_; have BK352 := n2_; have GW352 := n3_; have GE352 := n4_; have NB351_352 := n5_; have NB352_351 := n6_; clear n0_ n1_ n2_ n3_ n4_ n5_ n6_; clear hb hbox hg) | ((with_reducible refine gate_dst (N := 6) rfl ?_); refine box_event ?hg (N := 6) ?hd (cs := #[.int .i64 a2_0, .int .i64 a2_1, .slice A2_2 l2_2.length c2_2]) (t := 24) ?hr ?_; (case hd => rfl); (case hg => rfl); (case hr => first | (go_simp; done) | (go_simp; rfl)); intro gb353 hg w10 hbox hb; have n0_ := Aside0.mk (blk_below (g := gb351) (o := .cells #[.int .i64 a0_0, .int .i64 a0_1, .slice A0_2 l0_2.length c0_2] 24 (0, 0)) (by (with_reducible repeat (first | refine blk_drewN ?_ _ | refine blk_drew ?_ | refine blk_alloc ?_ _)); exact BK351.out) hb); have n1_ := Aside0.mk (blk_below (g := gb352) (o := .cells #[.int .i64 a1_0, .int .i64 a1_1, .slice A1_2 l1_2.length c1_2] 24 (0, 0)) (by (with_reducible repeat (first | refine blk_drewN ?_ _ | refine blk_drew ?_ | refine blk_alloc ?_ _)); exact BK352.out) hb); have n2_ := Aside0.mk (below_step (by repeat (first | (with_reducible first | exact HB.out | apply below_alloc | apply pw_below_drewN | apply below_drew1 | refine below_set ?_ GE351.out | refine below_set ?_ GE352.out) | exact HB.out)) hb); have n3_ := Aside0.mk (hbox); have n4_ := Aside0.mk ((by rw [hg]; exact (below_size (by repeat (first | (with_reducible first | exact HB.out | apply below_alloc | apply pw_below_drewN | apply below_drew1 | refine below_set ?_ GE351.out | refine below_set ?_ GE352.out) | exact HB.out))) : w.heap.size ≤ gb353)); have n5_ := Aside0.mk ((by rw [hg]; exact (below_size (by repeat (first | (with_reducible first | exact HB.out | apply below_alloc | apply pw_below_drewN | apply below_drew1 | refine below_set ?_ GE351.out | refine below_set ?_ GE352.out) | exact HB.out))) : w.heap.size ≤ gb353)); have n6_ := Aside0.mk ((by rw [hg]; exact Nat.ne_of_lt (blk_lt (g := gb351) (o := .cells #[.int .i64 a0_0, .int .i64 a0_1, .slice A0_2 l0_2.length c0_2] 24 (0, 0)) (by (with_reducible repeat (first | refine blk_drewN ?_ _ | refine blk_drew ?_ | refine blk_alloc ?_ _)); exact BK351.out)) : gb351 ≠ gb353)); have n7_ := Aside0.mk ((by rw [hg]; exact Nat.ne_of_gt (blk_lt (g := gb351) (o := .cells #[.int .i64 a0_0, .int .i64 a0_1, .slice A0_2 l0_2.length c0_2] 24 (0, 0)) (by (with_reducible repeat (first | refine blk_drewN ?_ _ | refine blk_drew ?_ | refine blk_alloc ?_ _)); exact BK351.out)) : gb353 ≠ gb351)); have n8_ := Aside0.mk ((by rw [hg]; exact Nat.ne_of_lt (blk_lt (g := gb352) (o := .cells #[.int .i64 a1_0, .int .i64 a1_1, .slice A1_2 l1_2.length c1_2] 24 (0, 0)) (by (with_reducible repeat (first | refine blk_drewN ?_ _ | refine blk_drew ?_ | refine blk_alloc ?_ _)); exact BK352.out)) : gb352 ≠ gb353)); have n9_ := Aside0.mk ((by rw [hg]; exact Nat.ne_of_gt (blk_lt (g := gb352) (o := .cells #[.int .i64 a1_0, .int .i64 a1_1, .slice A1_2 l1_2.length c1_2] 24 (0, 0)) (by (with_reducible repeat (first | refine blk_drewN ?_ _ | refine blk_drew ?_ | refine blk_alloc ?_ _)); exact BK352.out)) : gb353 ≠ gb352)); clear BK351; clear BK352; clear HB; have BK351 := n0_; have BK352 := n1_; have HB := n2_; have BK353 := n3_; have GW353 := n4_; have GE353 := n5_; have NB351_353 := n6_; have NB353_351 := n7_; have NB352_353 := n8_; have NB353_352 := n9_; clear n0_ n1_ n2_ n3_ n4_ n5_ n6_ n7_ n8_ n9_; clear hb hbox hg) | ((with_reducible refine gate_callee (f := 14) rfl ?_); refine goesL_ (some 12) rfl rfl Tryd.func14 (by kernel_rfl) rfl #[] rfl (by (try simp only [List.map_toArray, List.map_cons, List.map_nil]); first | done | rfl | (simp only [List.length_drop, List.length_take]; rfl)) ?_; (with_reducible refine (thyrsuslaw4_known.calls k  true _ A5.out).mono ?_); rintro e w11 ⟨rfl, hb⟩; refine ⟨_, rfl, ?_⟩; have n0_ := Aside0.mk (blk_below (g := gb351) (o := .cells #[.int .i64 a0_0, .int .i64 a0_1, .slice A0_2 l0_2.length c0_2] 24 (0, 0)) (by (with_reducible repeat (first | refine blk_drewN ?_ _ | refine blk_drew ?_ | refine blk_alloc ?_ _)); exact BK351.out) hb); have n1_ := Aside0.mk (blk_below (g := gb352) (o := .cells #[.int .i64 a1_0, .int .i64 a1_1, .slice A1_2 l1_2.length c1_2] 24 (0, 0)) (by (with_reducible repeat (first | refine blk_drewN ?_ _ | refine blk_drew ?_ | refine blk_alloc ?_ _)); exact BK352.out) hb); have n2_ := Aside0.mk (blk_below (g := gb353) (o := .cells #[.int .i64 a2_0, .int .i64 a2_1, .slice A2_2 l2_2.length c2_2] 24 (0, 0)) (by (with_reducible repeat (first | refine blk_drewN ?_ _ | refine blk_drew ?_ | refine blk_alloc ?_ _)); exact BK353.out) hb); have n3_ := Aside0.mk (below_step (by repeat (first | (with_reducible first | exact HB.out | apply below_alloc | apply pw_below_drewN | apply below_drew1 | refine below_set ?_ GE351.out | refine below_set ?_ GE352.out | refine below_set ?_ GE353.out) | exact HB.out)) hb); clear BK351; clear BK352; clear BK353; clear HB; have BK351 := n0_; have BK352 := n1_; have BK353 := n2_; have HB := n3_; clear n0_ n1_ n2_ n3_; (try clear hb); (try clear hb2); (try clear hk); (try clear hi)))
    (try simp only [Act.put, List.setIfInBounds_toArray, List.set_cons_zero, List.set_cons_succ])
    go_cut [26] (fun v26 wc => ∃ (kq : Nat) (x26_6 : Bool), v26 = .bool x26_6 ∧ Aside0 (thyrsuslaw4_TermClosed.j0 kq a3 x26_6 a0_0 a0_1 l0_2 a1_0 a1_1 l1_2 a2_0 a2_1 l2_2 = some r) ∧ Aside0 (kq ≤ k) ∧ Aside0 (wc.heap[gb351]? = some (.cells #[.int .i64 a0_0, .int .i64 a0_1, (.slice A0_2 l0_2.length c0_2)] 24 (0, 0))) ∧ Aside0 (wc.heap[gb352]? = some (.cells #[.int .i64 a1_0, .int .i64 a1_1, (.slice A1_2 l1_2.length c1_2)] 24 (0, 0))) ∧ Aside0 (wc.heap[gb353]? = some (.cells #[.int .i64 a2_0, .int .i64 a2_1, (.slice A2_2 l2_2.length c2_2)] 24 (0, 0))) ∧ Aside0 (Below w.heap.size w wc))
    case first =>
      have H := HC7.out
      clear HC7
      replace H := Option.bind_eq_some_iff.mp H
      obtain ⟨t355, A120, H⟩ := H
      replace H : (if t355 = true then ((thyrsuslaw1_Few.f k a1_0 a1_1 l1_2).bind fun t356 => (if t356 = true then ((thyrsuslaw1_Few.f k a2_0 a2_1 l2_2).bind fun t357 => (thyrsuslaw4_TermClosed.j0 k a3 (!t357) a0_0 a0_1 l0_2 a1_0 a1_1 l1_2 a2_0 a2_1 l2_2)) else (thyrsuslaw4_TermClosed.j0 k a3 true a0_0 a0_1 l0_2 a1_0 a1_1 l1_2 a2_0 a2_1 l2_2))) else (thyrsuslaw4_TermClosed.j0 k a3 true a0_0 a0_1 l0_2 a1_0 a1_1 l1_2 a2_0 a2_1 l2_2)) = some r := H
      have A12 := Aside0.mk A120
      clear A120
      by_cases c13 : t355 = true
      · subst c13
        have H1 : ((thyrsuslaw1_Few.f k a1_0 a1_1 l1_2).bind fun t356 => (if t356 = true then ((thyrsuslaw1_Few.f k a2_0 a2_1 l2_2).bind fun t357 => (thyrsuslaw4_TermClosed.j0 k a3 (!t357) a0_0 a0_1 l0_2 a1_0 a1_1 l1_2 a2_0 a2_1 l2_2)) else (thyrsuslaw4_TermClosed.j0 k a3 true a0_0 a0_1 l0_2 a1_0 a1_1 l1_2 a2_0 a2_1 l2_2))) = some r := by rw [if_pos rfl] at H; exact H
        clear H
        have H := H1
        clear H1
        replace H := Option.bind_eq_some_iff.mp H
        obtain ⟨t356, A140, H⟩ := H
        replace H : (if t356 = true then ((thyrsuslaw1_Few.f k a2_0 a2_1 l2_2).bind fun t357 => (thyrsuslaw4_TermClosed.j0 k a3 (!t357) a0_0 a0_1 l0_2 a1_0 a1_1 l1_2 a2_0 a2_1 l2_2)) else (thyrsuslaw4_TermClosed.j0 k a3 true a0_0 a0_1 l0_2 a1_0 a1_1 l1_2 a2_0 a2_1 l2_2)) = some r := H
        have A14 := Aside0.mk A140
        clear A140
        by_cases c15 : t356 = true
        · subst c15
          have H1 : ((thyrsuslaw1_Few.f k a2_0 a2_1 l2_2).bind fun t357 => (thyrsuslaw4_TermClosed.j0 k a3 (!t357) a0_0 a0_1 l0_2 a1_0 a1_1 l1_2 a2_0 a2_1 l2_2)) = some r := by rw [if_pos rfl] at H; exact H
          clear H
          have H := H1
          clear H1
          replace H := Option.bind_eq_some_iff.mp H
          obtain ⟨t357, A160, H⟩ := H
          replace H : (thyrsuslaw4_TermClosed.j0 k a3 (!t357) a0_0 a0_1 l0_2 a1_0 a1_1 l1_2 a2_0 a2_1 l2_2) = some r := H
          have A16 := Aside0.mk A160
          clear A160
          have H' := Aside0.mk H
          clear H
          have hnb17 := NB351_352.out
          have hnc17 := NB352_351.out
          have hnb18 := NB351_353.out
          have hnc18 := NB353_351.out
          have hcz19_0 : w11.cell? ⟨gb351, 0, none⟩ = some (.int .i64 a0_0) := (blk_cell BK351.out 0).trans rfl
          have hcz19_1 : w11.cell? ⟨gb351, 1, none⟩ = some (.int .i64 a0_1) := (blk_cell BK351.out 1).trans rfl
          have hcz19_2 : w11.cell? ⟨gb351, 2, none⟩ = some (.slice A0_2 l0_2.length c0_2) := (blk_cell BK351.out 2).trans rfl
          have hfz19_0 := blk_frozen BK351.out 0
          have hfz19_1 := blk_frozen BK351.out 1
          have hfz19_2 := blk_frozen BK351.out 2
          go_wp2_with (first | ((with_reducible refine gate_callee (f := 15) rfl ?_); refine goesL_ (some 15) rfl rfl Tryd.func15 (by kernel_rfl) rfl #[.agg #[.int .i64 a0_0, .int .i64 a0_1, .slice A0_2 l0_2.length c0_2]] rfl (by (try simp only [List.map_toArray, List.map_cons, List.map_nil]); first | done | rfl | (simp only [List.length_drop, List.length_take]; rfl)) ?_; (with_reducible refine (thyrsuslaw1_Few.calls k a0_0 a0_1 _ _ l0_2 true _ ?side1 ?side2 A12.out).mono ?_); (case side1 => repeat (first | exact (Kd.C_below HR0_2.out HB.out) | (with_reducible refine Kd.C_alloc ?_ _) | (with_reducible refine Kd.C_drewN ?_ _) | (with_reducible refine Kd.C_drew ?_))); (case side2 => exact HC0_2.out); rintro e w20 ⟨rfl, hb⟩; refine ⟨_, rfl, ?_⟩; have n0_ := Aside0.mk (blk_below (g := gb351) (o := .cells #[.int .i64 a0_0, .int .i64 a0_1, .slice A0_2 l0_2.length c0_2] 24 (0, 0)) (by (with_reducible repeat (first | refine blk_drewN ?_ _ | refine blk_drew ?_ | refine blk_alloc ?_ _)); exact BK351.out) hb); have n1_ := Aside0.mk (blk_below (g := gb352) (o := .cells #[.int .i64 a1_0, .int .i64 a1_1, .slice A1_2 l1_2.length c1_2] 24 (0, 0)) (by (with_reducible repeat (first | refine blk_drewN ?_ _ | refine blk_drew ?_ | refine blk_alloc ?_ _)); exact BK352.out) hb); have n2_ := Aside0.mk (blk_below (g := gb353) (o := .cells #[.int .i64 a2_0, .int .i64 a2_1, .slice A2_2 l2_2.length c2_2] 24 (0, 0)) (by (with_reducible repeat (first | refine blk_drewN ?_ _ | refine blk_drew ?_ | refine blk_alloc ?_ _)); exact BK353.out) hb); have n3_ := Aside0.mk (below_step (by repeat (first | (with_reducible first | exact HB.out | apply below_alloc | apply pw_below_drewN | apply below_drew1 | refine below_set ?_ GE351.out | refine below_set ?_ GE352.out | refine below_set ?_ GE353.out) | exact HB.out)) hb); clear BK351; clear BK352; clear BK353; clear HB; have BK351 := n0_; have BK352 := n1_; have BK353 := n2_; have HB := n3_; clear n0_ n1_ n2_ n3_; (try clear hb); (try clear hb2); (try clear hk); (try clear hi); have hnb21 := NB352_353.out; have hnc21 := NB353_352.out; have hcz22_0 : w20.cell? ⟨gb352, 0, none⟩ = some (.int .i64 a1_0) := (blk_cell BK352.out 0).trans rfl; have hcz22_1 : w20.cell? ⟨gb352, 1, none⟩ = some (.int .i64 a1_1) := (blk_cell BK352.out 1).trans rfl; have hcz22_2 : w20.cell? ⟨gb352, 2, none⟩ = some (.slice A1_2 l1_2.length c1_2) := (blk_cell BK352.out 2).trans rfl; have hfz22_0 := blk_frozen BK352.out 0; have hfz22_1 := blk_frozen BK352.out 1; have hfz22_2 := blk_frozen BK352.out 2) | (go_at_call 15; (with_reducible refine (thyrsuslaw1_Few.calls k a1_0 a1_1 _ _ l1_2 true _ ?side1 ?side2 A14.out).mono ?_); (case side1 => repeat (first | exact (Kd.C_below HR1_2.out HB.out) | (with_reducible refine Kd.C_alloc ?_ _) | (with_reducible refine Kd.C_drewN ?_ _) | (with_reducible refine Kd.C_drew ?_))); (case side2 => exact HC1_2.out); rintro e w23 ⟨rfl, hb⟩; have n0_ := Aside0.mk (blk_below (g := gb351) (o := .cells #[.int .i64 a0_0, .int .i64 a0_1, .slice A0_2 l0_2.length c0_2] 24 (0, 0)) (by (with_reducible repeat (first | refine blk_drewN ?_ _ | refine blk_drew ?_ | refine blk_alloc ?_ _)); exact BK351.out) hb); have n1_ := Aside0.mk (blk_below (g := gb352) (o := .cells #[.int .i64 a1_0, .int .i64 a1_1, .slice A1_2 l1_2.length c1_2] 24 (0, 0)) (by (with_reducible repeat (first | refine blk_drewN ?_ _ | refine blk_drew ?_ | refine blk_alloc ?_ _)); exact BK352.out) hb); have n2_ := Aside0.mk (blk_below (g := gb353) (o := .cells #[.int .i64 a2_0, .int .i64 a2_1, .slice A2_2 l2_2.length c2_2] 24 (0, 0)) (by (with_reducible repeat (first | refine blk_drewN ?_ _ | refine blk_drew ?_ | refine blk_alloc ?_ _)); exact BK353.out) hb); have n3_ := Aside0.mk (below_step (by repeat (first | (with_reducible first | exact HB.out | apply below_alloc | apply pw_below_drewN | apply below_drew1 | refine below_set ?_ GE351.out | refine below_set ?_ GE352.out | refine below_set ?_ GE353.out) | exact HB.out)) hb); clear BK351; clear BK352; clear BK353; clear HB; have BK351 := n0_; have BK352 := n1_; have BK353 := n2_; have HB := n3_; clear n0_ n1_ n2_ n3_; (try clear hb); (try clear hb2); (try clear hk); (try clear hi); have hcz24_0 : w23.cell? ⟨gb353, 0, none⟩ = some (.int .i64 a2_0) := (blk_cell BK353.out 0).trans rfl; have hcz24_1 : w23.cell? ⟨gb353, 1, none⟩ = some (.int .i64 a2_1) := (blk_cell BK353.out 1).trans rfl; have hcz24_2 : w23.cell? ⟨gb353, 2, none⟩ = some (.slice A2_2 l2_2.length c2_2) := (blk_cell BK353.out 2).trans rfl; have hfz24_0 := blk_frozen BK353.out 0; have hfz24_1 := blk_frozen BK353.out 1; have hfz24_2 := blk_frozen BK353.out 2) | (go_at_call 15; (with_reducible refine (thyrsuslaw1_Few.calls k a2_0 a2_1 _ _ l2_2 t357 _ ?side1 ?side2 A16.out).mono ?_); (case side1 => repeat (first | exact (Kd.C_below HR2_2.out HB.out) | (with_reducible refine Kd.C_alloc ?_ _) | (with_reducible refine Kd.C_drewN ?_ _) | (with_reducible refine Kd.C_drew ?_))); (case side2 => exact HC2_2.out); rintro e w25 ⟨rfl, hb⟩; have n0_ := Aside0.mk (blk_below (g := gb351) (o := .cells #[.int .i64 a0_0, .int .i64 a0_1, .slice A0_2 l0_2.length c0_2] 24 (0, 0)) (by (with_reducible repeat (first | refine blk_drewN ?_ _ | refine blk_drew ?_ | refine blk_alloc ?_ _)); exact BK351.out) hb); have n1_ := Aside0.mk (blk_below (g := gb352) (o := .cells #[.int .i64 a1_0, .int .i64 a1_1, .slice A1_2 l1_2.length c1_2] 24 (0, 0)) (by (with_reducible repeat (first | refine blk_drewN ?_ _ | refine blk_drew ?_ | refine blk_alloc ?_ _)); exact BK352.out) hb); have n2_ := Aside0.mk (blk_below (g := gb353) (o := .cells #[.int .i64 a2_0, .int .i64 a2_1, .slice A2_2 l2_2.length c2_2] 24 (0, 0)) (by (with_reducible repeat (first | refine blk_drewN ?_ _ | refine blk_drew ?_ | refine blk_alloc ?_ _)); exact BK353.out) hb); have n3_ := Aside0.mk (below_step (by repeat (first | (with_reducible first | exact HB.out | apply below_alloc | apply pw_below_drewN | apply below_drew1 | refine below_set ?_ GE351.out | refine below_set ?_ GE352.out | refine below_set ?_ GE353.out) | exact HB.out)) hb); clear BK351; clear BK352; clear BK353; clear HB; have BK351 := n0_; have BK352 := n1_; have BK353 := n2_; have HB := n3_; clear n0_ n1_ n2_ n3_; (try clear hb); (try clear hb2); (try clear hk); (try clear hi)))
          go_meet
          case rel => exact ⟨_, (!t357), (by first | rfl | (simp; done) | (simp [*]; done)), H', ⟨by first | omega | exact Nat.le_refl _⟩, ⟨by (with_reducible repeat (first | refine blk_drewN ?_ _ | refine blk_drew ?_ | refine blk_alloc ?_ _)); exact BK351.out⟩, ⟨by (with_reducible repeat (first | refine blk_drewN ?_ _ | refine blk_drew ?_ | refine blk_alloc ?_ _)); exact BK352.out⟩, ⟨by (with_reducible repeat (first | refine blk_drewN ?_ _ | refine blk_drew ?_ | refine blk_alloc ?_ _)); exact BK353.out⟩, ⟨by repeat (first | (with_reducible first | exact HB.out | apply below_alloc | apply pw_below_drewN | apply below_drew1 | refine below_set ?_ GE351.out | refine below_set ?_ GE352.out | refine below_set ?_ GE353.out) | exact HB.out)⟩⟩
        · replace c15 := Bool.eq_false_iff.mpr c15
          subst c15
          have H1 : (thyrsuslaw4_TermClosed.j0 k a3 true a0_0 a0_1 l0_2 a1_0 a1_1 l1_2 a2_0 a2_1 l2_2) = some r := by rw [if_neg (show ¬ (false = true) by decide)] at H; exact H
          clear H
          have H := H1
          clear H1
          have H' := Aside0.mk H
          clear H
          have hnb26 := NB351_352.out
          have hnc26 := NB352_351.out
          have hnb27 := NB351_353.out
          have hnc27 := NB353_351.out
          have hcz28_0 : w11.cell? ⟨gb351, 0, none⟩ = some (.int .i64 a0_0) := (blk_cell BK351.out 0).trans rfl
          have hcz28_1 : w11.cell? ⟨gb351, 1, none⟩ = some (.int .i64 a0_1) := (blk_cell BK351.out 1).trans rfl
          have hcz28_2 : w11.cell? ⟨gb351, 2, none⟩ = some (.slice A0_2 l0_2.length c0_2) := (blk_cell BK351.out 2).trans rfl
          have hfz28_0 := blk_frozen BK351.out 0
          have hfz28_1 := blk_frozen BK351.out 1
          have hfz28_2 := blk_frozen BK351.out 2
          go_wp2_with (first | ((with_reducible refine gate_callee (f := 15) rfl ?_); refine goesL_ (some 15) rfl rfl Tryd.func15 (by kernel_rfl) rfl #[.agg #[.int .i64 a0_0, .int .i64 a0_1, .slice A0_2 l0_2.length c0_2]] rfl (by (try simp only [List.map_toArray, List.map_cons, List.map_nil]); first | done | rfl | (simp only [List.length_drop, List.length_take]; rfl)) ?_; (with_reducible refine (thyrsuslaw1_Few.calls k a0_0 a0_1 _ _ l0_2 true _ ?side1 ?side2 A12.out).mono ?_); (case side1 => repeat (first | exact (Kd.C_below HR0_2.out HB.out) | (with_reducible refine Kd.C_alloc ?_ _) | (with_reducible refine Kd.C_drewN ?_ _) | (with_reducible refine Kd.C_drew ?_))); (case side2 => exact HC0_2.out); rintro e w29 ⟨rfl, hb⟩; refine ⟨_, rfl, ?_⟩; have n0_ := Aside0.mk (blk_below (g := gb351) (o := .cells #[.int .i64 a0_0, .int .i64 a0_1, .slice A0_2 l0_2.length c0_2] 24 (0, 0)) (by (with_reducible repeat (first | refine blk_drewN ?_ _ | refine blk_drew ?_ | refine blk_alloc ?_ _)); exact BK351.out) hb); have n1_ := Aside0.mk (blk_below (g := gb352) (o := .cells #[.int .i64 a1_0, .int .i64 a1_1, .slice A1_2 l1_2.length c1_2] 24 (0, 0)) (by (with_reducible repeat (first | refine blk_drewN ?_ _ | refine blk_drew ?_ | refine blk_alloc ?_ _)); exact BK352.out) hb); have n2_ := Aside0.mk (blk_below (g := gb353) (o := .cells #[.int .i64 a2_0, .int .i64 a2_1, .slice A2_2 l2_2.length c2_2] 24 (0, 0)) (by (with_reducible repeat (first | refine blk_drewN ?_ _ | refine blk_drew ?_ | refine blk_alloc ?_ _)); exact BK353.out) hb); have n3_ := Aside0.mk (below_step (by repeat (first | (with_reducible first | exact HB.out | apply below_alloc | apply pw_below_drewN | apply below_drew1 | refine below_set ?_ GE351.out | refine below_set ?_ GE352.out | refine below_set ?_ GE353.out) | exact HB.out)) hb); clear BK351; clear BK352; clear BK353; clear HB; have BK351 := n0_; have BK352 := n1_; have BK353 := n2_; have HB := n3_; clear n0_ n1_ n2_ n3_; (try clear hb); (try clear hb2); (try clear hk); (try clear hi); have hnb30 := NB352_353.out; have hnc30 := NB353_352.out; have hcz31_0 : w29.cell? ⟨gb352, 0, none⟩ = some (.int .i64 a1_0) := (blk_cell BK352.out 0).trans rfl; have hcz31_1 : w29.cell? ⟨gb352, 1, none⟩ = some (.int .i64 a1_1) := (blk_cell BK352.out 1).trans rfl; have hcz31_2 : w29.cell? ⟨gb352, 2, none⟩ = some (.slice A1_2 l1_2.length c1_2) := (blk_cell BK352.out 2).trans rfl; have hfz31_0 := blk_frozen BK352.out 0; have hfz31_1 := blk_frozen BK352.out 1; have hfz31_2 := blk_frozen BK352.out 2) | (go_at_call 15; (with_reducible refine (thyrsuslaw1_Few.calls k a1_0 a1_1 _ _ l1_2 false _ ?side1 ?side2 A14.out).mono ?_); (case side1 => repeat (first | exact (Kd.C_below HR1_2.out HB.out) | (with_reducible refine Kd.C_alloc ?_ _) | (with_reducible refine Kd.C_drewN ?_ _) | (with_reducible refine Kd.C_drew ?_))); (case side2 => exact HC1_2.out); rintro e w32 ⟨rfl, hb⟩; have n0_ := Aside0.mk (blk_below (g := gb351) (o := .cells #[.int .i64 a0_0, .int .i64 a0_1, .slice A0_2 l0_2.length c0_2] 24 (0, 0)) (by (with_reducible repeat (first | refine blk_drewN ?_ _ | refine blk_drew ?_ | refine blk_alloc ?_ _)); exact BK351.out) hb); have n1_ := Aside0.mk (blk_below (g := gb352) (o := .cells #[.int .i64 a1_0, .int .i64 a1_1, .slice A1_2 l1_2.length c1_2] 24 (0, 0)) (by (with_reducible repeat (first | refine blk_drewN ?_ _ | refine blk_drew ?_ | refine blk_alloc ?_ _)); exact BK352.out) hb); have n2_ := Aside0.mk (blk_below (g := gb353) (o := .cells #[.int .i64 a2_0, .int .i64 a2_1, .slice A2_2 l2_2.length c2_2] 24 (0, 0)) (by (with_reducible repeat (first | refine blk_drewN ?_ _ | refine blk_drew ?_ | refine blk_alloc ?_ _)); exact BK353.out) hb); have n3_ := Aside0.mk (below_step (by repeat (first | (with_reducible first | exact HB.out | apply below_alloc | apply pw_below_drewN | apply below_drew1 | refine below_set ?_ GE351.out | refine below_set ?_ GE352.out | refine below_set ?_ GE353.out) | exact HB.out)) hb); clear BK351; clear BK352; clear BK353; clear HB; have BK351 := n0_; have BK352 := n1_; have BK353 := n2_; have HB := n3_; clear n0_ n1_ n2_ n3_; (try clear hb); (try clear hb2); (try clear hk); (try clear hi)))
          go_meet
          case rel => exact ⟨_, (true), (by first | rfl | (simp; done) | (simp [*]; done)), H', ⟨by first | omega | exact Nat.le_refl _⟩, ⟨by (with_reducible repeat (first | refine blk_drewN ?_ _ | refine blk_drew ?_ | refine blk_alloc ?_ _)); exact BK351.out⟩, ⟨by (with_reducible repeat (first | refine blk_drewN ?_ _ | refine blk_drew ?_ | refine blk_alloc ?_ _)); exact BK352.out⟩, ⟨by (with_reducible repeat (first | refine blk_drewN ?_ _ | refine blk_drew ?_ | refine blk_alloc ?_ _)); exact BK353.out⟩, ⟨by repeat (first | (with_reducible first | exact HB.out | apply below_alloc | apply pw_below_drewN | apply below_drew1 | refine below_set ?_ GE351.out | refine below_set ?_ GE352.out | refine below_set ?_ GE353.out) | exact HB.out)⟩⟩
      · replace c13 := Bool.eq_false_iff.mpr c13
        subst c13
        have H1 : (thyrsuslaw4_TermClosed.j0 k a3 true a0_0 a0_1 l0_2 a1_0 a1_1 l1_2 a2_0 a2_1 l2_2) = some r := by rw [if_neg (show ¬ (false = true) by decide)] at H; exact H
        clear H
        have H := H1
        clear H1
        have H' := Aside0.mk H
        clear H
        have hnb33 := NB351_352.out
        have hnc33 := NB352_351.out
        have hnb34 := NB351_353.out
        have hnc34 := NB353_351.out
        have hcz35_0 : w11.cell? ⟨gb351, 0, none⟩ = some (.int .i64 a0_0) := (blk_cell BK351.out 0).trans rfl
        have hcz35_1 : w11.cell? ⟨gb351, 1, none⟩ = some (.int .i64 a0_1) := (blk_cell BK351.out 1).trans rfl
        have hcz35_2 : w11.cell? ⟨gb351, 2, none⟩ = some (.slice A0_2 l0_2.length c0_2) := (blk_cell BK351.out 2).trans rfl
        have hfz35_0 := blk_frozen BK351.out 0
        have hfz35_1 := blk_frozen BK351.out 1
        have hfz35_2 := blk_frozen BK351.out 2
        go_wp2_with (first | ((with_reducible refine gate_callee (f := 15) rfl ?_); refine goesL_ (some 15) rfl rfl Tryd.func15 (by kernel_rfl) rfl #[.agg #[.int .i64 a0_0, .int .i64 a0_1, .slice A0_2 l0_2.length c0_2]] rfl (by (try simp only [List.map_toArray, List.map_cons, List.map_nil]); first | done | rfl | (simp only [List.length_drop, List.length_take]; rfl)) ?_; (with_reducible refine (thyrsuslaw1_Few.calls k a0_0 a0_1 _ _ l0_2 false _ ?side1 ?side2 A12.out).mono ?_); (case side1 => repeat (first | exact (Kd.C_below HR0_2.out HB.out) | (with_reducible refine Kd.C_alloc ?_ _) | (with_reducible refine Kd.C_drewN ?_ _) | (with_reducible refine Kd.C_drew ?_))); (case side2 => exact HC0_2.out); rintro e w36 ⟨rfl, hb⟩; refine ⟨_, rfl, ?_⟩; have n0_ := Aside0.mk (blk_below (g := gb351) (o := .cells #[.int .i64 a0_0, .int .i64 a0_1, .slice A0_2 l0_2.length c0_2] 24 (0, 0)) (by (with_reducible repeat (first | refine blk_drewN ?_ _ | refine blk_drew ?_ | refine blk_alloc ?_ _)); exact BK351.out) hb); have n1_ := Aside0.mk (blk_below (g := gb352) (o := .cells #[.int .i64 a1_0, .int .i64 a1_1, .slice A1_2 l1_2.length c1_2] 24 (0, 0)) (by (with_reducible repeat (first | refine blk_drewN ?_ _ | refine blk_drew ?_ | refine blk_alloc ?_ _)); exact BK352.out) hb); have n2_ := Aside0.mk (blk_below (g := gb353) (o := .cells #[.int .i64 a2_0, .int .i64 a2_1, .slice A2_2 l2_2.length c2_2] 24 (0, 0)) (by (with_reducible repeat (first | refine blk_drewN ?_ _ | refine blk_drew ?_ | refine blk_alloc ?_ _)); exact BK353.out) hb); have n3_ := Aside0.mk (below_step (by repeat (first | (with_reducible first | exact HB.out | apply below_alloc | apply pw_below_drewN | apply below_drew1 | refine below_set ?_ GE351.out | refine below_set ?_ GE352.out | refine below_set ?_ GE353.out) | exact HB.out)) hb); clear BK351; clear BK352; clear BK353; clear HB; have BK351 := n0_; have BK352 := n1_; have BK353 := n2_; have HB := n3_; clear n0_ n1_ n2_ n3_; (try clear hb); (try clear hb2); (try clear hk); (try clear hi)))
        go_meet
        case rel => exact ⟨_, (true), (by first | rfl | (simp; done) | (simp [*]; done)), H', ⟨by first | omega | exact Nat.le_refl _⟩, ⟨by (with_reducible repeat (first | refine blk_drewN ?_ _ | refine blk_drew ?_ | refine blk_alloc ?_ _)); exact BK351.out⟩, ⟨by (with_reducible repeat (first | refine blk_drewN ?_ _ | refine blk_drew ?_ | refine blk_alloc ?_ _)); exact BK352.out⟩, ⟨by (with_reducible repeat (first | refine blk_drewN ?_ _ | refine blk_drew ?_ | refine blk_alloc ?_ _)); exact BK353.out⟩, ⟨by repeat (first | (with_reducible first | exact HB.out | apply below_alloc | apply pw_below_drewN | apply below_drew1 | refine below_set ?_ GE351.out | refine below_set ?_ GE352.out | refine below_set ?_ GE353.out) | exact HB.out)⟩⟩
    case rest =>
      clear HC7
      try clear c1
      try clear c2
      try clear p2
      try clear c3
      try clear c6
      try clear c12
      try clear c13
      try clear c14
      try clear c15
      try clear c17
      try clear c18
      try clear c21
      try clear c26
      try clear c27
      try clear c30
      try clear c33
      try clear c34
      try clear hcz19_0
      try clear hcz19_1
      try clear hcz19_2
      try clear hcz22_0
      try clear hcz22_1
      try clear hcz22_2
      try clear hcz24_0
      try clear hcz24_1
      try clear hcz24_2
      try clear hcz28_0
      try clear hcz28_1
      try clear hcz28_2
      try clear hcz31_0
      try clear hcz31_1
      try clear hcz31_2
      try clear hcz35_0
      try clear hcz35_1
      try clear hcz35_2
      try clear hfz19_0
      try clear hfz19_1
      try clear hfz19_2
      try clear hfz22_0
      try clear hfz22_1
      try clear hfz22_2
      try clear hfz24_0
      try clear hfz24_1
      try clear hfz24_2
      try clear hfz28_0
      try clear hfz28_1
      try clear hfz28_2
      try clear hfz31_0
      try clear hfz31_1
      try clear hfz31_2
      try clear hfz35_0
      try clear hfz35_1
      try clear hfz35_2
      obtain ⟨kq, x26_6, rfl, HA, HJ6, BK351, BK352, BK353, HB⟩ := hcut
      cases kq with
      | zero => exact absurd HA.out (by simp [thyrsuslaw4_TermClosed.j0])
      | succ kj6 =>
        have H := HA.out
        clear HA
        simp only [thyrsuslaw4_TermClosed.j0] at H
        by_cases c37 : x26_6 = true
        · subst c37
          have H1 : (some true) = some r := by rw [if_pos rfl] at H; exact H
          clear H
          have H := H1
          clear H1
          obtain rfl := Option.some.inj H
          go_wp2
          go_ret
          exact ⟨by first | rfl | (simp [errW_none, errW_some] <;> rfl) | (simp [*, errW_none, errW_some] <;> rfl), by repeat (first | (with_reducible first | exact HB.out | apply below_alloc | apply pw_below_drewN | apply below_drew1 | refine below_set ?_ GE351.out | refine below_set ?_ GE352.out | refine below_set ?_ GE353.out) | exact HB.out)⟩
        · replace c37 := Bool.eq_false_iff.mpr c37
          subst c37
          have H1 : ((thyrsuslaw1_Make.f kj6 a0_0 a0_1 l0_2 6 3).bind fun bt358 => ((thyrsuslaw1_Make.f kj6 a1_0 a1_1 l1_2 3 2).bind fun bt363 => ((thyrsuslaw1_Make.f kj6 a2_0 a2_1 l2_2 3 2).bind fun bt368 => ((thyrsuslaw4_within.f a3 6).bind fun t376 => ((term_Free.f kj6 bt358.1 bt358.2.1 bt358.2.2 t376).bind fun t377 => (if t377 = true then (thyrsuslaw4_TermClosed.j1 kj6 t376 false bt358.1 bt358.2.1 bt358.2.2 bt363.1 bt363.2.1 bt363.2.2) else ((term_Subst.f kj6 bt358.1 bt358.2.1 bt358.2.2 t376 bt363.1 bt363.2.1 bt363.2.2).bind fun bt378 => ((term_Subst.f kj6 bt358.1 bt358.2.1 bt358.2.2 t376 bt368.1 bt368.2.1 bt368.2.2).bind fun bt383 => ((thyrsusref4_Same.f kj6 bt378.1 bt378.2.1 bt378.2.2 bt383.1 bt383.2.1 bt383.2.2).bind fun t388 => (thyrsuslaw4_TermClosed.j1 kj6 t376 (!t388) bt358.1 bt358.2.1 bt358.2.2 bt363.1 bt363.2.1 bt363.2.2)))))))))) = some r := by rw [if_neg (show ¬ (false = true) by decide)] at H; exact H
          clear H
          have H := H1
          clear H1
          replace H := Option.bind_eq_some_iff.mp H
          obtain ⟨⟨t358, t359, t360⟩, A380, H⟩ := H
          replace H : ((thyrsuslaw1_Make.f kj6 a1_0 a1_1 l1_2 3 2).bind fun bt363 => ((thyrsuslaw1_Make.f kj6 a2_0 a2_1 l2_2 3 2).bind fun bt368 => ((thyrsuslaw4_within.f a3 6).bind fun t376 => ((term_Free.f kj6 t358 t359 t360 t376).bind fun t377 => (if t377 = true then (thyrsuslaw4_TermClosed.j1 kj6 t376 false t358 t359 t360 bt363.1 bt363.2.1 bt363.2.2) else ((term_Subst.f kj6 t358 t359 t360 t376 bt363.1 bt363.2.1 bt363.2.2).bind fun bt378 => ((term_Subst.f kj6 t358 t359 t360 t376 bt368.1 bt368.2.1 bt368.2.2).bind fun bt383 => ((thyrsusref4_Same.f kj6 bt378.1 bt378.2.1 bt378.2.2 bt383.1 bt383.2.1 bt383.2.2).bind fun t388 => (thyrsuslaw4_TermClosed.j1 kj6 t376 (!t388) t358 t359 t360 bt363.1 bt363.2.1 bt363.2.2))))))))) = some r := H
          have A38 := Aside0.mk A380
          clear A380
          replace H := Option.bind_eq_some_iff.mp H
          obtain ⟨⟨t363, t364, t365⟩, A390, H⟩ := H
          replace H : ((thyrsuslaw1_Make.f kj6 a2_0 a2_1 l2_2 3 2).bind fun bt368 => ((thyrsuslaw4_within.f a3 6).bind fun t376 => ((term_Free.f kj6 t358 t359 t360 t376).bind fun t377 => (if t377 = true then (thyrsuslaw4_TermClosed.j1 kj6 t376 false t358 t359 t360 t363 t364 t365) else ((term_Subst.f kj6 t358 t359 t360 t376 t363 t364 t365).bind fun bt378 => ((term_Subst.f kj6 t358 t359 t360 t376 bt368.1 bt368.2.1 bt368.2.2).bind fun bt383 => ((thyrsusref4_Same.f kj6 bt378.1 bt378.2.1 bt378.2.2 bt383.1 bt383.2.1 bt383.2.2).bind fun t388 => (thyrsuslaw4_TermClosed.j1 kj6 t376 (!t388) t358 t359 t360 t363 t364 t365)))))))) = some r := H
          have A39 := Aside0.mk A390
          clear A390
          replace H := Option.bind_eq_some_iff.mp H
          obtain ⟨⟨t368, t369, t370⟩, A400, H⟩ := H
          replace H : ((thyrsuslaw4_within.f a3 6).bind fun t376 => ((term_Free.f kj6 t358 t359 t360 t376).bind fun t377 => (if t377 = true then (thyrsuslaw4_TermClosed.j1 kj6 t376 false t358 t359 t360 t363 t364 t365) else ((term_Subst.f kj6 t358 t359 t360 t376 t363 t364 t365).bind fun bt378 => ((term_Subst.f kj6 t358 t359 t360 t376 t368 t369 t370).bind fun bt383 => ((thyrsusref4_Same.f kj6 bt378.1 bt378.2.1 bt378.2.2 bt383.1 bt383.2.1 bt383.2.2).bind fun t388 => (thyrsuslaw4_TermClosed.j1 kj6 t376 (!t388) t358 t359 t360 t363 t364 t365))))))) = some r := H
          have A40 := Aside0.mk A400
          clear A400
          replace H := Option.bind_eq_some_iff.mp H
          obtain ⟨t376, A410, H⟩ := H
          replace H : ((term_Free.f kj6 t358 t359 t360 t376).bind fun t377 => (if t377 = true then (thyrsuslaw4_TermClosed.j1 kj6 t376 false t358 t359 t360 t363 t364 t365) else ((term_Subst.f kj6 t358 t359 t360 t376 t363 t364 t365).bind fun bt378 => ((term_Subst.f kj6 t358 t359 t360 t376 t368 t369 t370).bind fun bt383 => ((thyrsusref4_Same.f kj6 bt378.1 bt378.2.1 bt378.2.2 bt383.1 bt383.2.1 bt383.2.2).bind fun t388 => (thyrsuslaw4_TermClosed.j1 kj6 t376 (!t388) t358 t359 t360 t363 t364 t365)))))) = some r := H
          have A41 := Aside0.mk A410
          clear A410
          have HC42 := Aside0.mk H
          clear H
          try go_wp2
          refine closed_r5 (by rfl) kj6 a0_0 a0_1 A0_2 c0_2 l0_2 gb351 rfl BK351.out (Kd.C_below HR0_2.out HB.out) HC0_2.out a1_0 a1_1 A1_2 c1_2 l1_2 gb352 rfl BK352.out (Kd.C_below HR1_2.out HB.out) HC1_2.out a2_0 a2_1 A2_2 c2_2 l2_2 gb353 rfl BK353.out (Kd.C_below HR2_2.out HB.out) HC2_2.out t358 t359 t360 t363 t364 t365 t368 t369 t370 A38.out A39.out A40.out ?_
          rintro u1 u3 u5 g9 g10 g11 w1 hb _ S6 F6 _ S7 F7 _ S8 F8
          replace HB := Aside0.mk (below_step HB.out hb)
          clear hb BK351 BK352 BK353
          have B9 := Aside0.mk S6
          have T9 := Aside0.mk F6
          clear S6 F6
          have B10 := Aside0.mk S7
          have T10 := Aside0.mk F7
          clear S7 F7
          have B11 := Aside0.mk S8
          have T11 := Aside0.mk F8
          clear S8 F8
          (try simp only [Act.put, List.setIfInBounds_toArray, List.set_cons_zero, List.set_cons_succ])
          go_wp2_with (first | ((with_reducible refine gate_callee (f := 20) rfl ?_); refine goesL_ (some 34) rfl rfl Tryd.func20 (by kernel_rfl) rfl #[.int .i64 a3, .int .i64 6] rfl (by (try simp only [List.map_toArray, List.map_cons, List.map_nil]); first | done | rfl | (simp only [List.length_drop, List.length_take]; rfl)) ?_; refine (within_go a3 6 t376 _ A41.out).mono ?_; rintro e w2 ⟨rfl, hb⟩; refine ⟨_, rfl, ?_⟩; replace B9 := Aside0.mk (blk_below B9.out hb); replace T9 := Aside0.mk (TV.step T9.out hb); replace B10 := Aside0.mk (blk_below B10.out hb); replace T10 := Aside0.mk (TV.step T10.out hb); replace B11 := Aside0.mk (blk_below B11.out hb); replace T11 := Aside0.mk (TV.step T11.out hb); replace HB := Aside0.mk (below_step HB.out hb); clear hb))
          have H := HC42.out
          clear HC42
          obtain ⟨t377, A0, H⟩ := Option.bind_eq_some_iff.mp H
          cases t377 with
          | true =>
            simp only [if_true] at H
            refine closed_r7f (by rfl) kj6 t358 t359 u1 t360 g9 rfl B9.out T9.out t363 t364 u3 t365 g10 rfl B10.out T10.out t368 t369 u5 t370 g11 rfl B11.out T11.out t376 rfl A0 ?_
            rintro w3 hb
            replace B9 := Aside0.mk (blk_below B9.out hb)
            replace T9 := Aside0.mk (TV.step T9.out hb)
            replace B10 := Aside0.mk (blk_below B10.out hb)
            replace T10 := Aside0.mk (TV.step T10.out hb)
            replace B11 := Aside0.mk (blk_below B11.out hb)
            replace T11 := Aside0.mk (TV.step T11.out hb)
            replace HB := Aside0.mk (below_step HB.out hb)
            clear hb
            (try simp only [Act.put, List.setIfInBounds_toArray, List.set_cons_zero, List.set_cons_succ])
            replace H : thyrsuslaw4_TermClosed.j1 kj6 t376 false t358 t359 t360 t363 t364 t365 = some r := H
            cases kj6 with
            | zero => exact absurd H (by simp [thyrsuslaw4_TermClosed.j1])
            | succ k2 =>
              simp only [thyrsuslaw4_TermClosed.j1, Bool.false_eq_true, if_false] at H
              obtain ⟨t389, A1, H⟩ := Option.bind_eq_some_iff.mp H
              try go_wp2
              cases t389 with
              | false =>
                obtain rfl := Option.some.inj (show some true = some r by simpa using H)
                refine closed_r9f (by rfl) k2 t358 t359 u1 t360 g9 rfl B9.out T9.out t363 t364 u3 t365 g10 rfl B10.out T10.out t376 rfl A1 ?_
                rintro w4 hb
                replace HB := Aside0.mk (below_step HB.out hb)
                (try simp only [Act.put, List.setIfInBounds_toArray, List.set_cons_zero, List.set_cons_succ])
                try go_wp2
                go_ret
                exact ⟨by first | rfl | (simp [errW_none, errW_some] <;> rfl) | (simp [*, errW_none, errW_some] <;> rfl), HB.out⟩
              | true =>
                simp only [if_true] at H
                obtain ⟨⟨q1, q2, q3⟩, A2, H⟩ := Option.bind_eq_some_iff.mp H
                obtain ⟨t395, A3, H⟩ := Option.bind_eq_some_iff.mp H
                cases t395 with
                | false => exact absurd H (by simp)
                | true =>
                  simp only [if_true] at H
                  obtain ⟨⟨q4, q5, q6⟩, A4, H⟩ := Option.bind_eq_some_iff.mp H
                  obtain ⟨t401, A5, H⟩ := Option.bind_eq_some_iff.mp H
                  obtain rfl := Option.some.inj H
                  refine closed_r9t (by rfl) k2 t358 t359 u1 t360 g9 rfl B9.out T9.out t363 t364 u3 t365 g10 rfl B10.out T10.out t376 rfl t401 q1 q2 q3 q4 q5 q6 A1 A2 A3 A4 A5 ?_
                  rintro z1 z2 w4 hb
                  replace HB := Aside0.mk (below_step HB.out hb)
                  (try simp only [Act.put, List.setIfInBounds_toArray, List.set_cons_zero, List.set_cons_succ])
                  try go_wp2
                  go_ret
                  exact ⟨by first | rfl | (simp [errW_none, errW_some] <;> rfl) | (simp [*, errW_none, errW_some] <;> rfl), HB.out⟩
          | false =>
            simp only [Bool.false_eq_true, if_false] at H
            obtain ⟨⟨p1, p2, p3⟩, D1, H⟩ := Option.bind_eq_some_iff.mp H
            obtain ⟨⟨p4, p5, p6⟩, D2, H⟩ := Option.bind_eq_some_iff.mp H
            obtain ⟨t388, D3, H⟩ := Option.bind_eq_some_iff.mp H
            cases t388 with
            | false => exact absurd H (by cases kj6 <;> simp [thyrsuslaw4_TermClosed.j1])
            | true =>
              refine closed_r7t (by rfl) kj6 t358 t359 u1 t360 g9 rfl B9.out T9.out t363 t364 u3 t365 g10 rfl B10.out T10.out t368 t369 u5 t370 g11 rfl B11.out T11.out t376 rfl p1 p2 p3 p4 p5 p6 A0 D1 D2 D3 ?_
              rintro y1 y2 w3 hb
              replace B9 := Aside0.mk (blk_below B9.out hb)
              replace T9 := Aside0.mk (TV.step T9.out hb)
              replace B10 := Aside0.mk (blk_below B10.out hb)
              replace T10 := Aside0.mk (TV.step T10.out hb)
              replace B11 := Aside0.mk (blk_below B11.out hb)
              replace T11 := Aside0.mk (TV.step T11.out hb)
              replace HB := Aside0.mk (below_step HB.out hb)
              clear hb
              (try simp only [Act.put, List.setIfInBounds_toArray, List.set_cons_zero, List.set_cons_succ])
              replace H : thyrsuslaw4_TermClosed.j1 kj6 t376 false t358 t359 t360 t363 t364 t365 = some r := H
              cases kj6 with
              | zero => exact absurd H (by simp [thyrsuslaw4_TermClosed.j1])
              | succ k2 =>
                simp only [thyrsuslaw4_TermClosed.j1, Bool.false_eq_true, if_false] at H
                obtain ⟨t389, A1, H⟩ := Option.bind_eq_some_iff.mp H
                try go_wp2
                cases t389 with
                | false =>
                  obtain rfl := Option.some.inj (show some true = some r by simpa using H)
                  refine closed_r9f (by rfl) k2 t358 t359 u1 t360 g9 rfl B9.out T9.out t363 t364 u3 t365 g10 rfl B10.out T10.out t376 rfl A1 ?_
                  rintro w4 hb
                  replace HB := Aside0.mk (below_step HB.out hb)
                  (try simp only [Act.put, List.setIfInBounds_toArray, List.set_cons_zero, List.set_cons_succ])
                  try go_wp2
                  go_ret
                  exact ⟨by first | rfl | (simp [errW_none, errW_some] <;> rfl) | (simp [*, errW_none, errW_some] <;> rfl), HB.out⟩
                | true =>
                  simp only [if_true] at H
                  obtain ⟨⟨q1, q2, q3⟩, A2, H⟩ := Option.bind_eq_some_iff.mp H
                  obtain ⟨t395, A3, H⟩ := Option.bind_eq_some_iff.mp H
                  cases t395 with
                  | false => exact absurd H (by simp)
                  | true =>
                    simp only [if_true] at H
                    obtain ⟨⟨q4, q5, q6⟩, A4, H⟩ := Option.bind_eq_some_iff.mp H
                    obtain ⟨t401, A5, H⟩ := Option.bind_eq_some_iff.mp H
                    obtain rfl := Option.some.inj H
                    refine closed_r9t (by rfl) k2 t358 t359 u1 t360 g9 rfl B9.out T9.out t363 t364 u3 t365 g10 rfl B10.out T10.out t376 rfl t401 q1 q2 q3 q4 q5 q6 A1 A2 A3 A4 A5 ?_
                    rintro z1 z2 w4 hb
                    replace HB := Aside0.mk (below_step HB.out hb)
                    (try simp only [Act.put, List.setIfInBounds_toArray, List.set_cons_zero, List.set_cons_succ])
                    try go_wp2
                    go_ret
                    exact ⟨by first | rfl | (simp [errW_none, errW_some] <;> rfl) | (simp [*, errW_none, errW_some] <;> rfl), HB.out⟩
  · replace c6 := Bool.eq_false_iff.mpr c6
    subst c6
    have H1 : (none) = some r := by rw [if_neg (show ¬ (false = true) by decide)] at H; exact H
    exact absurd H1 (by simp)
end Go.Proofs.YtcchfblekaaalaaDoor.P
end
namespace Go.Proofs.YtcchfblekaaalaaDoor.Pure
open Go.RowKit Go.Proofs.YtcchfblekaaalaaDoor.P Go.Proofs.YtcchfblekaaalaaDoorW.PrintWords Go.Proofs.YtcchfblekaaalaaDoorW.PrintLast Go.Proofs.YtcchfblekaaalaaDoorW.PrintMore
set_option linter.unusedVariables false
mutual
theorem sb_free {n : Int} (hn : 0 ≤ n) (u v : S29) : ∀ (t : S29) (ah : Int), free n ah t = false → sb n u ah t = sb n v ah t
  | ⟨a, b, l⟩, ah, hf => by
    by_cases h : a = 1
    · subst h
      have hf' : frP n b ah = false := by rw [← hf]; show _ = sa _ _ _; rw [sa, if_pos rfl]
      show ea _ _ _ = ea _ _ _
      rw [ea_var, ea_var, sbQ, sbQ]
      by_cases h2 : b - ah = n
      · rw [frP, decide_eq_true h2, decide_eq_true (show ah ≤ b by omega)] at hf'
        exact absurd hf' (by decide)
      · rw [if_neg h2, if_neg h2]
    · have hf' : sas (frP n) ah a 0 l = false := by rw [← hf]; show _ = sa _ _ _; rw [sa, if_neg h]
      show ea _ _ _ = ea _ _ _
      rw [ea_node _ _ _ _ _ h, ea_node _ _ _ _ _ h, sbs_free hn u v l ah a 0 hf']
theorem sbs_free {n : Int} (hn : 0 ≤ n) (u v : S29) : ∀ (l : List S29) (ah a : Int) (i : Nat), sas (frP n) ah a i l = false → eas (sbQ n u) ah a i l = eas (sbQ n v) ah a i l
  | [], ah, a, i, hf => by rw [eas, eas]
  | t :: l, ah, a, i, hf => by
    rw [sas, Bool.or_eq_false_iff] at hf
    have h1 : ea (sbQ n u) (ah + bnd a i) t = ea (sbQ n v) (ah + bnd a i) t := sb_free hn u v t (ah + bnd a i) hf.1
    rw [eas, eas, h1, sbs_free hn u v l ah a (i + 1) hf.2]
end
theorem beP_no {n b ah : Int} (hn : 0 ≤ n) (h : beP n b ah = false) : b - ah < n := by
  by_cases h2 : n ≤ b - ah
  · rw [beP, decide_eq_true h2, decide_eq_true (show ah ≤ b by omega)] at h
    exact absurd h (by decide)
  · omega
mutual
theorem sb_closed {n : Int} (hn : 0 ≤ n) (u : S29) : ∀ (t : S29) (ah : Int) {B : Int}, good B t → sa (beP n) ah t = false → sb n u ah t = t
  | ⟨a, b, l⟩, ah, B, hg, hf => by
    by_cases h : a = 1
    · subst h
      obtain ⟨hl, _⟩ := hg.2.1 rfl
      subst hl
      have hf' := beP_no hn (show beP n b ah = false by rw [← hf, sa, if_pos rfl])
      show ea _ _ _ = _
      rw [ea_var, sbQ, if_neg (show ¬ n < b - ah by omega), if_neg (show ¬ b - ah = n by omega)]
    · have hf' : sas (beP n) ah a 0 l = false := by rw [← hf, sa, if_neg h]
      show ea _ _ _ = _
      rw [ea_node _ _ _ _ _ h, sbs_closed hn u l ah a 0 hg.2.2.2 hf']
theorem sbs_closed {n : Int} (hn : 0 ≤ n) (u : S29) : ∀ (l : List S29) (ah a : Int) (i : Nat) {B : Int}, goods B l → sas (beP n) ah a i l = false → eas (sbQ n u) ah a i l = l
  | [], ah, a, i, B, hg, hf => by rw [eas]
  | t :: l, ah, a, i, B, hg, hf => by
    rw [sas, Bool.or_eq_false_iff] at hf
    have h1 : ea (sbQ n u) (ah + bnd a i) t = t := sb_closed hn u t (ah + bnd a i) hg.1 hf.1
    rw [eas, h1, sbs_closed hn u l ah a (i + 1) hg.2 hf.2]
end
mutual
theorem sh_closed {n : Int} (hn : 0 ≤ n) (y : Int) : ∀ (t : S29) (ah : Int) {B : Int}, good B t → sa (beP n) ah t = false → sh y n ah t = t
  | ⟨a, b, l⟩, ah, B, hg, hf => by
    by_cases h : a = 1
    · subst h
      obtain ⟨hl, _⟩ := hg.2.1 rfl
      subst hl
      have hf' := beP_no hn (show beP n b ah = false by rw [← hf, sa, if_pos rfl])
      show ea _ _ _ = _
      rw [ea_var, shQ, if_neg (show ¬ n ≤ b - ah by omega)]
    · have hf' : sas (beP n) ah a 0 l = false := by rw [← hf, sa, if_neg h]
      show ea _ _ _ = _
      rw [ea_node _ _ _ _ _ h, shs_closed hn y l ah a 0 hg.2.2.2 hf']
theorem shs_closed {n : Int} (hn : 0 ≤ n) (y : Int) : ∀ (l : List S29) (ah a : Int) (i : Nat) {B : Int}, goods B l → sas (beP n) ah a i l = false → eas (shQ y n) ah a i l = l
  | [], ah, a, i, B, hg, hf => by rw [eas]
  | t :: l, ah, a, i, B, hg, hf => by
    rw [sas, Bool.or_eq_false_iff] at hf
    have h1 : ea (shQ y n) (ah + bnd a i) t = t := sh_closed hn y t (ah + bnd a i) hg.1 hf.1
    rw [eas, h1, shs_closed hn y l ah a (i + 1) hg.2 hf.2]
end
theorem mkS {x : S24} (hx : WF24 x) (n : Nat) (vars : Int) (hn : n ≤ 10) (hv : 0 ≤ vars) (hv2 : vars ≤ 100) :
    ∃ t : S29, Ev (fun k => thyrsuslaw1_Make.f k x.f0 x.f1 x.f2 (n : Int) vars) (t.f0, t.f1, t.f2) ∧ good 1000 t ∧ deep29 t ≤ 11 := by
  obtain ⟨t, h1, h2, h3, h4⟩ := make2_all n x hx (n : Int) vars (Int.le_refl _) (by omega) hv (by omega) (by omega)
  exact ⟨t, h1, mk_good (by omega) t h2 (by omega), by omega⟩
/-- A shift, in rounds. -/
theorem shE {B y f : Int} {t : S29} (hg : good B t) (hd : deep29 t ≤ 1000) (hB : B ≤ 1000000) (hy : 0 ≤ y) (hy2 : y ≤ 1000) (hf : 0 ≤ f) (hf2 : f ≤ 1000) : Ev (fun k => term_Shift.f k t.f0 t.f1 t.f2 y f) ((sh y f 0 t).f0, (sh y f 0 t).f1, (sh y f 0 t).f2) :=
  ⟨3 * size29 t, fun k hk => shift_run (B := B) (by omega) (by omega) (by omega) (by omega) (by omega) t hg (by omega) k hk⟩
theorem sbE {B C m : Int} {t u : S29} (hg : good B t) (hu : good C u) (hd : deep29 t ≤ 1000) (hdu : deep29 u ≤ 1000) (hB : B ≤ 1000000) (hC : C ≤ 1000000) (hm : 0 ≤ m) (hm2 : m ≤ 1000) : Ev (fun k => term_Subst.f k t.f0 t.f1 t.f2 m u.f0 u.f1 u.f2) ((sb m u 0 t).f0, (sb m u 0 t).f1, (sb m u 0 t).f2) :=
  ⟨3 * size29 t + 3 * size29 u, fun k hk => subst_run (B := B) (C := C) (by omega) (by omega) (by omega) (by omega) t u hg hu (by omega) (by omega) k (by omega) (by omega)⟩
theorem smE {B : Int} {t u : S29} (h : t = u) (hg : good B t) : Ev (fun k => thyrsusref4_Same.f k t.f0 t.f1 t.f2 u.f0 u.f1 u.f2) true := ⟨4 * size29 t, fun k hk => same_eq h hg k hk⟩
theorem TermClosed {x y z : S24} (hx : WF24 x) (hy : WF24 y) (hz : WF24 z) {n : Int} (hn : (Lit.int .i64 n).wf = true) :
    Ev (fun k => thyrsuslaw4_TermClosed.f k x.f0 x.f1 x.f2 y.f0 y.f1 y.f2 z.f0 z.f1 z.f2 n) true := by
  unfold thyrsuslaw4_TermClosed.f
  refine Ev.bind ⟨10, fun k hk => known_k hk⟩ ?_
  simp only [if_true]
  obtain ⟨c1, e1, _⟩ := few_ev hx
  refine Ev.bind e1 ?_
  have out : ∀ c : Bool, Ev (fun k => thyrsuslaw4_TermClosed.j0 k n c x.f0 x.f1 x.f2 y.f0 y.f1 y.f2 z.f0 z.f1 z.f2) true := by
    intro c
    cases c with
    | true => exact Ev.step (f := fun k => some true) (fun k => by simp only [thyrsuslaw4_TermClosed.j0, if_true]) (Ev.now _)
    | false =>
      obtain ⟨t, m1, g1, d1⟩ := mkS hx 6 3 (by omega) (by omega) (by omega)
      obtain ⟨u, m2, g2, d2⟩ := mkS hy 3 2 (by omega) (by omega) (by omega)
      obtain ⟨v, m3, g3, d3⟩ := mkS hz 3 2 (by omega) (by omega) (by omega)
      obtain ⟨na, la, ea_⟩ := within_ex (i64_of hn) (n := 6) (by decide) (by decide)
      have tail : Ev (fun k => thyrsuslaw4_TermClosed.j1 k na false t.f0 t.f1 t.f2 u.f0 u.f1 u.f2) true := by
        refine Ev.step (fun k => by simp only [thyrsuslaw4_TermClosed.j1, Bool.false_eq_true, if_false]; rfl) ?_
        refine Ev.bind ⟨3 * size29 t, fun k hk => below_run (B := 1000) (n := (na : Int)) (by omega) t g1 (by omega) k hk⟩ ?_
        cases hbe : sa (beP (na : Int)) 0 t with
        | true =>
          simp only [Bool.not_true, Bool.false_eq_true, if_false]
          exact Ev.now _
        | false =>
          simp only [Bool.not_false, if_true]
          refine Ev.bind (sbE g1 g2 (by omega) (by omega) (by omega) (by omega) (by omega) (by omega)) ?_
          have gs : good 2000 (sb (na : Int) u 0 t) := sb_good (B := 1000) (C := 1000) (by omega) (by omega) _ g2 t 0 g1 (by omega) (by omega)
          refine Ev.bind (smE (sb_closed (by omega) u t 0 g1 hbe) gs) ?_
          simp only [if_true]
          have gh : good (1000 + 5) (sh 5 (na : Int) 0 t) := sh_good (by omega) (by omega) t 0 g1
          refine Ev.bind (shE (y := 5) (f := (na : Int)) g1 (by omega) (by omega) (by omega) (by omega) (by omega) (by omega)) ?_
          refine Ev.bind (smE (sh_closed (by omega) 5 t 0 g1 hbe) gh) ?_
          exact Ev.now _
      refine Ev.step (fun k => by simp only [thyrsuslaw4_TermClosed.j0, Bool.false_eq_true, if_false]; rfl) ?_
      refine Ev.bind m1 (Ev.bind m2 (Ev.bind m3 ?_))
      simp only [ea_, Option.bind_some]
      refine Ev.bind ⟨3 * size29 t, fun k hk => free_run (B := 1000) (n := (na : Int)) (by omega) t g1 (by omega) k hk⟩ ?_
      cases hfr : free (na : Int) 0 t with
      | true =>
        simp only [if_true]
        exact tail
      | false =>
        simp only [Bool.false_eq_true, if_false]
        refine Ev.bind (sbE g1 g2 (by omega) (by omega) (by omega) (by omega) (by omega) (by omega)) ?_
        refine Ev.bind (sbE g1 g3 (by omega) (by omega) (by omega) (by omega) (by omega) (by omega)) ?_
        have gs : good 2000 (sb (na : Int) u 0 t) := sb_good (B := 1000) (C := 1000) (by omega) (by omega) _ g2 t 0 g1 (by omega) (by omega)
        refine Ev.bind (smE (sb_free (by omega) u v t 0 hfr) gs) ?_
        exact tail
  cases c1 with
  | true =>
    simp only [if_true]
    obtain ⟨c2, e2, _⟩ := few_ev hy
    refine Ev.bind e2 ?_
    cases c2 with
    | true =>
      simp only [if_true]
      obtain ⟨c3, e3, _⟩ := few_ev hz
      exact Ev.bind e3 (out (!c3))
    | false =>
      simp only [Bool.false_eq_true, if_false]
      exact out true
  | false =>
    simp only [Bool.false_eq_true, if_false]
    exact out true
end Go.Proofs.YtcchfblekaaalaaDoor.Pure
namespace Go.Proofs.YtcchfblekaaalaaDoor.P
open Go.RowKit Go.Proofs.YtcchfblekaaalaaDoorW.PrintWords Go.Proofs.YtcchfblekaaalaaDoorW.PrintLast Go.Proofs.YtcchfblekaaalaaDoorW.PrintMore
theorem termClosed_walk (x0 : S24) (A0 : Option Addr) (c0 : Nat) {W : World} (hl0 : x0.f2.length ≤ c0) (hC0 : Kd.C k24 W A0 x0.f2.length x0.f2) (wf0 : WF24 x0) (x1 : S24) (A1 : Option Addr) (c1 : Nat) (hl1 : x1.f2.length ≤ c1) (hC1 : Kd.C k24 W A1 x1.f2.length x1.f2) (wf1 : WF24 x1) (x2 : S24) (A2 : Option Addr) (c2 : Nat) (hl2 : x2.f2.length ≤ c2) (hC2 : Kd.C k24 W A2 x2.f2.length x2.f2) (wf2 : WF24 x2) (a3 : Int) (w3 : (Lit.int .i64 a3).wf = true) :
    Calls Tryd.prog 12 #[.agg #[.int .i64 x0.f0, .int .i64 x0.f1, .slice A0 x0.f2.length c0], .agg #[.int .i64 x1.f0, .int .i64 x1.f1, .slice A1 x1.f2.length c1], .agg #[.int .i64 x2.f0, .int .i64 x2.f1, .slice A2 x2.f2.length c2], .int .i64 a3] W fun e w' => e = .returned (.bool true) ∧ Below W.heap.size W w' := by
  obtain ⟨k, h⟩ := (Pure.TermClosed wf0 wf1 wf2 w3).rounds
  exact thyrsuslaw4_TermClosed.calls k x0.f0 x0.f1 A0 c0 x0.f2 x1.f0 x1.f1 A1 c1 x1.f2 x2.f0 x2.f1 A2 c2 x2.f2 a3 true W hC0 hl0 hC1 hl1 hC2 hl2 h
end Go.Proofs.YtcchfblekaaalaaDoor.P
