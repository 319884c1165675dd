/- TermUnder, the plain law: what Shift and Subst make of a node's kid is what they make of the kid by itself, under as many binders more. -/
import Derived.Test.YtcchfblekaaalaaDoorUndR
import Derived.Test.YtcchfblekaaalaaDoorQx1
import Derived.Test.YtcchfblekaaalaaDoorPx1
import Derived.Test.YtcchfblekaaalaaDoorMake2
/- TermUnder: its walk (genundw.py: the print's head, then the drawn regions' lemmas) -/
namespace Go.Proofs.YtcchfblekaaalaaDoor.P
open Go.RowKit Go.Proofs.YtcchfblekaaalaaDoorW.PrintWords Go.Proofs.YtcchfblekaaalaaDoorW.PrintLast Go.Proofs.YtcchfblekaaalaaDoorW.PrintMore
set_option linter.unusedVariables false
set_option linter.unusedSimpArgs false
theorem within_go (a n t : Int) (w : World) (h : thyrsuslaw4_within.f a n = some t) : Calls Tryd.prog 20 #[.int .i64 a, .int .i64 n] w fun e w' => e = .returned (.int .i64 t) ∧ Below w.heap.size w w' :=
  (thyrsuslaw4_within.calls a n t w h).mono fun e w' ⟨he, nd, hd⟩ => ⟨he, hd ▸ pw_below_drewN (Below.refl _ _) nd⟩
theorem binders_go (a n t : Int) (w : World) (h : term_Binders.f a n = some t) : Calls Tryd.prog 26 #[.int .i64 a, .int .i64 n] w fun e w' => e = .returned (.int .i64 t) ∧ Below w.heap.size w w' :=
  (term_Binders.calls a n t w h).mono fun e w' ⟨he, nd, hd⟩ => ⟨he, hd ▸ pw_below_drewN (Below.refl _ _) nd⟩
attribute [local go_sem] max2_int min2_int max_two min_two max_three min_three max_four min_four
set_option maxHeartbeats 8000000 in
set_option maxRecDepth 100000 in
theorem thyrsuslaw4_TermUnder.calls (k : Nat) (a0_0 : Int) (a0_1 : Int) (A0_2 : Option Addr) (c0_2 : Nat) (l0_2 : List (S24)) (a1_0 : Int) (a1_1 : Int) (A1_2 : Option Addr) (c1_2 : Nat) (l1_2 : List (S24)) (a2 : Int) (a3 : Int) (r : Bool) (w : World) (hr0_2 : Kd.C k24 w A0_2 l0_2.length l0_2) (hc0_2 : l0_2.length ≤ c0_2) (hr1_2 : Kd.C k24 w A1_2 l1_2.length l1_2) (hc1_2 : l1_2.length ≤ c1_2) (h : thyrsuslaw4_TermUnder.f k a0_0 a0_1 l0_2 a1_0 a1_1 l1_2 a2 a3 = some r) :
    Calls Tryd.prog 7 #[.agg #[.int .i64 a0_0, .int .i64 a0_1, .slice A0_2 l0_2.length c0_2], .agg #[.int .i64 a1_0, .int .i64 a1_1, .slice A1_2 l1_2.length c1_2], .int .i64 a2, .int .i64 a3] w fun e w' => e = .returned (.bool r) ∧ Below w.heap.size w w' := by
  have hu24 := Tryd.underlying24
  have hu29 := Tryd.underlying29
  have HR0_2 := Aside0.mk hr0_2
  have HC0_2 := Aside0.mk hc0_2
  clear hr0_2 hc0_2
  have HR1_2 := Aside0.mk hr1_2
  have HC1_2 := Aside0.mk hc1_2
  clear hr1_2 hc1_2
  have HB := Aside0.mk (Below.refl w.heap.size w)
  have H : ((thyrsuslaw4_known.f k).bind fun t165 => (if t165 = true then ((thyrsuslaw1_Few.f k a0_0 a0_1 l0_2).bind fun t166 => (if t166 = true then ((thyrsuslaw1_Few.f k a1_0 a1_1 l1_2).bind fun t167 => (thyrsuslaw4_TermUnder.j0 k a2 a3 (!t167) a0_0 a0_1 l0_2 a1_0 a1_1 l1_2)) else (thyrsuslaw4_TermUnder.j0 k a2 a3 true a0_0 a0_1 l0_2 a1_0 a1_1 l1_2))) else (none))) = some r := h
  clear h
  replace H := Option.bind_eq_some_iff.mp H
  obtain ⟨t165, A50, H⟩ := H
  replace H : (if t165 = true then ((thyrsuslaw1_Few.f k a0_0 a0_1 l0_2).bind fun t166 => (if t166 = true then ((thyrsuslaw1_Few.f k a1_0 a1_1 l1_2).bind fun t167 => (thyrsuslaw4_TermUnder.j0 k a2 a3 (!t167) a0_0 a0_1 l0_2 a1_0 a1_1 l1_2)) else (thyrsuslaw4_TermUnder.j0 k a2 a3 true a0_0 a0_1 l0_2 a1_0 a1_1 l1_2))) else (none)) = some r := H
  have A5 := Aside0.mk A50
  clear A50
  by_cases c6 : t165 = true
  · subst c6
    have H1 : ((thyrsuslaw1_Few.f k a0_0 a0_1 l0_2).bind fun t166 => (if t166 = true then ((thyrsuslaw1_Few.f k a1_0 a1_1 l1_2).bind fun t167 => (thyrsuslaw4_TermUnder.j0 k a2 a3 (!t167) a0_0 a0_1 l0_2 a1_0 a1_1 l1_2)) else (thyrsuslaw4_TermUnder.j0 k a2 a3 true a0_0 a0_1 l0_2 a1_0 a1_1 l1_2))) = some r := by rw [if_pos rfl] at H; exact H
    clear H
    have H := H1
    clear H1
    have HC7 := Aside0.mk H
    clear H
    go_enter Tryd.func7, Tryd.ntmps7
    go_upto_region 3 with (first | ((with_reducible refine gate_dst (N := 4) rfl ?_); (try (refine gate_guard (by rfl) ?_; dsimp only)); refine box_event ?hg (N := 4) ?hd (cs := #[.int .i64 a0_0, .int .i64 a0_1, .slice A0_2 l0_2.length c0_2]) (t := 24) ?hr ?_; (case hd => rfl); (case hg => rfl); (case hr => first | (go_simp; done) | (go_simp; rfl)); intro gb163 hg w8 hbox hb; have n0_ := Aside0.mk (below_step (by repeat (first | (with_reducible first | exact HB.out | apply below_alloc | apply pw_below_drewN | apply below_drew1) | exact HB.out)) hb); have n1_ := Aside0.mk (hbox); have n2_ := Aside0.mk ((by rw [hg]; exact (below_size (by repeat (first | (with_reducible first | exact HB.out | apply below_alloc | apply pw_below_drewN | apply below_drew1) | exact HB.out))) : w.heap.size ≤ gb163)); have n3_ := Aside0.mk ((by rw [hg]; exact (below_size (by repeat (first | (with_reducible first | exact HB.out | apply below_alloc | apply pw_below_drewN | apply below_drew1) | exact HB.out))) : w.heap.size ≤ gb163)); clear HB; have HB := n0_; have BK163 := n1_; have GW163 := n2_; have GE163 := n3_; clear n0_ n1_ n2_ n3_; clear hb hbox hg) | ((with_reducible refine gate_dst (N := 5) rfl ?_); (try (refine gate_guard (by rfl) ?_; dsimp only)); refine box_event ?hg (N := 5) ?hd (cs := #[.int .i64 a1_0, .int .i64 a1_1, .slice A1_2 l1_2.length c1_2]) (t := 24) ?hr ?_; (case hd => rfl); (case hg => rfl); (case hr => first | (go_simp; done) | (go_simp; rfl)); intro gb164 hg w9 hbox hb; have n0_ := Aside0.mk (blk_below (g := gb163) (o := .cells #[.int .i64 a0_0, .int .i64 a0_1, .slice A0_2 l0_2.length c0_2] 24 (0, 0)) (by (with_reducible repeat (first | refine blk_drewN ?_ _ | refine blk_drew ?_ | refine blk_alloc ?_ _)); exact BK163.out) hb); have n1_ := Aside0.mk (below_step (by repeat (first | (with_reducible first | exact HB.out | apply below_alloc | apply pw_below_drewN | apply below_drew1 | refine below_set ?_ GE163.out) | exact HB.out)) hb); have n2_ := Aside0.mk (hbox); have n3_ := Aside0.mk ((by rw [hg]; exact (below_size (by repeat (first | (with_reducible first | exact HB.out | apply below_alloc | apply pw_below_drewN | apply below_drew1 | refine below_set ?_ GE163.out) | exact HB.out))) : w.heap.size ≤ gb164)); have n4_ := Aside0.mk ((by rw [hg]; exact (below_size (by repeat (first | (with_reducible first | exact HB.out | apply below_alloc | apply pw_below_drewN | apply below_drew1 | refine below_set ?_ GE163.out) | exact HB.out))) : w.heap.size ≤ gb164)); have n5_ := Aside0.mk ((by rw [hg]; exact Nat.ne_of_lt (blk_lt (g := gb163) (o := .cells #[.int .i64 a0_0, .int .i64 a0_1, .slice A0_2 l0_2.length c0_2] 24 (0, 0)) (by (with_reducible repeat (first | refine blk_drewN ?_ _ | refine blk_drew ?_ | refine blk_alloc ?_ _)); exact BK163.out)) : gb163 ≠ gb164)); have n6_ := Aside0.mk ((by rw [hg]; exact Nat.ne_of_gt (blk_lt (g := gb163) (o := .cells #[.int .i64 a0_0, .int .i64 a0_1, .slice A0_2 l0_2.length c0_2] 24 (0, 0)) (by (with_reducible repeat (first | refine blk_drewN ?_ _ | refine blk_drew ?_ | refine blk_alloc ?_ _)); exact BK163.out)) : gb164 ≠ gb163)); clear BK163; clear HB; have BK163 := n0_; have HB := n1_; have BK164 := n2_; have GW164 := n3_; have GE164 := n4_; have NB163_164 := n5_; have NB164_163 := n6_; clear n0_ n1_ n2_ n3_ n4_ n5_ n6_; clear hb hbox hg) | ((with_reducible refine gate_callee (f := 14) rfl ?_); refine goesL_ (some 15) rfl rfl Tryd.func14 (by kernel_rfl) rfl #[] rfl (by (try simp only [List.map_toArray, List.map_cons, List.map_nil]); first | done | rfl | (simp only [List.length_drop, List.length_take]; rfl)) ?_; (with_reducible refine (thyrsuslaw4_known.calls k  true _ A5.out).mono ?_); rintro e w10 ⟨rfl, hb⟩; refine ⟨_, rfl, ?_⟩; have n0_ := Aside0.mk (blk_below (g := gb163) (o := .cells #[.int .i64 a0_0, .int .i64 a0_1, .slice A0_2 l0_2.length c0_2] 24 (0, 0)) (by (with_reducible repeat (first | refine blk_drewN ?_ _ | refine blk_drew ?_ | refine blk_alloc ?_ _)); exact BK163.out) hb); have n1_ := Aside0.mk (blk_below (g := gb164) (o := .cells #[.int .i64 a1_0, .int .i64 a1_1, .slice A1_2 l1_2.length c1_2] 24 (0, 0)) (by (with_reducible repeat (first | refine blk_drewN ?_ _ | refine blk_drew ?_ | refine blk_alloc ?_ _)); exact BK164.out) hb); have n2_ := Aside0.mk (below_step (by repeat (first | (with_reducible first | exact HB.out | apply below_alloc | apply pw_below_drewN | apply below_drew1 | refine below_set ?_ GE163.out | refine below_set ?_ GE164.out) | exact HB.out)) hb); clear BK163; clear BK164; clear HB; have BK163 := n0_; have BK164 := n1_; have HB := n2_; clear n0_ n1_ n2_; (try clear hb); (try clear hb2); (try clear hk); (try clear hi)))
    (try simp only [Act.put, List.setIfInBounds_toArray, List.set_cons_zero, List.set_cons_succ])
    go_cut [24] (fun v24 wc => ∃ (kq : Nat) (x24_6 : Bool), v24 = .bool x24_6 ∧ Aside0 (thyrsuslaw4_TermUnder.j0 kq a2 a3 x24_6 a0_0 a0_1 l0_2 a1_0 a1_1 l1_2 = some r) ∧ Aside0 (kq ≤ k) ∧ Aside0 (wc.heap[gb163]? = some (.cells #[.int .i64 a0_0, .int .i64 a0_1, (.slice A0_2 l0_2.length c0_2)] 24 (0, 0))) ∧ Aside0 (wc.heap[gb164]? = some (.cells #[.int .i64 a1_0, .int .i64 a1_1, (.slice A1_2 l1_2.length c1_2)] 24 (0, 0))) ∧ Aside0 (Below w.heap.size w wc))
    case first =>
      have H := HC7.out
      clear HC7
      replace H := Option.bind_eq_some_iff.mp H
      obtain ⟨t166, A110, H⟩ := H
      replace H : (if t166 = true then ((thyrsuslaw1_Few.f k a1_0 a1_1 l1_2).bind fun t167 => (thyrsuslaw4_TermUnder.j0 k a2 a3 (!t167) a0_0 a0_1 l0_2 a1_0 a1_1 l1_2)) else (thyrsuslaw4_TermUnder.j0 k a2 a3 true a0_0 a0_1 l0_2 a1_0 a1_1 l1_2)) = some r := H
      have A11 := Aside0.mk A110
      clear A110
      by_cases c12 : t166 = true
      · subst c12
        have H1 : ((thyrsuslaw1_Few.f k a1_0 a1_1 l1_2).bind fun t167 => (thyrsuslaw4_TermUnder.j0 k a2 a3 (!t167) a0_0 a0_1 l0_2 a1_0 a1_1 l1_2)) = some r := by rw [if_pos rfl] at H; exact H
        clear H
        have H := H1
        clear H1
        replace H := Option.bind_eq_some_iff.mp H
        obtain ⟨t167, A130, H⟩ := H
        replace H : (thyrsuslaw4_TermUnder.j0 k a2 a3 (!t167) a0_0 a0_1 l0_2 a1_0 a1_1 l1_2) = some r := H
        have A13 := Aside0.mk A130
        clear A130
        have H' := Aside0.mk H
        clear H
        have hnb14 := NB163_164.out
        have hnc14 := NB164_163.out
        have hcz15_0 : w10.cell? ⟨gb163, 0, none⟩ = some (.int .i64 a0_0) := (blk_cell BK163.out 0).trans rfl
        have hcz15_1 : w10.cell? ⟨gb163, 1, none⟩ = some (.int .i64 a0_1) := (blk_cell BK163.out 1).trans rfl
        have hcz15_2 : w10.cell? ⟨gb163, 2, none⟩ = some (.slice A0_2 l0_2.length c0_2) := (blk_cell BK163.out 2).trans rfl
        have hfz15_0 := blk_frozen BK163.out 0
        have hfz15_1 := blk_frozen BK163.out 1
        have hfz15_2 := blk_frozen BK163.out 2
        go_wp2_with (first | ((with_reducible refine gate_callee (f := 15) rfl ?_); refine goesL_ (some 18) rfl rfl Tryd.func15 (by kernel_rfl) rfl #[.agg #[.int .i64 a0_0, .int .i64 a0_1, .slice A0_2 l0_2.length c0_2]] rfl (by (try simp only [List.map_toArray, List.map_cons, List.map_nil]); first | done | rfl | (simp only [List.length_drop, List.length_take]; rfl)) ?_; (with_reducible refine (thyrsuslaw1_Few.calls k a0_0 a0_1 _ _ l0_2 true _ ?side1 ?side2 A11.out).mono ?_); (case side1 => repeat (first | exact (Kd.C_below HR0_2.out HB.out) | (with_reducible refine Kd.C_alloc ?_ _) | (with_reducible refine Kd.C_drewN ?_ _) | (with_reducible refine Kd.C_drew ?_))); (case side2 => exact HC0_2.out); rintro e w16 ⟨rfl, hb⟩; refine ⟨_, rfl, ?_⟩; have n0_ := Aside0.mk (blk_below (g := gb163) (o := .cells #[.int .i64 a0_0, .int .i64 a0_1, .slice A0_2 l0_2.length c0_2] 24 (0, 0)) (by (with_reducible repeat (first | refine blk_drewN ?_ _ | refine blk_drew ?_ | refine blk_alloc ?_ _)); exact BK163.out) hb); have n1_ := Aside0.mk (blk_below (g := gb164) (o := .cells #[.int .i64 a1_0, .int .i64 a1_1, .slice A1_2 l1_2.length c1_2] 24 (0, 0)) (by (with_reducible repeat (first | refine blk_drewN ?_ _ | refine blk_drew ?_ | refine blk_alloc ?_ _)); exact BK164.out) hb); have n2_ := Aside0.mk (below_step (by repeat (first | (with_reducible first | exact HB.out | apply below_alloc | apply pw_below_drewN | apply below_drew1 | refine below_set ?_ GE163.out | refine below_set ?_ GE164.out) | exact HB.out)) hb); clear BK163; clear BK164; clear HB; have BK163 := n0_; have BK164 := n1_; have HB := n2_; clear n0_ n1_ n2_; (try clear hb); (try clear hb2); (try clear hk); (try clear hi); have hcz17_0 : w16.cell? ⟨gb164, 0, none⟩ = some (.int .i64 a1_0) := (blk_cell BK164.out 0).trans rfl; have hcz17_1 : w16.cell? ⟨gb164, 1, none⟩ = some (.int .i64 a1_1) := (blk_cell BK164.out 1).trans rfl; have hcz17_2 : w16.cell? ⟨gb164, 2, none⟩ = some (.slice A1_2 l1_2.length c1_2) := (blk_cell BK164.out 2).trans rfl; have hfz17_0 := blk_frozen BK164.out 0; have hfz17_1 := blk_frozen BK164.out 1; have hfz17_2 := blk_frozen BK164.out 2) | (go_at_call 15; (with_reducible refine (thyrsuslaw1_Few.calls k a1_0 a1_1 _ _ l1_2 t167 _ ?side1 ?side2 A13.out).mono ?_); (case side1 => repeat (first | exact (Kd.C_below HR1_2.out HB.out) | (with_reducible refine Kd.C_alloc ?_ _) | (with_reducible refine Kd.C_drewN ?_ _) | (with_reducible refine Kd.C_drew ?_))); (case side2 => exact HC1_2.out); rintro e w18 ⟨rfl, hb⟩; have n0_ := Aside0.mk (blk_below (g := gb163) (o := .cells #[.int .i64 a0_0, .int .i64 a0_1, .slice A0_2 l0_2.length c0_2] 24 (0, 0)) (by (with_reducible repeat (first | refine blk_drewN ?_ _ | refine blk_drew ?_ | refine blk_alloc ?_ _)); exact BK163.out) hb); have n1_ := Aside0.mk (blk_below (g := gb164) (o := .cells #[.int .i64 a1_0, .int .i64 a1_1, .slice A1_2 l1_2.length c1_2] 24 (0, 0)) (by (with_reducible repeat (first | refine blk_drewN ?_ _ | refine blk_drew ?_ | refine blk_alloc ?_ _)); exact BK164.out) hb); have n2_ := Aside0.mk (below_step (by repeat (first | (with_reducible first | exact HB.out | apply below_alloc | apply pw_below_drewN | apply below_drew1 | refine below_set ?_ GE163.out | refine below_set ?_ GE164.out) | exact HB.out)) hb); clear BK163; clear BK164; clear HB; have BK163 := n0_; have BK164 := n1_; have HB := n2_; clear n0_ n1_ n2_; (try clear hb); (try clear hb2); (try clear hk); (try clear hi)))
        go_meet
        case rel => exact ⟨_, (!t167), (by first | rfl | (simp; done) | (simp [*]; done)), H', ⟨by first | omega | exact Nat.le_refl _⟩, ⟨by (with_reducible repeat (first | refine blk_drewN ?_ _ | refine blk_drew ?_ | refine blk_alloc ?_ _)); exact BK163.out⟩, ⟨by (with_reducible repeat (first | refine blk_drewN ?_ _ | refine blk_drew ?_ | refine blk_alloc ?_ _)); exact BK164.out⟩, ⟨by repeat (first | (with_reducible first | exact HB.out | apply below_alloc | apply pw_below_drewN | apply below_drew1 | refine below_set ?_ GE163.out | refine below_set ?_ GE164.out) | exact HB.out)⟩⟩
      · replace c12 := Bool.eq_false_iff.mpr c12
        subst c12
        have H1 : (thyrsuslaw4_TermUnder.j0 k a2 a3 true a0_0 a0_1 l0_2 a1_0 a1_1 l1_2) = some r := by rw [if_neg (show ¬ (false = true) by decide)] at H; exact H
        clear H
        have H := H1
        clear H1
        have H' := Aside0.mk H
        clear H
        have hnb19 := NB163_164.out
        have hnc19 := NB164_163.out
        have hcz20_0 : w10.cell? ⟨gb163, 0, none⟩ = some (.int .i64 a0_0) := (blk_cell BK163.out 0).trans rfl
        have hcz20_1 : w10.cell? ⟨gb163, 1, none⟩ = some (.int .i64 a0_1) := (blk_cell BK163.out 1).trans rfl
        have hcz20_2 : w10.cell? ⟨gb163, 2, none⟩ = some (.slice A0_2 l0_2.length c0_2) := (blk_cell BK163.out 2).trans rfl
        have hfz20_0 := blk_frozen BK163.out 0
        have hfz20_1 := blk_frozen BK163.out 1
        have hfz20_2 := blk_frozen BK163.out 2
        go_wp2_with (first | ((with_reducible refine gate_callee (f := 15) rfl ?_); refine goesL_ (some 18) rfl rfl Tryd.func15 (by kernel_rfl) rfl #[.agg #[.int .i64 a0_0, .int .i64 a0_1, .slice A0_2 l0_2.length c0_2]] rfl (by (try simp only [List.map_toArray, List.map_cons, List.map_nil]); first | done | rfl | (simp only [List.length_drop, List.length_take]; rfl)) ?_; (with_reducible refine (thyrsuslaw1_Few.calls k a0_0 a0_1 _ _ l0_2 false _ ?side1 ?side2 A11.out).mono ?_); (case side1 => repeat (first | exact (Kd.C_below HR0_2.out HB.out) | (with_reducible refine Kd.C_alloc ?_ _) | (with_reducible refine Kd.C_drewN ?_ _) | (with_reducible refine Kd.C_drew ?_))); (case side2 => exact HC0_2.out); rintro e w21 ⟨rfl, hb⟩; refine ⟨_, rfl, ?_⟩; have n0_ := Aside0.mk (blk_below (g := gb163) (o := .cells #[.int .i64 a0_0, .int .i64 a0_1, .slice A0_2 l0_2.length c0_2] 24 (0, 0)) (by (with_reducible repeat (first | refine blk_drewN ?_ _ | refine blk_drew ?_ | refine blk_alloc ?_ _)); exact BK163.out) hb); have n1_ := Aside0.mk (blk_below (g := gb164) (o := .cells #[.int .i64 a1_0, .int .i64 a1_1, .slice A1_2 l1_2.length c1_2] 24 (0, 0)) (by (with_reducible repeat (first | refine blk_drewN ?_ _ | refine blk_drew ?_ | refine blk_alloc ?_ _)); exact BK164.out) hb); have n2_ := Aside0.mk (below_step (by repeat (first | (with_reducible first | exact HB.out | apply below_alloc | apply pw_below_drewN | apply below_drew1 | refine below_set ?_ GE163.out | refine below_set ?_ GE164.out) | exact HB.out)) hb); clear BK163; clear BK164; clear HB; have BK163 := n0_; have BK164 := n1_; have HB := n2_; clear n0_ n1_ n2_; (try clear hb); (try clear hb2); (try clear hk); (try clear hi)))
        go_meet
        case rel => exact ⟨_, (true), (by first | rfl | (simp; done) | (simp [*]; done)), H', ⟨by first | omega | exact Nat.le_refl _⟩, ⟨by (with_reducible repeat (first | refine blk_drewN ?_ _ | refine blk_drew ?_ | refine blk_alloc ?_ _)); exact BK163.out⟩, ⟨by (with_reducible repeat (first | refine blk_drewN ?_ _ | refine blk_drew ?_ | refine blk_alloc ?_ _)); exact BK164.out⟩, ⟨by repeat (first | (with_reducible first | exact HB.out | apply below_alloc | apply pw_below_drewN | apply below_drew1 | refine below_set ?_ GE163.out | refine below_set ?_ GE164.out) | exact HB.out)⟩⟩
    case rest =>
      clear HC7
      try clear c1
      try clear p2
      try clear c6
      try clear c7
      try clear c12
      try clear c14
      try clear c15
      try clear c19
      try clear hcz15_0
      try clear hcz15_1
      try clear hcz15_2
      try clear hcz17_0
      try clear hcz17_1
      try clear hcz17_2
      try clear hcz20_0
      try clear hcz20_1
      try clear hcz20_2
      try clear hfz15_0
      try clear hfz15_1
      try clear hfz15_2
      try clear hfz17_0
      try clear hfz17_1
      try clear hfz17_2
      try clear hfz20_0
      try clear hfz20_1
      try clear hfz20_2
      obtain ⟨kq, x24_6, rfl, HA, HJ6, BK163, BK164, HB⟩ := hcut
      cases kq with
      | zero => exact absurd HA.out (by simp [thyrsuslaw4_TermUnder.j0])
      | succ kj6 =>
        have H := HA.out
        clear HA
        simp only [thyrsuslaw4_TermUnder.j0] at H
        by_cases c22 : x24_6 = true
        · subst c22
          have H1 : (some true) = some r := by rw [if_pos rfl] at H; exact H
          clear H
          have H := H1
          clear H1
          obtain rfl := Option.some.inj H
          go_wp2
          go_ret
          exact ⟨by first | rfl | (simp [errW_none, errW_some] <;> rfl) | (simp [*, errW_none, errW_some] <;> rfl), by repeat (first | (with_reducible first | exact HB.out | apply below_alloc | apply pw_below_drewN | apply below_drew1 | refine below_set ?_ GE163.out | refine below_set ?_ GE164.out) | exact HB.out)⟩
        · replace c22 := Bool.eq_false_iff.mpr c22
          subst c22
          have H1 : ((thyrsuslaw1_Make.f kj6 a0_0 a0_1 l0_2 6 3).bind fun bt168 => ((thyrsuslaw1_Make.f kj6 a1_0 a1_1 l1_2 3 2).bind fun bt173 => ((thyrsuslaw4_within.f a2 4).bind fun t180 => ((thyrsuslaw4_within.f a3 4).bind fun t181 => ((term_Shift.f kj6 bt168.1 bt168.2.1 bt168.2.2 t181 t180).bind fun bt182 => ((term_Subst.f kj6 bt168.1 bt168.2.1 bt168.2.2 t180 bt173.1 bt173.2.1 bt173.2.2).bind fun bt187 => (if bt168.1 = 1 then (some true) else (if (bt182.2.2.length : Int) = (bt168.2.2.length : Int) then (if (bt187.2.2.length : Int) = (bt168.2.2.length : Int) then (if bt182.1 = bt168.1 then (thyrsuslaw4_TermUnder.j1 kj6 t180 t181 (bt187.1 != bt168.1) bt168.1 bt168.2.1 bt168.2.2 bt173.1 bt173.2.1 bt173.2.2 bt182.1 bt182.2.1 bt182.2.2 bt187.1 bt187.2.1 bt187.2.2) else (thyrsuslaw4_TermUnder.j1 kj6 t180 t181 true bt168.1 bt168.2.1 bt168.2.2 bt173.1 bt173.2.1 bt173.2.2 bt182.1 bt182.2.1 bt182.2.2 bt187.1 bt187.2.1 bt187.2.2)) else (thyrsuslaw4_TermUnder.j1 kj6 t180 t181 true bt168.1 bt168.2.1 bt168.2.2 bt173.1 bt173.2.1 bt173.2.2 bt182.1 bt182.2.1 bt182.2.2 bt187.1 bt187.2.1 bt187.2.2)) else (thyrsuslaw4_TermUnder.j1 kj6 t180 t181 true bt168.1 bt168.2.1 bt168.2.2 bt173.1 bt173.2.1 bt173.2.2 bt182.1 bt182.2.1 bt182.2.2 bt187.1 bt187.2.1 bt187.2.2))))))))) = some r := by rw [if_neg (show ¬ (false = true) by decide)] at H; exact H
          clear H
          have H := H1
          clear H1
          replace H := Option.bind_eq_some_iff.mp H
          obtain ⟨⟨t168, t169, t170⟩, A230, H⟩ := H
          replace H : ((thyrsuslaw1_Make.f kj6 a1_0 a1_1 l1_2 3 2).bind fun bt173 => ((thyrsuslaw4_within.f a2 4).bind fun t180 => ((thyrsuslaw4_within.f a3 4).bind fun t181 => ((term_Shift.f kj6 t168 t169 t170 t181 t180).bind fun bt182 => ((term_Subst.f kj6 t168 t169 t170 t180 bt173.1 bt173.2.1 bt173.2.2).bind fun bt187 => (if t168 = 1 then (some true) else (if (bt182.2.2.length : Int) = (t170.length : Int) then (if (bt187.2.2.length : Int) = (t170.length : Int) then (if bt182.1 = t168 then (thyrsuslaw4_TermUnder.j1 kj6 t180 t181 (bt187.1 != t168) t168 t169 t170 bt173.1 bt173.2.1 bt173.2.2 bt182.1 bt182.2.1 bt182.2.2 bt187.1 bt187.2.1 bt187.2.2) else (thyrsuslaw4_TermUnder.j1 kj6 t180 t181 true t168 t169 t170 bt173.1 bt173.2.1 bt173.2.2 bt182.1 bt182.2.1 bt182.2.2 bt187.1 bt187.2.1 bt187.2.2)) else (thyrsuslaw4_TermUnder.j1 kj6 t180 t181 true t168 t169 t170 bt173.1 bt173.2.1 bt173.2.2 bt182.1 bt182.2.1 bt182.2.2 bt187.1 bt187.2.1 bt187.2.2)) else (thyrsuslaw4_TermUnder.j1 kj6 t180 t181 true t168 t169 t170 bt173.1 bt173.2.1 bt173.2.2 bt182.1 bt182.2.1 bt182.2.2 bt187.1 bt187.2.1 bt187.2.2)))))))) = some r := H
          have A23 := Aside0.mk A230
          clear A230
          replace H := Option.bind_eq_some_iff.mp H
          obtain ⟨⟨t173, t174, t175⟩, A240, H⟩ := H
          replace H : ((thyrsuslaw4_within.f a2 4).bind fun t180 => ((thyrsuslaw4_within.f a3 4).bind fun t181 => ((term_Shift.f kj6 t168 t169 t170 t181 t180).bind fun bt182 => ((term_Subst.f kj6 t168 t169 t170 t180 t173 t174 t175).bind fun bt187 => (if t168 = 1 then (some true) else (if (bt182.2.2.length : Int) = (t170.length : Int) then (if (bt187.2.2.length : Int) = (t170.length : Int) then (if bt182.1 = t168 then (thyrsuslaw4_TermUnder.j1 kj6 t180 t181 (bt187.1 != t168) t168 t169 t170 t173 t174 t175 bt182.1 bt182.2.1 bt182.2.2 bt187.1 bt187.2.1 bt187.2.2) else (thyrsuslaw4_TermUnder.j1 kj6 t180 t181 true t168 t169 t170 t173 t174 t175 bt182.1 bt182.2.1 bt182.2.2 bt187.1 bt187.2.1 bt187.2.2)) else (thyrsuslaw4_TermUnder.j1 kj6 t180 t181 true t168 t169 t170 t173 t174 t175 bt182.1 bt182.2.1 bt182.2.2 bt187.1 bt187.2.1 bt187.2.2)) else (thyrsuslaw4_TermUnder.j1 kj6 t180 t181 true t168 t169 t170 t173 t174 t175 bt182.1 bt182.2.1 bt182.2.2 bt187.1 bt187.2.1 bt187.2.2))))))) = some r := H
          have A24 := Aside0.mk A240
          clear A240
          replace H := Option.bind_eq_some_iff.mp H
          obtain ⟨t180, A250, H⟩ := H
          replace H : ((thyrsuslaw4_within.f a3 4).bind fun t181 => ((term_Shift.f kj6 t168 t169 t170 t181 t180).bind fun bt182 => ((term_Subst.f kj6 t168 t169 t170 t180 t173 t174 t175).bind fun bt187 => (if t168 = 1 then (some true) else (if (bt182.2.2.length : Int) = (t170.length : Int) then (if (bt187.2.2.length : Int) = (t170.length : Int) then (if bt182.1 = t168 then (thyrsuslaw4_TermUnder.j1 kj6 t180 t181 (bt187.1 != t168) t168 t169 t170 t173 t174 t175 bt182.1 bt182.2.1 bt182.2.2 bt187.1 bt187.2.1 bt187.2.2) else (thyrsuslaw4_TermUnder.j1 kj6 t180 t181 true t168 t169 t170 t173 t174 t175 bt182.1 bt182.2.1 bt182.2.2 bt187.1 bt187.2.1 bt187.2.2)) else (thyrsuslaw4_TermUnder.j1 kj6 t180 t181 true t168 t169 t170 t173 t174 t175 bt182.1 bt182.2.1 bt182.2.2 bt187.1 bt187.2.1 bt187.2.2)) else (thyrsuslaw4_TermUnder.j1 kj6 t180 t181 true t168 t169 t170 t173 t174 t175 bt182.1 bt182.2.1 bt182.2.2 bt187.1 bt187.2.1 bt187.2.2)))))) = some r := H
          have A25 := Aside0.mk A250
          clear A250
          replace H := Option.bind_eq_some_iff.mp H
          obtain ⟨t181, A260, H⟩ := H
          replace H : ((term_Shift.f kj6 t168 t169 t170 t181 t180).bind fun bt182 => ((term_Subst.f kj6 t168 t169 t170 t180 t173 t174 t175).bind fun bt187 => (if t168 = 1 then (some true) else (if (bt182.2.2.length : Int) = (t170.length : Int) then (if (bt187.2.2.length : Int) = (t170.length : Int) then (if bt182.1 = t168 then (thyrsuslaw4_TermUnder.j1 kj6 t180 t181 (bt187.1 != t168) t168 t169 t170 t173 t174 t175 bt182.1 bt182.2.1 bt182.2.2 bt187.1 bt187.2.1 bt187.2.2) else (thyrsuslaw4_TermUnder.j1 kj6 t180 t181 true t168 t169 t170 t173 t174 t175 bt182.1 bt182.2.1 bt182.2.2 bt187.1 bt187.2.1 bt187.2.2)) else (thyrsuslaw4_TermUnder.j1 kj6 t180 t181 true t168 t169 t170 t173 t174 t175 bt182.1 bt182.2.1 bt182.2.2 bt187.1 bt187.2.1 bt187.2.2)) else (thyrsuslaw4_TermUnder.j1 kj6 t180 t181 true t168 t169 t170 t173 t174 t175 bt182.1 bt182.2.1 bt182.2.2 bt187.1 bt187.2.1 bt187.2.2))))) = some r := H
          have A26 := Aside0.mk A260
          clear A260
          replace H := Option.bind_eq_some_iff.mp H
          obtain ⟨⟨t182, t183, t184⟩, A270, H⟩ := H
          replace H : ((term_Subst.f kj6 t168 t169 t170 t180 t173 t174 t175).bind fun bt187 => (if t168 = 1 then (some true) else (if (t184.length : Int) = (t170.length : Int) then (if (bt187.2.2.length : Int) = (t170.length : Int) then (if t182 = t168 then (thyrsuslaw4_TermUnder.j1 kj6 t180 t181 (bt187.1 != t168) t168 t169 t170 t173 t174 t175 t182 t183 t184 bt187.1 bt187.2.1 bt187.2.2) else (thyrsuslaw4_TermUnder.j1 kj6 t180 t181 true t168 t169 t170 t173 t174 t175 t182 t183 t184 bt187.1 bt187.2.1 bt187.2.2)) else (thyrsuslaw4_TermUnder.j1 kj6 t180 t181 true t168 t169 t170 t173 t174 t175 t182 t183 t184 bt187.1 bt187.2.1 bt187.2.2)) else (thyrsuslaw4_TermUnder.j1 kj6 t180 t181 true t168 t169 t170 t173 t174 t175 t182 t183 t184 bt187.1 bt187.2.1 bt187.2.2)))) = some r := H
          have A27 := Aside0.mk A270
          clear A270
          replace H := Option.bind_eq_some_iff.mp H
          obtain ⟨⟨t187, t188, t189⟩, A280, H⟩ := H
          replace H : (if t168 = 1 then (some true) else (if (t184.length : Int) = (t170.length : Int) then (if (t189.length : Int) = (t170.length : Int) then (if t182 = t168 then (thyrsuslaw4_TermUnder.j1 kj6 t180 t181 (t187 != t168) t168 t169 t170 t173 t174 t175 t182 t183 t184 t187 t188 t189) else (thyrsuslaw4_TermUnder.j1 kj6 t180 t181 true t168 t169 t170 t173 t174 t175 t182 t183 t184 t187 t188 t189)) else (thyrsuslaw4_TermUnder.j1 kj6 t180 t181 true t168 t169 t170 t173 t174 t175 t182 t183 t184 t187 t188 t189)) else (thyrsuslaw4_TermUnder.j1 kj6 t180 t181 true t168 t169 t170 t173 t174 t175 t182 t183 t184 t187 t188 t189))) = some r := H
          have A28 := Aside0.mk A280
          clear A280
          have H30 := Aside0.mk H
          clear H
          try go_wp2
          refine under_r5 (by rfl) kj6 a0_0 a0_1 A0_2 c0_2 l0_2 gb163 rfl BK163.out (Kd.C_below HR0_2.out HB.out) HC0_2.out a1_0 a1_1 A1_2 c1_2 l1_2 gb164 rfl BK164.out (Kd.C_below HR1_2.out HB.out) HC1_2.out t168 t169 t170 t173 t174 t175 A23.out A24.out ?_
          rintro u1 u3 g4 g5 w1 hb _ S4 F4 _ S5 F5
          replace HB := Aside0.mk (below_step HB.out hb)
          clear hb BK163 BK164
          have B4 := Aside0.mk S4
          have T4 := Aside0.mk F4
          clear S4 F4
          have B5 := Aside0.mk S5
          have T5 := Aside0.mk F5
          clear S5 F5
          (try simp only [Act.put, List.setIfInBounds_toArray, List.set_cons_zero, List.set_cons_succ])
          go_wp2_with (first | ((with_reducible refine gate_callee (f := 20) rfl ?_); refine goesL_ (some 30) rfl rfl Tryd.func20 (by kernel_rfl) rfl #[.int .i64 a2, .int .i64 4] rfl (by (try simp only [List.map_toArray, List.map_cons, List.map_nil]); first | done | rfl | (simp only [List.length_drop, List.length_take]; rfl)) ?_; refine (within_go a2 4 t180 _ A25.out).mono ?_; rintro e w2 ⟨rfl, hb⟩; refine ⟨_, rfl, ?_⟩; replace B4 := Aside0.mk (blk_below B4.out hb); replace T4 := Aside0.mk (TV.step T4.out hb); replace B5 := Aside0.mk (blk_below B5.out hb); replace T5 := Aside0.mk (TV.step T5.out hb); replace HB := Aside0.mk (below_step HB.out hb); clear hb) | ((with_reducible refine gate_callee (f := 20) rfl ?_); refine goesL_ (some 32) rfl rfl Tryd.func20 (by kernel_rfl) rfl #[.int .i64 a3, .int .i64 4] rfl (by (try simp only [List.map_toArray, List.map_cons, List.map_nil]); first | done | rfl | (simp only [List.length_drop, List.length_take]; rfl)) ?_; refine (within_go a3 4 t181 _ A26.out).mono ?_; rintro e w2 ⟨rfl, hb⟩; refine ⟨_, rfl, ?_⟩; replace B4 := Aside0.mk (blk_below B4.out hb); replace T4 := Aside0.mk (TV.step T4.out hb); replace B5 := Aside0.mk (blk_below B5.out hb); replace T5 := Aside0.mk (TV.step T5.out hb); replace HB := Aside0.mk (below_step HB.out hb); clear hb))
          refine under_r7 (by rfl) kj6 t168 t169 u1 t170 g4 rfl B4.out T4.out t173 t174 u3 t175 g5 rfl B5.out T5.out t180 rfl t181 rfl t182 t183 t184 t187 t188 t189 A27.out A28.out ?_
          rintro u6 u7 g8 g9 w3 hb _ S8 F8 _ S9 F9
          replace B4 := Aside0.mk (blk_below B4.out hb)
          replace T4 := Aside0.mk (TV.step T4.out hb)
          replace B5 := Aside0.mk (blk_below B5.out hb)
          replace T5 := Aside0.mk (TV.step T5.out hb)
          replace HB := Aside0.mk (below_step HB.out hb)
          clear hb
          have B8 := Aside0.mk S8
          have T8 := Aside0.mk F8
          clear S8 F8
          have B9 := Aside0.mk S9
          have T9 := Aside0.mk F9
          clear S9 F9
          (try simp only [Act.put, List.setIfInBounds_toArray, List.set_cons_zero, List.set_cons_succ])
          obtain ⟨At, ct, e_⟩ := Kd.V_slice T4.out
          subst e_
          obtain ⟨As, cs, e_⟩ := Kd.V_slice T8.out
          subst e_
          obtain ⟨Am, cm, e_⟩ := Kd.V_slice T9.out
          subst e_
          have H := H30.out
          clear H30
          have hz4_0 : w3.cell? ⟨g4, 0, none⟩ = some (.int .i64 t168) := (blk_cell B4.out 0).trans rfl
          have hz4_1 : w3.cell? ⟨g4, 1, none⟩ = some (.int .i64 t169) := (blk_cell B4.out 1).trans rfl
          have hz4_2 : w3.cell? ⟨g4, 2, none⟩ = some ((.slice At t170.length ct)) := (blk_cell B4.out 2).trans rfl
          have hz8_0 : w3.cell? ⟨g8, 0, none⟩ = some (.int .i64 t182) := (blk_cell B8.out 0).trans rfl
          have hz8_1 : w3.cell? ⟨g8, 1, none⟩ = some (.int .i64 t183) := (blk_cell B8.out 1).trans rfl
          have hz8_2 : w3.cell? ⟨g8, 2, none⟩ = some ((.slice As t184.length cs)) := (blk_cell B8.out 2).trans rfl
          have hz9_0 : w3.cell? ⟨g9, 0, none⟩ = some (.int .i64 t187) := (blk_cell B9.out 0).trans rfl
          have hz9_1 : w3.cell? ⟨g9, 1, none⟩ = some (.int .i64 t188) := (blk_cell B9.out 1).trans rfl
          have hz9_2 : w3.cell? ⟨g9, 2, none⟩ = some ((.slice Am t189.length cm)) := (blk_cell B9.out 2).trans rfl
          by_cases c29 : t168 = 1
          · rw [if_pos c29] at H
            have c29b0 : (t168 == 1) = true := beq_iff_eq.mpr c29
            have c29b1 : (t168 != 1) = false := bne_eq_false_iff_eq.mpr c29
            obtain rfl := Option.some.inj H
            try go_wp2
            go_ret
            exact ⟨by first | rfl | (simp [errW_none, errW_some] <;> rfl) | (simp [*, errW_none, errW_some] <;> rfl), HB.out⟩
          · rw [if_neg c29] at H
            have c29b0 : (t168 == 1) = false := beq_eq_false_iff_ne.mpr c29
            have c29b1 : (t168 != 1) = true := bne_iff_ne.mpr c29
            by_cases l1 : (t184.length : Int) = (t170.length : Int)
            rotate_left
            · rw [if_neg l1] at H
              exact absurd H (by cases kj6 <;> simp [thyrsuslaw4_TermUnder.j1])
            rw [if_pos l1] at H
            have l1b0 : ((t184.length : Int) == (t170.length : Int)) = true := beq_iff_eq.mpr l1
            have l1b1 : ((t184.length : Int) != (t170.length : Int)) = false := bne_eq_false_iff_eq.mpr l1
            by_cases l2 : (t189.length : Int) = (t170.length : Int)
            rotate_left
            · rw [if_neg l2] at H
              exact absurd H (by cases kj6 <;> simp [thyrsuslaw4_TermUnder.j1])
            rw [if_pos l2] at H
            have l2b0 : ((t189.length : Int) == (t170.length : Int)) = true := beq_iff_eq.mpr l2
            have l2b1 : ((t189.length : Int) != (t170.length : Int)) = false := bne_eq_false_iff_eq.mpr l2
            by_cases l3 : t182 = t168
            rotate_left
            · rw [if_neg l3] at H
              exact absurd H (by cases kj6 <;> simp [thyrsuslaw4_TermUnder.j1])
            rw [if_pos l3] at H
            have l3b0 : (t182 == t168) = true := beq_iff_eq.mpr l3
            have l3b1 : (t182 != t168) = false := bne_eq_false_iff_eq.mpr l3
            by_cases l4 : t187 = t168
            rotate_left
            · rw [show (t187 != t168) = true from bne_iff_ne.mpr l4] at H
              exact absurd H (by cases kj6 <;> simp [thyrsuslaw4_TermUnder.j1])
            have l4b0 : (t187 == t168) = true := beq_iff_eq.mpr l4
            have l4b1 : (t187 != t168) = false := bne_eq_false_iff_eq.mpr l4
            rw [l4b1] at H
            cases kj6 with
            | zero => exact absurd H (by simp [thyrsuslaw4_TermUnder.j1])
            | succ k2 =>
              simp only [thyrsuslaw4_TermUnder.j1, Bool.false_eq_true, if_false] at H
              have H' := Aside0.mk H
              clear H l1 l2 l3 l4 c29
              go_wp2
              go_loopg [13] k2 (fun kq v13 w' => ∃ (x13 : Int), v13 = .int .i64 x13 ∧ Aside0 (thyrsuslaw4_TermUnder.l0 kq t180 t181 x13 t168 t169 t170 t173 t174 t175 t182 t183 t184 t187 t188 t189 = some r) ∧ Aside0 (kq ≤ k2) ∧ Aside0 (w'.heap[g4]? = some (.cells #[.int .i64 t168, .int .i64 t169, .slice At t170.length ct] 29 (0, 0))) ∧ Aside0 (TV w' (fun _ => False) (.slice At t170.length ct) t170) ∧ Aside0 (w'.heap[g5]? = some (.cells #[.int .i64 t173, .int .i64 t174, u3] 29 (0, 0))) ∧ Aside0 (TV w' (fun _ => False) u3 t175) ∧ Aside0 (w'.heap[g8]? = some (.cells #[.int .i64 t182, .int .i64 t183, .slice As t184.length cs] 29 (0, 0))) ∧ Aside0 (TV w' (fun _ => False) (.slice As t184.length cs) t184) ∧ Aside0 (w'.heap[g9]? = some (.cells #[.int .i64 t187, .int .i64 t188, .slice Am t189.length cm] 29 (0, 0))) ∧ Aside0 (TV w' (fun _ => False) (.slice Am t189.length cm) t189) ∧ Aside0 (Below w.heap.size w w'))
              case atStart => exact ⟨0, (by first | rfl | (simp; done) | (simp [*]; done)), H', ⟨Nat.le_refl _⟩, ⟨by first | exact B4.out | exact blk_below B4.out (by repeat (first | exact Below.refl _ _ | apply pw_below_drewN | apply below_drew1))⟩, ⟨by first | exact T4.out | exact TV.step T4.out (by repeat (first | exact Below.refl _ _ | apply pw_below_drewN | apply below_drew1))⟩, ⟨by first | exact B5.out | exact blk_below B5.out (by repeat (first | exact Below.refl _ _ | apply pw_below_drewN | apply below_drew1))⟩, ⟨by first | exact T5.out | exact TV.step T5.out (by repeat (first | exact Below.refl _ _ | apply pw_below_drewN | apply below_drew1))⟩, ⟨by first | exact B8.out | exact blk_below B8.out (by repeat (first | exact Below.refl _ _ | apply pw_below_drewN | apply below_drew1))⟩, ⟨by first | exact T8.out | exact TV.step T8.out (by repeat (first | exact Below.refl _ _ | apply pw_below_drewN | apply below_drew1))⟩, ⟨by first | exact B9.out | exact blk_below B9.out (by repeat (first | exact Below.refl _ _ | apply pw_below_drewN | apply below_drew1))⟩, ⟨by first | exact T9.out | exact TV.step T9.out (by repeat (first | exact Below.refl _ _ | apply pw_below_drewN | apply below_drew1))⟩, ⟨by repeat (first | exact HB.out | apply pw_below_drewN | apply below_drew1)⟩⟩
              case round =>
                clear H' HB B4 T4 B5 T5 B8 T8 B9 T9 hz4_0 hz4_1 hz4_2 hz8_0 hz8_1 hz8_2 hz9_0 hz9_1 hz9_2
                try clear p2
                obtain ⟨x13, rfl, HA, HK3, B4, T4, B5, T5, B8, T8, B9, T9, HB⟩ := hrel
                cases gk with
                | zero => exact absurd HA.out (by simp [thyrsuslaw4_TermUnder.l0])
                | succ k3 =>
                  have H := HA.out
                  clear HA
                  simp only [thyrsuslaw4_TermUnder.l0] at H
                  have hz4_0 : wr.cell? ⟨g4, 0, none⟩ = some (.int .i64 t168) := (blk_cell B4.out 0).trans rfl
                  have hz4_1 : wr.cell? ⟨g4, 1, none⟩ = some (.int .i64 t169) := (blk_cell B4.out 1).trans rfl
                  have hz4_2 : wr.cell? ⟨g4, 2, none⟩ = some ((.slice At t170.length ct)) := (blk_cell B4.out 2).trans rfl
                  by_cases c1_ : x13 < (t170.length : Int)
                  rotate_left
                  · rw [if_neg c1_] at H
                    have c1b : decide (x13 < (t170.length : Int)) = false := decide_eq_false c1_
                    clear c1_
                    obtain rfl := Option.some.inj H
                    go_wp2
                    go_ret
                    exact ⟨by first | rfl | (simp [errW_none, errW_some] <;> rfl) | (simp [*, errW_none, errW_some] <;> rfl), HB.out⟩
                  rw [if_pos c1_] at H
                  have c1b : decide (x13 < (t170.length : Int)) = true := decide_eq_true c1_
                  obtain ⟨t194, D1, H⟩ := Option.bind_eq_some_iff.mp H
                  by_cases c2_ : 0 ≤ x13
                  rotate_left
                  · rw [if_neg c2_] at H
                    exact absurd H (by simp)
                  rw [if_pos c2_] at H
                  by_cases c3_ : x13 < (t184.length : Int)
                  rotate_left
                  · rw [if_neg c3_] at H
                    exact absurd H (by simp)
                  rw [if_pos c3_] at H
                  obtain ⟨⟨p1, p2_, p3⟩, D2, H⟩ := Option.bind_eq_some_iff.mp H
                  obtain ⟨t202, D3, H⟩ := Option.bind_eq_some_iff.mp H
                  cases t202 with
                  | false => exact absurd H (by simp)
                  | true =>
                    simp only [if_true] at H
                    by_cases c4_ : x13 < (t189.length : Int)
                    rotate_left
                    · rw [if_neg c4_] at H
                      exact absurd H (by simp)
                    rw [if_pos c4_] at H
                    obtain ⟨⟨p4, p5, p6⟩, D4, H⟩ := Option.bind_eq_some_iff.mp H
                    obtain ⟨⟨p7, p8, p9⟩, D5, H⟩ := Option.bind_eq_some_iff.mp H
                    obtain ⟨t215, D6, H⟩ := Option.bind_eq_some_iff.mp H
                    cases t215 with
                    | false => exact absurd H (by simp)
                    | true =>
                      simp only [if_true] at H
                      have H' := Aside0.mk H
                      have G1 := Aside0.mk D1
                      have G2 := Aside0.mk D2
                      have G3 := Aside0.mk D3
                      have G4 := Aside0.mk D4
                      have G5 := Aside0.mk D5
                      have G6 := Aside0.mk D6
                      have C1 := Aside0.mk c1_
                      have C2 := Aside0.mk c2_
                      have C3 := Aside0.mk c3_
                      have C4 := Aside0.mk c4_
                      clear H D1 D2 D3 D4 D5 D6 c1_ c2_ c3_ c4_
                      go_wp2_with (first | ((with_reducible refine gate_callee (f := 26) rfl ?_); refine goesL_ (some 84) rfl rfl Tryd.func26 (by kernel_rfl) rfl #[.int .i64 t168, .int .i64 x13] rfl (by (try simp only [List.map_toArray, List.map_cons, List.map_nil]); first | done | rfl | (simp only [List.length_drop, List.length_take]; rfl)) ?_; refine (binders_go t168 x13 t194 _ G1.out).mono ?_; rintro e w5 ⟨rfl, hb⟩; refine ⟨_, rfl, ?_⟩; clear hz4_0 hz4_1 hz4_2; replace B4 := Aside0.mk (blk_below B4.out hb); replace T4 := Aside0.mk (TV.step T4.out hb); replace B5 := Aside0.mk (blk_below B5.out hb); replace T5 := Aside0.mk (TV.step T5.out hb); replace B8 := Aside0.mk (blk_below B8.out hb); replace T8 := Aside0.mk (TV.step T8.out hb); replace B9 := Aside0.mk (blk_below B9.out hb); replace T9 := Aside0.mk (TV.step T9.out hb); replace HB := Aside0.mk (below_step HB.out hb); clear hb))
                      refine under_r16 (by rfl) k3 x13 rfl t181 rfl t180 rfl t194 rfl C2.out t173 t174 u3 t175 g5 rfl B5.out T5.out t182 t183 As cs t184 g8 rfl B8.out T8.out C3.out t168 t169 At ct t170 g4 rfl B4.out T4.out C1.out t187 t188 Am cm t189 g9 rfl B9.out T9.out C4.out p1 p2_ p3 p4 p5 p6 p7 p8 p9 G2.out G3.out G4.out G5.out G6.out ?_
                      rintro ad1_ E1_ ad2_ E2_ ad3_ E3_ z1 z2 z3 w6 hb
                      replace B4 := Aside0.mk (blk_below B4.out hb)
                      replace T4 := Aside0.mk (TV.step T4.out hb)
                      replace B5 := Aside0.mk (blk_below B5.out hb)
                      replace T5 := Aside0.mk (TV.step T5.out hb)
                      replace B8 := Aside0.mk (blk_below B8.out hb)
                      replace T8 := Aside0.mk (TV.step T8.out hb)
                      replace B9 := Aside0.mk (blk_below B9.out hb)
                      replace T9 := Aside0.mk (TV.step T9.out hb)
                      replace HB := Aside0.mk (below_step HB.out hb)
                      clear hb
                      (try simp only [Act.put, List.setIfInBounds_toArray, List.set_cons_zero, List.set_cons_succ])
                      try go_wp2
                      go_roundg k3
                      case measure => have := HJ6.out; have := HK3.out; omega
                      case rel => exact ⟨(wrap64 (x13 + 1)), (by first | rfl | (simp; done) | (simp [*]; done)), H', ⟨by have := HJ6.out; have := HK3.out; omega⟩, ⟨by first | exact B4.out | exact blk_below B4.out (by repeat (first | exact Below.refl _ _ | apply pw_below_drewN | apply below_drew1))⟩, ⟨by first | exact T4.out | exact TV.step T4.out (by repeat (first | exact Below.refl _ _ | apply pw_below_drewN | apply below_drew1))⟩, ⟨by first | exact B5.out | exact blk_below B5.out (by repeat (first | exact Below.refl _ _ | apply pw_below_drewN | apply below_drew1))⟩, ⟨by first | exact T5.out | exact TV.step T5.out (by repeat (first | exact Below.refl _ _ | apply pw_below_drewN | apply below_drew1))⟩, ⟨by first | exact B8.out | exact blk_below B8.out (by repeat (first | exact Below.refl _ _ | apply pw_below_drewN | apply below_drew1))⟩, ⟨by first | exact T8.out | exact TV.step T8.out (by repeat (first | exact Below.refl _ _ | apply pw_below_drewN | apply below_drew1))⟩, ⟨by first | exact B9.out | exact blk_below B9.out (by repeat (first | exact Below.refl _ _ | apply pw_below_drewN | apply below_drew1))⟩, ⟨by first | exact T9.out | exact TV.step T9.out (by repeat (first | exact Below.refl _ _ | apply pw_below_drewN | apply below_drew1))⟩, ⟨by repeat (first | exact HB.out | apply pw_below_drewN | apply below_drew1)⟩⟩
  · replace c6 := Bool.eq_false_iff.mpr c6
    subst c6
    have H1 : (none) = some r := by rw [if_neg (show ¬ (false = true) by decide)] at H; exact H
    exact absurd H1 (by simp)
end Go.Proofs.YtcchfblekaaalaaDoor.P
namespace Go.Proofs.YtcchfblekaaalaaDoor.Pure
open Go.RowKit Go.Proofs.YtcchfblekaaalaaDoor.P Go.Proofs.YtcchfblekaaalaaDoorW.PrintWords Go.Proofs.YtcchfblekaaalaaDoorW.PrintLast Go.Proofs.YtcchfblekaaalaaDoorW.PrintMore
set_option linter.unusedVariables false
/- what a kid of a node comes to -/
mutual
theorem ea_move {q q' : Int → Int → S29} {d : Int} (hq : ∀ b ah, 0 ≤ ah → q b (ah + d) = q' b ah) : ∀ (t : S29) (ah : Int), 0 ≤ ah → ea q (ah + d) t = ea q' ah t
  | ⟨a, b, l⟩, ah, h0 => by
    by_cases h : a = 1
    · subst h
      rw [ea_var, ea_var, hq b ah h0]
    · rw [ea_node _ _ _ _ _ h, ea_node _ _ _ _ _ h, eas_move hq l ah a 0 h0]
theorem eas_move {q q' : Int → Int → S29} {d : Int} (hq : ∀ b ah, 0 ≤ ah → q b (ah + d) = q' b ah) : ∀ (l : List S29) (ah a : Int) (i : Nat), 0 ≤ ah → eas q (ah + d) a i l = eas q' ah a i l
  | [], ah, a, i, h0 => by rw [eas, eas]
  | t :: l, ah, a, i, h0 => by
    have hb := bnd_range a (i : Int)
    have h1 := ea_move hq t (ah + bnd a i) (by omega)
    rw [eas, eas, eas_move hq l ah a (i + 1) h0, show ah + d + bnd a i = ah + bnd a i + d by omega, h1]
end
theorem sh_kid (y f d : Int) (t : S29) : ea (shQ y f) d t = sh y (f + d) 0 t := by
  have := ea_move (q := shQ y f) (q' := shQ y (f + d)) (d := d) (fun b ah _ => by
    unfold shQ
    by_cases h : f ≤ b - (ah + d)
    · rw [if_pos h, if_pos (by omega)]
    · rw [if_neg h, if_neg (by omega)]) t 0 (by omega)
  rw [Int.zero_add] at this
  exact this
theorem sb_kid (m : Int) (u : S29) {d : Int} (hd : 0 ≤ d) (t : S29) : ea (sbQ m u) d t = sb (m + d) (sh d 0 0 u) 0 t := by
  have := ea_move (q := sbQ m u) (q' := sbQ (m + d) (sh d 0 0 u)) (d := d) (fun b ah _ => by
    unfold sbQ
    by_cases h : m < b - (ah + d)
    · rw [if_pos h, if_pos (by omega)]
    · rw [if_neg h, if_neg (show ¬ m + d < b - ah by omega)]
      by_cases h2 : b - (ah + d) = m
      · rw [if_pos h2, if_pos (by omega), sh_sh hd, Int.add_comm d ah]
      · rw [if_neg h2, if_neg (by omega)]) t 0 (by omega)
  rw [Int.zero_add] at this
  exact this
theorem eas_get (q : Int → Int → S29) (ah a : Int) : ∀ (l : List S29) (i j : Nat) (h : j < l.length), rd_T29 (eas q ah a i l) (j : Int) = ea q (ah + bnd a ((i + j : Nat) : Int)) (rd_T29 l (j : Int))
  | [], i, j, h => absurd h (by simp)
  | t :: l, i, 0, h => by rw [eas]; simp [rd_T29]
  | t :: l, i, j + 1, h => by
    have hj : j < l.length := by simpa using h
    have := eas_get q ah a l (i + 1) j hj
    rw [show i + 1 + j = i + (j + 1) by omega] at this
    rw [eas]
    simpa [rd_T29] using this
theorem rd_kid : ∀ (l : List S29) (j : Nat) {B : Int}, j < l.length → goods B l → good B (rd_T29 l (j : Int)) ∧ deep29 (rd_T29 l (j : Int)) ≤ deeps29 l
  | [], j, B, h, _ => absurd h (by simp)
  | x :: l, 0, B, h, hg => ⟨by simpa [rd_T29] using hg.1, by simp [rd_T29, deeps29]; omega⟩
  | x :: l, j + 1, B, h, hg => by
    have := rd_kid l j (by simpa using h) hg.2
    refine ⟨by simpa [rd_T29] using this.1, ?_⟩
    have h2 : deep29 (rd_T29 (x :: l) ((j + 1 : Nat) : Int)) = deep29 (rd_T29 l (j : Int)) := by simp [rd_T29]
    rw [h2, deeps29]
    omega
theorem mkS {x : S24} (hx : WF24 x) (n : Nat) (vars : Int) (hn : n ≤ 10) (hv : 0 ≤ vars) (hv2 : vars ≤ 100) :
    ∃ t : S29, Ev (fun k => thyrsuslaw1_Make.f k x.f0 x.f1 x.f2 (n : Int) vars) (t.f0, t.f1, t.f2) ∧ good 1000 t ∧ deep29 t ≤ 11 := by
  obtain ⟨t, h1, h2, h3, h4⟩ := make2_all n x hx (n : Int) vars (Int.le_refl _) (by omega) hv (by omega) (by omega)
  exact ⟨t, h1, mk_good (by omega) t h2 (by omega), by omega⟩
theorem shE {B y f : Int} {t : S29} (hg : good B t) (hd : deep29 t ≤ 1000) (hB : B ≤ 1000000) (hy : 0 ≤ y) (hy2 : y ≤ 1000) (hf : 0 ≤ f) (hf2 : f ≤ 1000) : Ev (fun k => term_Shift.f k t.f0 t.f1 t.f2 y f) ((sh y f 0 t).f0, (sh y f 0 t).f1, (sh y f 0 t).f2) :=
  ⟨3 * size29 t, fun k hk => shift_run (B := B) (by omega) (by omega) (by omega) (by omega) (by omega) t hg (by omega) k hk⟩
theorem sbE {B C m : Int} {t u : S29} (hg : good B t) (hu : good C u) (hd : deep29 t ≤ 1000) (hdu : deep29 u ≤ 1000) (hB : B ≤ 1000000) (hC : C ≤ 1000000) (hm : 0 ≤ m) (hm2 : m ≤ 1000) : Ev (fun k => term_Subst.f k t.f0 t.f1 t.f2 m u.f0 u.f1 u.f2) ((sb m u 0 t).f0, (sb m u 0 t).f1, (sb m u 0 t).f2) :=
  ⟨3 * size29 t + 3 * size29 u, fun k hk => subst_run (B := B) (C := C) (by omega) (by omega) (by omega) (by omega) t u hg hu (by omega) (by omega) k (by omega) (by omega)⟩
theorem smE {B : Int} {t u : S29} (h : t = u) (hg : good B t) : Ev (fun k => thyrsusref4_Same.f k t.f0 t.f1 t.f2 u.f0 u.f1 u.f2) true := ⟨4 * size29 t, fun k hk => same_eq h hg k hk⟩
theorem under_loop {a b n y : Int} {l : List S29} {u : S29} (hl : goods 1000 l) (hd : deeps29 l ≤ 20) (hlen : l.length ≤ 1000000) (hu : good 1000 u) (hdu : deep29 u ≤ 20) (hn : 0 ≤ n) (hn2 : n ≤ 10) (hy : 0 ≤ y) (hy2 : y ≤ 10) : ∀ (d i : Nat), i + d = l.length →
    Ev (fun k => thyrsuslaw4_TermUnder.l0 k n y (i : Int) a b l u.f0 u.f1 u.f2 a b (eas (shQ y n) 0 a 0 l) a b (eas (sbQ n u) 0 a 0 l)) true := by
  intro d
  induction d with
  | zero =>
    intro i hi
    refine Ev.step (f := fun _ => some true) (fun k => ?_) (Ev.now _)
    simp only [thyrsuslaw4_TermUnder.l0]
    rw [if_neg (by omega)]
  | succ d ih =>
    intro i hi
    have hil : i < l.length := by omega
    have hb := bnd_range a (i : Int)
    obtain ⟨g1, d1⟩ := rd_kid l i hil hl
    have q1 : (i : Int) < (l.length : Int) := by omega
    have q2 : (0 : Int) ≤ (i : Int) := by omega
    have q3 := ih (i + 1) (by omega)
    have hB : term_Binders.f a (i : Int) = some (bnd a (i : Int)) := rfl
    have e1 : rd_T29 (eas (shQ y n) 0 a 0 l) (i : Int) = sh y (n + bnd a (i : Int)) 0 (rd_T29 l (i : Int)) := by
      rw [eas_get (shQ y n) 0 a l 0 i hil, Nat.zero_add, Int.zero_add, sh_kid]
    have e2 : rd_T29 (eas (sbQ n u) 0 a 0 l) (i : Int) = sb (n + bnd a (i : Int)) (sh (bnd a (i : Int)) 0 0 u) 0 (rd_T29 l (i : Int)) := by
      rw [eas_get (sbQ n u) 0 a l 0 i hil, Nat.zero_add, Int.zero_add, sb_kid _ _ hb.1]
    have gs : good (1000 + y) (sh y (n + bnd a (i : Int)) 0 (rd_T29 l (i : Int))) := sh_good (by omega) (by omega) _ 0 g1
    have gu : good (1000 + bnd a (i : Int)) (sh (bnd a (i : Int)) 0 0 u) := sh_good (by omega) (by omega) u 0 hu
    have du : deep29 (sh (bnd a (i : Int)) 0 0 u) = deep29 u := sh_deep _ 0 u 0 hu
    have gm : good 3000 (sb (n + bnd a (i : Int)) (sh (bnd a (i : Int)) 0 0 u) 0 (rd_T29 l (i : Int))) := sb_good (B := 1000) (C := 1000 + bnd a (i : Int)) (by omega) (by omega) _ gu _ 0 g1 (by omega) (by omega)
    have s1 := shE (y := y) (f := n + bnd a (i : Int)) g1 (by omega) (by omega) hy (by omega) (by omega) (by omega)
    have s2 := smE e1 (by rw [e1]; exact gs)
    have s3 := shE (y := bnd a (i : Int)) (f := 0) hu (by omega) (by omega) hb.1 (by omega) (by omega) (by omega)
    have s4 := sbE (m := n + bnd a (i : Int)) g1 gu (by omega) (by omega) (by omega) (by omega) (by omega) (by omega)
    have s5 := smE e2 (by rw [e2]; exact gm)
    have hw : wrap64 (n + bnd a (i : Int)) = n + bnd a (i : Int) := wrap_ok _ (by omega) (by omega)
    have hw2 : wrap64 ((i : Int) + 1) = ((i + 1 : Nat) : Int) := (wrap_ok _ (by omega) (by omega)).trans (by omega)
    refine Ev.step (fun k => by
      simp only [thyrsuslaw4_TermUnder.l0, hB, Option.bind_some, hw, hw2, eas_len, if_pos q1, if_pos q2]
      rfl) ?_
    refine Ev.bind s1 ?_
    refine Ev.bind s2 ?_
    simp only [if_true]
    refine Ev.bind s3 ?_
    refine Ev.bind s4 ?_
    refine Ev.bind s5 ?_
    simp only [if_true]
    exact q3
theorem TermUnder {x y : S24} (hx : WF24 x) (hy : WF24 y) {n b : Int} (hn : (Lit.int .i64 n).wf = true) (hb : (Lit.int .i64 b).wf = true) :
    Ev (fun k => thyrsuslaw4_TermUnder.f k x.f0 x.f1 x.f2 y.f0 y.f1 y.f2 n b) true := by
  unfold thyrsuslaw4_TermUnder.f
  refine Ev.bind ⟨10, fun k hk => known_k hk⟩ ?_
  simp only [if_true]
  obtain ⟨c1, e1, _⟩ := few_ev hx
  refine Ev.bind e1 ?_
  have out : ∀ c : Bool, Ev (fun k => thyrsuslaw4_TermUnder.j0 k n b c x.f0 x.f1 x.f2 y.f0 y.f1 y.f2) true := by
    intro c
    cases c with
    | true => exact Ev.step (f := fun k => some true) (fun k => by simp only [thyrsuslaw4_TermUnder.j0, if_true]) (Ev.now _)
    | false =>
      obtain ⟨⟨ta, tb, tl⟩, m1, g1, d1⟩ := mkS hx 6 3 (by omega) (by omega) (by omega)
      obtain ⟨u, m2, g2, d2⟩ := mkS hy 3 2 (by omega) (by omega) (by omega)
      obtain ⟨na, la, ea_⟩ := within_ex (i64_of hn) (n := 4) (by decide) (by decide)
      obtain ⟨nb, lb, eb_⟩ := within_ex (i64_of hb) (n := 4) (by decide) (by decide)
      refine Ev.step (fun k => by simp only [thyrsuslaw4_TermUnder.j0, Bool.false_eq_true, if_false]; rfl) ?_
      refine Ev.bind m1 (Ev.bind m2 ?_)
      simp only [ea_, eb_, Option.bind_some]
      refine Ev.bind (shE (y := nb) (f := na) g1 (by omega) (by omega) (by omega) (by omega) (by omega) (by omega)) ?_
      refine Ev.bind (sbE (m := na) g1 g2 (by omega) (by omega) (by omega) (by omega) (by omega) (by omega)) ?_
      by_cases h : ta = 1
      · simp only [if_pos h]
        exact Ev.now _
      · have hg := g1.2.2
        rw [deep29] at d1
        have es : sh (nb : Int) na 0 ⟨ta, tb, tl⟩ = ⟨ta, tb, eas (shQ nb na) 0 ta 0 tl⟩ := sh_node _ _ _ _ _ _ h
        have em : sb (na : Int) u 0 ⟨ta, tb, tl⟩ = ⟨ta, tb, eas (sbQ na u) 0 ta 0 tl⟩ := ea_node _ _ _ _ _ h
        rw [es, em]
        simp only [if_neg h, eas_len, if_true, bne_self_eq_false]
        refine Ev.step (fun k => by simp only [thyrsuslaw4_TermUnder.j1, Bool.false_eq_true, if_false]; rfl) ?_
        exact under_loop hg.2 (by omega) hg.1 g2 (by omega) (by omega) (by omega) (by omega) (by omega) tl.length 0 (by omega)
  cases c1 with
  | true =>
    simp only [if_true]
    obtain ⟨c2, e2, _⟩ := few_ev hy
    exact Ev.bind e2 (out (!c2))
  | false =>
    simp only [Bool.false_eq_true, if_false]
    exact out true
end Go.Proofs.YtcchfblekaaalaaDoor.Pure
namespace Go.Proofs.YtcchfblekaaalaaDoor.P
open Go.RowKit Go.Proofs.YtcchfblekaaalaaDoorW.PrintWords Go.Proofs.YtcchfblekaaalaaDoorW.PrintLast Go.Proofs.YtcchfblekaaalaaDoorW.PrintMore
theorem termUnder_walk (x0 : S24) (A0 : Option Addr) (c0 : Nat) {W : World} (hl0 : x0.f2.length ≤ c0) (hC0 : Kd.C k24 W A0 x0.f2.length x0.f2) (wf0 : WF24 x0) (x1 : S24) (A1 : Option Addr) (c1 : Nat) (hl1 : x1.f2.length ≤ c1) (hC1 : Kd.C k24 W A1 x1.f2.length x1.f2) (wf1 : WF24 x1) (a2 : Int) (w2 : (Lit.int .i64 a2).wf = true) (a3 : Int) (w3 : (Lit.int .i64 a3).wf = true) :
    Calls Tryd.prog 7 #[.agg #[.int .i64 x0.f0, .int .i64 x0.f1, .slice A0 x0.f2.length c0], .agg #[.int .i64 x1.f0, .int .i64 x1.f1, .slice A1 x1.f2.length c1], .int .i64 a2, .int .i64 a3] W fun e w' => e = .returned (.bool true) ∧ Below W.heap.size W w' := by
  obtain ⟨k, h⟩ := (Pure.TermUnder wf0 wf1 w2 w3).rounds
  exact thyrsuslaw4_TermUnder.calls k x0.f0 x0.f1 A0 c0 x0.f2 x1.f0 x1.f1 A1 c1 x1.f2 a2 a3 true W hC0 hl0 hC1 hl1 h
end Go.Proofs.YtcchfblekaaalaaDoor.P
