-- Printed by mkprint.py (a program of this session, over the kit's print). Lean checks it.
import Derived.Test.YtfbjdfgadhlhlaaPx0
import Derived.Test.YtfbjdfgadhlhlaaPx1
import Derived.Test.YtfbjdfgadhlhlaaPx2
import Derived.Test.YtfbjdfgadhlhlaaPx4
import Derived.Test.YtfbjdfgadhlhlaaHandF
import Derived.Test.YtfbjdfgadhlhlaaUnA
namespace Go.Proofs.Ytfbjdfgadhlhlaa.P
open Go.RowKit Go.Proofs.YtfbjdfgadhlhlaaW.PrintWords Go.Proofs.YtfbjdfgadhlhlaaW.PrintLast Go.Proofs.YtfbjdfgadhlhlaaW.PrintMore
attribute [local go_sem] max2_int min2_int max_two min_two max_three min_three max_four min_four   -- for this text's walks alone
set_option linter.unusedVariables false
set_option linter.unusedSimpArgs false

set_option maxHeartbeats 8000000 in
set_option maxRecDepth 100000 in
theorem thyrsuslaw1_CodeUnlike.calls (k : Nat) (zM : Int) (zN : Int) (zW : Option Addr) (zX : Nat) (zL : List (S24)) (zQ : Int) (zR : Int) (zY : Option Addr) (zZ : Nat) (zO : List (S24)) (r : Bool) (w : World) (hr0_2 : Kd.C k24 w zW zL.length zL) (hc0_2 : zL.length ≤ zX) (hr1_2 : Kd.C k24 w zY zO.length zO) (hc1_2 : zO.length ≤ zZ) (h : thyrsuslaw1_CodeUnlike.f k zM zN zL zQ zR zO = some r) :
  Calls Try.prog 4 #[.agg #[.int .i64 zM, .int .i64 zN, .slice zW zL.length zX], .agg #[.int .i64 zQ, .int .i64 zR, .slice zY zO.length zZ]] w fun e w' => e = .returned (.bool r) ∧ Below w.heap.size w w' := by
 have hu24 := Try.underlying24
 have hu29 := Try.underlying29
 have HR0_2 := Aside0.mk hr0_2
 have HC0_2 := Aside0.mk hc0_2
 clear hr0_2 hc0_2
 have HR1_2 := Aside0.mk hr1_2
 have HC1_2 := Aside0.mk hc1_2
 clear hr1_2 hc1_2
 have HB := Aside0.mk (Below.refl w.heap.size w)
 have H : ((thyrsuslaw1_known.f).bind fun t144 => (if t144 = true then ((thyrsuslaw1_Few.f k zM zN zL).bind fun t145 => (if t145 = true then ((thyrsuslaw1_Few.f k zQ zR zO).bind fun t146 => (thyrsuslaw1_CodeUnlike.j0 k (!t146) zM zN zL zQ zR zO)) else (thyrsuslaw1_CodeUnlike.j0 k true zM zN zL zQ zR zO))) else (none))) = some r := h
 clear h
 replace H := Option.bind_eq_some_iff.mp H
 obtain ⟨t144, A30, H⟩ := H
 replace H : (if t144 = true then ((thyrsuslaw1_Few.f k zM zN zL).bind fun t145 => (if t145 = true then ((thyrsuslaw1_Few.f k zQ zR zO).bind fun t146 => (thyrsuslaw1_CodeUnlike.j0 k (!t146) zM zN zL zQ zR zO)) else (thyrsuslaw1_CodeUnlike.j0 k true zM zN zL zQ zR zO))) else (none)) = some r := H
 have A3 := Aside0.mk A30
 clear A30
 by_cases c4 : t144 = true
 ·subst c4
  have H1 : ((thyrsuslaw1_Few.f k zM zN zL).bind fun t145 => (if t145 = true then ((thyrsuslaw1_Few.f k zQ zR zO).bind fun t146 => (thyrsuslaw1_CodeUnlike.j0 k (!t146) zM zN zL zQ zR zO)) else (thyrsuslaw1_CodeUnlike.j0 k true zM zN zL zQ zR zO))) = some r := by rw [if_pos rfl] at H; exact H
  clear H
  have H := H1
  clear H1
  have HC5 := Aside0.mk H
  clear H
  go_enter Try.func4, Try.ntmps4
  go_upto_region 3 with (first | ((with_reducible refine gate_dst (N := 2) rfl ?_); refine box_event ?hg (N := 2) ?hd (cs := #[.int .i64 zM, .int .i64 zN, .slice zW zL.length zX]) (t := 24) ?hr ?_; (case hd => rfl); (case hg => rfl); (case hr => first | (go_simp; done) | (go_simp; rfl)); intro zE hg w6 hbox hb; have n0_ := Aside0.mk (below_step (by repeat (first | (with_reducible first | exact HB.out | apply below_alloc | apply pw_below_drewN | apply below_drew1) | exact HB.out)) hb); have n1_ := Aside0.mk (hbox); have n2_ := Aside0.mk ((by rw [hg]; exact (below_size (by repeat (first | (with_reducible first | exact HB.out | apply below_alloc | apply pw_below_drewN | apply below_drew1) | exact HB.out))) : w.heap.size ≤ zE)); have n3_ := Aside0.mk ((by rw [hg]; exact (below_size (by repeat (first | (with_reducible first | exact HB.out | apply below_alloc | apply pw_below_drewN | apply below_drew1) | exact HB.out))) : w.heap.size ≤ zE)); clear HB; have HB := n0_; have zC := n1_; have GW142 := n2_; have zJ := n3_; clear n0_ n1_ n2_ n3_; clear hb hbox hg) | ((with_reducible refine gate_dst (N := 3) rfl ?_); refine box_event ?hg (N := 3) ?hd (cs := #[.int .i64 zQ, .int .i64 zR, .slice zY zO.length zZ]) (t := 24) ?hr ?_; (case hd => rfl); (case hg => rfl); (case hr => first | (go_simp; done) | (go_simp; rfl)); intro zF hg w7 hbox hb; have n0_ := Aside0.mk (blk_below (g := zE) (o := .cells #[.int .i64 zM, .int .i64 zN, .slice zW zL.length zX] 24 (0, 0)) (by (with_reducible repeat (first | refine blk_drewN ?_ _ | refine blk_drew ?_ | refine blk_alloc ?_ _)); exact zC.out) hb); have n1_ := Aside0.mk (below_step (by repeat (first | (with_reducible first | exact HB.out | apply below_alloc | apply pw_below_drewN | apply below_drew1 | refine below_set ?_ zJ.out) | exact HB.out)) hb); have n2_ := Aside0.mk (hbox); have n3_ := Aside0.mk ((by rw [hg]; exact (below_size (by repeat (first | (with_reducible first | exact HB.out | apply below_alloc | apply pw_below_drewN | apply below_drew1 | refine below_set ?_ zJ.out) | exact HB.out))) : w.heap.size ≤ zF)); have n4_ := Aside0.mk ((by rw [hg]; exact (below_size (by repeat (first | (with_reducible first | exact HB.out | apply below_alloc | apply pw_below_drewN | apply below_drew1 | refine below_set ?_ zJ.out) | exact HB.out))) : w.heap.size ≤ zF)); have n5_ := Aside0.mk ((by rw [hg]; exact Nat.ne_of_lt (blk_lt (g := zE) (o := .cells #[.int .i64 zM, .int .i64 zN, .slice zW zL.length zX] 24 (0, 0)) (by (with_reducible repeat (first | refine blk_drewN ?_ _ | refine blk_drew ?_ | refine blk_alloc ?_ _)); exact zC.out)) : zE ≠ zF)); have n6_ := Aside0.mk ((by rw [hg]; exact Nat.ne_of_gt (blk_lt (g := zE) (o := .cells #[.int .i64 zM, .int .i64 zN, .slice zW zL.length zX] 24 (0, 0)) (by (with_reducible repeat (first | refine blk_drewN ?_ _ | refine blk_drew ?_ | refine blk_alloc ?_ _)); exact zC.out)) : zF ≠ zE)); clear zC; clear HB; have zC := n0_; have HB := n1_; have zD := n2_; have GW143 := n3_; have zK := n4_; have NB142_143 := n5_; have NB143_142 := n6_; clear n0_ n1_ n2_ n3_ n4_ n5_ n6_; clear hb hbox hg) | ((with_reducible refine gate_callee (f := 9) rfl ?_); refine goesL_ (some 7) rfl rfl Try.func9 (by kernel_rfl) rfl #[] rfl (by (try simp only [List.map_toArray, List.map_cons, List.map_nil]); first | done | rfl | (simp only [List.length_drop, List.length_take]; rfl)) ?_; (with_reducible refine (thyrsuslaw1_known.calls  true _ A3.out).mono ?_); rintro e w8 ⟨rfl, hb⟩; refine ⟨_, rfl, ?_⟩; have n0_ := Aside0.mk (blk_below (g := zE) (o := .cells #[.int .i64 zM, .int .i64 zN, .slice zW zL.length zX] 24 (0, 0)) (by (with_reducible repeat (first | refine blk_drewN ?_ _ | refine blk_drew ?_ | refine blk_alloc ?_ _)); exact zC.out) hb); have n1_ := Aside0.mk (blk_below (g := zF) (o := .cells #[.int .i64 zQ, .int .i64 zR, .slice zY zO.length zZ] 24 (0, 0)) (by (with_reducible repeat (first | refine blk_drewN ?_ _ | refine blk_drew ?_ | refine blk_alloc ?_ _)); exact zD.out) hb); have n2_ := Aside0.mk (below_step (by repeat (first | (with_reducible first | exact HB.out | apply below_alloc | apply pw_below_drewN | apply below_drew1 | refine below_set ?_ zJ.out | refine below_set ?_ zK.out) | exact HB.out)) hb); clear zC; clear zD; clear HB; have zC := n0_; have zD := n1_; have HB := n2_; clear n0_ n1_ n2_; (try clear hb); (try clear hb2); (try clear hk); (try clear hi)))
  (try simp only [Act.put, List.setIfInBounds_toArray, List.set_cons_zero, List.set_cons_succ])
  go_cut [16] (fun v16 wc => ∃ (kq : Nat) (x16_4 : Bool), v16 = .bool x16_4 ∧ Aside0 (thyrsuslaw1_CodeUnlike.j0 kq x16_4 zM zN zL zQ zR zO = some r) ∧ Aside0 (kq ≤ k) ∧ Aside0 (wc.heap[zE]? = some (.cells #[.int .i64 zM, .int .i64 zN, (.slice zW zL.length zX)] 24 (0, 0))) ∧ Aside0 (wc.heap[zF]? = some (.cells #[.int .i64 zQ, .int .i64 zR, (.slice zY zO.length zZ)] 24 (0, 0))) ∧ Aside0 (Below w.heap.size w wc))
  case first =>
   have H := HC5.out
   clear HC5
   replace H := Option.bind_eq_some_iff.mp H
   obtain ⟨t145, A90, H⟩ := H
   replace H : (if t145 = true then ((thyrsuslaw1_Few.f k zQ zR zO).bind fun t146 => (thyrsuslaw1_CodeUnlike.j0 k (!t146) zM zN zL zQ zR zO)) else (thyrsuslaw1_CodeUnlike.j0 k true zM zN zL zQ zR zO)) = some r := H
   have A9 := Aside0.mk A90
   clear A90
   by_cases c10 : t145 = true
   ·subst c10
    have H1 : ((thyrsuslaw1_Few.f k zQ zR zO).bind fun t146 => (thyrsuslaw1_CodeUnlike.j0 k (!t146) zM zN zL zQ zR zO)) = some r := by rw [if_pos rfl] at H; exact H
    clear H
    have H := H1
    clear H1
    replace H := Option.bind_eq_some_iff.mp H
    obtain ⟨t146, A110, H⟩ := H
    replace H : (thyrsuslaw1_CodeUnlike.j0 k (!t146) zM zN zL zQ zR zO) = some r := H
    have A11 := Aside0.mk A110
    clear A110
    have H' := Aside0.mk H
    clear H
    have hnb12 := NB142_143.out
    have hnc12 := NB143_142.out
    have hcz13_0 : w8.cell? ⟨zE, 0, none⟩ = some (.int .i64 zM) := (blk_cell zC.out 0).trans rfl
    have hcz13_1 : w8.cell? ⟨zE, 1, none⟩ = some (.int .i64 zN) := (blk_cell zC.out 1).trans rfl
    have hcz13_2 : w8.cell? ⟨zE, 2, none⟩ = some (.slice zW zL.length zX) := (blk_cell zC.out 2).trans rfl
    have hfz13_0 := blk_frozen zC.out 0
    have hfz13_1 := blk_frozen zC.out 1
    have hfz13_2 := blk_frozen zC.out 2
    go_wp2_with (first | ((with_reducible refine gate_callee (f := 10) rfl ?_); refine goesL_ (some 10) rfl rfl Try.func10 (by kernel_rfl) rfl #[.agg #[.int .i64 zM, .int .i64 zN, .slice zW zL.length zX]] rfl (by (try simp only [List.map_toArray, List.map_cons, List.map_nil]); first | done | rfl | (simp only [List.length_drop, List.length_take]; rfl)) ?_; (with_reducible refine (thyrsuslaw1_Few.calls k zM zN _ _ zL true _ ?side1 ?side2 A9.out).mono ?_); (case side1 => repeat (first | exact (Kd.C_below HR0_2.out HB.out) | (with_reducible refine Kd.C_alloc ?_ _) | (with_reducible refine Kd.C_drewN ?_ _) | (with_reducible refine Kd.C_drew ?_))); (case side2 => exact HC0_2.out); rintro e w14 ⟨rfl, hb⟩; refine ⟨_, rfl, ?_⟩; have n0_ := Aside0.mk (blk_below (g := zE) (o := .cells #[.int .i64 zM, .int .i64 zN, .slice zW zL.length zX] 24 (0, 0)) (by (with_reducible repeat (first | refine blk_drewN ?_ _ | refine blk_drew ?_ | refine blk_alloc ?_ _)); exact zC.out) hb); have n1_ := Aside0.mk (blk_below (g := zF) (o := .cells #[.int .i64 zQ, .int .i64 zR, .slice zY zO.length zZ] 24 (0, 0)) (by (with_reducible repeat (first | refine blk_drewN ?_ _ | refine blk_drew ?_ | refine blk_alloc ?_ _)); exact zD.out) hb); have n2_ := Aside0.mk (below_step (by repeat (first | (with_reducible first | exact HB.out | apply below_alloc | apply pw_below_drewN | apply below_drew1 | refine below_set ?_ zJ.out | refine below_set ?_ zK.out) | exact HB.out)) hb); clear zC; clear zD; clear HB; have zC := n0_; have zD := n1_; have HB := n2_; clear n0_ n1_ n2_; (try clear hb); (try clear hb2); (try clear hk); (try clear hi); have hcz15_0 : w14.cell? ⟨zF, 0, none⟩ = some (.int .i64 zQ) := (blk_cell zD.out 0).trans rfl; have hcz15_1 : w14.cell? ⟨zF, 1, none⟩ = some (.int .i64 zR) := (blk_cell zD.out 1).trans rfl; have hcz15_2 : w14.cell? ⟨zF, 2, none⟩ = some (.slice zY zO.length zZ) := (blk_cell zD.out 2).trans rfl; have hfz15_0 := blk_frozen zD.out 0; have hfz15_1 := blk_frozen zD.out 1; have hfz15_2 := blk_frozen zD.out 2) | (go_at_call 10; (with_reducible refine (thyrsuslaw1_Few.calls k zQ zR _ _ zO t146 _ ?side1 ?side2 A11.out).mono ?_); (case side1 => repeat (first | exact (Kd.C_below HR1_2.out HB.out) | (with_reducible refine Kd.C_alloc ?_ _) | (with_reducible refine Kd.C_drewN ?_ _) | (with_reducible refine Kd.C_drew ?_))); (case side2 => exact HC1_2.out); rintro e w16 ⟨rfl, hb⟩; have n0_ := Aside0.mk (blk_below (g := zE) (o := .cells #[.int .i64 zM, .int .i64 zN, .slice zW zL.length zX] 24 (0, 0)) (by (with_reducible repeat (first | refine blk_drewN ?_ _ | refine blk_drew ?_ | refine blk_alloc ?_ _)); exact zC.out) hb); have n1_ := Aside0.mk (blk_below (g := zF) (o := .cells #[.int .i64 zQ, .int .i64 zR, .slice zY zO.length zZ] 24 (0, 0)) (by (with_reducible repeat (first | refine blk_drewN ?_ _ | refine blk_drew ?_ | refine blk_alloc ?_ _)); exact zD.out) hb); have n2_ := Aside0.mk (below_step (by repeat (first | (with_reducible first | exact HB.out | apply below_alloc | apply pw_below_drewN | apply below_drew1 | refine below_set ?_ zJ.out | refine below_set ?_ zK.out) | exact HB.out)) hb); clear zC; clear zD; clear HB; have zC := n0_; have zD := n1_; have HB := n2_; clear n0_ n1_ n2_; (try clear hb); (try clear hb2); (try clear hk); (try clear hi)))
    go_meet
    case rel => exact ⟨_, (!t146), (by first | rfl | (simp; done) | (simp [*]; done)), H', ⟨by first | omega | exact Nat.le_refl _⟩, ⟨by (with_reducible repeat (first | refine blk_drewN ?_ _ | refine blk_drew ?_ | refine blk_alloc ?_ _)); exact zC.out⟩, ⟨by (with_reducible repeat (first | refine blk_drewN ?_ _ | refine blk_drew ?_ | refine blk_alloc ?_ _)); exact zD.out⟩, ⟨by repeat (first | (with_reducible first | exact HB.out | apply below_alloc | apply pw_below_drewN | apply below_drew1 | refine below_set ?_ zJ.out | refine below_set ?_ zK.out) | exact HB.out)⟩⟩
   ·replace c10 := Bool.eq_false_iff.mpr c10
    subst c10
    have H1 : (thyrsuslaw1_CodeUnlike.j0 k true zM zN zL zQ zR zO) = some r := by rw [if_neg (show ¬ (false = true) by decide)] at H; exact H
    clear H
    have H := H1
    clear H1
    have H' := Aside0.mk H
    clear H
    have hnb17 := NB142_143.out
    have hnc17 := NB143_142.out
    have hcz18_0 : w8.cell? ⟨zE, 0, none⟩ = some (.int .i64 zM) := (blk_cell zC.out 0).trans rfl
    have hcz18_1 : w8.cell? ⟨zE, 1, none⟩ = some (.int .i64 zN) := (blk_cell zC.out 1).trans rfl
    have hcz18_2 : w8.cell? ⟨zE, 2, none⟩ = some (.slice zW zL.length zX) := (blk_cell zC.out 2).trans rfl
    have hfz18_0 := blk_frozen zC.out 0
    have hfz18_1 := blk_frozen zC.out 1
    have hfz18_2 := blk_frozen zC.out 2
    go_wp2_with (first | ((with_reducible refine gate_callee (f := 10) rfl ?_); refine goesL_ (some 10) rfl rfl Try.func10 (by kernel_rfl) rfl #[.agg #[.int .i64 zM, .int .i64 zN, .slice zW zL.length zX]] rfl (by (try simp only [List.map_toArray, List.map_cons, List.map_nil]); first | done | rfl | (simp only [List.length_drop, List.length_take]; rfl)) ?_; (with_reducible refine (thyrsuslaw1_Few.calls k zM zN _ _ zL false _ ?side1 ?side2 A9.out).mono ?_); (case side1 => repeat (first | exact (Kd.C_below HR0_2.out HB.out) | (with_reducible refine Kd.C_alloc ?_ _) | (with_reducible refine Kd.C_drewN ?_ _) | (with_reducible refine Kd.C_drew ?_))); (case side2 => exact HC0_2.out); rintro e w19 ⟨rfl, hb⟩; refine ⟨_, rfl, ?_⟩; have n0_ := Aside0.mk (blk_below (g := zE) (o := .cells #[.int .i64 zM, .int .i64 zN, .slice zW zL.length zX] 24 (0, 0)) (by (with_reducible repeat (first | refine blk_drewN ?_ _ | refine blk_drew ?_ | refine blk_alloc ?_ _)); exact zC.out) hb); have n1_ := Aside0.mk (blk_below (g := zF) (o := .cells #[.int .i64 zQ, .int .i64 zR, .slice zY zO.length zZ] 24 (0, 0)) (by (with_reducible repeat (first | refine blk_drewN ?_ _ | refine blk_drew ?_ | refine blk_alloc ?_ _)); exact zD.out) hb); have n2_ := Aside0.mk (below_step (by repeat (first | (with_reducible first | exact HB.out | apply below_alloc | apply pw_below_drewN | apply below_drew1 | refine below_set ?_ zJ.out | refine below_set ?_ zK.out) | exact HB.out)) hb); clear zC; clear zD; clear HB; have zC := n0_; have zD := n1_; have HB := n2_; clear n0_ n1_ n2_; (try clear hb); (try clear hb2); (try clear hk); (try clear hi)))
    go_meet
    case rel => exact ⟨_, (true), (by first | rfl | (simp; done) | (simp [*]; done)), H', ⟨by first | omega | exact Nat.le_refl _⟩, ⟨by (with_reducible repeat (first | refine blk_drewN ?_ _ | refine blk_drew ?_ | refine blk_alloc ?_ _)); exact zC.out⟩, ⟨by (with_reducible repeat (first | refine blk_drewN ?_ _ | refine blk_drew ?_ | refine blk_alloc ?_ _)); exact zD.out⟩, ⟨by repeat (first | (with_reducible first | exact HB.out | apply below_alloc | apply pw_below_drewN | apply below_drew1 | refine below_set ?_ zJ.out | refine below_set ?_ zK.out) | exact HB.out)⟩⟩
  case rest =>
   clear HC5
   try clear c1
   try clear p2
   try clear c4
   try clear c9
   try clear c10
   try clear c12
   try clear c17
   try clear hcz13_0
   try clear hcz13_1
   try clear hcz13_2
   try clear hcz15_0
   try clear hcz15_1
   try clear hcz15_2
   try clear hcz18_0
   try clear hcz18_1
   try clear hcz18_2
   try clear hfz13_0
   try clear hfz13_1
   try clear hfz13_2
   try clear hfz15_0
   try clear hfz15_1
   try clear hfz15_2
   try clear hfz18_0
   try clear hfz18_1
   try clear hfz18_2
   obtain ⟨kq, x16_4, rfl, HA, HJ4, zC, zD, HB⟩ := hcut
   cases kq with
   | zero => exact absurd HA.out (by simp [thyrsuslaw1_CodeUnlike.j0])
   | succ kj4 =>
    have H := HA.out
    clear HA
    simp only [thyrsuslaw1_CodeUnlike.j0] at H
    by_cases c20 : x16_4 = true
    ·subst c20
     have H1 : (some true) = some r := by rw [if_pos rfl] at H; exact H
     clear H
     have H := H1
     clear H1
     obtain rfl := Option.some.inj H
     go_wp2
     go_ret
     exact ⟨by first | rfl | (simp [errW_none, errW_some] <;> rfl) | (simp [*, errW_none, errW_some] <;> rfl), by repeat (first | (with_reducible first | exact HB.out | apply below_alloc | apply pw_below_drewN | apply below_drew1 | refine below_set ?_ zJ.out | refine below_set ?_ zK.out) | exact HB.out)⟩
    ·replace c20 := Bool.eq_false_iff.mpr c20
     subst c20
     have H1 : ((thyrsuslaw1_Plain.f kj4 zM zN zL).bind fun bt147 => ((thyrsuslaw1_Plain.f kj4 zQ zR zO).bind fun bt152 => ((code_Bytes.f bt147.1 bt147.2.1 bt147.2.2).bind fun t159 => ((code_Bytes.f bt152.1 bt152.2.1 bt152.2.2).bind fun t162 => ((thyrsusref4_Same.f kj4 bt147.1 bt147.2.1 bt147.2.2 bt152.1 bt152.2.1 bt152.2.2).bind fun t165 => (some (((strOfNums t159).toList == (strOfNums t162).toList) == t165))))))) = some r := by rw [if_neg (show ¬ (false = true) by decide)] at H; exact H
     clear H
     have H := H1
     clear H1
     replace H := Option.bind_eq_some_iff.mp H
     obtain ⟨⟨t147, t148, t149⟩, A210, H⟩ := H
     replace H : ((thyrsuslaw1_Plain.f kj4 zQ zR zO).bind fun bt152 => ((code_Bytes.f t147 t148 t149).bind fun t159 => ((code_Bytes.f bt152.1 bt152.2.1 bt152.2.2).bind fun t162 => ((thyrsusref4_Same.f kj4 t147 t148 t149 bt152.1 bt152.2.1 bt152.2.2).bind fun t165 => (some (((strOfNums t159).toList == (strOfNums t162).toList) == t165)))))) = some r := H
     have A21 := Aside0.mk A210
     clear A210
     replace H := Option.bind_eq_some_iff.mp H
     obtain ⟨⟨t152, t153, t154⟩, A220, H⟩ := H
     replace H : ((code_Bytes.f t147 t148 t149).bind fun t159 => ((code_Bytes.f t152 t153 t154).bind fun t162 => ((thyrsusref4_Same.f kj4 t147 t148 t149 t152 t153 t154).bind fun t165 => (some (((strOfNums t159).toList == (strOfNums t162).toList) == t165))))) = some r := H
     have A22 := Aside0.mk A220
     clear A220
     replace H := Option.bind_eq_some_iff.mp H
     obtain ⟨t159, A230, H⟩ := H
     replace H : ((code_Bytes.f t152 t153 t154).bind fun t162 => ((thyrsusref4_Same.f kj4 t147 t148 t149 t152 t153 t154).bind fun t165 => (some (((strOfNums t159).toList == (strOfNums t162).toList) == t165)))) = some r := H
     have A23 := Aside0.mk A230
     clear A230
     replace H := Option.bind_eq_some_iff.mp H
     obtain ⟨t162, A240, H⟩ := H
     replace H : ((thyrsusref4_Same.f kj4 t147 t148 t149 t152 t153 t154).bind fun t165 => (some (((strOfNums t159).toList == (strOfNums t162).toList) == t165))) = some r := H
     have A24 := Aside0.mk A240
     clear A240
     replace H := Option.bind_eq_some_iff.mp H
     obtain ⟨t165, A250, H⟩ := H
     replace H : (some (((strOfNums t159).toList == (strOfNums t162).toList) == t165)) = some r := H
     have A25 := Aside0.mk A250
     clear A250
     obtain rfl := Option.some.inj H
     try go_wp2
     have n0_ := Aside0.mk (blk_drew zC.out)
     have n1_ := Aside0.mk (blk_drew zD.out)
     have n2_ := Aside0.mk (below_drew1 HB.out)
     clear zC
     clear zD
     clear HB
     have zC := n0_
     have zD := n1_
     have HB := n2_
     clear n0_ n1_ n2_
     refine start_ (n := 8) (S := fun w' => w'.cell? ⟨zE, 0, none⟩ = some (.int .i64 zM) ∧ w'.cell? ⟨zE, 1, none⟩ = some (.int .i64 zN) ∧ w'.cell? ⟨zE, 2, none⟩ = some (.slice zW zL.length zX) ∧ w'.cell? ⟨zF, 0, none⟩ = some (.int .i64 zQ) ∧ w'.cell? ⟨zF, 1, none⟩ = some (.int .i64 zR) ∧ w'.cell? ⟨zF, 2, none⟩ = some (.slice zY zO.length zZ)) (ds := []) #[false, false, false, false, false, false, false, false] (by kernel_rfl) rfl rfl ⟨(blk_cell zC.out 0).trans rfl, (blk_cell zC.out 1).trans rfl, (blk_cell zC.out 2).trans rfl, (blk_cell zD.out 0).trans rfl, (blk_cell zD.out 1).trans rfl, (blk_cell zD.out 2).trans rfl⟩ (fun hHeld => ?_); refine with_tabW thyrsuslaw1_CodeUnlike.tab5 thyrsuslaw1_CodeUnlike.bits5 (fun HT_ HW_ => ?_)
     generalize wc.drew = w26 at zC zD HB hHeld ⊢
     refine take_ (i := 0) (N := some 17) (v := ?_) (a' := ?_) #[true, false, false, false, false, false, false, false] rfl rfl (take_ofW HT_.out HW_.out (by kernel_rfl)) (fun _ _ _ h => h) (Or.inl ⟨by rfl, ?_⟩) hHeld ?_ ?_
     rotate_left
     ·rintro w' ⟨s0, s1, s2, s3, s4, s5⟩
      go_simp
      with_reducible rfl
     rotate_left
     ·simp only [Act.put, List.setIfInBounds_toArray, List.set_cons_zero, List.set_cons_succ, i64_w, i32_w, u8_w, u32_w]
      rfl
     refine take_ (i := 2) (N := some 19) (v := ?_) (a' := ?_) #[true, false, true, false, false, false, false, false] rfl rfl (take_ofW HT_.out HW_.out (by kernel_rfl)) (fun _ _ _ h => h) (Or.inl ⟨by rfl, ?_⟩) hHeld ?_ ?_
     rotate_left
     ·rintro w' ⟨s0, s1, s2, s3, s4, s5⟩
      go_simp
      with_reducible rfl
     rotate_left
     ·simp only [Act.put, List.setIfInBounds_toArray, List.set_cons_zero, List.set_cons_succ, i64_w, i32_w, u8_w, u32_w]
      rfl
     refine join_ (σ := Value × Value × Nat × Nat) 2 #[true, true, true, true, true, true, false, false] (fun s_ => [(18, .agg #[.int .i64 t147, .int .i64 t148, s_.1]), (20, .agg #[.int .i64 t152, .int .i64 t153, s_.2.1]), (5, .pointer (some ⟨s_.2.2.1, 0, none⟩)), (6, .pointer (some ⟨s_.2.2.2, 0, none⟩))]) (fun s_ w' => (w'.cell? ⟨zE, 0, none⟩ = some (.int .i64 zM) ∧ w'.cell? ⟨zE, 1, none⟩ = some (.int .i64 zN) ∧ w'.cell? ⟨zE, 2, none⟩ = some (.slice zW zL.length zX) ∧ w'.cell? ⟨zF, 0, none⟩ = some (.int .i64 zQ) ∧ w'.cell? ⟨zF, 1, none⟩ = some (.int .i64 zR) ∧ w'.cell? ⟨zF, 2, none⟩ = some (.slice zY zO.length zZ)) ∧ (Kd.R k29 29 w' w.heap.size (fun k_ => some k_ ≠ (s_.2.1 : Value).ownBlock ∧ k_ ≠ s_.2.2.1 ∧ k_ ≠ s_.2.2.2) s_.1 t149) ∧ (Kd.R k29 29 w' w.heap.size (fun k_ => some k_ ≠ (s_.1 : Value).ownBlock ∧ k_ ≠ s_.2.2.1 ∧ k_ ≠ s_.2.2.2) s_.2.1 t154) ∧ (w'.heap[zE]? = some (.cells #[.int .i64 zM, .int .i64 zN, .slice zW zL.length zX] 24 (0, 0))) ∧ (w'.heap[zF]? = some (.cells #[.int .i64 zQ, .int .i64 zR, .slice zY zO.length zZ] 24 (0, 0))) ∧ (w'.heap[s_.2.2.1]? = some (.cells #[.int .i64 0, .int .i64 0, .slice none 0 0] 29 (0, 0))) ∧ (w'.heap[s_.2.2.2]? = some (.cells #[.int .i64 0, .int .i64 0, .slice none 0 0] 29 (0, 0))) ∧ (w.heap.size ≤ s_.2.2.1) ∧ (w.heap.size ≤ s_.2.2.1) ∧ (zE ≠ s_.2.2.1) ∧ (s_.2.2.1 ≠ zE) ∧ (zF ≠ s_.2.2.1) ∧ (s_.2.2.1 ≠ zF) ∧ (s_.2.2.2 ≠ s_.2.2.1) ∧ (s_.2.2.1 ≠ s_.2.2.2) ∧ (w.heap.size ≤ s_.2.2.2) ∧ (w.heap.size ≤ s_.2.2.2) ∧ (zE ≠ s_.2.2.2) ∧ (s_.2.2.2 ≠ zE) ∧ (zF ≠ s_.2.2.2) ∧ (s_.2.2.2 ≠ zF) ∧ (Below w.heap.size w w')) ?_ ?_
     rotate_left
     ·intro hJ1_3_4_5
      refine join_ (σ := Value × Value × Nat) 3 #[true, true, true, true, true, false, false, false] (fun s_ => [(18, .agg #[.int .i64 t147, .int .i64 t148, s_.1]), (20, .agg #[.int .i64 t152, .int .i64 t153, s_.2.1]), (5, .pointer (some ⟨s_.2.2, 0, none⟩))]) (fun s_ w' => (w'.cell? ⟨zE, 0, none⟩ = some (.int .i64 zM) ∧ w'.cell? ⟨zE, 1, none⟩ = some (.int .i64 zN) ∧ w'.cell? ⟨zE, 2, none⟩ = some (.slice zW zL.length zX) ∧ w'.cell? ⟨zF, 0, none⟩ = some (.int .i64 zQ) ∧ w'.cell? ⟨zF, 1, none⟩ = some (.int .i64 zR) ∧ w'.cell? ⟨zF, 2, none⟩ = some (.slice zY zO.length zZ)) ∧ (Kd.R k29 29 w' w.heap.size (fun k_ => some k_ ≠ (s_.2.1 : Value).ownBlock ∧ k_ ≠ s_.2.2) s_.1 t149) ∧ (Kd.R k29 29 w' w.heap.size (fun k_ => some k_ ≠ (s_.1 : Value).ownBlock ∧ k_ ≠ s_.2.2) s_.2.1 t154) ∧ (w'.heap[zE]? = some (.cells #[.int .i64 zM, .int .i64 zN, .slice zW zL.length zX] 24 (0, 0))) ∧ (w'.heap[zF]? = some (.cells #[.int .i64 zQ, .int .i64 zR, .slice zY zO.length zZ] 24 (0, 0))) ∧ (w'.heap[s_.2.2]? = some (.cells #[.int .i64 0, .int .i64 0, .slice none 0 0] 29 (0, 0))) ∧ (w.heap.size ≤ s_.2.2) ∧ (w.heap.size ≤ s_.2.2) ∧ (zE ≠ s_.2.2) ∧ (s_.2.2 ≠ zE) ∧ (zF ≠ s_.2.2) ∧ (s_.2.2 ≠ zF) ∧ (Below w.heap.size w w')) ?_ ?_
      rotate_left
      ·intro hJ1_3_4
       refine join_ (σ := Value × Value × Nat) 3 #[true, true, true, true, false, true, false, false] (fun s_ => [(18, .agg #[.int .i64 t147, .int .i64 t148, s_.1]), (20, .agg #[.int .i64 t152, .int .i64 t153, s_.2.1]), (6, .pointer (some ⟨s_.2.2, 0, none⟩))]) (fun s_ w' => (w'.cell? ⟨zE, 0, none⟩ = some (.int .i64 zM) ∧ w'.cell? ⟨zE, 1, none⟩ = some (.int .i64 zN) ∧ w'.cell? ⟨zE, 2, none⟩ = some (.slice zW zL.length zX) ∧ w'.cell? ⟨zF, 0, none⟩ = some (.int .i64 zQ) ∧ w'.cell? ⟨zF, 1, none⟩ = some (.int .i64 zR) ∧ w'.cell? ⟨zF, 2, none⟩ = some (.slice zY zO.length zZ)) ∧ (Kd.R k29 29 w' w.heap.size (fun k_ => some k_ ≠ (s_.2.1 : Value).ownBlock ∧ k_ ≠ s_.2.2) s_.1 t149) ∧ (Kd.R k29 29 w' w.heap.size (fun k_ => some k_ ≠ (s_.1 : Value).ownBlock ∧ k_ ≠ s_.2.2) s_.2.1 t154) ∧ (w'.heap[zE]? = some (.cells #[.int .i64 zM, .int .i64 zN, .slice zW zL.length zX] 24 (0, 0))) ∧ (w'.heap[zF]? = some (.cells #[.int .i64 zQ, .int .i64 zR, .slice zY zO.length zZ] 24 (0, 0))) ∧ (w'.heap[s_.2.2]? = some (.cells #[.int .i64 0, .int .i64 0, .slice none 0 0] 29 (0, 0))) ∧ (w.heap.size ≤ s_.2.2) ∧ (w.heap.size ≤ s_.2.2) ∧ (zE ≠ s_.2.2) ∧ (s_.2.2 ≠ zE) ∧ (zF ≠ s_.2.2) ∧ (s_.2.2 ≠ zF) ∧ (Below w.heap.size w w')) ?_ ?_
       rotate_left
       ·intro hJ1_3_5
        refine join_ (σ := Value × Nat × Nat) 3 #[true, true, true, false, true, true, false, false] (fun s_ => [(18, .agg #[.int .i64 t147, .int .i64 t148, s_.1]), (5, .pointer (some ⟨s_.2.1, 0, none⟩)), (6, .pointer (some ⟨s_.2.2, 0, none⟩))]) (fun s_ w' => (w'.cell? ⟨zE, 0, none⟩ = some (.int .i64 zM) ∧ w'.cell? ⟨zE, 1, none⟩ = some (.int .i64 zN) ∧ w'.cell? ⟨zE, 2, none⟩ = some (.slice zW zL.length zX) ∧ w'.cell? ⟨zF, 0, none⟩ = some (.int .i64 zQ) ∧ w'.cell? ⟨zF, 1, none⟩ = some (.int .i64 zR) ∧ w'.cell? ⟨zF, 2, none⟩ = some (.slice zY zO.length zZ)) ∧ (Kd.R k29 29 w' w.heap.size (fun k_ => k_ ≠ s_.2.1 ∧ k_ ≠ s_.2.2) s_.1 t149) ∧ (w'.heap[zE]? = some (.cells #[.int .i64 zM, .int .i64 zN, .slice zW zL.length zX] 24 (0, 0))) ∧ (w'.heap[zF]? = some (.cells #[.int .i64 zQ, .int .i64 zR, .slice zY zO.length zZ] 24 (0, 0))) ∧ (w'.heap[s_.2.1]? = some (.cells #[.int .i64 0, .int .i64 0, .slice none 0 0] 29 (0, 0))) ∧ (w'.heap[s_.2.2]? = some (.cells #[.int .i64 0, .int .i64 0, .slice none 0 0] 29 (0, 0))) ∧ (w.heap.size ≤ s_.2.1) ∧ (w.heap.size ≤ s_.2.1) ∧ (zE ≠ s_.2.1) ∧ (s_.2.1 ≠ zE) ∧ (zF ≠ s_.2.1) ∧ (s_.2.1 ≠ zF) ∧ (s_.2.2 ≠ s_.2.1) ∧ (s_.2.1 ≠ s_.2.2) ∧ (w.heap.size ≤ s_.2.2) ∧ (w.heap.size ≤ s_.2.2) ∧ (zE ≠ s_.2.2) ∧ (s_.2.2 ≠ zE) ∧ (zF ≠ s_.2.2) ∧ (s_.2.2 ≠ zF) ∧ (Below w.heap.size w w')) ?_ ?_
        rotate_left
        ·intro hJ1_4_5
         refine join_ (σ := Value × Value) 4 #[true, true, true, true, false, false, false, false] (fun s_ => [(18, .agg #[.int .i64 t147, .int .i64 t148, s_.1]), (20, .agg #[.int .i64 t152, .int .i64 t153, s_.2])]) (fun s_ w' => (w'.cell? ⟨zE, 0, none⟩ = some (.int .i64 zM) ∧ w'.cell? ⟨zE, 1, none⟩ = some (.int .i64 zN) ∧ w'.cell? ⟨zE, 2, none⟩ = some (.slice zW zL.length zX) ∧ w'.cell? ⟨zF, 0, none⟩ = some (.int .i64 zQ) ∧ w'.cell? ⟨zF, 1, none⟩ = some (.int .i64 zR) ∧ w'.cell? ⟨zF, 2, none⟩ = some (.slice zY zO.length zZ)) ∧ (Kd.R k29 29 w' w.heap.size (fun k_ => some k_ ≠ (s_.2 : Value).ownBlock) s_.1 t149) ∧ (Kd.R k29 29 w' w.heap.size (fun k_ => some k_ ≠ (s_.1 : Value).ownBlock) s_.2 t154) ∧ (w'.heap[zE]? = some (.cells #[.int .i64 zM, .int .i64 zN, .slice zW zL.length zX] 24 (0, 0))) ∧ (w'.heap[zF]? = some (.cells #[.int .i64 zQ, .int .i64 zR, .slice zY zO.length zZ] 24 (0, 0))) ∧ (Below w.heap.size w w')) ?_ ?_
         rotate_left
         ·intro hJ1_3
          refine join_ (σ := Value × Nat) 4 #[true, true, true, false, true, false, false, false] (fun s_ => [(18, .agg #[.int .i64 t147, .int .i64 t148, s_.1]), (5, .pointer (some ⟨s_.2, 0, none⟩))]) (fun s_ w' => (w'.cell? ⟨zE, 0, none⟩ = some (.int .i64 zM) ∧ w'.cell? ⟨zE, 1, none⟩ = some (.int .i64 zN) ∧ w'.cell? ⟨zE, 2, none⟩ = some (.slice zW zL.length zX) ∧ w'.cell? ⟨zF, 0, none⟩ = some (.int .i64 zQ) ∧ w'.cell? ⟨zF, 1, none⟩ = some (.int .i64 zR) ∧ w'.cell? ⟨zF, 2, none⟩ = some (.slice zY zO.length zZ)) ∧ (Kd.R k29 29 w' w.heap.size (fun k_ => k_ ≠ s_.2) s_.1 t149) ∧ (w'.heap[zE]? = some (.cells #[.int .i64 zM, .int .i64 zN, .slice zW zL.length zX] 24 (0, 0))) ∧ (w'.heap[zF]? = some (.cells #[.int .i64 zQ, .int .i64 zR, .slice zY zO.length zZ] 24 (0, 0))) ∧ (w'.heap[s_.2]? = some (.cells #[.int .i64 0, .int .i64 0, .slice none 0 0] 29 (0, 0))) ∧ (w.heap.size ≤ s_.2) ∧ (w.heap.size ≤ s_.2) ∧ (zE ≠ s_.2) ∧ (s_.2 ≠ zE) ∧ (zF ≠ s_.2) ∧ (s_.2 ≠ zF) ∧ (Below w.heap.size w w')) ?_ ?_
          rotate_left
          ·intro hJ1_4
           refine join_ (σ := Value × Nat) 4 #[true, true, true, false, false, true, false, false] (fun s_ => [(18, .agg #[.int .i64 t147, .int .i64 t148, s_.1]), (6, .pointer (some ⟨s_.2, 0, none⟩))]) (fun s_ w' => (w'.cell? ⟨zE, 0, none⟩ = some (.int .i64 zM) ∧ w'.cell? ⟨zE, 1, none⟩ = some (.int .i64 zN) ∧ w'.cell? ⟨zE, 2, none⟩ = some (.slice zW zL.length zX) ∧ w'.cell? ⟨zF, 0, none⟩ = some (.int .i64 zQ) ∧ w'.cell? ⟨zF, 1, none⟩ = some (.int .i64 zR) ∧ w'.cell? ⟨zF, 2, none⟩ = some (.slice zY zO.length zZ)) ∧ (Kd.R k29 29 w' w.heap.size (fun k_ => k_ ≠ s_.2) s_.1 t149) ∧ (w'.heap[zE]? = some (.cells #[.int .i64 zM, .int .i64 zN, .slice zW zL.length zX] 24 (0, 0))) ∧ (w'.heap[zF]? = some (.cells #[.int .i64 zQ, .int .i64 zR, .slice zY zO.length zZ] 24 (0, 0))) ∧ (w'.heap[s_.2]? = some (.cells #[.int .i64 0, .int .i64 0, .slice none 0 0] 29 (0, 0))) ∧ (w.heap.size ≤ s_.2) ∧ (w.heap.size ≤ s_.2) ∧ (zE ≠ s_.2) ∧ (s_.2 ≠ zE) ∧ (zF ≠ s_.2) ∧ (s_.2 ≠ zF) ∧ (Below w.heap.size w w')) ?_ ?_
           rotate_left
           ·intro hJ1_5
            refine join_ (σ := Nat × Nat) 4 #[true, false, true, false, true, true, false, false] (fun s_ => [(5, .pointer (some ⟨s_.1, 0, none⟩)), (6, .pointer (some ⟨s_.2, 0, none⟩))]) (fun s_ w' => (w'.cell? ⟨zE, 0, none⟩ = some (.int .i64 zM) ∧ w'.cell? ⟨zE, 1, none⟩ = some (.int .i64 zN) ∧ w'.cell? ⟨zE, 2, none⟩ = some (.slice zW zL.length zX) ∧ w'.cell? ⟨zF, 0, none⟩ = some (.int .i64 zQ) ∧ w'.cell? ⟨zF, 1, none⟩ = some (.int .i64 zR) ∧ w'.cell? ⟨zF, 2, none⟩ = some (.slice zY zO.length zZ)) ∧ (w'.heap[zE]? = some (.cells #[.int .i64 zM, .int .i64 zN, .slice zW zL.length zX] 24 (0, 0))) ∧ (w'.heap[zF]? = some (.cells #[.int .i64 zQ, .int .i64 zR, .slice zY zO.length zZ] 24 (0, 0))) ∧ (w'.heap[s_.1]? = some (.cells #[.int .i64 0, .int .i64 0, .slice none 0 0] 29 (0, 0))) ∧ (w'.heap[s_.2]? = some (.cells #[.int .i64 0, .int .i64 0, .slice none 0 0] 29 (0, 0))) ∧ (w.heap.size ≤ s_.1) ∧ (w.heap.size ≤ s_.1) ∧ (zE ≠ s_.1) ∧ (s_.1 ≠ zE) ∧ (zF ≠ s_.1) ∧ (s_.1 ≠ zF) ∧ (s_.2 ≠ s_.1) ∧ (s_.1 ≠ s_.2) ∧ (w.heap.size ≤ s_.2) ∧ (w.heap.size ≤ s_.2) ∧ (zE ≠ s_.2) ∧ (s_.2 ≠ zE) ∧ (zF ≠ s_.2) ∧ (s_.2 ≠ zF) ∧ (Below w.heap.size w w')) ?_ ?_
            rotate_left
            ·intro hJ4_5
             refine join_ (σ := Value) 5 #[true, true, true, false, false, false, false, false] (fun s_ => [(18, .agg #[.int .i64 t147, .int .i64 t148, s_])]) (fun s_ w' => (w'.cell? ⟨zE, 0, none⟩ = some (.int .i64 zM) ∧ w'.cell? ⟨zE, 1, none⟩ = some (.int .i64 zN) ∧ w'.cell? ⟨zE, 2, none⟩ = some (.slice zW zL.length zX) ∧ w'.cell? ⟨zF, 0, none⟩ = some (.int .i64 zQ) ∧ w'.cell? ⟨zF, 1, none⟩ = some (.int .i64 zR) ∧ w'.cell? ⟨zF, 2, none⟩ = some (.slice zY zO.length zZ)) ∧ (Kd.R k29 29 w' w.heap.size (fun _ => True) s_ t149) ∧ (w'.heap[zE]? = some (.cells #[.int .i64 zM, .int .i64 zN, .slice zW zL.length zX] 24 (0, 0))) ∧ (w'.heap[zF]? = some (.cells #[.int .i64 zQ, .int .i64 zR, .slice zY zO.length zZ] 24 (0, 0))) ∧ (Below w.heap.size w w')) ?_ ?_
             rotate_left
             ·intro hJ1
              refine join_ (σ := Nat) 5 #[true, false, true, false, true, false, false, false] (fun s_ => [(5, .pointer (some ⟨s_, 0, none⟩))]) (fun s_ w' => (w'.cell? ⟨zE, 0, none⟩ = some (.int .i64 zM) ∧ w'.cell? ⟨zE, 1, none⟩ = some (.int .i64 zN) ∧ w'.cell? ⟨zE, 2, none⟩ = some (.slice zW zL.length zX) ∧ w'.cell? ⟨zF, 0, none⟩ = some (.int .i64 zQ) ∧ w'.cell? ⟨zF, 1, none⟩ = some (.int .i64 zR) ∧ w'.cell? ⟨zF, 2, none⟩ = some (.slice zY zO.length zZ)) ∧ (w'.heap[zE]? = some (.cells #[.int .i64 zM, .int .i64 zN, .slice zW zL.length zX] 24 (0, 0))) ∧ (w'.heap[zF]? = some (.cells #[.int .i64 zQ, .int .i64 zR, .slice zY zO.length zZ] 24 (0, 0))) ∧ (w'.heap[s_]? = some (.cells #[.int .i64 0, .int .i64 0, .slice none 0 0] 29 (0, 0))) ∧ (w.heap.size ≤ s_) ∧ (w.heap.size ≤ s_) ∧ (zE ≠ s_) ∧ (s_ ≠ zE) ∧ (zF ≠ s_) ∧ (s_ ≠ zF) ∧ (Below w.heap.size w w')) ?_ ?_
              rotate_left
              ·intro hJ4
               refine join_ (σ := Nat) 5 #[true, false, true, false, false, true, false, false] (fun s_ => [(6, .pointer (some ⟨s_, 0, none⟩))]) (fun s_ w' => (w'.cell? ⟨zE, 0, none⟩ = some (.int .i64 zM) ∧ w'.cell? ⟨zE, 1, none⟩ = some (.int .i64 zN) ∧ w'.cell? ⟨zE, 2, none⟩ = some (.slice zW zL.length zX) ∧ w'.cell? ⟨zF, 0, none⟩ = some (.int .i64 zQ) ∧ w'.cell? ⟨zF, 1, none⟩ = some (.int .i64 zR) ∧ w'.cell? ⟨zF, 2, none⟩ = some (.slice zY zO.length zZ)) ∧ (w'.heap[zE]? = some (.cells #[.int .i64 zM, .int .i64 zN, .slice zW zL.length zX] 24 (0, 0))) ∧ (w'.heap[zF]? = some (.cells #[.int .i64 zQ, .int .i64 zR, .slice zY zO.length zZ] 24 (0, 0))) ∧ (w'.heap[s_]? = some (.cells #[.int .i64 0, .int .i64 0, .slice none 0 0] 29 (0, 0))) ∧ (w.heap.size ≤ s_) ∧ (w.heap.size ≤ s_) ∧ (zE ≠ s_) ∧ (s_ ≠ zE) ∧ (zF ≠ s_) ∧ (s_ ≠ zF) ∧ (Below w.heap.size w w')) ?_ ?_
               rotate_left
               ·intro hJ5
                refine three_ (i := 1) (j := 4) (k := 5) (Ni := some 18) (Nj := some 5) (Nk := some 6) #[true, true, true, false, false, false, false, false] #[true, false, true, false, true, false, false, false] #[true, false, true, false, false, true, false, false] rfl rfl rfl rfl rfl rfl (three_of HT_.out (by kernel_rfl)) (by decide) (by decide) (by decide) (fun K hK => ?_) (fun K hK => ?_) (fun K hK => ?_)
                ·skip
                 refine goes_ Try.func11 (by kernel_rfl) rfl #[.agg #[.int .i64 zM, .int .i64 zN, .slice zW zL.length zX]] (by rfl) rfl rfl (by (try simp only [List.map_toArray, List.map_cons, List.map_nil]); first | done | rfl | (simp only [List.length_drop, List.length_take]; rfl)) ?_
                 with_reducible refine (thyrsuslaw1_Plain.calls kj4 zM zN _ _ zL t147 t148 t149 _ ?side1 ?side2 A21.out).mono ?_
                 (case side1 => repeat (first | exact (Kd.C_below HR0_2.out HB.out) | (with_reducible refine Kd.C_alloc ?_ _) | (with_reducible refine Kd.C_drewN ?_ _) | (with_reducible refine Kd.C_drew ?_)))
                 (case side2 => exact HC0_2.out)
                 rintro e w27 ⟨v150, rfl, ho0, hb⟩
                 refine ⟨_, rfl, ?_⟩
                 have n0_ := Aside0.mk (Kd.R_lower ho0 (below_size (by repeat (first | (with_reducible first | exact HB.out | apply below_alloc | apply pw_below_drewN | apply below_drew1 | refine below_set ?_ zJ.out | refine below_set ?_ zK.out) | exact HB.out))))
                 have n1_ := Aside0.mk (blk_below (g := zE) (o := .cells #[.int .i64 zM, .int .i64 zN, .slice zW zL.length zX] 24 (0, 0)) (by (with_reducible repeat (first | refine blk_drewN ?_ _ | refine blk_drew ?_ | refine blk_alloc ?_ _)); exact zC.out) hb)
                 have n2_ := Aside0.mk (blk_below (g := zF) (o := .cells #[.int .i64 zQ, .int .i64 zR, .slice zY zO.length zZ] 24 (0, 0)) (by (with_reducible repeat (first | refine blk_drewN ?_ _ | refine blk_drew ?_ | refine blk_alloc ?_ _)); exact zD.out) hb)
                 have n3_ := Aside0.mk (below_step (by repeat (first | (with_reducible first | exact HB.out | apply below_alloc | apply pw_below_drewN | apply below_drew1 | refine below_set ?_ zJ.out | refine below_set ?_ zK.out) | exact HB.out)) hb)
                 clear zC
                 clear zD
                 clear HB
                 have zI := n0_
                 have zC := n1_
                 have zD := n2_
                 have HB := n3_
                 clear n0_ n1_ n2_ n3_
                 (try clear hb)
                 (try clear hb2)
                 (try clear hk)
                 (try clear hi)
                 (try clear ho0)
                 refine hK.out _ _ ⟨(blk_cell zC.out 0).trans rfl, (blk_cell zC.out 1).trans rfl, (blk_cell zC.out 2).trans rfl, (blk_cell zD.out 0).trans rfl, (blk_cell zD.out 1).trans rfl, (blk_cell zD.out 2).trans rfl⟩ (fun hHeld => ?_)
                 clear hK K
                 refine norm_ (a' := ?_) ?_ ?_
                 rotate_left
                 ·show Act.put _ (some 18) _ = _
                  simp only [Act.put, List.setIfInBounds_toArray, List.set_cons_zero, List.set_cons_succ, i64_w, i32_w, u8_w, u32_w]
                  rfl
                 exact norm_ (by first | (simp only [putAll, Act.put, List.setIfInBounds_toArray, List.set_cons_zero, List.set_cons_succ]; done) | (simp only [putAll, Act.put, List.setIfInBounds_toArray, List.set_cons_zero, List.set_cons_succ]; rfl)) (hJ1 (v150) _ ⟨hHeld, (by (with_reducible repeat (first | apply Kd.R_alloc | apply Kd.R_drewN | apply Kd.R_drew)); exact zI.out), (by (with_reducible repeat (first | refine blk_drewN ?_ _ | refine blk_drew ?_ | refine blk_alloc ?_ _)); exact zC.out), (by (with_reducible repeat (first | refine blk_drewN ?_ _ | refine blk_drew ?_ | refine blk_alloc ?_ _)); exact zD.out), (by repeat (first | (with_reducible first | exact HB.out | apply below_alloc | apply pw_below_drewN | apply below_drew1 | refine below_set ?_ zJ.out | refine below_set ?_ zK.out) | exact HB.out))⟩)
                ·skip
                 refine box_step ?hg (N := 5) ?hd (cs := #[.int .i64 0, .int .i64 0, .slice none 0 0]) (t := 29) ?hr ?_; (case hd => rfl); (case hg => rfl); (case hr => first | (go_simp; done) | (go_simp; rfl))
                 intro zA hg w27 hbox hb
                 have n0_ := Aside0.mk (blk_below (g := zE) (o := .cells #[.int .i64 zM, .int .i64 zN, .slice zW zL.length zX] 24 (0, 0)) (by (with_reducible repeat (first | refine blk_drewN ?_ _ | refine blk_drew ?_ | refine blk_alloc ?_ _)); exact zC.out) hb)
                 have n1_ := Aside0.mk (blk_below (g := zF) (o := .cells #[.int .i64 zQ, .int .i64 zR, .slice zY zO.length zZ] 24 (0, 0)) (by (with_reducible repeat (first | refine blk_drewN ?_ _ | refine blk_drew ?_ | refine blk_alloc ?_ _)); exact zD.out) hb)
                 have n2_ := Aside0.mk (below_step (by repeat (first | (with_reducible first | exact HB.out | apply below_alloc | apply pw_below_drewN | apply below_drew1 | refine below_set ?_ zJ.out | refine below_set ?_ zK.out) | exact HB.out)) hb)
                 have n3_ := Aside0.mk (hbox)
                 have n4_ := Aside0.mk ((by rw [hg]; exact (below_size (by repeat (first | (with_reducible first | exact HB.out | apply below_alloc | apply pw_below_drewN | apply below_drew1 | refine below_set ?_ zJ.out | refine below_set ?_ zK.out) | exact HB.out))) : w.heap.size ≤ zA))
                 have n5_ := Aside0.mk ((by rw [hg]; exact (below_size (by repeat (first | (with_reducible first | exact HB.out | apply below_alloc | apply pw_below_drewN | apply below_drew1 | refine below_set ?_ zJ.out | refine below_set ?_ zK.out) | exact HB.out))) : w.heap.size ≤ zA))
                 have n6_ := Aside0.mk ((by rw [hg]; exact Nat.ne_of_lt (blk_lt (g := zE) (o := .cells #[.int .i64 zM, .int .i64 zN, .slice zW zL.length zX] 24 (0, 0)) (by (with_reducible repeat (first | refine blk_drewN ?_ _ | refine blk_drew ?_ | refine blk_alloc ?_ _)); exact zC.out)) : zE ≠ zA))
                 have n7_ := Aside0.mk ((by rw [hg]; exact Nat.ne_of_gt (blk_lt (g := zE) (o := .cells #[.int .i64 zM, .int .i64 zN, .slice zW zL.length zX] 24 (0, 0)) (by (with_reducible repeat (first | refine blk_drewN ?_ _ | refine blk_drew ?_ | refine blk_alloc ?_ _)); exact zC.out)) : zA ≠ zE))
                 have n8_ := Aside0.mk ((by rw [hg]; exact Nat.ne_of_lt (blk_lt (g := zF) (o := .cells #[.int .i64 zQ, .int .i64 zR, .slice zY zO.length zZ] 24 (0, 0)) (by (with_reducible repeat (first | refine blk_drewN ?_ _ | refine blk_drew ?_ | refine blk_alloc ?_ _)); exact zD.out)) : zF ≠ zA))
                 have n9_ := Aside0.mk ((by rw [hg]; exact Nat.ne_of_gt (blk_lt (g := zF) (o := .cells #[.int .i64 zQ, .int .i64 zR, .slice zY zO.length zZ] 24 (0, 0)) (by (with_reducible repeat (first | refine blk_drewN ?_ _ | refine blk_drew ?_ | refine blk_alloc ?_ _)); exact zD.out)) : zA ≠ zF))
                 clear zC
                 clear zD
                 clear HB
                 have zC := n0_
                 have zD := n1_
                 have HB := n2_
                 have zG := n3_
                 have GW157 := n4_
                 have za := n5_
                 have zS := n6_
                 have zg := n7_
                 have zT := n8_
                 have zh := n9_
                 clear n0_ n1_ n2_ n3_ n4_ n5_ n6_ n7_ n8_ n9_
                 clear hb hbox hg
                 refine hK.out _ _ ⟨(blk_cell zC.out 0).trans rfl, (blk_cell zC.out 1).trans rfl, (blk_cell zC.out 2).trans rfl, (blk_cell zD.out 0).trans rfl, (blk_cell zD.out 1).trans rfl, (blk_cell zD.out 2).trans rfl⟩ (fun hHeld => ?_)
                 clear hK K
                 refine norm_ (a' := ?_) ?_ ?_
                 rotate_left
                 ·show Act.put _ (some 5) _ = _
                  simp only [Act.put, List.setIfInBounds_toArray, List.set_cons_zero, List.set_cons_succ, i64_w, i32_w, u8_w, u32_w]
                  rfl
                 exact norm_ (by first | (simp only [putAll, Act.put, List.setIfInBounds_toArray, List.set_cons_zero, List.set_cons_succ]; done) | (simp only [putAll, Act.put, List.setIfInBounds_toArray, List.set_cons_zero, List.set_cons_succ]; rfl)) (hJ4 (zA) _ ⟨hHeld, (by (with_reducible repeat (first | refine blk_drewN ?_ _ | refine blk_drew ?_ | refine blk_alloc ?_ _)); exact zC.out), (by (with_reducible repeat (first | refine blk_drewN ?_ _ | refine blk_drew ?_ | refine blk_alloc ?_ _)); exact zD.out), (by (with_reducible repeat (first | refine blk_drewN ?_ _ | refine blk_drew ?_ | refine blk_alloc ?_ _)); exact zG.out), GW157.out, za.out, zS.out, zg.out, zT.out, zh.out, (by repeat (first | (with_reducible first | exact HB.out | apply below_alloc | apply pw_below_drewN | apply below_drew1 | refine below_set ?_ zJ.out | refine below_set ?_ zK.out | refine below_set ?_ za.out) | exact HB.out))⟩)
                ·skip
                 refine box_step ?hg (N := 6) ?hd (cs := #[.int .i64 0, .int .i64 0, .slice none 0 0]) (t := 29) ?hr ?_; (case hd => rfl); (case hg => rfl); (case hr => first | (go_simp; done) | (go_simp; rfl))
                 intro zB hg w27 hbox hb
                 have n0_ := Aside0.mk (blk_below (g := zE) (o := .cells #[.int .i64 zM, .int .i64 zN, .slice zW zL.length zX] 24 (0, 0)) (by (with_reducible repeat (first | refine blk_drewN ?_ _ | refine blk_drew ?_ | refine blk_alloc ?_ _)); exact zC.out) hb)
                 have n1_ := Aside0.mk (blk_below (g := zF) (o := .cells #[.int .i64 zQ, .int .i64 zR, .slice zY zO.length zZ] 24 (0, 0)) (by (with_reducible repeat (first | refine blk_drewN ?_ _ | refine blk_drew ?_ | refine blk_alloc ?_ _)); exact zD.out) hb)
                 have n2_ := Aside0.mk (below_step (by repeat (first | (with_reducible first | exact HB.out | apply below_alloc | apply pw_below_drewN | apply below_drew1 | refine below_set ?_ zJ.out | refine below_set ?_ zK.out) | exact HB.out)) hb)
                 have n3_ := Aside0.mk (hbox)
                 have n4_ := Aside0.mk ((by rw [hg]; exact (below_size (by repeat (first | (with_reducible first | exact HB.out | apply below_alloc | apply pw_below_drewN | apply below_drew1 | refine below_set ?_ zJ.out | refine below_set ?_ zK.out) | exact HB.out))) : w.heap.size ≤ zB))
                 have n5_ := Aside0.mk ((by rw [hg]; exact (below_size (by repeat (first | (with_reducible first | exact HB.out | apply below_alloc | apply pw_below_drewN | apply below_drew1 | refine below_set ?_ zJ.out | refine below_set ?_ zK.out) | exact HB.out))) : w.heap.size ≤ zB))
                 have n6_ := Aside0.mk ((by rw [hg]; exact Nat.ne_of_lt (blk_lt (g := zE) (o := .cells #[.int .i64 zM, .int .i64 zN, .slice zW zL.length zX] 24 (0, 0)) (by (with_reducible repeat (first | refine blk_drewN ?_ _ | refine blk_drew ?_ | refine blk_alloc ?_ _)); exact zC.out)) : zE ≠ zB))
                 have n7_ := Aside0.mk ((by rw [hg]; exact Nat.ne_of_gt (blk_lt (g := zE) (o := .cells #[.int .i64 zM, .int .i64 zN, .slice zW zL.length zX] 24 (0, 0)) (by (with_reducible repeat (first | refine blk_drewN ?_ _ | refine blk_drew ?_ | refine blk_alloc ?_ _)); exact zC.out)) : zB ≠ zE))
                 have n8_ := Aside0.mk ((by rw [hg]; exact Nat.ne_of_lt (blk_lt (g := zF) (o := .cells #[.int .i64 zQ, .int .i64 zR, .slice zY zO.length zZ] 24 (0, 0)) (by (with_reducible repeat (first | refine blk_drewN ?_ _ | refine blk_drew ?_ | refine blk_alloc ?_ _)); exact zD.out)) : zF ≠ zB))
                 have n9_ := Aside0.mk ((by rw [hg]; exact Nat.ne_of_gt (blk_lt (g := zF) (o := .cells #[.int .i64 zQ, .int .i64 zR, .slice zY zO.length zZ] 24 (0, 0)) (by (with_reducible repeat (first | refine blk_drewN ?_ _ | refine blk_drew ?_ | refine blk_alloc ?_ _)); exact zD.out)) : zB ≠ zF))
                 clear zC
                 clear zD
                 clear HB
                 have zC := n0_
                 have zD := n1_
                 have HB := n2_
                 have zH := n3_
                 have GW158 := n4_
                 have zb := n5_
                 have zU := n6_
                 have zi := n7_
                 have zV := n8_
                 have zj := n9_
                 clear n0_ n1_ n2_ n3_ n4_ n5_ n6_ n7_ n8_ n9_
                 clear hb hbox hg
                 refine hK.out _ _ ⟨(blk_cell zC.out 0).trans rfl, (blk_cell zC.out 1).trans rfl, (blk_cell zC.out 2).trans rfl, (blk_cell zD.out 0).trans rfl, (blk_cell zD.out 1).trans rfl, (blk_cell zD.out 2).trans rfl⟩ (fun hHeld => ?_)
                 clear hK K
                 refine norm_ (a' := ?_) ?_ ?_
                 rotate_left
                 ·show Act.put _ (some 6) _ = _
                  simp only [Act.put, List.setIfInBounds_toArray, List.set_cons_zero, List.set_cons_succ, i64_w, i32_w, u8_w, u32_w]
                  rfl
                 exact norm_ (by first | (simp only [putAll, Act.put, List.setIfInBounds_toArray, List.set_cons_zero, List.set_cons_succ]; done) | (simp only [putAll, Act.put, List.setIfInBounds_toArray, List.set_cons_zero, List.set_cons_succ]; rfl)) (hJ5 (zB) _ ⟨hHeld, (by (with_reducible repeat (first | refine blk_drewN ?_ _ | refine blk_drew ?_ | refine blk_alloc ?_ _)); exact zC.out), (by (with_reducible repeat (first | refine blk_drewN ?_ _ | refine blk_drew ?_ | refine blk_alloc ?_ _)); exact zD.out), (by (with_reducible repeat (first | refine blk_drewN ?_ _ | refine blk_drew ?_ | refine blk_alloc ?_ _)); exact zH.out), GW158.out, zb.out, zU.out, zi.out, zV.out, zj.out, (by repeat (first | (with_reducible first | exact HB.out | apply below_alloc | apply pw_below_drewN | apply below_drew1 | refine below_set ?_ zJ.out | refine below_set ?_ zK.out | refine below_set ?_ zb.out) | exact HB.out))⟩)
               ·skip
                rintro zB w28 ⟨hS_, h0_, h1_, h2_, h3_, h4_, h5_, h6_, h7_, h8_, h9_⟩
                have n0_ : Aside0 (w28.heap[zE]? = some (.cells #[.int .i64 zM, .int .i64 zN, .slice zW zL.length zX] 24 (0, 0))) := ⟨h0_⟩
                have n1_ : Aside0 (w28.heap[zF]? = some (.cells #[.int .i64 zQ, .int .i64 zR, .slice zY zO.length zZ] 24 (0, 0))) := ⟨h1_⟩
                have n2_ : Aside0 (w28.heap[zB]? = some (.cells #[.int .i64 0, .int .i64 0, .slice none 0 0] 29 (0, 0))) := ⟨h2_⟩
                have n3_ : Aside0 (w.heap.size ≤ zB) := ⟨h3_⟩
                have n4_ : Aside0 (w.heap.size ≤ zB) := ⟨h4_⟩
                have n5_ : Aside0 (zE ≠ zB) := ⟨h5_⟩
                have n6_ : Aside0 (zB ≠ zE) := ⟨h6_⟩
                have n7_ : Aside0 (zF ≠ zB) := ⟨h7_⟩
                have n8_ : Aside0 (zB ≠ zF) := ⟨h8_⟩
                have n9_ : Aside0 (Below w.heap.size w w28) := ⟨h9_⟩
                clear zC
                clear zD
                clear HB
                clear h0_ h1_ h2_ h3_ h4_ h5_ h6_ h7_ h8_ h9_
                have zC := n0_
                have zD := n1_
                have zH := n2_
                have GW158 := n3_
                have zb := n4_
                have zU := n5_
                have zi := n6_
                have zV := n7_
                have zj := n8_
                have HB := n9_
                clear n0_ n1_ n2_ n3_ n4_ n5_ n6_ n7_ n8_ n9_
                have hHeld : w28.cell? ⟨zE, 0, none⟩ = some (.int .i64 zM) ∧ w28.cell? ⟨zE, 1, none⟩ = some (.int .i64 zN) ∧ w28.cell? ⟨zE, 2, none⟩ = some (.slice zW zL.length zX) ∧ w28.cell? ⟨zF, 0, none⟩ = some (.int .i64 zQ) ∧ w28.cell? ⟨zF, 1, none⟩ = some (.int .i64 zR) ∧ w28.cell? ⟨zF, 2, none⟩ = some (.slice zY zO.length zZ) := hS_
                refine norm_ (a' := ?_) ?_ ?_
                rotate_left
                ·simp only [putAll, Act.put, List.setIfInBounds_toArray, List.set_cons_zero, List.set_cons_succ]
                 rfl
                refine two_ (i := 1) (j := 4) (Ni := some 18) (Nj := some 5) #[true, true, true, false, false, true, false, false] #[true, false, true, false, true, true, false, false] rfl rfl rfl rfl (two_of HT_.out (by kernel_rfl)) (by decide) (by decide) (fun K hK => ?_) (fun K hK => ?_)
                ·skip
                 refine goes_ Try.func11 (by kernel_rfl) rfl #[.agg #[.int .i64 zM, .int .i64 zN, .slice zW zL.length zX]] (by rfl) rfl rfl (by (try simp only [List.map_toArray, List.map_cons, List.map_nil]); first | done | rfl | (simp only [List.length_drop, List.length_take]; rfl)) ?_
                 with_reducible refine (thyrsuslaw1_Plain.calls kj4 zM zN _ _ zL t147 t148 t149 _ ?side1 ?side2 A21.out).mono ?_
                 (case side1 => repeat (first | exact (Kd.C_below HR0_2.out HB.out) | (with_reducible refine Kd.C_alloc ?_ _) | (with_reducible refine Kd.C_drewN ?_ _) | (with_reducible refine Kd.C_drew ?_)))
                 (case side2 => exact HC0_2.out)
                 rintro e w29 ⟨v150, rfl, ho0, hb⟩
                 refine ⟨_, rfl, ?_⟩
                 have n0_ := Aside0.mk (Kd.R_lower (Kd.R_newB ho0 (g := zB) (o := .cells #[.int .i64 0, .int .i64 0, .slice none 0 0] 29 (0, 0)) (by (with_reducible repeat (first | refine blk_drewN ?_ _ | refine blk_drew ?_ | refine blk_alloc ?_ _)); exact zH.out)) (below_size (by repeat (first | (with_reducible first | exact HB.out | apply below_alloc | apply pw_below_drewN | apply below_drew1 | refine below_set ?_ zJ.out | refine below_set ?_ zK.out | refine below_set ?_ zb.out) | exact HB.out))))
                 have n1_ := Aside0.mk (blk_below (g := zE) (o := .cells #[.int .i64 zM, .int .i64 zN, .slice zW zL.length zX] 24 (0, 0)) (by (with_reducible repeat (first | refine blk_drewN ?_ _ | refine blk_drew ?_ | refine blk_alloc ?_ _)); exact zC.out) hb)
                 have n2_ := Aside0.mk (blk_below (g := zF) (o := .cells #[.int .i64 zQ, .int .i64 zR, .slice zY zO.length zZ] 24 (0, 0)) (by (with_reducible repeat (first | refine blk_drewN ?_ _ | refine blk_drew ?_ | refine blk_alloc ?_ _)); exact zD.out) hb)
                 have n3_ := Aside0.mk (blk_below (g := zB) (o := .cells #[.int .i64 0, .int .i64 0, .slice none 0 0] 29 (0, 0)) (by (with_reducible repeat (first | refine blk_drewN ?_ _ | refine blk_drew ?_ | refine blk_alloc ?_ _)); exact zH.out) hb)
                 have n4_ := Aside0.mk (below_step (by repeat (first | (with_reducible first | exact HB.out | apply below_alloc | apply pw_below_drewN | apply below_drew1 | refine below_set ?_ zJ.out | refine below_set ?_ zK.out | refine below_set ?_ zb.out) | exact HB.out)) hb)
                 clear zC
                 clear zD
                 clear zH
                 clear HB
                 have zI := n0_
                 have zC := n1_
                 have zD := n2_
                 have zH := n3_
                 have HB := n4_
                 clear n0_ n1_ n2_ n3_ n4_
                 (try clear hb)
                 (try clear hb2)
                 (try clear hk)
                 (try clear hi)
                 (try clear ho0)
                 refine hK.out _ _ ⟨(blk_cell zC.out 0).trans rfl, (blk_cell zC.out 1).trans rfl, (blk_cell zC.out 2).trans rfl, (blk_cell zD.out 0).trans rfl, (blk_cell zD.out 1).trans rfl, (blk_cell zD.out 2).trans rfl⟩ (fun hHeld => ?_)
                 clear hK K
                 refine norm_ (a' := ?_) ?_ ?_
                 rotate_left
                 ·show Act.put _ (some 18) _ = _
                  simp only [Act.put, List.setIfInBounds_toArray, List.set_cons_zero, List.set_cons_succ, i64_w, i32_w, u8_w, u32_w]
                  rfl
                 exact norm_ (by first | (simp only [putAll, Act.put, List.setIfInBounds_toArray, List.set_cons_zero, List.set_cons_succ]; done) | (simp only [putAll, Act.put, List.setIfInBounds_toArray, List.set_cons_zero, List.set_cons_succ]; rfl)) (hJ1_5 (v150, zB) _ ⟨hHeld, (by (with_reducible repeat (first | apply Kd.R_alloc | apply Kd.R_drewN | apply Kd.R_drew)); exact Kd.R_mono zI.out (fun _ hk => hk.2)), (by (with_reducible repeat (first | refine blk_drewN ?_ _ | refine blk_drew ?_ | refine blk_alloc ?_ _)); exact zC.out), (by (with_reducible repeat (first | refine blk_drewN ?_ _ | refine blk_drew ?_ | refine blk_alloc ?_ _)); exact zD.out), (by (with_reducible repeat (first | refine blk_drewN ?_ _ | refine blk_drew ?_ | refine blk_alloc ?_ _)); exact zH.out), GW158.out, zb.out, zU.out, zi.out, zV.out, zj.out, (by repeat (first | (with_reducible first | exact HB.out | apply below_alloc | apply pw_below_drewN | apply below_drew1 | refine below_set ?_ zJ.out | refine below_set ?_ zK.out | refine below_set ?_ zb.out) | exact HB.out))⟩)
                ·skip
                 refine box_step ?hg (N := 5) ?hd (cs := #[.int .i64 0, .int .i64 0, .slice none 0 0]) (t := 29) ?hr ?_; (case hd => rfl); (case hg => rfl); (case hr => first | (go_simp; done) | (go_simp; rfl))
                 intro zA hg w29 hbox hb
                 have n0_ := Aside0.mk (blk_below (g := zE) (o := .cells #[.int .i64 zM, .int .i64 zN, .slice zW zL.length zX] 24 (0, 0)) (by (with_reducible repeat (first | refine blk_drewN ?_ _ | refine blk_drew ?_ | refine blk_alloc ?_ _)); exact zC.out) hb)
                 have n1_ := Aside0.mk (blk_below (g := zF) (o := .cells #[.int .i64 zQ, .int .i64 zR, .slice zY zO.length zZ] 24 (0, 0)) (by (with_reducible repeat (first | refine blk_drewN ?_ _ | refine blk_drew ?_ | refine blk_alloc ?_ _)); exact zD.out) hb)
                 have n2_ := Aside0.mk (blk_below (g := zB) (o := .cells #[.int .i64 0, .int .i64 0, .slice none 0 0] 29 (0, 0)) (by (with_reducible repeat (first | refine blk_drewN ?_ _ | refine blk_drew ?_ | refine blk_alloc ?_ _)); exact zH.out) hb)
                 have n3_ := Aside0.mk (below_step (by repeat (first | (with_reducible first | exact HB.out | apply below_alloc | apply pw_below_drewN | apply below_drew1 | refine below_set ?_ zJ.out | refine below_set ?_ zK.out | refine below_set ?_ zb.out) | exact HB.out)) hb)
                 have n4_ := Aside0.mk (hbox)
                 have n5_ := Aside0.mk ((by rw [hg]; exact (below_size (by repeat (first | (with_reducible first | exact HB.out | apply below_alloc | apply pw_below_drewN | apply below_drew1 | refine below_set ?_ zJ.out | refine below_set ?_ zK.out | refine below_set ?_ zb.out) | exact HB.out))) : w.heap.size ≤ zA))
                 have n6_ := Aside0.mk ((by rw [hg]; exact (below_size (by repeat (first | (with_reducible first | exact HB.out | apply below_alloc | apply pw_below_drewN | apply below_drew1 | refine below_set ?_ zJ.out | refine below_set ?_ zK.out | refine below_set ?_ zb.out) | exact HB.out))) : w.heap.size ≤ zA))
                 have n7_ := Aside0.mk ((by rw [hg]; exact Nat.ne_of_lt (blk_lt (g := zE) (o := .cells #[.int .i64 zM, .int .i64 zN, .slice zW zL.length zX] 24 (0, 0)) (by (with_reducible repeat (first | refine blk_drewN ?_ _ | refine blk_drew ?_ | refine blk_alloc ?_ _)); exact zC.out)) : zE ≠ zA))
                 have n8_ := Aside0.mk ((by rw [hg]; exact Nat.ne_of_gt (blk_lt (g := zE) (o := .cells #[.int .i64 zM, .int .i64 zN, .slice zW zL.length zX] 24 (0, 0)) (by (with_reducible repeat (first | refine blk_drewN ?_ _ | refine blk_drew ?_ | refine blk_alloc ?_ _)); exact zC.out)) : zA ≠ zE))
                 have n9_ := Aside0.mk ((by rw [hg]; exact Nat.ne_of_lt (blk_lt (g := zF) (o := .cells #[.int .i64 zQ, .int .i64 zR, .slice zY zO.length zZ] 24 (0, 0)) (by (with_reducible repeat (first | refine blk_drewN ?_ _ | refine blk_drew ?_ | refine blk_alloc ?_ _)); exact zD.out)) : zF ≠ zA))
                 have n10_ := Aside0.mk ((by rw [hg]; exact Nat.ne_of_gt (blk_lt (g := zF) (o := .cells #[.int .i64 zQ, .int .i64 zR, .slice zY zO.length zZ] 24 (0, 0)) (by (with_reducible repeat (first | refine blk_drewN ?_ _ | refine blk_drew ?_ | refine blk_alloc ?_ _)); exact zD.out)) : zA ≠ zF))
                 have n11_ := Aside0.mk ((by rw [hg]; exact Nat.ne_of_lt (blk_lt (g := zB) (o := .cells #[.int .i64 0, .int .i64 0, .slice none 0 0] 29 (0, 0)) (by (with_reducible repeat (first | refine blk_drewN ?_ _ | refine blk_drew ?_ | refine blk_alloc ?_ _)); exact zH.out)) : zB ≠ zA))
                 have n12_ := Aside0.mk ((by rw [hg]; exact Nat.ne_of_gt (blk_lt (g := zB) (o := .cells #[.int .i64 0, .int .i64 0, .slice none 0 0] 29 (0, 0)) (by (with_reducible repeat (first | refine blk_drewN ?_ _ | refine blk_drew ?_ | refine blk_alloc ?_ _)); exact zH.out)) : zA ≠ zB))
                 clear zC
                 clear zD
                 clear zH
                 clear HB
                 have zC := n0_
                 have zD := n1_
                 have zH := n2_
                 have HB := n3_
                 have zG := n4_
                 have GW157 := n5_
                 have za := n6_
                 have zS := n7_
                 have zg := n8_
                 have zT := n9_
                 have zh := n10_
                 have zk := n11_
                 have zl := n12_
                 clear n0_ n1_ n2_ n3_ n4_ n5_ n6_ n7_ n8_ n9_ n10_ n11_ n12_
                 clear hb hbox hg
                 refine hK.out _ _ ⟨(blk_cell zC.out 0).trans rfl, (blk_cell zC.out 1).trans rfl, (blk_cell zC.out 2).trans rfl, (blk_cell zD.out 0).trans rfl, (blk_cell zD.out 1).trans rfl, (blk_cell zD.out 2).trans rfl⟩ (fun hHeld => ?_)
                 clear hK K
                 refine norm_ (a' := ?_) ?_ ?_
                 rotate_left
                 ·show Act.put _ (some 5) _ = _
                  simp only [Act.put, List.setIfInBounds_toArray, List.set_cons_zero, List.set_cons_succ, i64_w, i32_w, u8_w, u32_w]
                  rfl
                 exact norm_ (by first | (simp only [putAll, Act.put, List.setIfInBounds_toArray, List.set_cons_zero, List.set_cons_succ]; done) | (simp only [putAll, Act.put, List.setIfInBounds_toArray, List.set_cons_zero, List.set_cons_succ]; rfl)) (hJ4_5 (zA, zB) _ ⟨hHeld, (by (with_reducible repeat (first | refine blk_drewN ?_ _ | refine blk_drew ?_ | refine blk_alloc ?_ _)); exact zC.out), (by (with_reducible repeat (first | refine blk_drewN ?_ _ | refine blk_drew ?_ | refine blk_alloc ?_ _)); exact zD.out), (by (with_reducible repeat (first | refine blk_drewN ?_ _ | refine blk_drew ?_ | refine blk_alloc ?_ _)); exact zG.out), (by (with_reducible repeat (first | refine blk_drewN ?_ _ | refine blk_drew ?_ | refine blk_alloc ?_ _)); exact zH.out), GW157.out, za.out, zS.out, zg.out, zT.out, zh.out, zk.out, zl.out, GW158.out, zb.out, zU.out, zi.out, zV.out, zj.out, (by repeat (first | (with_reducible first | exact HB.out | apply below_alloc | apply pw_below_drewN | apply below_drew1 | refine below_set ?_ zJ.out | refine below_set ?_ zK.out | refine below_set ?_ zb.out | refine below_set ?_ za.out) | exact HB.out))⟩)
              ·skip
               rintro zA w28 ⟨hS_, h0_, h1_, h2_, h3_, h4_, h5_, h6_, h7_, h8_, h9_⟩
               have n0_ : Aside0 (w28.heap[zE]? = some (.cells #[.int .i64 zM, .int .i64 zN, .slice zW zL.length zX] 24 (0, 0))) := ⟨h0_⟩
               have n1_ : Aside0 (w28.heap[zF]? = some (.cells #[.int .i64 zQ, .int .i64 zR, .slice zY zO.length zZ] 24 (0, 0))) := ⟨h1_⟩
               have n2_ : Aside0 (w28.heap[zA]? = some (.cells #[.int .i64 0, .int .i64 0, .slice none 0 0] 29 (0, 0))) := ⟨h2_⟩
               have n3_ : Aside0 (w.heap.size ≤ zA) := ⟨h3_⟩
               have n4_ : Aside0 (w.heap.size ≤ zA) := ⟨h4_⟩
               have n5_ : Aside0 (zE ≠ zA) := ⟨h5_⟩
               have n6_ : Aside0 (zA ≠ zE) := ⟨h6_⟩
               have n7_ : Aside0 (zF ≠ zA) := ⟨h7_⟩
               have n8_ : Aside0 (zA ≠ zF) := ⟨h8_⟩
               have n9_ : Aside0 (Below w.heap.size w w28) := ⟨h9_⟩
               clear zC
               clear zD
               clear HB
               clear h0_ h1_ h2_ h3_ h4_ h5_ h6_ h7_ h8_ h9_
               have zC := n0_
               have zD := n1_
               have zG := n2_
               have GW157 := n3_
               have za := n4_
               have zS := n5_
               have zg := n6_
               have zT := n7_
               have zh := n8_
               have HB := n9_
               clear n0_ n1_ n2_ n3_ n4_ n5_ n6_ n7_ n8_ n9_
               have hHeld : w28.cell? ⟨zE, 0, none⟩ = some (.int .i64 zM) ∧ w28.cell? ⟨zE, 1, none⟩ = some (.int .i64 zN) ∧ w28.cell? ⟨zE, 2, none⟩ = some (.slice zW zL.length zX) ∧ w28.cell? ⟨zF, 0, none⟩ = some (.int .i64 zQ) ∧ w28.cell? ⟨zF, 1, none⟩ = some (.int .i64 zR) ∧ w28.cell? ⟨zF, 2, none⟩ = some (.slice zY zO.length zZ) := hS_
               refine norm_ (a' := ?_) ?_ ?_
               rotate_left
               ·simp only [putAll, Act.put, List.setIfInBounds_toArray, List.set_cons_zero, List.set_cons_succ]
                rfl
               refine two_ (i := 1) (j := 5) (Ni := some 18) (Nj := some 6) #[true, true, true, false, true, false, false, false] #[true, false, true, false, true, true, false, false] rfl rfl rfl rfl (two_of HT_.out (by kernel_rfl)) (by decide) (by decide) (fun K hK => ?_) (fun K hK => ?_)
               ·skip
                refine goes_ Try.func11 (by kernel_rfl) rfl #[.agg #[.int .i64 zM, .int .i64 zN, .slice zW zL.length zX]] (by rfl) rfl rfl (by (try simp only [List.map_toArray, List.map_cons, List.map_nil]); first | done | rfl | (simp only [List.length_drop, List.length_take]; rfl)) ?_
                with_reducible refine (thyrsuslaw1_Plain.calls kj4 zM zN _ _ zL t147 t148 t149 _ ?side1 ?side2 A21.out).mono ?_
                (case side1 => repeat (first | exact (Kd.C_below HR0_2.out HB.out) | (with_reducible refine Kd.C_alloc ?_ _) | (with_reducible refine Kd.C_drewN ?_ _) | (with_reducible refine Kd.C_drew ?_)))
                (case side2 => exact HC0_2.out)
                rintro e w29 ⟨v150, rfl, ho0, hb⟩
                refine ⟨_, rfl, ?_⟩
                have n0_ := Aside0.mk (Kd.R_lower (Kd.R_newB ho0 (g := zA) (o := .cells #[.int .i64 0, .int .i64 0, .slice none 0 0] 29 (0, 0)) (by (with_reducible repeat (first | refine blk_drewN ?_ _ | refine blk_drew ?_ | refine blk_alloc ?_ _)); exact zG.out)) (below_size (by repeat (first | (with_reducible first | exact HB.out | apply below_alloc | apply pw_below_drewN | apply below_drew1 | refine below_set ?_ zJ.out | refine below_set ?_ zK.out | refine below_set ?_ za.out) | exact HB.out))))
                have n1_ := Aside0.mk (blk_below (g := zE) (o := .cells #[.int .i64 zM, .int .i64 zN, .slice zW zL.length zX] 24 (0, 0)) (by (with_reducible repeat (first | refine blk_drewN ?_ _ | refine blk_drew ?_ | refine blk_alloc ?_ _)); exact zC.out) hb)
                have n2_ := Aside0.mk (blk_below (g := zF) (o := .cells #[.int .i64 zQ, .int .i64 zR, .slice zY zO.length zZ] 24 (0, 0)) (by (with_reducible repeat (first | refine blk_drewN ?_ _ | refine blk_drew ?_ | refine blk_alloc ?_ _)); exact zD.out) hb)
                have n3_ := Aside0.mk (blk_below (g := zA) (o := .cells #[.int .i64 0, .int .i64 0, .slice none 0 0] 29 (0, 0)) (by (with_reducible repeat (first | refine blk_drewN ?_ _ | refine blk_drew ?_ | refine blk_alloc ?_ _)); exact zG.out) hb)
                have n4_ := Aside0.mk (below_step (by repeat (first | (with_reducible first | exact HB.out | apply below_alloc | apply pw_below_drewN | apply below_drew1 | refine below_set ?_ zJ.out | refine below_set ?_ zK.out | refine below_set ?_ za.out) | exact HB.out)) hb)
                clear zC
                clear zD
                clear zG
                clear HB
                have zI := n0_
                have zC := n1_
                have zD := n2_
                have zG := n3_
                have HB := n4_
                clear n0_ n1_ n2_ n3_ n4_
                (try clear hb)
                (try clear hb2)
                (try clear hk)
                (try clear hi)
                (try clear ho0)
                refine hK.out _ _ ⟨(blk_cell zC.out 0).trans rfl, (blk_cell zC.out 1).trans rfl, (blk_cell zC.out 2).trans rfl, (blk_cell zD.out 0).trans rfl, (blk_cell zD.out 1).trans rfl, (blk_cell zD.out 2).trans rfl⟩ (fun hHeld => ?_)
                clear hK K
                refine norm_ (a' := ?_) ?_ ?_
                rotate_left
                ·show Act.put _ (some 18) _ = _
                 simp only [Act.put, List.setIfInBounds_toArray, List.set_cons_zero, List.set_cons_succ, i64_w, i32_w, u8_w, u32_w]
                 rfl
                exact norm_ (by first | (simp only [putAll, Act.put, List.setIfInBounds_toArray, List.set_cons_zero, List.set_cons_succ]; done) | (simp only [putAll, Act.put, List.setIfInBounds_toArray, List.set_cons_zero, List.set_cons_succ]; rfl)) (hJ1_4 (v150, zA) _ ⟨hHeld, (by (with_reducible repeat (first | apply Kd.R_alloc | apply Kd.R_drewN | apply Kd.R_drew)); exact Kd.R_mono zI.out (fun _ hk => hk.2)), (by (with_reducible repeat (first | refine blk_drewN ?_ _ | refine blk_drew ?_ | refine blk_alloc ?_ _)); exact zC.out), (by (with_reducible repeat (first | refine blk_drewN ?_ _ | refine blk_drew ?_ | refine blk_alloc ?_ _)); exact zD.out), (by (with_reducible repeat (first | refine blk_drewN ?_ _ | refine blk_drew ?_ | refine blk_alloc ?_ _)); exact zG.out), GW157.out, za.out, zS.out, zg.out, zT.out, zh.out, (by repeat (first | (with_reducible first | exact HB.out | apply below_alloc | apply pw_below_drewN | apply below_drew1 | refine below_set ?_ zJ.out | refine below_set ?_ zK.out | refine below_set ?_ za.out) | exact HB.out))⟩)
               ·skip
                refine box_step ?hg (N := 6) ?hd (cs := #[.int .i64 0, .int .i64 0, .slice none 0 0]) (t := 29) ?hr ?_; (case hd => rfl); (case hg => rfl); (case hr => first | (go_simp; done) | (go_simp; rfl))
                intro zB hg w29 hbox hb
                have n0_ := Aside0.mk (blk_below (g := zE) (o := .cells #[.int .i64 zM, .int .i64 zN, .slice zW zL.length zX] 24 (0, 0)) (by (with_reducible repeat (first | refine blk_drewN ?_ _ | refine blk_drew ?_ | refine blk_alloc ?_ _)); exact zC.out) hb)
                have n1_ := Aside0.mk (blk_below (g := zF) (o := .cells #[.int .i64 zQ, .int .i64 zR, .slice zY zO.length zZ] 24 (0, 0)) (by (with_reducible repeat (first | refine blk_drewN ?_ _ | refine blk_drew ?_ | refine blk_alloc ?_ _)); exact zD.out) hb)
                have n2_ := Aside0.mk (blk_below (g := zA) (o := .cells #[.int .i64 0, .int .i64 0, .slice none 0 0] 29 (0, 0)) (by (with_reducible repeat (first | refine blk_drewN ?_ _ | refine blk_drew ?_ | refine blk_alloc ?_ _)); exact zG.out) hb)
                have n3_ := Aside0.mk (below_step (by repeat (first | (with_reducible first | exact HB.out | apply below_alloc | apply pw_below_drewN | apply below_drew1 | refine below_set ?_ zJ.out | refine below_set ?_ zK.out | refine below_set ?_ za.out) | exact HB.out)) hb)
                have n4_ := Aside0.mk (hbox)
                have n5_ := Aside0.mk ((by rw [hg]; exact (below_size (by repeat (first | (with_reducible first | exact HB.out | apply below_alloc | apply pw_below_drewN | apply below_drew1 | refine below_set ?_ zJ.out | refine below_set ?_ zK.out | refine below_set ?_ za.out) | exact HB.out))) : w.heap.size ≤ zB))
                have n6_ := Aside0.mk ((by rw [hg]; exact (below_size (by repeat (first | (with_reducible first | exact HB.out | apply below_alloc | apply pw_below_drewN | apply below_drew1 | refine below_set ?_ zJ.out | refine below_set ?_ zK.out | refine below_set ?_ za.out) | exact HB.out))) : w.heap.size ≤ zB))
                have n7_ := Aside0.mk ((by rw [hg]; exact Nat.ne_of_lt (blk_lt (g := zE) (o := .cells #[.int .i64 zM, .int .i64 zN, .slice zW zL.length zX] 24 (0, 0)) (by (with_reducible repeat (first | refine blk_drewN ?_ _ | refine blk_drew ?_ | refine blk_alloc ?_ _)); exact zC.out)) : zE ≠ zB))
                have n8_ := Aside0.mk ((by rw [hg]; exact Nat.ne_of_gt (blk_lt (g := zE) (o := .cells #[.int .i64 zM, .int .i64 zN, .slice zW zL.length zX] 24 (0, 0)) (by (with_reducible repeat (first | refine blk_drewN ?_ _ | refine blk_drew ?_ | refine blk_alloc ?_ _)); exact zC.out)) : zB ≠ zE))
                have n9_ := Aside0.mk ((by rw [hg]; exact Nat.ne_of_lt (blk_lt (g := zF) (o := .cells #[.int .i64 zQ, .int .i64 zR, .slice zY zO.length zZ] 24 (0, 0)) (by (with_reducible repeat (first | refine blk_drewN ?_ _ | refine blk_drew ?_ | refine blk_alloc ?_ _)); exact zD.out)) : zF ≠ zB))
                have n10_ := Aside0.mk ((by rw [hg]; exact Nat.ne_of_gt (blk_lt (g := zF) (o := .cells #[.int .i64 zQ, .int .i64 zR, .slice zY zO.length zZ] 24 (0, 0)) (by (with_reducible repeat (first | refine blk_drewN ?_ _ | refine blk_drew ?_ | refine blk_alloc ?_ _)); exact zD.out)) : zB ≠ zF))
                have n11_ := Aside0.mk ((by rw [hg]; exact Nat.ne_of_lt (blk_lt (g := zA) (o := .cells #[.int .i64 0, .int .i64 0, .slice none 0 0] 29 (0, 0)) (by (with_reducible repeat (first | refine blk_drewN ?_ _ | refine blk_drew ?_ | refine blk_alloc ?_ _)); exact zG.out)) : zA ≠ zB))
                have n12_ := Aside0.mk ((by rw [hg]; exact Nat.ne_of_gt (blk_lt (g := zA) (o := .cells #[.int .i64 0, .int .i64 0, .slice none 0 0] 29 (0, 0)) (by (with_reducible repeat (first | refine blk_drewN ?_ _ | refine blk_drew ?_ | refine blk_alloc ?_ _)); exact zG.out)) : zB ≠ zA))
                clear zC
                clear zD
                clear zG
                clear HB
                have zC := n0_
                have zD := n1_
                have zG := n2_
                have HB := n3_
                have zH := n4_
                have GW158 := n5_
                have zb := n6_
                have zU := n7_
                have zi := n8_
                have zV := n9_
                have zj := n10_
                have zl := n11_
                have zk := n12_
                clear n0_ n1_ n2_ n3_ n4_ n5_ n6_ n7_ n8_ n9_ n10_ n11_ n12_
                clear hb hbox hg
                refine hK.out _ _ ⟨(blk_cell zC.out 0).trans rfl, (blk_cell zC.out 1).trans rfl, (blk_cell zC.out 2).trans rfl, (blk_cell zD.out 0).trans rfl, (blk_cell zD.out 1).trans rfl, (blk_cell zD.out 2).trans rfl⟩ (fun hHeld => ?_)
                clear hK K
                refine norm_ (a' := ?_) ?_ ?_
                rotate_left
                ·show Act.put _ (some 6) _ = _
                 simp only [Act.put, List.setIfInBounds_toArray, List.set_cons_zero, List.set_cons_succ, i64_w, i32_w, u8_w, u32_w]
                 rfl
                exact norm_ (by first | (simp only [putAll, Act.put, List.setIfInBounds_toArray, List.set_cons_zero, List.set_cons_succ]; done) | (simp only [putAll, Act.put, List.setIfInBounds_toArray, List.set_cons_zero, List.set_cons_succ]; rfl)) (hJ4_5 (zA, zB) _ ⟨hHeld, (by (with_reducible repeat (first | refine blk_drewN ?_ _ | refine blk_drew ?_ | refine blk_alloc ?_ _)); exact zC.out), (by (with_reducible repeat (first | refine blk_drewN ?_ _ | refine blk_drew ?_ | refine blk_alloc ?_ _)); exact zD.out), (by (with_reducible repeat (first | refine blk_drewN ?_ _ | refine blk_drew ?_ | refine blk_alloc ?_ _)); exact zG.out), (by (with_reducible repeat (first | refine blk_drewN ?_ _ | refine blk_drew ?_ | refine blk_alloc ?_ _)); exact zH.out), GW157.out, za.out, zS.out, zg.out, zT.out, zh.out, zk.out, zl.out, GW158.out, zb.out, zU.out, zi.out, zV.out, zj.out, (by repeat (first | (with_reducible first | exact HB.out | apply below_alloc | apply pw_below_drewN | apply below_drew1 | refine below_set ?_ zJ.out | refine below_set ?_ zK.out | refine below_set ?_ za.out | refine below_set ?_ zb.out) | exact HB.out))⟩)
             ·skip
              rintro v150 w28 ⟨hS_, h0_, h1_, h2_, h3_⟩
              have n0_ : Aside0 (Kd.R k29 29 w28 w.heap.size (fun _ => True) v150 t149) := ⟨h0_⟩
              have n1_ : Aside0 (w28.heap[zE]? = some (.cells #[.int .i64 zM, .int .i64 zN, .slice zW zL.length zX] 24 (0, 0))) := ⟨h1_⟩
              have n2_ : Aside0 (w28.heap[zF]? = some (.cells #[.int .i64 zQ, .int .i64 zR, .slice zY zO.length zZ] 24 (0, 0))) := ⟨h2_⟩
              have n3_ : Aside0 (Below w.heap.size w w28) := ⟨h3_⟩
              clear zC
              clear zD
              clear HB
              clear h0_ h1_ h2_ h3_
              have zI := n0_
              have zC := n1_
              have zD := n2_
              have HB := n3_
              clear n0_ n1_ n2_ n3_
              have hHeld : w28.cell? ⟨zE, 0, none⟩ = some (.int .i64 zM) ∧ w28.cell? ⟨zE, 1, none⟩ = some (.int .i64 zN) ∧ w28.cell? ⟨zE, 2, none⟩ = some (.slice zW zL.length zX) ∧ w28.cell? ⟨zF, 0, none⟩ = some (.int .i64 zQ) ∧ w28.cell? ⟨zF, 1, none⟩ = some (.int .i64 zR) ∧ w28.cell? ⟨zF, 2, none⟩ = some (.slice zY zO.length zZ) := hS_
              refine norm_ (a' := ?_) ?_ ?_
              rotate_left
              ·simp only [putAll, Act.put, List.setIfInBounds_toArray, List.set_cons_zero, List.set_cons_succ]
               rfl
              refine three_ (i := 3) (j := 4) (k := 5) (Ni := some 20) (Nj := some 5) (Nk := some 6) #[true, true, true, true, false, false, false, false] #[true, true, true, false, true, false, false, false] #[true, true, true, false, false, true, false, false] rfl rfl rfl rfl rfl rfl (three_of HT_.out (by kernel_rfl)) (by decide) (by decide) (by decide) (fun K hK => ?_) (fun K hK => ?_) (fun K hK => ?_)
              ·skip
               refine goes_ Try.func11 (by kernel_rfl) rfl #[.agg #[.int .i64 zQ, .int .i64 zR, .slice zY zO.length zZ]] (by rfl) rfl rfl (by (try simp only [List.map_toArray, List.map_cons, List.map_nil]); first | done | rfl | (simp only [List.length_drop, List.length_take]; rfl)) ?_
               with_reducible refine (thyrsuslaw1_Plain.calls kj4 zQ zR _ _ zO t152 t153 t154 _ ?side1 ?side2 A22.out).mono ?_
               (case side1 => repeat (first | exact (Kd.C_below HR1_2.out HB.out) | (with_reducible refine Kd.C_alloc ?_ _) | (with_reducible refine Kd.C_drewN ?_ _) | (with_reducible refine Kd.C_drew ?_)))
               (case side2 => exact HC1_2.out)
               rintro e w29 ⟨v155, rfl, ho0, hb⟩
               refine ⟨_, rfl, ?_⟩
               have n0_ := Aside0.mk (Kd.R_elder' (by (with_reducible repeat (first | apply Kd.R_alloc | apply Kd.R_drewN | apply Kd.R_drew)); exact zI.out) (Kd.R_base ho0) hb)
               have n1_ := Aside0.mk (Kd.R_lower (Kd.R_new' ho0 (Kd.R_lt (by (with_reducible repeat (first | apply Kd.R_alloc | apply Kd.R_drewN | apply Kd.R_drew)); exact zI.out))) (below_size (by repeat (first | (with_reducible first | exact HB.out | apply below_alloc | apply pw_below_drewN | apply below_drew1 | refine below_set ?_ zJ.out | refine below_set ?_ zK.out) | exact HB.out))))
               have n2_ := Aside0.mk (blk_below (g := zE) (o := .cells #[.int .i64 zM, .int .i64 zN, .slice zW zL.length zX] 24 (0, 0)) (by (with_reducible repeat (first | refine blk_drewN ?_ _ | refine blk_drew ?_ | refine blk_alloc ?_ _)); exact zC.out) hb)
               have n3_ := Aside0.mk (blk_below (g := zF) (o := .cells #[.int .i64 zQ, .int .i64 zR, .slice zY zO.length zZ] 24 (0, 0)) (by (with_reducible repeat (first | refine blk_drewN ?_ _ | refine blk_drew ?_ | refine blk_alloc ?_ _)); exact zD.out) hb)
               have n4_ := Aside0.mk (below_step (by repeat (first | (with_reducible first | exact HB.out | apply below_alloc | apply pw_below_drewN | apply below_drew1 | refine below_set ?_ zJ.out | refine below_set ?_ zK.out) | exact HB.out)) hb)
               clear zI
               clear zC
               clear zD
               clear HB
               have zI := n0_
               have zP := n1_
               have zC := n2_
               have zD := n3_
               have HB := n4_
               clear n0_ n1_ n2_ n3_ n4_
               (try clear hb)
               (try clear hb2)
               (try clear hk)
               (try clear hi)
               (try clear ho0)
               refine hK.out _ _ ⟨(blk_cell zC.out 0).trans rfl, (blk_cell zC.out 1).trans rfl, (blk_cell zC.out 2).trans rfl, (blk_cell zD.out 0).trans rfl, (blk_cell zD.out 1).trans rfl, (blk_cell zD.out 2).trans rfl⟩ (fun hHeld => ?_)
               clear hK K
               refine norm_ (a' := ?_) ?_ ?_
               rotate_left
               ·show Act.put _ (some 20) _ = _
                simp only [Act.put, List.setIfInBounds_toArray, List.set_cons_zero, List.set_cons_succ, i64_w, i32_w, u8_w, u32_w]
                rfl
               exact norm_ (by first | (simp only [putAll, Act.put, List.setIfInBounds_toArray, List.set_cons_zero, List.set_cons_succ]; done) | (simp only [putAll, Act.put, List.setIfInBounds_toArray, List.set_cons_zero, List.set_cons_succ]; rfl)) (hJ1_3 (v150, v155) _ ⟨hHeld, (by (with_reducible repeat (first | apply Kd.R_alloc | apply Kd.R_drewN | apply Kd.R_drew)); exact Kd.R_mono zI.out (fun _ hk => hk.2)), (by (with_reducible repeat (first | apply Kd.R_alloc | apply Kd.R_drewN | apply Kd.R_drew)); exact Kd.R_mono zP.out (fun _ hk => hk.2)), (by (with_reducible repeat (first | refine blk_drewN ?_ _ | refine blk_drew ?_ | refine blk_alloc ?_ _)); exact zC.out), (by (with_reducible repeat (first | refine blk_drewN ?_ _ | refine blk_drew ?_ | refine blk_alloc ?_ _)); exact zD.out), (by repeat (first | (with_reducible first | exact HB.out | apply below_alloc | apply pw_below_drewN | apply below_drew1 | refine below_set ?_ zJ.out | refine below_set ?_ zK.out) | exact HB.out))⟩)
              ·skip
               refine box_step ?hg (N := 5) ?hd (cs := #[.int .i64 0, .int .i64 0, .slice none 0 0]) (t := 29) ?hr ?_; (case hd => rfl); (case hg => rfl); (case hr => first | (go_simp; done) | (go_simp; rfl))
               intro zA hg w29 hbox hb
               have n0_ := Aside0.mk (Kd.R_below (Kd.R_elderB (by (with_reducible repeat (first | apply Kd.R_alloc | apply Kd.R_drewN | apply Kd.R_drew)); exact zI.out) zA (Nat.le_of_eq hg.symm)) hb)
               have n1_ := Aside0.mk (blk_below (g := zE) (o := .cells #[.int .i64 zM, .int .i64 zN, .slice zW zL.length zX] 24 (0, 0)) (by (with_reducible repeat (first | refine blk_drewN ?_ _ | refine blk_drew ?_ | refine blk_alloc ?_ _)); exact zC.out) hb)
               have n2_ := Aside0.mk (blk_below (g := zF) (o := .cells #[.int .i64 zQ, .int .i64 zR, .slice zY zO.length zZ] 24 (0, 0)) (by (with_reducible repeat (first | refine blk_drewN ?_ _ | refine blk_drew ?_ | refine blk_alloc ?_ _)); exact zD.out) hb)
               have n3_ := Aside0.mk (below_step (by repeat (first | (with_reducible first | exact HB.out | apply below_alloc | apply pw_below_drewN | apply below_drew1 | refine below_set ?_ zJ.out | refine below_set ?_ zK.out) | exact HB.out)) hb)
               have n4_ := Aside0.mk (hbox)
               have n5_ := Aside0.mk ((by rw [hg]; exact (below_size (by repeat (first | (with_reducible first | exact HB.out | apply below_alloc | apply pw_below_drewN | apply below_drew1 | refine below_set ?_ zJ.out | refine below_set ?_ zK.out) | exact HB.out))) : w.heap.size ≤ zA))
               have n6_ := Aside0.mk ((by rw [hg]; exact (below_size (by repeat (first | (with_reducible first | exact HB.out | apply below_alloc | apply pw_below_drewN | apply below_drew1 | refine below_set ?_ zJ.out | refine below_set ?_ zK.out) | exact HB.out))) : w.heap.size ≤ zA))
               have n7_ := Aside0.mk ((by rw [hg]; exact Nat.ne_of_lt (blk_lt (g := zE) (o := .cells #[.int .i64 zM, .int .i64 zN, .slice zW zL.length zX] 24 (0, 0)) (by (with_reducible repeat (first | refine blk_drewN ?_ _ | refine blk_drew ?_ | refine blk_alloc ?_ _)); exact zC.out)) : zE ≠ zA))
               have n8_ := Aside0.mk ((by rw [hg]; exact Nat.ne_of_gt (blk_lt (g := zE) (o := .cells #[.int .i64 zM, .int .i64 zN, .slice zW zL.length zX] 24 (0, 0)) (by (with_reducible repeat (first | refine blk_drewN ?_ _ | refine blk_drew ?_ | refine blk_alloc ?_ _)); exact zC.out)) : zA ≠ zE))
               have n9_ := Aside0.mk ((by rw [hg]; exact Nat.ne_of_lt (blk_lt (g := zF) (o := .cells #[.int .i64 zQ, .int .i64 zR, .slice zY zO.length zZ] 24 (0, 0)) (by (with_reducible repeat (first | refine blk_drewN ?_ _ | refine blk_drew ?_ | refine blk_alloc ?_ _)); exact zD.out)) : zF ≠ zA))
               have n10_ := Aside0.mk ((by rw [hg]; exact Nat.ne_of_gt (blk_lt (g := zF) (o := .cells #[.int .i64 zQ, .int .i64 zR, .slice zY zO.length zZ] 24 (0, 0)) (by (with_reducible repeat (first | refine blk_drewN ?_ _ | refine blk_drew ?_ | refine blk_alloc ?_ _)); exact zD.out)) : zA ≠ zF))
               clear zI
               clear zC
               clear zD
               clear HB
               have zI := n0_
               have zC := n1_
               have zD := n2_
               have HB := n3_
               have zG := n4_
               have GW157 := n5_
               have za := n6_
               have zS := n7_
               have zg := n8_
               have zT := n9_
               have zh := n10_
               clear n0_ n1_ n2_ n3_ n4_ n5_ n6_ n7_ n8_ n9_ n10_
               clear hb hbox hg
               refine hK.out _ _ ⟨(blk_cell zC.out 0).trans rfl, (blk_cell zC.out 1).trans rfl, (blk_cell zC.out 2).trans rfl, (blk_cell zD.out 0).trans rfl, (blk_cell zD.out 1).trans rfl, (blk_cell zD.out 2).trans rfl⟩ (fun hHeld => ?_)
               clear hK K
               refine norm_ (a' := ?_) ?_ ?_
               rotate_left
               ·show Act.put _ (some 5) _ = _
                simp only [Act.put, List.setIfInBounds_toArray, List.set_cons_zero, List.set_cons_succ, i64_w, i32_w, u8_w, u32_w]
                rfl
               exact norm_ (by first | (simp only [putAll, Act.put, List.setIfInBounds_toArray, List.set_cons_zero, List.set_cons_succ]; done) | (simp only [putAll, Act.put, List.setIfInBounds_toArray, List.set_cons_zero, List.set_cons_succ]; rfl)) (hJ1_4 (v150, zA) _ ⟨hHeld, (by (with_reducible repeat (first | apply Kd.R_alloc | apply Kd.R_drewN | apply Kd.R_drew)); exact Kd.R_mono zI.out (fun _ hk => hk.2)), (by (with_reducible repeat (first | refine blk_drewN ?_ _ | refine blk_drew ?_ | refine blk_alloc ?_ _)); exact zC.out), (by (with_reducible repeat (first | refine blk_drewN ?_ _ | refine blk_drew ?_ | refine blk_alloc ?_ _)); exact zD.out), (by (with_reducible repeat (first | refine blk_drewN ?_ _ | refine blk_drew ?_ | refine blk_alloc ?_ _)); exact zG.out), GW157.out, za.out, zS.out, zg.out, zT.out, zh.out, (by repeat (first | (with_reducible first | exact HB.out | apply below_alloc | apply pw_below_drewN | apply below_drew1 | refine below_set ?_ zJ.out | refine below_set ?_ zK.out | refine below_set ?_ za.out) | exact HB.out))⟩)
              ·skip
               refine box_step ?hg (N := 6) ?hd (cs := #[.int .i64 0, .int .i64 0, .slice none 0 0]) (t := 29) ?hr ?_; (case hd => rfl); (case hg => rfl); (case hr => first | (go_simp; done) | (go_simp; rfl))
               intro zB hg w29 hbox hb
               have n0_ := Aside0.mk (Kd.R_below (Kd.R_elderB (by (with_reducible repeat (first | apply Kd.R_alloc | apply Kd.R_drewN | apply Kd.R_drew)); exact zI.out) zB (Nat.le_of_eq hg.symm)) hb)
               have n1_ := Aside0.mk (blk_below (g := zE) (o := .cells #[.int .i64 zM, .int .i64 zN, .slice zW zL.length zX] 24 (0, 0)) (by (with_reducible repeat (first | refine blk_drewN ?_ _ | refine blk_drew ?_ | refine blk_alloc ?_ _)); exact zC.out) hb)
               have n2_ := Aside0.mk (blk_below (g := zF) (o := .cells #[.int .i64 zQ, .int .i64 zR, .slice zY zO.length zZ] 24 (0, 0)) (by (with_reducible repeat (first | refine blk_drewN ?_ _ | refine blk_drew ?_ | refine blk_alloc ?_ _)); exact zD.out) hb)
               have n3_ := Aside0.mk (below_step (by repeat (first | (with_reducible first | exact HB.out | apply below_alloc | apply pw_below_drewN | apply below_drew1 | refine below_set ?_ zJ.out | refine below_set ?_ zK.out) | exact HB.out)) hb)
               have n4_ := Aside0.mk (hbox)
               have n5_ := Aside0.mk ((by rw [hg]; exact (below_size (by repeat (first | (with_reducible first | exact HB.out | apply below_alloc | apply pw_below_drewN | apply below_drew1 | refine below_set ?_ zJ.out | refine below_set ?_ zK.out) | exact HB.out))) : w.heap.size ≤ zB))
               have n6_ := Aside0.mk ((by rw [hg]; exact (below_size (by repeat (first | (with_reducible first | exact HB.out | apply below_alloc | apply pw_below_drewN | apply below_drew1 | refine below_set ?_ zJ.out | refine below_set ?_ zK.out) | exact HB.out))) : w.heap.size ≤ zB))
               have n7_ := Aside0.mk ((by rw [hg]; exact Nat.ne_of_lt (blk_lt (g := zE) (o := .cells #[.int .i64 zM, .int .i64 zN, .slice zW zL.length zX] 24 (0, 0)) (by (with_reducible repeat (first | refine blk_drewN ?_ _ | refine blk_drew ?_ | refine blk_alloc ?_ _)); exact zC.out)) : zE ≠ zB))
               have n8_ := Aside0.mk ((by rw [hg]; exact Nat.ne_of_gt (blk_lt (g := zE) (o := .cells #[.int .i64 zM, .int .i64 zN, .slice zW zL.length zX] 24 (0, 0)) (by (with_reducible repeat (first | refine blk_drewN ?_ _ | refine blk_drew ?_ | refine blk_alloc ?_ _)); exact zC.out)) : zB ≠ zE))
               have n9_ := Aside0.mk ((by rw [hg]; exact Nat.ne_of_lt (blk_lt (g := zF) (o := .cells #[.int .i64 zQ, .int .i64 zR, .slice zY zO.length zZ] 24 (0, 0)) (by (with_reducible repeat (first | refine blk_drewN ?_ _ | refine blk_drew ?_ | refine blk_alloc ?_ _)); exact zD.out)) : zF ≠ zB))
               have n10_ := Aside0.mk ((by rw [hg]; exact Nat.ne_of_gt (blk_lt (g := zF) (o := .cells #[.int .i64 zQ, .int .i64 zR, .slice zY zO.length zZ] 24 (0, 0)) (by (with_reducible repeat (first | refine blk_drewN ?_ _ | refine blk_drew ?_ | refine blk_alloc ?_ _)); exact zD.out)) : zB ≠ zF))
               clear zI
               clear zC
               clear zD
               clear HB
               have zI := n0_
               have zC := n1_
               have zD := n2_
               have HB := n3_
               have zH := n4_
               have GW158 := n5_
               have zb := n6_
               have zU := n7_
               have zi := n8_
               have zV := n9_
               have zj := n10_
               clear n0_ n1_ n2_ n3_ n4_ n5_ n6_ n7_ n8_ n9_ n10_
               clear hb hbox hg
               refine hK.out _ _ ⟨(blk_cell zC.out 0).trans rfl, (blk_cell zC.out 1).trans rfl, (blk_cell zC.out 2).trans rfl, (blk_cell zD.out 0).trans rfl, (blk_cell zD.out 1).trans rfl, (blk_cell zD.out 2).trans rfl⟩ (fun hHeld => ?_)
               clear hK K
               refine norm_ (a' := ?_) ?_ ?_
               rotate_left
               ·show Act.put _ (some 6) _ = _
                simp only [Act.put, List.setIfInBounds_toArray, List.set_cons_zero, List.set_cons_succ, i64_w, i32_w, u8_w, u32_w]
                rfl
               exact norm_ (by first | (simp only [putAll, Act.put, List.setIfInBounds_toArray, List.set_cons_zero, List.set_cons_succ]; done) | (simp only [putAll, Act.put, List.setIfInBounds_toArray, List.set_cons_zero, List.set_cons_succ]; rfl)) (hJ1_5 (v150, zB) _ ⟨hHeld, (by (with_reducible repeat (first | apply Kd.R_alloc | apply Kd.R_drewN | apply Kd.R_drew)); exact Kd.R_mono zI.out (fun _ hk => hk.2)), (by (with_reducible repeat (first | refine blk_drewN ?_ _ | refine blk_drew ?_ | refine blk_alloc ?_ _)); exact zC.out), (by (with_reducible repeat (first | refine blk_drewN ?_ _ | refine blk_drew ?_ | refine blk_alloc ?_ _)); exact zD.out), (by (with_reducible repeat (first | refine blk_drewN ?_ _ | refine blk_drew ?_ | refine blk_alloc ?_ _)); exact zH.out), GW158.out, zb.out, zU.out, zi.out, zV.out, zj.out, (by repeat (first | (with_reducible first | exact HB.out | apply below_alloc | apply pw_below_drewN | apply below_drew1 | refine below_set ?_ zJ.out | refine below_set ?_ zK.out | refine below_set ?_ zb.out) | exact HB.out))⟩)
            ·skip
             rintro ⟨zA, zB⟩ w29 ⟨hS_, h0_, h1_, h2_, h3_, h4_, h5_, h6_, h7_, h8_, h9_, h10_, h11_, h12_, h13_, h14_, h15_, h16_, h17_, h18_⟩
             have n0_ : Aside0 (w29.heap[zE]? = some (.cells #[.int .i64 zM, .int .i64 zN, .slice zW zL.length zX] 24 (0, 0))) := ⟨h0_⟩
             have n1_ : Aside0 (w29.heap[zF]? = some (.cells #[.int .i64 zQ, .int .i64 zR, .slice zY zO.length zZ] 24 (0, 0))) := ⟨h1_⟩
             have n2_ : Aside0 (w29.heap[zA]? = some (.cells #[.int .i64 0, .int .i64 0, .slice none 0 0] 29 (0, 0))) := ⟨h2_⟩
             have n3_ : Aside0 (w29.heap[zB]? = some (.cells #[.int .i64 0, .int .i64 0, .slice none 0 0] 29 (0, 0))) := ⟨h3_⟩
             have n4_ : Aside0 (w.heap.size ≤ zA) := ⟨h4_⟩
             have n5_ : Aside0 (w.heap.size ≤ zA) := ⟨h5_⟩
             have n6_ : Aside0 (zE ≠ zA) := ⟨h6_⟩
             have n7_ : Aside0 (zA ≠ zE) := ⟨h7_⟩
             have n8_ : Aside0 (zF ≠ zA) := ⟨h8_⟩
             have n9_ : Aside0 (zA ≠ zF) := ⟨h9_⟩
             have n10_ : Aside0 (zB ≠ zA) := ⟨h10_⟩
             have n11_ : Aside0 (zA ≠ zB) := ⟨h11_⟩
             have n12_ : Aside0 (w.heap.size ≤ zB) := ⟨h12_⟩
             have n13_ : Aside0 (w.heap.size ≤ zB) := ⟨h13_⟩
             have n14_ : Aside0 (zE ≠ zB) := ⟨h14_⟩
             have n15_ : Aside0 (zB ≠ zE) := ⟨h15_⟩
             have n16_ : Aside0 (zF ≠ zB) := ⟨h16_⟩
             have n17_ : Aside0 (zB ≠ zF) := ⟨h17_⟩
             have n18_ : Aside0 (Below w.heap.size w w29) := ⟨h18_⟩
             clear zC
             clear zD
             clear HB
             clear h0_ h1_ h2_ h3_ h4_ h5_ h6_ h7_ h8_ h9_ h10_ h11_ h12_ h13_ h14_ h15_ h16_ h17_ h18_
             have zC := n0_
             have zD := n1_
             have zG := n2_
             have zH := n3_
             have GW157 := n4_
             have za := n5_
             have zS := n6_
             have zg := n7_
             have zT := n8_
             have zh := n9_
             have zk := n10_
             have zl := n11_
             have GW158 := n12_
             have zb := n13_
             have zU := n14_
             have zi := n15_
             have zV := n16_
             have zj := n17_
             have HB := n18_
             clear n0_ n1_ n2_ n3_ n4_ n5_ n6_ n7_ n8_ n9_ n10_ n11_ n12_ n13_ n14_ n15_ n16_ n17_ n18_
             have hHeld : w29.cell? ⟨zE, 0, none⟩ = some (.int .i64 zM) ∧ w29.cell? ⟨zE, 1, none⟩ = some (.int .i64 zN) ∧ w29.cell? ⟨zE, 2, none⟩ = some (.slice zW zL.length zX) ∧ w29.cell? ⟨zF, 0, none⟩ = some (.int .i64 zQ) ∧ w29.cell? ⟨zF, 1, none⟩ = some (.int .i64 zR) ∧ w29.cell? ⟨zF, 2, none⟩ = some (.slice zY zO.length zZ) := hS_
             refine norm_ (a' := ?_) ?_ ?_
             rotate_left
             ·simp only [putAll, Act.put, List.setIfInBounds_toArray, List.set_cons_zero, List.set_cons_succ]
              rfl
             refine one_ (i := 1) (N := some 18) #[true, true, true, false, true, true, false, false] rfl rfl (one_of HT_.out (by kernel_rfl)) (by decide) (fun K hK => ?_)
             refine goes_ Try.func11 (by kernel_rfl) rfl #[.agg #[.int .i64 zM, .int .i64 zN, .slice zW zL.length zX]] (by rfl) rfl rfl (by (try simp only [List.map_toArray, List.map_cons, List.map_nil]); first | done | rfl | (simp only [List.length_drop, List.length_take]; rfl)) ?_
             with_reducible refine (thyrsuslaw1_Plain.calls kj4 zM zN _ _ zL t147 t148 t149 _ ?side1 ?side2 A21.out).mono ?_
             (case side1 => repeat (first | exact (Kd.C_below HR0_2.out HB.out) | (with_reducible refine Kd.C_alloc ?_ _) | (with_reducible refine Kd.C_drewN ?_ _) | (with_reducible refine Kd.C_drew ?_)))
             (case side2 => exact HC0_2.out)
             rintro e w30 ⟨v150, rfl, ho0, hb⟩
             refine ⟨_, rfl, ?_⟩
             have n0_ := Aside0.mk (Kd.R_lower (Kd.R_newB (Kd.R_newB ho0 (g := zA) (o := .cells #[.int .i64 0, .int .i64 0, .slice none 0 0] 29 (0, 0)) (by (with_reducible repeat (first | refine blk_drewN ?_ _ | refine blk_drew ?_ | refine blk_alloc ?_ _)); exact zG.out)) (g := zB) (o := .cells #[.int .i64 0, .int .i64 0, .slice none 0 0] 29 (0, 0)) (by (with_reducible repeat (first | refine blk_drewN ?_ _ | refine blk_drew ?_ | refine blk_alloc ?_ _)); exact zH.out)) (below_size (by repeat (first | (with_reducible first | exact HB.out | apply below_alloc | apply pw_below_drewN | apply below_drew1 | refine below_set ?_ zJ.out | refine below_set ?_ zK.out | refine below_set ?_ za.out | refine below_set ?_ zb.out) | exact HB.out))))
             have n1_ := Aside0.mk (blk_below (g := zE) (o := .cells #[.int .i64 zM, .int .i64 zN, .slice zW zL.length zX] 24 (0, 0)) (by (with_reducible repeat (first | refine blk_drewN ?_ _ | refine blk_drew ?_ | refine blk_alloc ?_ _)); exact zC.out) hb)
             have n2_ := Aside0.mk (blk_below (g := zF) (o := .cells #[.int .i64 zQ, .int .i64 zR, .slice zY zO.length zZ] 24 (0, 0)) (by (with_reducible repeat (first | refine blk_drewN ?_ _ | refine blk_drew ?_ | refine blk_alloc ?_ _)); exact zD.out) hb)
             have n3_ := Aside0.mk (blk_below (g := zA) (o := .cells #[.int .i64 0, .int .i64 0, .slice none 0 0] 29 (0, 0)) (by (with_reducible repeat (first | refine blk_drewN ?_ _ | refine blk_drew ?_ | refine blk_alloc ?_ _)); exact zG.out) hb)
             have n4_ := Aside0.mk (blk_below (g := zB) (o := .cells #[.int .i64 0, .int .i64 0, .slice none 0 0] 29 (0, 0)) (by (with_reducible repeat (first | refine blk_drewN ?_ _ | refine blk_drew ?_ | refine blk_alloc ?_ _)); exact zH.out) hb)
             have n5_ := Aside0.mk (below_step (by repeat (first | (with_reducible first | exact HB.out | apply below_alloc | apply pw_below_drewN | apply below_drew1 | refine below_set ?_ zJ.out | refine below_set ?_ zK.out | refine below_set ?_ za.out | refine below_set ?_ zb.out) | exact HB.out)) hb)
             clear zC
             clear zD
             clear zG
             clear zH
             clear HB
             have zI := n0_
             have zC := n1_
             have zD := n2_
             have zG := n3_
             have zH := n4_
             have HB := n5_
             clear n0_ n1_ n2_ n3_ n4_ n5_
             (try clear hb)
             (try clear hb2)
             (try clear hk)
             (try clear hi)
             (try clear ho0)
             refine hK.out _ _ ⟨(blk_cell zC.out 0).trans rfl, (blk_cell zC.out 1).trans rfl, (blk_cell zC.out 2).trans rfl, (blk_cell zD.out 0).trans rfl, (blk_cell zD.out 1).trans rfl, (blk_cell zD.out 2).trans rfl⟩ (fun hHeld => ?_)
             clear hK K
             refine norm_ (a' := ?_) ?_ ?_
             rotate_left
             ·show Act.put _ (some 18) _ = _
              simp only [Act.put, List.setIfInBounds_toArray, List.set_cons_zero, List.set_cons_succ, i64_w, i32_w, u8_w, u32_w]
              rfl
             exact norm_ (by first | (simp only [putAll, Act.put, List.setIfInBounds_toArray, List.set_cons_zero, List.set_cons_succ]; done) | (simp only [putAll, Act.put, List.setIfInBounds_toArray, List.set_cons_zero, List.set_cons_succ]; rfl)) (hJ1_4_5 (v150, zA, zB) _ ⟨hHeld, (by (with_reducible repeat (first | apply Kd.R_alloc | apply Kd.R_drewN | apply Kd.R_drew)); exact Kd.R_mono zI.out (fun _ hk => ⟨hk.1.2, hk.2⟩)), (by (with_reducible repeat (first | refine blk_drewN ?_ _ | refine blk_drew ?_ | refine blk_alloc ?_ _)); exact zC.out), (by (with_reducible repeat (first | refine blk_drewN ?_ _ | refine blk_drew ?_ | refine blk_alloc ?_ _)); exact zD.out), (by (with_reducible repeat (first | refine blk_drewN ?_ _ | refine blk_drew ?_ | refine blk_alloc ?_ _)); exact zG.out), (by (with_reducible repeat (first | refine blk_drewN ?_ _ | refine blk_drew ?_ | refine blk_alloc ?_ _)); exact zH.out), GW157.out, za.out, zS.out, zg.out, zT.out, zh.out, zk.out, zl.out, GW158.out, zb.out, zU.out, zi.out, zV.out, zj.out, (by repeat (first | (with_reducible first | exact HB.out | apply below_alloc | apply pw_below_drewN | apply below_drew1 | refine below_set ?_ zJ.out | refine below_set ?_ zK.out | refine below_set ?_ za.out | refine below_set ?_ zb.out) | exact HB.out))⟩)
           ·skip
            rintro ⟨v150, zB⟩ w29 ⟨hS_, h0_, h1_, h2_, h3_, h4_, h5_, h6_, h7_, h8_, h9_, h10_⟩
            have n0_ : Aside0 (Kd.R k29 29 w29 w.heap.size (fun k_ => k_ ≠ zB) v150 t149) := ⟨h0_⟩
            have n1_ : Aside0 (w29.heap[zE]? = some (.cells #[.int .i64 zM, .int .i64 zN, .slice zW zL.length zX] 24 (0, 0))) := ⟨h1_⟩
            have n2_ : Aside0 (w29.heap[zF]? = some (.cells #[.int .i64 zQ, .int .i64 zR, .slice zY zO.length zZ] 24 (0, 0))) := ⟨h2_⟩
            have n3_ : Aside0 (w29.heap[zB]? = some (.cells #[.int .i64 0, .int .i64 0, .slice none 0 0] 29 (0, 0))) := ⟨h3_⟩
            have n4_ : Aside0 (w.heap.size ≤ zB) := ⟨h4_⟩
            have n5_ : Aside0 (w.heap.size ≤ zB) := ⟨h5_⟩
            have n6_ : Aside0 (zE ≠ zB) := ⟨h6_⟩
            have n7_ : Aside0 (zB ≠ zE) := ⟨h7_⟩
            have n8_ : Aside0 (zF ≠ zB) := ⟨h8_⟩
            have n9_ : Aside0 (zB ≠ zF) := ⟨h9_⟩
            have n10_ : Aside0 (Below w.heap.size w w29) := ⟨h10_⟩
            clear zC
            clear zD
            clear HB
            clear h0_ h1_ h2_ h3_ h4_ h5_ h6_ h7_ h8_ h9_ h10_
            have zI := n0_
            have zC := n1_
            have zD := n2_
            have zH := n3_
            have GW158 := n4_
            have zb := n5_
            have zU := n6_
            have zi := n7_
            have zV := n8_
            have zj := n9_
            have HB := n10_
            clear n0_ n1_ n2_ n3_ n4_ n5_ n6_ n7_ n8_ n9_ n10_
            have hHeld : w29.cell? ⟨zE, 0, none⟩ = some (.int .i64 zM) ∧ w29.cell? ⟨zE, 1, none⟩ = some (.int .i64 zN) ∧ w29.cell? ⟨zE, 2, none⟩ = some (.slice zW zL.length zX) ∧ w29.cell? ⟨zF, 0, none⟩ = some (.int .i64 zQ) ∧ w29.cell? ⟨zF, 1, none⟩ = some (.int .i64 zR) ∧ w29.cell? ⟨zF, 2, none⟩ = some (.slice zY zO.length zZ) := hS_
            refine norm_ (a' := ?_) ?_ ?_
            rotate_left
            ·simp only [putAll, Act.put, List.setIfInBounds_toArray, List.set_cons_zero, List.set_cons_succ]
             rfl
            refine two_ (i := 3) (j := 4) (Ni := some 20) (Nj := some 5) #[true, true, true, true, false, true, false, false] #[true, true, true, false, true, true, false, false] rfl rfl rfl rfl (two_of HT_.out (by kernel_rfl)) (by decide) (by decide) (fun K hK => ?_) (fun K hK => ?_)
            ·skip
             refine goes_ Try.func11 (by kernel_rfl) rfl #[.agg #[.int .i64 zQ, .int .i64 zR, .slice zY zO.length zZ]] (by rfl) rfl rfl (by (try simp only [List.map_toArray, List.map_cons, List.map_nil]); first | done | rfl | (simp only [List.length_drop, List.length_take]; rfl)) ?_
             with_reducible refine (thyrsuslaw1_Plain.calls kj4 zQ zR _ _ zO t152 t153 t154 _ ?side1 ?side2 A22.out).mono ?_
             (case side1 => repeat (first | exact (Kd.C_below HR1_2.out HB.out) | (with_reducible refine Kd.C_alloc ?_ _) | (with_reducible refine Kd.C_drewN ?_ _) | (with_reducible refine Kd.C_drew ?_)))
             (case side2 => exact HC1_2.out)
             rintro e w30 ⟨v155, rfl, ho0, hb⟩
             refine ⟨_, rfl, ?_⟩
             have n0_ := Aside0.mk (Kd.R_elder' (by (with_reducible repeat (first | apply Kd.R_alloc | apply Kd.R_drewN | apply Kd.R_drew)); exact zI.out) (Kd.R_base ho0) hb)
             have n1_ := Aside0.mk (Kd.R_lower (Kd.R_newB (Kd.R_new' ho0 (Kd.R_lt (by (with_reducible repeat (first | apply Kd.R_alloc | apply Kd.R_drewN | apply Kd.R_drew)); exact zI.out))) (g := zB) (o := .cells #[.int .i64 0, .int .i64 0, .slice none 0 0] 29 (0, 0)) (by (with_reducible repeat (first | refine blk_drewN ?_ _ | refine blk_drew ?_ | refine blk_alloc ?_ _)); exact zH.out)) (below_size (by repeat (first | (with_reducible first | exact HB.out | apply below_alloc | apply pw_below_drewN | apply below_drew1 | refine below_set ?_ zJ.out | refine below_set ?_ zK.out | refine below_set ?_ zb.out) | exact HB.out))))
             have n2_ := Aside0.mk (blk_below (g := zE) (o := .cells #[.int .i64 zM, .int .i64 zN, .slice zW zL.length zX] 24 (0, 0)) (by (with_reducible repeat (first | refine blk_drewN ?_ _ | refine blk_drew ?_ | refine blk_alloc ?_ _)); exact zC.out) hb)
             have n3_ := Aside0.mk (blk_below (g := zF) (o := .cells #[.int .i64 zQ, .int .i64 zR, .slice zY zO.length zZ] 24 (0, 0)) (by (with_reducible repeat (first | refine blk_drewN ?_ _ | refine blk_drew ?_ | refine blk_alloc ?_ _)); exact zD.out) hb)
             have n4_ := Aside0.mk (blk_below (g := zB) (o := .cells #[.int .i64 0, .int .i64 0, .slice none 0 0] 29 (0, 0)) (by (with_reducible repeat (first | refine blk_drewN ?_ _ | refine blk_drew ?_ | refine blk_alloc ?_ _)); exact zH.out) hb)
             have n5_ := Aside0.mk (below_step (by repeat (first | (with_reducible first | exact HB.out | apply below_alloc | apply pw_below_drewN | apply below_drew1 | refine below_set ?_ zJ.out | refine below_set ?_ zK.out | refine below_set ?_ zb.out) | exact HB.out)) hb)
             clear zI
             clear zC
             clear zD
             clear zH
             clear HB
             have zI := n0_
             have zP := n1_
             have zC := n2_
             have zD := n3_
             have zH := n4_
             have HB := n5_
             clear n0_ n1_ n2_ n3_ n4_ n5_
             (try clear hb)
             (try clear hb2)
             (try clear hk)
             (try clear hi)
             (try clear ho0)
             refine hK.out _ _ ⟨(blk_cell zC.out 0).trans rfl, (blk_cell zC.out 1).trans rfl, (blk_cell zC.out 2).trans rfl, (blk_cell zD.out 0).trans rfl, (blk_cell zD.out 1).trans rfl, (blk_cell zD.out 2).trans rfl⟩ (fun hHeld => ?_)
             clear hK K
             refine norm_ (a' := ?_) ?_ ?_
             rotate_left
             ·show Act.put _ (some 20) _ = _
              simp only [Act.put, List.setIfInBounds_toArray, List.set_cons_zero, List.set_cons_succ, i64_w, i32_w, u8_w, u32_w]
              rfl
             exact norm_ (by first | (simp only [putAll, Act.put, List.setIfInBounds_toArray, List.set_cons_zero, List.set_cons_succ]; done) | (simp only [putAll, Act.put, List.setIfInBounds_toArray, List.set_cons_zero, List.set_cons_succ]; rfl)) (hJ1_3_5 (v150, v155, zB) _ ⟨hHeld, (by (with_reducible repeat (first | apply Kd.R_alloc | apply Kd.R_drewN | apply Kd.R_drew)); exact Kd.R_mono zI.out (fun _ hk => ⟨hk.2, hk.1⟩)), (by (with_reducible repeat (first | apply Kd.R_alloc | apply Kd.R_drewN | apply Kd.R_drew)); exact Kd.R_mono zP.out (fun _ hk => ⟨hk.1.2, hk.2⟩)), (by (with_reducible repeat (first | refine blk_drewN ?_ _ | refine blk_drew ?_ | refine blk_alloc ?_ _)); exact zC.out), (by (with_reducible repeat (first | refine blk_drewN ?_ _ | refine blk_drew ?_ | refine blk_alloc ?_ _)); exact zD.out), (by (with_reducible repeat (first | refine blk_drewN ?_ _ | refine blk_drew ?_ | refine blk_alloc ?_ _)); exact zH.out), GW158.out, zb.out, zU.out, zi.out, zV.out, zj.out, (by repeat (first | (with_reducible first | exact HB.out | apply below_alloc | apply pw_below_drewN | apply below_drew1 | refine below_set ?_ zJ.out | refine below_set ?_ zK.out | refine below_set ?_ zb.out) | exact HB.out))⟩)
            ·skip
             refine box_step ?hg (N := 5) ?hd (cs := #[.int .i64 0, .int .i64 0, .slice none 0 0]) (t := 29) ?hr ?_; (case hd => rfl); (case hg => rfl); (case hr => first | (go_simp; done) | (go_simp; rfl))
             intro zA hg w30 hbox hb
             have n0_ := Aside0.mk (Kd.R_below (Kd.R_elderB (by (with_reducible repeat (first | apply Kd.R_alloc | apply Kd.R_drewN | apply Kd.R_drew)); exact zI.out) zA (Nat.le_of_eq hg.symm)) hb)
             have n1_ := Aside0.mk (blk_below (g := zE) (o := .cells #[.int .i64 zM, .int .i64 zN, .slice zW zL.length zX] 24 (0, 0)) (by (with_reducible repeat (first | refine blk_drewN ?_ _ | refine blk_drew ?_ | refine blk_alloc ?_ _)); exact zC.out) hb)
             have n2_ := Aside0.mk (blk_below (g := zF) (o := .cells #[.int .i64 zQ, .int .i64 zR, .slice zY zO.length zZ] 24 (0, 0)) (by (with_reducible repeat (first | refine blk_drewN ?_ _ | refine blk_drew ?_ | refine blk_alloc ?_ _)); exact zD.out) hb)
             have n3_ := Aside0.mk (blk_below (g := zB) (o := .cells #[.int .i64 0, .int .i64 0, .slice none 0 0] 29 (0, 0)) (by (with_reducible repeat (first | refine blk_drewN ?_ _ | refine blk_drew ?_ | refine blk_alloc ?_ _)); exact zH.out) hb)
             have n4_ := Aside0.mk (below_step (by repeat (first | (with_reducible first | exact HB.out | apply below_alloc | apply pw_below_drewN | apply below_drew1 | refine below_set ?_ zJ.out | refine below_set ?_ zK.out | refine below_set ?_ zb.out) | exact HB.out)) hb)
             have n5_ := Aside0.mk (hbox)
             have n6_ := Aside0.mk ((by rw [hg]; exact (below_size (by repeat (first | (with_reducible first | exact HB.out | apply below_alloc | apply pw_below_drewN | apply below_drew1 | refine below_set ?_ zJ.out | refine below_set ?_ zK.out | refine below_set ?_ zb.out) | exact HB.out))) : w.heap.size ≤ zA))
             have n7_ := Aside0.mk ((by rw [hg]; exact (below_size (by repeat (first | (with_reducible first | exact HB.out | apply below_alloc | apply pw_below_drewN | apply below_drew1 | refine below_set ?_ zJ.out | refine below_set ?_ zK.out | refine below_set ?_ zb.out) | exact HB.out))) : w.heap.size ≤ zA))
             have n8_ := Aside0.mk ((by rw [hg]; exact Nat.ne_of_lt (blk_lt (g := zE) (o := .cells #[.int .i64 zM, .int .i64 zN, .slice zW zL.length zX] 24 (0, 0)) (by (with_reducible repeat (first | refine blk_drewN ?_ _ | refine blk_drew ?_ | refine blk_alloc ?_ _)); exact zC.out)) : zE ≠ zA))
             have n9_ := Aside0.mk ((by rw [hg]; exact Nat.ne_of_gt (blk_lt (g := zE) (o := .cells #[.int .i64 zM, .int .i64 zN, .slice zW zL.length zX] 24 (0, 0)) (by (with_reducible repeat (first | refine blk_drewN ?_ _ | refine blk_drew ?_ | refine blk_alloc ?_ _)); exact zC.out)) : zA ≠ zE))
             have n10_ := Aside0.mk ((by rw [hg]; exact Nat.ne_of_lt (blk_lt (g := zF) (o := .cells #[.int .i64 zQ, .int .i64 zR, .slice zY zO.length zZ] 24 (0, 0)) (by (with_reducible repeat (first | refine blk_drewN ?_ _ | refine blk_drew ?_ | refine blk_alloc ?_ _)); exact zD.out)) : zF ≠ zA))
             have n11_ := Aside0.mk ((by rw [hg]; exact Nat.ne_of_gt (blk_lt (g := zF) (o := .cells #[.int .i64 zQ, .int .i64 zR, .slice zY zO.length zZ] 24 (0, 0)) (by (with_reducible repeat (first | refine blk_drewN ?_ _ | refine blk_drew ?_ | refine blk_alloc ?_ _)); exact zD.out)) : zA ≠ zF))
             have n12_ := Aside0.mk ((by rw [hg]; exact Nat.ne_of_lt (blk_lt (g := zB) (o := .cells #[.int .i64 0, .int .i64 0, .slice none 0 0] 29 (0, 0)) (by (with_reducible repeat (first | refine blk_drewN ?_ _ | refine blk_drew ?_ | refine blk_alloc ?_ _)); exact zH.out)) : zB ≠ zA))
             have n13_ := Aside0.mk ((by rw [hg]; exact Nat.ne_of_gt (blk_lt (g := zB) (o := .cells #[.int .i64 0, .int .i64 0, .slice none 0 0] 29 (0, 0)) (by (with_reducible repeat (first | refine blk_drewN ?_ _ | refine blk_drew ?_ | refine blk_alloc ?_ _)); exact zH.out)) : zA ≠ zB))
             clear zI
             clear zC
             clear zD
             clear zH
             clear HB
             have zI := n0_
             have zC := n1_
             have zD := n2_
             have zH := n3_
             have HB := n4_
             have zG := n5_
             have GW157 := n6_
             have za := n7_
             have zS := n8_
             have zg := n9_
             have zT := n10_
             have zh := n11_
             have zk := n12_
             have zl := n13_
             clear n0_ n1_ n2_ n3_ n4_ n5_ n6_ n7_ n8_ n9_ n10_ n11_ n12_ n13_
             clear hb hbox hg
             refine hK.out _ _ ⟨(blk_cell zC.out 0).trans rfl, (blk_cell zC.out 1).trans rfl, (blk_cell zC.out 2).trans rfl, (blk_cell zD.out 0).trans rfl, (blk_cell zD.out 1).trans rfl, (blk_cell zD.out 2).trans rfl⟩ (fun hHeld => ?_)
             clear hK K
             refine norm_ (a' := ?_) ?_ ?_
             rotate_left
             ·show Act.put _ (some 5) _ = _
              simp only [Act.put, List.setIfInBounds_toArray, List.set_cons_zero, List.set_cons_succ, i64_w, i32_w, u8_w, u32_w]
              rfl
             exact norm_ (by first | (simp only [putAll, Act.put, List.setIfInBounds_toArray, List.set_cons_zero, List.set_cons_succ]; done) | (simp only [putAll, Act.put, List.setIfInBounds_toArray, List.set_cons_zero, List.set_cons_succ]; rfl)) (hJ1_4_5 (v150, zA, zB) _ ⟨hHeld, (by (with_reducible repeat (first | apply Kd.R_alloc | apply Kd.R_drewN | apply Kd.R_drew)); exact Kd.R_mono zI.out (fun _ hk => ⟨hk.2, hk.1⟩)), (by (with_reducible repeat (first | refine blk_drewN ?_ _ | refine blk_drew ?_ | refine blk_alloc ?_ _)); exact zC.out), (by (with_reducible repeat (first | refine blk_drewN ?_ _ | refine blk_drew ?_ | refine blk_alloc ?_ _)); exact zD.out), (by (with_reducible repeat (first | refine blk_drewN ?_ _ | refine blk_drew ?_ | refine blk_alloc ?_ _)); exact zG.out), (by (with_reducible repeat (first | refine blk_drewN ?_ _ | refine blk_drew ?_ | refine blk_alloc ?_ _)); exact zH.out), GW157.out, za.out, zS.out, zg.out, zT.out, zh.out, zk.out, zl.out, GW158.out, zb.out, zU.out, zi.out, zV.out, zj.out, (by repeat (first | (with_reducible first | exact HB.out | apply below_alloc | apply pw_below_drewN | apply below_drew1 | refine below_set ?_ zJ.out | refine below_set ?_ zK.out | refine below_set ?_ zb.out | refine below_set ?_ za.out) | exact HB.out))⟩)
          ·skip
           rintro ⟨v150, zA⟩ w29 ⟨hS_, h0_, h1_, h2_, h3_, h4_, h5_, h6_, h7_, h8_, h9_, h10_⟩
           have n0_ : Aside0 (Kd.R k29 29 w29 w.heap.size (fun k_ => k_ ≠ zA) v150 t149) := ⟨h0_⟩
           have n1_ : Aside0 (w29.heap[zE]? = some (.cells #[.int .i64 zM, .int .i64 zN, .slice zW zL.length zX] 24 (0, 0))) := ⟨h1_⟩
           have n2_ : Aside0 (w29.heap[zF]? = some (.cells #[.int .i64 zQ, .int .i64 zR, .slice zY zO.length zZ] 24 (0, 0))) := ⟨h2_⟩
           have n3_ : Aside0 (w29.heap[zA]? = some (.cells #[.int .i64 0, .int .i64 0, .slice none 0 0] 29 (0, 0))) := ⟨h3_⟩
           have n4_ : Aside0 (w.heap.size ≤ zA) := ⟨h4_⟩
           have n5_ : Aside0 (w.heap.size ≤ zA) := ⟨h5_⟩
           have n6_ : Aside0 (zE ≠ zA) := ⟨h6_⟩
           have n7_ : Aside0 (zA ≠ zE) := ⟨h7_⟩
           have n8_ : Aside0 (zF ≠ zA) := ⟨h8_⟩
           have n9_ : Aside0 (zA ≠ zF) := ⟨h9_⟩
           have n10_ : Aside0 (Below w.heap.size w w29) := ⟨h10_⟩
           clear zC
           clear zD
           clear HB
           clear h0_ h1_ h2_ h3_ h4_ h5_ h6_ h7_ h8_ h9_ h10_
           have zI := n0_
           have zC := n1_
           have zD := n2_
           have zG := n3_
           have GW157 := n4_
           have za := n5_
           have zS := n6_
           have zg := n7_
           have zT := n8_
           have zh := n9_
           have HB := n10_
           clear n0_ n1_ n2_ n3_ n4_ n5_ n6_ n7_ n8_ n9_ n10_
           have hHeld : w29.cell? ⟨zE, 0, none⟩ = some (.int .i64 zM) ∧ w29.cell? ⟨zE, 1, none⟩ = some (.int .i64 zN) ∧ w29.cell? ⟨zE, 2, none⟩ = some (.slice zW zL.length zX) ∧ w29.cell? ⟨zF, 0, none⟩ = some (.int .i64 zQ) ∧ w29.cell? ⟨zF, 1, none⟩ = some (.int .i64 zR) ∧ w29.cell? ⟨zF, 2, none⟩ = some (.slice zY zO.length zZ) := hS_
           refine norm_ (a' := ?_) ?_ ?_
           rotate_left
           ·simp only [putAll, Act.put, List.setIfInBounds_toArray, List.set_cons_zero, List.set_cons_succ]
            rfl
           refine two_ (i := 3) (j := 5) (Ni := some 20) (Nj := some 6) #[true, true, true, true, true, false, false, false] #[true, true, true, false, true, true, false, false] rfl rfl rfl rfl (two_of HT_.out (by kernel_rfl)) (by decide) (by decide) (fun K hK => ?_) (fun K hK => ?_)
           ·skip
            refine goes_ Try.func11 (by kernel_rfl) rfl #[.agg #[.int .i64 zQ, .int .i64 zR, .slice zY zO.length zZ]] (by rfl) rfl rfl (by (try simp only [List.map_toArray, List.map_cons, List.map_nil]); first | done | rfl | (simp only [List.length_drop, List.length_take]; rfl)) ?_
            with_reducible refine (thyrsuslaw1_Plain.calls kj4 zQ zR _ _ zO t152 t153 t154 _ ?side1 ?side2 A22.out).mono ?_
            (case side1 => repeat (first | exact (Kd.C_below HR1_2.out HB.out) | (with_reducible refine Kd.C_alloc ?_ _) | (with_reducible refine Kd.C_drewN ?_ _) | (with_reducible refine Kd.C_drew ?_)))
            (case side2 => exact HC1_2.out)
            rintro e w30 ⟨v155, rfl, ho0, hb⟩
            refine ⟨_, rfl, ?_⟩
            have n0_ := Aside0.mk (Kd.R_elder' (by (with_reducible repeat (first | apply Kd.R_alloc | apply Kd.R_drewN | apply Kd.R_drew)); exact zI.out) (Kd.R_base ho0) hb)
            have n1_ := Aside0.mk (Kd.R_lower (Kd.R_newB (Kd.R_new' ho0 (Kd.R_lt (by (with_reducible repeat (first | apply Kd.R_alloc | apply Kd.R_drewN | apply Kd.R_drew)); exact zI.out))) (g := zA) (o := .cells #[.int .i64 0, .int .i64 0, .slice none 0 0] 29 (0, 0)) (by (with_reducible repeat (first | refine blk_drewN ?_ _ | refine blk_drew ?_ | refine blk_alloc ?_ _)); exact zG.out)) (below_size (by repeat (first | (with_reducible first | exact HB.out | apply below_alloc | apply pw_below_drewN | apply below_drew1 | refine below_set ?_ zJ.out | refine below_set ?_ zK.out | refine below_set ?_ za.out) | exact HB.out))))
            have n2_ := Aside0.mk (blk_below (g := zE) (o := .cells #[.int .i64 zM, .int .i64 zN, .slice zW zL.length zX] 24 (0, 0)) (by (with_reducible repeat (first | refine blk_drewN ?_ _ | refine blk_drew ?_ | refine blk_alloc ?_ _)); exact zC.out) hb)
            have n3_ := Aside0.mk (blk_below (g := zF) (o := .cells #[.int .i64 zQ, .int .i64 zR, .slice zY zO.length zZ] 24 (0, 0)) (by (with_reducible repeat (first | refine blk_drewN ?_ _ | refine blk_drew ?_ | refine blk_alloc ?_ _)); exact zD.out) hb)
            have n4_ := Aside0.mk (blk_below (g := zA) (o := .cells #[.int .i64 0, .int .i64 0, .slice none 0 0] 29 (0, 0)) (by (with_reducible repeat (first | refine blk_drewN ?_ _ | refine blk_drew ?_ | refine blk_alloc ?_ _)); exact zG.out) hb)
            have n5_ := Aside0.mk (below_step (by repeat (first | (with_reducible first | exact HB.out | apply below_alloc | apply pw_below_drewN | apply below_drew1 | refine below_set ?_ zJ.out | refine below_set ?_ zK.out | refine below_set ?_ za.out) | exact HB.out)) hb)
            clear zI
            clear zC
            clear zD
            clear zG
            clear HB
            have zI := n0_
            have zP := n1_
            have zC := n2_
            have zD := n3_
            have zG := n4_
            have HB := n5_
            clear n0_ n1_ n2_ n3_ n4_ n5_
            (try clear hb)
            (try clear hb2)
            (try clear hk)
            (try clear hi)
            (try clear ho0)
            refine hK.out _ _ ⟨(blk_cell zC.out 0).trans rfl, (blk_cell zC.out 1).trans rfl, (blk_cell zC.out 2).trans rfl, (blk_cell zD.out 0).trans rfl, (blk_cell zD.out 1).trans rfl, (blk_cell zD.out 2).trans rfl⟩ (fun hHeld => ?_)
            clear hK K
            refine norm_ (a' := ?_) ?_ ?_
            rotate_left
            ·show Act.put _ (some 20) _ = _
             simp only [Act.put, List.setIfInBounds_toArray, List.set_cons_zero, List.set_cons_succ, i64_w, i32_w, u8_w, u32_w]
             rfl
            exact norm_ (by first | (simp only [putAll, Act.put, List.setIfInBounds_toArray, List.set_cons_zero, List.set_cons_succ]; done) | (simp only [putAll, Act.put, List.setIfInBounds_toArray, List.set_cons_zero, List.set_cons_succ]; rfl)) (hJ1_3_4 (v150, v155, zA) _ ⟨hHeld, (by (with_reducible repeat (first | apply Kd.R_alloc | apply Kd.R_drewN | apply Kd.R_drew)); exact Kd.R_mono zI.out (fun _ hk => ⟨hk.2, hk.1⟩)), (by (with_reducible repeat (first | apply Kd.R_alloc | apply Kd.R_drewN | apply Kd.R_drew)); exact Kd.R_mono zP.out (fun _ hk => ⟨hk.1.2, hk.2⟩)), (by (with_reducible repeat (first | refine blk_drewN ?_ _ | refine blk_drew ?_ | refine blk_alloc ?_ _)); exact zC.out), (by (with_reducible repeat (first | refine blk_drewN ?_ _ | refine blk_drew ?_ | refine blk_alloc ?_ _)); exact zD.out), (by (with_reducible repeat (first | refine blk_drewN ?_ _ | refine blk_drew ?_ | refine blk_alloc ?_ _)); exact zG.out), GW157.out, za.out, zS.out, zg.out, zT.out, zh.out, (by repeat (first | (with_reducible first | exact HB.out | apply below_alloc | apply pw_below_drewN | apply below_drew1 | refine below_set ?_ zJ.out | refine below_set ?_ zK.out | refine below_set ?_ za.out) | exact HB.out))⟩)
           ·skip
            refine box_step ?hg (N := 6) ?hd (cs := #[.int .i64 0, .int .i64 0, .slice none 0 0]) (t := 29) ?hr ?_; (case hd => rfl); (case hg => rfl); (case hr => first | (go_simp; done) | (go_simp; rfl))
            intro zB hg w30 hbox hb
            have n0_ := Aside0.mk (Kd.R_below (Kd.R_elderB (by (with_reducible repeat (first | apply Kd.R_alloc | apply Kd.R_drewN | apply Kd.R_drew)); exact zI.out) zB (Nat.le_of_eq hg.symm)) hb)
            have n1_ := Aside0.mk (blk_below (g := zE) (o := .cells #[.int .i64 zM, .int .i64 zN, .slice zW zL.length zX] 24 (0, 0)) (by (with_reducible repeat (first | refine blk_drewN ?_ _ | refine blk_drew ?_ | refine blk_alloc ?_ _)); exact zC.out) hb)
            have n2_ := Aside0.mk (blk_below (g := zF) (o := .cells #[.int .i64 zQ, .int .i64 zR, .slice zY zO.length zZ] 24 (0, 0)) (by (with_reducible repeat (first | refine blk_drewN ?_ _ | refine blk_drew ?_ | refine blk_alloc ?_ _)); exact zD.out) hb)
            have n3_ := Aside0.mk (blk_below (g := zA) (o := .cells #[.int .i64 0, .int .i64 0, .slice none 0 0] 29 (0, 0)) (by (with_reducible repeat (first | refine blk_drewN ?_ _ | refine blk_drew ?_ | refine blk_alloc ?_ _)); exact zG.out) hb)
            have n4_ := Aside0.mk (below_step (by repeat (first | (with_reducible first | exact HB.out | apply below_alloc | apply pw_below_drewN | apply below_drew1 | refine below_set ?_ zJ.out | refine below_set ?_ zK.out | refine below_set ?_ za.out) | exact HB.out)) hb)
            have n5_ := Aside0.mk (hbox)
            have n6_ := Aside0.mk ((by rw [hg]; exact (below_size (by repeat (first | (with_reducible first | exact HB.out | apply below_alloc | apply pw_below_drewN | apply below_drew1 | refine below_set ?_ zJ.out | refine below_set ?_ zK.out | refine below_set ?_ za.out) | exact HB.out))) : w.heap.size ≤ zB))
            have n7_ := Aside0.mk ((by rw [hg]; exact (below_size (by repeat (first | (with_reducible first | exact HB.out | apply below_alloc | apply pw_below_drewN | apply below_drew1 | refine below_set ?_ zJ.out | refine below_set ?_ zK.out | refine below_set ?_ za.out) | exact HB.out))) : w.heap.size ≤ zB))
            have n8_ := Aside0.mk ((by rw [hg]; exact Nat.ne_of_lt (blk_lt (g := zE) (o := .cells #[.int .i64 zM, .int .i64 zN, .slice zW zL.length zX] 24 (0, 0)) (by (with_reducible repeat (first | refine blk_drewN ?_ _ | refine blk_drew ?_ | refine blk_alloc ?_ _)); exact zC.out)) : zE ≠ zB))
            have n9_ := Aside0.mk ((by rw [hg]; exact Nat.ne_of_gt (blk_lt (g := zE) (o := .cells #[.int .i64 zM, .int .i64 zN, .slice zW zL.length zX] 24 (0, 0)) (by (with_reducible repeat (first | refine blk_drewN ?_ _ | refine blk_drew ?_ | refine blk_alloc ?_ _)); exact zC.out)) : zB ≠ zE))
            have n10_ := Aside0.mk ((by rw [hg]; exact Nat.ne_of_lt (blk_lt (g := zF) (o := .cells #[.int .i64 zQ, .int .i64 zR, .slice zY zO.length zZ] 24 (0, 0)) (by (with_reducible repeat (first | refine blk_drewN ?_ _ | refine blk_drew ?_ | refine blk_alloc ?_ _)); exact zD.out)) : zF ≠ zB))
            have n11_ := Aside0.mk ((by rw [hg]; exact Nat.ne_of_gt (blk_lt (g := zF) (o := .cells #[.int .i64 zQ, .int .i64 zR, .slice zY zO.length zZ] 24 (0, 0)) (by (with_reducible repeat (first | refine blk_drewN ?_ _ | refine blk_drew ?_ | refine blk_alloc ?_ _)); exact zD.out)) : zB ≠ zF))
            have n12_ := Aside0.mk ((by rw [hg]; exact Nat.ne_of_lt (blk_lt (g := zA) (o := .cells #[.int .i64 0, .int .i64 0, .slice none 0 0] 29 (0, 0)) (by (with_reducible repeat (first | refine blk_drewN ?_ _ | refine blk_drew ?_ | refine blk_alloc ?_ _)); exact zG.out)) : zA ≠ zB))
            have n13_ := Aside0.mk ((by rw [hg]; exact Nat.ne_of_gt (blk_lt (g := zA) (o := .cells #[.int .i64 0, .int .i64 0, .slice none 0 0] 29 (0, 0)) (by (with_reducible repeat (first | refine blk_drewN ?_ _ | refine blk_drew ?_ | refine blk_alloc ?_ _)); exact zG.out)) : zB ≠ zA))
            clear zI
            clear zC
            clear zD
            clear zG
            clear HB
            have zI := n0_
            have zC := n1_
            have zD := n2_
            have zG := n3_
            have HB := n4_
            have zH := n5_
            have GW158 := n6_
            have zb := n7_
            have zU := n8_
            have zi := n9_
            have zV := n10_
            have zj := n11_
            have zl := n12_
            have zk := n13_
            clear n0_ n1_ n2_ n3_ n4_ n5_ n6_ n7_ n8_ n9_ n10_ n11_ n12_ n13_
            clear hb hbox hg
            refine hK.out _ _ ⟨(blk_cell zC.out 0).trans rfl, (blk_cell zC.out 1).trans rfl, (blk_cell zC.out 2).trans rfl, (blk_cell zD.out 0).trans rfl, (blk_cell zD.out 1).trans rfl, (blk_cell zD.out 2).trans rfl⟩ (fun hHeld => ?_)
            clear hK K
            refine norm_ (a' := ?_) ?_ ?_
            rotate_left
            ·show Act.put _ (some 6) _ = _
             simp only [Act.put, List.setIfInBounds_toArray, List.set_cons_zero, List.set_cons_succ, i64_w, i32_w, u8_w, u32_w]
             rfl
            exact norm_ (by first | (simp only [putAll, Act.put, List.setIfInBounds_toArray, List.set_cons_zero, List.set_cons_succ]; done) | (simp only [putAll, Act.put, List.setIfInBounds_toArray, List.set_cons_zero, List.set_cons_succ]; rfl)) (hJ1_4_5 (v150, zA, zB) _ ⟨hHeld, (by (with_reducible repeat (first | apply Kd.R_alloc | apply Kd.R_drewN | apply Kd.R_drew)); exact zI.out), (by (with_reducible repeat (first | refine blk_drewN ?_ _ | refine blk_drew ?_ | refine blk_alloc ?_ _)); exact zC.out), (by (with_reducible repeat (first | refine blk_drewN ?_ _ | refine blk_drew ?_ | refine blk_alloc ?_ _)); exact zD.out), (by (with_reducible repeat (first | refine blk_drewN ?_ _ | refine blk_drew ?_ | refine blk_alloc ?_ _)); exact zG.out), (by (with_reducible repeat (first | refine blk_drewN ?_ _ | refine blk_drew ?_ | refine blk_alloc ?_ _)); exact zH.out), GW157.out, za.out, zS.out, zg.out, zT.out, zh.out, zk.out, zl.out, GW158.out, zb.out, zU.out, zi.out, zV.out, zj.out, (by repeat (first | (with_reducible first | exact HB.out | apply below_alloc | apply pw_below_drewN | apply below_drew1 | refine below_set ?_ zJ.out | refine below_set ?_ zK.out | refine below_set ?_ za.out | refine below_set ?_ zb.out) | exact HB.out))⟩)
         ·skip
          rintro ⟨v150, v155⟩ w29 ⟨hS_, h0_, h1_, h2_, h3_, h4_⟩
          have n0_ : Aside0 (Kd.R k29 29 w29 w.heap.size (fun k_ => some k_ ≠ (v155 : Value).ownBlock) v150 t149) := ⟨h0_⟩
          have n1_ : Aside0 (Kd.R k29 29 w29 w.heap.size (fun k_ => some k_ ≠ (v150 : Value).ownBlock) v155 t154) := ⟨h1_⟩
          have n2_ : Aside0 (w29.heap[zE]? = some (.cells #[.int .i64 zM, .int .i64 zN, .slice zW zL.length zX] 24 (0, 0))) := ⟨h2_⟩
          have n3_ : Aside0 (w29.heap[zF]? = some (.cells #[.int .i64 zQ, .int .i64 zR, .slice zY zO.length zZ] 24 (0, 0))) := ⟨h3_⟩
          have n4_ : Aside0 (Below w.heap.size w w29) := ⟨h4_⟩
          clear zC
          clear zD
          clear HB
          clear h0_ h1_ h2_ h3_ h4_
          have zI := n0_
          have zP := n1_
          have zC := n2_
          have zD := n3_
          have HB := n4_
          clear n0_ n1_ n2_ n3_ n4_
          have hHeld : w29.cell? ⟨zE, 0, none⟩ = some (.int .i64 zM) ∧ w29.cell? ⟨zE, 1, none⟩ = some (.int .i64 zN) ∧ w29.cell? ⟨zE, 2, none⟩ = some (.slice zW zL.length zX) ∧ w29.cell? ⟨zF, 0, none⟩ = some (.int .i64 zQ) ∧ w29.cell? ⟨zF, 1, none⟩ = some (.int .i64 zR) ∧ w29.cell? ⟨zF, 2, none⟩ = some (.slice zY zO.length zZ) := hS_
          refine norm_ (a' := ?_) ?_ ?_
          rotate_left
          ·simp only [putAll, Act.put, List.setIfInBounds_toArray, List.set_cons_zero, List.set_cons_succ]
           rfl
          refine two_ (i := 4) (j := 5) (Ni := some 5) (Nj := some 6) #[true, true, true, true, true, false, false, false] #[true, true, true, true, false, true, false, false] rfl rfl rfl rfl (two_of HT_.out (by kernel_rfl)) (by decide) (by decide) (fun K hK => ?_) (fun K hK => ?_)
          ·skip
           refine box_step ?hg (N := 5) ?hd (cs := #[.int .i64 0, .int .i64 0, .slice none 0 0]) (t := 29) ?hr ?_; (case hd => rfl); (case hg => rfl); (case hr => first | (go_simp; done) | (go_simp; rfl))
           intro zA hg w30 hbox hb
           have n0_ := Aside0.mk (Kd.R_below (Kd.R_elderB (by (with_reducible repeat (first | apply Kd.R_alloc | apply Kd.R_drewN | apply Kd.R_drew)); exact zI.out) zA (Nat.le_of_eq hg.symm)) hb)
           have n1_ := Aside0.mk (Kd.R_below (Kd.R_elderB (by (with_reducible repeat (first | apply Kd.R_alloc | apply Kd.R_drewN | apply Kd.R_drew)); exact zP.out) zA (Nat.le_of_eq hg.symm)) hb)
           have n2_ := Aside0.mk (blk_below (g := zE) (o := .cells #[.int .i64 zM, .int .i64 zN, .slice zW zL.length zX] 24 (0, 0)) (by (with_reducible repeat (first | refine blk_drewN ?_ _ | refine blk_drew ?_ | refine blk_alloc ?_ _)); exact zC.out) hb)
           have n3_ := Aside0.mk (blk_below (g := zF) (o := .cells #[.int .i64 zQ, .int .i64 zR, .slice zY zO.length zZ] 24 (0, 0)) (by (with_reducible repeat (first | refine blk_drewN ?_ _ | refine blk_drew ?_ | refine blk_alloc ?_ _)); exact zD.out) hb)
           have n4_ := Aside0.mk (below_step (by repeat (first | (with_reducible first | exact HB.out | apply below_alloc | apply pw_below_drewN | apply below_drew1 | refine below_set ?_ zJ.out | refine below_set ?_ zK.out) | exact HB.out)) hb)
           have n5_ := Aside0.mk (hbox)
           have n6_ := Aside0.mk ((by rw [hg]; exact (below_size (by repeat (first | (with_reducible first | exact HB.out | apply below_alloc | apply pw_below_drewN | apply below_drew1 | refine below_set ?_ zJ.out | refine below_set ?_ zK.out) | exact HB.out))) : w.heap.size ≤ zA))
           have n7_ := Aside0.mk ((by rw [hg]; exact (below_size (by repeat (first | (with_reducible first | exact HB.out | apply below_alloc | apply pw_below_drewN | apply below_drew1 | refine below_set ?_ zJ.out | refine below_set ?_ zK.out) | exact HB.out))) : w.heap.size ≤ zA))
           have n8_ := Aside0.mk ((by rw [hg]; exact Nat.ne_of_lt (blk_lt (g := zE) (o := .cells #[.int .i64 zM, .int .i64 zN, .slice zW zL.length zX] 24 (0, 0)) (by (with_reducible repeat (first | refine blk_drewN ?_ _ | refine blk_drew ?_ | refine blk_alloc ?_ _)); exact zC.out)) : zE ≠ zA))
           have n9_ := Aside0.mk ((by rw [hg]; exact Nat.ne_of_gt (blk_lt (g := zE) (o := .cells #[.int .i64 zM, .int .i64 zN, .slice zW zL.length zX] 24 (0, 0)) (by (with_reducible repeat (first | refine blk_drewN ?_ _ | refine blk_drew ?_ | refine blk_alloc ?_ _)); exact zC.out)) : zA ≠ zE))
           have n10_ := Aside0.mk ((by rw [hg]; exact Nat.ne_of_lt (blk_lt (g := zF) (o := .cells #[.int .i64 zQ, .int .i64 zR, .slice zY zO.length zZ] 24 (0, 0)) (by (with_reducible repeat (first | refine blk_drewN ?_ _ | refine blk_drew ?_ | refine blk_alloc ?_ _)); exact zD.out)) : zF ≠ zA))
           have n11_ := Aside0.mk ((by rw [hg]; exact Nat.ne_of_gt (blk_lt (g := zF) (o := .cells #[.int .i64 zQ, .int .i64 zR, .slice zY zO.length zZ] 24 (0, 0)) (by (with_reducible repeat (first | refine blk_drewN ?_ _ | refine blk_drew ?_ | refine blk_alloc ?_ _)); exact zD.out)) : zA ≠ zF))
           clear zI
           clear zP
           clear zC
           clear zD
           clear HB
           have zI := n0_
           have zP := n1_
           have zC := n2_
           have zD := n3_
           have HB := n4_
           have zG := n5_
           have GW157 := n6_
           have za := n7_
           have zS := n8_
           have zg := n9_
           have zT := n10_
           have zh := n11_
           clear n0_ n1_ n2_ n3_ n4_ n5_ n6_ n7_ n8_ n9_ n10_ n11_
           clear hb hbox hg
           refine hK.out _ _ ⟨(blk_cell zC.out 0).trans rfl, (blk_cell zC.out 1).trans rfl, (blk_cell zC.out 2).trans rfl, (blk_cell zD.out 0).trans rfl, (blk_cell zD.out 1).trans rfl, (blk_cell zD.out 2).trans rfl⟩ (fun hHeld => ?_)
           clear hK K
           refine norm_ (a' := ?_) ?_ ?_
           rotate_left
           ·show Act.put _ (some 5) _ = _
            simp only [Act.put, List.setIfInBounds_toArray, List.set_cons_zero, List.set_cons_succ, i64_w, i32_w, u8_w, u32_w]
            rfl
           exact norm_ (by first | (simp only [putAll, Act.put, List.setIfInBounds_toArray, List.set_cons_zero, List.set_cons_succ]; done) | (simp only [putAll, Act.put, List.setIfInBounds_toArray, List.set_cons_zero, List.set_cons_succ]; rfl)) (hJ1_3_4 (v150, v155, zA) _ ⟨hHeld, (by (with_reducible repeat (first | apply Kd.R_alloc | apply Kd.R_drewN | apply Kd.R_drew)); exact zI.out), (by (with_reducible repeat (first | apply Kd.R_alloc | apply Kd.R_drewN | apply Kd.R_drew)); exact zP.out), (by (with_reducible repeat (first | refine blk_drewN ?_ _ | refine blk_drew ?_ | refine blk_alloc ?_ _)); exact zC.out), (by (with_reducible repeat (first | refine blk_drewN ?_ _ | refine blk_drew ?_ | refine blk_alloc ?_ _)); exact zD.out), (by (with_reducible repeat (first | refine blk_drewN ?_ _ | refine blk_drew ?_ | refine blk_alloc ?_ _)); exact zG.out), GW157.out, za.out, zS.out, zg.out, zT.out, zh.out, (by repeat (first | (with_reducible first | exact HB.out | apply below_alloc | apply pw_below_drewN | apply below_drew1 | refine below_set ?_ zJ.out | refine below_set ?_ zK.out | refine below_set ?_ za.out) | exact HB.out))⟩)
          ·skip
           refine box_step ?hg (N := 6) ?hd (cs := #[.int .i64 0, .int .i64 0, .slice none 0 0]) (t := 29) ?hr ?_; (case hd => rfl); (case hg => rfl); (case hr => first | (go_simp; done) | (go_simp; rfl))
           intro zB hg w30 hbox hb
           have n0_ := Aside0.mk (Kd.R_below (Kd.R_elderB (by (with_reducible repeat (first | apply Kd.R_alloc | apply Kd.R_drewN | apply Kd.R_drew)); exact zI.out) zB (Nat.le_of_eq hg.symm)) hb)
           have n1_ := Aside0.mk (Kd.R_below (Kd.R_elderB (by (with_reducible repeat (first | apply Kd.R_alloc | apply Kd.R_drewN | apply Kd.R_drew)); exact zP.out) zB (Nat.le_of_eq hg.symm)) hb)
           have n2_ := Aside0.mk (blk_below (g := zE) (o := .cells #[.int .i64 zM, .int .i64 zN, .slice zW zL.length zX] 24 (0, 0)) (by (with_reducible repeat (first | refine blk_drewN ?_ _ | refine blk_drew ?_ | refine blk_alloc ?_ _)); exact zC.out) hb)
           have n3_ := Aside0.mk (blk_below (g := zF) (o := .cells #[.int .i64 zQ, .int .i64 zR, .slice zY zO.length zZ] 24 (0, 0)) (by (with_reducible repeat (first | refine blk_drewN ?_ _ | refine blk_drew ?_ | refine blk_alloc ?_ _)); exact zD.out) hb)
           have n4_ := Aside0.mk (below_step (by repeat (first | (with_reducible first | exact HB.out | apply below_alloc | apply pw_below_drewN | apply below_drew1 | refine below_set ?_ zJ.out | refine below_set ?_ zK.out) | exact HB.out)) hb)
           have n5_ := Aside0.mk (hbox)
           have n6_ := Aside0.mk ((by rw [hg]; exact (below_size (by repeat (first | (with_reducible first | exact HB.out | apply below_alloc | apply pw_below_drewN | apply below_drew1 | refine below_set ?_ zJ.out | refine below_set ?_ zK.out) | exact HB.out))) : w.heap.size ≤ zB))
           have n7_ := Aside0.mk ((by rw [hg]; exact (below_size (by repeat (first | (with_reducible first | exact HB.out | apply below_alloc | apply pw_below_drewN | apply below_drew1 | refine below_set ?_ zJ.out | refine below_set ?_ zK.out) | exact HB.out))) : w.heap.size ≤ zB))
           have n8_ := Aside0.mk ((by rw [hg]; exact Nat.ne_of_lt (blk_lt (g := zE) (o := .cells #[.int .i64 zM, .int .i64 zN, .slice zW zL.length zX] 24 (0, 0)) (by (with_reducible repeat (first | refine blk_drewN ?_ _ | refine blk_drew ?_ | refine blk_alloc ?_ _)); exact zC.out)) : zE ≠ zB))
           have n9_ := Aside0.mk ((by rw [hg]; exact Nat.ne_of_gt (blk_lt (g := zE) (o := .cells #[.int .i64 zM, .int .i64 zN, .slice zW zL.length zX] 24 (0, 0)) (by (with_reducible repeat (first | refine blk_drewN ?_ _ | refine blk_drew ?_ | refine blk_alloc ?_ _)); exact zC.out)) : zB ≠ zE))
           have n10_ := Aside0.mk ((by rw [hg]; exact Nat.ne_of_lt (blk_lt (g := zF) (o := .cells #[.int .i64 zQ, .int .i64 zR, .slice zY zO.length zZ] 24 (0, 0)) (by (with_reducible repeat (first | refine blk_drewN ?_ _ | refine blk_drew ?_ | refine blk_alloc ?_ _)); exact zD.out)) : zF ≠ zB))
           have n11_ := Aside0.mk ((by rw [hg]; exact Nat.ne_of_gt (blk_lt (g := zF) (o := .cells #[.int .i64 zQ, .int .i64 zR, .slice zY zO.length zZ] 24 (0, 0)) (by (with_reducible repeat (first | refine blk_drewN ?_ _ | refine blk_drew ?_ | refine blk_alloc ?_ _)); exact zD.out)) : zB ≠ zF))
           clear zI
           clear zP
           clear zC
           clear zD
           clear HB
           have zI := n0_
           have zP := n1_
           have zC := n2_
           have zD := n3_
           have HB := n4_
           have zH := n5_
           have GW158 := n6_
           have zb := n7_
           have zU := n8_
           have zi := n9_
           have zV := n10_
           have zj := n11_
           clear n0_ n1_ n2_ n3_ n4_ n5_ n6_ n7_ n8_ n9_ n10_ n11_
           clear hb hbox hg
           refine hK.out _ _ ⟨(blk_cell zC.out 0).trans rfl, (blk_cell zC.out 1).trans rfl, (blk_cell zC.out 2).trans rfl, (blk_cell zD.out 0).trans rfl, (blk_cell zD.out 1).trans rfl, (blk_cell zD.out 2).trans rfl⟩ (fun hHeld => ?_)
           clear hK K
           refine norm_ (a' := ?_) ?_ ?_
           rotate_left
           ·show Act.put _ (some 6) _ = _
            simp only [Act.put, List.setIfInBounds_toArray, List.set_cons_zero, List.set_cons_succ, i64_w, i32_w, u8_w, u32_w]
            rfl
           exact norm_ (by first | (simp only [putAll, Act.put, List.setIfInBounds_toArray, List.set_cons_zero, List.set_cons_succ]; done) | (simp only [putAll, Act.put, List.setIfInBounds_toArray, List.set_cons_zero, List.set_cons_succ]; rfl)) (hJ1_3_5 (v150, v155, zB) _ ⟨hHeld, (by (with_reducible repeat (first | apply Kd.R_alloc | apply Kd.R_drewN | apply Kd.R_drew)); exact zI.out), (by (with_reducible repeat (first | apply Kd.R_alloc | apply Kd.R_drewN | apply Kd.R_drew)); exact zP.out), (by (with_reducible repeat (first | refine blk_drewN ?_ _ | refine blk_drew ?_ | refine blk_alloc ?_ _)); exact zC.out), (by (with_reducible repeat (first | refine blk_drewN ?_ _ | refine blk_drew ?_ | refine blk_alloc ?_ _)); exact zD.out), (by (with_reducible repeat (first | refine blk_drewN ?_ _ | refine blk_drew ?_ | refine blk_alloc ?_ _)); exact zH.out), GW158.out, zb.out, zU.out, zi.out, zV.out, zj.out, (by repeat (first | (with_reducible first | exact HB.out | apply below_alloc | apply pw_below_drewN | apply below_drew1 | refine below_set ?_ zJ.out | refine below_set ?_ zK.out | refine below_set ?_ zb.out) | exact HB.out))⟩)
        ·skip
         rintro ⟨v150, zA, zB⟩ w30 ⟨hS_, h0_, h1_, h2_, h3_, h4_, h5_, h6_, h7_, h8_, h9_, h10_, h11_, h12_, h13_, h14_, h15_, h16_, h17_, h18_, h19_⟩
         have n0_ : Aside0 (Kd.R k29 29 w30 w.heap.size (fun k_ => k_ ≠ zA ∧ k_ ≠ zB) v150 t149) := ⟨h0_⟩
         have n1_ : Aside0 (w30.heap[zE]? = some (.cells #[.int .i64 zM, .int .i64 zN, .slice zW zL.length zX] 24 (0, 0))) := ⟨h1_⟩
         have n2_ : Aside0 (w30.heap[zF]? = some (.cells #[.int .i64 zQ, .int .i64 zR, .slice zY zO.length zZ] 24 (0, 0))) := ⟨h2_⟩
         have n3_ : Aside0 (w30.heap[zA]? = some (.cells #[.int .i64 0, .int .i64 0, .slice none 0 0] 29 (0, 0))) := ⟨h3_⟩
         have n4_ : Aside0 (w30.heap[zB]? = some (.cells #[.int .i64 0, .int .i64 0, .slice none 0 0] 29 (0, 0))) := ⟨h4_⟩
         have n5_ : Aside0 (w.heap.size ≤ zA) := ⟨h5_⟩
         have n6_ : Aside0 (w.heap.size ≤ zA) := ⟨h6_⟩
         have n7_ : Aside0 (zE ≠ zA) := ⟨h7_⟩
         have n8_ : Aside0 (zA ≠ zE) := ⟨h8_⟩
         have n9_ : Aside0 (zF ≠ zA) := ⟨h9_⟩
         have n10_ : Aside0 (zA ≠ zF) := ⟨h10_⟩
         have n11_ : Aside0 (zB ≠ zA) := ⟨h11_⟩
         have n12_ : Aside0 (zA ≠ zB) := ⟨h12_⟩
         have n13_ : Aside0 (w.heap.size ≤ zB) := ⟨h13_⟩
         have n14_ : Aside0 (w.heap.size ≤ zB) := ⟨h14_⟩
         have n15_ : Aside0 (zE ≠ zB) := ⟨h15_⟩
         have n16_ : Aside0 (zB ≠ zE) := ⟨h16_⟩
         have n17_ : Aside0 (zF ≠ zB) := ⟨h17_⟩
         have n18_ : Aside0 (zB ≠ zF) := ⟨h18_⟩
         have n19_ : Aside0 (Below w.heap.size w w30) := ⟨h19_⟩
         clear zC
         clear zD
         clear HB
         clear h0_ h1_ h2_ h3_ h4_ h5_ h6_ h7_ h8_ h9_ h10_ h11_ h12_ h13_ h14_ h15_ h16_ h17_ h18_ h19_
         have zI := n0_
         have zC := n1_
         have zD := n2_
         have zG := n3_
         have zH := n4_
         have GW157 := n5_
         have za := n6_
         have zS := n7_
         have zg := n8_
         have zT := n9_
         have zh := n10_
         have zk := n11_
         have zl := n12_
         have GW158 := n13_
         have zb := n14_
         have zU := n15_
         have zi := n16_
         have zV := n17_
         have zj := n18_
         have HB := n19_
         clear n0_ n1_ n2_ n3_ n4_ n5_ n6_ n7_ n8_ n9_ n10_ n11_ n12_ n13_ n14_ n15_ n16_ n17_ n18_ n19_
         have hHeld : w30.cell? ⟨zE, 0, none⟩ = some (.int .i64 zM) ∧ w30.cell? ⟨zE, 1, none⟩ = some (.int .i64 zN) ∧ w30.cell? ⟨zE, 2, none⟩ = some (.slice zW zL.length zX) ∧ w30.cell? ⟨zF, 0, none⟩ = some (.int .i64 zQ) ∧ w30.cell? ⟨zF, 1, none⟩ = some (.int .i64 zR) ∧ w30.cell? ⟨zF, 2, none⟩ = some (.slice zY zO.length zZ) := hS_
         refine norm_ (a' := ?_) ?_ ?_
         rotate_left
         ·simp only [putAll, Act.put, List.setIfInBounds_toArray, List.set_cons_zero, List.set_cons_succ]
          rfl
         refine one_ (i := 3) (N := some 20) #[true, true, true, true, true, true, false, false] rfl rfl (one_of HT_.out (by kernel_rfl)) (by decide) (fun K hK => ?_)
         refine goes_ Try.func11 (by kernel_rfl) rfl #[.agg #[.int .i64 zQ, .int .i64 zR, .slice zY zO.length zZ]] (by rfl) rfl rfl (by (try simp only [List.map_toArray, List.map_cons, List.map_nil]); first | done | rfl | (simp only [List.length_drop, List.length_take]; rfl)) ?_
         with_reducible refine (thyrsuslaw1_Plain.calls kj4 zQ zR _ _ zO t152 t153 t154 _ ?side1 ?side2 A22.out).mono ?_
         (case side1 => repeat (first | exact (Kd.C_below HR1_2.out HB.out) | (with_reducible refine Kd.C_alloc ?_ _) | (with_reducible refine Kd.C_drewN ?_ _) | (with_reducible refine Kd.C_drew ?_)))
         (case side2 => exact HC1_2.out)
         rintro e w31 ⟨v155, rfl, ho0, hb⟩
         refine ⟨_, rfl, ?_⟩
         have n0_ := Aside0.mk (Kd.R_elder' (by (with_reducible repeat (first | apply Kd.R_alloc | apply Kd.R_drewN | apply Kd.R_drew)); exact zI.out) (Kd.R_base ho0) hb)
         have n1_ := Aside0.mk (Kd.R_lower (Kd.R_newB (Kd.R_newB (Kd.R_new' ho0 (Kd.R_lt (by (with_reducible repeat (first | apply Kd.R_alloc | apply Kd.R_drewN | apply Kd.R_drew)); exact zI.out))) (g := zA) (o := .cells #[.int .i64 0, .int .i64 0, .slice none 0 0] 29 (0, 0)) (by (with_reducible repeat (first | refine blk_drewN ?_ _ | refine blk_drew ?_ | refine blk_alloc ?_ _)); exact zG.out)) (g := zB) (o := .cells #[.int .i64 0, .int .i64 0, .slice none 0 0] 29 (0, 0)) (by (with_reducible repeat (first | refine blk_drewN ?_ _ | refine blk_drew ?_ | refine blk_alloc ?_ _)); exact zH.out)) (below_size (by repeat (first | (with_reducible first | exact HB.out | apply below_alloc | apply pw_below_drewN | apply below_drew1 | refine below_set ?_ zJ.out | refine below_set ?_ zK.out | refine below_set ?_ za.out | refine below_set ?_ zb.out) | exact HB.out))))
         have n2_ := Aside0.mk (blk_below (g := zE) (o := .cells #[.int .i64 zM, .int .i64 zN, .slice zW zL.length zX] 24 (0, 0)) (by (with_reducible repeat (first | refine blk_drewN ?_ _ | refine blk_drew ?_ | refine blk_alloc ?_ _)); exact zC.out) hb)
         have n3_ := Aside0.mk (blk_below (g := zF) (o := .cells #[.int .i64 zQ, .int .i64 zR, .slice zY zO.length zZ] 24 (0, 0)) (by (with_reducible repeat (first | refine blk_drewN ?_ _ | refine blk_drew ?_ | refine blk_alloc ?_ _)); exact zD.out) hb)
         have n4_ := Aside0.mk (blk_below (g := zA) (o := .cells #[.int .i64 0, .int .i64 0, .slice none 0 0] 29 (0, 0)) (by (with_reducible repeat (first | refine blk_drewN ?_ _ | refine blk_drew ?_ | refine blk_alloc ?_ _)); exact zG.out) hb)
         have n5_ := Aside0.mk (blk_below (g := zB) (o := .cells #[.int .i64 0, .int .i64 0, .slice none 0 0] 29 (0, 0)) (by (with_reducible repeat (first | refine blk_drewN ?_ _ | refine blk_drew ?_ | refine blk_alloc ?_ _)); exact zH.out) hb)
         have n6_ := Aside0.mk (below_step (by repeat (first | (with_reducible first | exact HB.out | apply below_alloc | apply pw_below_drewN | apply below_drew1 | refine below_set ?_ zJ.out | refine below_set ?_ zK.out | refine below_set ?_ za.out | refine below_set ?_ zb.out) | exact HB.out)) hb)
         clear zI
         clear zC
         clear zD
         clear zG
         clear zH
         clear HB
         have zI := n0_
         have zP := n1_
         have zC := n2_
         have zD := n3_
         have zG := n4_
         have zH := n5_
         have HB := n6_
         clear n0_ n1_ n2_ n3_ n4_ n5_ n6_
         (try clear hb)
         (try clear hb2)
         (try clear hk)
         (try clear hi)
         (try clear ho0)
         refine hK.out _ _ ⟨(blk_cell zC.out 0).trans rfl, (blk_cell zC.out 1).trans rfl, (blk_cell zC.out 2).trans rfl, (blk_cell zD.out 0).trans rfl, (blk_cell zD.out 1).trans rfl, (blk_cell zD.out 2).trans rfl⟩ (fun hHeld => ?_)
         clear hK K
         refine norm_ (a' := ?_) ?_ ?_
         rotate_left
         ·show Act.put _ (some 20) _ = _
          simp only [Act.put, List.setIfInBounds_toArray, List.set_cons_zero, List.set_cons_succ, i64_w, i32_w, u8_w, u32_w]
          rfl
         exact norm_ (by first | (simp only [putAll, Act.put, List.setIfInBounds_toArray, List.set_cons_zero, List.set_cons_succ]; done) | (simp only [putAll, Act.put, List.setIfInBounds_toArray, List.set_cons_zero, List.set_cons_succ]; rfl)) (hJ1_3_4_5 (v150, v155, zA, zB) _ ⟨hHeld, (by (with_reducible repeat (first | apply Kd.R_alloc | apply Kd.R_drewN | apply Kd.R_drew)); exact Kd.R_mono zI.out (fun _ hk => ⟨hk.2, ⟨hk.1.1, hk.1.2⟩⟩)), (by (with_reducible repeat (first | apply Kd.R_alloc | apply Kd.R_drewN | apply Kd.R_drew)); exact Kd.R_mono zP.out (fun _ hk => ⟨hk.1.1.2, ⟨hk.1.2, hk.2⟩⟩)), (by (with_reducible repeat (first | refine blk_drewN ?_ _ | refine blk_drew ?_ | refine blk_alloc ?_ _)); exact zC.out), (by (with_reducible repeat (first | refine blk_drewN ?_ _ | refine blk_drew ?_ | refine blk_alloc ?_ _)); exact zD.out), (by (with_reducible repeat (first | refine blk_drewN ?_ _ | refine blk_drew ?_ | refine blk_alloc ?_ _)); exact zG.out), (by (with_reducible repeat (first | refine blk_drewN ?_ _ | refine blk_drew ?_ | refine blk_alloc ?_ _)); exact zH.out), GW157.out, za.out, zS.out, zg.out, zT.out, zh.out, zk.out, zl.out, GW158.out, zb.out, zU.out, zi.out, zV.out, zj.out, (by repeat (first | (with_reducible first | exact HB.out | apply below_alloc | apply pw_below_drewN | apply below_drew1 | refine below_set ?_ zJ.out | refine below_set ?_ zK.out | refine below_set ?_ za.out | refine below_set ?_ zb.out) | exact HB.out))⟩)
       ·skip
        rintro ⟨v150, v155, zB⟩ w30 ⟨hS_, h0_, h1_, h2_, h3_, h4_, h5_, h6_, h7_, h8_, h9_, h10_, h11_⟩
        have n0_ : Aside0 (Kd.R k29 29 w30 w.heap.size (fun k_ => some k_ ≠ (v155 : Value).ownBlock ∧ k_ ≠ zB) v150 t149) := ⟨h0_⟩
        have n1_ : Aside0 (Kd.R k29 29 w30 w.heap.size (fun k_ => some k_ ≠ (v150 : Value).ownBlock ∧ k_ ≠ zB) v155 t154) := ⟨h1_⟩
        have n2_ : Aside0 (w30.heap[zE]? = some (.cells #[.int .i64 zM, .int .i64 zN, .slice zW zL.length zX] 24 (0, 0))) := ⟨h2_⟩
        have n3_ : Aside0 (w30.heap[zF]? = some (.cells #[.int .i64 zQ, .int .i64 zR, .slice zY zO.length zZ] 24 (0, 0))) := ⟨h3_⟩
        have n4_ : Aside0 (w30.heap[zB]? = some (.cells #[.int .i64 0, .int .i64 0, .slice none 0 0] 29 (0, 0))) := ⟨h4_⟩
        have n5_ : Aside0 (w.heap.size ≤ zB) := ⟨h5_⟩
        have n6_ : Aside0 (w.heap.size ≤ zB) := ⟨h6_⟩
        have n7_ : Aside0 (zE ≠ zB) := ⟨h7_⟩
        have n8_ : Aside0 (zB ≠ zE) := ⟨h8_⟩
        have n9_ : Aside0 (zF ≠ zB) := ⟨h9_⟩
        have n10_ : Aside0 (zB ≠ zF) := ⟨h10_⟩
        have n11_ : Aside0 (Below w.heap.size w w30) := ⟨h11_⟩
        clear zC
        clear zD
        clear HB
        clear h0_ h1_ h2_ h3_ h4_ h5_ h6_ h7_ h8_ h9_ h10_ h11_
        have zI := n0_
        have zP := n1_
        have zC := n2_
        have zD := n3_
        have zH := n4_
        have GW158 := n5_
        have zb := n6_
        have zU := n7_
        have zi := n8_
        have zV := n9_
        have zj := n10_
        have HB := n11_
        clear n0_ n1_ n2_ n3_ n4_ n5_ n6_ n7_ n8_ n9_ n10_ n11_
        have hHeld : w30.cell? ⟨zE, 0, none⟩ = some (.int .i64 zM) ∧ w30.cell? ⟨zE, 1, none⟩ = some (.int .i64 zN) ∧ w30.cell? ⟨zE, 2, none⟩ = some (.slice zW zL.length zX) ∧ w30.cell? ⟨zF, 0, none⟩ = some (.int .i64 zQ) ∧ w30.cell? ⟨zF, 1, none⟩ = some (.int .i64 zR) ∧ w30.cell? ⟨zF, 2, none⟩ = some (.slice zY zO.length zZ) := hS_
        refine norm_ (a' := ?_) ?_ ?_
        rotate_left
        ·simp only [putAll, Act.put, List.setIfInBounds_toArray, List.set_cons_zero, List.set_cons_succ]
         rfl
        refine one_ (i := 4) (N := some 5) #[true, true, true, true, true, true, false, false] rfl rfl (one_of HT_.out (by kernel_rfl)) (by decide) (fun K hK => ?_)
        refine box_step ?hg (N := 5) ?hd (cs := #[.int .i64 0, .int .i64 0, .slice none 0 0]) (t := 29) ?hr ?_; (case hd => rfl); (case hg => rfl); (case hr => first | (go_simp; done) | (go_simp; rfl))
        intro zA hg w31 hbox hb
        have n0_ := Aside0.mk (Kd.R_below (Kd.R_elderB (by (with_reducible repeat (first | apply Kd.R_alloc | apply Kd.R_drewN | apply Kd.R_drew)); exact zI.out) zA (Nat.le_of_eq hg.symm)) hb)
        have n1_ := Aside0.mk (Kd.R_below (Kd.R_elderB (by (with_reducible repeat (first | apply Kd.R_alloc | apply Kd.R_drewN | apply Kd.R_drew)); exact zP.out) zA (Nat.le_of_eq hg.symm)) hb)
        have n2_ := Aside0.mk (blk_below (g := zE) (o := .cells #[.int .i64 zM, .int .i64 zN, .slice zW zL.length zX] 24 (0, 0)) (by (with_reducible repeat (first | refine blk_drewN ?_ _ | refine blk_drew ?_ | refine blk_alloc ?_ _)); exact zC.out) hb)
        have n3_ := Aside0.mk (blk_below (g := zF) (o := .cells #[.int .i64 zQ, .int .i64 zR, .slice zY zO.length zZ] 24 (0, 0)) (by (with_reducible repeat (first | refine blk_drewN ?_ _ | refine blk_drew ?_ | refine blk_alloc ?_ _)); exact zD.out) hb)
        have n4_ := Aside0.mk (blk_below (g := zB) (o := .cells #[.int .i64 0, .int .i64 0, .slice none 0 0] 29 (0, 0)) (by (with_reducible repeat (first | refine blk_drewN ?_ _ | refine blk_drew ?_ | refine blk_alloc ?_ _)); exact zH.out) hb)
        have n5_ := Aside0.mk (below_step (by repeat (first | (with_reducible first | exact HB.out | apply below_alloc | apply pw_below_drewN | apply below_drew1 | refine below_set ?_ zJ.out | refine below_set ?_ zK.out | refine below_set ?_ zb.out) | exact HB.out)) hb)
        have n6_ := Aside0.mk (hbox)
        have n7_ := Aside0.mk ((by rw [hg]; exact (below_size (by repeat (first | (with_reducible first | exact HB.out | apply below_alloc | apply pw_below_drewN | apply below_drew1 | refine below_set ?_ zJ.out | refine below_set ?_ zK.out | refine below_set ?_ zb.out) | exact HB.out))) : w.heap.size ≤ zA))
        have n8_ := Aside0.mk ((by rw [hg]; exact (below_size (by repeat (first | (with_reducible first | exact HB.out | apply below_alloc | apply pw_below_drewN | apply below_drew1 | refine below_set ?_ zJ.out | refine below_set ?_ zK.out | refine below_set ?_ zb.out) | exact HB.out))) : w.heap.size ≤ zA))
        have n9_ := Aside0.mk ((by rw [hg]; exact Nat.ne_of_lt (blk_lt (g := zE) (o := .cells #[.int .i64 zM, .int .i64 zN, .slice zW zL.length zX] 24 (0, 0)) (by (with_reducible repeat (first | refine blk_drewN ?_ _ | refine blk_drew ?_ | refine blk_alloc ?_ _)); exact zC.out)) : zE ≠ zA))
        have n10_ := Aside0.mk ((by rw [hg]; exact Nat.ne_of_gt (blk_lt (g := zE) (o := .cells #[.int .i64 zM, .int .i64 zN, .slice zW zL.length zX] 24 (0, 0)) (by (with_reducible repeat (first | refine blk_drewN ?_ _ | refine blk_drew ?_ | refine blk_alloc ?_ _)); exact zC.out)) : zA ≠ zE))
        have n11_ := Aside0.mk ((by rw [hg]; exact Nat.ne_of_lt (blk_lt (g := zF) (o := .cells #[.int .i64 zQ, .int .i64 zR, .slice zY zO.length zZ] 24 (0, 0)) (by (with_reducible repeat (first | refine blk_drewN ?_ _ | refine blk_drew ?_ | refine blk_alloc ?_ _)); exact zD.out)) : zF ≠ zA))
        have n12_ := Aside0.mk ((by rw [hg]; exact Nat.ne_of_gt (blk_lt (g := zF) (o := .cells #[.int .i64 zQ, .int .i64 zR, .slice zY zO.length zZ] 24 (0, 0)) (by (with_reducible repeat (first | refine blk_drewN ?_ _ | refine blk_drew ?_ | refine blk_alloc ?_ _)); exact zD.out)) : zA ≠ zF))
        have n13_ := Aside0.mk ((by rw [hg]; exact Nat.ne_of_lt (blk_lt (g := zB) (o := .cells #[.int .i64 0, .int .i64 0, .slice none 0 0] 29 (0, 0)) (by (with_reducible repeat (first | refine blk_drewN ?_ _ | refine blk_drew ?_ | refine blk_alloc ?_ _)); exact zH.out)) : zB ≠ zA))
        have n14_ := Aside0.mk ((by rw [hg]; exact Nat.ne_of_gt (blk_lt (g := zB) (o := .cells #[.int .i64 0, .int .i64 0, .slice none 0 0] 29 (0, 0)) (by (with_reducible repeat (first | refine blk_drewN ?_ _ | refine blk_drew ?_ | refine blk_alloc ?_ _)); exact zH.out)) : zA ≠ zB))
        clear zI
        clear zP
        clear zC
        clear zD
        clear zH
        clear HB
        have zI := n0_
        have zP := n1_
        have zC := n2_
        have zD := n3_
        have zH := n4_
        have HB := n5_
        have zG := n6_
        have GW157 := n7_
        have za := n8_
        have zS := n9_
        have zg := n10_
        have zT := n11_
        have zh := n12_
        have zk := n13_
        have zl := n14_
        clear n0_ n1_ n2_ n3_ n4_ n5_ n6_ n7_ n8_ n9_ n10_ n11_ n12_ n13_ n14_
        clear hb hbox hg
        refine hK.out _ _ ⟨(blk_cell zC.out 0).trans rfl, (blk_cell zC.out 1).trans rfl, (blk_cell zC.out 2).trans rfl, (blk_cell zD.out 0).trans rfl, (blk_cell zD.out 1).trans rfl, (blk_cell zD.out 2).trans rfl⟩ (fun hHeld => ?_)
        clear hK K
        refine norm_ (a' := ?_) ?_ ?_
        rotate_left
        ·show Act.put _ (some 5) _ = _
         simp only [Act.put, List.setIfInBounds_toArray, List.set_cons_zero, List.set_cons_succ, i64_w, i32_w, u8_w, u32_w]
         rfl
        exact norm_ (by first | (simp only [putAll, Act.put, List.setIfInBounds_toArray, List.set_cons_zero, List.set_cons_succ]; done) | (simp only [putAll, Act.put, List.setIfInBounds_toArray, List.set_cons_zero, List.set_cons_succ]; rfl)) (hJ1_3_4_5 (v150, v155, zA, zB) _ ⟨hHeld, (by (with_reducible repeat (first | apply Kd.R_alloc | apply Kd.R_drewN | apply Kd.R_drew)); exact Kd.R_mono zI.out (fun _ hk => ⟨hk.1.1, ⟨hk.2, hk.1.2⟩⟩)), (by (with_reducible repeat (first | apply Kd.R_alloc | apply Kd.R_drewN | apply Kd.R_drew)); exact Kd.R_mono zP.out (fun _ hk => ⟨hk.1.1, ⟨hk.2, hk.1.2⟩⟩)), (by (with_reducible repeat (first | refine blk_drewN ?_ _ | refine blk_drew ?_ | refine blk_alloc ?_ _)); exact zC.out), (by (with_reducible repeat (first | refine blk_drewN ?_ _ | refine blk_drew ?_ | refine blk_alloc ?_ _)); exact zD.out), (by (with_reducible repeat (first | refine blk_drewN ?_ _ | refine blk_drew ?_ | refine blk_alloc ?_ _)); exact zG.out), (by (with_reducible repeat (first | refine blk_drewN ?_ _ | refine blk_drew ?_ | refine blk_alloc ?_ _)); exact zH.out), GW157.out, za.out, zS.out, zg.out, zT.out, zh.out, zk.out, zl.out, GW158.out, zb.out, zU.out, zi.out, zV.out, zj.out, (by repeat (first | (with_reducible first | exact HB.out | apply below_alloc | apply pw_below_drewN | apply below_drew1 | refine below_set ?_ zJ.out | refine below_set ?_ zK.out | refine below_set ?_ zb.out | refine below_set ?_ za.out) | exact HB.out))⟩)
      ·skip
       rintro ⟨v150, v155, zA⟩ w30 ⟨hS_, h0_, h1_, h2_, h3_, h4_, h5_, h6_, h7_, h8_, h9_, h10_, h11_⟩
       have n0_ : Aside0 (Kd.R k29 29 w30 w.heap.size (fun k_ => some k_ ≠ (v155 : Value).ownBlock ∧ k_ ≠ zA) v150 t149) := ⟨h0_⟩
       have n1_ : Aside0 (Kd.R k29 29 w30 w.heap.size (fun k_ => some k_ ≠ (v150 : Value).ownBlock ∧ k_ ≠ zA) v155 t154) := ⟨h1_⟩
       have n2_ : Aside0 (w30.heap[zE]? = some (.cells #[.int .i64 zM, .int .i64 zN, .slice zW zL.length zX] 24 (0, 0))) := ⟨h2_⟩
       have n3_ : Aside0 (w30.heap[zF]? = some (.cells #[.int .i64 zQ, .int .i64 zR, .slice zY zO.length zZ] 24 (0, 0))) := ⟨h3_⟩
       have n4_ : Aside0 (w30.heap[zA]? = some (.cells #[.int .i64 0, .int .i64 0, .slice none 0 0] 29 (0, 0))) := ⟨h4_⟩
       have n5_ : Aside0 (w.heap.size ≤ zA) := ⟨h5_⟩
       have n6_ : Aside0 (w.heap.size ≤ zA) := ⟨h6_⟩
       have n7_ : Aside0 (zE ≠ zA) := ⟨h7_⟩
       have n8_ : Aside0 (zA ≠ zE) := ⟨h8_⟩
       have n9_ : Aside0 (zF ≠ zA) := ⟨h9_⟩
       have n10_ : Aside0 (zA ≠ zF) := ⟨h10_⟩
       have n11_ : Aside0 (Below w.heap.size w w30) := ⟨h11_⟩
       clear zC
       clear zD
       clear HB
       clear h0_ h1_ h2_ h3_ h4_ h5_ h6_ h7_ h8_ h9_ h10_ h11_
       have zI := n0_
       have zP := n1_
       have zC := n2_
       have zD := n3_
       have zG := n4_
       have GW157 := n5_
       have za := n6_
       have zS := n7_
       have zg := n8_
       have zT := n9_
       have zh := n10_
       have HB := n11_
       clear n0_ n1_ n2_ n3_ n4_ n5_ n6_ n7_ n8_ n9_ n10_ n11_
       have hHeld : w30.cell? ⟨zE, 0, none⟩ = some (.int .i64 zM) ∧ w30.cell? ⟨zE, 1, none⟩ = some (.int .i64 zN) ∧ w30.cell? ⟨zE, 2, none⟩ = some (.slice zW zL.length zX) ∧ w30.cell? ⟨zF, 0, none⟩ = some (.int .i64 zQ) ∧ w30.cell? ⟨zF, 1, none⟩ = some (.int .i64 zR) ∧ w30.cell? ⟨zF, 2, none⟩ = some (.slice zY zO.length zZ) := hS_
       refine norm_ (a' := ?_) ?_ ?_
       rotate_left
       ·simp only [putAll, Act.put, List.setIfInBounds_toArray, List.set_cons_zero, List.set_cons_succ]
        rfl
       refine one_ (i := 5) (N := some 6) #[true, true, true, true, true, true, false, false] rfl rfl (one_of HT_.out (by kernel_rfl)) (by decide) (fun K hK => ?_)
       refine box_step ?hg (N := 6) ?hd (cs := #[.int .i64 0, .int .i64 0, .slice none 0 0]) (t := 29) ?hr ?_; (case hd => rfl); (case hg => rfl); (case hr => first | (go_simp; done) | (go_simp; rfl))
       intro zB hg w31 hbox hb
       have n0_ := Aside0.mk (Kd.R_below (Kd.R_elderB (by (with_reducible repeat (first | apply Kd.R_alloc | apply Kd.R_drewN | apply Kd.R_drew)); exact zI.out) zB (Nat.le_of_eq hg.symm)) hb)
       have n1_ := Aside0.mk (Kd.R_below (Kd.R_elderB (by (with_reducible repeat (first | apply Kd.R_alloc | apply Kd.R_drewN | apply Kd.R_drew)); exact zP.out) zB (Nat.le_of_eq hg.symm)) hb)
       have n2_ := Aside0.mk (blk_below (g := zE) (o := .cells #[.int .i64 zM, .int .i64 zN, .slice zW zL.length zX] 24 (0, 0)) (by (with_reducible repeat (first | refine blk_drewN ?_ _ | refine blk_drew ?_ | refine blk_alloc ?_ _)); exact zC.out) hb)
       have n3_ := Aside0.mk (blk_below (g := zF) (o := .cells #[.int .i64 zQ, .int .i64 zR, .slice zY zO.length zZ] 24 (0, 0)) (by (with_reducible repeat (first | refine blk_drewN ?_ _ | refine blk_drew ?_ | refine blk_alloc ?_ _)); exact zD.out) hb)
       have n4_ := Aside0.mk (blk_below (g := zA) (o := .cells #[.int .i64 0, .int .i64 0, .slice none 0 0] 29 (0, 0)) (by (with_reducible repeat (first | refine blk_drewN ?_ _ | refine blk_drew ?_ | refine blk_alloc ?_ _)); exact zG.out) hb)
       have n5_ := Aside0.mk (below_step (by repeat (first | (with_reducible first | exact HB.out | apply below_alloc | apply pw_below_drewN | apply below_drew1 | refine below_set ?_ zJ.out | refine below_set ?_ zK.out | refine below_set ?_ za.out) | exact HB.out)) hb)
       have n6_ := Aside0.mk (hbox)
       have n7_ := Aside0.mk ((by rw [hg]; exact (below_size (by repeat (first | (with_reducible first | exact HB.out | apply below_alloc | apply pw_below_drewN | apply below_drew1 | refine below_set ?_ zJ.out | refine below_set ?_ zK.out | refine below_set ?_ za.out) | exact HB.out))) : w.heap.size ≤ zB))
       have n8_ := Aside0.mk ((by rw [hg]; exact (below_size (by repeat (first | (with_reducible first | exact HB.out | apply below_alloc | apply pw_below_drewN | apply below_drew1 | refine below_set ?_ zJ.out | refine below_set ?_ zK.out | refine below_set ?_ za.out) | exact HB.out))) : w.heap.size ≤ zB))
       have n9_ := Aside0.mk ((by rw [hg]; exact Nat.ne_of_lt (blk_lt (g := zE) (o := .cells #[.int .i64 zM, .int .i64 zN, .slice zW zL.length zX] 24 (0, 0)) (by (with_reducible repeat (first | refine blk_drewN ?_ _ | refine blk_drew ?_ | refine blk_alloc ?_ _)); exact zC.out)) : zE ≠ zB))
       have n10_ := Aside0.mk ((by rw [hg]; exact Nat.ne_of_gt (blk_lt (g := zE) (o := .cells #[.int .i64 zM, .int .i64 zN, .slice zW zL.length zX] 24 (0, 0)) (by (with_reducible repeat (first | refine blk_drewN ?_ _ | refine blk_drew ?_ | refine blk_alloc ?_ _)); exact zC.out)) : zB ≠ zE))
       have n11_ := Aside0.mk ((by rw [hg]; exact Nat.ne_of_lt (blk_lt (g := zF) (o := .cells #[.int .i64 zQ, .int .i64 zR, .slice zY zO.length zZ] 24 (0, 0)) (by (with_reducible repeat (first | refine blk_drewN ?_ _ | refine blk_drew ?_ | refine blk_alloc ?_ _)); exact zD.out)) : zF ≠ zB))
       have n12_ := Aside0.mk ((by rw [hg]; exact Nat.ne_of_gt (blk_lt (g := zF) (o := .cells #[.int .i64 zQ, .int .i64 zR, .slice zY zO.length zZ] 24 (0, 0)) (by (with_reducible repeat (first | refine blk_drewN ?_ _ | refine blk_drew ?_ | refine blk_alloc ?_ _)); exact zD.out)) : zB ≠ zF))
       have n13_ := Aside0.mk ((by rw [hg]; exact Nat.ne_of_lt (blk_lt (g := zA) (o := .cells #[.int .i64 0, .int .i64 0, .slice none 0 0] 29 (0, 0)) (by (with_reducible repeat (first | refine blk_drewN ?_ _ | refine blk_drew ?_ | refine blk_alloc ?_ _)); exact zG.out)) : zA ≠ zB))
       have n14_ := Aside0.mk ((by rw [hg]; exact Nat.ne_of_gt (blk_lt (g := zA) (o := .cells #[.int .i64 0, .int .i64 0, .slice none 0 0] 29 (0, 0)) (by (with_reducible repeat (first | refine blk_drewN ?_ _ | refine blk_drew ?_ | refine blk_alloc ?_ _)); exact zG.out)) : zB ≠ zA))
       clear zI
       clear zP
       clear zC
       clear zD
       clear zG
       clear HB
       have zI := n0_
       have zP := n1_
       have zC := n2_
       have zD := n3_
       have zG := n4_
       have HB := n5_
       have zH := n6_
       have GW158 := n7_
       have zb := n8_
       have zU := n9_
       have zi := n10_
       have zV := n11_
       have zj := n12_
       have zl := n13_
       have zk := n14_
       clear n0_ n1_ n2_ n3_ n4_ n5_ n6_ n7_ n8_ n9_ n10_ n11_ n12_ n13_ n14_
       clear hb hbox hg
       refine hK.out _ _ ⟨(blk_cell zC.out 0).trans rfl, (blk_cell zC.out 1).trans rfl, (blk_cell zC.out 2).trans rfl, (blk_cell zD.out 0).trans rfl, (blk_cell zD.out 1).trans rfl, (blk_cell zD.out 2).trans rfl⟩ (fun hHeld => ?_)
       clear hK K
       refine norm_ (a' := ?_) ?_ ?_
       rotate_left
       ·show Act.put _ (some 6) _ = _
        simp only [Act.put, List.setIfInBounds_toArray, List.set_cons_zero, List.set_cons_succ, i64_w, i32_w, u8_w, u32_w]
        rfl
       exact norm_ (by first | (simp only [putAll, Act.put, List.setIfInBounds_toArray, List.set_cons_zero, List.set_cons_succ]; done) | (simp only [putAll, Act.put, List.setIfInBounds_toArray, List.set_cons_zero, List.set_cons_succ]; rfl)) (hJ1_3_4_5 (v150, v155, zA, zB) _ ⟨hHeld, (by (with_reducible repeat (first | apply Kd.R_alloc | apply Kd.R_drewN | apply Kd.R_drew)); exact Kd.R_mono zI.out (fun _ hk => ⟨hk.1.1, ⟨hk.1.2, hk.2⟩⟩)), (by (with_reducible repeat (first | apply Kd.R_alloc | apply Kd.R_drewN | apply Kd.R_drew)); exact Kd.R_mono zP.out (fun _ hk => ⟨hk.1.1, ⟨hk.1.2, hk.2⟩⟩)), (by (with_reducible repeat (first | refine blk_drewN ?_ _ | refine blk_drew ?_ | refine blk_alloc ?_ _)); exact zC.out), (by (with_reducible repeat (first | refine blk_drewN ?_ _ | refine blk_drew ?_ | refine blk_alloc ?_ _)); exact zD.out), (by (with_reducible repeat (first | refine blk_drewN ?_ _ | refine blk_drew ?_ | refine blk_alloc ?_ _)); exact zG.out), (by (with_reducible repeat (first | refine blk_drewN ?_ _ | refine blk_drew ?_ | refine blk_alloc ?_ _)); exact zH.out), GW157.out, za.out, zS.out, zg.out, zT.out, zh.out, zk.out, zl.out, GW158.out, zb.out, zU.out, zi.out, zV.out, zj.out, (by repeat (first | (with_reducible first | exact HB.out | apply below_alloc | apply pw_below_drewN | apply below_drew1 | refine below_set ?_ zJ.out | refine below_set ?_ zK.out | refine below_set ?_ za.out | refine below_set ?_ zb.out) | exact HB.out))⟩)
     rintro ⟨v150, v155, zA, zB⟩ w31 ⟨hS_, h0_, h1_, h2_, h3_, h4_, h5_, h6_, h7_, h8_, h9_, h10_, h11_, h12_, h13_, h14_, h15_, h16_, h17_, h18_, h19_, h20_⟩
     have n0_ : Aside0 (Kd.R k29 29 w31 w.heap.size (fun k_ => some k_ ≠ (v155 : Value).ownBlock ∧ k_ ≠ zA ∧ k_ ≠ zB) v150 t149) := ⟨h0_⟩
     have n1_ : Aside0 (Kd.R k29 29 w31 w.heap.size (fun k_ => some k_ ≠ (v150 : Value).ownBlock ∧ k_ ≠ zA ∧ k_ ≠ zB) v155 t154) := ⟨h1_⟩
     have n2_ : Aside0 (w31.heap[zE]? = some (.cells #[.int .i64 zM, .int .i64 zN, .slice zW zL.length zX] 24 (0, 0))) := ⟨h2_⟩
     have n3_ : Aside0 (w31.heap[zF]? = some (.cells #[.int .i64 zQ, .int .i64 zR, .slice zY zO.length zZ] 24 (0, 0))) := ⟨h3_⟩
     have n4_ : Aside0 (w31.heap[zA]? = some (.cells #[.int .i64 0, .int .i64 0, .slice none 0 0] 29 (0, 0))) := ⟨h4_⟩
     have n5_ : Aside0 (w31.heap[zB]? = some (.cells #[.int .i64 0, .int .i64 0, .slice none 0 0] 29 (0, 0))) := ⟨h5_⟩
     have n6_ : Aside0 (w.heap.size ≤ zA) := ⟨h6_⟩
     have n7_ : Aside0 (w.heap.size ≤ zA) := ⟨h7_⟩
     have n8_ : Aside0 (zE ≠ zA) := ⟨h8_⟩
     have n9_ : Aside0 (zA ≠ zE) := ⟨h9_⟩
     have n10_ : Aside0 (zF ≠ zA) := ⟨h10_⟩
     have n11_ : Aside0 (zA ≠ zF) := ⟨h11_⟩
     have n12_ : Aside0 (zB ≠ zA) := ⟨h12_⟩
     have n13_ : Aside0 (zA ≠ zB) := ⟨h13_⟩
     have n14_ : Aside0 (w.heap.size ≤ zB) := ⟨h14_⟩
     have n15_ : Aside0 (w.heap.size ≤ zB) := ⟨h15_⟩
     have n16_ : Aside0 (zE ≠ zB) := ⟨h16_⟩
     have n17_ : Aside0 (zB ≠ zE) := ⟨h17_⟩
     have n18_ : Aside0 (zF ≠ zB) := ⟨h18_⟩
     have n19_ : Aside0 (zB ≠ zF) := ⟨h19_⟩
     have n20_ : Aside0 (Below w.heap.size w w31) := ⟨h20_⟩
     clear zC
     clear zD
     clear HB
     clear h0_ h1_ h2_ h3_ h4_ h5_ h6_ h7_ h8_ h9_ h10_ h11_ h12_ h13_ h14_ h15_ h16_ h17_ h18_ h19_ h20_
     have zI := n0_
     have zP := n1_
     have zC := n2_
     have zD := n3_
     have zG := n4_
     have zH := n5_
     have GW157 := n6_
     have za := n7_
     have zS := n8_
     have zg := n9_
     have zT := n10_
     have zh := n11_
     have zk := n12_
     have zl := n13_
     have GW158 := n14_
     have zb := n15_
     have zU := n16_
     have zi := n17_
     have zV := n18_
     have zj := n19_
     have HB := n20_
     clear n0_ n1_ n2_ n3_ n4_ n5_ n6_ n7_ n8_ n9_ n10_ n11_ n12_ n13_ n14_ n15_ n16_ n17_ n18_ n19_ n20_
     have hHeld : w31.cell? ⟨zE, 0, none⟩ = some (.int .i64 zM) ∧ w31.cell? ⟨zE, 1, none⟩ = some (.int .i64 zN) ∧ w31.cell? ⟨zE, 2, none⟩ = some (.slice zW zL.length zX) ∧ w31.cell? ⟨zF, 0, none⟩ = some (.int .i64 zQ) ∧ w31.cell? ⟨zF, 1, none⟩ = some (.int .i64 zR) ∧ w31.cell? ⟨zF, 2, none⟩ = some (.slice zY zO.length zZ) := hS_
     obtain ⟨ze, zf, eo34⟩ := Kd.R_slice zI.out
     (first | subst eo34 | (injection eo34 with f1_ f2_ f3_; have f4_ := f1_.symm; have f5_ := f3_.symm; clear f1_ f2_ f3_; subst f4_; subst f5_))
     obtain ⟨zc, zd, eo38⟩ := Kd.R_slice zP.out
     (first | subst eo38 | (injection eo38 with f1_ f2_ f3_; have f4_ := f1_.symm; have f5_ := f3_.symm; clear f1_ f2_ f3_; subst f4_; subst f5_))
     refine norm_ (a' := ?_) ?_ ?_
     rotate_left
     ·simp only [putAll, Act.put, List.setIfInBounds_toArray, List.set_cons_zero, List.set_cons_succ]
      rfl
     refine one_ (i := 6) (N := none) #[true, true, true, true, true, true, true, false] rfl rfl (one_of HT_.out (by kernel_rfl)) (by decide) (fun K hK => ?_)
     have hs32 : w31.cell? ⟨zA, 0, none⟩ = some (.int .i64 0) := (blk_cell zG.out 0).trans rfl
     have hfs32 := blk_frozen zG.out 0
     have hns32_0 := zS.out
     have hns32_1 := zT.out
     have hns32_3 := zk.out
     have hms32_0 := zg.out
     have hms32_1 := zh.out
     have hms32_3 := zl.out
     have hs33 : w31.cell? ⟨zA, 1, none⟩ = some (.int .i64 0) := (blk_cell zG.out 1).trans rfl
     have hfs33 := blk_frozen zG.out 1
     have hns33_0 := zS.out
     have hns33_1 := zT.out
     have hns33_3 := zk.out
     have hms33_0 := zg.out
     have hms33_1 := zh.out
     have hms33_3 := zl.out
     have hs35 : w31.cell? ⟨zA, 2, none⟩ = some (.slice none 0 0) := (blk_cell zG.out 2).trans rfl
     have hfs35 := blk_frozen zG.out 2
     have hns35_0 := zS.out
     have hns35_1 := zT.out
     have hns35_3 := zk.out
     have hms35_0 := zg.out
     have hms35_1 := zh.out
     have hms35_3 := zl.out
     refine skip_ (w1 := ?_) (by rfl) rfl ?_ ?_
     rotate_left
     ·go_simp
      rfl
     refine hK.out _ _ ⟨((cell_far (p := ⟨zA, _, none⟩) zS.out _).trans (((cell_far (p := ⟨zA, _, none⟩) zS.out _).trans (((cell_far (p := ⟨zA, _, none⟩) zS.out _).trans (hHeld.1)))))), ((cell_far (p := ⟨zA, _, none⟩) zS.out _).trans (((cell_far (p := ⟨zA, _, none⟩) zS.out _).trans (((cell_far (p := ⟨zA, _, none⟩) zS.out _).trans (hHeld.2.1)))))), ((cell_far (p := ⟨zA, _, none⟩) zS.out _).trans (((cell_far (p := ⟨zA, _, none⟩) zS.out _).trans (((cell_far (p := ⟨zA, _, none⟩) zS.out _).trans (hHeld.2.2.1)))))), ((cell_far (p := ⟨zA, _, none⟩) zT.out _).trans (((cell_far (p := ⟨zA, _, none⟩) zT.out _).trans (((cell_far (p := ⟨zA, _, none⟩) zT.out _).trans (hHeld.2.2.2.1)))))), ((cell_far (p := ⟨zA, _, none⟩) zT.out _).trans (((cell_far (p := ⟨zA, _, none⟩) zT.out _).trans (((cell_far (p := ⟨zA, _, none⟩) zT.out _).trans (hHeld.2.2.2.2.1)))))), ((cell_far (p := ⟨zA, _, none⟩) zT.out _).trans (((cell_far (p := ⟨zA, _, none⟩) zT.out _).trans (((cell_far (p := ⟨zA, _, none⟩) zT.out _).trans (hHeld.2.2.2.2.2))))))⟩ (fun hHeld => ?_)
     clear hK K
     refine one_ (i := 7) (N := none) #[true, true, true, true, true, true, true, true] rfl rfl (one_of HT_.out (by kernel_rfl)) (by decide) (fun K hK => ?_)
     have hs36 : w31.cell? ⟨zB, 0, none⟩ = some (.int .i64 0) := (blk_cell zH.out 0).trans rfl
     have hfs36 := blk_frozen zH.out 0
     have hns36_0 := zU.out
     have hns36_1 := zV.out
     have hns36_2 := zl.out
     have hms36_0 := zi.out
     have hms36_1 := zj.out
     have hms36_2 := zk.out
     have hs37 : w31.cell? ⟨zB, 1, none⟩ = some (.int .i64 0) := (blk_cell zH.out 1).trans rfl
     have hfs37 := blk_frozen zH.out 1
     have hns37_0 := zU.out
     have hns37_1 := zV.out
     have hns37_2 := zl.out
     have hms37_0 := zi.out
     have hms37_1 := zj.out
     have hms37_2 := zk.out
     have hs39 : w31.cell? ⟨zB, 2, none⟩ = some (.slice none 0 0) := (blk_cell zH.out 2).trans rfl
     have hfs39 := blk_frozen zH.out 2
     have hns39_0 := zU.out
     have hns39_1 := zV.out
     have hns39_2 := zl.out
     have hms39_0 := zi.out
     have hms39_1 := zj.out
     have hms39_2 := zk.out
     refine skip_ (w1 := ?_) (by rfl) rfl ?_ ?_
     rotate_left
     ·go_simp
      rfl
     refine hK.out _ _ ⟨((cell_far (p := ⟨zB, _, none⟩) zU.out _).trans (((cell_far (p := ⟨zB, _, none⟩) zU.out _).trans (((cell_far (p := ⟨zB, _, none⟩) zU.out _).trans (hHeld.1)))))), ((cell_far (p := ⟨zB, _, none⟩) zU.out _).trans (((cell_far (p := ⟨zB, _, none⟩) zU.out _).trans (((cell_far (p := ⟨zB, _, none⟩) zU.out _).trans (hHeld.2.1)))))), ((cell_far (p := ⟨zB, _, none⟩) zU.out _).trans (((cell_far (p := ⟨zB, _, none⟩) zU.out _).trans (((cell_far (p := ⟨zB, _, none⟩) zU.out _).trans (hHeld.2.2.1)))))), ((cell_far (p := ⟨zB, _, none⟩) zV.out _).trans (((cell_far (p := ⟨zB, _, none⟩) zV.out _).trans (((cell_far (p := ⟨zB, _, none⟩) zV.out _).trans (hHeld.2.2.2.1)))))), ((cell_far (p := ⟨zB, _, none⟩) zV.out _).trans (((cell_far (p := ⟨zB, _, none⟩) zV.out _).trans (((cell_far (p := ⟨zB, _, none⟩) zV.out _).trans (hHeld.2.2.2.2.1)))))), ((cell_far (p := ⟨zB, _, none⟩) zV.out _).trans (((cell_far (p := ⟨zB, _, none⟩) zV.out _).trans (((cell_far (p := ⟨zB, _, none⟩) zV.out _).trans (hHeld.2.2.2.2.2))))))⟩ (fun hHeld => ?_)
     clear hK K
     refine done_ (done_of HT_.out (by kernel_rfl)) ?_
     try go_wp2
     have n0_ : Aside0 (Kd.R k29 29 ((((((w31.setCell ⟨zA, 0, none⟩ (.int .i64 t147)).setCell ⟨zA, 1, none⟩ (.int .i64 t148)).setCell ⟨zA, 2, none⟩ (.slice ze t149.length zf)).setCell ⟨zB, 0, none⟩ (.int .i64 t152)).setCell ⟨zB, 1, none⟩ (.int .i64 t153)).setCell ⟨zB, 2, none⟩ (.slice zc t154.length zd)) w.heap.size (fun k_ => some k_ ≠ (.slice zc t154.length zd : Value).ownBlock ∧ k_ ≠ zA ∧ k_ ≠ zB) (.slice ze t149.length zf) t149) := ⟨by (with_reducible repeat (first | apply Kd.R_alloc | apply Kd.R_drewN | apply Kd.R_drew)); exact Kd.R_mono (Kd.R_far (p := ⟨zB, 2, none⟩) (Kd.R_far (p := ⟨zB, 1, none⟩) (Kd.R_far (p := ⟨zB, 0, none⟩) (Kd.R_far (p := ⟨zA, 2, none⟩) (Kd.R_far (p := ⟨zA, 1, none⟩) (Kd.R_far (p := ⟨zA, 0, none⟩) (Kd.R_mono (Kd.R_mono zI.out (fun k_ hk => (⟨hk, hk.2.1⟩ : _ ∧ k_ ≠ zA))) (fun k_ hk => (⟨hk, hk.1.2.2⟩ : _ ∧ k_ ≠ zB))) (fun _ hk => hk.1.2) (.int .i64 t147)) (fun _ hk => hk.1.2) (.int .i64 t148)) (fun _ hk => hk.1.2) (.slice ze t149.length zf)) (fun _ hk => hk.2) (.int .i64 t152)) (fun _ hk => hk.2) (.int .i64 t153)) (fun _ hk => hk.2) (.slice zc t154.length zd)) (fun _ hk => ⟨hk.1.1.1, ⟨hk.1.1.2.1, hk.1.1.2.2⟩⟩)⟩
     have n1_ : Aside0 (Kd.R k29 29 ((((((w31.setCell ⟨zA, 0, none⟩ (.int .i64 t147)).setCell ⟨zA, 1, none⟩ (.int .i64 t148)).setCell ⟨zA, 2, none⟩ (.slice ze t149.length zf)).setCell ⟨zB, 0, none⟩ (.int .i64 t152)).setCell ⟨zB, 1, none⟩ (.int .i64 t153)).setCell ⟨zB, 2, none⟩ (.slice zc t154.length zd)) w.heap.size (fun k_ => some k_ ≠ (.slice ze t149.length zf : Value).ownBlock ∧ k_ ≠ zA ∧ k_ ≠ zB) (.slice zc t154.length zd) t154) := ⟨by (with_reducible repeat (first | apply Kd.R_alloc | apply Kd.R_drewN | apply Kd.R_drew)); exact Kd.R_mono (Kd.R_far (p := ⟨zB, 2, none⟩) (Kd.R_far (p := ⟨zB, 1, none⟩) (Kd.R_far (p := ⟨zB, 0, none⟩) (Kd.R_far (p := ⟨zA, 2, none⟩) (Kd.R_far (p := ⟨zA, 1, none⟩) (Kd.R_far (p := ⟨zA, 0, none⟩) (Kd.R_mono (Kd.R_mono zP.out (fun k_ hk => (⟨hk, hk.2.1⟩ : _ ∧ k_ ≠ zA))) (fun k_ hk => (⟨hk, hk.1.2.2⟩ : _ ∧ k_ ≠ zB))) (fun _ hk => hk.1.2) (.int .i64 t147)) (fun _ hk => hk.1.2) (.int .i64 t148)) (fun _ hk => hk.1.2) (.slice ze t149.length zf)) (fun _ hk => hk.2) (.int .i64 t152)) (fun _ hk => hk.2) (.int .i64 t153)) (fun _ hk => hk.2) (.slice zc t154.length zd)) (fun _ hk => ⟨hk.1.1.1, ⟨hk.1.1.2.1, hk.1.1.2.2⟩⟩)⟩
     have n2_ : Aside0 (((((((w31.setCell ⟨zA, 0, none⟩ (.int .i64 t147)).setCell ⟨zA, 1, none⟩ (.int .i64 t148)).setCell ⟨zA, 2, none⟩ (.slice ze t149.length zf)).setCell ⟨zB, 0, none⟩ (.int .i64 t152)).setCell ⟨zB, 1, none⟩ (.int .i64 t153)).setCell ⟨zB, 2, none⟩ (.slice zc t154.length zd)).heap[zE]? = some (.cells #[.int .i64 zM, .int .i64 zN, .slice zW zL.length zX] 24 (0, 0))) := ⟨by (with_reducible repeat (first | refine blk_drewN ?_ _ | refine blk_drew ?_ | refine blk_alloc ?_ _)); refine blk_far ?_ zU.out _; (with_reducible repeat (first | refine blk_drewN ?_ _ | refine blk_drew ?_ | refine blk_alloc ?_ _)); refine blk_far ?_ zU.out _; (with_reducible repeat (first | refine blk_drewN ?_ _ | refine blk_drew ?_ | refine blk_alloc ?_ _)); refine blk_far ?_ zU.out _; (with_reducible repeat (first | refine blk_drewN ?_ _ | refine blk_drew ?_ | refine blk_alloc ?_ _)); refine blk_far ?_ zS.out _; (with_reducible repeat (first | refine blk_drewN ?_ _ | refine blk_drew ?_ | refine blk_alloc ?_ _)); refine blk_far ?_ zS.out _; (with_reducible repeat (first | refine blk_drewN ?_ _ | refine blk_drew ?_ | refine blk_alloc ?_ _)); refine blk_far ?_ zS.out _; (with_reducible repeat (first | refine blk_drewN ?_ _ | refine blk_drew ?_ | refine blk_alloc ?_ _)); exact zC.out⟩
     have n3_ : Aside0 (((((((w31.setCell ⟨zA, 0, none⟩ (.int .i64 t147)).setCell ⟨zA, 1, none⟩ (.int .i64 t148)).setCell ⟨zA, 2, none⟩ (.slice ze t149.length zf)).setCell ⟨zB, 0, none⟩ (.int .i64 t152)).setCell ⟨zB, 1, none⟩ (.int .i64 t153)).setCell ⟨zB, 2, none⟩ (.slice zc t154.length zd)).heap[zF]? = some (.cells #[.int .i64 zQ, .int .i64 zR, .slice zY zO.length zZ] 24 (0, 0))) := ⟨by (with_reducible repeat (first | refine blk_drewN ?_ _ | refine blk_drew ?_ | refine blk_alloc ?_ _)); refine blk_far ?_ zV.out _; (with_reducible repeat (first | refine blk_drewN ?_ _ | refine blk_drew ?_ | refine blk_alloc ?_ _)); refine blk_far ?_ zV.out _; (with_reducible repeat (first | refine blk_drewN ?_ _ | refine blk_drew ?_ | refine blk_alloc ?_ _)); refine blk_far ?_ zV.out _; (with_reducible repeat (first | refine blk_drewN ?_ _ | refine blk_drew ?_ | refine blk_alloc ?_ _)); refine blk_far ?_ zT.out _; (with_reducible repeat (first | refine blk_drewN ?_ _ | refine blk_drew ?_ | refine blk_alloc ?_ _)); refine blk_far ?_ zT.out _; (with_reducible repeat (first | refine blk_drewN ?_ _ | refine blk_drew ?_ | refine blk_alloc ?_ _)); refine blk_far ?_ zT.out _; (with_reducible repeat (first | refine blk_drewN ?_ _ | refine blk_drew ?_ | refine blk_alloc ?_ _)); exact zD.out⟩
     have n4_ : Aside0 (((((((w31.setCell ⟨zA, 0, none⟩ (.int .i64 t147)).setCell ⟨zA, 1, none⟩ (.int .i64 t148)).setCell ⟨zA, 2, none⟩ (.slice ze t149.length zf)).setCell ⟨zB, 0, none⟩ (.int .i64 t152)).setCell ⟨zB, 1, none⟩ (.int .i64 t153)).setCell ⟨zB, 2, none⟩ (.slice zc t154.length zd)).heap[zA]? = some (.cells #[.int .i64 t147, .int .i64 t148, .slice ze t149.length zf] 29 (0, 0))) := ⟨by (with_reducible repeat (first | refine blk_drewN ?_ _ | refine blk_drew ?_ | refine blk_alloc ?_ _)); refine blk_far ?_ zl.out _; (with_reducible repeat (first | refine blk_drewN ?_ _ | refine blk_drew ?_ | refine blk_alloc ?_ _)); refine blk_far ?_ zl.out _; (with_reducible repeat (first | refine blk_drewN ?_ _ | refine blk_drew ?_ | refine blk_alloc ?_ _)); refine blk_far ?_ zl.out _; (with_reducible repeat (first | refine blk_drewN ?_ _ | refine blk_drew ?_ | refine blk_alloc ?_ _)); refine blk_put (cs := #[.int .i64 t147, .int .i64 t148, .slice none 0 0]) ?_ 2 _ rfl; (with_reducible repeat (first | refine blk_drewN ?_ _ | refine blk_drew ?_ | refine blk_alloc ?_ _)); refine blk_put (cs := #[.int .i64 t147, .int .i64 0, .slice none 0 0]) ?_ 1 _ rfl; (with_reducible repeat (first | refine blk_drewN ?_ _ | refine blk_drew ?_ | refine blk_alloc ?_ _)); refine blk_put (cs := #[.int .i64 0, .int .i64 0, .slice none 0 0]) ?_ 0 _ rfl; (with_reducible repeat (first | refine blk_drewN ?_ _ | refine blk_drew ?_ | refine blk_alloc ?_ _)); exact zG.out⟩
     have n5_ : Aside0 (((((((w31.setCell ⟨zA, 0, none⟩ (.int .i64 t147)).setCell ⟨zA, 1, none⟩ (.int .i64 t148)).setCell ⟨zA, 2, none⟩ (.slice ze t149.length zf)).setCell ⟨zB, 0, none⟩ (.int .i64 t152)).setCell ⟨zB, 1, none⟩ (.int .i64 t153)).setCell ⟨zB, 2, none⟩ (.slice zc t154.length zd)).heap[zB]? = some (.cells #[.int .i64 t152, .int .i64 t153, .slice zc t154.length zd] 29 (0, 0))) := ⟨by (with_reducible repeat (first | refine blk_drewN ?_ _ | refine blk_drew ?_ | refine blk_alloc ?_ _)); refine blk_put (cs := #[.int .i64 t152, .int .i64 t153, .slice none 0 0]) ?_ 2 _ rfl; (with_reducible repeat (first | refine blk_drewN ?_ _ | refine blk_drew ?_ | refine blk_alloc ?_ _)); refine blk_put (cs := #[.int .i64 t152, .int .i64 0, .slice none 0 0]) ?_ 1 _ rfl; (with_reducible repeat (first | refine blk_drewN ?_ _ | refine blk_drew ?_ | refine blk_alloc ?_ _)); refine blk_put (cs := #[.int .i64 0, .int .i64 0, .slice none 0 0]) ?_ 0 _ rfl; (with_reducible repeat (first | refine blk_drewN ?_ _ | refine blk_drew ?_ | refine blk_alloc ?_ _)); refine blk_far ?_ zk.out _; (with_reducible repeat (first | refine blk_drewN ?_ _ | refine blk_drew ?_ | refine blk_alloc ?_ _)); refine blk_far ?_ zk.out _; (with_reducible repeat (first | refine blk_drewN ?_ _ | refine blk_drew ?_ | refine blk_alloc ?_ _)); refine blk_far ?_ zk.out _; (with_reducible repeat (first | refine blk_drewN ?_ _ | refine blk_drew ?_ | refine blk_alloc ?_ _)); exact zH.out⟩
     have n6_ : Aside0 (Below w.heap.size w ((((((w31.setCell ⟨zA, 0, none⟩ (.int .i64 t147)).setCell ⟨zA, 1, none⟩ (.int .i64 t148)).setCell ⟨zA, 2, none⟩ (.slice ze t149.length zf)).setCell ⟨zB, 0, none⟩ (.int .i64 t152)).setCell ⟨zB, 1, none⟩ (.int .i64 t153)).setCell ⟨zB, 2, none⟩ (.slice zc t154.length zd))) := ⟨by repeat (first | (with_reducible first | exact HB.out | apply below_alloc | apply pw_below_drewN | apply below_drew1 | refine below_set ?_ zJ.out | refine below_set ?_ zK.out | refine below_set ?_ za.out | refine below_set ?_ zb.out) | exact HB.out)⟩
     (try clear zI)
     (try clear zP)
     (try clear zC)
     (try clear zD)
     (try clear zG)
     (try clear zH)
     (try clear HB)
     generalize ((((((w31.setCell ⟨zA, 0, none⟩ (.int .i64 t147)).setCell ⟨zA, 1, none⟩ (.int .i64 t148)).setCell ⟨zA, 2, none⟩ (.slice ze t149.length zf)).setCell ⟨zB, 0, none⟩ (.int .i64 t152)).setCell ⟨zB, 1, none⟩ (.int .i64 t153)).setCell ⟨zB, 2, none⟩ (.slice zc t154.length zd)) = w40 at n0_ n1_ n2_ n3_ n4_ n5_ n6_ ⊢
     have zI := n0_
     have zP := n1_
     have zC := n2_
     have zD := n3_
     have zG := n4_
     have zH := n5_
     have HB := n6_
     clear n0_ n1_ n2_ n3_ n4_ n5_ n6_
     have n0_ := Aside0.mk (Kd.R_drew zI.out)
     have n1_ := Aside0.mk (Kd.R_drew zP.out)
     have n2_ := Aside0.mk (blk_drew zC.out)
     have n3_ := Aside0.mk (blk_drew zD.out)
     have n4_ := Aside0.mk (blk_drew zG.out)
     have n5_ := Aside0.mk (blk_drew zH.out)
     have n6_ := Aside0.mk (below_drew1 HB.out)
     clear zI
     clear zP
     clear zC
     clear zD
     clear zG
     clear zH
     clear HB
     have zI := n0_
     have zP := n1_
     have zC := n2_
     have zD := n3_
     have zG := n4_
     have zH := n5_
     have HB := n6_
     clear n0_ n1_ n2_ n3_ n4_ n5_ n6_
     refine start_ (n := 12) (S := fun w' => w'.cell? ⟨zA, 0, none⟩ = some (.int .i64 t147) ∧ w'.cell? ⟨zA, 1, none⟩ = some (.int .i64 t148) ∧ w'.cell? ⟨zA, 2, none⟩ = some (.slice ze t149.length zf) ∧ w'.cell? ⟨zB, 0, none⟩ = some (.int .i64 t152) ∧ w'.cell? ⟨zB, 1, none⟩ = some (.int .i64 t153) ∧ w'.cell? ⟨zB, 2, none⟩ = some (.slice zc t154.length zd)) (ds := []) #[false, false, false, false, false, false, false, false, false, false, false, false] (by kernel_rfl) rfl rfl ⟨(blk_cell zG.out 0).trans rfl, (blk_cell zG.out 1).trans rfl, (blk_cell zG.out 2).trans rfl, (blk_cell zH.out 0).trans rfl, (blk_cell zH.out 1).trans rfl, (blk_cell zH.out 2).trans rfl⟩ (fun hHeld => ?_); refine with_tabW thyrsuslaw1_CodeUnlike.tab6 thyrsuslaw1_CodeUnlike.bits6 (fun HT_ HW_ => ?_)
     generalize w40.drew = w41 at zI zP zC zD zG zH HB hHeld ⊢
     refine take_ (i := 0) (N := some 21) (v := ?_) (a' := ?_) #[true, false, false, false, false, false, false, false, false, false, false, false] rfl rfl (take_ofW HT_.out HW_.out (by kernel_rfl)) (fun _ _ _ h => h) (Or.inl ⟨by rfl, ?_⟩) hHeld ?_ ?_
     rotate_left
     ·rintro w' ⟨s0, s1, s2, s3, s4, s5⟩
      go_simp
      with_reducible rfl
     rotate_left
     ·simp only [Act.put, List.setIfInBounds_toArray, List.set_cons_zero, List.set_cons_succ, i64_w, i32_w, u8_w, u32_w]
      rfl
     refine take_ (i := 3) (N := some 24) (v := ?_) (a' := ?_) #[true, false, false, true, false, false, false, false, false, false, false, false] rfl rfl (take_ofW HT_.out HW_.out (by kernel_rfl)) (fun _ _ _ h => h) (Or.inl ⟨by rfl, ?_⟩) hHeld ?_ ?_
     rotate_left
     ·rintro w' ⟨s0, s1, s2, s3, s4, s5⟩
      go_simp
      with_reducible rfl
     rotate_left
     ·simp only [Act.put, List.setIfInBounds_toArray, List.set_cons_zero, List.set_cons_succ, i64_w, i32_w, u8_w, u32_w]
      rfl
     refine take_ (i := 7) (N := some 28) (v := ?_) (a' := ?_) #[true, false, false, true, false, false, false, true, false, false, false, false] rfl rfl (take_ofW HT_.out HW_.out (by kernel_rfl)) (fun _ _ _ h => h) (Or.inl ⟨by rfl, ?_⟩) hHeld ?_ ?_
     rotate_left
     ·rintro w' ⟨s0, s1, s2, s3, s4, s5⟩
      go_simp
      with_reducible rfl
     rotate_left
     ·simp only [Act.put, List.setIfInBounds_toArray, List.set_cons_zero, List.set_cons_succ, i64_w, i32_w, u8_w, u32_w]
      rfl
     refine take_ (i := 8) (N := some 29) (v := ?_) (a' := ?_) #[true, false, false, true, false, false, false, true, true, false, false, false] rfl rfl (take_ofW HT_.out HW_.out (by kernel_rfl)) (fun _ _ _ h => h) (Or.inl ⟨by rfl, ?_⟩) hHeld ?_ ?_
     rotate_left
     ·rintro w' ⟨s0, s1, s2, s3, s4, s5⟩
      go_simp
      with_reducible rfl
     rotate_left
     ·simp only [Act.put, List.setIfInBounds_toArray, List.set_cons_zero, List.set_cons_succ, i64_w, i32_w, u8_w, u32_w]
      rfl
     refine one_ (i := 1) (N := some 22) #[true, true, false, true, false, false, false, true, true, false, false, false] rfl rfl (one_of HT_.out (by kernel_rfl)) (by decide) (fun K hK => ?_)
     refine goes_ Try.func12 (by kernel_rfl) rfl #[.agg #[.int .i64 t147, .int .i64 t148, .slice ze t149.length zf]] (by rfl) rfl rfl (by (try simp only [List.map_toArray, List.map_cons, List.map_nil]); first | done | rfl | (simp only [List.length_drop, List.length_take]; rfl)) ?_
     with_reducible refine (code_Bytes.calls t147 t148 _ _ t149 t159 _ ?side1 ?side2 A23.out).mono ?_
     (case side1 => repeat (first | exact (Kd.R_reads' zI.out).2.2 | (with_reducible refine Kd.C_alloc ?_ _) | (with_reducible refine Kd.C_drewN ?_ _) | (with_reducible refine Kd.C_drew ?_)))
     (case side2 => exact (Kd.R_reads' zI.out).2.1)
     rintro e w42 ⟨v160, rfl, ho0, hb⟩
     refine ⟨_, rfl, ?_⟩
     have n0_ := Aside0.mk (Kd.R_below (by (with_reducible repeat (first | apply Kd.R_alloc | apply Kd.R_drewN | apply Kd.R_drew)); exact zI.out) hb)
     have n1_ := Aside0.mk (Kd.R_below (by (with_reducible repeat (first | apply Kd.R_alloc | apply Kd.R_drewN | apply Kd.R_drew)); exact zP.out) hb)
     have n2_ := Aside0.mk (Kd.R_lower ho0 (below_size (by repeat (first | (with_reducible first | exact HB.out | apply below_alloc | apply pw_below_drewN | apply below_drew1 | refine below_set ?_ zJ.out | refine below_set ?_ zK.out | refine below_set ?_ za.out | refine below_set ?_ zb.out) | exact HB.out))))
     have n3_ := Aside0.mk (blk_below (g := zE) (o := .cells #[.int .i64 zM, .int .i64 zN, .slice zW zL.length zX] 24 (0, 0)) (by (with_reducible repeat (first | refine blk_drewN ?_ _ | refine blk_drew ?_ | refine blk_alloc ?_ _)); exact zC.out) hb)
     have n4_ := Aside0.mk (blk_below (g := zF) (o := .cells #[.int .i64 zQ, .int .i64 zR, .slice zY zO.length zZ] 24 (0, 0)) (by (with_reducible repeat (first | refine blk_drewN ?_ _ | refine blk_drew ?_ | refine blk_alloc ?_ _)); exact zD.out) hb)
     have n5_ := Aside0.mk (blk_below (g := zA) (o := .cells #[.int .i64 t147, .int .i64 t148, .slice ze t149.length zf] 29 (0, 0)) (by (with_reducible repeat (first | refine blk_drewN ?_ _ | refine blk_drew ?_ | refine blk_alloc ?_ _)); exact zG.out) hb)
     have n6_ := Aside0.mk (blk_below (g := zB) (o := .cells #[.int .i64 t152, .int .i64 t153, .slice zc t154.length zd] 29 (0, 0)) (by (with_reducible repeat (first | refine blk_drewN ?_ _ | refine blk_drew ?_ | refine blk_alloc ?_ _)); exact zH.out) hb)
     have n7_ := Aside0.mk (below_step (by repeat (first | (with_reducible first | exact HB.out | apply below_alloc | apply pw_below_drewN | apply below_drew1 | refine below_set ?_ zJ.out | refine below_set ?_ zK.out | refine below_set ?_ za.out | refine below_set ?_ zb.out) | exact HB.out)) hb)
     clear zI
     clear zP
     clear zC
     clear zD
     clear zG
     clear zH
     clear HB
     have zI := n0_
     have zP := n1_
     have zm := n2_
     have zC := n3_
     have zD := n4_
     have zG := n5_
     have zH := n6_
     have HB := n7_
     clear n0_ n1_ n2_ n3_ n4_ n5_ n6_ n7_
     (try clear hb)
     (try clear hb2)
     (try clear hk)
     (try clear hi)
     (try clear ho0)
     refine hK.out _ _ ⟨(blk_cell zG.out 0).trans rfl, (blk_cell zG.out 1).trans rfl, (blk_cell zG.out 2).trans rfl, (blk_cell zH.out 0).trans rfl, (blk_cell zH.out 1).trans rfl, (blk_cell zH.out 2).trans rfl⟩ (fun hHeld => ?_)
     clear hK K
     refine norm_ (a' := ?_) ?_ ?_
     rotate_left
     ·show Act.put _ (some 22) _ = _
      simp only [Act.put, List.setIfInBounds_toArray, List.set_cons_zero, List.set_cons_succ, i64_w, i32_w, u8_w, u32_w]
      rfl
     refine join_ (σ := Value) 2 #[true, true, true, true, true, true, true, true, true, true, false, false] (fun s_ => [(23, .string (strOfNums t159)), (25, s_), (26, .string (strOfNums t162)), (30, .bool t165), (27, .bool ((strOfNums t159).toList == (strOfNums t162).toList))]) (fun s_ w' => (w'.cell? ⟨zA, 0, none⟩ = some (.int .i64 t147) ∧ w'.cell? ⟨zA, 1, none⟩ = some (.int .i64 t148) ∧ w'.cell? ⟨zA, 2, none⟩ = some (.slice ze t149.length zf) ∧ w'.cell? ⟨zB, 0, none⟩ = some (.int .i64 t152) ∧ w'.cell? ⟨zB, 1, none⟩ = some (.int .i64 t153) ∧ w'.cell? ⟨zB, 2, none⟩ = some (.slice zc t154.length zd)) ∧ (Kd.R k29 29 w' w.heap.size (fun k_ => some k_ ≠ (.slice zc t154.length zd : Value).ownBlock ∧ k_ ≠ zA ∧ k_ ≠ zB) (.slice ze t149.length zf) t149) ∧ (Kd.R k29 29 w' w.heap.size (fun k_ => some k_ ≠ (.slice ze t149.length zf : Value).ownBlock ∧ k_ ≠ zA ∧ k_ ≠ zB) (.slice zc t154.length zd) t154) ∧ (Kd.R (Kd.int .u8) 5 w' w.heap.size (fun k_ => some k_ ≠ (s_ : Value).ownBlock) v160 t159) ∧ (Kd.R (Kd.int .u8) 5 w' w.heap.size (fun k_ => some k_ ≠ (v160 : Value).ownBlock) s_ t162) ∧ (w'.heap[zE]? = some (.cells #[.int .i64 zM, .int .i64 zN, .slice zW zL.length zX] 24 (0, 0))) ∧ (w'.heap[zF]? = some (.cells #[.int .i64 zQ, .int .i64 zR, .slice zY zO.length zZ] 24 (0, 0))) ∧ (w'.heap[zA]? = some (.cells #[.int .i64 t147, .int .i64 t148, .slice ze t149.length zf] 29 (0, 0))) ∧ (w'.heap[zB]? = some (.cells #[.int .i64 t152, .int .i64 t153, .slice zc t154.length zd] 29 (0, 0))) ∧ (Below w.heap.size w w')) ?_ ?_
     rotate_left
     ·intro hJ2_4_5_9
      refine join_ (σ := Value) 3 #[true, true, true, true, true, true, true, true, true, false, false, false] (fun s_ => [(23, .string (strOfNums t159)), (25, s_), (26, .string (strOfNums t162)), (27, .bool ((strOfNums t159).toList == (strOfNums t162).toList))]) (fun s_ w' => (w'.cell? ⟨zA, 0, none⟩ = some (.int .i64 t147) ∧ w'.cell? ⟨zA, 1, none⟩ = some (.int .i64 t148) ∧ w'.cell? ⟨zA, 2, none⟩ = some (.slice ze t149.length zf) ∧ w'.cell? ⟨zB, 0, none⟩ = some (.int .i64 t152) ∧ w'.cell? ⟨zB, 1, none⟩ = some (.int .i64 t153) ∧ w'.cell? ⟨zB, 2, none⟩ = some (.slice zc t154.length zd)) ∧ (Kd.R k29 29 w' w.heap.size (fun k_ => some k_ ≠ (.slice zc t154.length zd : Value).ownBlock ∧ k_ ≠ zA ∧ k_ ≠ zB) (.slice ze t149.length zf) t149) ∧ (Kd.R k29 29 w' w.heap.size (fun k_ => some k_ ≠ (.slice ze t149.length zf : Value).ownBlock ∧ k_ ≠ zA ∧ k_ ≠ zB) (.slice zc t154.length zd) t154) ∧ (Kd.R (Kd.int .u8) 5 w' w.heap.size (fun k_ => some k_ ≠ (s_ : Value).ownBlock) v160 t159) ∧ (Kd.R (Kd.int .u8) 5 w' w.heap.size (fun k_ => some k_ ≠ (v160 : Value).ownBlock) s_ t162) ∧ (w'.heap[zE]? = some (.cells #[.int .i64 zM, .int .i64 zN, .slice zW zL.length zX] 24 (0, 0))) ∧ (w'.heap[zF]? = some (.cells #[.int .i64 zQ, .int .i64 zR, .slice zY zO.length zZ] 24 (0, 0))) ∧ (w'.heap[zA]? = some (.cells #[.int .i64 t147, .int .i64 t148, .slice ze t149.length zf] 29 (0, 0))) ∧ (w'.heap[zB]? = some (.cells #[.int .i64 t152, .int .i64 t153, .slice zc t154.length zd] 29 (0, 0))) ∧ (Below w.heap.size w w')) ?_ ?_
      rotate_left
      ·intro hJ2_4_5
       refine join_ (σ := Value) 4 #[true, true, true, true, true, false, false, true, true, true, false, false] (fun s_ => [(23, .string (strOfNums t159)), (25, s_), (30, .bool t165)]) (fun s_ w' => (w'.cell? ⟨zA, 0, none⟩ = some (.int .i64 t147) ∧ w'.cell? ⟨zA, 1, none⟩ = some (.int .i64 t148) ∧ w'.cell? ⟨zA, 2, none⟩ = some (.slice ze t149.length zf) ∧ w'.cell? ⟨zB, 0, none⟩ = some (.int .i64 t152) ∧ w'.cell? ⟨zB, 1, none⟩ = some (.int .i64 t153) ∧ w'.cell? ⟨zB, 2, none⟩ = some (.slice zc t154.length zd)) ∧ (Kd.R k29 29 w' w.heap.size (fun k_ => some k_ ≠ (.slice zc t154.length zd : Value).ownBlock ∧ k_ ≠ zA ∧ k_ ≠ zB) (.slice ze t149.length zf) t149) ∧ (Kd.R k29 29 w' w.heap.size (fun k_ => some k_ ≠ (.slice ze t149.length zf : Value).ownBlock ∧ k_ ≠ zA ∧ k_ ≠ zB) (.slice zc t154.length zd) t154) ∧ (Kd.R (Kd.int .u8) 5 w' w.heap.size (fun k_ => some k_ ≠ (s_ : Value).ownBlock) v160 t159) ∧ (Kd.R (Kd.int .u8) 5 w' w.heap.size (fun k_ => some k_ ≠ (v160 : Value).ownBlock) s_ t162) ∧ (w'.heap[zE]? = some (.cells #[.int .i64 zM, .int .i64 zN, .slice zW zL.length zX] 24 (0, 0))) ∧ (w'.heap[zF]? = some (.cells #[.int .i64 zQ, .int .i64 zR, .slice zY zO.length zZ] 24 (0, 0))) ∧ (w'.heap[zA]? = some (.cells #[.int .i64 t147, .int .i64 t148, .slice ze t149.length zf] 29 (0, 0))) ∧ (w'.heap[zB]? = some (.cells #[.int .i64 t152, .int .i64 t153, .slice zc t154.length zd] 29 (0, 0))) ∧ (Below w.heap.size w w')) ?_ ?_
       rotate_left
       ·intro hJ2_4_9
        refine join_ (σ := Value) 4 #[true, true, false, true, true, true, false, true, true, true, false, false] (fun s_ => [(25, s_), (26, .string (strOfNums t162)), (30, .bool t165)]) (fun s_ w' => (w'.cell? ⟨zA, 0, none⟩ = some (.int .i64 t147) ∧ w'.cell? ⟨zA, 1, none⟩ = some (.int .i64 t148) ∧ w'.cell? ⟨zA, 2, none⟩ = some (.slice ze t149.length zf) ∧ w'.cell? ⟨zB, 0, none⟩ = some (.int .i64 t152) ∧ w'.cell? ⟨zB, 1, none⟩ = some (.int .i64 t153) ∧ w'.cell? ⟨zB, 2, none⟩ = some (.slice zc t154.length zd)) ∧ (Kd.R k29 29 w' w.heap.size (fun k_ => some k_ ≠ (.slice zc t154.length zd : Value).ownBlock ∧ k_ ≠ zA ∧ k_ ≠ zB) (.slice ze t149.length zf) t149) ∧ (Kd.R k29 29 w' w.heap.size (fun k_ => some k_ ≠ (.slice ze t149.length zf : Value).ownBlock ∧ k_ ≠ zA ∧ k_ ≠ zB) (.slice zc t154.length zd) t154) ∧ (Kd.R (Kd.int .u8) 5 w' w.heap.size (fun k_ => some k_ ≠ (s_ : Value).ownBlock) v160 t159) ∧ (Kd.R (Kd.int .u8) 5 w' w.heap.size (fun k_ => some k_ ≠ (v160 : Value).ownBlock) s_ t162) ∧ (w'.heap[zE]? = some (.cells #[.int .i64 zM, .int .i64 zN, .slice zW zL.length zX] 24 (0, 0))) ∧ (w'.heap[zF]? = some (.cells #[.int .i64 zQ, .int .i64 zR, .slice zY zO.length zZ] 24 (0, 0))) ∧ (w'.heap[zA]? = some (.cells #[.int .i64 t147, .int .i64 t148, .slice ze t149.length zf] 29 (0, 0))) ∧ (w'.heap[zB]? = some (.cells #[.int .i64 t152, .int .i64 t153, .slice zc t154.length zd] 29 (0, 0))) ∧ (Below w.heap.size w w')) ?_ ?_
        rotate_left
        ·intro hJ4_5_9
         refine join_ (σ := Value) 5 #[true, true, true, true, true, false, false, true, true, false, false, false] (fun s_ => [(23, .string (strOfNums t159)), (25, s_)]) (fun s_ w' => (w'.cell? ⟨zA, 0, none⟩ = some (.int .i64 t147) ∧ w'.cell? ⟨zA, 1, none⟩ = some (.int .i64 t148) ∧ w'.cell? ⟨zA, 2, none⟩ = some (.slice ze t149.length zf) ∧ w'.cell? ⟨zB, 0, none⟩ = some (.int .i64 t152) ∧ w'.cell? ⟨zB, 1, none⟩ = some (.int .i64 t153) ∧ w'.cell? ⟨zB, 2, none⟩ = some (.slice zc t154.length zd)) ∧ (Kd.R k29 29 w' w.heap.size (fun k_ => some k_ ≠ (.slice zc t154.length zd : Value).ownBlock ∧ k_ ≠ zA ∧ k_ ≠ zB) (.slice ze t149.length zf) t149) ∧ (Kd.R k29 29 w' w.heap.size (fun k_ => some k_ ≠ (.slice ze t149.length zf : Value).ownBlock ∧ k_ ≠ zA ∧ k_ ≠ zB) (.slice zc t154.length zd) t154) ∧ (Kd.R (Kd.int .u8) 5 w' w.heap.size (fun k_ => some k_ ≠ (s_ : Value).ownBlock) v160 t159) ∧ (Kd.R (Kd.int .u8) 5 w' w.heap.size (fun k_ => some k_ ≠ (v160 : Value).ownBlock) s_ t162) ∧ (w'.heap[zE]? = some (.cells #[.int .i64 zM, .int .i64 zN, .slice zW zL.length zX] 24 (0, 0))) ∧ (w'.heap[zF]? = some (.cells #[.int .i64 zQ, .int .i64 zR, .slice zY zO.length zZ] 24 (0, 0))) ∧ (w'.heap[zA]? = some (.cells #[.int .i64 t147, .int .i64 t148, .slice ze t149.length zf] 29 (0, 0))) ∧ (w'.heap[zB]? = some (.cells #[.int .i64 t152, .int .i64 t153, .slice zc t154.length zd] 29 (0, 0))) ∧ (Below w.heap.size w w')) ?_ ?_
         rotate_left
         ·intro hJ2_4
          refine join_ (σ := Value) 5 #[true, true, false, true, true, true, false, true, true, false, false, false] (fun s_ => [(25, s_), (26, .string (strOfNums t162))]) (fun s_ w' => (w'.cell? ⟨zA, 0, none⟩ = some (.int .i64 t147) ∧ w'.cell? ⟨zA, 1, none⟩ = some (.int .i64 t148) ∧ w'.cell? ⟨zA, 2, none⟩ = some (.slice ze t149.length zf) ∧ w'.cell? ⟨zB, 0, none⟩ = some (.int .i64 t152) ∧ w'.cell? ⟨zB, 1, none⟩ = some (.int .i64 t153) ∧ w'.cell? ⟨zB, 2, none⟩ = some (.slice zc t154.length zd)) ∧ (Kd.R k29 29 w' w.heap.size (fun k_ => some k_ ≠ (.slice zc t154.length zd : Value).ownBlock ∧ k_ ≠ zA ∧ k_ ≠ zB) (.slice ze t149.length zf) t149) ∧ (Kd.R k29 29 w' w.heap.size (fun k_ => some k_ ≠ (.slice ze t149.length zf : Value).ownBlock ∧ k_ ≠ zA ∧ k_ ≠ zB) (.slice zc t154.length zd) t154) ∧ (Kd.R (Kd.int .u8) 5 w' w.heap.size (fun k_ => some k_ ≠ (s_ : Value).ownBlock) v160 t159) ∧ (Kd.R (Kd.int .u8) 5 w' w.heap.size (fun k_ => some k_ ≠ (v160 : Value).ownBlock) s_ t162) ∧ (w'.heap[zE]? = some (.cells #[.int .i64 zM, .int .i64 zN, .slice zW zL.length zX] 24 (0, 0))) ∧ (w'.heap[zF]? = some (.cells #[.int .i64 zQ, .int .i64 zR, .slice zY zO.length zZ] 24 (0, 0))) ∧ (w'.heap[zA]? = some (.cells #[.int .i64 t147, .int .i64 t148, .slice ze t149.length zf] 29 (0, 0))) ∧ (w'.heap[zB]? = some (.cells #[.int .i64 t152, .int .i64 t153, .slice zc t154.length zd] 29 (0, 0))) ∧ (Below w.heap.size w w')) ?_ ?_
          rotate_left
          ·intro hJ4_5
           refine join_ (σ := Value) 5 #[true, true, false, true, true, false, false, true, true, true, false, false] (fun s_ => [(25, s_), (30, .bool t165)]) (fun s_ w' => (w'.cell? ⟨zA, 0, none⟩ = some (.int .i64 t147) ∧ w'.cell? ⟨zA, 1, none⟩ = some (.int .i64 t148) ∧ w'.cell? ⟨zA, 2, none⟩ = some (.slice ze t149.length zf) ∧ w'.cell? ⟨zB, 0, none⟩ = some (.int .i64 t152) ∧ w'.cell? ⟨zB, 1, none⟩ = some (.int .i64 t153) ∧ w'.cell? ⟨zB, 2, none⟩ = some (.slice zc t154.length zd)) ∧ (Kd.R k29 29 w' w.heap.size (fun k_ => some k_ ≠ (.slice zc t154.length zd : Value).ownBlock ∧ k_ ≠ zA ∧ k_ ≠ zB) (.slice ze t149.length zf) t149) ∧ (Kd.R k29 29 w' w.heap.size (fun k_ => some k_ ≠ (.slice ze t149.length zf : Value).ownBlock ∧ k_ ≠ zA ∧ k_ ≠ zB) (.slice zc t154.length zd) t154) ∧ (Kd.R (Kd.int .u8) 5 w' w.heap.size (fun k_ => some k_ ≠ (s_ : Value).ownBlock) v160 t159) ∧ (Kd.R (Kd.int .u8) 5 w' w.heap.size (fun k_ => some k_ ≠ (v160 : Value).ownBlock) s_ t162) ∧ (w'.heap[zE]? = some (.cells #[.int .i64 zM, .int .i64 zN, .slice zW zL.length zX] 24 (0, 0))) ∧ (w'.heap[zF]? = some (.cells #[.int .i64 zQ, .int .i64 zR, .slice zY zO.length zZ] 24 (0, 0))) ∧ (w'.heap[zA]? = some (.cells #[.int .i64 t147, .int .i64 t148, .slice ze t149.length zf] 29 (0, 0))) ∧ (w'.heap[zB]? = some (.cells #[.int .i64 t152, .int .i64 t153, .slice zc t154.length zd] 29 (0, 0))) ∧ (Below w.heap.size w w')) ?_ ?_
           rotate_left
           ·intro hJ4_9
            refine join_ (σ := Unit) 6 #[true, true, true, true, false, false, false, true, true, false, false, false] (fun s_ => [(23, .string (strOfNums t159))]) (fun s_ w' => (w'.cell? ⟨zA, 0, none⟩ = some (.int .i64 t147) ∧ w'.cell? ⟨zA, 1, none⟩ = some (.int .i64 t148) ∧ w'.cell? ⟨zA, 2, none⟩ = some (.slice ze t149.length zf) ∧ w'.cell? ⟨zB, 0, none⟩ = some (.int .i64 t152) ∧ w'.cell? ⟨zB, 1, none⟩ = some (.int .i64 t153) ∧ w'.cell? ⟨zB, 2, none⟩ = some (.slice zc t154.length zd)) ∧ (Kd.R k29 29 w' w.heap.size (fun k_ => some k_ ≠ (.slice zc t154.length zd : Value).ownBlock ∧ k_ ≠ zA ∧ k_ ≠ zB) (.slice ze t149.length zf) t149) ∧ (Kd.R k29 29 w' w.heap.size (fun k_ => some k_ ≠ (.slice ze t149.length zf : Value).ownBlock ∧ k_ ≠ zA ∧ k_ ≠ zB) (.slice zc t154.length zd) t154) ∧ (Kd.R (Kd.int .u8) 5 w' w.heap.size (fun _ => True) v160 t159) ∧ (w'.heap[zE]? = some (.cells #[.int .i64 zM, .int .i64 zN, .slice zW zL.length zX] 24 (0, 0))) ∧ (w'.heap[zF]? = some (.cells #[.int .i64 zQ, .int .i64 zR, .slice zY zO.length zZ] 24 (0, 0))) ∧ (w'.heap[zA]? = some (.cells #[.int .i64 t147, .int .i64 t148, .slice ze t149.length zf] 29 (0, 0))) ∧ (w'.heap[zB]? = some (.cells #[.int .i64 t152, .int .i64 t153, .slice zc t154.length zd] 29 (0, 0))) ∧ (Below w.heap.size w w')) ?_ ?_
            rotate_left
            ·intro hJ2
             refine join_ (σ := Value) 6 #[true, true, false, true, true, false, false, true, true, false, false, false] (fun s_ => [(25, s_)]) (fun s_ w' => (w'.cell? ⟨zA, 0, none⟩ = some (.int .i64 t147) ∧ w'.cell? ⟨zA, 1, none⟩ = some (.int .i64 t148) ∧ w'.cell? ⟨zA, 2, none⟩ = some (.slice ze t149.length zf) ∧ w'.cell? ⟨zB, 0, none⟩ = some (.int .i64 t152) ∧ w'.cell? ⟨zB, 1, none⟩ = some (.int .i64 t153) ∧ w'.cell? ⟨zB, 2, none⟩ = some (.slice zc t154.length zd)) ∧ (Kd.R k29 29 w' w.heap.size (fun k_ => some k_ ≠ (.slice zc t154.length zd : Value).ownBlock ∧ k_ ≠ zA ∧ k_ ≠ zB) (.slice ze t149.length zf) t149) ∧ (Kd.R k29 29 w' w.heap.size (fun k_ => some k_ ≠ (.slice ze t149.length zf : Value).ownBlock ∧ k_ ≠ zA ∧ k_ ≠ zB) (.slice zc t154.length zd) t154) ∧ (Kd.R (Kd.int .u8) 5 w' w.heap.size (fun k_ => some k_ ≠ (s_ : Value).ownBlock) v160 t159) ∧ (Kd.R (Kd.int .u8) 5 w' w.heap.size (fun k_ => some k_ ≠ (v160 : Value).ownBlock) s_ t162) ∧ (w'.heap[zE]? = some (.cells #[.int .i64 zM, .int .i64 zN, .slice zW zL.length zX] 24 (0, 0))) ∧ (w'.heap[zF]? = some (.cells #[.int .i64 zQ, .int .i64 zR, .slice zY zO.length zZ] 24 (0, 0))) ∧ (w'.heap[zA]? = some (.cells #[.int .i64 t147, .int .i64 t148, .slice ze t149.length zf] 29 (0, 0))) ∧ (w'.heap[zB]? = some (.cells #[.int .i64 t152, .int .i64 t153, .slice zc t154.length zd] 29 (0, 0))) ∧ (Below w.heap.size w w')) ?_ ?_
             rotate_left
             ·intro hJ4
              refine two_ (i := 2) (j := 4) (Ni := some 23) (Nj := some 25) #[true, true, true, true, false, false, false, true, true, false, false, false] #[true, true, false, true, true, false, false, true, true, false, false, false] rfl rfl rfl rfl (two_of HT_.out (by kernel_rfl)) (by decide) (by decide) (fun K hK => ?_) (fun K hK => ?_)
              ·skip
               have hcv43 := own_string (P := Try.prog) Try.underlying31 Try.underlying5 Try.underlying9 (Kd.own_of_R zm.out)
               refine value_ (w1 := ?_) (v := ?_) (by rfl) rfl ?_ ?_
               rotate_left 2
               ·go_simp
                constructor
                ·rfl
                ·rfl
               clear hcv43
               refine hK.out _ _ ⟨(blk_cell zG.out 0).trans rfl, (blk_cell zG.out 1).trans rfl, (blk_cell zG.out 2).trans rfl, (blk_cell zH.out 0).trans rfl, (blk_cell zH.out 1).trans rfl, (blk_cell zH.out 2).trans rfl⟩ (fun hHeld => ?_)
               clear hK K
               refine norm_ (a' := ?_) ?_ ?_
               rotate_left
               ·show Act.put _ (some 23) _ = _
                simp only [Act.put, List.setIfInBounds_toArray, List.set_cons_zero, List.set_cons_succ, i64_w, i32_w, u8_w, u32_w]
                rfl
               exact norm_ (by first | (simp only [putAll, Act.put, List.setIfInBounds_toArray, List.set_cons_zero, List.set_cons_succ]; done) | (simp only [putAll, Act.put, List.setIfInBounds_toArray, List.set_cons_zero, List.set_cons_succ]; rfl)) (hJ2 () _ ⟨hHeld, (by (with_reducible repeat (first | apply Kd.R_alloc | apply Kd.R_drewN | apply Kd.R_drew)); exact zI.out), (by (with_reducible repeat (first | apply Kd.R_alloc | apply Kd.R_drewN | apply Kd.R_drew)); exact zP.out), (by (with_reducible repeat (first | apply Kd.R_alloc | apply Kd.R_drewN | apply Kd.R_drew)); exact zm.out), (by (with_reducible repeat (first | refine blk_drewN ?_ _ | refine blk_drew ?_ | refine blk_alloc ?_ _)); exact zC.out), (by (with_reducible repeat (first | refine blk_drewN ?_ _ | refine blk_drew ?_ | refine blk_alloc ?_ _)); exact zD.out), (by (with_reducible repeat (first | refine blk_drewN ?_ _ | refine blk_drew ?_ | refine blk_alloc ?_ _)); exact zG.out), (by (with_reducible repeat (first | refine blk_drewN ?_ _ | refine blk_drew ?_ | refine blk_alloc ?_ _)); exact zH.out), (by repeat (first | (with_reducible first | exact HB.out | apply below_alloc | apply pw_below_drewN | apply below_drew1 | refine below_set ?_ zJ.out | refine below_set ?_ zK.out | refine below_set ?_ za.out | refine below_set ?_ zb.out) | exact HB.out))⟩)
              ·skip
               refine goes_ Try.func12 (by kernel_rfl) rfl #[.agg #[.int .i64 t152, .int .i64 t153, .slice zc t154.length zd]] (by rfl) rfl rfl (by (try simp only [List.map_toArray, List.map_cons, List.map_nil]); first | done | rfl | (simp only [List.length_drop, List.length_take]; rfl)) ?_
               with_reducible refine (code_Bytes.calls t152 t153 _ _ t154 t162 _ ?side1 ?side2 A24.out).mono ?_
               (case side1 => repeat (first | exact (Kd.R_reads' zP.out).2.2 | (with_reducible refine Kd.C_alloc ?_ _) | (with_reducible refine Kd.C_drewN ?_ _) | (with_reducible refine Kd.C_drew ?_)))
               (case side2 => exact (Kd.R_reads' zP.out).2.1)
               rintro e w43 ⟨v163, rfl, ho0, hb⟩
               refine ⟨_, rfl, ?_⟩
               have n0_ := Aside0.mk (Kd.R_below (by (with_reducible repeat (first | apply Kd.R_alloc | apply Kd.R_drewN | apply Kd.R_drew)); exact zI.out) hb)
               have n1_ := Aside0.mk (Kd.R_below (by (with_reducible repeat (first | apply Kd.R_alloc | apply Kd.R_drewN | apply Kd.R_drew)); exact zP.out) hb)
               have n2_ := Aside0.mk (Kd.R_elder' (by (with_reducible repeat (first | apply Kd.R_alloc | apply Kd.R_drewN | apply Kd.R_drew)); exact zm.out) (Kd.R_base ho0) hb)
               have n3_ := Aside0.mk (Kd.R_lower (Kd.R_new' ho0 (Kd.R_lt (by (with_reducible repeat (first | apply Kd.R_alloc | apply Kd.R_drewN | apply Kd.R_drew)); exact zm.out))) (below_size (by repeat (first | (with_reducible first | exact HB.out | apply below_alloc | apply pw_below_drewN | apply below_drew1 | refine below_set ?_ zJ.out | refine below_set ?_ zK.out | refine below_set ?_ za.out | refine below_set ?_ zb.out) | exact HB.out))))
               have n4_ := Aside0.mk (blk_below (g := zE) (o := .cells #[.int .i64 zM, .int .i64 zN, .slice zW zL.length zX] 24 (0, 0)) (by (with_reducible repeat (first | refine blk_drewN ?_ _ | refine blk_drew ?_ | refine blk_alloc ?_ _)); exact zC.out) hb)
               have n5_ := Aside0.mk (blk_below (g := zF) (o := .cells #[.int .i64 zQ, .int .i64 zR, .slice zY zO.length zZ] 24 (0, 0)) (by (with_reducible repeat (first | refine blk_drewN ?_ _ | refine blk_drew ?_ | refine blk_alloc ?_ _)); exact zD.out) hb)
               have n6_ := Aside0.mk (blk_below (g := zA) (o := .cells #[.int .i64 t147, .int .i64 t148, .slice ze t149.length zf] 29 (0, 0)) (by (with_reducible repeat (first | refine blk_drewN ?_ _ | refine blk_drew ?_ | refine blk_alloc ?_ _)); exact zG.out) hb)
               have n7_ := Aside0.mk (blk_below (g := zB) (o := .cells #[.int .i64 t152, .int .i64 t153, .slice zc t154.length zd] 29 (0, 0)) (by (with_reducible repeat (first | refine blk_drewN ?_ _ | refine blk_drew ?_ | refine blk_alloc ?_ _)); exact zH.out) hb)
               have n8_ := Aside0.mk (below_step (by repeat (first | (with_reducible first | exact HB.out | apply below_alloc | apply pw_below_drewN | apply below_drew1 | refine below_set ?_ zJ.out | refine below_set ?_ zK.out | refine below_set ?_ za.out | refine below_set ?_ zb.out) | exact HB.out)) hb)
               clear zI
               clear zP
               clear zm
               clear zC
               clear zD
               clear zG
               clear zH
               clear HB
               have zI := n0_
               have zP := n1_
               have zm := n2_
               have zn := n3_
               have zC := n4_
               have zD := n5_
               have zG := n6_
               have zH := n7_
               have HB := n8_
               clear n0_ n1_ n2_ n3_ n4_ n5_ n6_ n7_ n8_
               (try clear hb)
               (try clear hb2)
               (try clear hk)
               (try clear hi)
               (try clear ho0)
               refine hK.out _ _ ⟨(blk_cell zG.out 0).trans rfl, (blk_cell zG.out 1).trans rfl, (blk_cell zG.out 2).trans rfl, (blk_cell zH.out 0).trans rfl, (blk_cell zH.out 1).trans rfl, (blk_cell zH.out 2).trans rfl⟩ (fun hHeld => ?_)
               clear hK K
               refine norm_ (a' := ?_) ?_ ?_
               rotate_left
               ·show Act.put _ (some 25) _ = _
                simp only [Act.put, List.setIfInBounds_toArray, List.set_cons_zero, List.set_cons_succ, i64_w, i32_w, u8_w, u32_w]
                rfl
               exact norm_ (by first | (simp only [putAll, Act.put, List.setIfInBounds_toArray, List.set_cons_zero, List.set_cons_succ]; done) | (simp only [putAll, Act.put, List.setIfInBounds_toArray, List.set_cons_zero, List.set_cons_succ]; rfl)) (hJ4 (v163) _ ⟨hHeld, (by (with_reducible repeat (first | apply Kd.R_alloc | apply Kd.R_drewN | apply Kd.R_drew)); exact zI.out), (by (with_reducible repeat (first | apply Kd.R_alloc | apply Kd.R_drewN | apply Kd.R_drew)); exact zP.out), (by (with_reducible repeat (first | apply Kd.R_alloc | apply Kd.R_drewN | apply Kd.R_drew)); exact Kd.R_mono zm.out (fun _ hk => hk.2)), (by (with_reducible repeat (first | apply Kd.R_alloc | apply Kd.R_drewN | apply Kd.R_drew)); exact Kd.R_mono zn.out (fun _ hk => hk.2)), (by (with_reducible repeat (first | refine blk_drewN ?_ _ | refine blk_drew ?_ | refine blk_alloc ?_ _)); exact zC.out), (by (with_reducible repeat (first | refine blk_drewN ?_ _ | refine blk_drew ?_ | refine blk_alloc ?_ _)); exact zD.out), (by (with_reducible repeat (first | refine blk_drewN ?_ _ | refine blk_drew ?_ | refine blk_alloc ?_ _)); exact zG.out), (by (with_reducible repeat (first | refine blk_drewN ?_ _ | refine blk_drew ?_ | refine blk_alloc ?_ _)); exact zH.out), (by repeat (first | (with_reducible first | exact HB.out | apply below_alloc | apply pw_below_drewN | apply below_drew1 | refine below_set ?_ zJ.out | refine below_set ?_ zK.out | refine below_set ?_ za.out | refine below_set ?_ zb.out) | exact HB.out))⟩)
             ·skip
              rintro v163 w44 ⟨hS_, h0_, h1_, h2_, h3_, h4_, h5_, h6_, h7_, h8_⟩
              have n0_ : Aside0 (Kd.R k29 29 w44 w.heap.size (fun k_ => some k_ ≠ (.slice zc t154.length zd : Value).ownBlock ∧ k_ ≠ zA ∧ k_ ≠ zB) (.slice ze t149.length zf) t149) := ⟨h0_⟩
              have n1_ : Aside0 (Kd.R k29 29 w44 w.heap.size (fun k_ => some k_ ≠ (.slice ze t149.length zf : Value).ownBlock ∧ k_ ≠ zA ∧ k_ ≠ zB) (.slice zc t154.length zd) t154) := ⟨h1_⟩
              have n2_ : Aside0 (Kd.R (Kd.int .u8) 5 w44 w.heap.size (fun k_ => some k_ ≠ (v163 : Value).ownBlock) v160 t159) := ⟨h2_⟩
              have n3_ : Aside0 (Kd.R (Kd.int .u8) 5 w44 w.heap.size (fun k_ => some k_ ≠ (v160 : Value).ownBlock) v163 t162) := ⟨h3_⟩
              have n4_ : Aside0 (w44.heap[zE]? = some (.cells #[.int .i64 zM, .int .i64 zN, .slice zW zL.length zX] 24 (0, 0))) := ⟨h4_⟩
              have n5_ : Aside0 (w44.heap[zF]? = some (.cells #[.int .i64 zQ, .int .i64 zR, .slice zY zO.length zZ] 24 (0, 0))) := ⟨h5_⟩
              have n6_ : Aside0 (w44.heap[zA]? = some (.cells #[.int .i64 t147, .int .i64 t148, .slice ze t149.length zf] 29 (0, 0))) := ⟨h6_⟩
              have n7_ : Aside0 (w44.heap[zB]? = some (.cells #[.int .i64 t152, .int .i64 t153, .slice zc t154.length zd] 29 (0, 0))) := ⟨h7_⟩
              have n8_ : Aside0 (Below w.heap.size w w44) := ⟨h8_⟩
              clear zI
              clear zP
              clear zC
              clear zD
              clear zG
              clear zH
              clear HB
              clear h0_ h1_ h2_ h3_ h4_ h5_ h6_ h7_ h8_
              have zI := n0_
              have zP := n1_
              have zm := n2_
              have zn := n3_
              have zC := n4_
              have zD := n5_
              have zG := n6_
              have zH := n7_
              have HB := n8_
              clear n0_ n1_ n2_ n3_ n4_ n5_ n6_ n7_ n8_
              have hHeld : w44.cell? ⟨zA, 0, none⟩ = some (.int .i64 t147) ∧ w44.cell? ⟨zA, 1, none⟩ = some (.int .i64 t148) ∧ w44.cell? ⟨zA, 2, none⟩ = some (.slice ze t149.length zf) ∧ w44.cell? ⟨zB, 0, none⟩ = some (.int .i64 t152) ∧ w44.cell? ⟨zB, 1, none⟩ = some (.int .i64 t153) ∧ w44.cell? ⟨zB, 2, none⟩ = some (.slice zc t154.length zd) := hS_
              refine norm_ (a' := ?_) ?_ ?_
              rotate_left
              ·simp only [putAll, Act.put, List.setIfInBounds_toArray, List.set_cons_zero, List.set_cons_succ]
               rfl
              refine three_ (i := 2) (j := 5) (k := 9) (Ni := some 23) (Nj := some 26) (Nk := some 30) #[true, true, true, true, true, false, false, true, true, false, false, false] #[true, true, false, true, true, true, false, true, true, false, false, false] #[true, true, false, true, true, false, false, true, true, true, false, false] rfl rfl rfl rfl rfl rfl (three_of HT_.out (by kernel_rfl)) (by decide) (by decide) (by decide) (fun K hK => ?_) (fun K hK => ?_) (fun K hK => ?_)
              ·skip
               have hcv45 := own_string (P := Try.prog) Try.underlying31 Try.underlying5 Try.underlying9 (Kd.own_of_R zm.out)
               refine value_ (w1 := ?_) (v := ?_) (by rfl) rfl ?_ ?_
               rotate_left 2
               ·go_simp
                constructor
                ·rfl
                ·rfl
               clear hcv45
               refine hK.out _ _ ⟨(blk_cell zG.out 0).trans rfl, (blk_cell zG.out 1).trans rfl, (blk_cell zG.out 2).trans rfl, (blk_cell zH.out 0).trans rfl, (blk_cell zH.out 1).trans rfl, (blk_cell zH.out 2).trans rfl⟩ (fun hHeld => ?_)
               clear hK K
               refine norm_ (a' := ?_) ?_ ?_
               rotate_left
               ·show Act.put _ (some 23) _ = _
                simp only [Act.put, List.setIfInBounds_toArray, List.set_cons_zero, List.set_cons_succ, i64_w, i32_w, u8_w, u32_w]
                rfl
               exact norm_ (by first | (simp only [putAll, Act.put, List.setIfInBounds_toArray, List.set_cons_zero, List.set_cons_succ]; done) | (simp only [putAll, Act.put, List.setIfInBounds_toArray, List.set_cons_zero, List.set_cons_succ]; rfl)) (hJ2_4 (v163) _ ⟨hHeld, (by (with_reducible repeat (first | apply Kd.R_alloc | apply Kd.R_drewN | apply Kd.R_drew)); exact zI.out), (by (with_reducible repeat (first | apply Kd.R_alloc | apply Kd.R_drewN | apply Kd.R_drew)); exact zP.out), (by (with_reducible repeat (first | apply Kd.R_alloc | apply Kd.R_drewN | apply Kd.R_drew)); exact zm.out), (by (with_reducible repeat (first | apply Kd.R_alloc | apply Kd.R_drewN | apply Kd.R_drew)); exact zn.out), (by (with_reducible repeat (first | refine blk_drewN ?_ _ | refine blk_drew ?_ | refine blk_alloc ?_ _)); exact zC.out), (by (with_reducible repeat (first | refine blk_drewN ?_ _ | refine blk_drew ?_ | refine blk_alloc ?_ _)); exact zD.out), (by (with_reducible repeat (first | refine blk_drewN ?_ _ | refine blk_drew ?_ | refine blk_alloc ?_ _)); exact zG.out), (by (with_reducible repeat (first | refine blk_drewN ?_ _ | refine blk_drew ?_ | refine blk_alloc ?_ _)); exact zH.out), (by repeat (first | (with_reducible first | exact HB.out | apply below_alloc | apply pw_below_drewN | apply below_drew1 | refine below_set ?_ zJ.out | refine below_set ?_ zK.out | refine below_set ?_ za.out | refine below_set ?_ zb.out) | exact HB.out))⟩)
              ·skip
               have hcv45 := own_string (P := Try.prog) Try.underlying31 Try.underlying5 Try.underlying9 (Kd.own_of_R zn.out)
               refine value_ (w1 := ?_) (v := ?_) (by rfl) rfl ?_ ?_
               rotate_left 2
               ·go_simp
                constructor
                ·rfl
                ·rfl
               clear hcv45
               refine hK.out _ _ ⟨(blk_cell zG.out 0).trans rfl, (blk_cell zG.out 1).trans rfl, (blk_cell zG.out 2).trans rfl, (blk_cell zH.out 0).trans rfl, (blk_cell zH.out 1).trans rfl, (blk_cell zH.out 2).trans rfl⟩ (fun hHeld => ?_)
               clear hK K
               refine norm_ (a' := ?_) ?_ ?_
               rotate_left
               ·show Act.put _ (some 26) _ = _
                simp only [Act.put, List.setIfInBounds_toArray, List.set_cons_zero, List.set_cons_succ, i64_w, i32_w, u8_w, u32_w]
                rfl
               exact norm_ (by first | (simp only [putAll, Act.put, List.setIfInBounds_toArray, List.set_cons_zero, List.set_cons_succ]; done) | (simp only [putAll, Act.put, List.setIfInBounds_toArray, List.set_cons_zero, List.set_cons_succ]; rfl)) (hJ4_5 (v163) _ ⟨hHeld, (by (with_reducible repeat (first | apply Kd.R_alloc | apply Kd.R_drewN | apply Kd.R_drew)); exact zI.out), (by (with_reducible repeat (first | apply Kd.R_alloc | apply Kd.R_drewN | apply Kd.R_drew)); exact zP.out), (by (with_reducible repeat (first | apply Kd.R_alloc | apply Kd.R_drewN | apply Kd.R_drew)); exact zm.out), (by (with_reducible repeat (first | apply Kd.R_alloc | apply Kd.R_drewN | apply Kd.R_drew)); exact zn.out), (by (with_reducible repeat (first | refine blk_drewN ?_ _ | refine blk_drew ?_ | refine blk_alloc ?_ _)); exact zC.out), (by (with_reducible repeat (first | refine blk_drewN ?_ _ | refine blk_drew ?_ | refine blk_alloc ?_ _)); exact zD.out), (by (with_reducible repeat (first | refine blk_drewN ?_ _ | refine blk_drew ?_ | refine blk_alloc ?_ _)); exact zG.out), (by (with_reducible repeat (first | refine blk_drewN ?_ _ | refine blk_drew ?_ | refine blk_alloc ?_ _)); exact zH.out), (by repeat (first | (with_reducible first | exact HB.out | apply below_alloc | apply pw_below_drewN | apply below_drew1 | refine below_set ?_ zJ.out | refine below_set ?_ zK.out | refine below_set ?_ za.out | refine below_set ?_ zb.out) | exact HB.out))⟩)
              ·skip
               refine goes_ Try.func14 (by kernel_rfl) rfl #[.agg #[.int .i64 t147, .int .i64 t148, .slice ze t149.length zf], .agg #[.int .i64 t152, .int .i64 t153, .slice zc t154.length zd]] (by rfl) rfl rfl (by (try simp only [List.map_toArray, List.map_cons, List.map_nil]); first | done | rfl | (simp only [List.length_drop, List.length_take]; rfl)) ?_
               with_reducible refine (thyrsusref4_Same.calls kj4 t147 t148 _ _ t149 t152 t153 _ _ t154 t165 _ ?side1 ?side2 ?side3 ?side4 A25.out).mono ?_
               (case side1 => repeat (first | exact (Kd.R_reads' zI.out).2.2 | (with_reducible refine Kd.C_alloc ?_ _) | (with_reducible refine Kd.C_drewN ?_ _) | (with_reducible refine Kd.C_drew ?_)))
               (case side2 => exact (Kd.R_reads' zI.out).2.1)
               (case side3 => repeat (first | exact (Kd.R_reads' zP.out).2.2 | (with_reducible refine Kd.C_alloc ?_ _) | (with_reducible refine Kd.C_drewN ?_ _) | (with_reducible refine Kd.C_drew ?_)))
               (case side4 => exact (Kd.R_reads' zP.out).2.1)
               rintro e w45 ⟨rfl, hb⟩
               refine ⟨_, rfl, ?_⟩
               have n0_ := Aside0.mk (Kd.R_below (by (with_reducible repeat (first | apply Kd.R_alloc | apply Kd.R_drewN | apply Kd.R_drew)); exact zI.out) hb)
               have n1_ := Aside0.mk (Kd.R_below (by (with_reducible repeat (first | apply Kd.R_alloc | apply Kd.R_drewN | apply Kd.R_drew)); exact zP.out) hb)
               have n2_ := Aside0.mk (Kd.R_below (by (with_reducible repeat (first | apply Kd.R_alloc | apply Kd.R_drewN | apply Kd.R_drew)); exact zm.out) hb)
               have n3_ := Aside0.mk (Kd.R_below (by (with_reducible repeat (first | apply Kd.R_alloc | apply Kd.R_drewN | apply Kd.R_drew)); exact zn.out) hb)
               have n4_ := Aside0.mk (blk_below (g := zE) (o := .cells #[.int .i64 zM, .int .i64 zN, .slice zW zL.length zX] 24 (0, 0)) (by (with_reducible repeat (first | refine blk_drewN ?_ _ | refine blk_drew ?_ | refine blk_alloc ?_ _)); exact zC.out) hb)
               have n5_ := Aside0.mk (blk_below (g := zF) (o := .cells #[.int .i64 zQ, .int .i64 zR, .slice zY zO.length zZ] 24 (0, 0)) (by (with_reducible repeat (first | refine blk_drewN ?_ _ | refine blk_drew ?_ | refine blk_alloc ?_ _)); exact zD.out) hb)
               have n6_ := Aside0.mk (blk_below (g := zA) (o := .cells #[.int .i64 t147, .int .i64 t148, .slice ze t149.length zf] 29 (0, 0)) (by (with_reducible repeat (first | refine blk_drewN ?_ _ | refine blk_drew ?_ | refine blk_alloc ?_ _)); exact zG.out) hb)
               have n7_ := Aside0.mk (blk_below (g := zB) (o := .cells #[.int .i64 t152, .int .i64 t153, .slice zc t154.length zd] 29 (0, 0)) (by (with_reducible repeat (first | refine blk_drewN ?_ _ | refine blk_drew ?_ | refine blk_alloc ?_ _)); exact zH.out) hb)
               have n8_ := Aside0.mk (below_step (by repeat (first | (with_reducible first | exact HB.out | apply below_alloc | apply pw_below_drewN | apply below_drew1 | refine below_set ?_ zJ.out | refine below_set ?_ zK.out | refine below_set ?_ za.out | refine below_set ?_ zb.out) | exact HB.out)) hb)
               clear zI
               clear zP
               clear zm
               clear zn
               clear zC
               clear zD
               clear zG
               clear zH
               clear HB
               have zI := n0_
               have zP := n1_
               have zm := n2_
               have zn := n3_
               have zC := n4_
               have zD := n5_
               have zG := n6_
               have zH := n7_
               have HB := n8_
               clear n0_ n1_ n2_ n3_ n4_ n5_ n6_ n7_ n8_
               (try clear hb)
               (try clear hb2)
               (try clear hk)
               (try clear hi)
               refine hK.out _ _ ⟨(blk_cell zG.out 0).trans rfl, (blk_cell zG.out 1).trans rfl, (blk_cell zG.out 2).trans rfl, (blk_cell zH.out 0).trans rfl, (blk_cell zH.out 1).trans rfl, (blk_cell zH.out 2).trans rfl⟩ (fun hHeld => ?_)
               clear hK K
               refine norm_ (a' := ?_) ?_ ?_
               rotate_left
               ·show Act.put _ (some 30) _ = _
                simp only [Act.put, List.setIfInBounds_toArray, List.set_cons_zero, List.set_cons_succ, i64_w, i32_w, u8_w, u32_w]
                rfl
               exact norm_ (by first | (simp only [putAll, Act.put, List.setIfInBounds_toArray, List.set_cons_zero, List.set_cons_succ]; done) | (simp only [putAll, Act.put, List.setIfInBounds_toArray, List.set_cons_zero, List.set_cons_succ]; rfl)) (hJ4_9 (v163) _ ⟨hHeld, (by (with_reducible repeat (first | apply Kd.R_alloc | apply Kd.R_drewN | apply Kd.R_drew)); exact zI.out), (by (with_reducible repeat (first | apply Kd.R_alloc | apply Kd.R_drewN | apply Kd.R_drew)); exact zP.out), (by (with_reducible repeat (first | apply Kd.R_alloc | apply Kd.R_drewN | apply Kd.R_drew)); exact zm.out), (by (with_reducible repeat (first | apply Kd.R_alloc | apply Kd.R_drewN | apply Kd.R_drew)); exact zn.out), (by (with_reducible repeat (first | refine blk_drewN ?_ _ | refine blk_drew ?_ | refine blk_alloc ?_ _)); exact zC.out), (by (with_reducible repeat (first | refine blk_drewN ?_ _ | refine blk_drew ?_ | refine blk_alloc ?_ _)); exact zD.out), (by (with_reducible repeat (first | refine blk_drewN ?_ _ | refine blk_drew ?_ | refine blk_alloc ?_ _)); exact zG.out), (by (with_reducible repeat (first | refine blk_drewN ?_ _ | refine blk_drew ?_ | refine blk_alloc ?_ _)); exact zH.out), (by repeat (first | (with_reducible first | exact HB.out | apply below_alloc | apply pw_below_drewN | apply below_drew1 | refine below_set ?_ zJ.out | refine below_set ?_ zK.out | refine below_set ?_ za.out | refine below_set ?_ zb.out) | exact HB.out))⟩)
            ·skip
             rintro _ w44 ⟨hS_, h0_, h1_, h2_, h3_, h4_, h5_, h6_, h7_⟩
             have n0_ : Aside0 (Kd.R k29 29 w44 w.heap.size (fun k_ => some k_ ≠ (.slice zc t154.length zd : Value).ownBlock ∧ k_ ≠ zA ∧ k_ ≠ zB) (.slice ze t149.length zf) t149) := ⟨h0_⟩
             have n1_ : Aside0 (Kd.R k29 29 w44 w.heap.size (fun k_ => some k_ ≠ (.slice ze t149.length zf : Value).ownBlock ∧ k_ ≠ zA ∧ k_ ≠ zB) (.slice zc t154.length zd) t154) := ⟨h1_⟩
             have n2_ : Aside0 (Kd.R (Kd.int .u8) 5 w44 w.heap.size (fun _ => True) v160 t159) := ⟨h2_⟩
             have n3_ : Aside0 (w44.heap[zE]? = some (.cells #[.int .i64 zM, .int .i64 zN, .slice zW zL.length zX] 24 (0, 0))) := ⟨h3_⟩
             have n4_ : Aside0 (w44.heap[zF]? = some (.cells #[.int .i64 zQ, .int .i64 zR, .slice zY zO.length zZ] 24 (0, 0))) := ⟨h4_⟩
             have n5_ : Aside0 (w44.heap[zA]? = some (.cells #[.int .i64 t147, .int .i64 t148, .slice ze t149.length zf] 29 (0, 0))) := ⟨h5_⟩
             have n6_ : Aside0 (w44.heap[zB]? = some (.cells #[.int .i64 t152, .int .i64 t153, .slice zc t154.length zd] 29 (0, 0))) := ⟨h6_⟩
             have n7_ : Aside0 (Below w.heap.size w w44) := ⟨h7_⟩
             clear zI
             clear zP
             clear zC
             clear zD
             clear zG
             clear zH
             clear HB
             clear h0_ h1_ h2_ h3_ h4_ h5_ h6_ h7_
             have zI := n0_
             have zP := n1_
             have zm := n2_
             have zC := n3_
             have zD := n4_
             have zG := n5_
             have zH := n6_
             have HB := n7_
             clear n0_ n1_ n2_ n3_ n4_ n5_ n6_ n7_
             have hHeld : w44.cell? ⟨zA, 0, none⟩ = some (.int .i64 t147) ∧ w44.cell? ⟨zA, 1, none⟩ = some (.int .i64 t148) ∧ w44.cell? ⟨zA, 2, none⟩ = some (.slice ze t149.length zf) ∧ w44.cell? ⟨zB, 0, none⟩ = some (.int .i64 t152) ∧ w44.cell? ⟨zB, 1, none⟩ = some (.int .i64 t153) ∧ w44.cell? ⟨zB, 2, none⟩ = some (.slice zc t154.length zd) := hS_
             refine norm_ (a' := ?_) ?_ ?_
             rotate_left
             ·simp only [putAll, Act.put, List.setIfInBounds_toArray, List.set_cons_zero, List.set_cons_succ]
              rfl
             refine one_ (i := 4) (N := some 25) #[true, true, true, true, true, false, false, true, true, false, false, false] rfl rfl (one_of HT_.out (by kernel_rfl)) (by decide) (fun K hK => ?_)
             refine goes_ Try.func12 (by kernel_rfl) rfl #[.agg #[.int .i64 t152, .int .i64 t153, .slice zc t154.length zd]] (by rfl) rfl rfl (by (try simp only [List.map_toArray, List.map_cons, List.map_nil]); first | done | rfl | (simp only [List.length_drop, List.length_take]; rfl)) ?_
             with_reducible refine (code_Bytes.calls t152 t153 _ _ t154 t162 _ ?side1 ?side2 A24.out).mono ?_
             (case side1 => repeat (first | exact (Kd.R_reads' zP.out).2.2 | (with_reducible refine Kd.C_alloc ?_ _) | (with_reducible refine Kd.C_drewN ?_ _) | (with_reducible refine Kd.C_drew ?_)))
             (case side2 => exact (Kd.R_reads' zP.out).2.1)
             rintro e w45 ⟨v163, rfl, ho0, hb⟩
             refine ⟨_, rfl, ?_⟩
             have n0_ := Aside0.mk (Kd.R_below (by (with_reducible repeat (first | apply Kd.R_alloc | apply Kd.R_drewN | apply Kd.R_drew)); exact zI.out) hb)
             have n1_ := Aside0.mk (Kd.R_below (by (with_reducible repeat (first | apply Kd.R_alloc | apply Kd.R_drewN | apply Kd.R_drew)); exact zP.out) hb)
             have n2_ := Aside0.mk (Kd.R_elder' (by (with_reducible repeat (first | apply Kd.R_alloc | apply Kd.R_drewN | apply Kd.R_drew)); exact zm.out) (Kd.R_base ho0) hb)
             have n3_ := Aside0.mk (Kd.R_lower (Kd.R_new' ho0 (Kd.R_lt (by (with_reducible repeat (first | apply Kd.R_alloc | apply Kd.R_drewN | apply Kd.R_drew)); exact zm.out))) (below_size (by repeat (first | (with_reducible first | exact HB.out | apply below_alloc | apply pw_below_drewN | apply below_drew1 | refine below_set ?_ zJ.out | refine below_set ?_ zK.out | refine below_set ?_ za.out | refine below_set ?_ zb.out) | exact HB.out))))
             have n4_ := Aside0.mk (blk_below (g := zE) (o := .cells #[.int .i64 zM, .int .i64 zN, .slice zW zL.length zX] 24 (0, 0)) (by (with_reducible repeat (first | refine blk_drewN ?_ _ | refine blk_drew ?_ | refine blk_alloc ?_ _)); exact zC.out) hb)
             have n5_ := Aside0.mk (blk_below (g := zF) (o := .cells #[.int .i64 zQ, .int .i64 zR, .slice zY zO.length zZ] 24 (0, 0)) (by (with_reducible repeat (first | refine blk_drewN ?_ _ | refine blk_drew ?_ | refine blk_alloc ?_ _)); exact zD.out) hb)
             have n6_ := Aside0.mk (blk_below (g := zA) (o := .cells #[.int .i64 t147, .int .i64 t148, .slice ze t149.length zf] 29 (0, 0)) (by (with_reducible repeat (first | refine blk_drewN ?_ _ | refine blk_drew ?_ | refine blk_alloc ?_ _)); exact zG.out) hb)
             have n7_ := Aside0.mk (blk_below (g := zB) (o := .cells #[.int .i64 t152, .int .i64 t153, .slice zc t154.length zd] 29 (0, 0)) (by (with_reducible repeat (first | refine blk_drewN ?_ _ | refine blk_drew ?_ | refine blk_alloc ?_ _)); exact zH.out) hb)
             have n8_ := Aside0.mk (below_step (by repeat (first | (with_reducible first | exact HB.out | apply below_alloc | apply pw_below_drewN | apply below_drew1 | refine below_set ?_ zJ.out | refine below_set ?_ zK.out | refine below_set ?_ za.out | refine below_set ?_ zb.out) | exact HB.out)) hb)
             clear zI
             clear zP
             clear zm
             clear zC
             clear zD
             clear zG
             clear zH
             clear HB
             have zI := n0_
             have zP := n1_
             have zm := n2_
             have zn := n3_
             have zC := n4_
             have zD := n5_
             have zG := n6_
             have zH := n7_
             have HB := n8_
             clear n0_ n1_ n2_ n3_ n4_ n5_ n6_ n7_ n8_
             (try clear hb)
             (try clear hb2)
             (try clear hk)
             (try clear hi)
             (try clear ho0)
             refine hK.out _ _ ⟨(blk_cell zG.out 0).trans rfl, (blk_cell zG.out 1).trans rfl, (blk_cell zG.out 2).trans rfl, (blk_cell zH.out 0).trans rfl, (blk_cell zH.out 1).trans rfl, (blk_cell zH.out 2).trans rfl⟩ (fun hHeld => ?_)
             clear hK K
             refine norm_ (a' := ?_) ?_ ?_
             rotate_left
             ·show Act.put _ (some 25) _ = _
              simp only [Act.put, List.setIfInBounds_toArray, List.set_cons_zero, List.set_cons_succ, i64_w, i32_w, u8_w, u32_w]
              rfl
             exact norm_ (by first | (simp only [putAll, Act.put, List.setIfInBounds_toArray, List.set_cons_zero, List.set_cons_succ]; done) | (simp only [putAll, Act.put, List.setIfInBounds_toArray, List.set_cons_zero, List.set_cons_succ]; rfl)) (hJ2_4 (v163) _ ⟨hHeld, (by (with_reducible repeat (first | apply Kd.R_alloc | apply Kd.R_drewN | apply Kd.R_drew)); exact zI.out), (by (with_reducible repeat (first | apply Kd.R_alloc | apply Kd.R_drewN | apply Kd.R_drew)); exact zP.out), (by (with_reducible repeat (first | apply Kd.R_alloc | apply Kd.R_drewN | apply Kd.R_drew)); exact Kd.R_mono zm.out (fun _ hk => hk.2)), (by (with_reducible repeat (first | apply Kd.R_alloc | apply Kd.R_drewN | apply Kd.R_drew)); exact Kd.R_mono zn.out (fun _ hk => hk.2)), (by (with_reducible repeat (first | refine blk_drewN ?_ _ | refine blk_drew ?_ | refine blk_alloc ?_ _)); exact zC.out), (by (with_reducible repeat (first | refine blk_drewN ?_ _ | refine blk_drew ?_ | refine blk_alloc ?_ _)); exact zD.out), (by (with_reducible repeat (first | refine blk_drewN ?_ _ | refine blk_drew ?_ | refine blk_alloc ?_ _)); exact zG.out), (by (with_reducible repeat (first | refine blk_drewN ?_ _ | refine blk_drew ?_ | refine blk_alloc ?_ _)); exact zH.out), (by repeat (first | (with_reducible first | exact HB.out | apply below_alloc | apply pw_below_drewN | apply below_drew1 | refine below_set ?_ zJ.out | refine below_set ?_ zK.out | refine below_set ?_ za.out | refine below_set ?_ zb.out) | exact HB.out))⟩)
           ·skip
            rintro v163 w45 ⟨hS_, h0_, h1_, h2_, h3_, h4_, h5_, h6_, h7_, h8_⟩
            have n0_ : Aside0 (Kd.R k29 29 w45 w.heap.size (fun k_ => some k_ ≠ (.slice zc t154.length zd : Value).ownBlock ∧ k_ ≠ zA ∧ k_ ≠ zB) (.slice ze t149.length zf) t149) := ⟨h0_⟩
            have n1_ : Aside0 (Kd.R k29 29 w45 w.heap.size (fun k_ => some k_ ≠ (.slice ze t149.length zf : Value).ownBlock ∧ k_ ≠ zA ∧ k_ ≠ zB) (.slice zc t154.length zd) t154) := ⟨h1_⟩
            have n2_ : Aside0 (Kd.R (Kd.int .u8) 5 w45 w.heap.size (fun k_ => some k_ ≠ (v163 : Value).ownBlock) v160 t159) := ⟨h2_⟩
            have n3_ : Aside0 (Kd.R (Kd.int .u8) 5 w45 w.heap.size (fun k_ => some k_ ≠ (v160 : Value).ownBlock) v163 t162) := ⟨h3_⟩
            have n4_ : Aside0 (w45.heap[zE]? = some (.cells #[.int .i64 zM, .int .i64 zN, .slice zW zL.length zX] 24 (0, 0))) := ⟨h4_⟩
            have n5_ : Aside0 (w45.heap[zF]? = some (.cells #[.int .i64 zQ, .int .i64 zR, .slice zY zO.length zZ] 24 (0, 0))) := ⟨h5_⟩
            have n6_ : Aside0 (w45.heap[zA]? = some (.cells #[.int .i64 t147, .int .i64 t148, .slice ze t149.length zf] 29 (0, 0))) := ⟨h6_⟩
            have n7_ : Aside0 (w45.heap[zB]? = some (.cells #[.int .i64 t152, .int .i64 t153, .slice zc t154.length zd] 29 (0, 0))) := ⟨h7_⟩
            have n8_ : Aside0 (Below w.heap.size w w45) := ⟨h8_⟩
            clear zI
            clear zP
            clear zC
            clear zD
            clear zG
            clear zH
            clear HB
            clear h0_ h1_ h2_ h3_ h4_ h5_ h6_ h7_ h8_
            have zI := n0_
            have zP := n1_
            have zm := n2_
            have zn := n3_
            have zC := n4_
            have zD := n5_
            have zG := n6_
            have zH := n7_
            have HB := n8_
            clear n0_ n1_ n2_ n3_ n4_ n5_ n6_ n7_ n8_
            have hHeld : w45.cell? ⟨zA, 0, none⟩ = some (.int .i64 t147) ∧ w45.cell? ⟨zA, 1, none⟩ = some (.int .i64 t148) ∧ w45.cell? ⟨zA, 2, none⟩ = some (.slice ze t149.length zf) ∧ w45.cell? ⟨zB, 0, none⟩ = some (.int .i64 t152) ∧ w45.cell? ⟨zB, 1, none⟩ = some (.int .i64 t153) ∧ w45.cell? ⟨zB, 2, none⟩ = some (.slice zc t154.length zd) := hS_
            refine norm_ (a' := ?_) ?_ ?_
            rotate_left
            ·simp only [putAll, Act.put, List.setIfInBounds_toArray, List.set_cons_zero, List.set_cons_succ]
             rfl
            refine two_ (i := 2) (j := 5) (Ni := some 23) (Nj := some 26) #[true, true, true, true, true, false, false, true, true, true, false, false] #[true, true, false, true, true, true, false, true, true, true, false, false] rfl rfl rfl rfl (two_of HT_.out (by kernel_rfl)) (by decide) (by decide) (fun K hK => ?_) (fun K hK => ?_)
            ·skip
             have hcv46 := own_string (P := Try.prog) Try.underlying31 Try.underlying5 Try.underlying9 (Kd.own_of_R zm.out)
             refine value_ (w1 := ?_) (v := ?_) (by rfl) rfl ?_ ?_
             rotate_left 2
             ·go_simp
              constructor
              ·rfl
              ·rfl
             clear hcv46
             refine hK.out _ _ ⟨(blk_cell zG.out 0).trans rfl, (blk_cell zG.out 1).trans rfl, (blk_cell zG.out 2).trans rfl, (blk_cell zH.out 0).trans rfl, (blk_cell zH.out 1).trans rfl, (blk_cell zH.out 2).trans rfl⟩ (fun hHeld => ?_)
             clear hK K
             refine norm_ (a' := ?_) ?_ ?_
             rotate_left
             ·show Act.put _ (some 23) _ = _
              simp only [Act.put, List.setIfInBounds_toArray, List.set_cons_zero, List.set_cons_succ, i64_w, i32_w, u8_w, u32_w]
              rfl
             exact norm_ (by first | (simp only [putAll, Act.put, List.setIfInBounds_toArray, List.set_cons_zero, List.set_cons_succ]; done) | (simp only [putAll, Act.put, List.setIfInBounds_toArray, List.set_cons_zero, List.set_cons_succ]; rfl)) (hJ2_4_9 (v163) _ ⟨hHeld, (by (with_reducible repeat (first | apply Kd.R_alloc | apply Kd.R_drewN | apply Kd.R_drew)); exact zI.out), (by (with_reducible repeat (first | apply Kd.R_alloc | apply Kd.R_drewN | apply Kd.R_drew)); exact zP.out), (by (with_reducible repeat (first | apply Kd.R_alloc | apply Kd.R_drewN | apply Kd.R_drew)); exact zm.out), (by (with_reducible repeat (first | apply Kd.R_alloc | apply Kd.R_drewN | apply Kd.R_drew)); exact zn.out), (by (with_reducible repeat (first | refine blk_drewN ?_ _ | refine blk_drew ?_ | refine blk_alloc ?_ _)); exact zC.out), (by (with_reducible repeat (first | refine blk_drewN ?_ _ | refine blk_drew ?_ | refine blk_alloc ?_ _)); exact zD.out), (by (with_reducible repeat (first | refine blk_drewN ?_ _ | refine blk_drew ?_ | refine blk_alloc ?_ _)); exact zG.out), (by (with_reducible repeat (first | refine blk_drewN ?_ _ | refine blk_drew ?_ | refine blk_alloc ?_ _)); exact zH.out), (by repeat (first | (with_reducible first | exact HB.out | apply below_alloc | apply pw_below_drewN | apply below_drew1 | refine below_set ?_ zJ.out | refine below_set ?_ zK.out | refine below_set ?_ za.out | refine below_set ?_ zb.out) | exact HB.out))⟩)
            ·skip
             have hcv46 := own_string (P := Try.prog) Try.underlying31 Try.underlying5 Try.underlying9 (Kd.own_of_R zn.out)
             refine value_ (w1 := ?_) (v := ?_) (by rfl) rfl ?_ ?_
             rotate_left 2
             ·go_simp
              constructor
              ·rfl
              ·rfl
             clear hcv46
             refine hK.out _ _ ⟨(blk_cell zG.out 0).trans rfl, (blk_cell zG.out 1).trans rfl, (blk_cell zG.out 2).trans rfl, (blk_cell zH.out 0).trans rfl, (blk_cell zH.out 1).trans rfl, (blk_cell zH.out 2).trans rfl⟩ (fun hHeld => ?_)
             clear hK K
             refine norm_ (a' := ?_) ?_ ?_
             rotate_left
             ·show Act.put _ (some 26) _ = _
              simp only [Act.put, List.setIfInBounds_toArray, List.set_cons_zero, List.set_cons_succ, i64_w, i32_w, u8_w, u32_w]
              rfl
             exact norm_ (by first | (simp only [putAll, Act.put, List.setIfInBounds_toArray, List.set_cons_zero, List.set_cons_succ]; done) | (simp only [putAll, Act.put, List.setIfInBounds_toArray, List.set_cons_zero, List.set_cons_succ]; rfl)) (hJ4_5_9 (v163) _ ⟨hHeld, (by (with_reducible repeat (first | apply Kd.R_alloc | apply Kd.R_drewN | apply Kd.R_drew)); exact zI.out), (by (with_reducible repeat (first | apply Kd.R_alloc | apply Kd.R_drewN | apply Kd.R_drew)); exact zP.out), (by (with_reducible repeat (first | apply Kd.R_alloc | apply Kd.R_drewN | apply Kd.R_drew)); exact zm.out), (by (with_reducible repeat (first | apply Kd.R_alloc | apply Kd.R_drewN | apply Kd.R_drew)); exact zn.out), (by (with_reducible repeat (first | refine blk_drewN ?_ _ | refine blk_drew ?_ | refine blk_alloc ?_ _)); exact zC.out), (by (with_reducible repeat (first | refine blk_drewN ?_ _ | refine blk_drew ?_ | refine blk_alloc ?_ _)); exact zD.out), (by (with_reducible repeat (first | refine blk_drewN ?_ _ | refine blk_drew ?_ | refine blk_alloc ?_ _)); exact zG.out), (by (with_reducible repeat (first | refine blk_drewN ?_ _ | refine blk_drew ?_ | refine blk_alloc ?_ _)); exact zH.out), (by repeat (first | (with_reducible first | exact HB.out | apply below_alloc | apply pw_below_drewN | apply below_drew1 | refine below_set ?_ zJ.out | refine below_set ?_ zK.out | refine below_set ?_ za.out | refine below_set ?_ zb.out) | exact HB.out))⟩)
          ·skip
           rintro v163 w45 ⟨hS_, h0_, h1_, h2_, h3_, h4_, h5_, h6_, h7_, h8_⟩
           have n0_ : Aside0 (Kd.R k29 29 w45 w.heap.size (fun k_ => some k_ ≠ (.slice zc t154.length zd : Value).ownBlock ∧ k_ ≠ zA ∧ k_ ≠ zB) (.slice ze t149.length zf) t149) := ⟨h0_⟩
           have n1_ : Aside0 (Kd.R k29 29 w45 w.heap.size (fun k_ => some k_ ≠ (.slice ze t149.length zf : Value).ownBlock ∧ k_ ≠ zA ∧ k_ ≠ zB) (.slice zc t154.length zd) t154) := ⟨h1_⟩
           have n2_ : Aside0 (Kd.R (Kd.int .u8) 5 w45 w.heap.size (fun k_ => some k_ ≠ (v163 : Value).ownBlock) v160 t159) := ⟨h2_⟩
           have n3_ : Aside0 (Kd.R (Kd.int .u8) 5 w45 w.heap.size (fun k_ => some k_ ≠ (v160 : Value).ownBlock) v163 t162) := ⟨h3_⟩
           have n4_ : Aside0 (w45.heap[zE]? = some (.cells #[.int .i64 zM, .int .i64 zN, .slice zW zL.length zX] 24 (0, 0))) := ⟨h4_⟩
           have n5_ : Aside0 (w45.heap[zF]? = some (.cells #[.int .i64 zQ, .int .i64 zR, .slice zY zO.length zZ] 24 (0, 0))) := ⟨h5_⟩
           have n6_ : Aside0 (w45.heap[zA]? = some (.cells #[.int .i64 t147, .int .i64 t148, .slice ze t149.length zf] 29 (0, 0))) := ⟨h6_⟩
           have n7_ : Aside0 (w45.heap[zB]? = some (.cells #[.int .i64 t152, .int .i64 t153, .slice zc t154.length zd] 29 (0, 0))) := ⟨h7_⟩
           have n8_ : Aside0 (Below w.heap.size w w45) := ⟨h8_⟩
           clear zI
           clear zP
           clear zC
           clear zD
           clear zG
           clear zH
           clear HB
           clear h0_ h1_ h2_ h3_ h4_ h5_ h6_ h7_ h8_
           have zI := n0_
           have zP := n1_
           have zm := n2_
           have zn := n3_
           have zC := n4_
           have zD := n5_
           have zG := n6_
           have zH := n7_
           have HB := n8_
           clear n0_ n1_ n2_ n3_ n4_ n5_ n6_ n7_ n8_
           have hHeld : w45.cell? ⟨zA, 0, none⟩ = some (.int .i64 t147) ∧ w45.cell? ⟨zA, 1, none⟩ = some (.int .i64 t148) ∧ w45.cell? ⟨zA, 2, none⟩ = some (.slice ze t149.length zf) ∧ w45.cell? ⟨zB, 0, none⟩ = some (.int .i64 t152) ∧ w45.cell? ⟨zB, 1, none⟩ = some (.int .i64 t153) ∧ w45.cell? ⟨zB, 2, none⟩ = some (.slice zc t154.length zd) := hS_
           refine norm_ (a' := ?_) ?_ ?_
           rotate_left
           ·simp only [putAll, Act.put, List.setIfInBounds_toArray, List.set_cons_zero, List.set_cons_succ]
            rfl
           refine two_ (i := 2) (j := 9) (Ni := some 23) (Nj := some 30) #[true, true, true, true, true, true, false, true, true, false, false, false] #[true, true, false, true, true, true, false, true, true, true, false, false] rfl rfl rfl rfl (two_of HT_.out (by kernel_rfl)) (by decide) (by decide) (fun K hK => ?_) (fun K hK => ?_)
           ·skip
            have hcv46 := own_string (P := Try.prog) Try.underlying31 Try.underlying5 Try.underlying9 (Kd.own_of_R zm.out)
            refine value_ (w1 := ?_) (v := ?_) (by rfl) rfl ?_ ?_
            rotate_left 2
            ·go_simp
             constructor
             ·rfl
             ·rfl
            clear hcv46
            refine hK.out _ _ ⟨(blk_cell zG.out 0).trans rfl, (blk_cell zG.out 1).trans rfl, (blk_cell zG.out 2).trans rfl, (blk_cell zH.out 0).trans rfl, (blk_cell zH.out 1).trans rfl, (blk_cell zH.out 2).trans rfl⟩ (fun hHeld => ?_)
            clear hK K
            refine norm_ (a' := ?_) ?_ ?_
            rotate_left
            ·show Act.put _ (some 23) _ = _
             simp only [Act.put, List.setIfInBounds_toArray, List.set_cons_zero, List.set_cons_succ, i64_w, i32_w, u8_w, u32_w]
             rfl
            refine pure_ (i := 6) (N := some 27) (v := ?_) (a' := ?_) #[true, true, true, true, true, true, true, true, true, false, false, false] rfl rfl (any_of HT_.out (by kernel_rfl)) (fun _ _ _ h => h) (Or.inl ⟨by rfl, ?_⟩) ?_ ?_
            rotate_left
            ·intro w'
             go_simp
             with_reducible rfl
            rotate_left
            ·simp only [Act.put, List.setIfInBounds_toArray, List.set_cons_zero, List.set_cons_succ, i64_w, i32_w, u8_w, u32_w]
             rfl
            exact norm_ (by first | (simp only [putAll, Act.put, List.setIfInBounds_toArray, List.set_cons_zero, List.set_cons_succ]; done) | (simp only [putAll, Act.put, List.setIfInBounds_toArray, List.set_cons_zero, List.set_cons_succ]; rfl)) (hJ2_4_5 (v163) _ ⟨hHeld, (by (with_reducible repeat (first | apply Kd.R_alloc | apply Kd.R_drewN | apply Kd.R_drew)); exact zI.out), (by (with_reducible repeat (first | apply Kd.R_alloc | apply Kd.R_drewN | apply Kd.R_drew)); exact zP.out), (by (with_reducible repeat (first | apply Kd.R_alloc | apply Kd.R_drewN | apply Kd.R_drew)); exact zm.out), (by (with_reducible repeat (first | apply Kd.R_alloc | apply Kd.R_drewN | apply Kd.R_drew)); exact zn.out), (by (with_reducible repeat (first | refine blk_drewN ?_ _ | refine blk_drew ?_ | refine blk_alloc ?_ _)); exact zC.out), (by (with_reducible repeat (first | refine blk_drewN ?_ _ | refine blk_drew ?_ | refine blk_alloc ?_ _)); exact zD.out), (by (with_reducible repeat (first | refine blk_drewN ?_ _ | refine blk_drew ?_ | refine blk_alloc ?_ _)); exact zG.out), (by (with_reducible repeat (first | refine blk_drewN ?_ _ | refine blk_drew ?_ | refine blk_alloc ?_ _)); exact zH.out), (by repeat (first | (with_reducible first | exact HB.out | apply below_alloc | apply pw_below_drewN | apply below_drew1 | refine below_set ?_ zJ.out | refine below_set ?_ zK.out | refine below_set ?_ za.out | refine below_set ?_ zb.out) | exact HB.out))⟩)
           ·skip
            refine goes_ Try.func14 (by kernel_rfl) rfl #[.agg #[.int .i64 t147, .int .i64 t148, .slice ze t149.length zf], .agg #[.int .i64 t152, .int .i64 t153, .slice zc t154.length zd]] (by rfl) rfl rfl (by (try simp only [List.map_toArray, List.map_cons, List.map_nil]); first | done | rfl | (simp only [List.length_drop, List.length_take]; rfl)) ?_
            with_reducible refine (thyrsusref4_Same.calls kj4 t147 t148 _ _ t149 t152 t153 _ _ t154 t165 _ ?side1 ?side2 ?side3 ?side4 A25.out).mono ?_
            (case side1 => repeat (first | exact (Kd.R_reads' zI.out).2.2 | (with_reducible refine Kd.C_alloc ?_ _) | (with_reducible refine Kd.C_drewN ?_ _) | (with_reducible refine Kd.C_drew ?_)))
            (case side2 => exact (Kd.R_reads' zI.out).2.1)
            (case side3 => repeat (first | exact (Kd.R_reads' zP.out).2.2 | (with_reducible refine Kd.C_alloc ?_ _) | (with_reducible refine Kd.C_drewN ?_ _) | (with_reducible refine Kd.C_drew ?_)))
            (case side4 => exact (Kd.R_reads' zP.out).2.1)
            rintro e w46 ⟨rfl, hb⟩
            refine ⟨_, rfl, ?_⟩
            have n0_ := Aside0.mk (Kd.R_below (by (with_reducible repeat (first | apply Kd.R_alloc | apply Kd.R_drewN | apply Kd.R_drew)); exact zI.out) hb)
            have n1_ := Aside0.mk (Kd.R_below (by (with_reducible repeat (first | apply Kd.R_alloc | apply Kd.R_drewN | apply Kd.R_drew)); exact zP.out) hb)
            have n2_ := Aside0.mk (Kd.R_below (by (with_reducible repeat (first | apply Kd.R_alloc | apply Kd.R_drewN | apply Kd.R_drew)); exact zm.out) hb)
            have n3_ := Aside0.mk (Kd.R_below (by (with_reducible repeat (first | apply Kd.R_alloc | apply Kd.R_drewN | apply Kd.R_drew)); exact zn.out) hb)
            have n4_ := Aside0.mk (blk_below (g := zE) (o := .cells #[.int .i64 zM, .int .i64 zN, .slice zW zL.length zX] 24 (0, 0)) (by (with_reducible repeat (first | refine blk_drewN ?_ _ | refine blk_drew ?_ | refine blk_alloc ?_ _)); exact zC.out) hb)
            have n5_ := Aside0.mk (blk_below (g := zF) (o := .cells #[.int .i64 zQ, .int .i64 zR, .slice zY zO.length zZ] 24 (0, 0)) (by (with_reducible repeat (first | refine blk_drewN ?_ _ | refine blk_drew ?_ | refine blk_alloc ?_ _)); exact zD.out) hb)
            have n6_ := Aside0.mk (blk_below (g := zA) (o := .cells #[.int .i64 t147, .int .i64 t148, .slice ze t149.length zf] 29 (0, 0)) (by (with_reducible repeat (first | refine blk_drewN ?_ _ | refine blk_drew ?_ | refine blk_alloc ?_ _)); exact zG.out) hb)
            have n7_ := Aside0.mk (blk_below (g := zB) (o := .cells #[.int .i64 t152, .int .i64 t153, .slice zc t154.length zd] 29 (0, 0)) (by (with_reducible repeat (first | refine blk_drewN ?_ _ | refine blk_drew ?_ | refine blk_alloc ?_ _)); exact zH.out) hb)
            have n8_ := Aside0.mk (below_step (by repeat (first | (with_reducible first | exact HB.out | apply below_alloc | apply pw_below_drewN | apply below_drew1 | refine below_set ?_ zJ.out | refine below_set ?_ zK.out | refine below_set ?_ za.out | refine below_set ?_ zb.out) | exact HB.out)) hb)
            clear zI
            clear zP
            clear zm
            clear zn
            clear zC
            clear zD
            clear zG
            clear zH
            clear HB
            have zI := n0_
            have zP := n1_
            have zm := n2_
            have zn := n3_
            have zC := n4_
            have zD := n5_
            have zG := n6_
            have zH := n7_
            have HB := n8_
            clear n0_ n1_ n2_ n3_ n4_ n5_ n6_ n7_ n8_
            (try clear hb)
            (try clear hb2)
            (try clear hk)
            (try clear hi)
            refine hK.out _ _ ⟨(blk_cell zG.out 0).trans rfl, (blk_cell zG.out 1).trans rfl, (blk_cell zG.out 2).trans rfl, (blk_cell zH.out 0).trans rfl, (blk_cell zH.out 1).trans rfl, (blk_cell zH.out 2).trans rfl⟩ (fun hHeld => ?_)
            clear hK K
            refine norm_ (a' := ?_) ?_ ?_
            rotate_left
            ·show Act.put _ (some 30) _ = _
             simp only [Act.put, List.setIfInBounds_toArray, List.set_cons_zero, List.set_cons_succ, i64_w, i32_w, u8_w, u32_w]
             rfl
            exact norm_ (by first | (simp only [putAll, Act.put, List.setIfInBounds_toArray, List.set_cons_zero, List.set_cons_succ]; done) | (simp only [putAll, Act.put, List.setIfInBounds_toArray, List.set_cons_zero, List.set_cons_succ]; rfl)) (hJ4_5_9 (v163) _ ⟨hHeld, (by (with_reducible repeat (first | apply Kd.R_alloc | apply Kd.R_drewN | apply Kd.R_drew)); exact zI.out), (by (with_reducible repeat (first | apply Kd.R_alloc | apply Kd.R_drewN | apply Kd.R_drew)); exact zP.out), (by (with_reducible repeat (first | apply Kd.R_alloc | apply Kd.R_drewN | apply Kd.R_drew)); exact zm.out), (by (with_reducible repeat (first | apply Kd.R_alloc | apply Kd.R_drewN | apply Kd.R_drew)); exact zn.out), (by (with_reducible repeat (first | refine blk_drewN ?_ _ | refine blk_drew ?_ | refine blk_alloc ?_ _)); exact zC.out), (by (with_reducible repeat (first | refine blk_drewN ?_ _ | refine blk_drew ?_ | refine blk_alloc ?_ _)); exact zD.out), (by (with_reducible repeat (first | refine blk_drewN ?_ _ | refine blk_drew ?_ | refine blk_alloc ?_ _)); exact zG.out), (by (with_reducible repeat (first | refine blk_drewN ?_ _ | refine blk_drew ?_ | refine blk_alloc ?_ _)); exact zH.out), (by repeat (first | (with_reducible first | exact HB.out | apply below_alloc | apply pw_below_drewN | apply below_drew1 | refine below_set ?_ zJ.out | refine below_set ?_ zK.out | refine below_set ?_ za.out | refine below_set ?_ zb.out) | exact HB.out))⟩)
         ·skip
          rintro v163 w45 ⟨hS_, h0_, h1_, h2_, h3_, h4_, h5_, h6_, h7_, h8_⟩
          have n0_ : Aside0 (Kd.R k29 29 w45 w.heap.size (fun k_ => some k_ ≠ (.slice zc t154.length zd : Value).ownBlock ∧ k_ ≠ zA ∧ k_ ≠ zB) (.slice ze t149.length zf) t149) := ⟨h0_⟩
          have n1_ : Aside0 (Kd.R k29 29 w45 w.heap.size (fun k_ => some k_ ≠ (.slice ze t149.length zf : Value).ownBlock ∧ k_ ≠ zA ∧ k_ ≠ zB) (.slice zc t154.length zd) t154) := ⟨h1_⟩
          have n2_ : Aside0 (Kd.R (Kd.int .u8) 5 w45 w.heap.size (fun k_ => some k_ ≠ (v163 : Value).ownBlock) v160 t159) := ⟨h2_⟩
          have n3_ : Aside0 (Kd.R (Kd.int .u8) 5 w45 w.heap.size (fun k_ => some k_ ≠ (v160 : Value).ownBlock) v163 t162) := ⟨h3_⟩
          have n4_ : Aside0 (w45.heap[zE]? = some (.cells #[.int .i64 zM, .int .i64 zN, .slice zW zL.length zX] 24 (0, 0))) := ⟨h4_⟩
          have n5_ : Aside0 (w45.heap[zF]? = some (.cells #[.int .i64 zQ, .int .i64 zR, .slice zY zO.length zZ] 24 (0, 0))) := ⟨h5_⟩
          have n6_ : Aside0 (w45.heap[zA]? = some (.cells #[.int .i64 t147, .int .i64 t148, .slice ze t149.length zf] 29 (0, 0))) := ⟨h6_⟩
          have n7_ : Aside0 (w45.heap[zB]? = some (.cells #[.int .i64 t152, .int .i64 t153, .slice zc t154.length zd] 29 (0, 0))) := ⟨h7_⟩
          have n8_ : Aside0 (Below w.heap.size w w45) := ⟨h8_⟩
          clear zI
          clear zP
          clear zC
          clear zD
          clear zG
          clear zH
          clear HB
          clear h0_ h1_ h2_ h3_ h4_ h5_ h6_ h7_ h8_
          have zI := n0_
          have zP := n1_
          have zm := n2_
          have zn := n3_
          have zC := n4_
          have zD := n5_
          have zG := n6_
          have zH := n7_
          have HB := n8_
          clear n0_ n1_ n2_ n3_ n4_ n5_ n6_ n7_ n8_
          have hHeld : w45.cell? ⟨zA, 0, none⟩ = some (.int .i64 t147) ∧ w45.cell? ⟨zA, 1, none⟩ = some (.int .i64 t148) ∧ w45.cell? ⟨zA, 2, none⟩ = some (.slice ze t149.length zf) ∧ w45.cell? ⟨zB, 0, none⟩ = some (.int .i64 t152) ∧ w45.cell? ⟨zB, 1, none⟩ = some (.int .i64 t153) ∧ w45.cell? ⟨zB, 2, none⟩ = some (.slice zc t154.length zd) := hS_
          refine norm_ (a' := ?_) ?_ ?_
          rotate_left
          ·simp only [putAll, Act.put, List.setIfInBounds_toArray, List.set_cons_zero, List.set_cons_succ]
           rfl
          refine two_ (i := 5) (j := 9) (Ni := some 26) (Nj := some 30) #[true, true, true, true, true, true, false, true, true, false, false, false] #[true, true, true, true, true, false, false, true, true, true, false, false] rfl rfl rfl rfl (two_of HT_.out (by kernel_rfl)) (by decide) (by decide) (fun K hK => ?_) (fun K hK => ?_)
          ·skip
           have hcv46 := own_string (P := Try.prog) Try.underlying31 Try.underlying5 Try.underlying9 (Kd.own_of_R zn.out)
           refine value_ (w1 := ?_) (v := ?_) (by rfl) rfl ?_ ?_
           rotate_left 2
           ·go_simp
            constructor
            ·rfl
            ·rfl
           clear hcv46
           refine hK.out _ _ ⟨(blk_cell zG.out 0).trans rfl, (blk_cell zG.out 1).trans rfl, (blk_cell zG.out 2).trans rfl, (blk_cell zH.out 0).trans rfl, (blk_cell zH.out 1).trans rfl, (blk_cell zH.out 2).trans rfl⟩ (fun hHeld => ?_)
           clear hK K
           refine norm_ (a' := ?_) ?_ ?_
           rotate_left
           ·show Act.put _ (some 26) _ = _
            simp only [Act.put, List.setIfInBounds_toArray, List.set_cons_zero, List.set_cons_succ, i64_w, i32_w, u8_w, u32_w]
            rfl
           refine pure_ (i := 6) (N := some 27) (v := ?_) (a' := ?_) #[true, true, true, true, true, true, true, true, true, false, false, false] rfl rfl (any_of HT_.out (by kernel_rfl)) (fun _ _ _ h => h) (Or.inl ⟨by rfl, ?_⟩) ?_ ?_
           rotate_left
           ·intro w'
            go_simp
            with_reducible rfl
           rotate_left
           ·simp only [Act.put, List.setIfInBounds_toArray, List.set_cons_zero, List.set_cons_succ, i64_w, i32_w, u8_w, u32_w]
            rfl
           exact norm_ (by first | (simp only [putAll, Act.put, List.setIfInBounds_toArray, List.set_cons_zero, List.set_cons_succ]; done) | (simp only [putAll, Act.put, List.setIfInBounds_toArray, List.set_cons_zero, List.set_cons_succ]; rfl)) (hJ2_4_5 (v163) _ ⟨hHeld, (by (with_reducible repeat (first | apply Kd.R_alloc | apply Kd.R_drewN | apply Kd.R_drew)); exact zI.out), (by (with_reducible repeat (first | apply Kd.R_alloc | apply Kd.R_drewN | apply Kd.R_drew)); exact zP.out), (by (with_reducible repeat (first | apply Kd.R_alloc | apply Kd.R_drewN | apply Kd.R_drew)); exact zm.out), (by (with_reducible repeat (first | apply Kd.R_alloc | apply Kd.R_drewN | apply Kd.R_drew)); exact zn.out), (by (with_reducible repeat (first | refine blk_drewN ?_ _ | refine blk_drew ?_ | refine blk_alloc ?_ _)); exact zC.out), (by (with_reducible repeat (first | refine blk_drewN ?_ _ | refine blk_drew ?_ | refine blk_alloc ?_ _)); exact zD.out), (by (with_reducible repeat (first | refine blk_drewN ?_ _ | refine blk_drew ?_ | refine blk_alloc ?_ _)); exact zG.out), (by (with_reducible repeat (first | refine blk_drewN ?_ _ | refine blk_drew ?_ | refine blk_alloc ?_ _)); exact zH.out), (by repeat (first | (with_reducible first | exact HB.out | apply below_alloc | apply pw_below_drewN | apply below_drew1 | refine below_set ?_ zJ.out | refine below_set ?_ zK.out | refine below_set ?_ za.out | refine below_set ?_ zb.out) | exact HB.out))⟩)
          ·skip
           refine goes_ Try.func14 (by kernel_rfl) rfl #[.agg #[.int .i64 t147, .int .i64 t148, .slice ze t149.length zf], .agg #[.int .i64 t152, .int .i64 t153, .slice zc t154.length zd]] (by rfl) rfl rfl (by (try simp only [List.map_toArray, List.map_cons, List.map_nil]); first | done | rfl | (simp only [List.length_drop, List.length_take]; rfl)) ?_
           with_reducible refine (thyrsusref4_Same.calls kj4 t147 t148 _ _ t149 t152 t153 _ _ t154 t165 _ ?side1 ?side2 ?side3 ?side4 A25.out).mono ?_
           (case side1 => repeat (first | exact (Kd.R_reads' zI.out).2.2 | (with_reducible refine Kd.C_alloc ?_ _) | (with_reducible refine Kd.C_drewN ?_ _) | (with_reducible refine Kd.C_drew ?_)))
           (case side2 => exact (Kd.R_reads' zI.out).2.1)
           (case side3 => repeat (first | exact (Kd.R_reads' zP.out).2.2 | (with_reducible refine Kd.C_alloc ?_ _) | (with_reducible refine Kd.C_drewN ?_ _) | (with_reducible refine Kd.C_drew ?_)))
           (case side4 => exact (Kd.R_reads' zP.out).2.1)
           rintro e w46 ⟨rfl, hb⟩
           refine ⟨_, rfl, ?_⟩
           have n0_ := Aside0.mk (Kd.R_below (by (with_reducible repeat (first | apply Kd.R_alloc | apply Kd.R_drewN | apply Kd.R_drew)); exact zI.out) hb)
           have n1_ := Aside0.mk (Kd.R_below (by (with_reducible repeat (first | apply Kd.R_alloc | apply Kd.R_drewN | apply Kd.R_drew)); exact zP.out) hb)
           have n2_ := Aside0.mk (Kd.R_below (by (with_reducible repeat (first | apply Kd.R_alloc | apply Kd.R_drewN | apply Kd.R_drew)); exact zm.out) hb)
           have n3_ := Aside0.mk (Kd.R_below (by (with_reducible repeat (first | apply Kd.R_alloc | apply Kd.R_drewN | apply Kd.R_drew)); exact zn.out) hb)
           have n4_ := Aside0.mk (blk_below (g := zE) (o := .cells #[.int .i64 zM, .int .i64 zN, .slice zW zL.length zX] 24 (0, 0)) (by (with_reducible repeat (first | refine blk_drewN ?_ _ | refine blk_drew ?_ | refine blk_alloc ?_ _)); exact zC.out) hb)
           have n5_ := Aside0.mk (blk_below (g := zF) (o := .cells #[.int .i64 zQ, .int .i64 zR, .slice zY zO.length zZ] 24 (0, 0)) (by (with_reducible repeat (first | refine blk_drewN ?_ _ | refine blk_drew ?_ | refine blk_alloc ?_ _)); exact zD.out) hb)
           have n6_ := Aside0.mk (blk_below (g := zA) (o := .cells #[.int .i64 t147, .int .i64 t148, .slice ze t149.length zf] 29 (0, 0)) (by (with_reducible repeat (first | refine blk_drewN ?_ _ | refine blk_drew ?_ | refine blk_alloc ?_ _)); exact zG.out) hb)
           have n7_ := Aside0.mk (blk_below (g := zB) (o := .cells #[.int .i64 t152, .int .i64 t153, .slice zc t154.length zd] 29 (0, 0)) (by (with_reducible repeat (first | refine blk_drewN ?_ _ | refine blk_drew ?_ | refine blk_alloc ?_ _)); exact zH.out) hb)
           have n8_ := Aside0.mk (below_step (by repeat (first | (with_reducible first | exact HB.out | apply below_alloc | apply pw_below_drewN | apply below_drew1 | refine below_set ?_ zJ.out | refine below_set ?_ zK.out | refine below_set ?_ za.out | refine below_set ?_ zb.out) | exact HB.out)) hb)
           clear zI
           clear zP
           clear zm
           clear zn
           clear zC
           clear zD
           clear zG
           clear zH
           clear HB
           have zI := n0_
           have zP := n1_
           have zm := n2_
           have zn := n3_
           have zC := n4_
           have zD := n5_
           have zG := n6_
           have zH := n7_
           have HB := n8_
           clear n0_ n1_ n2_ n3_ n4_ n5_ n6_ n7_ n8_
           (try clear hb)
           (try clear hb2)
           (try clear hk)
           (try clear hi)
           refine hK.out _ _ ⟨(blk_cell zG.out 0).trans rfl, (blk_cell zG.out 1).trans rfl, (blk_cell zG.out 2).trans rfl, (blk_cell zH.out 0).trans rfl, (blk_cell zH.out 1).trans rfl, (blk_cell zH.out 2).trans rfl⟩ (fun hHeld => ?_)
           clear hK K
           refine norm_ (a' := ?_) ?_ ?_
           rotate_left
           ·show Act.put _ (some 30) _ = _
            simp only [Act.put, List.setIfInBounds_toArray, List.set_cons_zero, List.set_cons_succ, i64_w, i32_w, u8_w, u32_w]
            rfl
           exact norm_ (by first | (simp only [putAll, Act.put, List.setIfInBounds_toArray, List.set_cons_zero, List.set_cons_succ]; done) | (simp only [putAll, Act.put, List.setIfInBounds_toArray, List.set_cons_zero, List.set_cons_succ]; rfl)) (hJ2_4_9 (v163) _ ⟨hHeld, (by (with_reducible repeat (first | apply Kd.R_alloc | apply Kd.R_drewN | apply Kd.R_drew)); exact zI.out), (by (with_reducible repeat (first | apply Kd.R_alloc | apply Kd.R_drewN | apply Kd.R_drew)); exact zP.out), (by (with_reducible repeat (first | apply Kd.R_alloc | apply Kd.R_drewN | apply Kd.R_drew)); exact zm.out), (by (with_reducible repeat (first | apply Kd.R_alloc | apply Kd.R_drewN | apply Kd.R_drew)); exact zn.out), (by (with_reducible repeat (first | refine blk_drewN ?_ _ | refine blk_drew ?_ | refine blk_alloc ?_ _)); exact zC.out), (by (with_reducible repeat (first | refine blk_drewN ?_ _ | refine blk_drew ?_ | refine blk_alloc ?_ _)); exact zD.out), (by (with_reducible repeat (first | refine blk_drewN ?_ _ | refine blk_drew ?_ | refine blk_alloc ?_ _)); exact zG.out), (by (with_reducible repeat (first | refine blk_drewN ?_ _ | refine blk_drew ?_ | refine blk_alloc ?_ _)); exact zH.out), (by repeat (first | (with_reducible first | exact HB.out | apply below_alloc | apply pw_below_drewN | apply below_drew1 | refine below_set ?_ zJ.out | refine below_set ?_ zK.out | refine below_set ?_ za.out | refine below_set ?_ zb.out) | exact HB.out))⟩)
        ·skip
         rintro v163 w46 ⟨hS_, h0_, h1_, h2_, h3_, h4_, h5_, h6_, h7_, h8_⟩
         have n0_ : Aside0 (Kd.R k29 29 w46 w.heap.size (fun k_ => some k_ ≠ (.slice zc t154.length zd : Value).ownBlock ∧ k_ ≠ zA ∧ k_ ≠ zB) (.slice ze t149.length zf) t149) := ⟨h0_⟩
         have n1_ : Aside0 (Kd.R k29 29 w46 w.heap.size (fun k_ => some k_ ≠ (.slice ze t149.length zf : Value).ownBlock ∧ k_ ≠ zA ∧ k_ ≠ zB) (.slice zc t154.length zd) t154) := ⟨h1_⟩
         have n2_ : Aside0 (Kd.R (Kd.int .u8) 5 w46 w.heap.size (fun k_ => some k_ ≠ (v163 : Value).ownBlock) v160 t159) := ⟨h2_⟩
         have n3_ : Aside0 (Kd.R (Kd.int .u8) 5 w46 w.heap.size (fun k_ => some k_ ≠ (v160 : Value).ownBlock) v163 t162) := ⟨h3_⟩
         have n4_ : Aside0 (w46.heap[zE]? = some (.cells #[.int .i64 zM, .int .i64 zN, .slice zW zL.length zX] 24 (0, 0))) := ⟨h4_⟩
         have n5_ : Aside0 (w46.heap[zF]? = some (.cells #[.int .i64 zQ, .int .i64 zR, .slice zY zO.length zZ] 24 (0, 0))) := ⟨h5_⟩
         have n6_ : Aside0 (w46.heap[zA]? = some (.cells #[.int .i64 t147, .int .i64 t148, .slice ze t149.length zf] 29 (0, 0))) := ⟨h6_⟩
         have n7_ : Aside0 (w46.heap[zB]? = some (.cells #[.int .i64 t152, .int .i64 t153, .slice zc t154.length zd] 29 (0, 0))) := ⟨h7_⟩
         have n8_ : Aside0 (Below w.heap.size w w46) := ⟨h8_⟩
         clear zI
         clear zP
         clear zC
         clear zD
         clear zG
         clear zH
         clear HB
         clear h0_ h1_ h2_ h3_ h4_ h5_ h6_ h7_ h8_
         have zI := n0_
         have zP := n1_
         have zm := n2_
         have zn := n3_
         have zC := n4_
         have zD := n5_
         have zG := n6_
         have zH := n7_
         have HB := n8_
         clear n0_ n1_ n2_ n3_ n4_ n5_ n6_ n7_ n8_
         have hHeld : w46.cell? ⟨zA, 0, none⟩ = some (.int .i64 t147) ∧ w46.cell? ⟨zA, 1, none⟩ = some (.int .i64 t148) ∧ w46.cell? ⟨zA, 2, none⟩ = some (.slice ze t149.length zf) ∧ w46.cell? ⟨zB, 0, none⟩ = some (.int .i64 t152) ∧ w46.cell? ⟨zB, 1, none⟩ = some (.int .i64 t153) ∧ w46.cell? ⟨zB, 2, none⟩ = some (.slice zc t154.length zd) := hS_
         refine norm_ (a' := ?_) ?_ ?_
         rotate_left
         ·simp only [putAll, Act.put, List.setIfInBounds_toArray, List.set_cons_zero, List.set_cons_succ]
          rfl
         refine one_ (i := 2) (N := some 23) #[true, true, true, true, true, true, false, true, true, true, false, false] rfl rfl (one_of HT_.out (by kernel_rfl)) (by decide) (fun K hK => ?_)
         have hcv47 := own_string (P := Try.prog) Try.underlying31 Try.underlying5 Try.underlying9 (Kd.own_of_R zm.out)
         refine value_ (w1 := ?_) (v := ?_) (by rfl) rfl ?_ ?_
         rotate_left 2
         ·go_simp
          constructor
          ·rfl
          ·rfl
         clear hcv47
         refine hK.out _ _ ⟨(blk_cell zG.out 0).trans rfl, (blk_cell zG.out 1).trans rfl, (blk_cell zG.out 2).trans rfl, (blk_cell zH.out 0).trans rfl, (blk_cell zH.out 1).trans rfl, (blk_cell zH.out 2).trans rfl⟩ (fun hHeld => ?_)
         clear hK K
         refine norm_ (a' := ?_) ?_ ?_
         rotate_left
         ·show Act.put _ (some 23) _ = _
          simp only [Act.put, List.setIfInBounds_toArray, List.set_cons_zero, List.set_cons_succ, i64_w, i32_w, u8_w, u32_w]
          rfl
         refine pure_ (i := 6) (N := some 27) (v := ?_) (a' := ?_) #[true, true, true, true, true, true, true, true, true, true, false, false] rfl rfl (any_of HT_.out (by kernel_rfl)) (fun _ _ _ h => h) (Or.inl ⟨by rfl, ?_⟩) ?_ ?_
         rotate_left
         ·intro w'
          go_simp
          with_reducible rfl
         rotate_left
         ·simp only [Act.put, List.setIfInBounds_toArray, List.set_cons_zero, List.set_cons_succ, i64_w, i32_w, u8_w, u32_w]
          rfl
         exact norm_ (by first | (simp only [putAll, Act.put, List.setIfInBounds_toArray, List.set_cons_zero, List.set_cons_succ]; done) | (simp only [putAll, Act.put, List.setIfInBounds_toArray, List.set_cons_zero, List.set_cons_succ]; rfl)) (hJ2_4_5_9 (v163) _ ⟨hHeld, (by (with_reducible repeat (first | apply Kd.R_alloc | apply Kd.R_drewN | apply Kd.R_drew)); exact zI.out), (by (with_reducible repeat (first | apply Kd.R_alloc | apply Kd.R_drewN | apply Kd.R_drew)); exact zP.out), (by (with_reducible repeat (first | apply Kd.R_alloc | apply Kd.R_drewN | apply Kd.R_drew)); exact zm.out), (by (with_reducible repeat (first | apply Kd.R_alloc | apply Kd.R_drewN | apply Kd.R_drew)); exact zn.out), (by (with_reducible repeat (first | refine blk_drewN ?_ _ | refine blk_drew ?_ | refine blk_alloc ?_ _)); exact zC.out), (by (with_reducible repeat (first | refine blk_drewN ?_ _ | refine blk_drew ?_ | refine blk_alloc ?_ _)); exact zD.out), (by (with_reducible repeat (first | refine blk_drewN ?_ _ | refine blk_drew ?_ | refine blk_alloc ?_ _)); exact zG.out), (by (with_reducible repeat (first | refine blk_drewN ?_ _ | refine blk_drew ?_ | refine blk_alloc ?_ _)); exact zH.out), (by repeat (first | (with_reducible first | exact HB.out | apply below_alloc | apply pw_below_drewN | apply below_drew1 | refine below_set ?_ zJ.out | refine below_set ?_ zK.out | refine below_set ?_ za.out | refine below_set ?_ zb.out) | exact HB.out))⟩)
       ·skip
        rintro v163 w46 ⟨hS_, h0_, h1_, h2_, h3_, h4_, h5_, h6_, h7_, h8_⟩
        have n0_ : Aside0 (Kd.R k29 29 w46 w.heap.size (fun k_ => some k_ ≠ (.slice zc t154.length zd : Value).ownBlock ∧ k_ ≠ zA ∧ k_ ≠ zB) (.slice ze t149.length zf) t149) := ⟨h0_⟩
        have n1_ : Aside0 (Kd.R k29 29 w46 w.heap.size (fun k_ => some k_ ≠ (.slice ze t149.length zf : Value).ownBlock ∧ k_ ≠ zA ∧ k_ ≠ zB) (.slice zc t154.length zd) t154) := ⟨h1_⟩
        have n2_ : Aside0 (Kd.R (Kd.int .u8) 5 w46 w.heap.size (fun k_ => some k_ ≠ (v163 : Value).ownBlock) v160 t159) := ⟨h2_⟩
        have n3_ : Aside0 (Kd.R (Kd.int .u8) 5 w46 w.heap.size (fun k_ => some k_ ≠ (v160 : Value).ownBlock) v163 t162) := ⟨h3_⟩
        have n4_ : Aside0 (w46.heap[zE]? = some (.cells #[.int .i64 zM, .int .i64 zN, .slice zW zL.length zX] 24 (0, 0))) := ⟨h4_⟩
        have n5_ : Aside0 (w46.heap[zF]? = some (.cells #[.int .i64 zQ, .int .i64 zR, .slice zY zO.length zZ] 24 (0, 0))) := ⟨h5_⟩
        have n6_ : Aside0 (w46.heap[zA]? = some (.cells #[.int .i64 t147, .int .i64 t148, .slice ze t149.length zf] 29 (0, 0))) := ⟨h6_⟩
        have n7_ : Aside0 (w46.heap[zB]? = some (.cells #[.int .i64 t152, .int .i64 t153, .slice zc t154.length zd] 29 (0, 0))) := ⟨h7_⟩
        have n8_ : Aside0 (Below w.heap.size w w46) := ⟨h8_⟩
        clear zI
        clear zP
        clear zC
        clear zD
        clear zG
        clear zH
        clear HB
        clear h0_ h1_ h2_ h3_ h4_ h5_ h6_ h7_ h8_
        have zI := n0_
        have zP := n1_
        have zm := n2_
        have zn := n3_
        have zC := n4_
        have zD := n5_
        have zG := n6_
        have zH := n7_
        have HB := n8_
        clear n0_ n1_ n2_ n3_ n4_ n5_ n6_ n7_ n8_
        have hHeld : w46.cell? ⟨zA, 0, none⟩ = some (.int .i64 t147) ∧ w46.cell? ⟨zA, 1, none⟩ = some (.int .i64 t148) ∧ w46.cell? ⟨zA, 2, none⟩ = some (.slice ze t149.length zf) ∧ w46.cell? ⟨zB, 0, none⟩ = some (.int .i64 t152) ∧ w46.cell? ⟨zB, 1, none⟩ = some (.int .i64 t153) ∧ w46.cell? ⟨zB, 2, none⟩ = some (.slice zc t154.length zd) := hS_
        refine norm_ (a' := ?_) ?_ ?_
        rotate_left
        ·simp only [putAll, Act.put, List.setIfInBounds_toArray, List.set_cons_zero, List.set_cons_succ]
         rfl
        refine one_ (i := 5) (N := some 26) #[true, true, true, true, true, true, false, true, true, true, false, false] rfl rfl (one_of HT_.out (by kernel_rfl)) (by decide) (fun K hK => ?_)
        have hcv47 := own_string (P := Try.prog) Try.underlying31 Try.underlying5 Try.underlying9 (Kd.own_of_R zn.out)
        refine value_ (w1 := ?_) (v := ?_) (by rfl) rfl ?_ ?_
        rotate_left 2
        ·go_simp
         constructor
         ·rfl
         ·rfl
        clear hcv47
        refine hK.out _ _ ⟨(blk_cell zG.out 0).trans rfl, (blk_cell zG.out 1).trans rfl, (blk_cell zG.out 2).trans rfl, (blk_cell zH.out 0).trans rfl, (blk_cell zH.out 1).trans rfl, (blk_cell zH.out 2).trans rfl⟩ (fun hHeld => ?_)
        clear hK K
        refine norm_ (a' := ?_) ?_ ?_
        rotate_left
        ·show Act.put _ (some 26) _ = _
         simp only [Act.put, List.setIfInBounds_toArray, List.set_cons_zero, List.set_cons_succ, i64_w, i32_w, u8_w, u32_w]
         rfl
        refine pure_ (i := 6) (N := some 27) (v := ?_) (a' := ?_) #[true, true, true, true, true, true, true, true, true, true, false, false] rfl rfl (any_of HT_.out (by kernel_rfl)) (fun _ _ _ h => h) (Or.inl ⟨by rfl, ?_⟩) ?_ ?_
        rotate_left
        ·intro w'
         go_simp
         with_reducible rfl
        rotate_left
        ·simp only [Act.put, List.setIfInBounds_toArray, List.set_cons_zero, List.set_cons_succ, i64_w, i32_w, u8_w, u32_w]
         rfl
        exact norm_ (by first | (simp only [putAll, Act.put, List.setIfInBounds_toArray, List.set_cons_zero, List.set_cons_succ]; done) | (simp only [putAll, Act.put, List.setIfInBounds_toArray, List.set_cons_zero, List.set_cons_succ]; rfl)) (hJ2_4_5_9 (v163) _ ⟨hHeld, (by (with_reducible repeat (first | apply Kd.R_alloc | apply Kd.R_drewN | apply Kd.R_drew)); exact zI.out), (by (with_reducible repeat (first | apply Kd.R_alloc | apply Kd.R_drewN | apply Kd.R_drew)); exact zP.out), (by (with_reducible repeat (first | apply Kd.R_alloc | apply Kd.R_drewN | apply Kd.R_drew)); exact zm.out), (by (with_reducible repeat (first | apply Kd.R_alloc | apply Kd.R_drewN | apply Kd.R_drew)); exact zn.out), (by (with_reducible repeat (first | refine blk_drewN ?_ _ | refine blk_drew ?_ | refine blk_alloc ?_ _)); exact zC.out), (by (with_reducible repeat (first | refine blk_drewN ?_ _ | refine blk_drew ?_ | refine blk_alloc ?_ _)); exact zD.out), (by (with_reducible repeat (first | refine blk_drewN ?_ _ | refine blk_drew ?_ | refine blk_alloc ?_ _)); exact zG.out), (by (with_reducible repeat (first | refine blk_drewN ?_ _ | refine blk_drew ?_ | refine blk_alloc ?_ _)); exact zH.out), (by repeat (first | (with_reducible first | exact HB.out | apply below_alloc | apply pw_below_drewN | apply below_drew1 | refine below_set ?_ zJ.out | refine below_set ?_ zK.out | refine below_set ?_ za.out | refine below_set ?_ zb.out) | exact HB.out))⟩)
      ·skip
       rintro v163 w46 ⟨hS_, h0_, h1_, h2_, h3_, h4_, h5_, h6_, h7_, h8_⟩
       have n0_ : Aside0 (Kd.R k29 29 w46 w.heap.size (fun k_ => some k_ ≠ (.slice zc t154.length zd : Value).ownBlock ∧ k_ ≠ zA ∧ k_ ≠ zB) (.slice ze t149.length zf) t149) := ⟨h0_⟩
       have n1_ : Aside0 (Kd.R k29 29 w46 w.heap.size (fun k_ => some k_ ≠ (.slice ze t149.length zf : Value).ownBlock ∧ k_ ≠ zA ∧ k_ ≠ zB) (.slice zc t154.length zd) t154) := ⟨h1_⟩
       have n2_ : Aside0 (Kd.R (Kd.int .u8) 5 w46 w.heap.size (fun k_ => some k_ ≠ (v163 : Value).ownBlock) v160 t159) := ⟨h2_⟩
       have n3_ : Aside0 (Kd.R (Kd.int .u8) 5 w46 w.heap.size (fun k_ => some k_ ≠ (v160 : Value).ownBlock) v163 t162) := ⟨h3_⟩
       have n4_ : Aside0 (w46.heap[zE]? = some (.cells #[.int .i64 zM, .int .i64 zN, .slice zW zL.length zX] 24 (0, 0))) := ⟨h4_⟩
       have n5_ : Aside0 (w46.heap[zF]? = some (.cells #[.int .i64 zQ, .int .i64 zR, .slice zY zO.length zZ] 24 (0, 0))) := ⟨h5_⟩
       have n6_ : Aside0 (w46.heap[zA]? = some (.cells #[.int .i64 t147, .int .i64 t148, .slice ze t149.length zf] 29 (0, 0))) := ⟨h6_⟩
       have n7_ : Aside0 (w46.heap[zB]? = some (.cells #[.int .i64 t152, .int .i64 t153, .slice zc t154.length zd] 29 (0, 0))) := ⟨h7_⟩
       have n8_ : Aside0 (Below w.heap.size w w46) := ⟨h8_⟩
       clear zI
       clear zP
       clear zC
       clear zD
       clear zG
       clear zH
       clear HB
       clear h0_ h1_ h2_ h3_ h4_ h5_ h6_ h7_ h8_
       have zI := n0_
       have zP := n1_
       have zm := n2_
       have zn := n3_
       have zC := n4_
       have zD := n5_
       have zG := n6_
       have zH := n7_
       have HB := n8_
       clear n0_ n1_ n2_ n3_ n4_ n5_ n6_ n7_ n8_
       have hHeld : w46.cell? ⟨zA, 0, none⟩ = some (.int .i64 t147) ∧ w46.cell? ⟨zA, 1, none⟩ = some (.int .i64 t148) ∧ w46.cell? ⟨zA, 2, none⟩ = some (.slice ze t149.length zf) ∧ w46.cell? ⟨zB, 0, none⟩ = some (.int .i64 t152) ∧ w46.cell? ⟨zB, 1, none⟩ = some (.int .i64 t153) ∧ w46.cell? ⟨zB, 2, none⟩ = some (.slice zc t154.length zd) := hS_
       refine norm_ (a' := ?_) ?_ ?_
       rotate_left
       ·simp only [putAll, Act.put, List.setIfInBounds_toArray, List.set_cons_zero, List.set_cons_succ]
        rfl
       refine one_ (i := 9) (N := some 30) #[true, true, true, true, true, true, true, true, true, true, false, false] rfl rfl (one_of HT_.out (by kernel_rfl)) (by decide) (fun K hK => ?_)
       refine goes_ Try.func14 (by kernel_rfl) rfl #[.agg #[.int .i64 t147, .int .i64 t148, .slice ze t149.length zf], .agg #[.int .i64 t152, .int .i64 t153, .slice zc t154.length zd]] (by rfl) rfl rfl (by (try simp only [List.map_toArray, List.map_cons, List.map_nil]); first | done | rfl | (simp only [List.length_drop, List.length_take]; rfl)) ?_
       with_reducible refine (thyrsusref4_Same.calls kj4 t147 t148 _ _ t149 t152 t153 _ _ t154 t165 _ ?side1 ?side2 ?side3 ?side4 A25.out).mono ?_
       (case side1 => repeat (first | exact (Kd.R_reads' zI.out).2.2 | (with_reducible refine Kd.C_alloc ?_ _) | (with_reducible refine Kd.C_drewN ?_ _) | (with_reducible refine Kd.C_drew ?_)))
       (case side2 => exact (Kd.R_reads' zI.out).2.1)
       (case side3 => repeat (first | exact (Kd.R_reads' zP.out).2.2 | (with_reducible refine Kd.C_alloc ?_ _) | (with_reducible refine Kd.C_drewN ?_ _) | (with_reducible refine Kd.C_drew ?_)))
       (case side4 => exact (Kd.R_reads' zP.out).2.1)
       rintro e w47 ⟨rfl, hb⟩
       refine ⟨_, rfl, ?_⟩
       have n0_ := Aside0.mk (Kd.R_below (by (with_reducible repeat (first | apply Kd.R_alloc | apply Kd.R_drewN | apply Kd.R_drew)); exact zI.out) hb)
       have n1_ := Aside0.mk (Kd.R_below (by (with_reducible repeat (first | apply Kd.R_alloc | apply Kd.R_drewN | apply Kd.R_drew)); exact zP.out) hb)
       have n2_ := Aside0.mk (Kd.R_below (by (with_reducible repeat (first | apply Kd.R_alloc | apply Kd.R_drewN | apply Kd.R_drew)); exact zm.out) hb)
       have n3_ := Aside0.mk (Kd.R_below (by (with_reducible repeat (first | apply Kd.R_alloc | apply Kd.R_drewN | apply Kd.R_drew)); exact zn.out) hb)
       have n4_ := Aside0.mk (blk_below (g := zE) (o := .cells #[.int .i64 zM, .int .i64 zN, .slice zW zL.length zX] 24 (0, 0)) (by (with_reducible repeat (first | refine blk_drewN ?_ _ | refine blk_drew ?_ | refine blk_alloc ?_ _)); exact zC.out) hb)
       have n5_ := Aside0.mk (blk_below (g := zF) (o := .cells #[.int .i64 zQ, .int .i64 zR, .slice zY zO.length zZ] 24 (0, 0)) (by (with_reducible repeat (first | refine blk_drewN ?_ _ | refine blk_drew ?_ | refine blk_alloc ?_ _)); exact zD.out) hb)
       have n6_ := Aside0.mk (blk_below (g := zA) (o := .cells #[.int .i64 t147, .int .i64 t148, .slice ze t149.length zf] 29 (0, 0)) (by (with_reducible repeat (first | refine blk_drewN ?_ _ | refine blk_drew ?_ | refine blk_alloc ?_ _)); exact zG.out) hb)
       have n7_ := Aside0.mk (blk_below (g := zB) (o := .cells #[.int .i64 t152, .int .i64 t153, .slice zc t154.length zd] 29 (0, 0)) (by (with_reducible repeat (first | refine blk_drewN ?_ _ | refine blk_drew ?_ | refine blk_alloc ?_ _)); exact zH.out) hb)
       have n8_ := Aside0.mk (below_step (by repeat (first | (with_reducible first | exact HB.out | apply below_alloc | apply pw_below_drewN | apply below_drew1 | refine below_set ?_ zJ.out | refine below_set ?_ zK.out | refine below_set ?_ za.out | refine below_set ?_ zb.out) | exact HB.out)) hb)
       clear zI
       clear zP
       clear zm
       clear zn
       clear zC
       clear zD
       clear zG
       clear zH
       clear HB
       have zI := n0_
       have zP := n1_
       have zm := n2_
       have zn := n3_
       have zC := n4_
       have zD := n5_
       have zG := n6_
       have zH := n7_
       have HB := n8_
       clear n0_ n1_ n2_ n3_ n4_ n5_ n6_ n7_ n8_
       (try clear hb)
       (try clear hb2)
       (try clear hk)
       (try clear hi)
       refine hK.out _ _ ⟨(blk_cell zG.out 0).trans rfl, (blk_cell zG.out 1).trans rfl, (blk_cell zG.out 2).trans rfl, (blk_cell zH.out 0).trans rfl, (blk_cell zH.out 1).trans rfl, (blk_cell zH.out 2).trans rfl⟩ (fun hHeld => ?_)
       clear hK K
       refine norm_ (a' := ?_) ?_ ?_
       rotate_left
       ·show Act.put _ (some 30) _ = _
        simp only [Act.put, List.setIfInBounds_toArray, List.set_cons_zero, List.set_cons_succ, i64_w, i32_w, u8_w, u32_w]
        rfl
       exact norm_ (by first | (simp only [putAll, Act.put, List.setIfInBounds_toArray, List.set_cons_zero, List.set_cons_succ]; done) | (simp only [putAll, Act.put, List.setIfInBounds_toArray, List.set_cons_zero, List.set_cons_succ]; rfl)) (hJ2_4_5_9 (v163) _ ⟨hHeld, (by (with_reducible repeat (first | apply Kd.R_alloc | apply Kd.R_drewN | apply Kd.R_drew)); exact zI.out), (by (with_reducible repeat (first | apply Kd.R_alloc | apply Kd.R_drewN | apply Kd.R_drew)); exact zP.out), (by (with_reducible repeat (first | apply Kd.R_alloc | apply Kd.R_drewN | apply Kd.R_drew)); exact zm.out), (by (with_reducible repeat (first | apply Kd.R_alloc | apply Kd.R_drewN | apply Kd.R_drew)); exact zn.out), (by (with_reducible repeat (first | refine blk_drewN ?_ _ | refine blk_drew ?_ | refine blk_alloc ?_ _)); exact zC.out), (by (with_reducible repeat (first | refine blk_drewN ?_ _ | refine blk_drew ?_ | refine blk_alloc ?_ _)); exact zD.out), (by (with_reducible repeat (first | refine blk_drewN ?_ _ | refine blk_drew ?_ | refine blk_alloc ?_ _)); exact zG.out), (by (with_reducible repeat (first | refine blk_drewN ?_ _ | refine blk_drew ?_ | refine blk_alloc ?_ _)); exact zH.out), (by repeat (first | (with_reducible first | exact HB.out | apply below_alloc | apply pw_below_drewN | apply below_drew1 | refine below_set ?_ zJ.out | refine below_set ?_ zK.out | refine below_set ?_ za.out | refine below_set ?_ zb.out) | exact HB.out))⟩)
     rintro v163 w47 ⟨hS_, h0_, h1_, h2_, h3_, h4_, h5_, h6_, h7_, h8_⟩
     have n0_ : Aside0 (Kd.R k29 29 w47 w.heap.size (fun k_ => some k_ ≠ (.slice zc t154.length zd : Value).ownBlock ∧ k_ ≠ zA ∧ k_ ≠ zB) (.slice ze t149.length zf) t149) := ⟨h0_⟩
     have n1_ : Aside0 (Kd.R k29 29 w47 w.heap.size (fun k_ => some k_ ≠ (.slice ze t149.length zf : Value).ownBlock ∧ k_ ≠ zA ∧ k_ ≠ zB) (.slice zc t154.length zd) t154) := ⟨h1_⟩
     have n2_ : Aside0 (Kd.R (Kd.int .u8) 5 w47 w.heap.size (fun k_ => some k_ ≠ (v163 : Value).ownBlock) v160 t159) := ⟨h2_⟩
     have n3_ : Aside0 (Kd.R (Kd.int .u8) 5 w47 w.heap.size (fun k_ => some k_ ≠ (v160 : Value).ownBlock) v163 t162) := ⟨h3_⟩
     have n4_ : Aside0 (w47.heap[zE]? = some (.cells #[.int .i64 zM, .int .i64 zN, .slice zW zL.length zX] 24 (0, 0))) := ⟨h4_⟩
     have n5_ : Aside0 (w47.heap[zF]? = some (.cells #[.int .i64 zQ, .int .i64 zR, .slice zY zO.length zZ] 24 (0, 0))) := ⟨h5_⟩
     have n6_ : Aside0 (w47.heap[zA]? = some (.cells #[.int .i64 t147, .int .i64 t148, .slice ze t149.length zf] 29 (0, 0))) := ⟨h6_⟩
     have n7_ : Aside0 (w47.heap[zB]? = some (.cells #[.int .i64 t152, .int .i64 t153, .slice zc t154.length zd] 29 (0, 0))) := ⟨h7_⟩
     have n8_ : Aside0 (Below w.heap.size w w47) := ⟨h8_⟩
     clear zI
     clear zP
     clear zC
     clear zD
     clear zG
     clear zH
     clear HB
     clear h0_ h1_ h2_ h3_ h4_ h5_ h6_ h7_ h8_
     have zI := n0_
     have zP := n1_
     have zm := n2_
     have zn := n3_
     have zC := n4_
     have zD := n5_
     have zG := n6_
     have zH := n7_
     have HB := n8_
     clear n0_ n1_ n2_ n3_ n4_ n5_ n6_ n7_ n8_
     have hHeld : w47.cell? ⟨zA, 0, none⟩ = some (.int .i64 t147) ∧ w47.cell? ⟨zA, 1, none⟩ = some (.int .i64 t148) ∧ w47.cell? ⟨zA, 2, none⟩ = some (.slice ze t149.length zf) ∧ w47.cell? ⟨zB, 0, none⟩ = some (.int .i64 t152) ∧ w47.cell? ⟨zB, 1, none⟩ = some (.int .i64 t153) ∧ w47.cell? ⟨zB, 2, none⟩ = some (.slice zc t154.length zd) := hS_
     refine norm_ (a' := ?_) ?_ ?_
     rotate_left
     ·simp only [putAll, Act.put, List.setIfInBounds_toArray, List.set_cons_zero, List.set_cons_succ]
      rfl
     refine pure_ (i := 10) (N := some 31) (v := ?_) (a' := ?_) #[true, true, true, true, true, true, true, true, true, true, true, false] rfl rfl (any_of HT_.out (by kernel_rfl)) (fun _ _ _ h => h) (Or.inl ⟨by rfl, ?_⟩) ?_ ?_
     rotate_left
     ·intro w'
      go_simp
      with_reducible rfl
     rotate_left
     ·simp only [Act.put, List.setIfInBounds_toArray, List.set_cons_zero, List.set_cons_succ, i64_w, i32_w, u8_w, u32_w]
      rfl
     refine pure_ (i := 11) (N := some 4) (v := ?_) (a' := ?_) #[true, true, true, true, true, true, true, true, true, true, true, true] rfl rfl (any_of HT_.out (by kernel_rfl)) (fun _ _ _ h => h) (Or.inl ⟨by rfl, ?_⟩) ?_ ?_
     rotate_left
     ·intro w'
      go_simp
      with_reducible rfl
     rotate_left
     ·simp only [Act.put, List.setIfInBounds_toArray, List.set_cons_zero, List.set_cons_succ, i64_w, i32_w, u8_w, u32_w]
      rfl
     refine done_ (done_of HT_.out (by kernel_rfl)) ?_
     try go_wp2
     go_ret
     exact ⟨by first | rfl | (simp [errW_none, errW_some] <;> rfl) | (simp [*, errW_none, errW_some] <;> rfl), by repeat (first | (with_reducible first | exact HB.out | apply below_alloc | apply pw_below_drewN | apply below_drew1 | refine below_set ?_ zJ.out | refine below_set ?_ zK.out | refine below_set ?_ za.out | refine below_set ?_ zb.out) | exact HB.out)⟩
 ·replace c4 := Bool.eq_false_iff.mpr c4
  subst c4
  have H1 : (none) = some r := by rw [if_neg (show ¬ (false = true) by decide)] at H; exact H
  clear H
  have H := H1
  clear H1
  exact absurd H (by simp)

end Go.Proofs.Ytfbjdfgadhlhlaa.P
