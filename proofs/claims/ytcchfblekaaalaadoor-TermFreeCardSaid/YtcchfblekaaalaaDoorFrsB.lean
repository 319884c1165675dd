-- Printed by mkprint.py (a program of this session, over the kit's print). Lean checks it.
import Derived.Test.YtcchfblekaaalaaDoorPx0
import Derived.Test.YtcchfblekaaalaaDoorQx1
import Derived.Test.YtcchfblekaaalaaDoorQx3
import Derived.Test.YtcchfblekaaalaaDoorQx6
import Derived.Test.YtcchfblekaaalaaDoorQx10
import Derived.Test.YtcchfblekaaalaaDoorHandFree
import Derived.Test.YtcchfblekaaalaaDoorHandSubst
import Derived.Test.YtcchfblekaaalaaDoorPx1
import Derived.Test.YtcchfblekaaalaaDoorFrsA
import Derived.Test.YtcchfblekaaalaaDoorAl
namespace Go.Proofs.YtcchfblekaaalaaDoor.P
open Go.RowKit Go.Proofs.YtcchfblekaaalaaDoorW.PrintWords Go.Proofs.YtcchfblekaaalaaDoorW.PrintLast Go.Proofs.YtcchfblekaaalaaDoorW.PrintMore
attribute [local go_sem] max2_int min2_int max_two min_two max_three min_three max_four min_four   -- for this text's walks alone
set_option linter.unusedVariables false
set_option linter.unusedSimpArgs false

set_option maxHeartbeats 8000000 in
set_option maxRecDepth 100000 in
theorem thyrsuslaw4_TermFree.calls (k : Nat) (a0_0 : Int) (a0_1 : Int) (A0_2 : Option Addr) (c0_2 : Nat) (l0_2 : List (S24)) (a1_0 : Int) (a1_1 : Int) (A1_2 : Option Addr) (c1_2 : Nat) (l1_2 : List (S24)) (a2 : Int) (r : Bool) (w : World) (hr0_2 : Kd.C k24 w A0_2 l0_2.length l0_2) (hc0_2 : l0_2.length ≤ c0_2) (hr1_2 : Kd.C k24 w A1_2 l1_2.length l1_2) (hc1_2 : l1_2.length ≤ c1_2) (h : thyrsuslaw4_TermFree.f k a0_0 a0_1 l0_2 a1_0 a1_1 l1_2 a2 = some r) :
  Calls Tryd.prog 11 #[.agg #[.int .i64 a0_0, .int .i64 a0_1, .slice A0_2 l0_2.length c0_2], .agg #[.int .i64 a1_0, .int .i64 a1_1, .slice A1_2 l1_2.length c1_2], .int .i64 a2] w fun e w' => e = .returned (.bool r) ∧ Below w.heap.size w w' := by
 have hu24 := Tryd.underlying24
 have hu29 := Tryd.underlying29
 have xW := am_ hr0_2
 have xX := am_ hc0_2
 clear hr0_2 hc0_2
 have xb := am_ hr1_2
 have xc := am_ hc1_2
 clear hr1_2 hc1_2
 have HB := am_ (Below.refl w.heap.size w)
 have H : ((thyrsuslaw4_known.f k).bind fun t323 => (if t323 = true then ((thyrsuslaw1_Few.f k a0_0 a0_1 l0_2).bind fun xd => (if xd = true then ((thyrsuslaw1_Few.f k a1_0 a1_1 l1_2).bind fun xP => (thyrsuslaw4_TermFree.j0 k a2 (!xP) a0_0 a0_1 l0_2 a1_0 a1_1 l1_2)) else (thyrsuslaw4_TermFree.j0 k a2 true a0_0 a0_1 l0_2 a1_0 a1_1 l1_2))) else (none))) = some r := h
 clear h
 replace H := Option.bind_eq_some_iff.mp H
 obtain ⟨t323, A40, H⟩ := H
 replace H : (if t323 = true then ((thyrsuslaw1_Few.f k a0_0 a0_1 l0_2).bind fun xd => (if xd = true then ((thyrsuslaw1_Few.f k a1_0 a1_1 l1_2).bind fun xP => (thyrsuslaw4_TermFree.j0 k a2 (!xP) a0_0 a0_1 l0_2 a1_0 a1_1 l1_2)) else (thyrsuslaw4_TermFree.j0 k a2 true a0_0 a0_1 l0_2 a1_0 a1_1 l1_2))) else (none)) = some r := H
 have A4 := am_ A40
 clear A40
 by_cases c5 : t323 = true
 ·subst c5
  have H1 : ((thyrsuslaw1_Few.f k a0_0 a0_1 l0_2).bind fun xd => (if xd = true then ((thyrsuslaw1_Few.f k a1_0 a1_1 l1_2).bind fun xP => (thyrsuslaw4_TermFree.j0 k a2 (!xP) a0_0 a0_1 l0_2 a1_0 a1_1 l1_2)) else (thyrsuslaw4_TermFree.j0 k a2 true a0_0 a0_1 l0_2 a1_0 a1_1 l1_2))) = some r := by rw [if_pos rfl] at H; exact H
  clear H
  have H := H1
  clear H1
  have HC6 := am_ H
  clear H
  go_enter Tryd.func11, Tryd.ntmps11
  go_upto_region 3 with (first | ((with_reducible refine gate_dst (N := 3) rfl ?_); refine box_event ?hg (N := 3) ?hd (cs := #[.int .i64 a0_0, .int .i64 a0_1, .slice A0_2 l0_2.length c0_2]) (t := 24) ?hr ?_; (case hd => rfl); (case hg => rfl); (case hr => first | (go_simp; done) | (go_simp; rfl)); intro zB hg w7 hbox hb; have zf := am_ (ab5 (by repeat (first | (with_reducible first | exact HB.out | apply ab1 | apply ab2 | apply ab3) | exact HB.out)) hb); have zg := am_ (hbox); have zh := am_ ((by rw [hg]; exact (below_size (by repeat (first | (with_reducible first | exact HB.out | apply ab1 | apply ab2 | apply ab3) | exact HB.out))) : w.heap.size ≤ zB)); have zj := am_ ((by rw [hg]; exact (below_size (by repeat (first | (with_reducible first | exact HB.out | apply ab1 | apply ab2 | apply ab3) | exact HB.out))) : w.heap.size ≤ zB)); clear HB; have HB := zf; have zA := zg; have GW321 := zh; have zL := zj; clear zf zg zh zj; clear hb hbox hg) | ((with_reducible refine gate_dst (N := 4) rfl ?_); refine box_event ?hg (N := 4) ?hd (cs := #[.int .i64 a1_0, .int .i64 a1_1, .slice A1_2 l1_2.length c1_2]) (t := 24) ?hr ?_; (case hd => rfl); (case hg => rfl); (case hr => first | (go_simp; done) | (go_simp; rfl)); intro zC hg w8 hbox hb; have zf := am_ (aq4 (g := zB) (o := .cells #[.int .i64 a0_0, .int .i64 a0_1, .slice A0_2 l0_2.length c0_2] 24 (0, 0)) (by (with_reducible repeat (first | apply aq1 | apply aq2 | apply aq3)); exact zA.out) hb); have zg := am_ (ab5 (by repeat (first | (with_reducible first | exact HB.out | apply ab1 | apply ab2 | apply ab3 | refine ab4 ?_ zL.out) | exact HB.out)) hb); have zh := am_ (hbox); have zj := am_ ((by rw [hg]; exact (below_size (by repeat (first | (with_reducible first | exact HB.out | apply ab1 | apply ab2 | apply ab3 | refine ab4 ?_ zL.out) | exact HB.out))) : w.heap.size ≤ zC)); have zk := am_ ((by rw [hg]; exact (below_size (by repeat (first | (with_reducible first | exact HB.out | apply ab1 | apply ab2 | apply ab3 | refine ab4 ?_ zL.out) | exact HB.out))) : w.heap.size ≤ zC)); have zn := am_ ((by rw [hg]; exact Nat.ne_of_lt (blk_lt (g := zB) (o := .cells #[.int .i64 a0_0, .int .i64 a0_1, .slice A0_2 l0_2.length c0_2] 24 (0, 0)) (by (with_reducible repeat (first | apply aq1 | apply aq2 | apply aq3)); exact zA.out)) : zB ≠ zC)); have zp := am_ ((by rw [hg]; exact Nat.ne_of_gt (blk_lt (g := zB) (o := .cells #[.int .i64 a0_0, .int .i64 a0_1, .slice A0_2 l0_2.length c0_2] 24 (0, 0)) (by (with_reducible repeat (first | apply aq1 | apply aq2 | apply aq3)); exact zA.out)) : zC ≠ zB)); clear zA; clear HB; have zA := zf; have HB := zg; have zD := zh; have GW322 := zj; have zM := zk; have xY := zn; have xZ := zp; clear zf zg zh zj zk zn zp; clear hb hbox hg) | ((with_reducible refine gate_callee (f := 14) rfl ?_); refine goesL_ (some 13) rfl rfl Tryd.func14 (by kernel_rfl) rfl #[] rfl (by (try simp only [List.map_toArray, List.map_cons, List.map_nil]); first | done | rfl | (simp only [List.length_drop, List.length_take]; rfl)) ?_; (with_reducible refine (thyrsuslaw4_known.calls k  true _ A4.out).mono ?_); rintro e w9 ⟨rfl, hb⟩; refine ⟨_, rfl, ?_⟩; have zf := am_ (aq4 (g := zB) (o := .cells #[.int .i64 a0_0, .int .i64 a0_1, .slice A0_2 l0_2.length c0_2] 24 (0, 0)) (by (with_reducible repeat (first | apply aq1 | apply aq2 | apply aq3)); exact zA.out) hb); have zg := am_ (aq4 (g := zC) (o := .cells #[.int .i64 a1_0, .int .i64 a1_1, .slice A1_2 l1_2.length c1_2] 24 (0, 0)) (by (with_reducible repeat (first | apply aq1 | apply aq2 | apply aq3)); exact zD.out) hb); have zh := am_ (ab5 (by repeat (first | (with_reducible first | exact HB.out | apply ab1 | apply ab2 | apply ab3 | refine ab4 ?_ zL.out | refine ab4 ?_ zM.out) | exact HB.out)) hb); clear zA; clear zD; clear HB; have zA := zf; have zD := zg; have HB := zh; clear zf zg zh; (try clear hb); (try clear hb2); (try clear hk); (try clear hi)))
  (try simp only [Act.put, List.setIfInBounds_toArray, List.set_cons_zero, List.set_cons_succ])
  go_cut [22] (fun v22 wc => ∃ (kq : Nat) (xg : Bool), v22 = .bool xg ∧ Aside0 (thyrsuslaw4_TermFree.j0 kq a2 xg a0_0 a0_1 l0_2 a1_0 a1_1 l1_2 = some r) ∧ Aside0 (kq ≤ k) ∧ Aside0 (wc.heap[zB]? = some (.cells #[.int .i64 a0_0, .int .i64 a0_1, (.slice A0_2 l0_2.length c0_2)] 24 (0, 0))) ∧ Aside0 (wc.heap[zC]? = some (.cells #[.int .i64 a1_0, .int .i64 a1_1, (.slice A1_2 l1_2.length c1_2)] 24 (0, 0))) ∧ Aside0 (Below w.heap.size w wc))
  case first =>
   have H := HC6.out
   clear HC6
   replace H := Option.bind_eq_some_iff.mp H
   obtain ⟨xd, A100, H⟩ := H
   replace H : (if xd = true then ((thyrsuslaw1_Few.f k a1_0 a1_1 l1_2).bind fun xP => (thyrsuslaw4_TermFree.j0 k a2 (!xP) a0_0 a0_1 l0_2 a1_0 a1_1 l1_2)) else (thyrsuslaw4_TermFree.j0 k a2 true a0_0 a0_1 l0_2 a1_0 a1_1 l1_2)) = some r := H
   have A10 := am_ A100
   clear A100
   by_cases c11 : xd = true
   ·subst c11
    have H1 : ((thyrsuslaw1_Few.f k a1_0 a1_1 l1_2).bind fun xP => (thyrsuslaw4_TermFree.j0 k a2 (!xP) a0_0 a0_1 l0_2 a1_0 a1_1 l1_2)) = some r := by rw [if_pos rfl] at H; exact H
    clear H
    have H := H1
    clear H1
    replace H := Option.bind_eq_some_iff.mp H
    obtain ⟨xP, A120, H⟩ := H
    replace H : (thyrsuslaw4_TermFree.j0 k a2 (!xP) a0_0 a0_1 l0_2 a1_0 a1_1 l1_2) = some r := H
    have A12 := am_ A120
    clear A120
    have H' := am_ H
    clear H
    have hnb13 := xY.out
    have hnc13 := xZ.out
    have hcz14_0 : w9.cell? ⟨zB, 0, none⟩ = some (.int .i64 a0_0) := (aq7 zA.out 0).trans rfl
    have hcz14_1 : w9.cell? ⟨zB, 1, none⟩ = some (.int .i64 a0_1) := (aq7 zA.out 1).trans rfl
    have hcz14_2 : w9.cell? ⟨zB, 2, none⟩ = some (.slice A0_2 l0_2.length c0_2) := (aq7 zA.out 2).trans rfl
    have hfz14_0 := aq8 zA.out 0
    have hfz14_1 := aq8 zA.out 1
    have hfz14_2 := aq8 zA.out 2
    go_wp2_with (first | ((with_reducible refine gate_callee (f := 15) rfl ?_); refine goesL_ (some 16) rfl rfl Tryd.func15 (by kernel_rfl) rfl #[.agg #[.int .i64 a0_0, .int .i64 a0_1, .slice A0_2 l0_2.length c0_2]] rfl (by (try simp only [List.map_toArray, List.map_cons, List.map_nil]); first | done | rfl | (simp only [List.length_drop, List.length_take]; rfl)) ?_; (with_reducible refine (thyrsuslaw1_Few.calls k a0_0 a0_1 _ _ l0_2 true _ ?side1 ?side2 A10.out).mono ?_); (case side1 => repeat (first | exact (Kd.C_below xW.out HB.out) | (with_reducible refine ac2 ?_ _) | (with_reducible refine ac3 ?_ _) | (with_reducible refine ac4 ?_))); (case side2 => exact xX.out); rintro e w15 ⟨rfl, hb⟩; refine ⟨_, rfl, ?_⟩; have zf := am_ (aq4 (g := zB) (o := .cells #[.int .i64 a0_0, .int .i64 a0_1, .slice A0_2 l0_2.length c0_2] 24 (0, 0)) (by (with_reducible repeat (first | apply aq1 | apply aq2 | apply aq3)); exact zA.out) hb); have zg := am_ (aq4 (g := zC) (o := .cells #[.int .i64 a1_0, .int .i64 a1_1, .slice A1_2 l1_2.length c1_2] 24 (0, 0)) (by (with_reducible repeat (first | apply aq1 | apply aq2 | apply aq3)); exact zD.out) hb); have zh := am_ (ab5 (by repeat (first | (with_reducible first | exact HB.out | apply ab1 | apply ab2 | apply ab3 | refine ab4 ?_ zL.out | refine ab4 ?_ zM.out) | exact HB.out)) hb); clear zA; clear zD; clear HB; have zA := zf; have zD := zg; have HB := zh; clear zf zg zh; (try clear hb); (try clear hb2); (try clear hk); (try clear hi); have hcz16_0 : w15.cell? ⟨zC, 0, none⟩ = some (.int .i64 a1_0) := (aq7 zD.out 0).trans rfl; have hcz16_1 : w15.cell? ⟨zC, 1, none⟩ = some (.int .i64 a1_1) := (aq7 zD.out 1).trans rfl; have hcz16_2 : w15.cell? ⟨zC, 2, none⟩ = some (.slice A1_2 l1_2.length c1_2) := (aq7 zD.out 2).trans rfl; have hfz16_0 := aq8 zD.out 0; have hfz16_1 := aq8 zD.out 1; have hfz16_2 := aq8 zD.out 2) | (go_at_call 15; (with_reducible refine (thyrsuslaw1_Few.calls k a1_0 a1_1 _ _ l1_2 xP _ ?side1 ?side2 A12.out).mono ?_); (case side1 => repeat (first | exact (Kd.C_below xb.out HB.out) | (with_reducible refine ac2 ?_ _) | (with_reducible refine ac3 ?_ _) | (with_reducible refine ac4 ?_))); (case side2 => exact xc.out); rintro e w17 ⟨rfl, hb⟩; have zf := am_ (aq4 (g := zB) (o := .cells #[.int .i64 a0_0, .int .i64 a0_1, .slice A0_2 l0_2.length c0_2] 24 (0, 0)) (by (with_reducible repeat (first | apply aq1 | apply aq2 | apply aq3)); exact zA.out) hb); have zg := am_ (aq4 (g := zC) (o := .cells #[.int .i64 a1_0, .int .i64 a1_1, .slice A1_2 l1_2.length c1_2] 24 (0, 0)) (by (with_reducible repeat (first | apply aq1 | apply aq2 | apply aq3)); exact zD.out) hb); have zh := am_ (ab5 (by repeat (first | (with_reducible first | exact HB.out | apply ab1 | apply ab2 | apply ab3 | refine ab4 ?_ zL.out | refine ab4 ?_ zM.out) | exact HB.out)) hb); clear zA; clear zD; clear HB; have zA := zf; have zD := zg; have HB := zh; clear zf zg zh; (try clear hb); (try clear hb2); (try clear hk); (try clear hi)))
    go_meet
    case rel => exact ⟨_, (!xP), (by first | rfl | (simp; done) | (simp [*]; done)), H', ⟨by first | omega | exact Nat.le_refl _⟩, ⟨by (with_reducible repeat (first | apply aq1 | apply aq2 | apply aq3)); exact zA.out⟩, ⟨by (with_reducible repeat (first | apply aq1 | apply aq2 | apply aq3)); exact zD.out⟩, ⟨by repeat (first | (with_reducible first | exact HB.out | apply ab1 | apply ab2 | apply ab3 | refine ab4 ?_ zL.out | refine ab4 ?_ zM.out) | exact HB.out)⟩⟩
   ·replace c11 := Bool.eq_false_iff.mpr c11
    subst c11
    have H1 : (thyrsuslaw4_TermFree.j0 k a2 true a0_0 a0_1 l0_2 a1_0 a1_1 l1_2) = some r := by rw [if_neg (show ¬ (false = true) by decide)] at H; exact H
    clear H
    have H := H1
    clear H1
    have H' := am_ H
    clear H
    have hnb18 := xY.out
    have hnc18 := xZ.out
    have hcz19_0 : w9.cell? ⟨zB, 0, none⟩ = some (.int .i64 a0_0) := (aq7 zA.out 0).trans rfl
    have hcz19_1 : w9.cell? ⟨zB, 1, none⟩ = some (.int .i64 a0_1) := (aq7 zA.out 1).trans rfl
    have hcz19_2 : w9.cell? ⟨zB, 2, none⟩ = some (.slice A0_2 l0_2.length c0_2) := (aq7 zA.out 2).trans rfl
    have hfz19_0 := aq8 zA.out 0
    have hfz19_1 := aq8 zA.out 1
    have hfz19_2 := aq8 zA.out 2
    go_wp2_with (first | ((with_reducible refine gate_callee (f := 15) rfl ?_); refine goesL_ (some 16) rfl rfl Tryd.func15 (by kernel_rfl) rfl #[.agg #[.int .i64 a0_0, .int .i64 a0_1, .slice A0_2 l0_2.length c0_2]] rfl (by (try simp only [List.map_toArray, List.map_cons, List.map_nil]); first | done | rfl | (simp only [List.length_drop, List.length_take]; rfl)) ?_; (with_reducible refine (thyrsuslaw1_Few.calls k a0_0 a0_1 _ _ l0_2 false _ ?side1 ?side2 A10.out).mono ?_); (case side1 => repeat (first | exact (Kd.C_below xW.out HB.out) | (with_reducible refine ac2 ?_ _) | (with_reducible refine ac3 ?_ _) | (with_reducible refine ac4 ?_))); (case side2 => exact xX.out); rintro e w20 ⟨rfl, hb⟩; refine ⟨_, rfl, ?_⟩; have zf := am_ (aq4 (g := zB) (o := .cells #[.int .i64 a0_0, .int .i64 a0_1, .slice A0_2 l0_2.length c0_2] 24 (0, 0)) (by (with_reducible repeat (first | apply aq1 | apply aq2 | apply aq3)); exact zA.out) hb); have zg := am_ (aq4 (g := zC) (o := .cells #[.int .i64 a1_0, .int .i64 a1_1, .slice A1_2 l1_2.length c1_2] 24 (0, 0)) (by (with_reducible repeat (first | apply aq1 | apply aq2 | apply aq3)); exact zD.out) hb); have zh := am_ (ab5 (by repeat (first | (with_reducible first | exact HB.out | apply ab1 | apply ab2 | apply ab3 | refine ab4 ?_ zL.out | refine ab4 ?_ zM.out) | exact HB.out)) hb); clear zA; clear zD; clear HB; have zA := zf; have zD := zg; have HB := zh; clear zf zg zh; (try clear hb); (try clear hb2); (try clear hk); (try clear hi)))
    go_meet
    case rel => exact ⟨_, (true), (by first | rfl | (simp; done) | (simp [*]; done)), H', ⟨by first | omega | exact Nat.le_refl _⟩, ⟨by (with_reducible repeat (first | apply aq1 | apply aq2 | apply aq3)); exact zA.out⟩, ⟨by (with_reducible repeat (first | apply aq1 | apply aq2 | apply aq3)); exact zD.out⟩, ⟨by repeat (first | (with_reducible first | exact HB.out | apply ab1 | apply ab2 | apply ab3 | refine ab4 ?_ zL.out | refine ab4 ?_ zM.out) | exact HB.out)⟩⟩
  case rest =>
   clear HC6
   try clear c1
   try clear p2
   try clear c5
   try clear c11
   try clear c13
   try clear c14
   try clear c15
   try clear c18
   try clear hcz14_0
   try clear hcz14_1
   try clear hcz14_2
   try clear hcz16_0
   try clear hcz16_1
   try clear hcz16_2
   try clear hcz19_0
   try clear hcz19_1
   try clear hcz19_2
   try clear hfz14_0
   try clear hfz14_1
   try clear hfz14_2
   try clear hfz16_0
   try clear hfz16_1
   try clear hfz16_2
   try clear hfz19_0
   try clear hfz19_1
   try clear hfz19_2
   obtain ⟨kq, xg, rfl, HA, HJ5, zA, zD, HB⟩ := hcut
   cases kq with
   | zero => exact absurd HA.out (by simp [thyrsuslaw4_TermFree.j0])
   | succ xe =>
    have H := HA.out
    clear HA
    simp only [thyrsuslaw4_TermFree.j0] at H
    by_cases c21 : xg = true
    ·subst c21
     have H1 : (some true) = some r := by rw [if_pos rfl] at H; exact H
     clear H
     have H := H1
     clear H1
     obtain rfl := Option.some.inj H
     go_wp2
     go_ret
     exact ⟨by first | rfl | (simp [errW_none, errW_some] <;> rfl) | (simp [*, errW_none, errW_some] <;> rfl), by repeat (first | (with_reducible first | exact HB.out | apply ab1 | apply ab2 | apply ab3 | refine ab4 ?_ zL.out | refine ab4 ?_ zM.out) | exact HB.out)⟩
    ·replace c21 := Bool.eq_false_iff.mpr c21
     subst c21
     have H1 : ((thyrsuslaw1_Make.f xe a0_0 a0_1 l0_2 6 3).bind fun bt326 => ((thyrsuslaw1_Make.f xe a1_0 a1_1 l1_2 4 3).bind fun bt331 => ((thyrsuslaw4_within.f a2 8).bind fun z3 => (thyrsuslaw4_TermFree.l0 xe z3 true z3 bt326.1 bt326.2.1 bt326.2.2 bt331.1 bt331.2.1 bt331.2.2)))) = some r := by rw [if_neg (show ¬ (false = true) by decide)] at H; exact H
     clear H
     have H := H1
     clear H1
     replace H := Option.bind_eq_some_iff.mp H
     obtain ⟨⟨zd, ze, zb⟩, A220, H⟩ := H
     replace H : ((thyrsuslaw1_Make.f xe a1_0 a1_1 l1_2 4 3).bind fun bt331 => ((thyrsuslaw4_within.f a2 8).bind fun z3 => (thyrsuslaw4_TermFree.l0 xe z3 true z3 zd ze zb bt331.1 bt331.2.1 bt331.2.2))) = some r := H
     have A22 := am_ A220
     clear A220
     replace H := Option.bind_eq_some_iff.mp H
     obtain ⟨⟨zm, zo, zi⟩, A230, H⟩ := H
     replace H : ((thyrsuslaw4_within.f a2 8).bind fun z3 => (thyrsuslaw4_TermFree.l0 xe z3 true z3 zd ze zb zm zo zi)) = some r := H
     have A23 := am_ A230
     clear A230
     replace H := Option.bind_eq_some_iff.mp H
     obtain ⟨z3, A240, H⟩ := H
     replace H : (thyrsuslaw4_TermFree.l0 xe z3 true z3 zd ze zb zm zo zi) = some r := H
     have A24 := am_ A240
     clear A240
     have H' := am_ H
     clear H
     try go_wp2
     have zf := am_ (aq2 zA.out)
     have zg := am_ (aq2 zD.out)
     have zh := am_ (ab3 HB.out)
     clear zA
     clear zD
     clear HB
     have zA := zf
     have zD := zg
     have HB := zh
     clear zf zg zh
     refine start_ (n := 8) (S := fun w' => w'.cell? ⟨zB, 0, none⟩ = some (.int .i64 a0_0) ∧ w'.cell? ⟨zB, 1, none⟩ = some (.int .i64 a0_1) ∧ w'.cell? ⟨zB, 2, none⟩ = some (.slice A0_2 l0_2.length c0_2) ∧ w'.cell? ⟨zC, 0, none⟩ = some (.int .i64 a1_0) ∧ w'.cell? ⟨zC, 1, none⟩ = some (.int .i64 a1_1) ∧ w'.cell? ⟨zC, 2, none⟩ = some (.slice A1_2 l1_2.length c1_2)) (ds := []) #[false, false, false, false, false, false, false, false] (by kernel_rfl) rfl rfl ⟨(aq7 zA.out 0).trans rfl, (aq7 zA.out 1).trans rfl, (aq7 zA.out 2).trans rfl, (aq7 zD.out 0).trans rfl, (aq7 zD.out 1).trans rfl, (aq7 zD.out 2).trans rfl⟩ (fun hHeld => ?_); refine with_tabW thyrsuslaw4_TermFree.tab5 thyrsuslaw4_TermFree.bits5 (fun HT_ HW_ => ?_)
     generalize wc.drew = w25 at zA zD HB hHeld ⊢
     refine take_ (i := 0) (N := some 23) (v := ?_) (a' := ?_) #[true, false, false, false, false, false, false, false] rfl rfl (take_ofW HT_.out HW_.out (by kernel_rfl)) (fun _ _ _ h => h) (Or.inl ⟨by rfl, ?_⟩) hHeld ?_ ?_
     rotate_left
     ·rintro w' ⟨s0, s1, s2, s3, s4, s5⟩
      go_simp
      with_reducible rfl
     rotate_left
     ·simp only [Act.put, List.setIfInBounds_toArray, List.set_cons_zero, List.set_cons_succ, i64_w, i32_w, u8_w, u32_w]
      rfl
     refine take_ (i := 2) (N := some 25) (v := ?_) (a' := ?_) #[true, false, true, false, false, false, false, false] rfl rfl (take_ofW HT_.out HW_.out (by kernel_rfl)) (fun _ _ _ h => h) (Or.inl ⟨by rfl, ?_⟩) hHeld ?_ ?_
     rotate_left
     ·rintro w' ⟨s0, s1, s2, s3, s4, s5⟩
      go_simp
      with_reducible rfl
     rotate_left
     ·simp only [Act.put, List.setIfInBounds_toArray, List.set_cons_zero, List.set_cons_succ, i64_w, i32_w, u8_w, u32_w]
      rfl
     refine join_ (σ := Value × Value × Nat × Nat) 2 #[true, true, true, true, true, true, false, false] (fun s_ => [(24, .agg #[.int .i64 zd, .int .i64 ze, s_.1]), (26, .agg #[.int .i64 zm, .int .i64 zo, s_.2.1]), (7, .pointer (some ⟨s_.2.2.1, 0, none⟩)), (8, .pointer (some ⟨s_.2.2.2, 0, none⟩))]) (fun s_ w' => (w'.cell? ⟨zB, 0, none⟩ = some (.int .i64 a0_0) ∧ w'.cell? ⟨zB, 1, none⟩ = some (.int .i64 a0_1) ∧ w'.cell? ⟨zB, 2, none⟩ = some (.slice A0_2 l0_2.length c0_2) ∧ w'.cell? ⟨zC, 0, none⟩ = some (.int .i64 a1_0) ∧ w'.cell? ⟨zC, 1, none⟩ = some (.int .i64 a1_1) ∧ w'.cell? ⟨zC, 2, none⟩ = some (.slice A1_2 l1_2.length c1_2)) ∧ (Kd.N k29 29 w' w.heap.size (fun k_ => some k_ ≠ (s_.2.1 : Value).ownBlock ∧ k_ ≠ zB ∧ k_ ≠ zC ∧ k_ ≠ s_.2.2.1 ∧ k_ ≠ s_.2.2.2) s_.1 zb) ∧ (Kd.N k29 29 w' w.heap.size (fun k_ => some k_ ≠ (s_.1 : Value).ownBlock ∧ k_ ≠ zB ∧ k_ ≠ zC ∧ k_ ≠ s_.2.2.1 ∧ k_ ≠ s_.2.2.2) s_.2.1 zi) ∧ (w'.heap[zB]? = some (.cells #[.int .i64 a0_0, .int .i64 a0_1, .slice A0_2 l0_2.length c0_2] 24 (0, 0))) ∧ (w'.heap[zC]? = some (.cells #[.int .i64 a1_0, .int .i64 a1_1, .slice A1_2 l1_2.length c1_2] 24 (0, 0))) ∧ (w'.heap[s_.2.2.1]? = some (.cells #[.int .i64 0, .int .i64 0, .slice none 0 0] 29 (0, 0))) ∧ (w'.heap[s_.2.2.2]? = some (.cells #[.int .i64 0, .int .i64 0, .slice none 0 0] 29 (0, 0))) ∧ (w.heap.size ≤ s_.2.2.1) ∧ (w.heap.size ≤ s_.2.2.1) ∧ (zB ≠ s_.2.2.1) ∧ (s_.2.2.1 ≠ zB) ∧ (zC ≠ s_.2.2.1) ∧ (s_.2.2.1 ≠ zC) ∧ (s_.2.2.2 ≠ s_.2.2.1) ∧ (s_.2.2.1 ≠ s_.2.2.2) ∧ (w.heap.size ≤ s_.2.2.2) ∧ (w.heap.size ≤ s_.2.2.2) ∧ (zB ≠ s_.2.2.2) ∧ (s_.2.2.2 ≠ zB) ∧ (zC ≠ s_.2.2.2) ∧ (s_.2.2.2 ≠ zC) ∧ (Below w.heap.size w w')) ?_ ?_
     rotate_left
     ·intro hJ1_3_4_5
      refine join_ (σ := Value × Value × Nat) 3 #[true, true, true, true, true, false, false, false] (fun s_ => [(24, .agg #[.int .i64 zd, .int .i64 ze, s_.1]), (26, .agg #[.int .i64 zm, .int .i64 zo, s_.2.1]), (7, .pointer (some ⟨s_.2.2, 0, none⟩))]) (fun s_ w' => (w'.cell? ⟨zB, 0, none⟩ = some (.int .i64 a0_0) ∧ w'.cell? ⟨zB, 1, none⟩ = some (.int .i64 a0_1) ∧ w'.cell? ⟨zB, 2, none⟩ = some (.slice A0_2 l0_2.length c0_2) ∧ w'.cell? ⟨zC, 0, none⟩ = some (.int .i64 a1_0) ∧ w'.cell? ⟨zC, 1, none⟩ = some (.int .i64 a1_1) ∧ w'.cell? ⟨zC, 2, none⟩ = some (.slice A1_2 l1_2.length c1_2)) ∧ (Kd.N k29 29 w' w.heap.size (fun k_ => some k_ ≠ (s_.2.1 : Value).ownBlock ∧ k_ ≠ zB ∧ k_ ≠ zC ∧ k_ ≠ s_.2.2) s_.1 zb) ∧ (Kd.N k29 29 w' w.heap.size (fun k_ => some k_ ≠ (s_.1 : Value).ownBlock ∧ k_ ≠ zB ∧ k_ ≠ zC ∧ k_ ≠ s_.2.2) s_.2.1 zi) ∧ (w'.heap[zB]? = some (.cells #[.int .i64 a0_0, .int .i64 a0_1, .slice A0_2 l0_2.length c0_2] 24 (0, 0))) ∧ (w'.heap[zC]? = some (.cells #[.int .i64 a1_0, .int .i64 a1_1, .slice A1_2 l1_2.length c1_2] 24 (0, 0))) ∧ (w'.heap[s_.2.2]? = some (.cells #[.int .i64 0, .int .i64 0, .slice none 0 0] 29 (0, 0))) ∧ (w.heap.size ≤ s_.2.2) ∧ (w.heap.size ≤ s_.2.2) ∧ (zB ≠ s_.2.2) ∧ (s_.2.2 ≠ zB) ∧ (zC ≠ s_.2.2) ∧ (s_.2.2 ≠ zC) ∧ (Below w.heap.size w w')) ?_ ?_
      rotate_left
      ·intro hJ1_3_4
       refine join_ (σ := Value × Value × Nat) 3 #[true, true, true, true, false, true, false, false] (fun s_ => [(24, .agg #[.int .i64 zd, .int .i64 ze, s_.1]), (26, .agg #[.int .i64 zm, .int .i64 zo, s_.2.1]), (8, .pointer (some ⟨s_.2.2, 0, none⟩))]) (fun s_ w' => (w'.cell? ⟨zB, 0, none⟩ = some (.int .i64 a0_0) ∧ w'.cell? ⟨zB, 1, none⟩ = some (.int .i64 a0_1) ∧ w'.cell? ⟨zB, 2, none⟩ = some (.slice A0_2 l0_2.length c0_2) ∧ w'.cell? ⟨zC, 0, none⟩ = some (.int .i64 a1_0) ∧ w'.cell? ⟨zC, 1, none⟩ = some (.int .i64 a1_1) ∧ w'.cell? ⟨zC, 2, none⟩ = some (.slice A1_2 l1_2.length c1_2)) ∧ (Kd.N k29 29 w' w.heap.size (fun k_ => some k_ ≠ (s_.2.1 : Value).ownBlock ∧ k_ ≠ zB ∧ k_ ≠ zC ∧ k_ ≠ s_.2.2) s_.1 zb) ∧ (Kd.N k29 29 w' w.heap.size (fun k_ => some k_ ≠ (s_.1 : Value).ownBlock ∧ k_ ≠ zB ∧ k_ ≠ zC ∧ k_ ≠ s_.2.2) s_.2.1 zi) ∧ (w'.heap[zB]? = some (.cells #[.int .i64 a0_0, .int .i64 a0_1, .slice A0_2 l0_2.length c0_2] 24 (0, 0))) ∧ (w'.heap[zC]? = some (.cells #[.int .i64 a1_0, .int .i64 a1_1, .slice A1_2 l1_2.length c1_2] 24 (0, 0))) ∧ (w'.heap[s_.2.2]? = some (.cells #[.int .i64 0, .int .i64 0, .slice none 0 0] 29 (0, 0))) ∧ (w.heap.size ≤ s_.2.2) ∧ (w.heap.size ≤ s_.2.2) ∧ (zB ≠ s_.2.2) ∧ (s_.2.2 ≠ zB) ∧ (zC ≠ s_.2.2) ∧ (s_.2.2 ≠ zC) ∧ (Below w.heap.size w w')) ?_ ?_
       rotate_left
       ·intro hJ1_3_5
        refine join_ (σ := Value × Nat × Nat) 3 #[true, true, true, false, true, true, false, false] (fun s_ => [(24, .agg #[.int .i64 zd, .int .i64 ze, s_.1]), (7, .pointer (some ⟨s_.2.1, 0, none⟩)), (8, .pointer (some ⟨s_.2.2, 0, none⟩))]) (fun s_ w' => (w'.cell? ⟨zB, 0, none⟩ = some (.int .i64 a0_0) ∧ w'.cell? ⟨zB, 1, none⟩ = some (.int .i64 a0_1) ∧ w'.cell? ⟨zB, 2, none⟩ = some (.slice A0_2 l0_2.length c0_2) ∧ w'.cell? ⟨zC, 0, none⟩ = some (.int .i64 a1_0) ∧ w'.cell? ⟨zC, 1, none⟩ = some (.int .i64 a1_1) ∧ w'.cell? ⟨zC, 2, none⟩ = some (.slice A1_2 l1_2.length c1_2)) ∧ (Kd.N k29 29 w' w.heap.size (fun k_ => k_ ≠ zB ∧ k_ ≠ zC ∧ k_ ≠ s_.2.1 ∧ k_ ≠ s_.2.2) s_.1 zb) ∧ (w'.heap[zB]? = some (.cells #[.int .i64 a0_0, .int .i64 a0_1, .slice A0_2 l0_2.length c0_2] 24 (0, 0))) ∧ (w'.heap[zC]? = some (.cells #[.int .i64 a1_0, .int .i64 a1_1, .slice A1_2 l1_2.length c1_2] 24 (0, 0))) ∧ (w'.heap[s_.2.1]? = some (.cells #[.int .i64 0, .int .i64 0, .slice none 0 0] 29 (0, 0))) ∧ (w'.heap[s_.2.2]? = some (.cells #[.int .i64 0, .int .i64 0, .slice none 0 0] 29 (0, 0))) ∧ (w.heap.size ≤ s_.2.1) ∧ (w.heap.size ≤ s_.2.1) ∧ (zB ≠ s_.2.1) ∧ (s_.2.1 ≠ zB) ∧ (zC ≠ s_.2.1) ∧ (s_.2.1 ≠ zC) ∧ (s_.2.2 ≠ s_.2.1) ∧ (s_.2.1 ≠ s_.2.2) ∧ (w.heap.size ≤ s_.2.2) ∧ (w.heap.size ≤ s_.2.2) ∧ (zB ≠ s_.2.2) ∧ (s_.2.2 ≠ zB) ∧ (zC ≠ s_.2.2) ∧ (s_.2.2 ≠ zC) ∧ (Below w.heap.size w w')) ?_ ?_
        rotate_left
        ·intro hJ1_4_5
         refine join_ (σ := Value × Value) 4 #[true, true, true, true, false, false, false, false] (fun s_ => [(24, .agg #[.int .i64 zd, .int .i64 ze, s_.1]), (26, .agg #[.int .i64 zm, .int .i64 zo, s_.2])]) (fun s_ w' => (w'.cell? ⟨zB, 0, none⟩ = some (.int .i64 a0_0) ∧ w'.cell? ⟨zB, 1, none⟩ = some (.int .i64 a0_1) ∧ w'.cell? ⟨zB, 2, none⟩ = some (.slice A0_2 l0_2.length c0_2) ∧ w'.cell? ⟨zC, 0, none⟩ = some (.int .i64 a1_0) ∧ w'.cell? ⟨zC, 1, none⟩ = some (.int .i64 a1_1) ∧ w'.cell? ⟨zC, 2, none⟩ = some (.slice A1_2 l1_2.length c1_2)) ∧ (Kd.N k29 29 w' w.heap.size (fun k_ => some k_ ≠ (s_.2 : Value).ownBlock ∧ k_ ≠ zB ∧ k_ ≠ zC) s_.1 zb) ∧ (Kd.N k29 29 w' w.heap.size (fun k_ => some k_ ≠ (s_.1 : Value).ownBlock ∧ k_ ≠ zB ∧ k_ ≠ zC) s_.2 zi) ∧ (w'.heap[zB]? = some (.cells #[.int .i64 a0_0, .int .i64 a0_1, .slice A0_2 l0_2.length c0_2] 24 (0, 0))) ∧ (w'.heap[zC]? = some (.cells #[.int .i64 a1_0, .int .i64 a1_1, .slice A1_2 l1_2.length c1_2] 24 (0, 0))) ∧ (Below w.heap.size w w')) ?_ ?_
         rotate_left
         ·intro hJ1_3
          refine join_ (σ := Value × Nat) 4 #[true, true, true, false, true, false, false, false] (fun s_ => [(24, .agg #[.int .i64 zd, .int .i64 ze, s_.1]), (7, .pointer (some ⟨s_.2, 0, none⟩))]) (fun s_ w' => (w'.cell? ⟨zB, 0, none⟩ = some (.int .i64 a0_0) ∧ w'.cell? ⟨zB, 1, none⟩ = some (.int .i64 a0_1) ∧ w'.cell? ⟨zB, 2, none⟩ = some (.slice A0_2 l0_2.length c0_2) ∧ w'.cell? ⟨zC, 0, none⟩ = some (.int .i64 a1_0) ∧ w'.cell? ⟨zC, 1, none⟩ = some (.int .i64 a1_1) ∧ w'.cell? ⟨zC, 2, none⟩ = some (.slice A1_2 l1_2.length c1_2)) ∧ (Kd.N k29 29 w' w.heap.size (fun k_ => k_ ≠ zB ∧ k_ ≠ zC ∧ k_ ≠ s_.2) s_.1 zb) ∧ (w'.heap[zB]? = some (.cells #[.int .i64 a0_0, .int .i64 a0_1, .slice A0_2 l0_2.length c0_2] 24 (0, 0))) ∧ (w'.heap[zC]? = some (.cells #[.int .i64 a1_0, .int .i64 a1_1, .slice A1_2 l1_2.length c1_2] 24 (0, 0))) ∧ (w'.heap[s_.2]? = some (.cells #[.int .i64 0, .int .i64 0, .slice none 0 0] 29 (0, 0))) ∧ (w.heap.size ≤ s_.2) ∧ (w.heap.size ≤ s_.2) ∧ (zB ≠ s_.2) ∧ (s_.2 ≠ zB) ∧ (zC ≠ s_.2) ∧ (s_.2 ≠ zC) ∧ (Below w.heap.size w w')) ?_ ?_
          rotate_left
          ·intro hJ1_4
           refine join_ (σ := Value × Nat) 4 #[true, true, true, false, false, true, false, false] (fun s_ => [(24, .agg #[.int .i64 zd, .int .i64 ze, s_.1]), (8, .pointer (some ⟨s_.2, 0, none⟩))]) (fun s_ w' => (w'.cell? ⟨zB, 0, none⟩ = some (.int .i64 a0_0) ∧ w'.cell? ⟨zB, 1, none⟩ = some (.int .i64 a0_1) ∧ w'.cell? ⟨zB, 2, none⟩ = some (.slice A0_2 l0_2.length c0_2) ∧ w'.cell? ⟨zC, 0, none⟩ = some (.int .i64 a1_0) ∧ w'.cell? ⟨zC, 1, none⟩ = some (.int .i64 a1_1) ∧ w'.cell? ⟨zC, 2, none⟩ = some (.slice A1_2 l1_2.length c1_2)) ∧ (Kd.N k29 29 w' w.heap.size (fun k_ => k_ ≠ zB ∧ k_ ≠ zC ∧ k_ ≠ s_.2) s_.1 zb) ∧ (w'.heap[zB]? = some (.cells #[.int .i64 a0_0, .int .i64 a0_1, .slice A0_2 l0_2.length c0_2] 24 (0, 0))) ∧ (w'.heap[zC]? = some (.cells #[.int .i64 a1_0, .int .i64 a1_1, .slice A1_2 l1_2.length c1_2] 24 (0, 0))) ∧ (w'.heap[s_.2]? = some (.cells #[.int .i64 0, .int .i64 0, .slice none 0 0] 29 (0, 0))) ∧ (w.heap.size ≤ s_.2) ∧ (w.heap.size ≤ s_.2) ∧ (zB ≠ s_.2) ∧ (s_.2 ≠ zB) ∧ (zC ≠ s_.2) ∧ (s_.2 ≠ zC) ∧ (Below w.heap.size w w')) ?_ ?_
           rotate_left
           ·intro hJ1_5
            refine join_ (σ := Nat × Nat) 4 #[true, false, true, false, true, true, false, false] (fun s_ => [(7, .pointer (some ⟨s_.1, 0, none⟩)), (8, .pointer (some ⟨s_.2, 0, none⟩))]) (fun s_ w' => (w'.cell? ⟨zB, 0, none⟩ = some (.int .i64 a0_0) ∧ w'.cell? ⟨zB, 1, none⟩ = some (.int .i64 a0_1) ∧ w'.cell? ⟨zB, 2, none⟩ = some (.slice A0_2 l0_2.length c0_2) ∧ w'.cell? ⟨zC, 0, none⟩ = some (.int .i64 a1_0) ∧ w'.cell? ⟨zC, 1, none⟩ = some (.int .i64 a1_1) ∧ w'.cell? ⟨zC, 2, none⟩ = some (.slice A1_2 l1_2.length c1_2)) ∧ (w'.heap[zB]? = some (.cells #[.int .i64 a0_0, .int .i64 a0_1, .slice A0_2 l0_2.length c0_2] 24 (0, 0))) ∧ (w'.heap[zC]? = some (.cells #[.int .i64 a1_0, .int .i64 a1_1, .slice A1_2 l1_2.length c1_2] 24 (0, 0))) ∧ (w'.heap[s_.1]? = some (.cells #[.int .i64 0, .int .i64 0, .slice none 0 0] 29 (0, 0))) ∧ (w'.heap[s_.2]? = some (.cells #[.int .i64 0, .int .i64 0, .slice none 0 0] 29 (0, 0))) ∧ (w.heap.size ≤ s_.1) ∧ (w.heap.size ≤ s_.1) ∧ (zB ≠ s_.1) ∧ (s_.1 ≠ zB) ∧ (zC ≠ s_.1) ∧ (s_.1 ≠ zC) ∧ (s_.2 ≠ s_.1) ∧ (s_.1 ≠ s_.2) ∧ (w.heap.size ≤ s_.2) ∧ (w.heap.size ≤ s_.2) ∧ (zB ≠ s_.2) ∧ (s_.2 ≠ zB) ∧ (zC ≠ s_.2) ∧ (s_.2 ≠ zC) ∧ (Below w.heap.size w w')) ?_ ?_
            rotate_left
            ·intro hJ4_5
             refine join_ (σ := Value) 5 #[true, true, true, false, false, false, false, false] (fun s_ => [(24, .agg #[.int .i64 zd, .int .i64 ze, s_])]) (fun s_ w' => (w'.cell? ⟨zB, 0, none⟩ = some (.int .i64 a0_0) ∧ w'.cell? ⟨zB, 1, none⟩ = some (.int .i64 a0_1) ∧ w'.cell? ⟨zB, 2, none⟩ = some (.slice A0_2 l0_2.length c0_2) ∧ w'.cell? ⟨zC, 0, none⟩ = some (.int .i64 a1_0) ∧ w'.cell? ⟨zC, 1, none⟩ = some (.int .i64 a1_1) ∧ w'.cell? ⟨zC, 2, none⟩ = some (.slice A1_2 l1_2.length c1_2)) ∧ (Kd.N k29 29 w' w.heap.size (fun k_ => k_ ≠ zB ∧ k_ ≠ zC) s_ zb) ∧ (w'.heap[zB]? = some (.cells #[.int .i64 a0_0, .int .i64 a0_1, .slice A0_2 l0_2.length c0_2] 24 (0, 0))) ∧ (w'.heap[zC]? = some (.cells #[.int .i64 a1_0, .int .i64 a1_1, .slice A1_2 l1_2.length c1_2] 24 (0, 0))) ∧ (Below w.heap.size w w')) ?_ ?_
             rotate_left
             ·intro hJ1
              refine join_ (σ := Nat) 5 #[true, false, true, false, true, false, false, false] (fun s_ => [(7, .pointer (some ⟨s_, 0, none⟩))]) (fun s_ w' => (w'.cell? ⟨zB, 0, none⟩ = some (.int .i64 a0_0) ∧ w'.cell? ⟨zB, 1, none⟩ = some (.int .i64 a0_1) ∧ w'.cell? ⟨zB, 2, none⟩ = some (.slice A0_2 l0_2.length c0_2) ∧ w'.cell? ⟨zC, 0, none⟩ = some (.int .i64 a1_0) ∧ w'.cell? ⟨zC, 1, none⟩ = some (.int .i64 a1_1) ∧ w'.cell? ⟨zC, 2, none⟩ = some (.slice A1_2 l1_2.length c1_2)) ∧ (w'.heap[zB]? = some (.cells #[.int .i64 a0_0, .int .i64 a0_1, .slice A0_2 l0_2.length c0_2] 24 (0, 0))) ∧ (w'.heap[zC]? = some (.cells #[.int .i64 a1_0, .int .i64 a1_1, .slice A1_2 l1_2.length c1_2] 24 (0, 0))) ∧ (w'.heap[s_]? = some (.cells #[.int .i64 0, .int .i64 0, .slice none 0 0] 29 (0, 0))) ∧ (w.heap.size ≤ s_) ∧ (w.heap.size ≤ s_) ∧ (zB ≠ s_) ∧ (s_ ≠ zB) ∧ (zC ≠ s_) ∧ (s_ ≠ zC) ∧ (Below w.heap.size w w')) ?_ ?_
              rotate_left
              ·intro hJ4
               refine join_ (σ := Nat) 5 #[true, false, true, false, false, true, false, false] (fun s_ => [(8, .pointer (some ⟨s_, 0, none⟩))]) (fun s_ w' => (w'.cell? ⟨zB, 0, none⟩ = some (.int .i64 a0_0) ∧ w'.cell? ⟨zB, 1, none⟩ = some (.int .i64 a0_1) ∧ w'.cell? ⟨zB, 2, none⟩ = some (.slice A0_2 l0_2.length c0_2) ∧ w'.cell? ⟨zC, 0, none⟩ = some (.int .i64 a1_0) ∧ w'.cell? ⟨zC, 1, none⟩ = some (.int .i64 a1_1) ∧ w'.cell? ⟨zC, 2, none⟩ = some (.slice A1_2 l1_2.length c1_2)) ∧ (w'.heap[zB]? = some (.cells #[.int .i64 a0_0, .int .i64 a0_1, .slice A0_2 l0_2.length c0_2] 24 (0, 0))) ∧ (w'.heap[zC]? = some (.cells #[.int .i64 a1_0, .int .i64 a1_1, .slice A1_2 l1_2.length c1_2] 24 (0, 0))) ∧ (w'.heap[s_]? = some (.cells #[.int .i64 0, .int .i64 0, .slice none 0 0] 29 (0, 0))) ∧ (w.heap.size ≤ s_) ∧ (w.heap.size ≤ s_) ∧ (zB ≠ s_) ∧ (s_ ≠ zB) ∧ (zC ≠ s_) ∧ (s_ ≠ zC) ∧ (Below w.heap.size w w')) ?_ ?_
               rotate_left
               ·intro hJ5
                refine three_ (i := 1) (j := 4) (k := 5) (Ni := some 24) (Nj := some 7) (Nk := some 8) #[true, true, true, false, false, false, false, false] #[true, false, true, false, true, false, false, false] #[true, false, true, false, false, true, false, false] rfl rfl rfl rfl rfl rfl (three_of HT_.out (by kernel_rfl)) (by decide) (by decide) (by decide) (fun K hK => ?_) (fun K hK => ?_) (fun K hK => ?_)
                ·skip
                 refine goes_ Tryd.func16 (by kernel_rfl) rfl #[.agg #[.int .i64 a0_0, .int .i64 a0_1, .slice A0_2 l0_2.length c0_2], .int .i64 6, .int .i64 3] (by rfl) rfl rfl (by (try simp only [List.map_toArray, List.map_cons, List.map_nil]); first | done | rfl | (simp only [List.length_drop, List.length_take]; rfl)) ?_
                 with_reducible refine (thyrsuslaw1_Make.calls xe a0_0 a0_1 _ _ l0_2 6 3 zd ze zb _ ?side1 ?side2 A22.out).mono ?_
                 (case side1 => repeat (first | exact (Kd.C_below xW.out HB.out) | (with_reducible refine ac2 ?_ _) | (with_reducible refine ac3 ?_ _) | (with_reducible refine ac4 ?_)))
                 (case side2 => exact xX.out)
                 rintro e w26 ⟨zw, rfl, ho0, hb⟩
                 refine ⟨_, rfl, ?_⟩
                 have zf := am_ (Kd.N_lower (an5 (ok' := fun k_ => k_ ≠ zB ∧ k_ ≠ zC) (Kd.R_N (Kd.R_bound ho0)) (fun k_ hk_ => ⟨(af1 (g := zB) (o := .cells #[.int .i64 a0_0, .int .i64 a0_1, .slice A0_2 l0_2.length c0_2] 24 (0, 0)) (by (with_reducible repeat (first | apply aq1 | apply aq2 | apply aq3)); exact zA.out) k_ hk_.2.1), (af1 (g := zC) (o := .cells #[.int .i64 a1_0, .int .i64 a1_1, .slice A1_2 l1_2.length c1_2] 24 (0, 0)) (by (with_reducible repeat (first | apply aq1 | apply aq2 | apply aq3)); exact zD.out) k_ hk_.2.1)⟩)) (below_size (by repeat (first | (with_reducible first | exact HB.out | apply ab1 | apply ab2 | apply ab3 | refine ab4 ?_ zL.out | refine ab4 ?_ zM.out) | exact HB.out))))
                 have zg := am_ (aq4 (g := zB) (o := .cells #[.int .i64 a0_0, .int .i64 a0_1, .slice A0_2 l0_2.length c0_2] 24 (0, 0)) (by (with_reducible repeat (first | apply aq1 | apply aq2 | apply aq3)); exact zA.out) hb)
                 have zh := am_ (aq4 (g := zC) (o := .cells #[.int .i64 a1_0, .int .i64 a1_1, .slice A1_2 l1_2.length c1_2] 24 (0, 0)) (by (with_reducible repeat (first | apply aq1 | apply aq2 | apply aq3)); exact zD.out) hb)
                 have zj := am_ (ab5 (by repeat (first | (with_reducible first | exact HB.out | apply ab1 | apply ab2 | apply ab3 | refine ab4 ?_ zL.out | refine ab4 ?_ zM.out) | exact HB.out)) hb)
                 clear zA
                 clear zD
                 clear HB
                 have zW := zf
                 have zA := zg
                 have zD := zh
                 have HB := zj
                 clear zf zg zh zj
                 (try clear hb)
                 (try clear hb2)
                 (try clear hk)
                 (try clear hi)
                 (try clear ho0)
                 refine hK.out _ _ ⟨(aq7 zA.out 0).trans rfl, (aq7 zA.out 1).trans rfl, (aq7 zA.out 2).trans rfl, (aq7 zD.out 0).trans rfl, (aq7 zD.out 1).trans rfl, (aq7 zD.out 2).trans rfl⟩ (fun hHeld => ?_)
                 clear hK K
                 refine norm_ (a' := ?_) ?_ ?_
                 rotate_left
                 ·show Act.put _ (some 24) _ = _
                  simp only [Act.put, List.setIfInBounds_toArray, List.set_cons_zero, List.set_cons_succ, i64_w, i32_w, u8_w, u32_w]
                  rfl
                 exact norm_ (by first | (simp only [putAll, Act.put, List.setIfInBounds_toArray, List.set_cons_zero, List.set_cons_succ]; done) | (simp only [putAll, Act.put, List.setIfInBounds_toArray, List.set_cons_zero, List.set_cons_succ]; rfl)) (hJ1 (zw) _ ⟨hHeld, (by (with_reducible repeat (first | apply an1 | apply an2 | apply an3)); exact zW.out), (by (with_reducible repeat (first | apply aq1 | apply aq2 | apply aq3)); exact zA.out), (by (with_reducible repeat (first | apply aq1 | apply aq2 | apply aq3)); exact zD.out), (by repeat (first | (with_reducible first | exact HB.out | apply ab1 | apply ab2 | apply ab3 | refine ab4 ?_ zL.out | refine ab4 ?_ zM.out) | exact HB.out))⟩)
                ·skip
                 refine box_step ?hg (N := 7) ?hd (cs := #[.int .i64 0, .int .i64 0, .slice none 0 0]) (t := 29) ?hr ?_; (case hd => rfl); (case hg => rfl); (case hr => first | (go_simp; done) | (go_simp; rfl))
                 intro zE hg w26 hbox hb
                 have zf := am_ (aq4 (g := zB) (o := .cells #[.int .i64 a0_0, .int .i64 a0_1, .slice A0_2 l0_2.length c0_2] 24 (0, 0)) (by (with_reducible repeat (first | apply aq1 | apply aq2 | apply aq3)); exact zA.out) hb)
                 have zg := am_ (aq4 (g := zC) (o := .cells #[.int .i64 a1_0, .int .i64 a1_1, .slice A1_2 l1_2.length c1_2] 24 (0, 0)) (by (with_reducible repeat (first | apply aq1 | apply aq2 | apply aq3)); exact zD.out) hb)
                 have zh := am_ (ab5 (by repeat (first | (with_reducible first | exact HB.out | apply ab1 | apply ab2 | apply ab3 | refine ab4 ?_ zL.out | refine ab4 ?_ zM.out) | exact HB.out)) hb)
                 have zj := am_ (hbox)
                 have zk := am_ ((by rw [hg]; exact (below_size (by repeat (first | (with_reducible first | exact HB.out | apply ab1 | apply ab2 | apply ab3 | refine ab4 ?_ zL.out | refine ab4 ?_ zM.out) | exact HB.out))) : w.heap.size ≤ zE))
                 have zn := am_ ((by rw [hg]; exact (below_size (by repeat (first | (with_reducible first | exact HB.out | apply ab1 | apply ab2 | apply ab3 | refine ab4 ?_ zL.out | refine ab4 ?_ zM.out) | exact HB.out))) : w.heap.size ≤ zE))
                 have zp := am_ ((by rw [hg]; exact Nat.ne_of_lt (blk_lt (g := zB) (o := .cells #[.int .i64 a0_0, .int .i64 a0_1, .slice A0_2 l0_2.length c0_2] 24 (0, 0)) (by (with_reducible repeat (first | apply aq1 | apply aq2 | apply aq3)); exact zA.out)) : zB ≠ zE))
                 have zq := am_ ((by rw [hg]; exact Nat.ne_of_gt (blk_lt (g := zB) (o := .cells #[.int .i64 a0_0, .int .i64 a0_1, .slice A0_2 l0_2.length c0_2] 24 (0, 0)) (by (with_reducible repeat (first | apply aq1 | apply aq2 | apply aq3)); exact zA.out)) : zE ≠ zB))
                 have zr := am_ ((by rw [hg]; exact Nat.ne_of_lt (blk_lt (g := zC) (o := .cells #[.int .i64 a1_0, .int .i64 a1_1, .slice A1_2 l1_2.length c1_2] 24 (0, 0)) (by (with_reducible repeat (first | apply aq1 | apply aq2 | apply aq3)); exact zD.out)) : zC ≠ zE))
                 have z4 := am_ ((by rw [hg]; exact Nat.ne_of_gt (blk_lt (g := zC) (o := .cells #[.int .i64 a1_0, .int .i64 a1_1, .slice A1_2 l1_2.length c1_2] 24 (0, 0)) (by (with_reducible repeat (first | apply aq1 | apply aq2 | apply aq3)); exact zD.out)) : zE ≠ zC))
                 clear zA
                 clear zD
                 clear HB
                 have zA := zf
                 have zD := zg
                 have HB := zh
                 have zH := zj
                 have z1 := zk
                 have zS := zn
                 have zN := zp
                 have zU := zq
                 have zO := zr
                 have zV := z4
                 clear zf zg zh zj zk zn zp zq zr z4
                 clear hb hbox hg
                 refine hK.out _ _ ⟨(aq7 zA.out 0).trans rfl, (aq7 zA.out 1).trans rfl, (aq7 zA.out 2).trans rfl, (aq7 zD.out 0).trans rfl, (aq7 zD.out 1).trans rfl, (aq7 zD.out 2).trans rfl⟩ (fun hHeld => ?_)
                 clear hK K
                 refine norm_ (a' := ?_) ?_ ?_
                 rotate_left
                 ·show Act.put _ (some 7) _ = _
                  simp only [Act.put, List.setIfInBounds_toArray, List.set_cons_zero, List.set_cons_succ, i64_w, i32_w, u8_w, u32_w]
                  rfl
                 exact norm_ (by first | (simp only [putAll, Act.put, List.setIfInBounds_toArray, List.set_cons_zero, List.set_cons_succ]; done) | (simp only [putAll, Act.put, List.setIfInBounds_toArray, List.set_cons_zero, List.set_cons_succ]; rfl)) (hJ4 (zE) _ ⟨hHeld, (by (with_reducible repeat (first | apply aq1 | apply aq2 | apply aq3)); exact zA.out), (by (with_reducible repeat (first | apply aq1 | apply aq2 | apply aq3)); exact zD.out), (by (with_reducible repeat (first | apply aq1 | apply aq2 | apply aq3)); exact zH.out), z1.out, zS.out, zN.out, zU.out, zO.out, zV.out, (by repeat (first | (with_reducible first | exact HB.out | apply ab1 | apply ab2 | apply ab3 | refine ab4 ?_ zL.out | refine ab4 ?_ zM.out | refine ab4 ?_ zS.out) | exact HB.out))⟩)
                ·skip
                 refine box_step ?hg (N := 8) ?hd (cs := #[.int .i64 0, .int .i64 0, .slice none 0 0]) (t := 29) ?hr ?_; (case hd => rfl); (case hg => rfl); (case hr => first | (go_simp; done) | (go_simp; rfl))
                 intro zF hg w26 hbox hb
                 have zf := am_ (aq4 (g := zB) (o := .cells #[.int .i64 a0_0, .int .i64 a0_1, .slice A0_2 l0_2.length c0_2] 24 (0, 0)) (by (with_reducible repeat (first | apply aq1 | apply aq2 | apply aq3)); exact zA.out) hb)
                 have zg := am_ (aq4 (g := zC) (o := .cells #[.int .i64 a1_0, .int .i64 a1_1, .slice A1_2 l1_2.length c1_2] 24 (0, 0)) (by (with_reducible repeat (first | apply aq1 | apply aq2 | apply aq3)); exact zD.out) hb)
                 have zh := am_ (ab5 (by repeat (first | (with_reducible first | exact HB.out | apply ab1 | apply ab2 | apply ab3 | refine ab4 ?_ zL.out | refine ab4 ?_ zM.out) | exact HB.out)) hb)
                 have zj := am_ (hbox)
                 have zk := am_ ((by rw [hg]; exact (below_size (by repeat (first | (with_reducible first | exact HB.out | apply ab1 | apply ab2 | apply ab3 | refine ab4 ?_ zL.out | refine ab4 ?_ zM.out) | exact HB.out))) : w.heap.size ≤ zF))
                 have zn := am_ ((by rw [hg]; exact (below_size (by repeat (first | (with_reducible first | exact HB.out | apply ab1 | apply ab2 | apply ab3 | refine ab4 ?_ zL.out | refine ab4 ?_ zM.out) | exact HB.out))) : w.heap.size ≤ zF))
                 have zp := am_ ((by rw [hg]; exact Nat.ne_of_lt (blk_lt (g := zB) (o := .cells #[.int .i64 a0_0, .int .i64 a0_1, .slice A0_2 l0_2.length c0_2] 24 (0, 0)) (by (with_reducible repeat (first | apply aq1 | apply aq2 | apply aq3)); exact zA.out)) : zB ≠ zF))
                 have zq := am_ ((by rw [hg]; exact Nat.ne_of_gt (blk_lt (g := zB) (o := .cells #[.int .i64 a0_0, .int .i64 a0_1, .slice A0_2 l0_2.length c0_2] 24 (0, 0)) (by (with_reducible repeat (first | apply aq1 | apply aq2 | apply aq3)); exact zA.out)) : zF ≠ zB))
                 have zr := am_ ((by rw [hg]; exact Nat.ne_of_lt (blk_lt (g := zC) (o := .cells #[.int .i64 a1_0, .int .i64 a1_1, .slice A1_2 l1_2.length c1_2] 24 (0, 0)) (by (with_reducible repeat (first | apply aq1 | apply aq2 | apply aq3)); exact zD.out)) : zC ≠ zF))
                 have z4 := am_ ((by rw [hg]; exact Nat.ne_of_gt (blk_lt (g := zC) (o := .cells #[.int .i64 a1_0, .int .i64 a1_1, .slice A1_2 l1_2.length c1_2] 24 (0, 0)) (by (with_reducible repeat (first | apply aq1 | apply aq2 | apply aq3)); exact zD.out)) : zF ≠ zC))
                 clear zA
                 clear zD
                 clear HB
                 have zA := zf
                 have zD := zg
                 have HB := zh
                 have zJ := zj
                 have z2 := zk
                 have zT := zn
                 have zP := zp
                 have zX := zq
                 have zQ := zr
                 have zY := z4
                 clear zf zg zh zj zk zn zp zq zr z4
                 clear hb hbox hg
                 refine hK.out _ _ ⟨(aq7 zA.out 0).trans rfl, (aq7 zA.out 1).trans rfl, (aq7 zA.out 2).trans rfl, (aq7 zD.out 0).trans rfl, (aq7 zD.out 1).trans rfl, (aq7 zD.out 2).trans rfl⟩ (fun hHeld => ?_)
                 clear hK K
                 refine norm_ (a' := ?_) ?_ ?_
                 rotate_left
                 ·show Act.put _ (some 8) _ = _
                  simp only [Act.put, List.setIfInBounds_toArray, List.set_cons_zero, List.set_cons_succ, i64_w, i32_w, u8_w, u32_w]
                  rfl
                 exact norm_ (by first | (simp only [putAll, Act.put, List.setIfInBounds_toArray, List.set_cons_zero, List.set_cons_succ]; done) | (simp only [putAll, Act.put, List.setIfInBounds_toArray, List.set_cons_zero, List.set_cons_succ]; rfl)) (hJ5 (zF) _ ⟨hHeld, (by (with_reducible repeat (first | apply aq1 | apply aq2 | apply aq3)); exact zA.out), (by (with_reducible repeat (first | apply aq1 | apply aq2 | apply aq3)); exact zD.out), (by (with_reducible repeat (first | apply aq1 | apply aq2 | apply aq3)); exact zJ.out), z2.out, zT.out, zP.out, zX.out, zQ.out, zY.out, (by repeat (first | (with_reducible first | exact HB.out | apply ab1 | apply ab2 | apply ab3 | refine ab4 ?_ zL.out | refine ab4 ?_ zM.out | refine ab4 ?_ zT.out) | exact HB.out))⟩)
               ·skip
                rintro zF xO ⟨hS_, h0_, h1_, h2_, h3_, h4_, h5_, h6_, h7_, h8_, h9_⟩
                have zf : Aside0 (xO.heap[zB]? = some (.cells #[.int .i64 a0_0, .int .i64 a0_1, .slice A0_2 l0_2.length c0_2] 24 (0, 0))) := ⟨h0_⟩
                have zg : Aside0 (xO.heap[zC]? = some (.cells #[.int .i64 a1_0, .int .i64 a1_1, .slice A1_2 l1_2.length c1_2] 24 (0, 0))) := ⟨h1_⟩
                have zh : Aside0 (xO.heap[zF]? = some (.cells #[.int .i64 0, .int .i64 0, .slice none 0 0] 29 (0, 0))) := ⟨h2_⟩
                have zj : Aside0 (w.heap.size ≤ zF) := ⟨h3_⟩
                have zk : Aside0 (w.heap.size ≤ zF) := ⟨h4_⟩
                have zn : Aside0 (zB ≠ zF) := ⟨h5_⟩
                have zp : Aside0 (zF ≠ zB) := ⟨h6_⟩
                have zq : Aside0 (zC ≠ zF) := ⟨h7_⟩
                have zr : Aside0 (zF ≠ zC) := ⟨h8_⟩
                have z4 : Aside0 (Below w.heap.size w xO) := ⟨h9_⟩
                clear zA
                clear zD
                clear HB
                clear h0_ h1_ h2_ h3_ h4_ h5_ h6_ h7_ h8_ h9_
                have zA := zf
                have zD := zg
                have zJ := zh
                have z2 := zj
                have zT := zk
                have zP := zn
                have zX := zp
                have zQ := zq
                have zY := zr
                have HB := z4
                clear zf zg zh zj zk zn zp zq zr z4
                have hHeld : xO.cell? ⟨zB, 0, none⟩ = some (.int .i64 a0_0) ∧ xO.cell? ⟨zB, 1, none⟩ = some (.int .i64 a0_1) ∧ xO.cell? ⟨zB, 2, none⟩ = some (.slice A0_2 l0_2.length c0_2) ∧ xO.cell? ⟨zC, 0, none⟩ = some (.int .i64 a1_0) ∧ xO.cell? ⟨zC, 1, none⟩ = some (.int .i64 a1_1) ∧ xO.cell? ⟨zC, 2, none⟩ = some (.slice A1_2 l1_2.length c1_2) := hS_
                refine norm_ (a' := ?_) ?_ ?_
                rotate_left
                ·simp only [putAll, Act.put, List.setIfInBounds_toArray, List.set_cons_zero, List.set_cons_succ]
                 rfl
                refine two_ (i := 1) (j := 4) (Ni := some 24) (Nj := some 7) #[true, true, true, false, false, true, false, false] #[true, false, true, false, true, true, false, false] rfl rfl rfl rfl (two_of HT_.out (by kernel_rfl)) (by decide) (by decide) (fun K hK => ?_) (fun K hK => ?_)
                ·skip
                 refine goes_ Tryd.func16 (by kernel_rfl) rfl #[.agg #[.int .i64 a0_0, .int .i64 a0_1, .slice A0_2 l0_2.length c0_2], .int .i64 6, .int .i64 3] (by rfl) rfl rfl (by (try simp only [List.map_toArray, List.map_cons, List.map_nil]); first | done | rfl | (simp only [List.length_drop, List.length_take]; rfl)) ?_
                 with_reducible refine (thyrsuslaw1_Make.calls xe a0_0 a0_1 _ _ l0_2 6 3 zd ze zb _ ?side1 ?side2 A22.out).mono ?_
                 (case side1 => repeat (first | exact (Kd.C_below xW.out HB.out) | (with_reducible refine ac2 ?_ _) | (with_reducible refine ac3 ?_ _) | (with_reducible refine ac4 ?_)))
                 (case side2 => exact xX.out)
                 rintro e xB ⟨zw, rfl, ho0, hb⟩
                 refine ⟨_, rfl, ?_⟩
                 have zf := am_ (Kd.N_lower (an5 (ok' := fun k_ => k_ ≠ zB ∧ k_ ≠ zC ∧ k_ ≠ zF) (Kd.R_N (Kd.R_bound ho0)) (fun k_ hk_ => ⟨(af1 (g := zB) (o := .cells #[.int .i64 a0_0, .int .i64 a0_1, .slice A0_2 l0_2.length c0_2] 24 (0, 0)) (by (with_reducible repeat (first | apply aq1 | apply aq2 | apply aq3)); exact zA.out) k_ hk_.2.1), (af1 (g := zC) (o := .cells #[.int .i64 a1_0, .int .i64 a1_1, .slice A1_2 l1_2.length c1_2] 24 (0, 0)) (by (with_reducible repeat (first | apply aq1 | apply aq2 | apply aq3)); exact zD.out) k_ hk_.2.1), (af1 (g := zF) (o := .cells #[.int .i64 0, .int .i64 0, .slice none 0 0] 29 (0, 0)) (by (with_reducible repeat (first | apply aq1 | apply aq2 | apply aq3)); exact zJ.out) k_ hk_.2.1)⟩)) (below_size (by repeat (first | (with_reducible first | exact HB.out | apply ab1 | apply ab2 | apply ab3 | refine ab4 ?_ zL.out | refine ab4 ?_ zM.out | refine ab4 ?_ zT.out) | exact HB.out))))
                 have zg := am_ (aq4 (g := zB) (o := .cells #[.int .i64 a0_0, .int .i64 a0_1, .slice A0_2 l0_2.length c0_2] 24 (0, 0)) (by (with_reducible repeat (first | apply aq1 | apply aq2 | apply aq3)); exact zA.out) hb)
                 have zh := am_ (aq4 (g := zC) (o := .cells #[.int .i64 a1_0, .int .i64 a1_1, .slice A1_2 l1_2.length c1_2] 24 (0, 0)) (by (with_reducible repeat (first | apply aq1 | apply aq2 | apply aq3)); exact zD.out) hb)
                 have zj := am_ (aq4 (g := zF) (o := .cells #[.int .i64 0, .int .i64 0, .slice none 0 0] 29 (0, 0)) (by (with_reducible repeat (first | apply aq1 | apply aq2 | apply aq3)); exact zJ.out) hb)
                 have zk := am_ (ab5 (by repeat (first | (with_reducible first | exact HB.out | apply ab1 | apply ab2 | apply ab3 | refine ab4 ?_ zL.out | refine ab4 ?_ zM.out | refine ab4 ?_ zT.out) | exact HB.out)) hb)
                 clear zA
                 clear zD
                 clear zJ
                 clear HB
                 have zW := zf
                 have zA := zg
                 have zD := zh
                 have zJ := zj
                 have HB := zk
                 clear zf zg zh zj zk
                 (try clear hb)
                 (try clear hb2)
                 (try clear hk)
                 (try clear hi)
                 (try clear ho0)
                 refine hK.out _ _ ⟨(aq7 zA.out 0).trans rfl, (aq7 zA.out 1).trans rfl, (aq7 zA.out 2).trans rfl, (aq7 zD.out 0).trans rfl, (aq7 zD.out 1).trans rfl, (aq7 zD.out 2).trans rfl⟩ (fun hHeld => ?_)
                 clear hK K
                 refine norm_ (a' := ?_) ?_ ?_
                 rotate_left
                 ·show Act.put _ (some 24) _ = _
                  simp only [Act.put, List.setIfInBounds_toArray, List.set_cons_zero, List.set_cons_succ, i64_w, i32_w, u8_w, u32_w]
                  rfl
                 exact norm_ (by first | (simp only [putAll, Act.put, List.setIfInBounds_toArray, List.set_cons_zero, List.set_cons_succ]; done) | (simp only [putAll, Act.put, List.setIfInBounds_toArray, List.set_cons_zero, List.set_cons_succ]; rfl)) (hJ1_5 (zw, zF) _ ⟨hHeld, (by (with_reducible repeat (first | apply an1 | apply an2 | apply an3)); exact zW.out), (by (with_reducible repeat (first | apply aq1 | apply aq2 | apply aq3)); exact zA.out), (by (with_reducible repeat (first | apply aq1 | apply aq2 | apply aq3)); exact zD.out), (by (with_reducible repeat (first | apply aq1 | apply aq2 | apply aq3)); exact zJ.out), z2.out, zT.out, zP.out, zX.out, zQ.out, zY.out, (by repeat (first | (with_reducible first | exact HB.out | apply ab1 | apply ab2 | apply ab3 | refine ab4 ?_ zL.out | refine ab4 ?_ zM.out | refine ab4 ?_ zT.out) | exact HB.out))⟩)
                ·skip
                 refine box_step ?hg (N := 7) ?hd (cs := #[.int .i64 0, .int .i64 0, .slice none 0 0]) (t := 29) ?hr ?_; (case hd => rfl); (case hg => rfl); (case hr => first | (go_simp; done) | (go_simp; rfl))
                 intro zE hg xB hbox hb
                 have zf := am_ (aq4 (g := zB) (o := .cells #[.int .i64 a0_0, .int .i64 a0_1, .slice A0_2 l0_2.length c0_2] 24 (0, 0)) (by (with_reducible repeat (first | apply aq1 | apply aq2 | apply aq3)); exact zA.out) hb)
                 have zg := am_ (aq4 (g := zC) (o := .cells #[.int .i64 a1_0, .int .i64 a1_1, .slice A1_2 l1_2.length c1_2] 24 (0, 0)) (by (with_reducible repeat (first | apply aq1 | apply aq2 | apply aq3)); exact zD.out) hb)
                 have zh := am_ (aq4 (g := zF) (o := .cells #[.int .i64 0, .int .i64 0, .slice none 0 0] 29 (0, 0)) (by (with_reducible repeat (first | apply aq1 | apply aq2 | apply aq3)); exact zJ.out) hb)
                 have zj := am_ (ab5 (by repeat (first | (with_reducible first | exact HB.out | apply ab1 | apply ab2 | apply ab3 | refine ab4 ?_ zL.out | refine ab4 ?_ zM.out | refine ab4 ?_ zT.out) | exact HB.out)) hb)
                 have zk := am_ (hbox)
                 have zn := am_ ((by rw [hg]; exact (below_size (by repeat (first | (with_reducible first | exact HB.out | apply ab1 | apply ab2 | apply ab3 | refine ab4 ?_ zL.out | refine ab4 ?_ zM.out | refine ab4 ?_ zT.out) | exact HB.out))) : w.heap.size ≤ zE))
                 have zp := am_ ((by rw [hg]; exact (below_size (by repeat (first | (with_reducible first | exact HB.out | apply ab1 | apply ab2 | apply ab3 | refine ab4 ?_ zL.out | refine ab4 ?_ zM.out | refine ab4 ?_ zT.out) | exact HB.out))) : w.heap.size ≤ zE))
                 have zq := am_ ((by rw [hg]; exact Nat.ne_of_lt (blk_lt (g := zB) (o := .cells #[.int .i64 a0_0, .int .i64 a0_1, .slice A0_2 l0_2.length c0_2] 24 (0, 0)) (by (with_reducible repeat (first | apply aq1 | apply aq2 | apply aq3)); exact zA.out)) : zB ≠ zE))
                 have zr := am_ ((by rw [hg]; exact Nat.ne_of_gt (blk_lt (g := zB) (o := .cells #[.int .i64 a0_0, .int .i64 a0_1, .slice A0_2 l0_2.length c0_2] 24 (0, 0)) (by (with_reducible repeat (first | apply aq1 | apply aq2 | apply aq3)); exact zA.out)) : zE ≠ zB))
                 have z4 := am_ ((by rw [hg]; exact Nat.ne_of_lt (blk_lt (g := zC) (o := .cells #[.int .i64 a1_0, .int .i64 a1_1, .slice A1_2 l1_2.length c1_2] 24 (0, 0)) (by (with_reducible repeat (first | apply aq1 | apply aq2 | apply aq3)); exact zD.out)) : zC ≠ zE))
                 have zs := am_ ((by rw [hg]; exact Nat.ne_of_gt (blk_lt (g := zC) (o := .cells #[.int .i64 a1_0, .int .i64 a1_1, .slice A1_2 l1_2.length c1_2] 24 (0, 0)) (by (with_reducible repeat (first | apply aq1 | apply aq2 | apply aq3)); exact zD.out)) : zE ≠ zC))
                 have zy := am_ ((by rw [hg]; exact Nat.ne_of_lt (blk_lt (g := zF) (o := .cells #[.int .i64 0, .int .i64 0, .slice none 0 0] 29 (0, 0)) (by (with_reducible repeat (first | apply aq1 | apply aq2 | apply aq3)); exact zJ.out)) : zF ≠ zE))
                 have z7 := am_ ((by rw [hg]; exact Nat.ne_of_gt (blk_lt (g := zF) (o := .cells #[.int .i64 0, .int .i64 0, .slice none 0 0] 29 (0, 0)) (by (with_reducible repeat (first | apply aq1 | apply aq2 | apply aq3)); exact zJ.out)) : zE ≠ zF))
                 clear zA
                 clear zD
                 clear zJ
                 clear HB
                 have zA := zf
                 have zD := zg
                 have zJ := zh
                 have HB := zj
                 have zH := zk
                 have z1 := zn
                 have zS := zp
                 have zN := zq
                 have zU := zr
                 have zO := z4
                 have zV := zs
                 have zZ := zy
                 have za := z7
                 clear zf zg zh zj zk zn zp zq zr z4 zs zy z7
                 clear hb hbox hg
                 refine hK.out _ _ ⟨(aq7 zA.out 0).trans rfl, (aq7 zA.out 1).trans rfl, (aq7 zA.out 2).trans rfl, (aq7 zD.out 0).trans rfl, (aq7 zD.out 1).trans rfl, (aq7 zD.out 2).trans rfl⟩ (fun hHeld => ?_)
                 clear hK K
                 refine norm_ (a' := ?_) ?_ ?_
                 rotate_left
                 ·show Act.put _ (some 7) _ = _
                  simp only [Act.put, List.setIfInBounds_toArray, List.set_cons_zero, List.set_cons_succ, i64_w, i32_w, u8_w, u32_w]
                  rfl
                 exact norm_ (by first | (simp only [putAll, Act.put, List.setIfInBounds_toArray, List.set_cons_zero, List.set_cons_succ]; done) | (simp only [putAll, Act.put, List.setIfInBounds_toArray, List.set_cons_zero, List.set_cons_succ]; rfl)) (hJ4_5 (zE, zF) _ ⟨hHeld, (by (with_reducible repeat (first | apply aq1 | apply aq2 | apply aq3)); exact zA.out), (by (with_reducible repeat (first | apply aq1 | apply aq2 | apply aq3)); exact zD.out), (by (with_reducible repeat (first | apply aq1 | apply aq2 | apply aq3)); exact zH.out), (by (with_reducible repeat (first | apply aq1 | apply aq2 | apply aq3)); exact zJ.out), z1.out, zS.out, zN.out, zU.out, zO.out, zV.out, zZ.out, za.out, z2.out, zT.out, zP.out, zX.out, zQ.out, zY.out, (by repeat (first | (with_reducible first | exact HB.out | apply ab1 | apply ab2 | apply ab3 | refine ab4 ?_ zL.out | refine ab4 ?_ zM.out | refine ab4 ?_ zT.out | refine ab4 ?_ zS.out) | exact HB.out))⟩)
              ·skip
               rintro zE xO ⟨hS_, h0_, h1_, h2_, h3_, h4_, h5_, h6_, h7_, h8_, h9_⟩
               have zf : Aside0 (xO.heap[zB]? = some (.cells #[.int .i64 a0_0, .int .i64 a0_1, .slice A0_2 l0_2.length c0_2] 24 (0, 0))) := ⟨h0_⟩
               have zg : Aside0 (xO.heap[zC]? = some (.cells #[.int .i64 a1_0, .int .i64 a1_1, .slice A1_2 l1_2.length c1_2] 24 (0, 0))) := ⟨h1_⟩
               have zh : Aside0 (xO.heap[zE]? = some (.cells #[.int .i64 0, .int .i64 0, .slice none 0 0] 29 (0, 0))) := ⟨h2_⟩
               have zj : Aside0 (w.heap.size ≤ zE) := ⟨h3_⟩
               have zk : Aside0 (w.heap.size ≤ zE) := ⟨h4_⟩
               have zn : Aside0 (zB ≠ zE) := ⟨h5_⟩
               have zp : Aside0 (zE ≠ zB) := ⟨h6_⟩
               have zq : Aside0 (zC ≠ zE) := ⟨h7_⟩
               have zr : Aside0 (zE ≠ zC) := ⟨h8_⟩
               have z4 : Aside0 (Below w.heap.size w xO) := ⟨h9_⟩
               clear zA
               clear zD
               clear HB
               clear h0_ h1_ h2_ h3_ h4_ h5_ h6_ h7_ h8_ h9_
               have zA := zf
               have zD := zg
               have zH := zh
               have z1 := zj
               have zS := zk
               have zN := zn
               have zU := zp
               have zO := zq
               have zV := zr
               have HB := z4
               clear zf zg zh zj zk zn zp zq zr z4
               have hHeld : xO.cell? ⟨zB, 0, none⟩ = some (.int .i64 a0_0) ∧ xO.cell? ⟨zB, 1, none⟩ = some (.int .i64 a0_1) ∧ xO.cell? ⟨zB, 2, none⟩ = some (.slice A0_2 l0_2.length c0_2) ∧ xO.cell? ⟨zC, 0, none⟩ = some (.int .i64 a1_0) ∧ xO.cell? ⟨zC, 1, none⟩ = some (.int .i64 a1_1) ∧ xO.cell? ⟨zC, 2, none⟩ = some (.slice A1_2 l1_2.length c1_2) := hS_
               refine norm_ (a' := ?_) ?_ ?_
               rotate_left
               ·simp only [putAll, Act.put, List.setIfInBounds_toArray, List.set_cons_zero, List.set_cons_succ]
                rfl
               refine two_ (i := 1) (j := 5) (Ni := some 24) (Nj := some 8) #[true, true, true, false, true, false, false, false] #[true, false, true, false, true, true, false, false] rfl rfl rfl rfl (two_of HT_.out (by kernel_rfl)) (by decide) (by decide) (fun K hK => ?_) (fun K hK => ?_)
               ·skip
                refine goes_ Tryd.func16 (by kernel_rfl) rfl #[.agg #[.int .i64 a0_0, .int .i64 a0_1, .slice A0_2 l0_2.length c0_2], .int .i64 6, .int .i64 3] (by rfl) rfl rfl (by (try simp only [List.map_toArray, List.map_cons, List.map_nil]); first | done | rfl | (simp only [List.length_drop, List.length_take]; rfl)) ?_
                with_reducible refine (thyrsuslaw1_Make.calls xe a0_0 a0_1 _ _ l0_2 6 3 zd ze zb _ ?side1 ?side2 A22.out).mono ?_
                (case side1 => repeat (first | exact (Kd.C_below xW.out HB.out) | (with_reducible refine ac2 ?_ _) | (with_reducible refine ac3 ?_ _) | (with_reducible refine ac4 ?_)))
                (case side2 => exact xX.out)
                rintro e xB ⟨zw, rfl, ho0, hb⟩
                refine ⟨_, rfl, ?_⟩
                have zf := am_ (Kd.N_lower (an5 (ok' := fun k_ => k_ ≠ zB ∧ k_ ≠ zC ∧ k_ ≠ zE) (Kd.R_N (Kd.R_bound ho0)) (fun k_ hk_ => ⟨(af1 (g := zB) (o := .cells #[.int .i64 a0_0, .int .i64 a0_1, .slice A0_2 l0_2.length c0_2] 24 (0, 0)) (by (with_reducible repeat (first | apply aq1 | apply aq2 | apply aq3)); exact zA.out) k_ hk_.2.1), (af1 (g := zC) (o := .cells #[.int .i64 a1_0, .int .i64 a1_1, .slice A1_2 l1_2.length c1_2] 24 (0, 0)) (by (with_reducible repeat (first | apply aq1 | apply aq2 | apply aq3)); exact zD.out) k_ hk_.2.1), (af1 (g := zE) (o := .cells #[.int .i64 0, .int .i64 0, .slice none 0 0] 29 (0, 0)) (by (with_reducible repeat (first | apply aq1 | apply aq2 | apply aq3)); exact zH.out) k_ hk_.2.1)⟩)) (below_size (by repeat (first | (with_reducible first | exact HB.out | apply ab1 | apply ab2 | apply ab3 | refine ab4 ?_ zL.out | refine ab4 ?_ zM.out | refine ab4 ?_ zS.out) | exact HB.out))))
                have zg := am_ (aq4 (g := zB) (o := .cells #[.int .i64 a0_0, .int .i64 a0_1, .slice A0_2 l0_2.length c0_2] 24 (0, 0)) (by (with_reducible repeat (first | apply aq1 | apply aq2 | apply aq3)); exact zA.out) hb)
                have zh := am_ (aq4 (g := zC) (o := .cells #[.int .i64 a1_0, .int .i64 a1_1, .slice A1_2 l1_2.length c1_2] 24 (0, 0)) (by (with_reducible repeat (first | apply aq1 | apply aq2 | apply aq3)); exact zD.out) hb)
                have zj := am_ (aq4 (g := zE) (o := .cells #[.int .i64 0, .int .i64 0, .slice none 0 0] 29 (0, 0)) (by (with_reducible repeat (first | apply aq1 | apply aq2 | apply aq3)); exact zH.out) hb)
                have zk := am_ (ab5 (by repeat (first | (with_reducible first | exact HB.out | apply ab1 | apply ab2 | apply ab3 | refine ab4 ?_ zL.out | refine ab4 ?_ zM.out | refine ab4 ?_ zS.out) | exact HB.out)) hb)
                clear zA
                clear zD
                clear zH
                clear HB
                have zW := zf
                have zA := zg
                have zD := zh
                have zH := zj
                have HB := zk
                clear zf zg zh zj zk
                (try clear hb)
                (try clear hb2)
                (try clear hk)
                (try clear hi)
                (try clear ho0)
                refine hK.out _ _ ⟨(aq7 zA.out 0).trans rfl, (aq7 zA.out 1).trans rfl, (aq7 zA.out 2).trans rfl, (aq7 zD.out 0).trans rfl, (aq7 zD.out 1).trans rfl, (aq7 zD.out 2).trans rfl⟩ (fun hHeld => ?_)
                clear hK K
                refine norm_ (a' := ?_) ?_ ?_
                rotate_left
                ·show Act.put _ (some 24) _ = _
                 simp only [Act.put, List.setIfInBounds_toArray, List.set_cons_zero, List.set_cons_succ, i64_w, i32_w, u8_w, u32_w]
                 rfl
                exact norm_ (by first | (simp only [putAll, Act.put, List.setIfInBounds_toArray, List.set_cons_zero, List.set_cons_succ]; done) | (simp only [putAll, Act.put, List.setIfInBounds_toArray, List.set_cons_zero, List.set_cons_succ]; rfl)) (hJ1_4 (zw, zE) _ ⟨hHeld, (by (with_reducible repeat (first | apply an1 | apply an2 | apply an3)); exact zW.out), (by (with_reducible repeat (first | apply aq1 | apply aq2 | apply aq3)); exact zA.out), (by (with_reducible repeat (first | apply aq1 | apply aq2 | apply aq3)); exact zD.out), (by (with_reducible repeat (first | apply aq1 | apply aq2 | apply aq3)); exact zH.out), z1.out, zS.out, zN.out, zU.out, zO.out, zV.out, (by repeat (first | (with_reducible first | exact HB.out | apply ab1 | apply ab2 | apply ab3 | refine ab4 ?_ zL.out | refine ab4 ?_ zM.out | refine ab4 ?_ zS.out) | exact HB.out))⟩)
               ·skip
                refine box_step ?hg (N := 8) ?hd (cs := #[.int .i64 0, .int .i64 0, .slice none 0 0]) (t := 29) ?hr ?_; (case hd => rfl); (case hg => rfl); (case hr => first | (go_simp; done) | (go_simp; rfl))
                intro zF hg xB hbox hb
                have zf := am_ (aq4 (g := zB) (o := .cells #[.int .i64 a0_0, .int .i64 a0_1, .slice A0_2 l0_2.length c0_2] 24 (0, 0)) (by (with_reducible repeat (first | apply aq1 | apply aq2 | apply aq3)); exact zA.out) hb)
                have zg := am_ (aq4 (g := zC) (o := .cells #[.int .i64 a1_0, .int .i64 a1_1, .slice A1_2 l1_2.length c1_2] 24 (0, 0)) (by (with_reducible repeat (first | apply aq1 | apply aq2 | apply aq3)); exact zD.out) hb)
                have zh := am_ (aq4 (g := zE) (o := .cells #[.int .i64 0, .int .i64 0, .slice none 0 0] 29 (0, 0)) (by (with_reducible repeat (first | apply aq1 | apply aq2 | apply aq3)); exact zH.out) hb)
                have zj := am_ (ab5 (by repeat (first | (with_reducible first | exact HB.out | apply ab1 | apply ab2 | apply ab3 | refine ab4 ?_ zL.out | refine ab4 ?_ zM.out | refine ab4 ?_ zS.out) | exact HB.out)) hb)
                have zk := am_ (hbox)
                have zn := am_ ((by rw [hg]; exact (below_size (by repeat (first | (with_reducible first | exact HB.out | apply ab1 | apply ab2 | apply ab3 | refine ab4 ?_ zL.out | refine ab4 ?_ zM.out | refine ab4 ?_ zS.out) | exact HB.out))) : w.heap.size ≤ zF))
                have zp := am_ ((by rw [hg]; exact (below_size (by repeat (first | (with_reducible first | exact HB.out | apply ab1 | apply ab2 | apply ab3 | refine ab4 ?_ zL.out | refine ab4 ?_ zM.out | refine ab4 ?_ zS.out) | exact HB.out))) : w.heap.size ≤ zF))
                have zq := am_ ((by rw [hg]; exact Nat.ne_of_lt (blk_lt (g := zB) (o := .cells #[.int .i64 a0_0, .int .i64 a0_1, .slice A0_2 l0_2.length c0_2] 24 (0, 0)) (by (with_reducible repeat (first | apply aq1 | apply aq2 | apply aq3)); exact zA.out)) : zB ≠ zF))
                have zr := am_ ((by rw [hg]; exact Nat.ne_of_gt (blk_lt (g := zB) (o := .cells #[.int .i64 a0_0, .int .i64 a0_1, .slice A0_2 l0_2.length c0_2] 24 (0, 0)) (by (with_reducible repeat (first | apply aq1 | apply aq2 | apply aq3)); exact zA.out)) : zF ≠ zB))
                have z4 := am_ ((by rw [hg]; exact Nat.ne_of_lt (blk_lt (g := zC) (o := .cells #[.int .i64 a1_0, .int .i64 a1_1, .slice A1_2 l1_2.length c1_2] 24 (0, 0)) (by (with_reducible repeat (first | apply aq1 | apply aq2 | apply aq3)); exact zD.out)) : zC ≠ zF))
                have zs := am_ ((by rw [hg]; exact Nat.ne_of_gt (blk_lt (g := zC) (o := .cells #[.int .i64 a1_0, .int .i64 a1_1, .slice A1_2 l1_2.length c1_2] 24 (0, 0)) (by (with_reducible repeat (first | apply aq1 | apply aq2 | apply aq3)); exact zD.out)) : zF ≠ zC))
                have zy := am_ ((by rw [hg]; exact Nat.ne_of_lt (blk_lt (g := zE) (o := .cells #[.int .i64 0, .int .i64 0, .slice none 0 0] 29 (0, 0)) (by (with_reducible repeat (first | apply aq1 | apply aq2 | apply aq3)); exact zH.out)) : zE ≠ zF))
                have z7 := am_ ((by rw [hg]; exact Nat.ne_of_gt (blk_lt (g := zE) (o := .cells #[.int .i64 0, .int .i64 0, .slice none 0 0] 29 (0, 0)) (by (with_reducible repeat (first | apply aq1 | apply aq2 | apply aq3)); exact zH.out)) : zF ≠ zE))
                clear zA
                clear zD
                clear zH
                clear HB
                have zA := zf
                have zD := zg
                have zH := zh
                have HB := zj
                have zJ := zk
                have z2 := zn
                have zT := zp
                have zP := zq
                have zX := zr
                have zQ := z4
                have zY := zs
                have za := zy
                have zZ := z7
                clear zf zg zh zj zk zn zp zq zr z4 zs zy z7
                clear hb hbox hg
                refine hK.out _ _ ⟨(aq7 zA.out 0).trans rfl, (aq7 zA.out 1).trans rfl, (aq7 zA.out 2).trans rfl, (aq7 zD.out 0).trans rfl, (aq7 zD.out 1).trans rfl, (aq7 zD.out 2).trans rfl⟩ (fun hHeld => ?_)
                clear hK K
                refine norm_ (a' := ?_) ?_ ?_
                rotate_left
                ·show Act.put _ (some 8) _ = _
                 simp only [Act.put, List.setIfInBounds_toArray, List.set_cons_zero, List.set_cons_succ, i64_w, i32_w, u8_w, u32_w]
                 rfl
                exact norm_ (by first | (simp only [putAll, Act.put, List.setIfInBounds_toArray, List.set_cons_zero, List.set_cons_succ]; done) | (simp only [putAll, Act.put, List.setIfInBounds_toArray, List.set_cons_zero, List.set_cons_succ]; rfl)) (hJ4_5 (zE, zF) _ ⟨hHeld, (by (with_reducible repeat (first | apply aq1 | apply aq2 | apply aq3)); exact zA.out), (by (with_reducible repeat (first | apply aq1 | apply aq2 | apply aq3)); exact zD.out), (by (with_reducible repeat (first | apply aq1 | apply aq2 | apply aq3)); exact zH.out), (by (with_reducible repeat (first | apply aq1 | apply aq2 | apply aq3)); exact zJ.out), z1.out, zS.out, zN.out, zU.out, zO.out, zV.out, zZ.out, za.out, z2.out, zT.out, zP.out, zX.out, zQ.out, zY.out, (by repeat (first | (with_reducible first | exact HB.out | apply ab1 | apply ab2 | apply ab3 | refine ab4 ?_ zL.out | refine ab4 ?_ zM.out | refine ab4 ?_ zS.out | refine ab4 ?_ zT.out) | exact HB.out))⟩)
             ·skip
              rintro zw xO ⟨hS_, h0_, h1_, h2_, h3_⟩
              have zf : Aside0 (Kd.N k29 29 xO w.heap.size (fun k_ => k_ ≠ zB ∧ k_ ≠ zC) zw zb) := ⟨h0_⟩
              have zg : Aside0 (xO.heap[zB]? = some (.cells #[.int .i64 a0_0, .int .i64 a0_1, .slice A0_2 l0_2.length c0_2] 24 (0, 0))) := ⟨h1_⟩
              have zh : Aside0 (xO.heap[zC]? = some (.cells #[.int .i64 a1_0, .int .i64 a1_1, .slice A1_2 l1_2.length c1_2] 24 (0, 0))) := ⟨h2_⟩
              have zj : Aside0 (Below w.heap.size w xO) := ⟨h3_⟩
              clear zA
              clear zD
              clear HB
              clear h0_ h1_ h2_ h3_
              have zW := zf
              have zA := zg
              have zD := zh
              have HB := zj
              clear zf zg zh zj
              have hHeld : xO.cell? ⟨zB, 0, none⟩ = some (.int .i64 a0_0) ∧ xO.cell? ⟨zB, 1, none⟩ = some (.int .i64 a0_1) ∧ xO.cell? ⟨zB, 2, none⟩ = some (.slice A0_2 l0_2.length c0_2) ∧ xO.cell? ⟨zC, 0, none⟩ = some (.int .i64 a1_0) ∧ xO.cell? ⟨zC, 1, none⟩ = some (.int .i64 a1_1) ∧ xO.cell? ⟨zC, 2, none⟩ = some (.slice A1_2 l1_2.length c1_2) := hS_
              refine norm_ (a' := ?_) ?_ ?_
              rotate_left
              ·simp only [putAll, Act.put, List.setIfInBounds_toArray, List.set_cons_zero, List.set_cons_succ]
               rfl
              refine three_ (i := 3) (j := 4) (k := 5) (Ni := some 26) (Nj := some 7) (Nk := some 8) #[true, true, true, true, false, false, false, false] #[true, true, true, false, true, false, false, false] #[true, true, true, false, false, true, false, false] rfl rfl rfl rfl rfl rfl (three_of HT_.out (by kernel_rfl)) (by decide) (by decide) (by decide) (fun K hK => ?_) (fun K hK => ?_) (fun K hK => ?_)
              ·skip
               refine goes_ Tryd.func16 (by kernel_rfl) rfl #[.agg #[.int .i64 a1_0, .int .i64 a1_1, .slice A1_2 l1_2.length c1_2], .int .i64 4, .int .i64 3] (by rfl) rfl rfl (by (try simp only [List.map_toArray, List.map_cons, List.map_nil]); first | done | rfl | (simp only [List.length_drop, List.length_take]; rfl)) ?_
               with_reducible refine (thyrsuslaw1_Make.calls xe a1_0 a1_1 _ _ l1_2 4 3 zm zo zi _ ?side1 ?side2 A23.out).mono ?_
               (case side1 => repeat (first | exact (Kd.C_below xb.out HB.out) | (with_reducible refine ac2 ?_ _) | (with_reducible refine ac3 ?_ _) | (with_reducible refine ac4 ?_)))
               (case side2 => exact xc.out)
               rintro e xB ⟨xD, rfl, ho0, hb⟩
               refine ⟨_, rfl, ?_⟩
               have zf := am_ (Kd.N_elder' (by (with_reducible repeat (first | apply an1 | apply an2 | apply an3)); exact zW.out) (by first | exact Kd.N_base ho0 | exact Kd.R_base ho0) hb)
               have zg := am_ (Kd.N_lower (an5 (ok' := fun k_ => some k_ ≠ (zw : Value).ownBlock ∧ k_ ≠ zB ∧ k_ ≠ zC) (Kd.R_N (Kd.R_bound ho0)) (fun k_ hk_ => ⟨(Kd.fresh' (Kd.N_lt (by (with_reducible repeat (first | apply an1 | apply an2 | apply an3)); exact zW.out)) k_ hk_.2.1), (af1 (g := zB) (o := .cells #[.int .i64 a0_0, .int .i64 a0_1, .slice A0_2 l0_2.length c0_2] 24 (0, 0)) (by (with_reducible repeat (first | apply aq1 | apply aq2 | apply aq3)); exact zA.out) k_ hk_.2.1), (af1 (g := zC) (o := .cells #[.int .i64 a1_0, .int .i64 a1_1, .slice A1_2 l1_2.length c1_2] 24 (0, 0)) (by (with_reducible repeat (first | apply aq1 | apply aq2 | apply aq3)); exact zD.out) k_ hk_.2.1)⟩)) (below_size (by repeat (first | (with_reducible first | exact HB.out | apply ab1 | apply ab2 | apply ab3 | refine ab4 ?_ zL.out | refine ab4 ?_ zM.out) | exact HB.out))))
               have zh := am_ (aq4 (g := zB) (o := .cells #[.int .i64 a0_0, .int .i64 a0_1, .slice A0_2 l0_2.length c0_2] 24 (0, 0)) (by (with_reducible repeat (first | apply aq1 | apply aq2 | apply aq3)); exact zA.out) hb)
               have zj := am_ (aq4 (g := zC) (o := .cells #[.int .i64 a1_0, .int .i64 a1_1, .slice A1_2 l1_2.length c1_2] 24 (0, 0)) (by (with_reducible repeat (first | apply aq1 | apply aq2 | apply aq3)); exact zD.out) hb)
               have zk := am_ (ab5 (by repeat (first | (with_reducible first | exact HB.out | apply ab1 | apply ab2 | apply ab3 | refine ab4 ?_ zL.out | refine ab4 ?_ zM.out) | exact HB.out)) hb)
               clear zW
               clear zA
               clear zD
               clear HB
               have zW := zf
               have zu := zg
               have zA := zh
               have zD := zj
               have HB := zk
               clear zf zg zh zj zk
               (try clear hb)
               (try clear hb2)
               (try clear hk)
               (try clear hi)
               (try clear ho0)
               refine hK.out _ _ ⟨(aq7 zA.out 0).trans rfl, (aq7 zA.out 1).trans rfl, (aq7 zA.out 2).trans rfl, (aq7 zD.out 0).trans rfl, (aq7 zD.out 1).trans rfl, (aq7 zD.out 2).trans rfl⟩ (fun hHeld => ?_)
               clear hK K
               refine norm_ (a' := ?_) ?_ ?_
               rotate_left
               ·show Act.put _ (some 26) _ = _
                simp only [Act.put, List.setIfInBounds_toArray, List.set_cons_zero, List.set_cons_succ, i64_w, i32_w, u8_w, u32_w]
                rfl
               exact norm_ (by first | (simp only [putAll, Act.put, List.setIfInBounds_toArray, List.set_cons_zero, List.set_cons_succ]; done) | (simp only [putAll, Act.put, List.setIfInBounds_toArray, List.set_cons_zero, List.set_cons_succ]; rfl)) (hJ1_3 (zw, xD) _ ⟨hHeld, (by (with_reducible repeat (first | apply an1 | apply an2 | apply an3)); exact an5 zW.out (fun _ hk => ⟨hk.2, ⟨hk.1.1, hk.1.2⟩⟩)), (by (with_reducible repeat (first | apply an1 | apply an2 | apply an3)); exact zu.out), (by (with_reducible repeat (first | apply aq1 | apply aq2 | apply aq3)); exact zA.out), (by (with_reducible repeat (first | apply aq1 | apply aq2 | apply aq3)); exact zD.out), (by repeat (first | (with_reducible first | exact HB.out | apply ab1 | apply ab2 | apply ab3 | refine ab4 ?_ zL.out | refine ab4 ?_ zM.out) | exact HB.out))⟩)
              ·skip
               refine box_step ?hg (N := 7) ?hd (cs := #[.int .i64 0, .int .i64 0, .slice none 0 0]) (t := 29) ?hr ?_; (case hd => rfl); (case hg => rfl); (case hr => first | (go_simp; done) | (go_simp; rfl))
               intro zE hg xB hbox hb
               have zf := am_ (Kd.N_below (Kd.N_elderB (by (with_reducible repeat (first | apply an1 | apply an2 | apply an3)); exact zW.out) zE (Nat.le_of_eq hg.symm)) hb)
               have zg := am_ (aq4 (g := zB) (o := .cells #[.int .i64 a0_0, .int .i64 a0_1, .slice A0_2 l0_2.length c0_2] 24 (0, 0)) (by (with_reducible repeat (first | apply aq1 | apply aq2 | apply aq3)); exact zA.out) hb)
               have zh := am_ (aq4 (g := zC) (o := .cells #[.int .i64 a1_0, .int .i64 a1_1, .slice A1_2 l1_2.length c1_2] 24 (0, 0)) (by (with_reducible repeat (first | apply aq1 | apply aq2 | apply aq3)); exact zD.out) hb)
               have zj := am_ (ab5 (by repeat (first | (with_reducible first | exact HB.out | apply ab1 | apply ab2 | apply ab3 | refine ab4 ?_ zL.out | refine ab4 ?_ zM.out) | exact HB.out)) hb)
               have zk := am_ (hbox)
               have zn := am_ ((by rw [hg]; exact (below_size (by repeat (first | (with_reducible first | exact HB.out | apply ab1 | apply ab2 | apply ab3 | refine ab4 ?_ zL.out | refine ab4 ?_ zM.out) | exact HB.out))) : w.heap.size ≤ zE))
               have zp := am_ ((by rw [hg]; exact (below_size (by repeat (first | (with_reducible first | exact HB.out | apply ab1 | apply ab2 | apply ab3 | refine ab4 ?_ zL.out | refine ab4 ?_ zM.out) | exact HB.out))) : w.heap.size ≤ zE))
               have zq := am_ ((by rw [hg]; exact Nat.ne_of_lt (blk_lt (g := zB) (o := .cells #[.int .i64 a0_0, .int .i64 a0_1, .slice A0_2 l0_2.length c0_2] 24 (0, 0)) (by (with_reducible repeat (first | apply aq1 | apply aq2 | apply aq3)); exact zA.out)) : zB ≠ zE))
               have zr := am_ ((by rw [hg]; exact Nat.ne_of_gt (blk_lt (g := zB) (o := .cells #[.int .i64 a0_0, .int .i64 a0_1, .slice A0_2 l0_2.length c0_2] 24 (0, 0)) (by (with_reducible repeat (first | apply aq1 | apply aq2 | apply aq3)); exact zA.out)) : zE ≠ zB))
               have z4 := am_ ((by rw [hg]; exact Nat.ne_of_lt (blk_lt (g := zC) (o := .cells #[.int .i64 a1_0, .int .i64 a1_1, .slice A1_2 l1_2.length c1_2] 24 (0, 0)) (by (with_reducible repeat (first | apply aq1 | apply aq2 | apply aq3)); exact zD.out)) : zC ≠ zE))
               have zs := am_ ((by rw [hg]; exact Nat.ne_of_gt (blk_lt (g := zC) (o := .cells #[.int .i64 a1_0, .int .i64 a1_1, .slice A1_2 l1_2.length c1_2] 24 (0, 0)) (by (with_reducible repeat (first | apply aq1 | apply aq2 | apply aq3)); exact zD.out)) : zE ≠ zC))
               clear zW
               clear zA
               clear zD
               clear HB
               have zW := zf
               have zA := zg
               have zD := zh
               have HB := zj
               have zH := zk
               have z1 := zn
               have zS := zp
               have zN := zq
               have zU := zr
               have zO := z4
               have zV := zs
               clear zf zg zh zj zk zn zp zq zr z4 zs
               clear hb hbox hg
               refine hK.out _ _ ⟨(aq7 zA.out 0).trans rfl, (aq7 zA.out 1).trans rfl, (aq7 zA.out 2).trans rfl, (aq7 zD.out 0).trans rfl, (aq7 zD.out 1).trans rfl, (aq7 zD.out 2).trans rfl⟩ (fun hHeld => ?_)
               clear hK K
               refine norm_ (a' := ?_) ?_ ?_
               rotate_left
               ·show Act.put _ (some 7) _ = _
                simp only [Act.put, List.setIfInBounds_toArray, List.set_cons_zero, List.set_cons_succ, i64_w, i32_w, u8_w, u32_w]
                rfl
               exact norm_ (by first | (simp only [putAll, Act.put, List.setIfInBounds_toArray, List.set_cons_zero, List.set_cons_succ]; done) | (simp only [putAll, Act.put, List.setIfInBounds_toArray, List.set_cons_zero, List.set_cons_succ]; rfl)) (hJ1_4 (zw, zE) _ ⟨hHeld, (by (with_reducible repeat (first | apply an1 | apply an2 | apply an3)); exact an5 zW.out (fun _ hk => ⟨hk.1.1, ⟨hk.1.2, hk.2⟩⟩)), (by (with_reducible repeat (first | apply aq1 | apply aq2 | apply aq3)); exact zA.out), (by (with_reducible repeat (first | apply aq1 | apply aq2 | apply aq3)); exact zD.out), (by (with_reducible repeat (first | apply aq1 | apply aq2 | apply aq3)); exact zH.out), z1.out, zS.out, zN.out, zU.out, zO.out, zV.out, (by repeat (first | (with_reducible first | exact HB.out | apply ab1 | apply ab2 | apply ab3 | refine ab4 ?_ zL.out | refine ab4 ?_ zM.out | refine ab4 ?_ zS.out) | exact HB.out))⟩)
              ·skip
               refine box_step ?hg (N := 8) ?hd (cs := #[.int .i64 0, .int .i64 0, .slice none 0 0]) (t := 29) ?hr ?_; (case hd => rfl); (case hg => rfl); (case hr => first | (go_simp; done) | (go_simp; rfl))
               intro zF hg xB hbox hb
               have zf := am_ (Kd.N_below (Kd.N_elderB (by (with_reducible repeat (first | apply an1 | apply an2 | apply an3)); exact zW.out) zF (Nat.le_of_eq hg.symm)) hb)
               have zg := am_ (aq4 (g := zB) (o := .cells #[.int .i64 a0_0, .int .i64 a0_1, .slice A0_2 l0_2.length c0_2] 24 (0, 0)) (by (with_reducible repeat (first | apply aq1 | apply aq2 | apply aq3)); exact zA.out) hb)
               have zh := am_ (aq4 (g := zC) (o := .cells #[.int .i64 a1_0, .int .i64 a1_1, .slice A1_2 l1_2.length c1_2] 24 (0, 0)) (by (with_reducible repeat (first | apply aq1 | apply aq2 | apply aq3)); exact zD.out) hb)
               have zj := am_ (ab5 (by repeat (first | (with_reducible first | exact HB.out | apply ab1 | apply ab2 | apply ab3 | refine ab4 ?_ zL.out | refine ab4 ?_ zM.out) | exact HB.out)) hb)
               have zk := am_ (hbox)
               have zn := am_ ((by rw [hg]; exact (below_size (by repeat (first | (with_reducible first | exact HB.out | apply ab1 | apply ab2 | apply ab3 | refine ab4 ?_ zL.out | refine ab4 ?_ zM.out) | exact HB.out))) : w.heap.size ≤ zF))
               have zp := am_ ((by rw [hg]; exact (below_size (by repeat (first | (with_reducible first | exact HB.out | apply ab1 | apply ab2 | apply ab3 | refine ab4 ?_ zL.out | refine ab4 ?_ zM.out) | exact HB.out))) : w.heap.size ≤ zF))
               have zq := am_ ((by rw [hg]; exact Nat.ne_of_lt (blk_lt (g := zB) (o := .cells #[.int .i64 a0_0, .int .i64 a0_1, .slice A0_2 l0_2.length c0_2] 24 (0, 0)) (by (with_reducible repeat (first | apply aq1 | apply aq2 | apply aq3)); exact zA.out)) : zB ≠ zF))
               have zr := am_ ((by rw [hg]; exact Nat.ne_of_gt (blk_lt (g := zB) (o := .cells #[.int .i64 a0_0, .int .i64 a0_1, .slice A0_2 l0_2.length c0_2] 24 (0, 0)) (by (with_reducible repeat (first | apply aq1 | apply aq2 | apply aq3)); exact zA.out)) : zF ≠ zB))
               have z4 := am_ ((by rw [hg]; exact Nat.ne_of_lt (blk_lt (g := zC) (o := .cells #[.int .i64 a1_0, .int .i64 a1_1, .slice A1_2 l1_2.length c1_2] 24 (0, 0)) (by (with_reducible repeat (first | apply aq1 | apply aq2 | apply aq3)); exact zD.out)) : zC ≠ zF))
               have zs := am_ ((by rw [hg]; exact Nat.ne_of_gt (blk_lt (g := zC) (o := .cells #[.int .i64 a1_0, .int .i64 a1_1, .slice A1_2 l1_2.length c1_2] 24 (0, 0)) (by (with_reducible repeat (first | apply aq1 | apply aq2 | apply aq3)); exact zD.out)) : zF ≠ zC))
               clear zW
               clear zA
               clear zD
               clear HB
               have zW := zf
               have zA := zg
               have zD := zh
               have HB := zj
               have zJ := zk
               have z2 := zn
               have zT := zp
               have zP := zq
               have zX := zr
               have zQ := z4
               have zY := zs
               clear zf zg zh zj zk zn zp zq zr z4 zs
               clear hb hbox hg
               refine hK.out _ _ ⟨(aq7 zA.out 0).trans rfl, (aq7 zA.out 1).trans rfl, (aq7 zA.out 2).trans rfl, (aq7 zD.out 0).trans rfl, (aq7 zD.out 1).trans rfl, (aq7 zD.out 2).trans rfl⟩ (fun hHeld => ?_)
               clear hK K
               refine norm_ (a' := ?_) ?_ ?_
               rotate_left
               ·show Act.put _ (some 8) _ = _
                simp only [Act.put, List.setIfInBounds_toArray, List.set_cons_zero, List.set_cons_succ, i64_w, i32_w, u8_w, u32_w]
                rfl
               exact norm_ (by first | (simp only [putAll, Act.put, List.setIfInBounds_toArray, List.set_cons_zero, List.set_cons_succ]; done) | (simp only [putAll, Act.put, List.setIfInBounds_toArray, List.set_cons_zero, List.set_cons_succ]; rfl)) (hJ1_5 (zw, zF) _ ⟨hHeld, (by (with_reducible repeat (first | apply an1 | apply an2 | apply an3)); exact an5 zW.out (fun _ hk => ⟨hk.1.1, ⟨hk.1.2, hk.2⟩⟩)), (by (with_reducible repeat (first | apply aq1 | apply aq2 | apply aq3)); exact zA.out), (by (with_reducible repeat (first | apply aq1 | apply aq2 | apply aq3)); exact zD.out), (by (with_reducible repeat (first | apply aq1 | apply aq2 | apply aq3)); exact zJ.out), z2.out, zT.out, zP.out, zX.out, zQ.out, zY.out, (by repeat (first | (with_reducible first | exact HB.out | apply ab1 | apply ab2 | apply ab3 | refine ab4 ?_ zL.out | refine ab4 ?_ zM.out | refine ab4 ?_ zT.out) | exact HB.out))⟩)
            ·skip
             rintro ⟨zE, zF⟩ xB ⟨hS_, h0_, h1_, h2_, h3_, h4_, h5_, h6_, h7_, h8_, h9_, h10_, h11_, h12_, h13_, h14_, h15_, h16_, h17_, h18_⟩
             have zf : Aside0 (xB.heap[zB]? = some (.cells #[.int .i64 a0_0, .int .i64 a0_1, .slice A0_2 l0_2.length c0_2] 24 (0, 0))) := ⟨h0_⟩
             have zg : Aside0 (xB.heap[zC]? = some (.cells #[.int .i64 a1_0, .int .i64 a1_1, .slice A1_2 l1_2.length c1_2] 24 (0, 0))) := ⟨h1_⟩
             have zh : Aside0 (xB.heap[zE]? = some (.cells #[.int .i64 0, .int .i64 0, .slice none 0 0] 29 (0, 0))) := ⟨h2_⟩
             have zj : Aside0 (xB.heap[zF]? = some (.cells #[.int .i64 0, .int .i64 0, .slice none 0 0] 29 (0, 0))) := ⟨h3_⟩
             have zk : Aside0 (w.heap.size ≤ zE) := ⟨h4_⟩
             have zn : Aside0 (w.heap.size ≤ zE) := ⟨h5_⟩
             have zp : Aside0 (zB ≠ zE) := ⟨h6_⟩
             have zq : Aside0 (zE ≠ zB) := ⟨h7_⟩
             have zr : Aside0 (zC ≠ zE) := ⟨h8_⟩
             have z4 : Aside0 (zE ≠ zC) := ⟨h9_⟩
             have zs : Aside0 (zF ≠ zE) := ⟨h10_⟩
             have zy : Aside0 (zE ≠ zF) := ⟨h11_⟩
             have z7 : Aside0 (w.heap.size ≤ zF) := ⟨h12_⟩
             have xE : Aside0 (w.heap.size ≤ zF) := ⟨h13_⟩
             have xJ : Aside0 (zB ≠ zF) := ⟨h14_⟩
             have xR : Aside0 (zF ≠ zB) := ⟨h15_⟩
             have xS : Aside0 (zC ≠ zF) := ⟨h16_⟩
             have xT : Aside0 (zF ≠ zC) := ⟨h17_⟩
             have xU : Aside0 (Below w.heap.size w xB) := ⟨h18_⟩
             clear zA
             clear zD
             clear HB
             clear h0_ h1_ h2_ h3_ h4_ h5_ h6_ h7_ h8_ h9_ h10_ h11_ h12_ h13_ h14_ h15_ h16_ h17_ h18_
             have zA := zf
             have zD := zg
             have zH := zh
             have zJ := zj
             have z1 := zk
             have zS := zn
             have zN := zp
             have zU := zq
             have zO := zr
             have zV := z4
             have zZ := zs
             have za := zy
             have z2 := z7
             have zT := xE
             have zP := xJ
             have zX := xR
             have zQ := xS
             have zY := xT
             have HB := xU
             clear zf zg zh zj zk zn zp zq zr z4 zs zy z7 xE xJ xR xS xT xU
             have hHeld : xB.cell? ⟨zB, 0, none⟩ = some (.int .i64 a0_0) ∧ xB.cell? ⟨zB, 1, none⟩ = some (.int .i64 a0_1) ∧ xB.cell? ⟨zB, 2, none⟩ = some (.slice A0_2 l0_2.length c0_2) ∧ xB.cell? ⟨zC, 0, none⟩ = some (.int .i64 a1_0) ∧ xB.cell? ⟨zC, 1, none⟩ = some (.int .i64 a1_1) ∧ xB.cell? ⟨zC, 2, none⟩ = some (.slice A1_2 l1_2.length c1_2) := hS_
             refine norm_ (a' := ?_) ?_ ?_
             rotate_left
             ·simp only [putAll, Act.put, List.setIfInBounds_toArray, List.set_cons_zero, List.set_cons_succ]
              rfl
             refine one_ (i := 1) (N := some 24) #[true, true, true, false, true, true, false, false] rfl rfl (one_of HT_.out (by kernel_rfl)) (by decide) (fun K hK => ?_)
             refine goes_ Tryd.func16 (by kernel_rfl) rfl #[.agg #[.int .i64 a0_0, .int .i64 a0_1, .slice A0_2 l0_2.length c0_2], .int .i64 6, .int .i64 3] (by rfl) rfl rfl (by (try simp only [List.map_toArray, List.map_cons, List.map_nil]); first | done | rfl | (simp only [List.length_drop, List.length_take]; rfl)) ?_
             with_reducible refine (thyrsuslaw1_Make.calls xe a0_0 a0_1 _ _ l0_2 6 3 zd ze zb _ ?side1 ?side2 A22.out).mono ?_
             (case side1 => repeat (first | exact (Kd.C_below xW.out HB.out) | (with_reducible refine ac2 ?_ _) | (with_reducible refine ac3 ?_ _) | (with_reducible refine ac4 ?_)))
             (case side2 => exact xX.out)
             rintro e xF ⟨zw, rfl, ho0, hb⟩
             refine ⟨_, rfl, ?_⟩
             have zf := am_ (Kd.N_lower (an5 (ok' := fun k_ => k_ ≠ zB ∧ k_ ≠ zC ∧ k_ ≠ zE ∧ k_ ≠ zF) (Kd.R_N (Kd.R_bound ho0)) (fun k_ hk_ => ⟨(af1 (g := zB) (o := .cells #[.int .i64 a0_0, .int .i64 a0_1, .slice A0_2 l0_2.length c0_2] 24 (0, 0)) (by (with_reducible repeat (first | apply aq1 | apply aq2 | apply aq3)); exact zA.out) k_ hk_.2.1), (af1 (g := zC) (o := .cells #[.int .i64 a1_0, .int .i64 a1_1, .slice A1_2 l1_2.length c1_2] 24 (0, 0)) (by (with_reducible repeat (first | apply aq1 | apply aq2 | apply aq3)); exact zD.out) k_ hk_.2.1), (af1 (g := zE) (o := .cells #[.int .i64 0, .int .i64 0, .slice none 0 0] 29 (0, 0)) (by (with_reducible repeat (first | apply aq1 | apply aq2 | apply aq3)); exact zH.out) k_ hk_.2.1), (af1 (g := zF) (o := .cells #[.int .i64 0, .int .i64 0, .slice none 0 0] 29 (0, 0)) (by (with_reducible repeat (first | apply aq1 | apply aq2 | apply aq3)); exact zJ.out) k_ hk_.2.1)⟩)) (below_size (by repeat (first | (with_reducible first | exact HB.out | apply ab1 | apply ab2 | apply ab3 | refine ab4 ?_ zL.out | refine ab4 ?_ zM.out | refine ab4 ?_ zS.out | refine ab4 ?_ zT.out) | exact HB.out))))
             have zg := am_ (aq4 (g := zB) (o := .cells #[.int .i64 a0_0, .int .i64 a0_1, .slice A0_2 l0_2.length c0_2] 24 (0, 0)) (by (with_reducible repeat (first | apply aq1 | apply aq2 | apply aq3)); exact zA.out) hb)
             have zh := am_ (aq4 (g := zC) (o := .cells #[.int .i64 a1_0, .int .i64 a1_1, .slice A1_2 l1_2.length c1_2] 24 (0, 0)) (by (with_reducible repeat (first | apply aq1 | apply aq2 | apply aq3)); exact zD.out) hb)
             have zj := am_ (aq4 (g := zE) (o := .cells #[.int .i64 0, .int .i64 0, .slice none 0 0] 29 (0, 0)) (by (with_reducible repeat (first | apply aq1 | apply aq2 | apply aq3)); exact zH.out) hb)
             have zk := am_ (aq4 (g := zF) (o := .cells #[.int .i64 0, .int .i64 0, .slice none 0 0] 29 (0, 0)) (by (with_reducible repeat (first | apply aq1 | apply aq2 | apply aq3)); exact zJ.out) hb)
             have zn := am_ (ab5 (by repeat (first | (with_reducible first | exact HB.out | apply ab1 | apply ab2 | apply ab3 | refine ab4 ?_ zL.out | refine ab4 ?_ zM.out | refine ab4 ?_ zS.out | refine ab4 ?_ zT.out) | exact HB.out)) hb)
             clear zA
             clear zD
             clear zH
             clear zJ
             clear HB
             have zW := zf
             have zA := zg
             have zD := zh
             have zH := zj
             have zJ := zk
             have HB := zn
             clear zf zg zh zj zk zn
             (try clear hb)
             (try clear hb2)
             (try clear hk)
             (try clear hi)
             (try clear ho0)
             refine hK.out _ _ ⟨(aq7 zA.out 0).trans rfl, (aq7 zA.out 1).trans rfl, (aq7 zA.out 2).trans rfl, (aq7 zD.out 0).trans rfl, (aq7 zD.out 1).trans rfl, (aq7 zD.out 2).trans rfl⟩ (fun hHeld => ?_)
             clear hK K
             refine norm_ (a' := ?_) ?_ ?_
             rotate_left
             ·show Act.put _ (some 24) _ = _
              simp only [Act.put, List.setIfInBounds_toArray, List.set_cons_zero, List.set_cons_succ, i64_w, i32_w, u8_w, u32_w]
              rfl
             exact norm_ (by first | (simp only [putAll, Act.put, List.setIfInBounds_toArray, List.set_cons_zero, List.set_cons_succ]; done) | (simp only [putAll, Act.put, List.setIfInBounds_toArray, List.set_cons_zero, List.set_cons_succ]; rfl)) (hJ1_4_5 (zw, zE, zF) _ ⟨hHeld, (by (with_reducible repeat (first | apply an1 | apply an2 | apply an3)); exact zW.out), (by (with_reducible repeat (first | apply aq1 | apply aq2 | apply aq3)); exact zA.out), (by (with_reducible repeat (first | apply aq1 | apply aq2 | apply aq3)); exact zD.out), (by (with_reducible repeat (first | apply aq1 | apply aq2 | apply aq3)); exact zH.out), (by (with_reducible repeat (first | apply aq1 | apply aq2 | apply aq3)); exact zJ.out), z1.out, zS.out, zN.out, zU.out, zO.out, zV.out, zZ.out, za.out, z2.out, zT.out, zP.out, zX.out, zQ.out, zY.out, (by repeat (first | (with_reducible first | exact HB.out | apply ab1 | apply ab2 | apply ab3 | refine ab4 ?_ zL.out | refine ab4 ?_ zM.out | refine ab4 ?_ zS.out | refine ab4 ?_ zT.out) | exact HB.out))⟩)
           ·skip
            rintro ⟨zw, zF⟩ xB ⟨hS_, h0_, h1_, h2_, h3_, h4_, h5_, h6_, h7_, h8_, h9_, h10_⟩
            have zf : Aside0 (Kd.N k29 29 xB w.heap.size (fun k_ => k_ ≠ zB ∧ k_ ≠ zC ∧ k_ ≠ zF) zw zb) := ⟨h0_⟩
            have zg : Aside0 (xB.heap[zB]? = some (.cells #[.int .i64 a0_0, .int .i64 a0_1, .slice A0_2 l0_2.length c0_2] 24 (0, 0))) := ⟨h1_⟩
            have zh : Aside0 (xB.heap[zC]? = some (.cells #[.int .i64 a1_0, .int .i64 a1_1, .slice A1_2 l1_2.length c1_2] 24 (0, 0))) := ⟨h2_⟩
            have zj : Aside0 (xB.heap[zF]? = some (.cells #[.int .i64 0, .int .i64 0, .slice none 0 0] 29 (0, 0))) := ⟨h3_⟩
            have zk : Aside0 (w.heap.size ≤ zF) := ⟨h4_⟩
            have zn : Aside0 (w.heap.size ≤ zF) := ⟨h5_⟩
            have zp : Aside0 (zB ≠ zF) := ⟨h6_⟩
            have zq : Aside0 (zF ≠ zB) := ⟨h7_⟩
            have zr : Aside0 (zC ≠ zF) := ⟨h8_⟩
            have z4 : Aside0 (zF ≠ zC) := ⟨h9_⟩
            have zs : Aside0 (Below w.heap.size w xB) := ⟨h10_⟩
            clear zA
            clear zD
            clear HB
            clear h0_ h1_ h2_ h3_ h4_ h5_ h6_ h7_ h8_ h9_ h10_
            have zW := zf
            have zA := zg
            have zD := zh
            have zJ := zj
            have z2 := zk
            have zT := zn
            have zP := zp
            have zX := zq
            have zQ := zr
            have zY := z4
            have HB := zs
            clear zf zg zh zj zk zn zp zq zr z4 zs
            have hHeld : xB.cell? ⟨zB, 0, none⟩ = some (.int .i64 a0_0) ∧ xB.cell? ⟨zB, 1, none⟩ = some (.int .i64 a0_1) ∧ xB.cell? ⟨zB, 2, none⟩ = some (.slice A0_2 l0_2.length c0_2) ∧ xB.cell? ⟨zC, 0, none⟩ = some (.int .i64 a1_0) ∧ xB.cell? ⟨zC, 1, none⟩ = some (.int .i64 a1_1) ∧ xB.cell? ⟨zC, 2, none⟩ = some (.slice A1_2 l1_2.length c1_2) := hS_
            refine norm_ (a' := ?_) ?_ ?_
            rotate_left
            ·simp only [putAll, Act.put, List.setIfInBounds_toArray, List.set_cons_zero, List.set_cons_succ]
             rfl
            refine two_ (i := 3) (j := 4) (Ni := some 26) (Nj := some 7) #[true, true, true, true, false, true, false, false] #[true, true, true, false, true, true, false, false] rfl rfl rfl rfl (two_of HT_.out (by kernel_rfl)) (by decide) (by decide) (fun K hK => ?_) (fun K hK => ?_)
            ·skip
             refine goes_ Tryd.func16 (by kernel_rfl) rfl #[.agg #[.int .i64 a1_0, .int .i64 a1_1, .slice A1_2 l1_2.length c1_2], .int .i64 4, .int .i64 3] (by rfl) rfl rfl (by (try simp only [List.map_toArray, List.map_cons, List.map_nil]); first | done | rfl | (simp only [List.length_drop, List.length_take]; rfl)) ?_
             with_reducible refine (thyrsuslaw1_Make.calls xe a1_0 a1_1 _ _ l1_2 4 3 zm zo zi _ ?side1 ?side2 A23.out).mono ?_
             (case side1 => repeat (first | exact (Kd.C_below xb.out HB.out) | (with_reducible refine ac2 ?_ _) | (with_reducible refine ac3 ?_ _) | (with_reducible refine ac4 ?_)))
             (case side2 => exact xc.out)
             rintro e xF ⟨xD, rfl, ho0, hb⟩
             refine ⟨_, rfl, ?_⟩
             have zf := am_ (Kd.N_elder' (by (with_reducible repeat (first | apply an1 | apply an2 | apply an3)); exact zW.out) (by first | exact Kd.N_base ho0 | exact Kd.R_base ho0) hb)
             have zg := am_ (Kd.N_lower (an5 (ok' := fun k_ => some k_ ≠ (zw : Value).ownBlock ∧ k_ ≠ zB ∧ k_ ≠ zC ∧ k_ ≠ zF) (Kd.R_N (Kd.R_bound ho0)) (fun k_ hk_ => ⟨(Kd.fresh' (Kd.N_lt (by (with_reducible repeat (first | apply an1 | apply an2 | apply an3)); exact zW.out)) k_ hk_.2.1), (af1 (g := zB) (o := .cells #[.int .i64 a0_0, .int .i64 a0_1, .slice A0_2 l0_2.length c0_2] 24 (0, 0)) (by (with_reducible repeat (first | apply aq1 | apply aq2 | apply aq3)); exact zA.out) k_ hk_.2.1), (af1 (g := zC) (o := .cells #[.int .i64 a1_0, .int .i64 a1_1, .slice A1_2 l1_2.length c1_2] 24 (0, 0)) (by (with_reducible repeat (first | apply aq1 | apply aq2 | apply aq3)); exact zD.out) k_ hk_.2.1), (af1 (g := zF) (o := .cells #[.int .i64 0, .int .i64 0, .slice none 0 0] 29 (0, 0)) (by (with_reducible repeat (first | apply aq1 | apply aq2 | apply aq3)); exact zJ.out) k_ hk_.2.1)⟩)) (below_size (by repeat (first | (with_reducible first | exact HB.out | apply ab1 | apply ab2 | apply ab3 | refine ab4 ?_ zL.out | refine ab4 ?_ zM.out | refine ab4 ?_ zT.out) | exact HB.out))))
             have zh := am_ (aq4 (g := zB) (o := .cells #[.int .i64 a0_0, .int .i64 a0_1, .slice A0_2 l0_2.length c0_2] 24 (0, 0)) (by (with_reducible repeat (first | apply aq1 | apply aq2 | apply aq3)); exact zA.out) hb)
             have zj := am_ (aq4 (g := zC) (o := .cells #[.int .i64 a1_0, .int .i64 a1_1, .slice A1_2 l1_2.length c1_2] 24 (0, 0)) (by (with_reducible repeat (first | apply aq1 | apply aq2 | apply aq3)); exact zD.out) hb)
             have zk := am_ (aq4 (g := zF) (o := .cells #[.int .i64 0, .int .i64 0, .slice none 0 0] 29 (0, 0)) (by (with_reducible repeat (first | apply aq1 | apply aq2 | apply aq3)); exact zJ.out) hb)
             have zn := am_ (ab5 (by repeat (first | (with_reducible first | exact HB.out | apply ab1 | apply ab2 | apply ab3 | refine ab4 ?_ zL.out | refine ab4 ?_ zM.out | refine ab4 ?_ zT.out) | exact HB.out)) hb)
             clear zW
             clear zA
             clear zD
             clear zJ
             clear HB
             have zW := zf
             have zu := zg
             have zA := zh
             have zD := zj
             have zJ := zk
             have HB := zn
             clear zf zg zh zj zk zn
             (try clear hb)
             (try clear hb2)
             (try clear hk)
             (try clear hi)
             (try clear ho0)
             refine hK.out _ _ ⟨(aq7 zA.out 0).trans rfl, (aq7 zA.out 1).trans rfl, (aq7 zA.out 2).trans rfl, (aq7 zD.out 0).trans rfl, (aq7 zD.out 1).trans rfl, (aq7 zD.out 2).trans rfl⟩ (fun hHeld => ?_)
             clear hK K
             refine norm_ (a' := ?_) ?_ ?_
             rotate_left
             ·show Act.put _ (some 26) _ = _
              simp only [Act.put, List.setIfInBounds_toArray, List.set_cons_zero, List.set_cons_succ, i64_w, i32_w, u8_w, u32_w]
              rfl
             exact norm_ (by first | (simp only [putAll, Act.put, List.setIfInBounds_toArray, List.set_cons_zero, List.set_cons_succ]; done) | (simp only [putAll, Act.put, List.setIfInBounds_toArray, List.set_cons_zero, List.set_cons_succ]; rfl)) (hJ1_3_5 (zw, xD, zF) _ ⟨hHeld, (by (with_reducible repeat (first | apply an1 | apply an2 | apply an3)); exact an5 zW.out (fun _ hk => ⟨hk.2, ⟨hk.1.1, ⟨hk.1.2.1, hk.1.2.2⟩⟩⟩)), (by (with_reducible repeat (first | apply an1 | apply an2 | apply an3)); exact zu.out), (by (with_reducible repeat (first | apply aq1 | apply aq2 | apply aq3)); exact zA.out), (by (with_reducible repeat (first | apply aq1 | apply aq2 | apply aq3)); exact zD.out), (by (with_reducible repeat (first | apply aq1 | apply aq2 | apply aq3)); exact zJ.out), z2.out, zT.out, zP.out, zX.out, zQ.out, zY.out, (by repeat (first | (with_reducible first | exact HB.out | apply ab1 | apply ab2 | apply ab3 | refine ab4 ?_ zL.out | refine ab4 ?_ zM.out | refine ab4 ?_ zT.out) | exact HB.out))⟩)
            ·skip
             refine box_step ?hg (N := 7) ?hd (cs := #[.int .i64 0, .int .i64 0, .slice none 0 0]) (t := 29) ?hr ?_; (case hd => rfl); (case hg => rfl); (case hr => first | (go_simp; done) | (go_simp; rfl))
             intro zE hg xF hbox hb
             have zf := am_ (Kd.N_below (Kd.N_elderB (by (with_reducible repeat (first | apply an1 | apply an2 | apply an3)); exact zW.out) zE (Nat.le_of_eq hg.symm)) hb)
             have zg := am_ (aq4 (g := zB) (o := .cells #[.int .i64 a0_0, .int .i64 a0_1, .slice A0_2 l0_2.length c0_2] 24 (0, 0)) (by (with_reducible repeat (first | apply aq1 | apply aq2 | apply aq3)); exact zA.out) hb)
             have zh := am_ (aq4 (g := zC) (o := .cells #[.int .i64 a1_0, .int .i64 a1_1, .slice A1_2 l1_2.length c1_2] 24 (0, 0)) (by (with_reducible repeat (first | apply aq1 | apply aq2 | apply aq3)); exact zD.out) hb)
             have zj := am_ (aq4 (g := zF) (o := .cells #[.int .i64 0, .int .i64 0, .slice none 0 0] 29 (0, 0)) (by (with_reducible repeat (first | apply aq1 | apply aq2 | apply aq3)); exact zJ.out) hb)
             have zk := am_ (ab5 (by repeat (first | (with_reducible first | exact HB.out | apply ab1 | apply ab2 | apply ab3 | refine ab4 ?_ zL.out | refine ab4 ?_ zM.out | refine ab4 ?_ zT.out) | exact HB.out)) hb)
             have zn := am_ (hbox)
             have zp := am_ ((by rw [hg]; exact (below_size (by repeat (first | (with_reducible first | exact HB.out | apply ab1 | apply ab2 | apply ab3 | refine ab4 ?_ zL.out | refine ab4 ?_ zM.out | refine ab4 ?_ zT.out) | exact HB.out))) : w.heap.size ≤ zE))
             have zq := am_ ((by rw [hg]; exact (below_size (by repeat (first | (with_reducible first | exact HB.out | apply ab1 | apply ab2 | apply ab3 | refine ab4 ?_ zL.out | refine ab4 ?_ zM.out | refine ab4 ?_ zT.out) | exact HB.out))) : w.heap.size ≤ zE))
             have zr := am_ ((by rw [hg]; exact Nat.ne_of_lt (blk_lt (g := zB) (o := .cells #[.int .i64 a0_0, .int .i64 a0_1, .slice A0_2 l0_2.length c0_2] 24 (0, 0)) (by (with_reducible repeat (first | apply aq1 | apply aq2 | apply aq3)); exact zA.out)) : zB ≠ zE))
             have z4 := am_ ((by rw [hg]; exact Nat.ne_of_gt (blk_lt (g := zB) (o := .cells #[.int .i64 a0_0, .int .i64 a0_1, .slice A0_2 l0_2.length c0_2] 24 (0, 0)) (by (with_reducible repeat (first | apply aq1 | apply aq2 | apply aq3)); exact zA.out)) : zE ≠ zB))
             have zs := am_ ((by rw [hg]; exact Nat.ne_of_lt (blk_lt (g := zC) (o := .cells #[.int .i64 a1_0, .int .i64 a1_1, .slice A1_2 l1_2.length c1_2] 24 (0, 0)) (by (with_reducible repeat (first | apply aq1 | apply aq2 | apply aq3)); exact zD.out)) : zC ≠ zE))
             have zy := am_ ((by rw [hg]; exact Nat.ne_of_gt (blk_lt (g := zC) (o := .cells #[.int .i64 a1_0, .int .i64 a1_1, .slice A1_2 l1_2.length c1_2] 24 (0, 0)) (by (with_reducible repeat (first | apply aq1 | apply aq2 | apply aq3)); exact zD.out)) : zE ≠ zC))
             have z7 := am_ ((by rw [hg]; exact Nat.ne_of_lt (blk_lt (g := zF) (o := .cells #[.int .i64 0, .int .i64 0, .slice none 0 0] 29 (0, 0)) (by (with_reducible repeat (first | apply aq1 | apply aq2 | apply aq3)); exact zJ.out)) : zF ≠ zE))
             have xE := am_ ((by rw [hg]; exact Nat.ne_of_gt (blk_lt (g := zF) (o := .cells #[.int .i64 0, .int .i64 0, .slice none 0 0] 29 (0, 0)) (by (with_reducible repeat (first | apply aq1 | apply aq2 | apply aq3)); exact zJ.out)) : zE ≠ zF))
             clear zW
             clear zA
             clear zD
             clear zJ
             clear HB
             have zW := zf
             have zA := zg
             have zD := zh
             have zJ := zj
             have HB := zk
             have zH := zn
             have z1 := zp
             have zS := zq
             have zN := zr
             have zU := z4
             have zO := zs
             have zV := zy
             have zZ := z7
             have za := xE
             clear zf zg zh zj zk zn zp zq zr z4 zs zy z7 xE
             clear hb hbox hg
             refine hK.out _ _ ⟨(aq7 zA.out 0).trans rfl, (aq7 zA.out 1).trans rfl, (aq7 zA.out 2).trans rfl, (aq7 zD.out 0).trans rfl, (aq7 zD.out 1).trans rfl, (aq7 zD.out 2).trans rfl⟩ (fun hHeld => ?_)
             clear hK K
             refine norm_ (a' := ?_) ?_ ?_
             rotate_left
             ·show Act.put _ (some 7) _ = _
              simp only [Act.put, List.setIfInBounds_toArray, List.set_cons_zero, List.set_cons_succ, i64_w, i32_w, u8_w, u32_w]
              rfl
             exact norm_ (by first | (simp only [putAll, Act.put, List.setIfInBounds_toArray, List.set_cons_zero, List.set_cons_succ]; done) | (simp only [putAll, Act.put, List.setIfInBounds_toArray, List.set_cons_zero, List.set_cons_succ]; rfl)) (hJ1_4_5 (zw, zE, zF) _ ⟨hHeld, (by (with_reducible repeat (first | apply an1 | apply an2 | apply an3)); exact an5 zW.out (fun _ hk => ⟨hk.1.1, ⟨hk.1.2.1, ⟨hk.2, hk.1.2.2⟩⟩⟩)), (by (with_reducible repeat (first | apply aq1 | apply aq2 | apply aq3)); exact zA.out), (by (with_reducible repeat (first | apply aq1 | apply aq2 | apply aq3)); exact zD.out), (by (with_reducible repeat (first | apply aq1 | apply aq2 | apply aq3)); exact zH.out), (by (with_reducible repeat (first | apply aq1 | apply aq2 | apply aq3)); exact zJ.out), z1.out, zS.out, zN.out, zU.out, zO.out, zV.out, zZ.out, za.out, z2.out, zT.out, zP.out, zX.out, zQ.out, zY.out, (by repeat (first | (with_reducible first | exact HB.out | apply ab1 | apply ab2 | apply ab3 | refine ab4 ?_ zL.out | refine ab4 ?_ zM.out | refine ab4 ?_ zT.out | refine ab4 ?_ zS.out) | exact HB.out))⟩)
          ·skip
           rintro ⟨zw, zE⟩ xB ⟨hS_, h0_, h1_, h2_, h3_, h4_, h5_, h6_, h7_, h8_, h9_, h10_⟩
           have zf : Aside0 (Kd.N k29 29 xB w.heap.size (fun k_ => k_ ≠ zB ∧ k_ ≠ zC ∧ k_ ≠ zE) zw zb) := ⟨h0_⟩
           have zg : Aside0 (xB.heap[zB]? = some (.cells #[.int .i64 a0_0, .int .i64 a0_1, .slice A0_2 l0_2.length c0_2] 24 (0, 0))) := ⟨h1_⟩
           have zh : Aside0 (xB.heap[zC]? = some (.cells #[.int .i64 a1_0, .int .i64 a1_1, .slice A1_2 l1_2.length c1_2] 24 (0, 0))) := ⟨h2_⟩
           have zj : Aside0 (xB.heap[zE]? = some (.cells #[.int .i64 0, .int .i64 0, .slice none 0 0] 29 (0, 0))) := ⟨h3_⟩
           have zk : Aside0 (w.heap.size ≤ zE) := ⟨h4_⟩
           have zn : Aside0 (w.heap.size ≤ zE) := ⟨h5_⟩
           have zp : Aside0 (zB ≠ zE) := ⟨h6_⟩
           have zq : Aside0 (zE ≠ zB) := ⟨h7_⟩
           have zr : Aside0 (zC ≠ zE) := ⟨h8_⟩
           have z4 : Aside0 (zE ≠ zC) := ⟨h9_⟩
           have zs : Aside0 (Below w.heap.size w xB) := ⟨h10_⟩
           clear zA
           clear zD
           clear HB
           clear h0_ h1_ h2_ h3_ h4_ h5_ h6_ h7_ h8_ h9_ h10_
           have zW := zf
           have zA := zg
           have zD := zh
           have zH := zj
           have z1 := zk
           have zS := zn
           have zN := zp
           have zU := zq
           have zO := zr
           have zV := z4
           have HB := zs
           clear zf zg zh zj zk zn zp zq zr z4 zs
           have hHeld : xB.cell? ⟨zB, 0, none⟩ = some (.int .i64 a0_0) ∧ xB.cell? ⟨zB, 1, none⟩ = some (.int .i64 a0_1) ∧ xB.cell? ⟨zB, 2, none⟩ = some (.slice A0_2 l0_2.length c0_2) ∧ xB.cell? ⟨zC, 0, none⟩ = some (.int .i64 a1_0) ∧ xB.cell? ⟨zC, 1, none⟩ = some (.int .i64 a1_1) ∧ xB.cell? ⟨zC, 2, none⟩ = some (.slice A1_2 l1_2.length c1_2) := hS_
           refine norm_ (a' := ?_) ?_ ?_
           rotate_left
           ·simp only [putAll, Act.put, List.setIfInBounds_toArray, List.set_cons_zero, List.set_cons_succ]
            rfl
           refine two_ (i := 3) (j := 5) (Ni := some 26) (Nj := some 8) #[true, true, true, true, true, false, false, false] #[true, true, true, false, true, true, false, false] rfl rfl rfl rfl (two_of HT_.out (by kernel_rfl)) (by decide) (by decide) (fun K hK => ?_) (fun K hK => ?_)
           ·skip
            refine goes_ Tryd.func16 (by kernel_rfl) rfl #[.agg #[.int .i64 a1_0, .int .i64 a1_1, .slice A1_2 l1_2.length c1_2], .int .i64 4, .int .i64 3] (by rfl) rfl rfl (by (try simp only [List.map_toArray, List.map_cons, List.map_nil]); first | done | rfl | (simp only [List.length_drop, List.length_take]; rfl)) ?_
            with_reducible refine (thyrsuslaw1_Make.calls xe a1_0 a1_1 _ _ l1_2 4 3 zm zo zi _ ?side1 ?side2 A23.out).mono ?_
            (case side1 => repeat (first | exact (Kd.C_below xb.out HB.out) | (with_reducible refine ac2 ?_ _) | (with_reducible refine ac3 ?_ _) | (with_reducible refine ac4 ?_)))
            (case side2 => exact xc.out)
            rintro e xF ⟨xD, rfl, ho0, hb⟩
            refine ⟨_, rfl, ?_⟩
            have zf := am_ (Kd.N_elder' (by (with_reducible repeat (first | apply an1 | apply an2 | apply an3)); exact zW.out) (by first | exact Kd.N_base ho0 | exact Kd.R_base ho0) hb)
            have zg := am_ (Kd.N_lower (an5 (ok' := fun k_ => some k_ ≠ (zw : Value).ownBlock ∧ k_ ≠ zB ∧ k_ ≠ zC ∧ k_ ≠ zE) (Kd.R_N (Kd.R_bound ho0)) (fun k_ hk_ => ⟨(Kd.fresh' (Kd.N_lt (by (with_reducible repeat (first | apply an1 | apply an2 | apply an3)); exact zW.out)) k_ hk_.2.1), (af1 (g := zB) (o := .cells #[.int .i64 a0_0, .int .i64 a0_1, .slice A0_2 l0_2.length c0_2] 24 (0, 0)) (by (with_reducible repeat (first | apply aq1 | apply aq2 | apply aq3)); exact zA.out) k_ hk_.2.1), (af1 (g := zC) (o := .cells #[.int .i64 a1_0, .int .i64 a1_1, .slice A1_2 l1_2.length c1_2] 24 (0, 0)) (by (with_reducible repeat (first | apply aq1 | apply aq2 | apply aq3)); exact zD.out) k_ hk_.2.1), (af1 (g := zE) (o := .cells #[.int .i64 0, .int .i64 0, .slice none 0 0] 29 (0, 0)) (by (with_reducible repeat (first | apply aq1 | apply aq2 | apply aq3)); exact zH.out) k_ hk_.2.1)⟩)) (below_size (by repeat (first | (with_reducible first | exact HB.out | apply ab1 | apply ab2 | apply ab3 | refine ab4 ?_ zL.out | refine ab4 ?_ zM.out | refine ab4 ?_ zS.out) | exact HB.out))))
            have zh := am_ (aq4 (g := zB) (o := .cells #[.int .i64 a0_0, .int .i64 a0_1, .slice A0_2 l0_2.length c0_2] 24 (0, 0)) (by (with_reducible repeat (first | apply aq1 | apply aq2 | apply aq3)); exact zA.out) hb)
            have zj := am_ (aq4 (g := zC) (o := .cells #[.int .i64 a1_0, .int .i64 a1_1, .slice A1_2 l1_2.length c1_2] 24 (0, 0)) (by (with_reducible repeat (first | apply aq1 | apply aq2 | apply aq3)); exact zD.out) hb)
            have zk := am_ (aq4 (g := zE) (o := .cells #[.int .i64 0, .int .i64 0, .slice none 0 0] 29 (0, 0)) (by (with_reducible repeat (first | apply aq1 | apply aq2 | apply aq3)); exact zH.out) hb)
            have zn := am_ (ab5 (by repeat (first | (with_reducible first | exact HB.out | apply ab1 | apply ab2 | apply ab3 | refine ab4 ?_ zL.out | refine ab4 ?_ zM.out | refine ab4 ?_ zS.out) | exact HB.out)) hb)
            clear zW
            clear zA
            clear zD
            clear zH
            clear HB
            have zW := zf
            have zu := zg
            have zA := zh
            have zD := zj
            have zH := zk
            have HB := zn
            clear zf zg zh zj zk zn
            (try clear hb)
            (try clear hb2)
            (try clear hk)
            (try clear hi)
            (try clear ho0)
            refine hK.out _ _ ⟨(aq7 zA.out 0).trans rfl, (aq7 zA.out 1).trans rfl, (aq7 zA.out 2).trans rfl, (aq7 zD.out 0).trans rfl, (aq7 zD.out 1).trans rfl, (aq7 zD.out 2).trans rfl⟩ (fun hHeld => ?_)
            clear hK K
            refine norm_ (a' := ?_) ?_ ?_
            rotate_left
            ·show Act.put _ (some 26) _ = _
             simp only [Act.put, List.setIfInBounds_toArray, List.set_cons_zero, List.set_cons_succ, i64_w, i32_w, u8_w, u32_w]
             rfl
            exact norm_ (by first | (simp only [putAll, Act.put, List.setIfInBounds_toArray, List.set_cons_zero, List.set_cons_succ]; done) | (simp only [putAll, Act.put, List.setIfInBounds_toArray, List.set_cons_zero, List.set_cons_succ]; rfl)) (hJ1_3_4 (zw, xD, zE) _ ⟨hHeld, (by (with_reducible repeat (first | apply an1 | apply an2 | apply an3)); exact an5 zW.out (fun _ hk => ⟨hk.2, ⟨hk.1.1, ⟨hk.1.2.1, hk.1.2.2⟩⟩⟩)), (by (with_reducible repeat (first | apply an1 | apply an2 | apply an3)); exact zu.out), (by (with_reducible repeat (first | apply aq1 | apply aq2 | apply aq3)); exact zA.out), (by (with_reducible repeat (first | apply aq1 | apply aq2 | apply aq3)); exact zD.out), (by (with_reducible repeat (first | apply aq1 | apply aq2 | apply aq3)); exact zH.out), z1.out, zS.out, zN.out, zU.out, zO.out, zV.out, (by repeat (first | (with_reducible first | exact HB.out | apply ab1 | apply ab2 | apply ab3 | refine ab4 ?_ zL.out | refine ab4 ?_ zM.out | refine ab4 ?_ zS.out) | exact HB.out))⟩)
           ·skip
            refine box_step ?hg (N := 8) ?hd (cs := #[.int .i64 0, .int .i64 0, .slice none 0 0]) (t := 29) ?hr ?_; (case hd => rfl); (case hg => rfl); (case hr => first | (go_simp; done) | (go_simp; rfl))
            intro zF hg xF hbox hb
            have zf := am_ (Kd.N_below (Kd.N_elderB (by (with_reducible repeat (first | apply an1 | apply an2 | apply an3)); exact zW.out) zF (Nat.le_of_eq hg.symm)) hb)
            have zg := am_ (aq4 (g := zB) (o := .cells #[.int .i64 a0_0, .int .i64 a0_1, .slice A0_2 l0_2.length c0_2] 24 (0, 0)) (by (with_reducible repeat (first | apply aq1 | apply aq2 | apply aq3)); exact zA.out) hb)
            have zh := am_ (aq4 (g := zC) (o := .cells #[.int .i64 a1_0, .int .i64 a1_1, .slice A1_2 l1_2.length c1_2] 24 (0, 0)) (by (with_reducible repeat (first | apply aq1 | apply aq2 | apply aq3)); exact zD.out) hb)
            have zj := am_ (aq4 (g := zE) (o := .cells #[.int .i64 0, .int .i64 0, .slice none 0 0] 29 (0, 0)) (by (with_reducible repeat (first | apply aq1 | apply aq2 | apply aq3)); exact zH.out) hb)
            have zk := am_ (ab5 (by repeat (first | (with_reducible first | exact HB.out | apply ab1 | apply ab2 | apply ab3 | refine ab4 ?_ zL.out | refine ab4 ?_ zM.out | refine ab4 ?_ zS.out) | exact HB.out)) hb)
            have zn := am_ (hbox)
            have zp := am_ ((by rw [hg]; exact (below_size (by repeat (first | (with_reducible first | exact HB.out | apply ab1 | apply ab2 | apply ab3 | refine ab4 ?_ zL.out | refine ab4 ?_ zM.out | refine ab4 ?_ zS.out) | exact HB.out))) : w.heap.size ≤ zF))
            have zq := am_ ((by rw [hg]; exact (below_size (by repeat (first | (with_reducible first | exact HB.out | apply ab1 | apply ab2 | apply ab3 | refine ab4 ?_ zL.out | refine ab4 ?_ zM.out | refine ab4 ?_ zS.out) | exact HB.out))) : w.heap.size ≤ zF))
            have zr := am_ ((by rw [hg]; exact Nat.ne_of_lt (blk_lt (g := zB) (o := .cells #[.int .i64 a0_0, .int .i64 a0_1, .slice A0_2 l0_2.length c0_2] 24 (0, 0)) (by (with_reducible repeat (first | apply aq1 | apply aq2 | apply aq3)); exact zA.out)) : zB ≠ zF))
            have z4 := am_ ((by rw [hg]; exact Nat.ne_of_gt (blk_lt (g := zB) (o := .cells #[.int .i64 a0_0, .int .i64 a0_1, .slice A0_2 l0_2.length c0_2] 24 (0, 0)) (by (with_reducible repeat (first | apply aq1 | apply aq2 | apply aq3)); exact zA.out)) : zF ≠ zB))
            have zs := am_ ((by rw [hg]; exact Nat.ne_of_lt (blk_lt (g := zC) (o := .cells #[.int .i64 a1_0, .int .i64 a1_1, .slice A1_2 l1_2.length c1_2] 24 (0, 0)) (by (with_reducible repeat (first | apply aq1 | apply aq2 | apply aq3)); exact zD.out)) : zC ≠ zF))
            have zy := am_ ((by rw [hg]; exact Nat.ne_of_gt (blk_lt (g := zC) (o := .cells #[.int .i64 a1_0, .int .i64 a1_1, .slice A1_2 l1_2.length c1_2] 24 (0, 0)) (by (with_reducible repeat (first | apply aq1 | apply aq2 | apply aq3)); exact zD.out)) : zF ≠ zC))
            have z7 := am_ ((by rw [hg]; exact Nat.ne_of_lt (blk_lt (g := zE) (o := .cells #[.int .i64 0, .int .i64 0, .slice none 0 0] 29 (0, 0)) (by (with_reducible repeat (first | apply aq1 | apply aq2 | apply aq3)); exact zH.out)) : zE ≠ zF))
            have xE := am_ ((by rw [hg]; exact Nat.ne_of_gt (blk_lt (g := zE) (o := .cells #[.int .i64 0, .int .i64 0, .slice none 0 0] 29 (0, 0)) (by (with_reducible repeat (first | apply aq1 | apply aq2 | apply aq3)); exact zH.out)) : zF ≠ zE))
            clear zW
            clear zA
            clear zD
            clear zH
            clear HB
            have zW := zf
            have zA := zg
            have zD := zh
            have zH := zj
            have HB := zk
            have zJ := zn
            have z2 := zp
            have zT := zq
            have zP := zr
            have zX := z4
            have zQ := zs
            have zY := zy
            have za := z7
            have zZ := xE
            clear zf zg zh zj zk zn zp zq zr z4 zs zy z7 xE
            clear hb hbox hg
            refine hK.out _ _ ⟨(aq7 zA.out 0).trans rfl, (aq7 zA.out 1).trans rfl, (aq7 zA.out 2).trans rfl, (aq7 zD.out 0).trans rfl, (aq7 zD.out 1).trans rfl, (aq7 zD.out 2).trans rfl⟩ (fun hHeld => ?_)
            clear hK K
            refine norm_ (a' := ?_) ?_ ?_
            rotate_left
            ·show Act.put _ (some 8) _ = _
             simp only [Act.put, List.setIfInBounds_toArray, List.set_cons_zero, List.set_cons_succ, i64_w, i32_w, u8_w, u32_w]
             rfl
            exact norm_ (by first | (simp only [putAll, Act.put, List.setIfInBounds_toArray, List.set_cons_zero, List.set_cons_succ]; done) | (simp only [putAll, Act.put, List.setIfInBounds_toArray, List.set_cons_zero, List.set_cons_succ]; rfl)) (hJ1_4_5 (zw, zE, zF) _ ⟨hHeld, (by (with_reducible repeat (first | apply an1 | apply an2 | apply an3)); exact an5 zW.out (fun _ hk => ⟨hk.1.1, ⟨hk.1.2.1, ⟨hk.1.2.2, hk.2⟩⟩⟩)), (by (with_reducible repeat (first | apply aq1 | apply aq2 | apply aq3)); exact zA.out), (by (with_reducible repeat (first | apply aq1 | apply aq2 | apply aq3)); exact zD.out), (by (with_reducible repeat (first | apply aq1 | apply aq2 | apply aq3)); exact zH.out), (by (with_reducible repeat (first | apply aq1 | apply aq2 | apply aq3)); exact zJ.out), z1.out, zS.out, zN.out, zU.out, zO.out, zV.out, zZ.out, za.out, z2.out, zT.out, zP.out, zX.out, zQ.out, zY.out, (by repeat (first | (with_reducible first | exact HB.out | apply ab1 | apply ab2 | apply ab3 | refine ab4 ?_ zL.out | refine ab4 ?_ zM.out | refine ab4 ?_ zS.out | refine ab4 ?_ zT.out) | exact HB.out))⟩)
         ·skip
          rintro ⟨zw, xD⟩ xB ⟨hS_, h0_, h1_, h2_, h3_, h4_⟩
          have zf : Aside0 (Kd.N k29 29 xB w.heap.size (fun k_ => some k_ ≠ (xD : Value).ownBlock ∧ k_ ≠ zB ∧ k_ ≠ zC) zw zb) := ⟨h0_⟩
          have zg : Aside0 (Kd.N k29 29 xB w.heap.size (fun k_ => some k_ ≠ (zw : Value).ownBlock ∧ k_ ≠ zB ∧ k_ ≠ zC) xD zi) := ⟨h1_⟩
          have zh : Aside0 (xB.heap[zB]? = some (.cells #[.int .i64 a0_0, .int .i64 a0_1, .slice A0_2 l0_2.length c0_2] 24 (0, 0))) := ⟨h2_⟩
          have zj : Aside0 (xB.heap[zC]? = some (.cells #[.int .i64 a1_0, .int .i64 a1_1, .slice A1_2 l1_2.length c1_2] 24 (0, 0))) := ⟨h3_⟩
          have zk : Aside0 (Below w.heap.size w xB) := ⟨h4_⟩
          clear zA
          clear zD
          clear HB
          clear h0_ h1_ h2_ h3_ h4_
          have zW := zf
          have zu := zg
          have zA := zh
          have zD := zj
          have HB := zk
          clear zf zg zh zj zk
          have hHeld : xB.cell? ⟨zB, 0, none⟩ = some (.int .i64 a0_0) ∧ xB.cell? ⟨zB, 1, none⟩ = some (.int .i64 a0_1) ∧ xB.cell? ⟨zB, 2, none⟩ = some (.slice A0_2 l0_2.length c0_2) ∧ xB.cell? ⟨zC, 0, none⟩ = some (.int .i64 a1_0) ∧ xB.cell? ⟨zC, 1, none⟩ = some (.int .i64 a1_1) ∧ xB.cell? ⟨zC, 2, none⟩ = some (.slice A1_2 l1_2.length c1_2) := hS_
          refine norm_ (a' := ?_) ?_ ?_
          rotate_left
          ·simp only [putAll, Act.put, List.setIfInBounds_toArray, List.set_cons_zero, List.set_cons_succ]
           rfl
          refine two_ (i := 4) (j := 5) (Ni := some 7) (Nj := some 8) #[true, true, true, true, true, false, false, false] #[true, true, true, true, false, true, false, false] rfl rfl rfl rfl (two_of HT_.out (by kernel_rfl)) (by decide) (by decide) (fun K hK => ?_) (fun K hK => ?_)
          ·skip
           refine box_step ?hg (N := 7) ?hd (cs := #[.int .i64 0, .int .i64 0, .slice none 0 0]) (t := 29) ?hr ?_; (case hd => rfl); (case hg => rfl); (case hr => first | (go_simp; done) | (go_simp; rfl))
           intro zE hg xF hbox hb
           have zf := am_ (Kd.N_below (Kd.N_elderB (by (with_reducible repeat (first | apply an1 | apply an2 | apply an3)); exact zW.out) zE (Nat.le_of_eq hg.symm)) hb)
           have zg := am_ (Kd.N_below (Kd.N_elderB (by (with_reducible repeat (first | apply an1 | apply an2 | apply an3)); exact zu.out) zE (Nat.le_of_eq hg.symm)) hb)
           have zh := am_ (aq4 (g := zB) (o := .cells #[.int .i64 a0_0, .int .i64 a0_1, .slice A0_2 l0_2.length c0_2] 24 (0, 0)) (by (with_reducible repeat (first | apply aq1 | apply aq2 | apply aq3)); exact zA.out) hb)
           have zj := am_ (aq4 (g := zC) (o := .cells #[.int .i64 a1_0, .int .i64 a1_1, .slice A1_2 l1_2.length c1_2] 24 (0, 0)) (by (with_reducible repeat (first | apply aq1 | apply aq2 | apply aq3)); exact zD.out) hb)
           have zk := am_ (ab5 (by repeat (first | (with_reducible first | exact HB.out | apply ab1 | apply ab2 | apply ab3 | refine ab4 ?_ zL.out | refine ab4 ?_ zM.out) | exact HB.out)) hb)
           have zn := am_ (hbox)
           have zp := am_ ((by rw [hg]; exact (below_size (by repeat (first | (with_reducible first | exact HB.out | apply ab1 | apply ab2 | apply ab3 | refine ab4 ?_ zL.out | refine ab4 ?_ zM.out) | exact HB.out))) : w.heap.size ≤ zE))
           have zq := am_ ((by rw [hg]; exact (below_size (by repeat (first | (with_reducible first | exact HB.out | apply ab1 | apply ab2 | apply ab3 | refine ab4 ?_ zL.out | refine ab4 ?_ zM.out) | exact HB.out))) : w.heap.size ≤ zE))
           have zr := am_ ((by rw [hg]; exact Nat.ne_of_lt (blk_lt (g := zB) (o := .cells #[.int .i64 a0_0, .int .i64 a0_1, .slice A0_2 l0_2.length c0_2] 24 (0, 0)) (by (with_reducible repeat (first | apply aq1 | apply aq2 | apply aq3)); exact zA.out)) : zB ≠ zE))
           have z4 := am_ ((by rw [hg]; exact Nat.ne_of_gt (blk_lt (g := zB) (o := .cells #[.int .i64 a0_0, .int .i64 a0_1, .slice A0_2 l0_2.length c0_2] 24 (0, 0)) (by (with_reducible repeat (first | apply aq1 | apply aq2 | apply aq3)); exact zA.out)) : zE ≠ zB))
           have zs := am_ ((by rw [hg]; exact Nat.ne_of_lt (blk_lt (g := zC) (o := .cells #[.int .i64 a1_0, .int .i64 a1_1, .slice A1_2 l1_2.length c1_2] 24 (0, 0)) (by (with_reducible repeat (first | apply aq1 | apply aq2 | apply aq3)); exact zD.out)) : zC ≠ zE))
           have zy := am_ ((by rw [hg]; exact Nat.ne_of_gt (blk_lt (g := zC) (o := .cells #[.int .i64 a1_0, .int .i64 a1_1, .slice A1_2 l1_2.length c1_2] 24 (0, 0)) (by (with_reducible repeat (first | apply aq1 | apply aq2 | apply aq3)); exact zD.out)) : zE ≠ zC))
           clear zW
           clear zu
           clear zA
           clear zD
           clear HB
           have zW := zf
           have zu := zg
           have zA := zh
           have zD := zj
           have HB := zk
           have zH := zn
           have z1 := zp
           have zS := zq
           have zN := zr
           have zU := z4
           have zO := zs
           have zV := zy
           clear zf zg zh zj zk zn zp zq zr z4 zs zy
           clear hb hbox hg
           refine hK.out _ _ ⟨(aq7 zA.out 0).trans rfl, (aq7 zA.out 1).trans rfl, (aq7 zA.out 2).trans rfl, (aq7 zD.out 0).trans rfl, (aq7 zD.out 1).trans rfl, (aq7 zD.out 2).trans rfl⟩ (fun hHeld => ?_)
           clear hK K
           refine norm_ (a' := ?_) ?_ ?_
           rotate_left
           ·show Act.put _ (some 7) _ = _
            simp only [Act.put, List.setIfInBounds_toArray, List.set_cons_zero, List.set_cons_succ, i64_w, i32_w, u8_w, u32_w]
            rfl
           exact norm_ (by first | (simp only [putAll, Act.put, List.setIfInBounds_toArray, List.set_cons_zero, List.set_cons_succ]; done) | (simp only [putAll, Act.put, List.setIfInBounds_toArray, List.set_cons_zero, List.set_cons_succ]; rfl)) (hJ1_3_4 (zw, xD, zE) _ ⟨hHeld, (by (with_reducible repeat (first | apply an1 | apply an2 | apply an3)); exact an5 zW.out (fun _ hk => ⟨hk.1.1, ⟨hk.1.2.1, ⟨hk.1.2.2, hk.2⟩⟩⟩)), (by (with_reducible repeat (first | apply an1 | apply an2 | apply an3)); exact an5 zu.out (fun _ hk => ⟨hk.1.1, ⟨hk.1.2.1, ⟨hk.1.2.2, hk.2⟩⟩⟩)), (by (with_reducible repeat (first | apply aq1 | apply aq2 | apply aq3)); exact zA.out), (by (with_reducible repeat (first | apply aq1 | apply aq2 | apply aq3)); exact zD.out), (by (with_reducible repeat (first | apply aq1 | apply aq2 | apply aq3)); exact zH.out), z1.out, zS.out, zN.out, zU.out, zO.out, zV.out, (by repeat (first | (with_reducible first | exact HB.out | apply ab1 | apply ab2 | apply ab3 | refine ab4 ?_ zL.out | refine ab4 ?_ zM.out | refine ab4 ?_ zS.out) | exact HB.out))⟩)
          ·skip
           refine box_step ?hg (N := 8) ?hd (cs := #[.int .i64 0, .int .i64 0, .slice none 0 0]) (t := 29) ?hr ?_; (case hd => rfl); (case hg => rfl); (case hr => first | (go_simp; done) | (go_simp; rfl))
           intro zF hg xF hbox hb
           have zf := am_ (Kd.N_below (Kd.N_elderB (by (with_reducible repeat (first | apply an1 | apply an2 | apply an3)); exact zW.out) zF (Nat.le_of_eq hg.symm)) hb)
           have zg := am_ (Kd.N_below (Kd.N_elderB (by (with_reducible repeat (first | apply an1 | apply an2 | apply an3)); exact zu.out) zF (Nat.le_of_eq hg.symm)) hb)
           have zh := am_ (aq4 (g := zB) (o := .cells #[.int .i64 a0_0, .int .i64 a0_1, .slice A0_2 l0_2.length c0_2] 24 (0, 0)) (by (with_reducible repeat (first | apply aq1 | apply aq2 | apply aq3)); exact zA.out) hb)
           have zj := am_ (aq4 (g := zC) (o := .cells #[.int .i64 a1_0, .int .i64 a1_1, .slice A1_2 l1_2.length c1_2] 24 (0, 0)) (by (with_reducible repeat (first | apply aq1 | apply aq2 | apply aq3)); exact zD.out) hb)
           have zk := am_ (ab5 (by repeat (first | (with_reducible first | exact HB.out | apply ab1 | apply ab2 | apply ab3 | refine ab4 ?_ zL.out | refine ab4 ?_ zM.out) | exact HB.out)) hb)
           have zn := am_ (hbox)
           have zp := am_ ((by rw [hg]; exact (below_size (by repeat (first | (with_reducible first | exact HB.out | apply ab1 | apply ab2 | apply ab3 | refine ab4 ?_ zL.out | refine ab4 ?_ zM.out) | exact HB.out))) : w.heap.size ≤ zF))
           have zq := am_ ((by rw [hg]; exact (below_size (by repeat (first | (with_reducible first | exact HB.out | apply ab1 | apply ab2 | apply ab3 | refine ab4 ?_ zL.out | refine ab4 ?_ zM.out) | exact HB.out))) : w.heap.size ≤ zF))
           have zr := am_ ((by rw [hg]; exact Nat.ne_of_lt (blk_lt (g := zB) (o := .cells #[.int .i64 a0_0, .int .i64 a0_1, .slice A0_2 l0_2.length c0_2] 24 (0, 0)) (by (with_reducible repeat (first | apply aq1 | apply aq2 | apply aq3)); exact zA.out)) : zB ≠ zF))
           have z4 := am_ ((by rw [hg]; exact Nat.ne_of_gt (blk_lt (g := zB) (o := .cells #[.int .i64 a0_0, .int .i64 a0_1, .slice A0_2 l0_2.length c0_2] 24 (0, 0)) (by (with_reducible repeat (first | apply aq1 | apply aq2 | apply aq3)); exact zA.out)) : zF ≠ zB))
           have zs := am_ ((by rw [hg]; exact Nat.ne_of_lt (blk_lt (g := zC) (o := .cells #[.int .i64 a1_0, .int .i64 a1_1, .slice A1_2 l1_2.length c1_2] 24 (0, 0)) (by (with_reducible repeat (first | apply aq1 | apply aq2 | apply aq3)); exact zD.out)) : zC ≠ zF))
           have zy := am_ ((by rw [hg]; exact Nat.ne_of_gt (blk_lt (g := zC) (o := .cells #[.int .i64 a1_0, .int .i64 a1_1, .slice A1_2 l1_2.length c1_2] 24 (0, 0)) (by (with_reducible repeat (first | apply aq1 | apply aq2 | apply aq3)); exact zD.out)) : zF ≠ zC))
           clear zW
           clear zu
           clear zA
           clear zD
           clear HB
           have zW := zf
           have zu := zg
           have zA := zh
           have zD := zj
           have HB := zk
           have zJ := zn
           have z2 := zp
           have zT := zq
           have zP := zr
           have zX := z4
           have zQ := zs
           have zY := zy
           clear zf zg zh zj zk zn zp zq zr z4 zs zy
           clear hb hbox hg
           refine hK.out _ _ ⟨(aq7 zA.out 0).trans rfl, (aq7 zA.out 1).trans rfl, (aq7 zA.out 2).trans rfl, (aq7 zD.out 0).trans rfl, (aq7 zD.out 1).trans rfl, (aq7 zD.out 2).trans rfl⟩ (fun hHeld => ?_)
           clear hK K
           refine norm_ (a' := ?_) ?_ ?_
           rotate_left
           ·show Act.put _ (some 8) _ = _
            simp only [Act.put, List.setIfInBounds_toArray, List.set_cons_zero, List.set_cons_succ, i64_w, i32_w, u8_w, u32_w]
            rfl
           exact norm_ (by first | (simp only [putAll, Act.put, List.setIfInBounds_toArray, List.set_cons_zero, List.set_cons_succ]; done) | (simp only [putAll, Act.put, List.setIfInBounds_toArray, List.set_cons_zero, List.set_cons_succ]; rfl)) (hJ1_3_5 (zw, xD, zF) _ ⟨hHeld, (by (with_reducible repeat (first | apply an1 | apply an2 | apply an3)); exact an5 zW.out (fun _ hk => ⟨hk.1.1, ⟨hk.1.2.1, ⟨hk.1.2.2, hk.2⟩⟩⟩)), (by (with_reducible repeat (first | apply an1 | apply an2 | apply an3)); exact an5 zu.out (fun _ hk => ⟨hk.1.1, ⟨hk.1.2.1, ⟨hk.1.2.2, hk.2⟩⟩⟩)), (by (with_reducible repeat (first | apply aq1 | apply aq2 | apply aq3)); exact zA.out), (by (with_reducible repeat (first | apply aq1 | apply aq2 | apply aq3)); exact zD.out), (by (with_reducible repeat (first | apply aq1 | apply aq2 | apply aq3)); exact zJ.out), z2.out, zT.out, zP.out, zX.out, zQ.out, zY.out, (by repeat (first | (with_reducible first | exact HB.out | apply ab1 | apply ab2 | apply ab3 | refine ab4 ?_ zL.out | refine ab4 ?_ zM.out | refine ab4 ?_ zT.out) | exact HB.out))⟩)
        ·skip
         rintro ⟨zw, zE, zF⟩ xF ⟨hS_, h0_, h1_, h2_, h3_, h4_, h5_, h6_, h7_, h8_, h9_, h10_, h11_, h12_, h13_, h14_, h15_, h16_, h17_, h18_, h19_⟩
         have zf : Aside0 (Kd.N k29 29 xF w.heap.size (fun k_ => k_ ≠ zB ∧ k_ ≠ zC ∧ k_ ≠ zE ∧ k_ ≠ zF) zw zb) := ⟨h0_⟩
         have zg : Aside0 (xF.heap[zB]? = some (.cells #[.int .i64 a0_0, .int .i64 a0_1, .slice A0_2 l0_2.length c0_2] 24 (0, 0))) := ⟨h1_⟩
         have zh : Aside0 (xF.heap[zC]? = some (.cells #[.int .i64 a1_0, .int .i64 a1_1, .slice A1_2 l1_2.length c1_2] 24 (0, 0))) := ⟨h2_⟩
         have zj : Aside0 (xF.heap[zE]? = some (.cells #[.int .i64 0, .int .i64 0, .slice none 0 0] 29 (0, 0))) := ⟨h3_⟩
         have zk : Aside0 (xF.heap[zF]? = some (.cells #[.int .i64 0, .int .i64 0, .slice none 0 0] 29 (0, 0))) := ⟨h4_⟩
         have zn : Aside0 (w.heap.size ≤ zE) := ⟨h5_⟩
         have zp : Aside0 (w.heap.size ≤ zE) := ⟨h6_⟩
         have zq : Aside0 (zB ≠ zE) := ⟨h7_⟩
         have zr : Aside0 (zE ≠ zB) := ⟨h8_⟩
         have z4 : Aside0 (zC ≠ zE) := ⟨h9_⟩
         have zs : Aside0 (zE ≠ zC) := ⟨h10_⟩
         have zy : Aside0 (zF ≠ zE) := ⟨h11_⟩
         have z7 : Aside0 (zE ≠ zF) := ⟨h12_⟩
         have xE : Aside0 (w.heap.size ≤ zF) := ⟨h13_⟩
         have xJ : Aside0 (w.heap.size ≤ zF) := ⟨h14_⟩
         have xR : Aside0 (zB ≠ zF) := ⟨h15_⟩
         have xS : Aside0 (zF ≠ zB) := ⟨h16_⟩
         have xT : Aside0 (zC ≠ zF) := ⟨h17_⟩
         have xU : Aside0 (zF ≠ zC) := ⟨h18_⟩
         have xk : Aside0 (Below w.heap.size w xF) := ⟨h19_⟩
         clear zA
         clear zD
         clear HB
         clear h0_ h1_ h2_ h3_ h4_ h5_ h6_ h7_ h8_ h9_ h10_ h11_ h12_ h13_ h14_ h15_ h16_ h17_ h18_ h19_
         have zW := zf
         have zA := zg
         have zD := zh
         have zH := zj
         have zJ := zk
         have z1 := zn
         have zS := zp
         have zN := zq
         have zU := zr
         have zO := z4
         have zV := zs
         have zZ := zy
         have za := z7
         have z2 := xE
         have zT := xJ
         have zP := xR
         have zX := xS
         have zQ := xT
         have zY := xU
         have HB := xk
         clear zf zg zh zj zk zn zp zq zr z4 zs zy z7 xE xJ xR xS xT xU xk
         have hHeld : xF.cell? ⟨zB, 0, none⟩ = some (.int .i64 a0_0) ∧ xF.cell? ⟨zB, 1, none⟩ = some (.int .i64 a0_1) ∧ xF.cell? ⟨zB, 2, none⟩ = some (.slice A0_2 l0_2.length c0_2) ∧ xF.cell? ⟨zC, 0, none⟩ = some (.int .i64 a1_0) ∧ xF.cell? ⟨zC, 1, none⟩ = some (.int .i64 a1_1) ∧ xF.cell? ⟨zC, 2, none⟩ = some (.slice A1_2 l1_2.length c1_2) := hS_
         refine norm_ (a' := ?_) ?_ ?_
         rotate_left
         ·simp only [putAll, Act.put, List.setIfInBounds_toArray, List.set_cons_zero, List.set_cons_succ]
          rfl
         refine one_ (i := 3) (N := some 26) #[true, true, true, true, true, true, false, false] rfl rfl (one_of HT_.out (by kernel_rfl)) (by decide) (fun K hK => ?_)
         refine goes_ Tryd.func16 (by kernel_rfl) rfl #[.agg #[.int .i64 a1_0, .int .i64 a1_1, .slice A1_2 l1_2.length c1_2], .int .i64 4, .int .i64 3] (by rfl) rfl rfl (by (try simp only [List.map_toArray, List.map_cons, List.map_nil]); first | done | rfl | (simp only [List.length_drop, List.length_take]; rfl)) ?_
         with_reducible refine (thyrsuslaw1_Make.calls xe a1_0 a1_1 _ _ l1_2 4 3 zm zo zi _ ?side1 ?side2 A23.out).mono ?_
         (case side1 => repeat (first | exact (Kd.C_below xb.out HB.out) | (with_reducible refine ac2 ?_ _) | (with_reducible refine ac3 ?_ _) | (with_reducible refine ac4 ?_)))
         (case side2 => exact xc.out)
         rintro e xV ⟨xD, rfl, ho0, hb⟩
         refine ⟨_, rfl, ?_⟩
         have zf := am_ (Kd.N_elder' (by (with_reducible repeat (first | apply an1 | apply an2 | apply an3)); exact zW.out) (by first | exact Kd.N_base ho0 | exact Kd.R_base ho0) hb)
         have zg := am_ (Kd.N_lower (an5 (ok' := fun k_ => some k_ ≠ (zw : Value).ownBlock ∧ k_ ≠ zB ∧ k_ ≠ zC ∧ k_ ≠ zE ∧ k_ ≠ zF) (Kd.R_N (Kd.R_bound ho0)) (fun k_ hk_ => ⟨(Kd.fresh' (Kd.N_lt (by (with_reducible repeat (first | apply an1 | apply an2 | apply an3)); exact zW.out)) k_ hk_.2.1), (af1 (g := zB) (o := .cells #[.int .i64 a0_0, .int .i64 a0_1, .slice A0_2 l0_2.length c0_2] 24 (0, 0)) (by (with_reducible repeat (first | apply aq1 | apply aq2 | apply aq3)); exact zA.out) k_ hk_.2.1), (af1 (g := zC) (o := .cells #[.int .i64 a1_0, .int .i64 a1_1, .slice A1_2 l1_2.length c1_2] 24 (0, 0)) (by (with_reducible repeat (first | apply aq1 | apply aq2 | apply aq3)); exact zD.out) k_ hk_.2.1), (af1 (g := zE) (o := .cells #[.int .i64 0, .int .i64 0, .slice none 0 0] 29 (0, 0)) (by (with_reducible repeat (first | apply aq1 | apply aq2 | apply aq3)); exact zH.out) k_ hk_.2.1), (af1 (g := zF) (o := .cells #[.int .i64 0, .int .i64 0, .slice none 0 0] 29 (0, 0)) (by (with_reducible repeat (first | apply aq1 | apply aq2 | apply aq3)); exact zJ.out) k_ hk_.2.1)⟩)) (below_size (by repeat (first | (with_reducible first | exact HB.out | apply ab1 | apply ab2 | apply ab3 | refine ab4 ?_ zL.out | refine ab4 ?_ zM.out | refine ab4 ?_ zS.out | refine ab4 ?_ zT.out) | exact HB.out))))
         have zh := am_ (aq4 (g := zB) (o := .cells #[.int .i64 a0_0, .int .i64 a0_1, .slice A0_2 l0_2.length c0_2] 24 (0, 0)) (by (with_reducible repeat (first | apply aq1 | apply aq2 | apply aq3)); exact zA.out) hb)
         have zj := am_ (aq4 (g := zC) (o := .cells #[.int .i64 a1_0, .int .i64 a1_1, .slice A1_2 l1_2.length c1_2] 24 (0, 0)) (by (with_reducible repeat (first | apply aq1 | apply aq2 | apply aq3)); exact zD.out) hb)
         have zk := am_ (aq4 (g := zE) (o := .cells #[.int .i64 0, .int .i64 0, .slice none 0 0] 29 (0, 0)) (by (with_reducible repeat (first | apply aq1 | apply aq2 | apply aq3)); exact zH.out) hb)
         have zn := am_ (aq4 (g := zF) (o := .cells #[.int .i64 0, .int .i64 0, .slice none 0 0] 29 (0, 0)) (by (with_reducible repeat (first | apply aq1 | apply aq2 | apply aq3)); exact zJ.out) hb)
         have zp := am_ (ab5 (by repeat (first | (with_reducible first | exact HB.out | apply ab1 | apply ab2 | apply ab3 | refine ab4 ?_ zL.out | refine ab4 ?_ zM.out | refine ab4 ?_ zS.out | refine ab4 ?_ zT.out) | exact HB.out)) hb)
         clear zW
         clear zA
         clear zD
         clear zH
         clear zJ
         clear HB
         have zW := zf
         have zu := zg
         have zA := zh
         have zD := zj
         have zH := zk
         have zJ := zn
         have HB := zp
         clear zf zg zh zj zk zn zp
         (try clear hb)
         (try clear hb2)
         (try clear hk)
         (try clear hi)
         (try clear ho0)
         refine hK.out _ _ ⟨(aq7 zA.out 0).trans rfl, (aq7 zA.out 1).trans rfl, (aq7 zA.out 2).trans rfl, (aq7 zD.out 0).trans rfl, (aq7 zD.out 1).trans rfl, (aq7 zD.out 2).trans rfl⟩ (fun hHeld => ?_)
         clear hK K
         refine norm_ (a' := ?_) ?_ ?_
         rotate_left
         ·show Act.put _ (some 26) _ = _
          simp only [Act.put, List.setIfInBounds_toArray, List.set_cons_zero, List.set_cons_succ, i64_w, i32_w, u8_w, u32_w]
          rfl
         exact norm_ (by first | (simp only [putAll, Act.put, List.setIfInBounds_toArray, List.set_cons_zero, List.set_cons_succ]; done) | (simp only [putAll, Act.put, List.setIfInBounds_toArray, List.set_cons_zero, List.set_cons_succ]; rfl)) (hJ1_3_4_5 (zw, xD, zE, zF) _ ⟨hHeld, (by (with_reducible repeat (first | apply an1 | apply an2 | apply an3)); exact an5 zW.out (fun _ hk => ⟨hk.2, ⟨hk.1.1, ⟨hk.1.2.1, ⟨hk.1.2.2.1, hk.1.2.2.2⟩⟩⟩⟩)), (by (with_reducible repeat (first | apply an1 | apply an2 | apply an3)); exact zu.out), (by (with_reducible repeat (first | apply aq1 | apply aq2 | apply aq3)); exact zA.out), (by (with_reducible repeat (first | apply aq1 | apply aq2 | apply aq3)); exact zD.out), (by (with_reducible repeat (first | apply aq1 | apply aq2 | apply aq3)); exact zH.out), (by (with_reducible repeat (first | apply aq1 | apply aq2 | apply aq3)); exact zJ.out), z1.out, zS.out, zN.out, zU.out, zO.out, zV.out, zZ.out, za.out, z2.out, zT.out, zP.out, zX.out, zQ.out, zY.out, (by repeat (first | (with_reducible first | exact HB.out | apply ab1 | apply ab2 | apply ab3 | refine ab4 ?_ zL.out | refine ab4 ?_ zM.out | refine ab4 ?_ zS.out | refine ab4 ?_ zT.out) | exact HB.out))⟩)
       ·skip
        rintro ⟨zw, xD, zF⟩ xF ⟨hS_, h0_, h1_, h2_, h3_, h4_, h5_, h6_, h7_, h8_, h9_, h10_, h11_⟩
        have zf : Aside0 (Kd.N k29 29 xF w.heap.size (fun k_ => some k_ ≠ (xD : Value).ownBlock ∧ k_ ≠ zB ∧ k_ ≠ zC ∧ k_ ≠ zF) zw zb) := ⟨h0_⟩
        have zg : Aside0 (Kd.N k29 29 xF w.heap.size (fun k_ => some k_ ≠ (zw : Value).ownBlock ∧ k_ ≠ zB ∧ k_ ≠ zC ∧ k_ ≠ zF) xD zi) := ⟨h1_⟩
        have zh : Aside0 (xF.heap[zB]? = some (.cells #[.int .i64 a0_0, .int .i64 a0_1, .slice A0_2 l0_2.length c0_2] 24 (0, 0))) := ⟨h2_⟩
        have zj : Aside0 (xF.heap[zC]? = some (.cells #[.int .i64 a1_0, .int .i64 a1_1, .slice A1_2 l1_2.length c1_2] 24 (0, 0))) := ⟨h3_⟩
        have zk : Aside0 (xF.heap[zF]? = some (.cells #[.int .i64 0, .int .i64 0, .slice none 0 0] 29 (0, 0))) := ⟨h4_⟩
        have zn : Aside0 (w.heap.size ≤ zF) := ⟨h5_⟩
        have zp : Aside0 (w.heap.size ≤ zF) := ⟨h6_⟩
        have zq : Aside0 (zB ≠ zF) := ⟨h7_⟩
        have zr : Aside0 (zF ≠ zB) := ⟨h8_⟩
        have z4 : Aside0 (zC ≠ zF) := ⟨h9_⟩
        have zs : Aside0 (zF ≠ zC) := ⟨h10_⟩
        have zy : Aside0 (Below w.heap.size w xF) := ⟨h11_⟩
        clear zA
        clear zD
        clear HB
        clear h0_ h1_ h2_ h3_ h4_ h5_ h6_ h7_ h8_ h9_ h10_ h11_
        have zW := zf
        have zu := zg
        have zA := zh
        have zD := zj
        have zJ := zk
        have z2 := zn
        have zT := zp
        have zP := zq
        have zX := zr
        have zQ := z4
        have zY := zs
        have HB := zy
        clear zf zg zh zj zk zn zp zq zr z4 zs zy
        have hHeld : xF.cell? ⟨zB, 0, none⟩ = some (.int .i64 a0_0) ∧ xF.cell? ⟨zB, 1, none⟩ = some (.int .i64 a0_1) ∧ xF.cell? ⟨zB, 2, none⟩ = some (.slice A0_2 l0_2.length c0_2) ∧ xF.cell? ⟨zC, 0, none⟩ = some (.int .i64 a1_0) ∧ xF.cell? ⟨zC, 1, none⟩ = some (.int .i64 a1_1) ∧ xF.cell? ⟨zC, 2, none⟩ = some (.slice A1_2 l1_2.length c1_2) := hS_
        refine norm_ (a' := ?_) ?_ ?_
        rotate_left
        ·simp only [putAll, Act.put, List.setIfInBounds_toArray, List.set_cons_zero, List.set_cons_succ]
         rfl
        refine one_ (i := 4) (N := some 7) #[true, true, true, true, true, true, false, false] rfl rfl (one_of HT_.out (by kernel_rfl)) (by decide) (fun K hK => ?_)
        refine box_step ?hg (N := 7) ?hd (cs := #[.int .i64 0, .int .i64 0, .slice none 0 0]) (t := 29) ?hr ?_; (case hd => rfl); (case hg => rfl); (case hr => first | (go_simp; done) | (go_simp; rfl))
        intro zE hg xV hbox hb
        have zf := am_ (Kd.N_below (Kd.N_elderB (by (with_reducible repeat (first | apply an1 | apply an2 | apply an3)); exact zW.out) zE (Nat.le_of_eq hg.symm)) hb)
        have zg := am_ (Kd.N_below (Kd.N_elderB (by (with_reducible repeat (first | apply an1 | apply an2 | apply an3)); exact zu.out) zE (Nat.le_of_eq hg.symm)) hb)
        have zh := am_ (aq4 (g := zB) (o := .cells #[.int .i64 a0_0, .int .i64 a0_1, .slice A0_2 l0_2.length c0_2] 24 (0, 0)) (by (with_reducible repeat (first | apply aq1 | apply aq2 | apply aq3)); exact zA.out) hb)
        have zj := am_ (aq4 (g := zC) (o := .cells #[.int .i64 a1_0, .int .i64 a1_1, .slice A1_2 l1_2.length c1_2] 24 (0, 0)) (by (with_reducible repeat (first | apply aq1 | apply aq2 | apply aq3)); exact zD.out) hb)
        have zk := am_ (aq4 (g := zF) (o := .cells #[.int .i64 0, .int .i64 0, .slice none 0 0] 29 (0, 0)) (by (with_reducible repeat (first | apply aq1 | apply aq2 | apply aq3)); exact zJ.out) hb)
        have zn := am_ (ab5 (by repeat (first | (with_reducible first | exact HB.out | apply ab1 | apply ab2 | apply ab3 | refine ab4 ?_ zL.out | refine ab4 ?_ zM.out | refine ab4 ?_ zT.out) | exact HB.out)) hb)
        have zp := am_ (hbox)
        have zq := am_ ((by rw [hg]; exact (below_size (by repeat (first | (with_reducible first | exact HB.out | apply ab1 | apply ab2 | apply ab3 | refine ab4 ?_ zL.out | refine ab4 ?_ zM.out | refine ab4 ?_ zT.out) | exact HB.out))) : w.heap.size ≤ zE))
        have zr := am_ ((by rw [hg]; exact (below_size (by repeat (first | (with_reducible first | exact HB.out | apply ab1 | apply ab2 | apply ab3 | refine ab4 ?_ zL.out | refine ab4 ?_ zM.out | refine ab4 ?_ zT.out) | exact HB.out))) : w.heap.size ≤ zE))
        have z4 := am_ ((by rw [hg]; exact Nat.ne_of_lt (blk_lt (g := zB) (o := .cells #[.int .i64 a0_0, .int .i64 a0_1, .slice A0_2 l0_2.length c0_2] 24 (0, 0)) (by (with_reducible repeat (first | apply aq1 | apply aq2 | apply aq3)); exact zA.out)) : zB ≠ zE))
        have zs := am_ ((by rw [hg]; exact Nat.ne_of_gt (blk_lt (g := zB) (o := .cells #[.int .i64 a0_0, .int .i64 a0_1, .slice A0_2 l0_2.length c0_2] 24 (0, 0)) (by (with_reducible repeat (first | apply aq1 | apply aq2 | apply aq3)); exact zA.out)) : zE ≠ zB))
        have zy := am_ ((by rw [hg]; exact Nat.ne_of_lt (blk_lt (g := zC) (o := .cells #[.int .i64 a1_0, .int .i64 a1_1, .slice A1_2 l1_2.length c1_2] 24 (0, 0)) (by (with_reducible repeat (first | apply aq1 | apply aq2 | apply aq3)); exact zD.out)) : zC ≠ zE))
        have z7 := am_ ((by rw [hg]; exact Nat.ne_of_gt (blk_lt (g := zC) (o := .cells #[.int .i64 a1_0, .int .i64 a1_1, .slice A1_2 l1_2.length c1_2] 24 (0, 0)) (by (with_reducible repeat (first | apply aq1 | apply aq2 | apply aq3)); exact zD.out)) : zE ≠ zC))
        have xE := am_ ((by rw [hg]; exact Nat.ne_of_lt (blk_lt (g := zF) (o := .cells #[.int .i64 0, .int .i64 0, .slice none 0 0] 29 (0, 0)) (by (with_reducible repeat (first | apply aq1 | apply aq2 | apply aq3)); exact zJ.out)) : zF ≠ zE))
        have xJ := am_ ((by rw [hg]; exact Nat.ne_of_gt (blk_lt (g := zF) (o := .cells #[.int .i64 0, .int .i64 0, .slice none 0 0] 29 (0, 0)) (by (with_reducible repeat (first | apply aq1 | apply aq2 | apply aq3)); exact zJ.out)) : zE ≠ zF))
        clear zW
        clear zu
        clear zA
        clear zD
        clear zJ
        clear HB
        have zW := zf
        have zu := zg
        have zA := zh
        have zD := zj
        have zJ := zk
        have HB := zn
        have zH := zp
        have z1 := zq
        have zS := zr
        have zN := z4
        have zU := zs
        have zO := zy
        have zV := z7
        have zZ := xE
        have za := xJ
        clear zf zg zh zj zk zn zp zq zr z4 zs zy z7 xE xJ
        clear hb hbox hg
        refine hK.out _ _ ⟨(aq7 zA.out 0).trans rfl, (aq7 zA.out 1).trans rfl, (aq7 zA.out 2).trans rfl, (aq7 zD.out 0).trans rfl, (aq7 zD.out 1).trans rfl, (aq7 zD.out 2).trans rfl⟩ (fun hHeld => ?_)
        clear hK K
        refine norm_ (a' := ?_) ?_ ?_
        rotate_left
        ·show Act.put _ (some 7) _ = _
         simp only [Act.put, List.setIfInBounds_toArray, List.set_cons_zero, List.set_cons_succ, i64_w, i32_w, u8_w, u32_w]
         rfl
        exact norm_ (by first | (simp only [putAll, Act.put, List.setIfInBounds_toArray, List.set_cons_zero, List.set_cons_succ]; done) | (simp only [putAll, Act.put, List.setIfInBounds_toArray, List.set_cons_zero, List.set_cons_succ]; rfl)) (hJ1_3_4_5 (zw, xD, zE, zF) _ ⟨hHeld, (by (with_reducible repeat (first | apply an1 | apply an2 | apply an3)); exact an5 zW.out (fun _ hk => ⟨hk.1.1, ⟨hk.1.2.1, ⟨hk.1.2.2.1, ⟨hk.2, hk.1.2.2.2⟩⟩⟩⟩)), (by (with_reducible repeat (first | apply an1 | apply an2 | apply an3)); exact an5 zu.out (fun _ hk => ⟨hk.1.1, ⟨hk.1.2.1, ⟨hk.1.2.2.1, ⟨hk.2, hk.1.2.2.2⟩⟩⟩⟩)), (by (with_reducible repeat (first | apply aq1 | apply aq2 | apply aq3)); exact zA.out), (by (with_reducible repeat (first | apply aq1 | apply aq2 | apply aq3)); exact zD.out), (by (with_reducible repeat (first | apply aq1 | apply aq2 | apply aq3)); exact zH.out), (by (with_reducible repeat (first | apply aq1 | apply aq2 | apply aq3)); exact zJ.out), z1.out, zS.out, zN.out, zU.out, zO.out, zV.out, zZ.out, za.out, z2.out, zT.out, zP.out, zX.out, zQ.out, zY.out, (by repeat (first | (with_reducible first | exact HB.out | apply ab1 | apply ab2 | apply ab3 | refine ab4 ?_ zL.out | refine ab4 ?_ zM.out | refine ab4 ?_ zT.out | refine ab4 ?_ zS.out) | exact HB.out))⟩)
      ·skip
       rintro ⟨zw, xD, zE⟩ xF ⟨hS_, h0_, h1_, h2_, h3_, h4_, h5_, h6_, h7_, h8_, h9_, h10_, h11_⟩
       have zf : Aside0 (Kd.N k29 29 xF w.heap.size (fun k_ => some k_ ≠ (xD : Value).ownBlock ∧ k_ ≠ zB ∧ k_ ≠ zC ∧ k_ ≠ zE) zw zb) := ⟨h0_⟩
       have zg : Aside0 (Kd.N k29 29 xF w.heap.size (fun k_ => some k_ ≠ (zw : Value).ownBlock ∧ k_ ≠ zB ∧ k_ ≠ zC ∧ k_ ≠ zE) xD zi) := ⟨h1_⟩
       have zh : Aside0 (xF.heap[zB]? = some (.cells #[.int .i64 a0_0, .int .i64 a0_1, .slice A0_2 l0_2.length c0_2] 24 (0, 0))) := ⟨h2_⟩
       have zj : Aside0 (xF.heap[zC]? = some (.cells #[.int .i64 a1_0, .int .i64 a1_1, .slice A1_2 l1_2.length c1_2] 24 (0, 0))) := ⟨h3_⟩
       have zk : Aside0 (xF.heap[zE]? = some (.cells #[.int .i64 0, .int .i64 0, .slice none 0 0] 29 (0, 0))) := ⟨h4_⟩
       have zn : Aside0 (w.heap.size ≤ zE) := ⟨h5_⟩
       have zp : Aside0 (w.heap.size ≤ zE) := ⟨h6_⟩
       have zq : Aside0 (zB ≠ zE) := ⟨h7_⟩
       have zr : Aside0 (zE ≠ zB) := ⟨h8_⟩
       have z4 : Aside0 (zC ≠ zE) := ⟨h9_⟩
       have zs : Aside0 (zE ≠ zC) := ⟨h10_⟩
       have zy : Aside0 (Below w.heap.size w xF) := ⟨h11_⟩
       clear zA
       clear zD
       clear HB
       clear h0_ h1_ h2_ h3_ h4_ h5_ h6_ h7_ h8_ h9_ h10_ h11_
       have zW := zf
       have zu := zg
       have zA := zh
       have zD := zj
       have zH := zk
       have z1 := zn
       have zS := zp
       have zN := zq
       have zU := zr
       have zO := z4
       have zV := zs
       have HB := zy
       clear zf zg zh zj zk zn zp zq zr z4 zs zy
       have hHeld : xF.cell? ⟨zB, 0, none⟩ = some (.int .i64 a0_0) ∧ xF.cell? ⟨zB, 1, none⟩ = some (.int .i64 a0_1) ∧ xF.cell? ⟨zB, 2, none⟩ = some (.slice A0_2 l0_2.length c0_2) ∧ xF.cell? ⟨zC, 0, none⟩ = some (.int .i64 a1_0) ∧ xF.cell? ⟨zC, 1, none⟩ = some (.int .i64 a1_1) ∧ xF.cell? ⟨zC, 2, none⟩ = some (.slice A1_2 l1_2.length c1_2) := hS_
       refine norm_ (a' := ?_) ?_ ?_
       rotate_left
       ·simp only [putAll, Act.put, List.setIfInBounds_toArray, List.set_cons_zero, List.set_cons_succ]
        rfl
       refine one_ (i := 5) (N := some 8) #[true, true, true, true, true, true, false, false] rfl rfl (one_of HT_.out (by kernel_rfl)) (by decide) (fun K hK => ?_)
       refine box_step ?hg (N := 8) ?hd (cs := #[.int .i64 0, .int .i64 0, .slice none 0 0]) (t := 29) ?hr ?_; (case hd => rfl); (case hg => rfl); (case hr => first | (go_simp; done) | (go_simp; rfl))
       intro zF hg xV hbox hb
       have zf := am_ (Kd.N_below (Kd.N_elderB (by (with_reducible repeat (first | apply an1 | apply an2 | apply an3)); exact zW.out) zF (Nat.le_of_eq hg.symm)) hb)
       have zg := am_ (Kd.N_below (Kd.N_elderB (by (with_reducible repeat (first | apply an1 | apply an2 | apply an3)); exact zu.out) zF (Nat.le_of_eq hg.symm)) hb)
       have zh := am_ (aq4 (g := zB) (o := .cells #[.int .i64 a0_0, .int .i64 a0_1, .slice A0_2 l0_2.length c0_2] 24 (0, 0)) (by (with_reducible repeat (first | apply aq1 | apply aq2 | apply aq3)); exact zA.out) hb)
       have zj := am_ (aq4 (g := zC) (o := .cells #[.int .i64 a1_0, .int .i64 a1_1, .slice A1_2 l1_2.length c1_2] 24 (0, 0)) (by (with_reducible repeat (first | apply aq1 | apply aq2 | apply aq3)); exact zD.out) hb)
       have zk := am_ (aq4 (g := zE) (o := .cells #[.int .i64 0, .int .i64 0, .slice none 0 0] 29 (0, 0)) (by (with_reducible repeat (first | apply aq1 | apply aq2 | apply aq3)); exact zH.out) hb)
       have zn := am_ (ab5 (by repeat (first | (with_reducible first | exact HB.out | apply ab1 | apply ab2 | apply ab3 | refine ab4 ?_ zL.out | refine ab4 ?_ zM.out | refine ab4 ?_ zS.out) | exact HB.out)) hb)
       have zp := am_ (hbox)
       have zq := am_ ((by rw [hg]; exact (below_size (by repeat (first | (with_reducible first | exact HB.out | apply ab1 | apply ab2 | apply ab3 | refine ab4 ?_ zL.out | refine ab4 ?_ zM.out | refine ab4 ?_ zS.out) | exact HB.out))) : w.heap.size ≤ zF))
       have zr := am_ ((by rw [hg]; exact (below_size (by repeat (first | (with_reducible first | exact HB.out | apply ab1 | apply ab2 | apply ab3 | refine ab4 ?_ zL.out | refine ab4 ?_ zM.out | refine ab4 ?_ zS.out) | exact HB.out))) : w.heap.size ≤ zF))
       have z4 := am_ ((by rw [hg]; exact Nat.ne_of_lt (blk_lt (g := zB) (o := .cells #[.int .i64 a0_0, .int .i64 a0_1, .slice A0_2 l0_2.length c0_2] 24 (0, 0)) (by (with_reducible repeat (first | apply aq1 | apply aq2 | apply aq3)); exact zA.out)) : zB ≠ zF))
       have zs := am_ ((by rw [hg]; exact Nat.ne_of_gt (blk_lt (g := zB) (o := .cells #[.int .i64 a0_0, .int .i64 a0_1, .slice A0_2 l0_2.length c0_2] 24 (0, 0)) (by (with_reducible repeat (first | apply aq1 | apply aq2 | apply aq3)); exact zA.out)) : zF ≠ zB))
       have zy := am_ ((by rw [hg]; exact Nat.ne_of_lt (blk_lt (g := zC) (o := .cells #[.int .i64 a1_0, .int .i64 a1_1, .slice A1_2 l1_2.length c1_2] 24 (0, 0)) (by (with_reducible repeat (first | apply aq1 | apply aq2 | apply aq3)); exact zD.out)) : zC ≠ zF))
       have z7 := am_ ((by rw [hg]; exact Nat.ne_of_gt (blk_lt (g := zC) (o := .cells #[.int .i64 a1_0, .int .i64 a1_1, .slice A1_2 l1_2.length c1_2] 24 (0, 0)) (by (with_reducible repeat (first | apply aq1 | apply aq2 | apply aq3)); exact zD.out)) : zF ≠ zC))
       have xE := am_ ((by rw [hg]; exact Nat.ne_of_lt (blk_lt (g := zE) (o := .cells #[.int .i64 0, .int .i64 0, .slice none 0 0] 29 (0, 0)) (by (with_reducible repeat (first | apply aq1 | apply aq2 | apply aq3)); exact zH.out)) : zE ≠ zF))
       have xJ := am_ ((by rw [hg]; exact Nat.ne_of_gt (blk_lt (g := zE) (o := .cells #[.int .i64 0, .int .i64 0, .slice none 0 0] 29 (0, 0)) (by (with_reducible repeat (first | apply aq1 | apply aq2 | apply aq3)); exact zH.out)) : zF ≠ zE))
       clear zW
       clear zu
       clear zA
       clear zD
       clear zH
       clear HB
       have zW := zf
       have zu := zg
       have zA := zh
       have zD := zj
       have zH := zk
       have HB := zn
       have zJ := zp
       have z2 := zq
       have zT := zr
       have zP := z4
       have zX := zs
       have zQ := zy
       have zY := z7
       have za := xE
       have zZ := xJ
       clear zf zg zh zj zk zn zp zq zr z4 zs zy z7 xE xJ
       clear hb hbox hg
       refine hK.out _ _ ⟨(aq7 zA.out 0).trans rfl, (aq7 zA.out 1).trans rfl, (aq7 zA.out 2).trans rfl, (aq7 zD.out 0).trans rfl, (aq7 zD.out 1).trans rfl, (aq7 zD.out 2).trans rfl⟩ (fun hHeld => ?_)
       clear hK K
       refine norm_ (a' := ?_) ?_ ?_
       rotate_left
       ·show Act.put _ (some 8) _ = _
        simp only [Act.put, List.setIfInBounds_toArray, List.set_cons_zero, List.set_cons_succ, i64_w, i32_w, u8_w, u32_w]
        rfl
       exact norm_ (by first | (simp only [putAll, Act.put, List.setIfInBounds_toArray, List.set_cons_zero, List.set_cons_succ]; done) | (simp only [putAll, Act.put, List.setIfInBounds_toArray, List.set_cons_zero, List.set_cons_succ]; rfl)) (hJ1_3_4_5 (zw, xD, zE, zF) _ ⟨hHeld, (by (with_reducible repeat (first | apply an1 | apply an2 | apply an3)); exact an5 zW.out (fun _ hk => ⟨hk.1.1, ⟨hk.1.2.1, ⟨hk.1.2.2.1, ⟨hk.1.2.2.2, hk.2⟩⟩⟩⟩)), (by (with_reducible repeat (first | apply an1 | apply an2 | apply an3)); exact an5 zu.out (fun _ hk => ⟨hk.1.1, ⟨hk.1.2.1, ⟨hk.1.2.2.1, ⟨hk.1.2.2.2, hk.2⟩⟩⟩⟩)), (by (with_reducible repeat (first | apply aq1 | apply aq2 | apply aq3)); exact zA.out), (by (with_reducible repeat (first | apply aq1 | apply aq2 | apply aq3)); exact zD.out), (by (with_reducible repeat (first | apply aq1 | apply aq2 | apply aq3)); exact zH.out), (by (with_reducible repeat (first | apply aq1 | apply aq2 | apply aq3)); exact zJ.out), z1.out, zS.out, zN.out, zU.out, zO.out, zV.out, zZ.out, za.out, z2.out, zT.out, zP.out, zX.out, zQ.out, zY.out, (by repeat (first | (with_reducible first | exact HB.out | apply ab1 | apply ab2 | apply ab3 | refine ab4 ?_ zL.out | refine ab4 ?_ zM.out | refine ab4 ?_ zS.out | refine ab4 ?_ zT.out) | exact HB.out))⟩)
     rintro ⟨zw, xD, zE, zF⟩ xV ⟨hS_, h0_, h1_, h2_, h3_, h4_, h5_, h6_, h7_, h8_, h9_, h10_, h11_, h12_, h13_, h14_, h15_, h16_, h17_, h18_, h19_, h20_⟩
     have zf : Aside0 (Kd.N k29 29 xV w.heap.size (fun k_ => some k_ ≠ (xD : Value).ownBlock ∧ k_ ≠ zB ∧ k_ ≠ zC ∧ k_ ≠ zE ∧ k_ ≠ zF) zw zb) := ⟨h0_⟩
     have zg : Aside0 (Kd.N k29 29 xV w.heap.size (fun k_ => some k_ ≠ (zw : Value).ownBlock ∧ k_ ≠ zB ∧ k_ ≠ zC ∧ k_ ≠ zE ∧ k_ ≠ zF) xD zi) := ⟨h1_⟩
     have zh : Aside0 (xV.heap[zB]? = some (.cells #[.int .i64 a0_0, .int .i64 a0_1, .slice A0_2 l0_2.length c0_2] 24 (0, 0))) := ⟨h2_⟩
     have zj : Aside0 (xV.heap[zC]? = some (.cells #[.int .i64 a1_0, .int .i64 a1_1, .slice A1_2 l1_2.length c1_2] 24 (0, 0))) := ⟨h3_⟩
     have zk : Aside0 (xV.heap[zE]? = some (.cells #[.int .i64 0, .int .i64 0, .slice none 0 0] 29 (0, 0))) := ⟨h4_⟩
     have zn : Aside0 (xV.heap[zF]? = some (.cells #[.int .i64 0, .int .i64 0, .slice none 0 0] 29 (0, 0))) := ⟨h5_⟩
     have zp : Aside0 (w.heap.size ≤ zE) := ⟨h6_⟩
     have zq : Aside0 (w.heap.size ≤ zE) := ⟨h7_⟩
     have zr : Aside0 (zB ≠ zE) := ⟨h8_⟩
     have z4 : Aside0 (zE ≠ zB) := ⟨h9_⟩
     have zs : Aside0 (zC ≠ zE) := ⟨h10_⟩
     have zy : Aside0 (zE ≠ zC) := ⟨h11_⟩
     have z7 : Aside0 (zF ≠ zE) := ⟨h12_⟩
     have xE : Aside0 (zE ≠ zF) := ⟨h13_⟩
     have xJ : Aside0 (w.heap.size ≤ zF) := ⟨h14_⟩
     have xR : Aside0 (w.heap.size ≤ zF) := ⟨h15_⟩
     have xS : Aside0 (zB ≠ zF) := ⟨h16_⟩
     have xT : Aside0 (zF ≠ zB) := ⟨h17_⟩
     have xU : Aside0 (zC ≠ zF) := ⟨h18_⟩
     have xk : Aside0 (zF ≠ zC) := ⟨h19_⟩
     have n20_ : Aside0 (Below w.heap.size w xV) := ⟨h20_⟩
     clear zA
     clear zD
     clear HB
     clear h0_ h1_ h2_ h3_ h4_ h5_ h6_ h7_ h8_ h9_ h10_ h11_ h12_ h13_ h14_ h15_ h16_ h17_ h18_ h19_ h20_
     have zW := zf
     have zu := zg
     have zA := zh
     have zD := zj
     have zH := zk
     have zJ := zn
     have z1 := zp
     have zS := zq
     have zN := zr
     have zU := z4
     have zO := zs
     have zV := zy
     have zZ := z7
     have za := xE
     have z2 := xJ
     have zT := xR
     have zP := xS
     have zX := xT
     have zQ := xU
     have zY := xk
     have HB := n20_
     clear zf zg zh zj zk zn zp zq zr z4 zs zy z7 xE xJ xR xS xT xU xk n20_
     have hHeld : xV.cell? ⟨zB, 0, none⟩ = some (.int .i64 a0_0) ∧ xV.cell? ⟨zB, 1, none⟩ = some (.int .i64 a0_1) ∧ xV.cell? ⟨zB, 2, none⟩ = some (.slice A0_2 l0_2.length c0_2) ∧ xV.cell? ⟨zC, 0, none⟩ = some (.int .i64 a1_0) ∧ xV.cell? ⟨zC, 1, none⟩ = some (.int .i64 a1_1) ∧ xV.cell? ⟨zC, 2, none⟩ = some (.slice A1_2 l1_2.length c1_2) := hS_
     obtain ⟨zz, z0, eo33⟩ := Kd.N_slice zW.out
     (first | subst eo33 | (injection eo33 with f1_ f2_ f3_; have f4_ := f1_.symm; have f5_ := f3_.symm; clear f1_ f2_ f3_; subst f4_; subst f5_))
     obtain ⟨z5, z6, eo37⟩ := Kd.N_slice zu.out
     (first | subst eo37 | (injection eo37 with f1_ f2_ f3_; have f4_ := f1_.symm; have f5_ := f3_.symm; clear f1_ f2_ f3_; subst f4_; subst f5_))
     refine norm_ (a' := ?_) ?_ ?_
     rotate_left
     ·simp only [putAll, Act.put, List.setIfInBounds_toArray, List.set_cons_zero, List.set_cons_succ]
      rfl
     refine one_ (i := 6) (N := none) #[true, true, true, true, true, true, true, false] rfl rfl (one_of HT_.out (by kernel_rfl)) (by decide) (fun K hK => ?_)
     have hs31 : xV.cell? ⟨zE, 0, none⟩ = some (.int .i64 0) := (aq7 zH.out 0).trans rfl
     have hfs31 := aq8 zH.out 0
     have hns31_0 := zN.out
     have hns31_1 := zO.out
     have hns31_3 := zZ.out
     have hms31_0 := zU.out
     have hms31_1 := zV.out
     have hms31_3 := za.out
     have hs32 : xV.cell? ⟨zE, 1, none⟩ = some (.int .i64 0) := (aq7 zH.out 1).trans rfl
     have hfs32 := aq8 zH.out 1
     have hns32_0 := zN.out
     have hns32_1 := zO.out
     have hns32_3 := zZ.out
     have hms32_0 := zU.out
     have hms32_1 := zV.out
     have hms32_3 := za.out
     have hs34 : xV.cell? ⟨zE, 2, none⟩ = some (.slice none 0 0) := (aq7 zH.out 2).trans rfl
     have hfs34 := aq8 zH.out 2
     have hns34_0 := zN.out
     have hns34_1 := zO.out
     have hns34_3 := zZ.out
     have hms34_0 := zU.out
     have hms34_1 := zV.out
     have hms34_3 := za.out
     refine skip_ (w1 := ?_) (by rfl) rfl ?_ ?_
     rotate_left
     ·go_simp
      rfl
     refine hK.out _ _ ⟨((cell_far (p := ⟨zE, _, none⟩) zN.out _).trans (((cell_far (p := ⟨zE, _, none⟩) zN.out _).trans (((cell_far (p := ⟨zE, _, none⟩) zN.out _).trans (hHeld.1)))))), ((cell_far (p := ⟨zE, _, none⟩) zN.out _).trans (((cell_far (p := ⟨zE, _, none⟩) zN.out _).trans (((cell_far (p := ⟨zE, _, none⟩) zN.out _).trans (hHeld.2.1)))))), ((cell_far (p := ⟨zE, _, none⟩) zN.out _).trans (((cell_far (p := ⟨zE, _, none⟩) zN.out _).trans (((cell_far (p := ⟨zE, _, none⟩) zN.out _).trans (hHeld.2.2.1)))))), ((cell_far (p := ⟨zE, _, none⟩) zO.out _).trans (((cell_far (p := ⟨zE, _, none⟩) zO.out _).trans (((cell_far (p := ⟨zE, _, none⟩) zO.out _).trans (hHeld.2.2.2.1)))))), ((cell_far (p := ⟨zE, _, none⟩) zO.out _).trans (((cell_far (p := ⟨zE, _, none⟩) zO.out _).trans (((cell_far (p := ⟨zE, _, none⟩) zO.out _).trans (hHeld.2.2.2.2.1)))))), ((cell_far (p := ⟨zE, _, none⟩) zO.out _).trans (((cell_far (p := ⟨zE, _, none⟩) zO.out _).trans (((cell_far (p := ⟨zE, _, none⟩) zO.out _).trans (hHeld.2.2.2.2.2))))))⟩ (fun hHeld => ?_)
     clear hK K
     refine one_ (i := 7) (N := none) #[true, true, true, true, true, true, true, true] rfl rfl (one_of HT_.out (by kernel_rfl)) (by decide) (fun K hK => ?_)
     have hs35 : xV.cell? ⟨zF, 0, none⟩ = some (.int .i64 0) := (aq7 zJ.out 0).trans rfl
     have hfs35 := aq8 zJ.out 0
     have hns35_0 := zP.out
     have hns35_1 := zQ.out
     have hns35_2 := za.out
     have hms35_0 := zX.out
     have hms35_1 := zY.out
     have hms35_2 := zZ.out
     have hs36 : xV.cell? ⟨zF, 1, none⟩ = some (.int .i64 0) := (aq7 zJ.out 1).trans rfl
     have hfs36 := aq8 zJ.out 1
     have hns36_0 := zP.out
     have hns36_1 := zQ.out
     have hns36_2 := za.out
     have hms36_0 := zX.out
     have hms36_1 := zY.out
     have hms36_2 := zZ.out
     have hs38 : xV.cell? ⟨zF, 2, none⟩ = some (.slice none 0 0) := (aq7 zJ.out 2).trans rfl
     have hfs38 := aq8 zJ.out 2
     have hns38_0 := zP.out
     have hns38_1 := zQ.out
     have hns38_2 := za.out
     have hms38_0 := zX.out
     have hms38_1 := zY.out
     have hms38_2 := zZ.out
     refine skip_ (w1 := ?_) (by rfl) rfl ?_ ?_
     rotate_left
     ·go_simp
      rfl
     refine hK.out _ _ ⟨((cell_far (p := ⟨zF, _, none⟩) zP.out _).trans (((cell_far (p := ⟨zF, _, none⟩) zP.out _).trans (((cell_far (p := ⟨zF, _, none⟩) zP.out _).trans (hHeld.1)))))), ((cell_far (p := ⟨zF, _, none⟩) zP.out _).trans (((cell_far (p := ⟨zF, _, none⟩) zP.out _).trans (((cell_far (p := ⟨zF, _, none⟩) zP.out _).trans (hHeld.2.1)))))), ((cell_far (p := ⟨zF, _, none⟩) zP.out _).trans (((cell_far (p := ⟨zF, _, none⟩) zP.out _).trans (((cell_far (p := ⟨zF, _, none⟩) zP.out _).trans (hHeld.2.2.1)))))), ((cell_far (p := ⟨zF, _, none⟩) zQ.out _).trans (((cell_far (p := ⟨zF, _, none⟩) zQ.out _).trans (((cell_far (p := ⟨zF, _, none⟩) zQ.out _).trans (hHeld.2.2.2.1)))))), ((cell_far (p := ⟨zF, _, none⟩) zQ.out _).trans (((cell_far (p := ⟨zF, _, none⟩) zQ.out _).trans (((cell_far (p := ⟨zF, _, none⟩) zQ.out _).trans (hHeld.2.2.2.2.1)))))), ((cell_far (p := ⟨zF, _, none⟩) zQ.out _).trans (((cell_far (p := ⟨zF, _, none⟩) zQ.out _).trans (((cell_far (p := ⟨zF, _, none⟩) zQ.out _).trans (hHeld.2.2.2.2.2))))))⟩ (fun hHeld => ?_)
     clear hK K
     refine done_ (done_of HT_.out (by kernel_rfl)) ?_
     try go_wp2_with (first | ((with_reducible refine gate_callee (f := 20) rfl ?_); refine goesL_ (some 28) rfl rfl Tryd.func20 (by kernel_rfl) rfl #[.int .i64 a2, .int .i64 8] rfl (by (try simp only [List.map_toArray, List.map_cons, List.map_nil]); first | done | rfl | (simp only [List.length_drop, List.length_take]; rfl)) ?_; (with_reducible refine (thyrsuslaw4_within.calls a2 8 z3 _ A24.out).mono ?_); rintro e w' ⟨rfl, ⟨nd, rfl⟩⟩; refine ⟨_, rfl, ?_⟩))
     go_loopg [9, 10] xe (fun kq v9 v10 w' => ∃ (xG : Bool) (xH : Int), v9 = .bool xG ∧ v10 = .int .i64 xH ∧ Aside0 (thyrsuslaw4_TermFree.l0 kq z3 xG xH zd ze zb zm zo zi = some r) ∧ Aside0 (kq ≤ xe) ∧ Aside0 (Kd.N k29 29 w' w.heap.size (fun k_ => some k_ ≠ ((.slice z5 zi.length z6) : Value).ownBlock ∧ k_ ≠ zB ∧ k_ ≠ zC ∧ k_ ≠ zE ∧ k_ ≠ zF) (.slice zz zb.length z0) zb) ∧ Aside0 (Kd.N k29 29 w' w.heap.size (fun k_ => some k_ ≠ ((.slice zz zb.length z0) : Value).ownBlock ∧ k_ ≠ zB ∧ k_ ≠ zC ∧ k_ ≠ zE ∧ k_ ≠ zF) (.slice z5 zi.length z6) zi) ∧ Aside0 (w'.heap[zB]? = some (.cells #[.int .i64 a0_0, .int .i64 a0_1, (.slice A0_2 l0_2.length c0_2)] 24 (0, 0))) ∧ Aside0 (w'.heap[zC]? = some (.cells #[.int .i64 a1_0, .int .i64 a1_1, (.slice A1_2 l1_2.length c1_2)] 24 (0, 0))) ∧ Aside0 (w'.heap[zE]? = some (.cells #[.int .i64 zd, .int .i64 ze, (.slice zz zb.length z0)] 29 (0, 0))) ∧ Aside0 (w'.heap[zF]? = some (.cells #[.int .i64 zm, .int .i64 zo, (.slice z5 zi.length z6)] 29 (0, 0))) ∧ Aside0 (Below w.heap.size w w'))
     case atStart => exact ⟨(true), (z3), (by first | rfl | (simp; done) | (simp [*]; done)), (by first | rfl | (simp; done) | (simp [*]; done)), H', ⟨Nat.le_refl _⟩, ⟨by (with_reducible repeat (first | apply an1 | apply an2 | apply an3)); exact an5 (Kd.N_far (p := ⟨zF, 2, none⟩) (Kd.N_far (p := ⟨zF, 1, none⟩) (Kd.N_far (p := ⟨zF, 0, none⟩) (Kd.N_far (p := ⟨zE, 2, none⟩) (Kd.N_far (p := ⟨zE, 1, none⟩) (Kd.N_far (p := ⟨zE, 0, none⟩) (an5 (an5 zW.out (fun k_ hk => (⟨hk, hk.2.2.2.1⟩ : _ ∧ k_ ≠ zE))) (fun k_ hk => (⟨hk, hk.1.2.2.2.2⟩ : _ ∧ k_ ≠ zF))) (fun _ hk => hk.1.2) (.int .i64 zd)) (fun _ hk => hk.1.2) (.int .i64 ze)) (fun _ hk => hk.1.2) (.slice zz zb.length z0)) (fun _ hk => hk.2) (.int .i64 zm)) (fun _ hk => hk.2) (.int .i64 zo)) (fun _ hk => hk.2) (.slice z5 zi.length z6)) (fun _ hk => ⟨hk.1.1.1, ⟨hk.1.1.2.1, ⟨hk.1.1.2.2.1, ⟨hk.1.1.2.2.2.1, hk.1.1.2.2.2.2⟩⟩⟩⟩)⟩, ⟨by (with_reducible repeat (first | apply an1 | apply an2 | apply an3)); exact an5 (Kd.N_far (p := ⟨zF, 2, none⟩) (Kd.N_far (p := ⟨zF, 1, none⟩) (Kd.N_far (p := ⟨zF, 0, none⟩) (Kd.N_far (p := ⟨zE, 2, none⟩) (Kd.N_far (p := ⟨zE, 1, none⟩) (Kd.N_far (p := ⟨zE, 0, none⟩) (an5 (an5 zu.out (fun k_ hk => (⟨hk, hk.2.2.2.1⟩ : _ ∧ k_ ≠ zE))) (fun k_ hk => (⟨hk, hk.1.2.2.2.2⟩ : _ ∧ k_ ≠ zF))) (fun _ hk => hk.1.2) (.int .i64 zd)) (fun _ hk => hk.1.2) (.int .i64 ze)) (fun _ hk => hk.1.2) (.slice zz zb.length z0)) (fun _ hk => hk.2) (.int .i64 zm)) (fun _ hk => hk.2) (.int .i64 zo)) (fun _ hk => hk.2) (.slice z5 zi.length z6)) (fun _ hk => ⟨hk.1.1.1, ⟨hk.1.1.2.1, ⟨hk.1.1.2.2.1, ⟨hk.1.1.2.2.2.1, hk.1.1.2.2.2.2⟩⟩⟩⟩)⟩, ⟨by (with_reducible repeat (first | apply aq1 | apply aq2 | apply aq3)); refine blk_far ?_ zP.out _; (with_reducible repeat (first | apply aq1 | apply aq2 | apply aq3)); refine blk_far ?_ zP.out _; (with_reducible repeat (first | apply aq1 | apply aq2 | apply aq3)); refine blk_far ?_ zP.out _; (with_reducible repeat (first | apply aq1 | apply aq2 | apply aq3)); refine blk_far ?_ zN.out _; (with_reducible repeat (first | apply aq1 | apply aq2 | apply aq3)); refine blk_far ?_ zN.out _; (with_reducible repeat (first | apply aq1 | apply aq2 | apply aq3)); refine blk_far ?_ zN.out _; (with_reducible repeat (first | apply aq1 | apply aq2 | apply aq3)); exact zA.out⟩, ⟨by (with_reducible repeat (first | apply aq1 | apply aq2 | apply aq3)); refine blk_far ?_ zQ.out _; (with_reducible repeat (first | apply aq1 | apply aq2 | apply aq3)); refine blk_far ?_ zQ.out _; (with_reducible repeat (first | apply aq1 | apply aq2 | apply aq3)); refine blk_far ?_ zQ.out _; (with_reducible repeat (first | apply aq1 | apply aq2 | apply aq3)); refine blk_far ?_ zO.out _; (with_reducible repeat (first | apply aq1 | apply aq2 | apply aq3)); refine blk_far ?_ zO.out _; (with_reducible repeat (first | apply aq1 | apply aq2 | apply aq3)); refine blk_far ?_ zO.out _; (with_reducible repeat (first | apply aq1 | apply aq2 | apply aq3)); exact zD.out⟩, ⟨by (with_reducible repeat (first | apply aq1 | apply aq2 | apply aq3)); refine blk_far ?_ za.out _; (with_reducible repeat (first | apply aq1 | apply aq2 | apply aq3)); refine blk_far ?_ za.out _; (with_reducible repeat (first | apply aq1 | apply aq2 | apply aq3)); refine blk_far ?_ za.out _; (with_reducible repeat (first | apply aq1 | apply aq2 | apply aq3)); refine blk_put (cs := #[.int .i64 zd, .int .i64 ze, .slice none 0 0]) ?_ 2 _ rfl; (with_reducible repeat (first | apply aq1 | apply aq2 | apply aq3)); refine blk_put (cs := #[.int .i64 zd, .int .i64 0, .slice none 0 0]) ?_ 1 _ rfl; (with_reducible repeat (first | apply aq1 | apply aq2 | apply aq3)); refine blk_put (cs := #[.int .i64 0, .int .i64 0, .slice none 0 0]) ?_ 0 _ rfl; (with_reducible repeat (first | apply aq1 | apply aq2 | apply aq3)); exact zH.out⟩, ⟨by (with_reducible repeat (first | apply aq1 | apply aq2 | apply aq3)); refine blk_put (cs := #[.int .i64 zm, .int .i64 zo, .slice none 0 0]) ?_ 2 _ rfl; (with_reducible repeat (first | apply aq1 | apply aq2 | apply aq3)); refine blk_put (cs := #[.int .i64 zm, .int .i64 0, .slice none 0 0]) ?_ 1 _ rfl; (with_reducible repeat (first | apply aq1 | apply aq2 | apply aq3)); refine blk_put (cs := #[.int .i64 0, .int .i64 0, .slice none 0 0]) ?_ 0 _ rfl; (with_reducible repeat (first | apply aq1 | apply aq2 | apply aq3)); refine blk_far ?_ zZ.out _; (with_reducible repeat (first | apply aq1 | apply aq2 | apply aq3)); refine blk_far ?_ zZ.out _; (with_reducible repeat (first | apply aq1 | apply aq2 | apply aq3)); refine blk_far ?_ zZ.out _; (with_reducible repeat (first | apply aq1 | apply aq2 | apply aq3)); exact zJ.out⟩, ⟨by repeat (first | (with_reducible first | exact HB.out | apply ab1 | apply ab2 | apply ab3 | refine ab4 ?_ zL.out | refine ab4 ?_ zM.out | refine ab4 ?_ zS.out | refine ab4 ?_ zT.out) | exact HB.out)⟩⟩
     case round =>
      clear H'
      try clear c1
      try clear c2
      try clear p2
      try clear c16
      try clear c20
      try clear zG
      try clear zI
      try clear zA
      try clear zD
      try clear zH
      try clear zJ
      try clear HB
      obtain ⟨xG, xH, rfl, rfl, HA, HK2, zG, zI, zA, zD, zH, zJ, HB⟩ := hrel
      cases gk with
      | zero => exact absurd HA.out (by simp [thyrsuslaw4_TermFree.l0])
      | succ k2 =>
       have H := HA.out
       clear HA
       simp only [thyrsuslaw4_TermFree.l0] at H
       by_cases c39 : xH < 12
       ·rw [if_pos c39] at H
        have c39b0 : decide (xH < 12) = true := decide_eq_true c39
        clear c39
        by_cases c40 : xG = true
        ·subst c40
         have H1 : ((term_Free.f k2 zd ze zb xH).bind fun xl => (thyrsuslaw4_TermFree.l0 k2 z3 (!xl) (wrap64 (xH + 1)) zd ze zb zm zo zi)) = some r := by rw [if_pos rfl] at H; exact H
         clear H
         have H := H1
         clear H1
         replace H := Option.bind_eq_some_iff.mp H
         obtain ⟨xl, A410, H⟩ := H
         replace H : (thyrsuslaw4_TermFree.l0 k2 z3 (!xl) (wrap64 (xH + 1)) zd ze zb zm zo zi) = some r := H
         have A41 := am_ A410
         clear A410
         have H' := am_ H
         clear H
         have hnb42 := zU.out
         have hnc42 := zN.out
         have hnb43 := zV.out
         have hnc43 := zO.out
         have hnb44 := za.out
         have hnc44 := zZ.out
         have hcz45_0 : wr.cell? ⟨zE, 0, none⟩ = some (.int .i64 zd) := (aq7 zH.out 0).trans rfl
         have hcz45_1 : wr.cell? ⟨zE, 1, none⟩ = some (.int .i64 ze) := (aq7 zH.out 1).trans rfl
         have hcz45_2 : wr.cell? ⟨zE, 2, none⟩ = some (.slice zz zb.length z0) := (aq7 zH.out 2).trans rfl
         have hfz45_0 := aq8 zH.out 0
         have hfz45_1 := aq8 zH.out 1
         have hfz45_2 := aq8 zH.out 2
         go_wp2_with (first | (go_at_call 34; (with_reducible refine (term_Free.calls k2 zd ze _ _ zb xH xl _ ?side1 ?side2 A41.out).mono ?_); (case side1 => repeat (first | exact (an9 zG.out).2.2 | (with_reducible refine ac2 ?_ _) | (with_reducible refine ac3 ?_ _) | (with_reducible refine ac4 ?_))); (case side2 => exact (an9 zG.out).2.1); rintro e w46 ⟨rfl, hb⟩; have zf := am_ (Kd.N_below (by (with_reducible repeat (first | apply an1 | apply an2 | apply an3)); exact zG.out) hb); have zg := am_ (Kd.N_below (by (with_reducible repeat (first | apply an1 | apply an2 | apply an3)); exact zI.out) hb); have zh := am_ (aq4 (g := zB) (o := .cells #[.int .i64 a0_0, .int .i64 a0_1, .slice A0_2 l0_2.length c0_2] 24 (0, 0)) (by (with_reducible repeat (first | apply aq1 | apply aq2 | apply aq3)); exact zA.out) hb); have zj := am_ (aq4 (g := zC) (o := .cells #[.int .i64 a1_0, .int .i64 a1_1, .slice A1_2 l1_2.length c1_2] 24 (0, 0)) (by (with_reducible repeat (first | apply aq1 | apply aq2 | apply aq3)); exact zD.out) hb); have zk := am_ (aq4 (g := zE) (o := .cells #[.int .i64 zd, .int .i64 ze, .slice zz zb.length z0] 29 (0, 0)) (by (with_reducible repeat (first | apply aq1 | apply aq2 | apply aq3)); exact zH.out) hb); have zn := am_ (aq4 (g := zF) (o := .cells #[.int .i64 zm, .int .i64 zo, .slice z5 zi.length z6] 29 (0, 0)) (by (with_reducible repeat (first | apply aq1 | apply aq2 | apply aq3)); exact zJ.out) hb); have zp := am_ (ab5 (by repeat (first | (with_reducible first | exact HB.out | apply ab1 | apply ab2 | apply ab3 | refine ab4 ?_ zL.out | refine ab4 ?_ zM.out | refine ab4 ?_ zS.out | refine ab4 ?_ zT.out) | exact HB.out)) hb); clear zG; clear zI; clear zA; clear zD; clear zH; clear zJ; clear HB; have zG := zf; have zI := zg; have zA := zh; have zD := zj; have zH := zk; have zJ := zn; have HB := zp; clear zf zg zh zj zk zn zp; (try clear hb); (try clear hb2); (try clear hk); (try clear hi)))
         go_roundg k2
         case measure => have := HJ5.out; have := HK2.out; omega
         case rel => exact ⟨(!xl), (wrap64 (xH + 1)), (by first | rfl | (simp; done) | (simp [*]; done)), (by first | rfl | (simp; done) | (simp [*]; done)), H', ⟨by have := HJ5.out; have := HK2.out; omega⟩, ⟨by (with_reducible repeat (first | apply an1 | apply an2 | apply an3)); exact zG.out⟩, ⟨by (with_reducible repeat (first | apply an1 | apply an2 | apply an3)); exact zI.out⟩, ⟨by (with_reducible repeat (first | apply aq1 | apply aq2 | apply aq3)); exact zA.out⟩, ⟨by (with_reducible repeat (first | apply aq1 | apply aq2 | apply aq3)); exact zD.out⟩, ⟨by (with_reducible repeat (first | apply aq1 | apply aq2 | apply aq3)); exact zH.out⟩, ⟨by (with_reducible repeat (first | apply aq1 | apply aq2 | apply aq3)); exact zJ.out⟩, ⟨by repeat (first | (with_reducible first | exact HB.out | apply ab1 | apply ab2 | apply ab3 | refine ab4 ?_ zL.out | refine ab4 ?_ zM.out | refine ab4 ?_ zS.out | refine ab4 ?_ zT.out) | exact HB.out)⟩⟩
        ·replace c40 := Bool.eq_false_iff.mpr c40
         subst c40
         have H1 : (thyrsuslaw4_TermFree.l0 k2 z3 false (wrap64 (xH + 1)) zd ze zb zm zo zi) = some r := by rw [if_neg (show ¬ (false = true) by decide)] at H; exact H
         clear H
         have H := H1
         clear H1
         have H' := am_ H
         clear H
         go_wp2
         go_roundg k2
         case measure => have := HJ5.out; have := HK2.out; omega
         case rel => exact ⟨(false), (wrap64 (xH + 1)), (by first | rfl | (simp; done) | (simp [*]; done)), (by first | rfl | (simp; done) | (simp [*]; done)), H', ⟨by have := HJ5.out; have := HK2.out; omega⟩, ⟨by (with_reducible repeat (first | apply an1 | apply an2 | apply an3)); exact zG.out⟩, ⟨by (with_reducible repeat (first | apply an1 | apply an2 | apply an3)); exact zI.out⟩, ⟨by (with_reducible repeat (first | apply aq1 | apply aq2 | apply aq3)); exact zA.out⟩, ⟨by (with_reducible repeat (first | apply aq1 | apply aq2 | apply aq3)); exact zD.out⟩, ⟨by (with_reducible repeat (first | apply aq1 | apply aq2 | apply aq3)); exact zH.out⟩, ⟨by (with_reducible repeat (first | apply aq1 | apply aq2 | apply aq3)); exact zJ.out⟩, ⟨by repeat (first | (with_reducible first | exact HB.out | apply ab1 | apply ab2 | apply ab3 | refine ab4 ?_ zL.out | refine ab4 ?_ zM.out | refine ab4 ?_ zS.out | refine ab4 ?_ zT.out) | exact HB.out)⟩⟩
       ·rw [if_neg c39] at H
        have c39b0 : decide (xH < 12) = false := decide_eq_false c39
        clear c39
        replace H := Option.bind_eq_some_iff.mp H
        obtain ⟨⟨zv, zx, zt⟩, A470, H⟩ := H
        replace H : (thyrsuslaw4_TermFree.l1 k2 z3 xG 0 zd ze zb zm zo zi zv zx zt) = some r := H
        have A47 := am_ A470
        clear A470
        have H' := am_ H
        clear H
        have hnb48 := zU.out
        have hnc48 := zN.out
        have hnb49 := zV.out
        have hnc49 := zO.out
        have hnb50 := za.out
        have hnc50 := zZ.out
        have hcz51_0 : wr.cell? ⟨zE, 0, none⟩ = some (.int .i64 zd) := (aq7 zH.out 0).trans rfl
        have hcz51_1 : wr.cell? ⟨zE, 1, none⟩ = some (.int .i64 ze) := (aq7 zH.out 1).trans rfl
        have hcz51_2 : wr.cell? ⟨zE, 2, none⟩ = some (.slice zz zb.length z0) := (aq7 zH.out 2).trans rfl
        have hfz51_0 := aq8 zH.out 0
        have hfz51_1 := aq8 zH.out 1
        have hfz51_2 := aq8 zH.out 2
        have hnb52 := zX.out
        have hnc52 := zP.out
        have hnb53 := zY.out
        have hnc53 := zQ.out
        have hcz54_0 : wr.cell? ⟨zF, 0, none⟩ = some (.int .i64 zm) := (aq7 zJ.out 0).trans rfl
        have hcz54_1 : wr.cell? ⟨zF, 1, none⟩ = some (.int .i64 zo) := (aq7 zJ.out 1).trans rfl
        have hcz54_2 : wr.cell? ⟨zF, 2, none⟩ = some (.slice z5 zi.length z6) := (aq7 zJ.out 2).trans rfl
        have hfz54_0 := aq8 zJ.out 0
        have hfz54_1 := aq8 zJ.out 1
        have hfz54_2 := aq8 zJ.out 2
        go_wp2_with (first | ((with_reducible refine gate_callee (f := 22) rfl ?_); refine goesL_ (some 43) rfl rfl Tryd.func22 (by kernel_rfl) rfl #[.agg #[.int .i64 zd, .int .i64 ze, .slice zz zb.length z0], .int .i64 0, .agg #[.int .i64 zm, .int .i64 zo, .slice z5 zi.length z6]] rfl (by (try simp only [List.map_toArray, List.map_cons, List.map_nil]); first | done | rfl | (simp only [List.length_drop, List.length_take]; rfl)) ?_; (with_reducible refine (term_Subst.calls k2 zd ze (fun k_ => (some k_ ≠ (.slice z5 zi.length z6 : Value).ownBlock ∧ (k_ ≠ zB ∧ (k_ ≠ zC ∧ (k_ ≠ zE ∧ k_ ≠ zF))))) _ _ zb 0 zm zo (fun k_ => (some k_ ≠ (.slice zz zb.length z0 : Value).ownBlock ∧ (k_ ≠ zB ∧ (k_ ≠ zC ∧ (k_ ≠ zE ∧ k_ ≠ zF))))) _ _ zi zv zx zt _ ?side1 ?side2 A47.out).mono ?_); (case side1 => exact Kd.N_V (zG.out)); (case side2 => exact Kd.N_V (zI.out)); rintro e w55 ⟨v343, rfl, ho0, hb⟩; refine ⟨_, rfl, ?_⟩; have zf := am_ (Kd.N_elder' (by (with_reducible repeat (first | apply an1 | apply an2 | apply an3)); exact zG.out) (by first | exact Kd.N_base ho0 | exact Kd.R_base ho0) hb); have zg := am_ (Kd.N_elder' (by (with_reducible repeat (first | apply an1 | apply an2 | apply an3)); exact zI.out) (by first | exact Kd.N_base ho0 | exact Kd.R_base ho0) hb); have zh := am_ (Kd.N_lower (an5 (ok' := fun k_ => k_ ≠ zB ∧ k_ ≠ zC ∧ k_ ≠ zE ∧ k_ ≠ zF) ho0 (fun k_ hk_ => ⟨Or.elim hk_ (fun hs_ => Or.elim hs_ (fun hs_ => hs_.2.1) (fun hs_ => hs_.2.1)) (fun hn_ => (af1 (g := zB) (o := .cells #[.int .i64 a0_0, .int .i64 a0_1, .slice A0_2 l0_2.length c0_2] 24 (0, 0)) (by (with_reducible repeat (first | apply aq1 | apply aq2 | apply aq3)); exact zA.out) k_ hn_)), Or.elim hk_ (fun hs_ => Or.elim hs_ (fun hs_ => hs_.2.2.1) (fun hs_ => hs_.2.2.1)) (fun hn_ => (af1 (g := zC) (o := .cells #[.int .i64 a1_0, .int .i64 a1_1, .slice A1_2 l1_2.length c1_2] 24 (0, 0)) (by (with_reducible repeat (first | apply aq1 | apply aq2 | apply aq3)); exact zD.out) k_ hn_)), Or.elim hk_ (fun hs_ => Or.elim hs_ (fun hs_ => hs_.2.2.2.1) (fun hs_ => hs_.2.2.2.1)) (fun hn_ => (af1 (g := zE) (o := .cells #[.int .i64 zd, .int .i64 ze, .slice zz zb.length z0] 29 (0, 0)) (by (with_reducible repeat (first | apply aq1 | apply aq2 | apply aq3)); exact zH.out) k_ hn_)), Or.elim hk_ (fun hs_ => Or.elim hs_ (fun hs_ => hs_.2.2.2.2) (fun hs_ => hs_.2.2.2.2)) (fun hn_ => (af1 (g := zF) (o := .cells #[.int .i64 zm, .int .i64 zo, .slice z5 zi.length z6] 29 (0, 0)) (by (with_reducible repeat (first | apply aq1 | apply aq2 | apply aq3)); exact zJ.out) k_ hn_))⟩)) (below_size (by repeat (first | (with_reducible first | exact HB.out | apply ab1 | apply ab2 | apply ab3 | refine ab4 ?_ zL.out | refine ab4 ?_ zM.out | refine ab4 ?_ zS.out | refine ab4 ?_ zT.out) | exact HB.out)))); have zj := am_ (aq4 (g := zB) (o := .cells #[.int .i64 a0_0, .int .i64 a0_1, .slice A0_2 l0_2.length c0_2] 24 (0, 0)) (by (with_reducible repeat (first | apply aq1 | apply aq2 | apply aq3)); exact zA.out) hb); have zk := am_ (aq4 (g := zC) (o := .cells #[.int .i64 a1_0, .int .i64 a1_1, .slice A1_2 l1_2.length c1_2] 24 (0, 0)) (by (with_reducible repeat (first | apply aq1 | apply aq2 | apply aq3)); exact zD.out) hb); have zn := am_ (aq4 (g := zE) (o := .cells #[.int .i64 zd, .int .i64 ze, .slice zz zb.length z0] 29 (0, 0)) (by (with_reducible repeat (first | apply aq1 | apply aq2 | apply aq3)); exact zH.out) hb); have zp := am_ (aq4 (g := zF) (o := .cells #[.int .i64 zm, .int .i64 zo, .slice z5 zi.length z6] 29 (0, 0)) (by (with_reducible repeat (first | apply aq1 | apply aq2 | apply aq3)); exact zJ.out) hb); have zq := am_ (ab5 (by repeat (first | (with_reducible first | exact HB.out | apply ab1 | apply ab2 | apply ab3 | refine ab4 ?_ zL.out | refine ab4 ?_ zM.out | refine ab4 ?_ zS.out | refine ab4 ?_ zT.out) | exact HB.out)) hb); clear zG; clear zI; clear zA; clear zD; clear zH; clear zJ; clear HB; have zG := zf; have zI := zg; have xQ := zh; have zA := zj; have zD := zk; have zH := zn; have zJ := zp; have HB := zq; clear zf zg zh zj zk zn zp zq; (try clear hb); (try clear hb2); (try clear hk); (try clear hi); (try clear ho0)) | ((with_reducible refine gate_dst (N := 11) rfl ?_); refine box_event ?hg (N := 11) ?hd (cs := #[.int .i64 0, .int .i64 0, .slice none 0 0]) (t := 29) ?hr ?_; (case hd => rfl); (case hg => rfl); (case hr => first | (go_simp; done) | (go_simp; rfl)); intro zc hg w56 hbox hb; have zf := am_ (Kd.N_below (Kd.N_elderB (by (with_reducible repeat (first | apply an1 | apply an2 | apply an3)); exact zG.out) zc (Nat.le_of_eq hg.symm)) hb); have zg := am_ (Kd.N_below (Kd.N_elderB (by (with_reducible repeat (first | apply an1 | apply an2 | apply an3)); exact zI.out) zc (Nat.le_of_eq hg.symm)) hb); have zh := am_ (Kd.N_below (Kd.N_elderB (by (with_reducible repeat (first | apply an1 | apply an2 | apply an3)); exact xQ.out) zc (Nat.le_of_eq hg.symm)) hb); have zj := am_ (aq4 (g := zB) (o := .cells #[.int .i64 a0_0, .int .i64 a0_1, .slice A0_2 l0_2.length c0_2] 24 (0, 0)) (by (with_reducible repeat (first | apply aq1 | apply aq2 | apply aq3)); exact zA.out) hb); have zk := am_ (aq4 (g := zC) (o := .cells #[.int .i64 a1_0, .int .i64 a1_1, .slice A1_2 l1_2.length c1_2] 24 (0, 0)) (by (with_reducible repeat (first | apply aq1 | apply aq2 | apply aq3)); exact zD.out) hb); have zn := am_ (aq4 (g := zE) (o := .cells #[.int .i64 zd, .int .i64 ze, .slice zz zb.length z0] 29 (0, 0)) (by (with_reducible repeat (first | apply aq1 | apply aq2 | apply aq3)); exact zH.out) hb); have zp := am_ (aq4 (g := zF) (o := .cells #[.int .i64 zm, .int .i64 zo, .slice z5 zi.length z6] 29 (0, 0)) (by (with_reducible repeat (first | apply aq1 | apply aq2 | apply aq3)); exact zJ.out) hb); have zq := am_ (ab5 (by repeat (first | (with_reducible first | exact HB.out | apply ab1 | apply ab2 | apply ab3 | refine ab4 ?_ zL.out | refine ab4 ?_ zM.out | refine ab4 ?_ zS.out | refine ab4 ?_ zT.out) | exact HB.out)) hb); have zr := am_ (hbox); have z4 := am_ ((by rw [hg]; exact (below_size (by repeat (first | (with_reducible first | exact HB.out | apply ab1 | apply ab2 | apply ab3 | refine ab4 ?_ zL.out | refine ab4 ?_ zM.out | refine ab4 ?_ zS.out | refine ab4 ?_ zT.out) | exact HB.out))) : w.heap.size ≤ zc)); have zs := am_ ((by rw [hg]; exact (below_size (by repeat (first | (with_reducible first | exact HB.out | apply ab1 | apply ab2 | apply ab3 | refine ab4 ?_ zL.out | refine ab4 ?_ zM.out | refine ab4 ?_ zS.out | refine ab4 ?_ zT.out) | exact HB.out))) : w.heap.size ≤ zc)); have zy := am_ ((by rw [hg]; exact Nat.ne_of_lt (blk_lt (g := zB) (o := .cells #[.int .i64 a0_0, .int .i64 a0_1, .slice A0_2 l0_2.length c0_2] 24 (0, 0)) (by (with_reducible repeat (first | apply aq1 | apply aq2 | apply aq3)); exact zA.out)) : zB ≠ zc)); have z7 := am_ ((by rw [hg]; exact Nat.ne_of_gt (blk_lt (g := zB) (o := .cells #[.int .i64 a0_0, .int .i64 a0_1, .slice A0_2 l0_2.length c0_2] 24 (0, 0)) (by (with_reducible repeat (first | apply aq1 | apply aq2 | apply aq3)); exact zA.out)) : zc ≠ zB)); have xE := am_ ((by rw [hg]; exact Nat.ne_of_lt (blk_lt (g := zC) (o := .cells #[.int .i64 a1_0, .int .i64 a1_1, .slice A1_2 l1_2.length c1_2] 24 (0, 0)) (by (with_reducible repeat (first | apply aq1 | apply aq2 | apply aq3)); exact zD.out)) : zC ≠ zc)); have xJ := am_ ((by rw [hg]; exact Nat.ne_of_gt (blk_lt (g := zC) (o := .cells #[.int .i64 a1_0, .int .i64 a1_1, .slice A1_2 l1_2.length c1_2] 24 (0, 0)) (by (with_reducible repeat (first | apply aq1 | apply aq2 | apply aq3)); exact zD.out)) : zc ≠ zC)); have xR := am_ ((by rw [hg]; exact Nat.ne_of_lt (blk_lt (g := zE) (o := .cells #[.int .i64 zd, .int .i64 ze, .slice zz zb.length z0] 29 (0, 0)) (by (with_reducible repeat (first | apply aq1 | apply aq2 | apply aq3)); exact zH.out)) : zE ≠ zc)); have xS := am_ ((by rw [hg]; exact Nat.ne_of_gt (blk_lt (g := zE) (o := .cells #[.int .i64 zd, .int .i64 ze, .slice zz zb.length z0] 29 (0, 0)) (by (with_reducible repeat (first | apply aq1 | apply aq2 | apply aq3)); exact zH.out)) : zc ≠ zE)); have xT := am_ ((by rw [hg]; exact Nat.ne_of_lt (blk_lt (g := zF) (o := .cells #[.int .i64 zm, .int .i64 zo, .slice z5 zi.length z6] 29 (0, 0)) (by (with_reducible repeat (first | apply aq1 | apply aq2 | apply aq3)); exact zJ.out)) : zF ≠ zc)); have xU := am_ ((by rw [hg]; exact Nat.ne_of_gt (blk_lt (g := zF) (o := .cells #[.int .i64 zm, .int .i64 zo, .slice z5 zi.length z6] 29 (0, 0)) (by (with_reducible repeat (first | apply aq1 | apply aq2 | apply aq3)); exact zJ.out)) : zc ≠ zF)); clear zG; clear zI; clear xQ; clear zA; clear zD; clear zH; clear zJ; clear HB; have zG := zf; have zI := zg; have xQ := zh; have zA := zj; have zD := zk; have zH := zn; have zJ := zp; have HB := zq; have zR := zr; have GW345 := z4; have xC := zs; have xK := zy; have xh := z7; have xL := xE; have xi := xJ; have xI := xR; have xa := xS; have xM := xT; have xj := xU; clear zf zg zh zj zk zn zp zq zr z4 zs zy z7 xE xJ xR xS xT xU; clear hb hbox hg; have hnb57 := xh.out; have hnc57 := xK.out; have hnb58 := xi.out; have hnc58 := xL.out; have hnb59 := xa.out; have hnc59 := xI.out; have hnb60 := xj.out; have hnc60 := xM.out; have hcz61_0 : w56.cell? ⟨zc, 0, none⟩ = some (.int .i64 0) := (aq7 zR.out 0).trans rfl; have hcz61_1 : w56.cell? ⟨zc, 1, none⟩ = some (.int .i64 0) := (aq7 zR.out 1).trans rfl; have hcz61_2 : w56.cell? ⟨zc, 2, none⟩ = some (.slice none 0 0) := (aq7 zR.out 2).trans rfl; have hfz61_0 := aq8 zR.out 0; have hfz61_1 := aq8 zR.out 1; have hfz61_2 := aq8 zR.out 2; obtain ⟨z9, xA, eo62⟩ := Kd.N_slice xQ.out; subst eo62) | ((with_reducible refine gate_store (t := 29) (p := 11) rfl ?_); refine store_event (t := 29) (p := 11) (v := ?vo_w63) (w1 := (((w56.setCell ⟨zc, 0, none⟩ (.int .i64 zv)).setCell ⟨zc, 1, none⟩ (.int .i64 zx)).setCell ⟨zc, 2, none⟩ (.slice z9 zt.length xA))) ?hg ?ho ?hn ?hr ?_; (case ho => rfl); (case hg => rfl); (case hn => rfl); (case hr => first | (go_simp; done) | (go_simp; rfl)); intro w63 hw; have zf : Aside0 (Kd.N k29 29 w63 w.heap.size (fun k_ => some k_ ≠ (.slice z5 zi.length z6 : Value).ownBlock ∧ some k_ ≠ (.slice z9 zt.length xA : Value).ownBlock ∧ k_ ≠ zB ∧ k_ ≠ zC ∧ k_ ≠ zE ∧ k_ ≠ zF ∧ k_ ≠ zc) (.slice zz zb.length z0) zb) := ⟨(by rw [hw]; exact (by (with_reducible repeat (first | apply an1 | apply an2 | apply an3)); exact an5 (Kd.N_far (p := ⟨zc, 2, none⟩) (Kd.N_far (p := ⟨zc, 1, none⟩) (Kd.N_far (p := ⟨zc, 0, none⟩) (an5 zG.out (fun k_ hk => (⟨hk, hk.2⟩ : _ ∧ k_ ≠ zc))) (fun _ hk => hk.2) (.int .i64 zv)) (fun _ hk => hk.2) (.int .i64 zx)) (fun _ hk => hk.2) (.slice z9 zt.length xA)) (fun _ hk => ⟨hk.1.1.1.1, ⟨hk.1.1.2, ⟨hk.1.1.1.2.1, ⟨hk.1.1.1.2.2.1, ⟨hk.1.1.1.2.2.2.1, ⟨hk.1.1.1.2.2.2.2, hk.1.2⟩⟩⟩⟩⟩⟩)))⟩; have zg : Aside0 (Kd.N k29 29 w63 w.heap.size (fun k_ => some k_ ≠ (.slice zz zb.length z0 : Value).ownBlock ∧ some k_ ≠ (.slice z9 zt.length xA : Value).ownBlock ∧ k_ ≠ zB ∧ k_ ≠ zC ∧ k_ ≠ zE ∧ k_ ≠ zF ∧ k_ ≠ zc) (.slice z5 zi.length z6) zi) := ⟨(by rw [hw]; exact (by (with_reducible repeat (first | apply an1 | apply an2 | apply an3)); exact an5 (Kd.N_far (p := ⟨zc, 2, none⟩) (Kd.N_far (p := ⟨zc, 1, none⟩) (Kd.N_far (p := ⟨zc, 0, none⟩) (an5 zI.out (fun k_ hk => (⟨hk, hk.2⟩ : _ ∧ k_ ≠ zc))) (fun _ hk => hk.2) (.int .i64 zv)) (fun _ hk => hk.2) (.int .i64 zx)) (fun _ hk => hk.2) (.slice z9 zt.length xA)) (fun _ hk => ⟨hk.1.1.1.1, ⟨hk.1.1.2, ⟨hk.1.1.1.2.1, ⟨hk.1.1.1.2.2.1, ⟨hk.1.1.1.2.2.2.1, ⟨hk.1.1.1.2.2.2.2, hk.1.2⟩⟩⟩⟩⟩⟩)))⟩; have zh : Aside0 (Kd.N k29 29 w63 w.heap.size (fun k_ => k_ ≠ zB ∧ k_ ≠ zC ∧ k_ ≠ zE ∧ k_ ≠ zF ∧ k_ ≠ zc) (.slice z9 zt.length xA) zt) := ⟨(by rw [hw]; exact (by (with_reducible repeat (first | apply an1 | apply an2 | apply an3)); exact an5 (Kd.N_far (p := ⟨zc, 2, none⟩) (Kd.N_far (p := ⟨zc, 1, none⟩) (Kd.N_far (p := ⟨zc, 0, none⟩) (an5 xQ.out (fun k_ hk => (⟨hk, hk.2⟩ : _ ∧ k_ ≠ zc))) (fun _ hk => hk.2) (.int .i64 zv)) (fun _ hk => hk.2) (.int .i64 zx)) (fun _ hk => hk.2) (.slice z9 zt.length xA)) (fun _ hk => ⟨hk.1.1.1, ⟨hk.1.1.2.1, ⟨hk.1.1.2.2.1, ⟨hk.1.1.2.2.2, hk.1.2⟩⟩⟩⟩)))⟩; have zj : Aside0 (w63.heap[zB]? = some (.cells #[.int .i64 a0_0, .int .i64 a0_1, .slice A0_2 l0_2.length c0_2] 24 (0, 0))) := ⟨(by rw [hw]; exact (by (with_reducible repeat (first | apply aq1 | apply aq2 | apply aq3)); refine blk_far ?_ xK.out _; (with_reducible repeat (first | apply aq1 | apply aq2 | apply aq3)); refine blk_far ?_ xK.out _; (with_reducible repeat (first | apply aq1 | apply aq2 | apply aq3)); refine blk_far ?_ xK.out _; (with_reducible repeat (first | apply aq1 | apply aq2 | apply aq3)); exact zA.out))⟩; have zk : Aside0 (w63.heap[zC]? = some (.cells #[.int .i64 a1_0, .int .i64 a1_1, .slice A1_2 l1_2.length c1_2] 24 (0, 0))) := ⟨(by rw [hw]; exact (by (with_reducible repeat (first | apply aq1 | apply aq2 | apply aq3)); refine blk_far ?_ xL.out _; (with_reducible repeat (first | apply aq1 | apply aq2 | apply aq3)); refine blk_far ?_ xL.out _; (with_reducible repeat (first | apply aq1 | apply aq2 | apply aq3)); refine blk_far ?_ xL.out _; (with_reducible repeat (first | apply aq1 | apply aq2 | apply aq3)); exact zD.out))⟩; have zn : Aside0 (w63.heap[zE]? = some (.cells #[.int .i64 zd, .int .i64 ze, .slice zz zb.length z0] 29 (0, 0))) := ⟨(by rw [hw]; exact (by (with_reducible repeat (first | apply aq1 | apply aq2 | apply aq3)); refine blk_far ?_ xI.out _; (with_reducible repeat (first | apply aq1 | apply aq2 | apply aq3)); refine blk_far ?_ xI.out _; (with_reducible repeat (first | apply aq1 | apply aq2 | apply aq3)); refine blk_far ?_ xI.out _; (with_reducible repeat (first | apply aq1 | apply aq2 | apply aq3)); exact zH.out))⟩; have zp : Aside0 (w63.heap[zF]? = some (.cells #[.int .i64 zm, .int .i64 zo, .slice z5 zi.length z6] 29 (0, 0))) := ⟨(by rw [hw]; exact (by (with_reducible repeat (first | apply aq1 | apply aq2 | apply aq3)); refine blk_far ?_ xM.out _; (with_reducible repeat (first | apply aq1 | apply aq2 | apply aq3)); refine blk_far ?_ xM.out _; (with_reducible repeat (first | apply aq1 | apply aq2 | apply aq3)); refine blk_far ?_ xM.out _; (with_reducible repeat (first | apply aq1 | apply aq2 | apply aq3)); exact zJ.out))⟩; have zq : Aside0 (w63.heap[zc]? = some (.cells #[.int .i64 zv, .int .i64 zx, .slice z9 zt.length xA] 29 (0, 0))) := ⟨(by rw [hw]; exact (by (with_reducible repeat (first | apply aq1 | apply aq2 | apply aq3)); refine blk_put (cs := #[.int .i64 zv, .int .i64 zx, .slice none 0 0]) ?_ 2 _ rfl; (with_reducible repeat (first | apply aq1 | apply aq2 | apply aq3)); refine blk_put (cs := #[.int .i64 zv, .int .i64 0, .slice none 0 0]) ?_ 1 _ rfl; (with_reducible repeat (first | apply aq1 | apply aq2 | apply aq3)); refine blk_put (cs := #[.int .i64 0, .int .i64 0, .slice none 0 0]) ?_ 0 _ rfl; (with_reducible repeat (first | apply aq1 | apply aq2 | apply aq3)); exact zR.out))⟩; have zr : Aside0 (Below w.heap.size w w63) := ⟨(by rw [hw]; exact (by repeat (first | (with_reducible first | exact HB.out | apply ab1 | apply ab2 | apply ab3 | refine ab4 ?_ zL.out | refine ab4 ?_ zM.out | refine ab4 ?_ zS.out | refine ab4 ?_ zT.out | refine ab4 ?_ xC.out) | exact HB.out)))⟩; clear hw; clear zG; clear zI; clear xQ; clear zA; clear zD; clear zH; clear zJ; clear zR; clear HB; have zG := zf; have zI := zg; have xQ := zh; have zA := zj; have zD := zk; have zH := zn; have zJ := zp; have zR := zq; have HB := zr; clear zf zg zh zj zk zn zp zq zr))
        go_loopg [12] k2 (fun kq v12 w' => ∃ (zl : Int), v12 = .int .i64 zl ∧ Aside0 (thyrsuslaw4_TermFree.l1 kq z3 xG zl zd ze zb zm zo zi zv zx zt = some r) ∧ Aside0 (kq ≤ k2) ∧ Aside0 (Kd.N k29 29 w' w.heap.size (fun k_ => some k_ ≠ ((.slice z5 zi.length z6) : Value).ownBlock ∧ some k_ ≠ ((.slice z9 zt.length xA) : Value).ownBlock ∧ k_ ≠ zB ∧ k_ ≠ zC ∧ k_ ≠ zE ∧ k_ ≠ zF ∧ k_ ≠ zc) (.slice zz zb.length z0) zb) ∧ Aside0 (Kd.N k29 29 w' w.heap.size (fun k_ => some k_ ≠ ((.slice zz zb.length z0) : Value).ownBlock ∧ some k_ ≠ ((.slice z9 zt.length xA) : Value).ownBlock ∧ k_ ≠ zB ∧ k_ ≠ zC ∧ k_ ≠ zE ∧ k_ ≠ zF ∧ k_ ≠ zc) (.slice z5 zi.length z6) zi) ∧ Aside0 (Kd.N k29 29 w' w.heap.size (fun k_ => k_ ≠ zB ∧ k_ ≠ zC ∧ k_ ≠ zE ∧ k_ ≠ zF ∧ k_ ≠ zc) (.slice z9 zt.length xA) zt) ∧ Aside0 (w'.heap[zB]? = some (.cells #[.int .i64 a0_0, .int .i64 a0_1, (.slice A0_2 l0_2.length c0_2)] 24 (0, 0))) ∧ Aside0 (w'.heap[zC]? = some (.cells #[.int .i64 a1_0, .int .i64 a1_1, (.slice A1_2 l1_2.length c1_2)] 24 (0, 0))) ∧ Aside0 (w'.heap[zE]? = some (.cells #[.int .i64 zd, .int .i64 ze, (.slice zz zb.length z0)] 29 (0, 0))) ∧ Aside0 (w'.heap[zF]? = some (.cells #[.int .i64 zm, .int .i64 zo, (.slice z5 zi.length z6)] 29 (0, 0))) ∧ Aside0 (w'.heap[zc]? = some (.cells #[.int .i64 zv, .int .i64 zx, (.slice z9 zt.length xA)] 29 (0, 0))) ∧ Aside0 (Below w.heap.size w w'))
        case atStart => exact ⟨(0), (by first | rfl | (simp; done) | (simp [*]; done)), H', ⟨Nat.le_refl _⟩, ⟨by (with_reducible repeat (first | apply an1 | apply an2 | apply an3)); exact zG.out⟩, ⟨by (with_reducible repeat (first | apply an1 | apply an2 | apply an3)); exact zI.out⟩, ⟨by (with_reducible repeat (first | apply an1 | apply an2 | apply an3)); exact xQ.out⟩, ⟨by (with_reducible repeat (first | apply aq1 | apply aq2 | apply aq3)); exact zA.out⟩, ⟨by (with_reducible repeat (first | apply aq1 | apply aq2 | apply aq3)); exact zD.out⟩, ⟨by (with_reducible repeat (first | apply aq1 | apply aq2 | apply aq3)); exact zH.out⟩, ⟨by (with_reducible repeat (first | apply aq1 | apply aq2 | apply aq3)); exact zJ.out⟩, ⟨by (with_reducible repeat (first | apply aq1 | apply aq2 | apply aq3)); exact zR.out⟩, ⟨by repeat (first | (with_reducible first | exact HB.out | apply ab1 | apply ab2 | apply ab3 | refine ab4 ?_ zL.out | refine ab4 ?_ zM.out | refine ab4 ?_ zS.out | refine ab4 ?_ zT.out | refine ab4 ?_ xC.out) | exact HB.out)⟩⟩
        case round =>
         clear H'
         try clear c1
         try clear c2
         try clear p2
         try clear c3
         try clear c4
         try clear c5
         try clear c6
         try clear p6
         try clear c16
         try clear c20
         try clear c22
         try clear c39
         try clear c39b0
         try clear c40
         try clear c42
         try clear c43
         try clear c44
         try clear c48
         try clear c49
         try clear c50
         try clear c52
         try clear c53
         try clear c57
         try clear c58
         try clear c59
         try clear c60
         try clear hcz45_0
         try clear hcz45_1
         try clear hcz45_2
         try clear hcz51_0
         try clear hcz51_1
         try clear hcz51_2
         try clear hcz54_0
         try clear hcz54_1
         try clear hcz54_2
         try clear hcz61_0
         try clear hcz61_1
         try clear hcz61_2
         try clear hfz45_0
         try clear hfz45_1
         try clear hfz45_2
         try clear hfz51_0
         try clear hfz51_1
         try clear hfz51_2
         try clear hfz54_0
         try clear hfz54_1
         try clear hfz54_2
         try clear hfz61_0
         try clear hfz61_1
         try clear hfz61_2
         try clear p2
         try clear zG
         try clear zI
         try clear zK
         try clear zA
         try clear zD
         try clear zH
         try clear zJ
         try clear zR
         try clear HB
         obtain ⟨zl, rfl, HA, HK3, zG, zI, zK, zA, zD, zH, zJ, zR, HB⟩ := hrel
         cases gk with
         | zero => exact absurd HA.out (by simp [thyrsuslaw4_TermFree.l1])
         | succ k3 =>
          have H := HA.out
          clear HA
          simp only [thyrsuslaw4_TermFree.l1] at H
          by_cases c64 : zl < 8
          ·rw [if_pos c64] at H
           have c64b0 : decide (zl < 8) = true := decide_eq_true c64
           clear c64
           replace H := Option.bind_eq_some_iff.mp H
           obtain ⟨z8, A650, H⟩ := H
           replace H : ((thyrsusref4_Free.f k3 zd ze zb (wrap64 (zl + 1))).bind fun t348 => (if t348 = true then (if (z8 != true) = true then (none) else (thyrsuslaw4_TermFree.l1 k3 z3 xG (wrap64 (zl + 1)) zd ze zb zm zo zi zv zx zt)) else ((thyrsusref4_Free.f k3 zd ze zb 0).bind fun xf => (if xf = true then ((thyrsusref4_Free.f k3 zm zo zi zl).bind fun xN => (if (z8 != xN) = true then (none) else (thyrsuslaw4_TermFree.l1 k3 z3 xG (wrap64 (zl + 1)) zd ze zb zm zo zi zv zx zt))) else (if (z8 != false) = true then (none) else (thyrsuslaw4_TermFree.l1 k3 z3 xG (wrap64 (zl + 1)) zd ze zb zm zo zi zv zx zt)))))) = some r := H
           have A65 := am_ A650
           clear A650
           replace H := Option.bind_eq_some_iff.mp H
           obtain ⟨t348, A660, H⟩ := H
           replace H : (if t348 = true then (if (z8 != true) = true then (none) else (thyrsuslaw4_TermFree.l1 k3 z3 xG (wrap64 (zl + 1)) zd ze zb zm zo zi zv zx zt)) else ((thyrsusref4_Free.f k3 zd ze zb 0).bind fun xf => (if xf = true then ((thyrsusref4_Free.f k3 zm zo zi zl).bind fun xN => (if (z8 != xN) = true then (none) else (thyrsuslaw4_TermFree.l1 k3 z3 xG (wrap64 (zl + 1)) zd ze zb zm zo zi zv zx zt))) else (if (z8 != false) = true then (none) else (thyrsuslaw4_TermFree.l1 k3 z3 xG (wrap64 (zl + 1)) zd ze zb zm zo zi zv zx zt))))) = some r := H
           have A66 := am_ A660
           clear A660
           by_cases c67 : t348 = true
           ·subst c67
            have H1 : (if (z8 != true) = true then (none) else (thyrsuslaw4_TermFree.l1 k3 z3 xG (wrap64 (zl + 1)) zd ze zb zm zo zi zv zx zt)) = some r := by rw [if_pos rfl] at H; exact H
            clear H
            have H := H1
            clear H1
            by_cases c68 : (z8 != true) = true
            ·rw [if_pos c68] at H
             exact absurd H (by simp)
            ·rw [if_neg c68] at H
             have c68b0 : (z8 != true) = false := by simpa using c68
             (try (have c68b1 : decide (z8 = true) = true := by simpa using c68))
             (try (have c68b2 : (z8 == true) = true := by simpa using c68))
             clear c68
             have H' := am_ H
             clear H
             try go_wp2
             have zf := am_ (an3 zG.out)
             have zg := am_ (an3 zI.out)
             have zh := am_ (an3 zK.out)
             have zj := am_ (aq2 zA.out)
             have zk := am_ (aq2 zD.out)
             have zn := am_ (aq2 zH.out)
             have zp := am_ (aq2 zJ.out)
             have zq := am_ (aq2 zR.out)
             have zr := am_ (ab3 HB.out)
             clear zG
             clear zI
             clear zK
             clear zA
             clear zD
             clear zH
             clear zJ
             clear zR
             clear HB
             have zG := zf
             have zI := zg
             have zK := zh
             have zA := zj
             have zD := zk
             have zH := zn
             have zJ := zp
             have zR := zq
             have HB := zr
             clear zf zg zh zj zk zn zp zq zr
             refine start_ (n := 17) (S := fun w' => w'.cell? ⟨zc, 0, none⟩ = some (.int .i64 zv) ∧ w'.cell? ⟨zc, 1, none⟩ = some (.int .i64 zx) ∧ w'.cell? ⟨zc, 2, none⟩ = some (.slice z9 zt.length xA) ∧ w'.cell? ⟨zE, 0, none⟩ = some (.int .i64 zd) ∧ w'.cell? ⟨zE, 1, none⟩ = some (.int .i64 ze) ∧ w'.cell? ⟨zE, 2, none⟩ = some (.slice zz zb.length z0)) (ds := []) #[false, false, false, false, false, false, false, false, false, false, false, false, false, false, false, false, false] (by kernel_rfl) rfl rfl ⟨(aq7 zR.out 0).trans rfl, (aq7 zR.out 1).trans rfl, (aq7 zR.out 2).trans rfl, (aq7 zH.out 0).trans rfl, (aq7 zH.out 1).trans rfl, (aq7 zH.out 2).trans rfl⟩ (fun hHeld => ?_); refine with_tabW thyrsuslaw4_TermFree.tab16 thyrsuslaw4_TermFree.bits16 (fun HT_ HW_ => ?_)
             generalize wr.drew = w69 at zG zI zK zA zD zH zJ zR HB hHeld ⊢
             refine pure_ (i := 1) (N := some 49) (v := ?_) (a' := ?_) #[false, true, false, false, false, false, false, false, false, false, false, false, false, false, false, false, false] rfl rfl (any_of HT_.out (by kernel_rfl)) (fun _ _ _ h => h) (Or.inl ⟨by rfl, ?_⟩) ?_ ?_
             rotate_left
             ·intro w'
              go_simp
              with_reducible rfl
             rotate_left
             ·simp only [Act.put, List.setIfInBounds_toArray, List.set_cons_zero, List.set_cons_succ, i64_w, i32_w, u8_w, u32_w]
              rfl
             refine pure_ (i := 4) (N := some 52) (v := ?_) (a' := ?_) #[false, true, false, false, true, false, false, false, false, false, false, false, false, false, false, false, false] rfl rfl (any_of HT_.out (by kernel_rfl)) (fun _ _ _ h => h) (Or.inl ⟨by rfl, ?_⟩) ?_ ?_
             rotate_left
             ·intro w'
              go_simp
              with_reducible rfl
             rotate_left
             ·simp only [Act.put, List.setIfInBounds_toArray, List.set_cons_zero, List.set_cons_succ, i64_w, i32_w, u8_w, u32_w]
              rfl
             refine pure_ (i := 5) (N := some 53) (v := ?_) (a' := ?_) #[false, true, false, false, true, true, false, false, false, false, false, false, false, false, false, false, false] rfl rfl (any_of HT_.out (by kernel_rfl)) (fun _ _ _ h => h) (Or.inl ⟨by rfl, ?_⟩) ?_ ?_
             rotate_left
             ·intro w'
              go_simp
              with_reducible rfl
             rotate_left
             ·simp only [Act.put, List.setIfInBounds_toArray, List.set_cons_zero, List.set_cons_succ, i64_w, i32_w, u8_w, u32_w]
              rfl
             refine take_ (i := 0) (N := some 48) (v := ?_) (a' := ?_) #[true, true, false, false, true, true, false, false, false, false, false, false, false, false, false, false, false] rfl rfl (take_ofW HT_.out HW_.out (by kernel_rfl)) (fun _ _ _ h => h) (Or.inl ⟨by rfl, ?_⟩) hHeld ?_ ?_
             rotate_left
             ·rintro w' ⟨s0, s1, s2, s3, s4, s5⟩
              go_simp
              with_reducible rfl
             rotate_left
             ·simp only [Act.put, List.setIfInBounds_toArray, List.set_cons_zero, List.set_cons_succ, i64_w, i32_w, u8_w, u32_w]
              rfl
             refine take_ (i := 3) (N := some 51) (v := ?_) (a' := ?_) #[true, true, false, true, true, true, false, false, false, false, false, false, false, false, false, false, false] rfl rfl (take_ofW HT_.out HW_.out (by kernel_rfl)) (fun _ _ _ h => h) (Or.inl ⟨by rfl, ?_⟩) hHeld ?_ ?_
             rotate_left
             ·rintro w' ⟨s0, s1, s2, s3, s4, s5⟩
              go_simp
              with_reducible rfl
             rotate_left
             ·simp only [Act.put, List.setIfInBounds_toArray, List.set_cons_zero, List.set_cons_succ, i64_w, i32_w, u8_w, u32_w]
              rfl
             refine one_ (i := 2) (N := some 50) #[true, true, true, true, true, true, false, false, false, false, false, false, false, false, false, false, false] rfl rfl (one_of HT_.out (by kernel_rfl)) (by decide) (fun K hK => ?_)
             refine goes_ Tryd.func34 (by kernel_rfl) rfl #[.agg #[.int .i64 zv, .int .i64 zx, .slice z9 zt.length xA], .int .i64 zl] (by rfl) rfl rfl (by (try simp only [List.map_toArray, List.map_cons, List.map_nil]); first | done | rfl | (simp only [List.length_drop, List.length_take]; rfl)) ?_
             with_reducible refine (term_Free.calls k3 zv zx _ _ zt zl z8 _ ?side1 ?side2 A65.out).mono ?_
             (case side1 => repeat (first | exact (an9 zK.out).2.2 | (with_reducible refine ac2 ?_ _) | (with_reducible refine ac3 ?_ _) | (with_reducible refine ac4 ?_)))
             (case side2 => exact (an9 zK.out).2.1)
             rintro e w70 ⟨rfl, hb⟩
             refine ⟨_, rfl, ?_⟩
             have zf := am_ (Kd.N_below (by (with_reducible repeat (first | apply an1 | apply an2 | apply an3)); exact zG.out) hb)
             have zg := am_ (Kd.N_below (by (with_reducible repeat (first | apply an1 | apply an2 | apply an3)); exact zI.out) hb)
             have zh := am_ (Kd.N_below (by (with_reducible repeat (first | apply an1 | apply an2 | apply an3)); exact zK.out) hb)
             have zj := am_ (aq4 (g := zB) (o := .cells #[.int .i64 a0_0, .int .i64 a0_1, .slice A0_2 l0_2.length c0_2] 24 (0, 0)) (by (with_reducible repeat (first | apply aq1 | apply aq2 | apply aq3)); exact zA.out) hb)
             have zk := am_ (aq4 (g := zC) (o := .cells #[.int .i64 a1_0, .int .i64 a1_1, .slice A1_2 l1_2.length c1_2] 24 (0, 0)) (by (with_reducible repeat (first | apply aq1 | apply aq2 | apply aq3)); exact zD.out) hb)
             have zn := am_ (aq4 (g := zE) (o := .cells #[.int .i64 zd, .int .i64 ze, .slice zz zb.length z0] 29 (0, 0)) (by (with_reducible repeat (first | apply aq1 | apply aq2 | apply aq3)); exact zH.out) hb)
             have zp := am_ (aq4 (g := zF) (o := .cells #[.int .i64 zm, .int .i64 zo, .slice z5 zi.length z6] 29 (0, 0)) (by (with_reducible repeat (first | apply aq1 | apply aq2 | apply aq3)); exact zJ.out) hb)
             have zq := am_ (aq4 (g := zc) (o := .cells #[.int .i64 zv, .int .i64 zx, .slice z9 zt.length xA] 29 (0, 0)) (by (with_reducible repeat (first | apply aq1 | apply aq2 | apply aq3)); exact zR.out) hb)
             have zr := am_ (ab5 (by repeat (first | (with_reducible first | exact HB.out | apply ab1 | apply ab2 | apply ab3 | refine ab4 ?_ zL.out | refine ab4 ?_ zM.out | refine ab4 ?_ zS.out | refine ab4 ?_ zT.out | refine ab4 ?_ xC.out) | exact HB.out)) hb)
             clear zG
             clear zI
             clear zK
             clear zA
             clear zD
             clear zH
             clear zJ
             clear zR
             clear HB
             have zG := zf
             have zI := zg
             have zK := zh
             have zA := zj
             have zD := zk
             have zH := zn
             have zJ := zp
             have zR := zq
             have HB := zr
             clear zf zg zh zj zk zn zp zq zr
             (try clear hb)
             (try clear hb2)
             (try clear hk)
             (try clear hi)
             refine hK.out _ _ ⟨(aq7 zR.out 0).trans rfl, (aq7 zR.out 1).trans rfl, (aq7 zR.out 2).trans rfl, (aq7 zH.out 0).trans rfl, (aq7 zH.out 1).trans rfl, (aq7 zH.out 2).trans rfl⟩ (fun hHeld => ?_)
             clear hK K
             refine norm_ (a' := ?_) ?_ ?_
             rotate_left
             ·show Act.put _ (some 50) _ = _
              simp only [Act.put, List.setIfInBounds_toArray, List.set_cons_zero, List.set_cons_succ, i64_w, i32_w, u8_w, u32_w]
              rfl
             refine one_ (i := 6) (N := some 54) #[true, true, true, true, true, true, true, false, false, false, false, false, false, false, false, false, false] rfl rfl (one_of HT_.out (by kernel_rfl)) (by decide) (fun K hK => ?_)
             refine goes_ Tryd.func35 (by kernel_rfl) rfl #[.agg #[.int .i64 zd, .int .i64 ze, .slice zz zb.length z0], .int .i64 (wrap64 (zl + 1))] (by rfl) rfl rfl (by (try simp only [List.map_toArray, List.map_cons, List.map_nil]); first | done | rfl | (simp only [List.length_drop, List.length_take]; rfl)) ?_
             with_reducible refine (thyrsusref4_Free.calls k3 zd ze _ _ zb (wrap64 (zl + 1)) true _ ?side1 ?side2 A66.out).mono ?_
             (case side1 => repeat (first | exact (an9 zG.out).2.2 | (with_reducible refine ac2 ?_ _) | (with_reducible refine ac3 ?_ _) | (with_reducible refine ac4 ?_)))
             (case side2 => exact (an9 zG.out).2.1)
             rintro e w71 ⟨rfl, hb⟩
             refine ⟨_, rfl, ?_⟩
             have zf := am_ (Kd.N_below (by (with_reducible repeat (first | apply an1 | apply an2 | apply an3)); exact zG.out) hb)
             have zg := am_ (Kd.N_below (by (with_reducible repeat (first | apply an1 | apply an2 | apply an3)); exact zI.out) hb)
             have zh := am_ (Kd.N_below (by (with_reducible repeat (first | apply an1 | apply an2 | apply an3)); exact zK.out) hb)
             have zj := am_ (aq4 (g := zB) (o := .cells #[.int .i64 a0_0, .int .i64 a0_1, .slice A0_2 l0_2.length c0_2] 24 (0, 0)) (by (with_reducible repeat (first | apply aq1 | apply aq2 | apply aq3)); exact zA.out) hb)
             have zk := am_ (aq4 (g := zC) (o := .cells #[.int .i64 a1_0, .int .i64 a1_1, .slice A1_2 l1_2.length c1_2] 24 (0, 0)) (by (with_reducible repeat (first | apply aq1 | apply aq2 | apply aq3)); exact zD.out) hb)
             have zn := am_ (aq4 (g := zE) (o := .cells #[.int .i64 zd, .int .i64 ze, .slice zz zb.length z0] 29 (0, 0)) (by (with_reducible repeat (first | apply aq1 | apply aq2 | apply aq3)); exact zH.out) hb)
             have zp := am_ (aq4 (g := zF) (o := .cells #[.int .i64 zm, .int .i64 zo, .slice z5 zi.length z6] 29 (0, 0)) (by (with_reducible repeat (first | apply aq1 | apply aq2 | apply aq3)); exact zJ.out) hb)
             have zq := am_ (aq4 (g := zc) (o := .cells #[.int .i64 zv, .int .i64 zx, .slice z9 zt.length xA] 29 (0, 0)) (by (with_reducible repeat (first | apply aq1 | apply aq2 | apply aq3)); exact zR.out) hb)
             have zr := am_ (ab5 (by repeat (first | (with_reducible first | exact HB.out | apply ab1 | apply ab2 | apply ab3 | refine ab4 ?_ zL.out | refine ab4 ?_ zM.out | refine ab4 ?_ zS.out | refine ab4 ?_ zT.out | refine ab4 ?_ xC.out) | exact HB.out)) hb)
             clear zG
             clear zI
             clear zK
             clear zA
             clear zD
             clear zH
             clear zJ
             clear zR
             clear HB
             have zG := zf
             have zI := zg
             have zK := zh
             have zA := zj
             have zD := zk
             have zH := zn
             have zJ := zp
             have zR := zq
             have HB := zr
             clear zf zg zh zj zk zn zp zq zr
             (try clear hb)
             (try clear hb2)
             (try clear hk)
             (try clear hi)
             refine hK.out _ _ ⟨(aq7 zR.out 0).trans rfl, (aq7 zR.out 1).trans rfl, (aq7 zR.out 2).trans rfl, (aq7 zH.out 0).trans rfl, (aq7 zH.out 1).trans rfl, (aq7 zH.out 2).trans rfl⟩ (fun hHeld => ?_)
             clear hK K
             refine norm_ (a' := ?_) ?_ ?_
             rotate_left
             ·show Act.put _ (some 54) _ = _
              simp only [Act.put, List.setIfInBounds_toArray, List.set_cons_zero, List.set_cons_succ, i64_w, i32_w, u8_w, u32_w]
              rfl
             refine pure_ (i := 7) (N := some 55) (v := ?_) (a' := ?_) #[true, true, true, true, true, true, true, true, false, false, false, false, false, false, false, false, false] rfl rfl (any_of HT_.out (by kernel_rfl)) (fun _ _ _ h => h) (Or.inl ⟨by rfl, ?_⟩) ?_ ?_
             rotate_left
             ·intro w'
              go_simp
              with_reducible rfl
             rotate_left
             ·simp only [Act.put, List.setIfInBounds_toArray, List.set_cons_zero, List.set_cons_succ, i64_w, i32_w, u8_w, u32_w]
              rfl
             refine pure_ (i := 8) (N := some 56) (v := undef) (a' := ?_) #[true, true, true, true, true, true, true, true, true, false, false, false, false, false, false, false, false] rfl rfl (any_of HT_.out (by kernel_rfl)) (fun _ _ _ h => h) (Or.inr ⟨by rfl, rfl⟩) ?_ ?_
             rotate_left
             ·simp only [Act.put, List.setIfInBounds_toArray, List.set_cons_zero, List.set_cons_succ, i64_w, i32_w, u8_w, u32_w]
              rfl
             refine pure_ (i := 9) (N := some 57) (v := undef) (a' := ?_) #[true, true, true, true, true, true, true, true, true, true, false, false, false, false, false, false, false] rfl rfl (any_of HT_.out (by kernel_rfl)) (fun _ _ _ h => h) (Or.inr ⟨by rfl, rfl⟩) ?_ ?_
             rotate_left
             ·simp only [Act.put, List.setIfInBounds_toArray, List.set_cons_zero, List.set_cons_succ, i64_w, i32_w, u8_w, u32_w]
              rfl
             refine pure_ (i := 10) (N := some 58) (v := undef) (a' := ?_) #[true, true, true, true, true, true, true, true, true, true, true, false, false, false, false, false, false] rfl rfl (any_of HT_.out (by kernel_rfl)) (fun _ _ _ h => h) (Or.inr ⟨by rfl, rfl⟩) ?_ ?_
             rotate_left
             ·simp only [Act.put, List.setIfInBounds_toArray, List.set_cons_zero, List.set_cons_succ, i64_w, i32_w, u8_w, u32_w]
              rfl
             refine pure_ (i := 11) (N := some 59) (v := undef) (a' := ?_) #[true, true, true, true, true, true, true, true, true, true, true, true, false, false, false, false, false] rfl rfl (any_of HT_.out (by kernel_rfl)) (fun _ _ _ h => h) (Or.inr ⟨by rfl, rfl⟩) ?_ ?_
             rotate_left
             ·simp only [Act.put, List.setIfInBounds_toArray, List.set_cons_zero, List.set_cons_succ, i64_w, i32_w, u8_w, u32_w]
              rfl
             refine pure_ (i := 12) (N := some 60) (v := undef) (a' := ?_) #[true, true, true, true, true, true, true, true, true, true, true, true, true, false, false, false, false] rfl rfl (any_of HT_.out (by kernel_rfl)) (fun _ _ _ h => h) (Or.inr ⟨by rfl, rfl⟩) ?_ ?_
             rotate_left
             ·simp only [Act.put, List.setIfInBounds_toArray, List.set_cons_zero, List.set_cons_succ, i64_w, i32_w, u8_w, u32_w]
              rfl
             refine pure_ (i := 13) (N := some 61) (v := undef) (a' := ?_) #[true, true, true, true, true, true, true, true, true, true, true, true, true, true, false, false, false] rfl rfl (any_of HT_.out (by kernel_rfl)) (fun _ _ _ h => h) (Or.inr ⟨by rfl, rfl⟩) ?_ ?_
             rotate_left
             ·simp only [Act.put, List.setIfInBounds_toArray, List.set_cons_zero, List.set_cons_succ, i64_w, i32_w, u8_w, u32_w]
              rfl
             refine pure_ (i := 14) (N := some 62) (v := undef) (a' := ?_) #[true, true, true, true, true, true, true, true, true, true, true, true, true, true, true, false, false] rfl rfl (any_of HT_.out (by kernel_rfl)) (fun _ _ _ h => h) (Or.inr ⟨by rfl, rfl⟩) ?_ ?_
             rotate_left
             ·simp only [Act.put, List.setIfInBounds_toArray, List.set_cons_zero, List.set_cons_succ, i64_w, i32_w, u8_w, u32_w]
              rfl
             refine pure_ (i := 15) (N := some 63) (v := ?_) (a' := ?_) #[true, true, true, true, true, true, true, true, true, true, true, true, true, true, true, true, false] rfl rfl (any_of HT_.out (by kernel_rfl)) (fun _ _ _ h => h) (Or.inl ⟨by rfl, ?_⟩) ?_ ?_
             rotate_left
             ·intro w'
              go_simp
              with_reducible rfl
             rotate_left
             ·simp only [Act.put, List.setIfInBounds_toArray, List.set_cons_zero, List.set_cons_succ, i64_w, i32_w, u8_w, u32_w]
              rfl
             refine pure_ (i := 16) (N := some 64) (v := ?_) (a' := ?_) #[true, true, true, true, true, true, true, true, true, true, true, true, true, true, true, true, true] rfl rfl (any_of HT_.out (by kernel_rfl)) (fun _ _ _ h => h) (Or.inl ⟨by rfl, ?_⟩) ?_ ?_
             rotate_left
             ·intro w'
              go_simp
              with_reducible rfl
             rotate_left
             ·simp only [Act.put, List.setIfInBounds_toArray, List.set_cons_zero, List.set_cons_succ, i64_w, i32_w, u8_w, u32_w]
              rfl
             refine done_ (done_of HT_.out (by kernel_rfl)) ?_
             try go_wp2
             go_roundg k3
             case measure => have := HJ5.out; have := HK2.out; have := HK3.out; omega
             case rel => exact ⟨(wrap64 (zl + 1)), (by first | rfl | (simp; done) | (simp [*]; done)), H', ⟨by have := HJ5.out; have := HK2.out; have := HK3.out; omega⟩, ⟨by (with_reducible repeat (first | apply an1 | apply an2 | apply an3)); exact zG.out⟩, ⟨by (with_reducible repeat (first | apply an1 | apply an2 | apply an3)); exact zI.out⟩, ⟨by (with_reducible repeat (first | apply an1 | apply an2 | apply an3)); exact zK.out⟩, ⟨by (with_reducible repeat (first | apply aq1 | apply aq2 | apply aq3)); exact zA.out⟩, ⟨by (with_reducible repeat (first | apply aq1 | apply aq2 | apply aq3)); exact zD.out⟩, ⟨by (with_reducible repeat (first | apply aq1 | apply aq2 | apply aq3)); exact zH.out⟩, ⟨by (with_reducible repeat (first | apply aq1 | apply aq2 | apply aq3)); exact zJ.out⟩, ⟨by (with_reducible repeat (first | apply aq1 | apply aq2 | apply aq3)); exact zR.out⟩, ⟨by repeat (first | (with_reducible first | exact HB.out | apply ab1 | apply ab2 | apply ab3 | refine ab4 ?_ zL.out | refine ab4 ?_ zM.out | refine ab4 ?_ zS.out | refine ab4 ?_ zT.out | refine ab4 ?_ xC.out) | exact HB.out)⟩⟩
           ·replace c67 := Bool.eq_false_iff.mpr c67
            subst c67
            have H1 : ((thyrsusref4_Free.f k3 zd ze zb 0).bind fun xf => (if xf = true then ((thyrsusref4_Free.f k3 zm zo zi zl).bind fun xN => (if (z8 != xN) = true then (none) else (thyrsuslaw4_TermFree.l1 k3 z3 xG (wrap64 (zl + 1)) zd ze zb zm zo zi zv zx zt))) else (if (z8 != false) = true then (none) else (thyrsuslaw4_TermFree.l1 k3 z3 xG (wrap64 (zl + 1)) zd ze zb zm zo zi zv zx zt)))) = some r := by rw [if_neg (show ¬ (false = true) by decide)] at H; exact H
            clear H
            have H := H1
            clear H1
            replace H := Option.bind_eq_some_iff.mp H
            obtain ⟨xf, A720, H⟩ := H
            replace H : (if xf = true then ((thyrsusref4_Free.f k3 zm zo zi zl).bind fun xN => (if (z8 != xN) = true then (none) else (thyrsuslaw4_TermFree.l1 k3 z3 xG (wrap64 (zl + 1)) zd ze zb zm zo zi zv zx zt))) else (if (z8 != false) = true then (none) else (thyrsuslaw4_TermFree.l1 k3 z3 xG (wrap64 (zl + 1)) zd ze zb zm zo zi zv zx zt))) = some r := H
            have A72 := am_ A720
            clear A720
            by_cases c73 : xf = true
            ·subst c73
             have H1 : ((thyrsusref4_Free.f k3 zm zo zi zl).bind fun xN => (if (z8 != xN) = true then (none) else (thyrsuslaw4_TermFree.l1 k3 z3 xG (wrap64 (zl + 1)) zd ze zb zm zo zi zv zx zt))) = some r := by rw [if_pos rfl] at H; exact H
             clear H
             have H := H1
             clear H1
             replace H := Option.bind_eq_some_iff.mp H
             obtain ⟨xN, A740, H⟩ := H
             replace H : (if (z8 != xN) = true then (none) else (thyrsuslaw4_TermFree.l1 k3 z3 xG (wrap64 (zl + 1)) zd ze zb zm zo zi zv zx zt)) = some r := H
             have A74 := am_ A740
             clear A740
             by_cases c75 : (z8 != xN) = true
             ·rw [if_pos c75] at H
              exact absurd H (by simp)
             ·rw [if_neg c75] at H
              have c75b0 : (z8 != xN) = false := by simpa using c75
              (try (have c75b1 : decide (z8 = xN) = true := by simpa using c75))
              (try (have c75b2 : (z8 == xN) = true := by simpa using c75))
              clear c75
              have H' := am_ H
              clear H
              try go_wp2
              have zf := am_ (an3 zG.out)
              have zg := am_ (an3 zI.out)
              have zh := am_ (an3 zK.out)
              have zj := am_ (aq2 zA.out)
              have zk := am_ (aq2 zD.out)
              have zn := am_ (aq2 zH.out)
              have zp := am_ (aq2 zJ.out)
              have zq := am_ (aq2 zR.out)
              have zr := am_ (ab3 HB.out)
              clear zG
              clear zI
              clear zK
              clear zA
              clear zD
              clear zH
              clear zJ
              clear zR
              clear HB
              have zG := zf
              have zI := zg
              have zK := zh
              have zA := zj
              have zD := zk
              have zH := zn
              have zJ := zp
              have zR := zq
              have HB := zr
              clear zf zg zh zj zk zn zp zq zr
              refine start_ (n := 17) (S := fun w' => w'.cell? ⟨zc, 0, none⟩ = some (.int .i64 zv) ∧ w'.cell? ⟨zc, 1, none⟩ = some (.int .i64 zx) ∧ w'.cell? ⟨zc, 2, none⟩ = some (.slice z9 zt.length xA) ∧ w'.cell? ⟨zE, 0, none⟩ = some (.int .i64 zd) ∧ w'.cell? ⟨zE, 1, none⟩ = some (.int .i64 ze) ∧ w'.cell? ⟨zE, 2, none⟩ = some (.slice zz zb.length z0) ∧ w'.cell? ⟨zF, 0, none⟩ = some (.int .i64 zm) ∧ w'.cell? ⟨zF, 1, none⟩ = some (.int .i64 zo) ∧ w'.cell? ⟨zF, 2, none⟩ = some (.slice z5 zi.length z6)) (ds := []) #[false, false, false, false, false, false, false, false, false, false, false, false, false, false, false, false, false] (by kernel_rfl) rfl rfl ⟨(aq7 zR.out 0).trans rfl, (aq7 zR.out 1).trans rfl, (aq7 zR.out 2).trans rfl, (aq7 zH.out 0).trans rfl, (aq7 zH.out 1).trans rfl, (aq7 zH.out 2).trans rfl, (aq7 zJ.out 0).trans rfl, (aq7 zJ.out 1).trans rfl, (aq7 zJ.out 2).trans rfl⟩ (fun hHeld => ?_); refine with_tabW thyrsuslaw4_TermFree.tab16 thyrsuslaw4_TermFree.bits16 (fun HT_ HW_ => ?_)
              generalize wr.drew = w76 at zG zI zK zA zD zH zJ zR HB hHeld ⊢
              refine pure_ (i := 1) (N := some 49) (v := ?_) (a' := ?_) #[false, true, false, false, false, false, false, false, false, false, false, false, false, false, false, false, false] rfl rfl (any_of HT_.out (by kernel_rfl)) (fun _ _ _ h => h) (Or.inl ⟨by rfl, ?_⟩) ?_ ?_
              rotate_left
              ·intro w'
               go_simp
               with_reducible rfl
              rotate_left
              ·simp only [Act.put, List.setIfInBounds_toArray, List.set_cons_zero, List.set_cons_succ, i64_w, i32_w, u8_w, u32_w]
               rfl
              refine pure_ (i := 4) (N := some 52) (v := ?_) (a' := ?_) #[false, true, false, false, true, false, false, false, false, false, false, false, false, false, false, false, false] rfl rfl (any_of HT_.out (by kernel_rfl)) (fun _ _ _ h => h) (Or.inl ⟨by rfl, ?_⟩) ?_ ?_
              rotate_left
              ·intro w'
               go_simp
               with_reducible rfl
              rotate_left
              ·simp only [Act.put, List.setIfInBounds_toArray, List.set_cons_zero, List.set_cons_succ, i64_w, i32_w, u8_w, u32_w]
               rfl
              refine pure_ (i := 5) (N := some 53) (v := ?_) (a' := ?_) #[false, true, false, false, true, true, false, false, false, false, false, false, false, false, false, false, false] rfl rfl (any_of HT_.out (by kernel_rfl)) (fun _ _ _ h => h) (Or.inl ⟨by rfl, ?_⟩) ?_ ?_
              rotate_left
              ·intro w'
               go_simp
               with_reducible rfl
              rotate_left
              ·simp only [Act.put, List.setIfInBounds_toArray, List.set_cons_zero, List.set_cons_succ, i64_w, i32_w, u8_w, u32_w]
               rfl
              refine take_ (i := 0) (N := some 48) (v := ?_) (a' := ?_) #[true, true, false, false, true, true, false, false, false, false, false, false, false, false, false, false, false] rfl rfl (take_ofW HT_.out HW_.out (by kernel_rfl)) (fun _ _ _ h => h) (Or.inl ⟨by rfl, ?_⟩) hHeld ?_ ?_
              rotate_left
              ·rintro w' ⟨s0, s1, s2, s3, s4, s5, s6, s7, s8⟩
               go_simp
               with_reducible rfl
              rotate_left
              ·simp only [Act.put, List.setIfInBounds_toArray, List.set_cons_zero, List.set_cons_succ, i64_w, i32_w, u8_w, u32_w]
               rfl
              refine take_ (i := 3) (N := some 51) (v := ?_) (a' := ?_) #[true, true, false, true, true, true, false, false, false, false, false, false, false, false, false, false, false] rfl rfl (take_ofW HT_.out HW_.out (by kernel_rfl)) (fun _ _ _ h => h) (Or.inl ⟨by rfl, ?_⟩) hHeld ?_ ?_
              rotate_left
              ·rintro w' ⟨s0, s1, s2, s3, s4, s5, s6, s7, s8⟩
               go_simp
               with_reducible rfl
              rotate_left
              ·simp only [Act.put, List.setIfInBounds_toArray, List.set_cons_zero, List.set_cons_succ, i64_w, i32_w, u8_w, u32_w]
               rfl
              refine one_ (i := 2) (N := some 50) #[true, true, true, true, true, true, false, false, false, false, false, false, false, false, false, false, false] rfl rfl (one_of HT_.out (by kernel_rfl)) (by decide) (fun K hK => ?_)
              refine goes_ Tryd.func34 (by kernel_rfl) rfl #[.agg #[.int .i64 zv, .int .i64 zx, .slice z9 zt.length xA], .int .i64 zl] (by rfl) rfl rfl (by (try simp only [List.map_toArray, List.map_cons, List.map_nil]); first | done | rfl | (simp only [List.length_drop, List.length_take]; rfl)) ?_
              with_reducible refine (term_Free.calls k3 zv zx _ _ zt zl z8 _ ?side1 ?side2 A65.out).mono ?_
              (case side1 => repeat (first | exact (an9 zK.out).2.2 | (with_reducible refine ac2 ?_ _) | (with_reducible refine ac3 ?_ _) | (with_reducible refine ac4 ?_)))
              (case side2 => exact (an9 zK.out).2.1)
              rintro e w77 ⟨rfl, hb⟩
              refine ⟨_, rfl, ?_⟩
              have zf := am_ (Kd.N_below (by (with_reducible repeat (first | apply an1 | apply an2 | apply an3)); exact zG.out) hb)
              have zg := am_ (Kd.N_below (by (with_reducible repeat (first | apply an1 | apply an2 | apply an3)); exact zI.out) hb)
              have zh := am_ (Kd.N_below (by (with_reducible repeat (first | apply an1 | apply an2 | apply an3)); exact zK.out) hb)
              have zj := am_ (aq4 (g := zB) (o := .cells #[.int .i64 a0_0, .int .i64 a0_1, .slice A0_2 l0_2.length c0_2] 24 (0, 0)) (by (with_reducible repeat (first | apply aq1 | apply aq2 | apply aq3)); exact zA.out) hb)
              have zk := am_ (aq4 (g := zC) (o := .cells #[.int .i64 a1_0, .int .i64 a1_1, .slice A1_2 l1_2.length c1_2] 24 (0, 0)) (by (with_reducible repeat (first | apply aq1 | apply aq2 | apply aq3)); exact zD.out) hb)
              have zn := am_ (aq4 (g := zE) (o := .cells #[.int .i64 zd, .int .i64 ze, .slice zz zb.length z0] 29 (0, 0)) (by (with_reducible repeat (first | apply aq1 | apply aq2 | apply aq3)); exact zH.out) hb)
              have zp := am_ (aq4 (g := zF) (o := .cells #[.int .i64 zm, .int .i64 zo, .slice z5 zi.length z6] 29 (0, 0)) (by (with_reducible repeat (first | apply aq1 | apply aq2 | apply aq3)); exact zJ.out) hb)
              have zq := am_ (aq4 (g := zc) (o := .cells #[.int .i64 zv, .int .i64 zx, .slice z9 zt.length xA] 29 (0, 0)) (by (with_reducible repeat (first | apply aq1 | apply aq2 | apply aq3)); exact zR.out) hb)
              have zr := am_ (ab5 (by repeat (first | (with_reducible first | exact HB.out | apply ab1 | apply ab2 | apply ab3 | refine ab4 ?_ zL.out | refine ab4 ?_ zM.out | refine ab4 ?_ zS.out | refine ab4 ?_ zT.out | refine ab4 ?_ xC.out) | exact HB.out)) hb)
              clear zG
              clear zI
              clear zK
              clear zA
              clear zD
              clear zH
              clear zJ
              clear zR
              clear HB
              have zG := zf
              have zI := zg
              have zK := zh
              have zA := zj
              have zD := zk
              have zH := zn
              have zJ := zp
              have zR := zq
              have HB := zr
              clear zf zg zh zj zk zn zp zq zr
              (try clear hb)
              (try clear hb2)
              (try clear hk)
              (try clear hi)
              refine hK.out _ _ ⟨(aq7 zR.out 0).trans rfl, (aq7 zR.out 1).trans rfl, (aq7 zR.out 2).trans rfl, (aq7 zH.out 0).trans rfl, (aq7 zH.out 1).trans rfl, (aq7 zH.out 2).trans rfl, (aq7 zJ.out 0).trans rfl, (aq7 zJ.out 1).trans rfl, (aq7 zJ.out 2).trans rfl⟩ (fun hHeld => ?_)
              clear hK K
              refine norm_ (a' := ?_) ?_ ?_
              rotate_left
              ·show Act.put _ (some 50) _ = _
               simp only [Act.put, List.setIfInBounds_toArray, List.set_cons_zero, List.set_cons_succ, i64_w, i32_w, u8_w, u32_w]
               rfl
              refine one_ (i := 6) (N := some 54) #[true, true, true, true, true, true, true, false, false, false, false, false, false, false, false, false, false] rfl rfl (one_of HT_.out (by kernel_rfl)) (by decide) (fun K hK => ?_)
              refine goes_ Tryd.func35 (by kernel_rfl) rfl #[.agg #[.int .i64 zd, .int .i64 ze, .slice zz zb.length z0], .int .i64 (wrap64 (zl + 1))] (by rfl) rfl rfl (by (try simp only [List.map_toArray, List.map_cons, List.map_nil]); first | done | rfl | (simp only [List.length_drop, List.length_take]; rfl)) ?_
              with_reducible refine (thyrsusref4_Free.calls k3 zd ze _ _ zb (wrap64 (zl + 1)) false _ ?side1 ?side2 A66.out).mono ?_
              (case side1 => repeat (first | exact (an9 zG.out).2.2 | (with_reducible refine ac2 ?_ _) | (with_reducible refine ac3 ?_ _) | (with_reducible refine ac4 ?_)))
              (case side2 => exact (an9 zG.out).2.1)
              rintro e w78 ⟨rfl, hb⟩
              refine ⟨_, rfl, ?_⟩
              have zf := am_ (Kd.N_below (by (with_reducible repeat (first | apply an1 | apply an2 | apply an3)); exact zG.out) hb)
              have zg := am_ (Kd.N_below (by (with_reducible repeat (first | apply an1 | apply an2 | apply an3)); exact zI.out) hb)
              have zh := am_ (Kd.N_below (by (with_reducible repeat (first | apply an1 | apply an2 | apply an3)); exact zK.out) hb)
              have zj := am_ (aq4 (g := zB) (o := .cells #[.int .i64 a0_0, .int .i64 a0_1, .slice A0_2 l0_2.length c0_2] 24 (0, 0)) (by (with_reducible repeat (first | apply aq1 | apply aq2 | apply aq3)); exact zA.out) hb)
              have zk := am_ (aq4 (g := zC) (o := .cells #[.int .i64 a1_0, .int .i64 a1_1, .slice A1_2 l1_2.length c1_2] 24 (0, 0)) (by (with_reducible repeat (first | apply aq1 | apply aq2 | apply aq3)); exact zD.out) hb)
              have zn := am_ (aq4 (g := zE) (o := .cells #[.int .i64 zd, .int .i64 ze, .slice zz zb.length z0] 29 (0, 0)) (by (with_reducible repeat (first | apply aq1 | apply aq2 | apply aq3)); exact zH.out) hb)
              have zp := am_ (aq4 (g := zF) (o := .cells #[.int .i64 zm, .int .i64 zo, .slice z5 zi.length z6] 29 (0, 0)) (by (with_reducible repeat (first | apply aq1 | apply aq2 | apply aq3)); exact zJ.out) hb)
              have zq := am_ (aq4 (g := zc) (o := .cells #[.int .i64 zv, .int .i64 zx, .slice z9 zt.length xA] 29 (0, 0)) (by (with_reducible repeat (first | apply aq1 | apply aq2 | apply aq3)); exact zR.out) hb)
              have zr := am_ (ab5 (by repeat (first | (with_reducible first | exact HB.out | apply ab1 | apply ab2 | apply ab3 | refine ab4 ?_ zL.out | refine ab4 ?_ zM.out | refine ab4 ?_ zS.out | refine ab4 ?_ zT.out | refine ab4 ?_ xC.out) | exact HB.out)) hb)
              clear zG
              clear zI
              clear zK
              clear zA
              clear zD
              clear zH
              clear zJ
              clear zR
              clear HB
              have zG := zf
              have zI := zg
              have zK := zh
              have zA := zj
              have zD := zk
              have zH := zn
              have zJ := zp
              have zR := zq
              have HB := zr
              clear zf zg zh zj zk zn zp zq zr
              (try clear hb)
              (try clear hb2)
              (try clear hk)
              (try clear hi)
              refine hK.out _ _ ⟨(aq7 zR.out 0).trans rfl, (aq7 zR.out 1).trans rfl, (aq7 zR.out 2).trans rfl, (aq7 zH.out 0).trans rfl, (aq7 zH.out 1).trans rfl, (aq7 zH.out 2).trans rfl, (aq7 zJ.out 0).trans rfl, (aq7 zJ.out 1).trans rfl, (aq7 zJ.out 2).trans rfl⟩ (fun hHeld => ?_)
              clear hK K
              refine norm_ (a' := ?_) ?_ ?_
              rotate_left
              ·show Act.put _ (some 54) _ = _
               simp only [Act.put, List.setIfInBounds_toArray, List.set_cons_zero, List.set_cons_succ, i64_w, i32_w, u8_w, u32_w]
               rfl
              refine pure_ (i := 7) (N := some 55) (v := ?_) (a' := ?_) #[true, true, true, true, true, true, true, true, false, false, false, false, false, false, false, false, false] rfl rfl (any_of HT_.out (by kernel_rfl)) (fun _ _ _ h => h) (Or.inl ⟨by rfl, ?_⟩) ?_ ?_
              rotate_left
              ·intro w'
               go_simp
               with_reducible rfl
              rotate_left
              ·simp only [Act.put, List.setIfInBounds_toArray, List.set_cons_zero, List.set_cons_succ, i64_w, i32_w, u8_w, u32_w]
               rfl
              refine take_ (i := 8) (N := some 56) (v := ?_) (a' := ?_) #[true, true, true, true, true, true, true, true, true, false, false, false, false, false, false, false, false] rfl rfl (take_ofW HT_.out HW_.out (by kernel_rfl)) (fun _ _ _ h => h) (Or.inl ⟨by rfl, ?_⟩) hHeld ?_ ?_
              rotate_left
              ·rintro w' ⟨s0, s1, s2, s3, s4, s5, s6, s7, s8⟩
               go_simp
               with_reducible rfl
              rotate_left
              ·simp only [Act.put, List.setIfInBounds_toArray, List.set_cons_zero, List.set_cons_succ, i64_w, i32_w, u8_w, u32_w]
               rfl
              refine one_ (i := 9) (N := some 57) #[true, true, true, true, true, true, true, true, true, true, false, false, false, false, false, false, false] rfl rfl (one_of HT_.out (by kernel_rfl)) (by decide) (fun K hK => ?_)
              refine goes_ Tryd.func35 (by kernel_rfl) rfl #[.agg #[.int .i64 zd, .int .i64 ze, .slice zz zb.length z0], .int .i64 0] (by rfl) rfl rfl (by (try simp only [List.map_toArray, List.map_cons, List.map_nil]); first | done | rfl | (simp only [List.length_drop, List.length_take]; rfl)) ?_
              with_reducible refine (thyrsusref4_Free.calls k3 zd ze _ _ zb 0 true _ ?side1 ?side2 A72.out).mono ?_
              (case side1 => repeat (first | exact (an9 zG.out).2.2 | (with_reducible refine ac2 ?_ _) | (with_reducible refine ac3 ?_ _) | (with_reducible refine ac4 ?_)))
              (case side2 => exact (an9 zG.out).2.1)
              rintro e w79 ⟨rfl, hb⟩
              refine ⟨_, rfl, ?_⟩
              have zf := am_ (Kd.N_below (by (with_reducible repeat (first | apply an1 | apply an2 | apply an3)); exact zG.out) hb)
              have zg := am_ (Kd.N_below (by (with_reducible repeat (first | apply an1 | apply an2 | apply an3)); exact zI.out) hb)
              have zh := am_ (Kd.N_below (by (with_reducible repeat (first | apply an1 | apply an2 | apply an3)); exact zK.out) hb)
              have zj := am_ (aq4 (g := zB) (o := .cells #[.int .i64 a0_0, .int .i64 a0_1, .slice A0_2 l0_2.length c0_2] 24 (0, 0)) (by (with_reducible repeat (first | apply aq1 | apply aq2 | apply aq3)); exact zA.out) hb)
              have zk := am_ (aq4 (g := zC) (o := .cells #[.int .i64 a1_0, .int .i64 a1_1, .slice A1_2 l1_2.length c1_2] 24 (0, 0)) (by (with_reducible repeat (first | apply aq1 | apply aq2 | apply aq3)); exact zD.out) hb)
              have zn := am_ (aq4 (g := zE) (o := .cells #[.int .i64 zd, .int .i64 ze, .slice zz zb.length z0] 29 (0, 0)) (by (with_reducible repeat (first | apply aq1 | apply aq2 | apply aq3)); exact zH.out) hb)
              have zp := am_ (aq4 (g := zF) (o := .cells #[.int .i64 zm, .int .i64 zo, .slice z5 zi.length z6] 29 (0, 0)) (by (with_reducible repeat (first | apply aq1 | apply aq2 | apply aq3)); exact zJ.out) hb)
              have zq := am_ (aq4 (g := zc) (o := .cells #[.int .i64 zv, .int .i64 zx, .slice z9 zt.length xA] 29 (0, 0)) (by (with_reducible repeat (first | apply aq1 | apply aq2 | apply aq3)); exact zR.out) hb)
              have zr := am_ (ab5 (by repeat (first | (with_reducible first | exact HB.out | apply ab1 | apply ab2 | apply ab3 | refine ab4 ?_ zL.out | refine ab4 ?_ zM.out | refine ab4 ?_ zS.out | refine ab4 ?_ zT.out | refine ab4 ?_ xC.out) | exact HB.out)) hb)
              clear zG
              clear zI
              clear zK
              clear zA
              clear zD
              clear zH
              clear zJ
              clear zR
              clear HB
              have zG := zf
              have zI := zg
              have zK := zh
              have zA := zj
              have zD := zk
              have zH := zn
              have zJ := zp
              have zR := zq
              have HB := zr
              clear zf zg zh zj zk zn zp zq zr
              (try clear hb)
              (try clear hb2)
              (try clear hk)
              (try clear hi)
              refine hK.out _ _ ⟨(aq7 zR.out 0).trans rfl, (aq7 zR.out 1).trans rfl, (aq7 zR.out 2).trans rfl, (aq7 zH.out 0).trans rfl, (aq7 zH.out 1).trans rfl, (aq7 zH.out 2).trans rfl, (aq7 zJ.out 0).trans rfl, (aq7 zJ.out 1).trans rfl, (aq7 zJ.out 2).trans rfl⟩ (fun hHeld => ?_)
              clear hK K
              refine norm_ (a' := ?_) ?_ ?_
              rotate_left
              ·show Act.put _ (some 57) _ = _
               simp only [Act.put, List.setIfInBounds_toArray, List.set_cons_zero, List.set_cons_succ, i64_w, i32_w, u8_w, u32_w]
               rfl
              refine pure_ (i := 10) (N := some 58) (v := ?_) (a' := ?_) #[true, true, true, true, true, true, true, true, true, true, true, false, false, false, false, false, false] rfl rfl (any_of HT_.out (by kernel_rfl)) (fun _ _ _ h => h) (Or.inl ⟨by rfl, ?_⟩) ?_ ?_
              rotate_left
              ·intro w'
               go_simp
               with_reducible rfl
              rotate_left
              ·simp only [Act.put, List.setIfInBounds_toArray, List.set_cons_zero, List.set_cons_succ, i64_w, i32_w, u8_w, u32_w]
               rfl
              refine pure_ (i := 12) (N := some 60) (v := ?_) (a' := ?_) #[true, true, true, true, true, true, true, true, true, true, true, false, true, false, false, false, false] rfl rfl (any_of HT_.out (by kernel_rfl)) (fun _ _ _ h => h) (Or.inl ⟨by rfl, ?_⟩) ?_ ?_
              rotate_left
              ·intro w'
               go_simp
               with_reducible rfl
              rotate_left
              ·simp only [Act.put, List.setIfInBounds_toArray, List.set_cons_zero, List.set_cons_succ, i64_w, i32_w, u8_w, u32_w]
               rfl
              refine take_ (i := 11) (N := some 59) (v := ?_) (a' := ?_) #[true, true, true, true, true, true, true, true, true, true, true, true, true, false, false, false, false] rfl rfl (take_ofW HT_.out HW_.out (by kernel_rfl)) (fun _ _ _ h => h) (Or.inl ⟨by rfl, ?_⟩) hHeld ?_ ?_
              rotate_left
              ·rintro w' ⟨s0, s1, s2, s3, s4, s5, s6, s7, s8⟩
               go_simp
               with_reducible rfl
              rotate_left
              ·simp only [Act.put, List.setIfInBounds_toArray, List.set_cons_zero, List.set_cons_succ, i64_w, i32_w, u8_w, u32_w]
               rfl
              refine one_ (i := 13) (N := some 61) #[true, true, true, true, true, true, true, true, true, true, true, true, true, true, false, false, false] rfl rfl (one_of HT_.out (by kernel_rfl)) (by decide) (fun K hK => ?_)
              refine goes_ Tryd.func35 (by kernel_rfl) rfl #[.agg #[.int .i64 zm, .int .i64 zo, .slice z5 zi.length z6], .int .i64 zl] (by rfl) rfl rfl (by (try simp only [List.map_toArray, List.map_cons, List.map_nil]); first | done | rfl | (simp only [List.length_drop, List.length_take]; rfl)) ?_
              with_reducible refine (thyrsusref4_Free.calls k3 zm zo _ _ zi zl xN _ ?side1 ?side2 A74.out).mono ?_
              (case side1 => repeat (first | exact (an9 zI.out).2.2 | (with_reducible refine ac2 ?_ _) | (with_reducible refine ac3 ?_ _) | (with_reducible refine ac4 ?_)))
              (case side2 => exact (an9 zI.out).2.1)
              rintro e w80 ⟨rfl, hb⟩
              refine ⟨_, rfl, ?_⟩
              have zf := am_ (Kd.N_below (by (with_reducible repeat (first | apply an1 | apply an2 | apply an3)); exact zG.out) hb)
              have zg := am_ (Kd.N_below (by (with_reducible repeat (first | apply an1 | apply an2 | apply an3)); exact zI.out) hb)
              have zh := am_ (Kd.N_below (by (with_reducible repeat (first | apply an1 | apply an2 | apply an3)); exact zK.out) hb)
              have zj := am_ (aq4 (g := zB) (o := .cells #[.int .i64 a0_0, .int .i64 a0_1, .slice A0_2 l0_2.length c0_2] 24 (0, 0)) (by (with_reducible repeat (first | apply aq1 | apply aq2 | apply aq3)); exact zA.out) hb)
              have zk := am_ (aq4 (g := zC) (o := .cells #[.int .i64 a1_0, .int .i64 a1_1, .slice A1_2 l1_2.length c1_2] 24 (0, 0)) (by (with_reducible repeat (first | apply aq1 | apply aq2 | apply aq3)); exact zD.out) hb)
              have zn := am_ (aq4 (g := zE) (o := .cells #[.int .i64 zd, .int .i64 ze, .slice zz zb.length z0] 29 (0, 0)) (by (with_reducible repeat (first | apply aq1 | apply aq2 | apply aq3)); exact zH.out) hb)
              have zp := am_ (aq4 (g := zF) (o := .cells #[.int .i64 zm, .int .i64 zo, .slice z5 zi.length z6] 29 (0, 0)) (by (with_reducible repeat (first | apply aq1 | apply aq2 | apply aq3)); exact zJ.out) hb)
              have zq := am_ (aq4 (g := zc) (o := .cells #[.int .i64 zv, .int .i64 zx, .slice z9 zt.length xA] 29 (0, 0)) (by (with_reducible repeat (first | apply aq1 | apply aq2 | apply aq3)); exact zR.out) hb)
              have zr := am_ (ab5 (by repeat (first | (with_reducible first | exact HB.out | apply ab1 | apply ab2 | apply ab3 | refine ab4 ?_ zL.out | refine ab4 ?_ zM.out | refine ab4 ?_ zS.out | refine ab4 ?_ zT.out | refine ab4 ?_ xC.out) | exact HB.out)) hb)
              clear zG
              clear zI
              clear zK
              clear zA
              clear zD
              clear zH
              clear zJ
              clear zR
              clear HB
              have zG := zf
              have zI := zg
              have zK := zh
              have zA := zj
              have zD := zk
              have zH := zn
              have zJ := zp
              have zR := zq
              have HB := zr
              clear zf zg zh zj zk zn zp zq zr
              (try clear hb)
              (try clear hb2)
              (try clear hk)
              (try clear hi)
              refine hK.out _ _ ⟨(aq7 zR.out 0).trans rfl, (aq7 zR.out 1).trans rfl, (aq7 zR.out 2).trans rfl, (aq7 zH.out 0).trans rfl, (aq7 zH.out 1).trans rfl, (aq7 zH.out 2).trans rfl, (aq7 zJ.out 0).trans rfl, (aq7 zJ.out 1).trans rfl, (aq7 zJ.out 2).trans rfl⟩ (fun hHeld => ?_)
              clear hK K
              refine norm_ (a' := ?_) ?_ ?_
              rotate_left
              ·show Act.put _ (some 61) _ = _
               simp only [Act.put, List.setIfInBounds_toArray, List.set_cons_zero, List.set_cons_succ, i64_w, i32_w, u8_w, u32_w]
               rfl
              refine pure_ (i := 14) (N := some 62) (v := ?_) (a' := ?_) #[true, true, true, true, true, true, true, true, true, true, true, true, true, true, true, false, false] rfl rfl (any_of HT_.out (by kernel_rfl)) (fun _ _ _ h => h) (Or.inl ⟨by rfl, ?_⟩) ?_ ?_
              rotate_left
              ·intro w'
               go_simp
               with_reducible rfl
              rotate_left
              ·simp only [Act.put, List.setIfInBounds_toArray, List.set_cons_zero, List.set_cons_succ, i64_w, i32_w, u8_w, u32_w]
               rfl
              refine pure_ (i := 15) (N := some 63) (v := ?_) (a' := ?_) #[true, true, true, true, true, true, true, true, true, true, true, true, true, true, true, true, false] rfl rfl (any_of HT_.out (by kernel_rfl)) (fun _ _ _ h => h) (Or.inl ⟨by rfl, ?_⟩) ?_ ?_
              rotate_left
              ·intro w'
               go_simp
               with_reducible rfl
              rotate_left
              ·simp only [Act.put, List.setIfInBounds_toArray, List.set_cons_zero, List.set_cons_succ, i64_w, i32_w, u8_w, u32_w]
               rfl
              refine pure_ (i := 16) (N := some 64) (v := ?_) (a' := ?_) #[true, true, true, true, true, true, true, true, true, true, true, true, true, true, true, true, true] rfl rfl (any_of HT_.out (by kernel_rfl)) (fun _ _ _ h => h) (Or.inl ⟨by rfl, ?_⟩) ?_ ?_
              rotate_left
              ·intro w'
               go_simp
               with_reducible rfl
              rotate_left
              ·simp only [Act.put, List.setIfInBounds_toArray, List.set_cons_zero, List.set_cons_succ, i64_w, i32_w, u8_w, u32_w]
               rfl
              refine done_ (done_of HT_.out (by kernel_rfl)) ?_
              try go_wp2
              go_roundg k3
              case measure => have := HJ5.out; have := HK2.out; have := HK3.out; omega
              case rel => exact ⟨(wrap64 (zl + 1)), (by first | rfl | (simp; done) | (simp [*]; done)), H', ⟨by have := HJ5.out; have := HK2.out; have := HK3.out; omega⟩, ⟨by (with_reducible repeat (first | apply an1 | apply an2 | apply an3)); exact zG.out⟩, ⟨by (with_reducible repeat (first | apply an1 | apply an2 | apply an3)); exact zI.out⟩, ⟨by (with_reducible repeat (first | apply an1 | apply an2 | apply an3)); exact zK.out⟩, ⟨by (with_reducible repeat (first | apply aq1 | apply aq2 | apply aq3)); exact zA.out⟩, ⟨by (with_reducible repeat (first | apply aq1 | apply aq2 | apply aq3)); exact zD.out⟩, ⟨by (with_reducible repeat (first | apply aq1 | apply aq2 | apply aq3)); exact zH.out⟩, ⟨by (with_reducible repeat (first | apply aq1 | apply aq2 | apply aq3)); exact zJ.out⟩, ⟨by (with_reducible repeat (first | apply aq1 | apply aq2 | apply aq3)); exact zR.out⟩, ⟨by repeat (first | (with_reducible first | exact HB.out | apply ab1 | apply ab2 | apply ab3 | refine ab4 ?_ zL.out | refine ab4 ?_ zM.out | refine ab4 ?_ zS.out | refine ab4 ?_ zT.out | refine ab4 ?_ xC.out) | exact HB.out)⟩⟩
            ·replace c73 := Bool.eq_false_iff.mpr c73
             subst c73
             have H1 : (if (z8 != false) = true then (none) else (thyrsuslaw4_TermFree.l1 k3 z3 xG (wrap64 (zl + 1)) zd ze zb zm zo zi zv zx zt)) = some r := by rw [if_neg (show ¬ (false = true) by decide)] at H; exact H
             clear H
             have H := H1
             clear H1
             by_cases c81 : (z8 != false) = true
             ·rw [if_pos c81] at H
              exact absurd H (by simp)
             ·rw [if_neg c81] at H
              have c81b0 : (z8 != false) = false := by simpa using c81
              (try (have c81b1 : decide (z8 = false) = true := by simpa using c81))
              (try (have c81b2 : (z8 == false) = true := by simpa using c81))
              clear c81
              have H' := am_ H
              clear H
              try go_wp2
              have zf := am_ (an3 zG.out)
              have zg := am_ (an3 zI.out)
              have zh := am_ (an3 zK.out)
              have zj := am_ (aq2 zA.out)
              have zk := am_ (aq2 zD.out)
              have zn := am_ (aq2 zH.out)
              have zp := am_ (aq2 zJ.out)
              have zq := am_ (aq2 zR.out)
              have zr := am_ (ab3 HB.out)
              clear zG
              clear zI
              clear zK
              clear zA
              clear zD
              clear zH
              clear zJ
              clear zR
              clear HB
              have zG := zf
              have zI := zg
              have zK := zh
              have zA := zj
              have zD := zk
              have zH := zn
              have zJ := zp
              have zR := zq
              have HB := zr
              clear zf zg zh zj zk zn zp zq zr
              refine start_ (n := 17) (S := fun w' => w'.cell? ⟨zc, 0, none⟩ = some (.int .i64 zv) ∧ w'.cell? ⟨zc, 1, none⟩ = some (.int .i64 zx) ∧ w'.cell? ⟨zc, 2, none⟩ = some (.slice z9 zt.length xA) ∧ w'.cell? ⟨zE, 0, none⟩ = some (.int .i64 zd) ∧ w'.cell? ⟨zE, 1, none⟩ = some (.int .i64 ze) ∧ w'.cell? ⟨zE, 2, none⟩ = some (.slice zz zb.length z0)) (ds := []) #[false, false, false, false, false, false, false, false, false, false, false, false, false, false, false, false, false] (by kernel_rfl) rfl rfl ⟨(aq7 zR.out 0).trans rfl, (aq7 zR.out 1).trans rfl, (aq7 zR.out 2).trans rfl, (aq7 zH.out 0).trans rfl, (aq7 zH.out 1).trans rfl, (aq7 zH.out 2).trans rfl⟩ (fun hHeld => ?_); refine with_tabW thyrsuslaw4_TermFree.tab16 thyrsuslaw4_TermFree.bits16 (fun HT_ HW_ => ?_)
              generalize wr.drew = w82 at zG zI zK zA zD zH zJ zR HB hHeld ⊢
              refine pure_ (i := 1) (N := some 49) (v := ?_) (a' := ?_) #[false, true, false, false, false, false, false, false, false, false, false, false, false, false, false, false, false] rfl rfl (any_of HT_.out (by kernel_rfl)) (fun _ _ _ h => h) (Or.inl ⟨by rfl, ?_⟩) ?_ ?_
              rotate_left
              ·intro w'
               go_simp
               with_reducible rfl
              rotate_left
              ·simp only [Act.put, List.setIfInBounds_toArray, List.set_cons_zero, List.set_cons_succ, i64_w, i32_w, u8_w, u32_w]
               rfl
              refine pure_ (i := 4) (N := some 52) (v := ?_) (a' := ?_) #[false, true, false, false, true, false, false, false, false, false, false, false, false, false, false, false, false] rfl rfl (any_of HT_.out (by kernel_rfl)) (fun _ _ _ h => h) (Or.inl ⟨by rfl, ?_⟩) ?_ ?_
              rotate_left
              ·intro w'
               go_simp
               with_reducible rfl
              rotate_left
              ·simp only [Act.put, List.setIfInBounds_toArray, List.set_cons_zero, List.set_cons_succ, i64_w, i32_w, u8_w, u32_w]
               rfl
              refine pure_ (i := 5) (N := some 53) (v := ?_) (a' := ?_) #[false, true, false, false, true, true, false, false, false, false, false, false, false, false, false, false, false] rfl rfl (any_of HT_.out (by kernel_rfl)) (fun _ _ _ h => h) (Or.inl ⟨by rfl, ?_⟩) ?_ ?_
              rotate_left
              ·intro w'
               go_simp
               with_reducible rfl
              rotate_left
              ·simp only [Act.put, List.setIfInBounds_toArray, List.set_cons_zero, List.set_cons_succ, i64_w, i32_w, u8_w, u32_w]
               rfl
              refine take_ (i := 0) (N := some 48) (v := ?_) (a' := ?_) #[true, true, false, false, true, true, false, false, false, false, false, false, false, false, false, false, false] rfl rfl (take_ofW HT_.out HW_.out (by kernel_rfl)) (fun _ _ _ h => h) (Or.inl ⟨by rfl, ?_⟩) hHeld ?_ ?_
              rotate_left
              ·rintro w' ⟨s0, s1, s2, s3, s4, s5⟩
               go_simp
               with_reducible rfl
              rotate_left
              ·simp only [Act.put, List.setIfInBounds_toArray, List.set_cons_zero, List.set_cons_succ, i64_w, i32_w, u8_w, u32_w]
               rfl
              refine take_ (i := 3) (N := some 51) (v := ?_) (a' := ?_) #[true, true, false, true, true, true, false, false, false, false, false, false, false, false, false, false, false] rfl rfl (take_ofW HT_.out HW_.out (by kernel_rfl)) (fun _ _ _ h => h) (Or.inl ⟨by rfl, ?_⟩) hHeld ?_ ?_
              rotate_left
              ·rintro w' ⟨s0, s1, s2, s3, s4, s5⟩
               go_simp
               with_reducible rfl
              rotate_left
              ·simp only [Act.put, List.setIfInBounds_toArray, List.set_cons_zero, List.set_cons_succ, i64_w, i32_w, u8_w, u32_w]
               rfl
              refine one_ (i := 2) (N := some 50) #[true, true, true, true, true, true, false, false, false, false, false, false, false, false, false, false, false] rfl rfl (one_of HT_.out (by kernel_rfl)) (by decide) (fun K hK => ?_)
              refine goes_ Tryd.func34 (by kernel_rfl) rfl #[.agg #[.int .i64 zv, .int .i64 zx, .slice z9 zt.length xA], .int .i64 zl] (by rfl) rfl rfl (by (try simp only [List.map_toArray, List.map_cons, List.map_nil]); first | done | rfl | (simp only [List.length_drop, List.length_take]; rfl)) ?_
              with_reducible refine (term_Free.calls k3 zv zx _ _ zt zl z8 _ ?side1 ?side2 A65.out).mono ?_
              (case side1 => repeat (first | exact (an9 zK.out).2.2 | (with_reducible refine ac2 ?_ _) | (with_reducible refine ac3 ?_ _) | (with_reducible refine ac4 ?_)))
              (case side2 => exact (an9 zK.out).2.1)
              rintro e w83 ⟨rfl, hb⟩
              refine ⟨_, rfl, ?_⟩
              have zf := am_ (Kd.N_below (by (with_reducible repeat (first | apply an1 | apply an2 | apply an3)); exact zG.out) hb)
              have zg := am_ (Kd.N_below (by (with_reducible repeat (first | apply an1 | apply an2 | apply an3)); exact zI.out) hb)
              have zh := am_ (Kd.N_below (by (with_reducible repeat (first | apply an1 | apply an2 | apply an3)); exact zK.out) hb)
              have zj := am_ (aq4 (g := zB) (o := .cells #[.int .i64 a0_0, .int .i64 a0_1, .slice A0_2 l0_2.length c0_2] 24 (0, 0)) (by (with_reducible repeat (first | apply aq1 | apply aq2 | apply aq3)); exact zA.out) hb)
              have zk := am_ (aq4 (g := zC) (o := .cells #[.int .i64 a1_0, .int .i64 a1_1, .slice A1_2 l1_2.length c1_2] 24 (0, 0)) (by (with_reducible repeat (first | apply aq1 | apply aq2 | apply aq3)); exact zD.out) hb)
              have zn := am_ (aq4 (g := zE) (o := .cells #[.int .i64 zd, .int .i64 ze, .slice zz zb.length z0] 29 (0, 0)) (by (with_reducible repeat (first | apply aq1 | apply aq2 | apply aq3)); exact zH.out) hb)
              have zp := am_ (aq4 (g := zF) (o := .cells #[.int .i64 zm, .int .i64 zo, .slice z5 zi.length z6] 29 (0, 0)) (by (with_reducible repeat (first | apply aq1 | apply aq2 | apply aq3)); exact zJ.out) hb)
              have zq := am_ (aq4 (g := zc) (o := .cells #[.int .i64 zv, .int .i64 zx, .slice z9 zt.length xA] 29 (0, 0)) (by (with_reducible repeat (first | apply aq1 | apply aq2 | apply aq3)); exact zR.out) hb)
              have zr := am_ (ab5 (by repeat (first | (with_reducible first | exact HB.out | apply ab1 | apply ab2 | apply ab3 | refine ab4 ?_ zL.out | refine ab4 ?_ zM.out | refine ab4 ?_ zS.out | refine ab4 ?_ zT.out | refine ab4 ?_ xC.out) | exact HB.out)) hb)
              clear zG
              clear zI
              clear zK
              clear zA
              clear zD
              clear zH
              clear zJ
              clear zR
              clear HB
              have zG := zf
              have zI := zg
              have zK := zh
              have zA := zj
              have zD := zk
              have zH := zn
              have zJ := zp
              have zR := zq
              have HB := zr
              clear zf zg zh zj zk zn zp zq zr
              (try clear hb)
              (try clear hb2)
              (try clear hk)
              (try clear hi)
              refine hK.out _ _ ⟨(aq7 zR.out 0).trans rfl, (aq7 zR.out 1).trans rfl, (aq7 zR.out 2).trans rfl, (aq7 zH.out 0).trans rfl, (aq7 zH.out 1).trans rfl, (aq7 zH.out 2).trans rfl⟩ (fun hHeld => ?_)
              clear hK K
              refine norm_ (a' := ?_) ?_ ?_
              rotate_left
              ·show Act.put _ (some 50) _ = _
               simp only [Act.put, List.setIfInBounds_toArray, List.set_cons_zero, List.set_cons_succ, i64_w, i32_w, u8_w, u32_w]
               rfl
              refine one_ (i := 6) (N := some 54) #[true, true, true, true, true, true, true, false, false, false, false, false, false, false, false, false, false] rfl rfl (one_of HT_.out (by kernel_rfl)) (by decide) (fun K hK => ?_)
              refine goes_ Tryd.func35 (by kernel_rfl) rfl #[.agg #[.int .i64 zd, .int .i64 ze, .slice zz zb.length z0], .int .i64 (wrap64 (zl + 1))] (by rfl) rfl rfl (by (try simp only [List.map_toArray, List.map_cons, List.map_nil]); first | done | rfl | (simp only [List.length_drop, List.length_take]; rfl)) ?_
              with_reducible refine (thyrsusref4_Free.calls k3 zd ze _ _ zb (wrap64 (zl + 1)) false _ ?side1 ?side2 A66.out).mono ?_
              (case side1 => repeat (first | exact (an9 zG.out).2.2 | (with_reducible refine ac2 ?_ _) | (with_reducible refine ac3 ?_ _) | (with_reducible refine ac4 ?_)))
              (case side2 => exact (an9 zG.out).2.1)
              rintro e w84 ⟨rfl, hb⟩
              refine ⟨_, rfl, ?_⟩
              have zf := am_ (Kd.N_below (by (with_reducible repeat (first | apply an1 | apply an2 | apply an3)); exact zG.out) hb)
              have zg := am_ (Kd.N_below (by (with_reducible repeat (first | apply an1 | apply an2 | apply an3)); exact zI.out) hb)
              have zh := am_ (Kd.N_below (by (with_reducible repeat (first | apply an1 | apply an2 | apply an3)); exact zK.out) hb)
              have zj := am_ (aq4 (g := zB) (o := .cells #[.int .i64 a0_0, .int .i64 a0_1, .slice A0_2 l0_2.length c0_2] 24 (0, 0)) (by (with_reducible repeat (first | apply aq1 | apply aq2 | apply aq3)); exact zA.out) hb)
              have zk := am_ (aq4 (g := zC) (o := .cells #[.int .i64 a1_0, .int .i64 a1_1, .slice A1_2 l1_2.length c1_2] 24 (0, 0)) (by (with_reducible repeat (first | apply aq1 | apply aq2 | apply aq3)); exact zD.out) hb)
              have zn := am_ (aq4 (g := zE) (o := .cells #[.int .i64 zd, .int .i64 ze, .slice zz zb.length z0] 29 (0, 0)) (by (with_reducible repeat (first | apply aq1 | apply aq2 | apply aq3)); exact zH.out) hb)
              have zp := am_ (aq4 (g := zF) (o := .cells #[.int .i64 zm, .int .i64 zo, .slice z5 zi.length z6] 29 (0, 0)) (by (with_reducible repeat (first | apply aq1 | apply aq2 | apply aq3)); exact zJ.out) hb)
              have zq := am_ (aq4 (g := zc) (o := .cells #[.int .i64 zv, .int .i64 zx, .slice z9 zt.length xA] 29 (0, 0)) (by (with_reducible repeat (first | apply aq1 | apply aq2 | apply aq3)); exact zR.out) hb)
              have zr := am_ (ab5 (by repeat (first | (with_reducible first | exact HB.out | apply ab1 | apply ab2 | apply ab3 | refine ab4 ?_ zL.out | refine ab4 ?_ zM.out | refine ab4 ?_ zS.out | refine ab4 ?_ zT.out | refine ab4 ?_ xC.out) | exact HB.out)) hb)
              clear zG
              clear zI
              clear zK
              clear zA
              clear zD
              clear zH
              clear zJ
              clear zR
              clear HB
              have zG := zf
              have zI := zg
              have zK := zh
              have zA := zj
              have zD := zk
              have zH := zn
              have zJ := zp
              have zR := zq
              have HB := zr
              clear zf zg zh zj zk zn zp zq zr
              (try clear hb)
              (try clear hb2)
              (try clear hk)
              (try clear hi)
              refine hK.out _ _ ⟨(aq7 zR.out 0).trans rfl, (aq7 zR.out 1).trans rfl, (aq7 zR.out 2).trans rfl, (aq7 zH.out 0).trans rfl, (aq7 zH.out 1).trans rfl, (aq7 zH.out 2).trans rfl⟩ (fun hHeld => ?_)
              clear hK K
              refine norm_ (a' := ?_) ?_ ?_
              rotate_left
              ·show Act.put _ (some 54) _ = _
               simp only [Act.put, List.setIfInBounds_toArray, List.set_cons_zero, List.set_cons_succ, i64_w, i32_w, u8_w, u32_w]
               rfl
              refine pure_ (i := 7) (N := some 55) (v := ?_) (a' := ?_) #[true, true, true, true, true, true, true, true, false, false, false, false, false, false, false, false, false] rfl rfl (any_of HT_.out (by kernel_rfl)) (fun _ _ _ h => h) (Or.inl ⟨by rfl, ?_⟩) ?_ ?_
              rotate_left
              ·intro w'
               go_simp
               with_reducible rfl
              rotate_left
              ·simp only [Act.put, List.setIfInBounds_toArray, List.set_cons_zero, List.set_cons_succ, i64_w, i32_w, u8_w, u32_w]
               rfl
              refine take_ (i := 8) (N := some 56) (v := ?_) (a' := ?_) #[true, true, true, true, true, true, true, true, true, false, false, false, false, false, false, false, false] rfl rfl (take_ofW HT_.out HW_.out (by kernel_rfl)) (fun _ _ _ h => h) (Or.inl ⟨by rfl, ?_⟩) hHeld ?_ ?_
              rotate_left
              ·rintro w' ⟨s0, s1, s2, s3, s4, s5⟩
               go_simp
               with_reducible rfl
              rotate_left
              ·simp only [Act.put, List.setIfInBounds_toArray, List.set_cons_zero, List.set_cons_succ, i64_w, i32_w, u8_w, u32_w]
               rfl
              refine one_ (i := 9) (N := some 57) #[true, true, true, true, true, true, true, true, true, true, false, false, false, false, false, false, false] rfl rfl (one_of HT_.out (by kernel_rfl)) (by decide) (fun K hK => ?_)
              refine goes_ Tryd.func35 (by kernel_rfl) rfl #[.agg #[.int .i64 zd, .int .i64 ze, .slice zz zb.length z0], .int .i64 0] (by rfl) rfl rfl (by (try simp only [List.map_toArray, List.map_cons, List.map_nil]); first | done | rfl | (simp only [List.length_drop, List.length_take]; rfl)) ?_
              with_reducible refine (thyrsusref4_Free.calls k3 zd ze _ _ zb 0 false _ ?side1 ?side2 A72.out).mono ?_
              (case side1 => repeat (first | exact (an9 zG.out).2.2 | (with_reducible refine ac2 ?_ _) | (with_reducible refine ac3 ?_ _) | (with_reducible refine ac4 ?_)))
              (case side2 => exact (an9 zG.out).2.1)
              rintro e w85 ⟨rfl, hb⟩
              refine ⟨_, rfl, ?_⟩
              have zf := am_ (Kd.N_below (by (with_reducible repeat (first | apply an1 | apply an2 | apply an3)); exact zG.out) hb)
              have zg := am_ (Kd.N_below (by (with_reducible repeat (first | apply an1 | apply an2 | apply an3)); exact zI.out) hb)
              have zh := am_ (Kd.N_below (by (with_reducible repeat (first | apply an1 | apply an2 | apply an3)); exact zK.out) hb)
              have zj := am_ (aq4 (g := zB) (o := .cells #[.int .i64 a0_0, .int .i64 a0_1, .slice A0_2 l0_2.length c0_2] 24 (0, 0)) (by (with_reducible repeat (first | apply aq1 | apply aq2 | apply aq3)); exact zA.out) hb)
              have zk := am_ (aq4 (g := zC) (o := .cells #[.int .i64 a1_0, .int .i64 a1_1, .slice A1_2 l1_2.length c1_2] 24 (0, 0)) (by (with_reducible repeat (first | apply aq1 | apply aq2 | apply aq3)); exact zD.out) hb)
              have zn := am_ (aq4 (g := zE) (o := .cells #[.int .i64 zd, .int .i64 ze, .slice zz zb.length z0] 29 (0, 0)) (by (with_reducible repeat (first | apply aq1 | apply aq2 | apply aq3)); exact zH.out) hb)
              have zp := am_ (aq4 (g := zF) (o := .cells #[.int .i64 zm, .int .i64 zo, .slice z5 zi.length z6] 29 (0, 0)) (by (with_reducible repeat (first | apply aq1 | apply aq2 | apply aq3)); exact zJ.out) hb)
              have zq := am_ (aq4 (g := zc) (o := .cells #[.int .i64 zv, .int .i64 zx, .slice z9 zt.length xA] 29 (0, 0)) (by (with_reducible repeat (first | apply aq1 | apply aq2 | apply aq3)); exact zR.out) hb)
              have zr := am_ (ab5 (by repeat (first | (with_reducible first | exact HB.out | apply ab1 | apply ab2 | apply ab3 | refine ab4 ?_ zL.out | refine ab4 ?_ zM.out | refine ab4 ?_ zS.out | refine ab4 ?_ zT.out | refine ab4 ?_ xC.out) | exact HB.out)) hb)
              clear zG
              clear zI
              clear zK
              clear zA
              clear zD
              clear zH
              clear zJ
              clear zR
              clear HB
              have zG := zf
              have zI := zg
              have zK := zh
              have zA := zj
              have zD := zk
              have zH := zn
              have zJ := zp
              have zR := zq
              have HB := zr
              clear zf zg zh zj zk zn zp zq zr
              (try clear hb)
              (try clear hb2)
              (try clear hk)
              (try clear hi)
              refine hK.out _ _ ⟨(aq7 zR.out 0).trans rfl, (aq7 zR.out 1).trans rfl, (aq7 zR.out 2).trans rfl, (aq7 zH.out 0).trans rfl, (aq7 zH.out 1).trans rfl, (aq7 zH.out 2).trans rfl⟩ (fun hHeld => ?_)
              clear hK K
              refine norm_ (a' := ?_) ?_ ?_
              rotate_left
              ·show Act.put _ (some 57) _ = _
               simp only [Act.put, List.setIfInBounds_toArray, List.set_cons_zero, List.set_cons_succ, i64_w, i32_w, u8_w, u32_w]
               rfl
              refine pure_ (i := 10) (N := some 58) (v := ?_) (a' := ?_) #[true, true, true, true, true, true, true, true, true, true, true, false, false, false, false, false, false] rfl rfl (any_of HT_.out (by kernel_rfl)) (fun _ _ _ h => h) (Or.inl ⟨by rfl, ?_⟩) ?_ ?_
              rotate_left
              ·intro w'
               go_simp
               with_reducible rfl
              rotate_left
              ·simp only [Act.put, List.setIfInBounds_toArray, List.set_cons_zero, List.set_cons_succ, i64_w, i32_w, u8_w, u32_w]
               rfl
              refine pure_ (i := 11) (N := some 59) (v := undef) (a' := ?_) #[true, true, true, true, true, true, true, true, true, true, true, true, false, false, false, false, false] rfl rfl (any_of HT_.out (by kernel_rfl)) (fun _ _ _ h => h) (Or.inr ⟨by rfl, rfl⟩) ?_ ?_
              rotate_left
              ·simp only [Act.put, List.setIfInBounds_toArray, List.set_cons_zero, List.set_cons_succ, i64_w, i32_w, u8_w, u32_w]
               rfl
              refine pure_ (i := 12) (N := some 60) (v := undef) (a' := ?_) #[true, true, true, true, true, true, true, true, true, true, true, true, true, false, false, false, false] rfl rfl (any_of HT_.out (by kernel_rfl)) (fun _ _ _ h => h) (Or.inr ⟨by rfl, rfl⟩) ?_ ?_
              rotate_left
              ·simp only [Act.put, List.setIfInBounds_toArray, List.set_cons_zero, List.set_cons_succ, i64_w, i32_w, u8_w, u32_w]
               rfl
              refine pure_ (i := 13) (N := some 61) (v := undef) (a' := ?_) #[true, true, true, true, true, true, true, true, true, true, true, true, true, true, false, false, false] rfl rfl (any_of HT_.out (by kernel_rfl)) (fun _ _ _ h => h) (Or.inr ⟨by rfl, rfl⟩) ?_ ?_
              rotate_left
              ·simp only [Act.put, List.setIfInBounds_toArray, List.set_cons_zero, List.set_cons_succ, i64_w, i32_w, u8_w, u32_w]
               rfl
              refine pure_ (i := 14) (N := some 62) (v := ?_) (a' := ?_) #[true, true, true, true, true, true, true, true, true, true, true, true, true, true, true, false, false] rfl rfl (any_of HT_.out (by kernel_rfl)) (fun _ _ _ h => h) (Or.inl ⟨by rfl, ?_⟩) ?_ ?_
              rotate_left
              ·intro w'
               go_simp
               with_reducible rfl
              rotate_left
              ·simp only [Act.put, List.setIfInBounds_toArray, List.set_cons_zero, List.set_cons_succ, i64_w, i32_w, u8_w, u32_w]
               rfl
              refine pure_ (i := 15) (N := some 63) (v := ?_) (a' := ?_) #[true, true, true, true, true, true, true, true, true, true, true, true, true, true, true, true, false] rfl rfl (any_of HT_.out (by kernel_rfl)) (fun _ _ _ h => h) (Or.inl ⟨by rfl, ?_⟩) ?_ ?_
              rotate_left
              ·intro w'
               go_simp
               with_reducible rfl
              rotate_left
              ·simp only [Act.put, List.setIfInBounds_toArray, List.set_cons_zero, List.set_cons_succ, i64_w, i32_w, u8_w, u32_w]
               rfl
              refine pure_ (i := 16) (N := some 64) (v := ?_) (a' := ?_) #[true, true, true, true, true, true, true, true, true, true, true, true, true, true, true, true, true] rfl rfl (any_of HT_.out (by kernel_rfl)) (fun _ _ _ h => h) (Or.inl ⟨by rfl, ?_⟩) ?_ ?_
              rotate_left
              ·intro w'
               go_simp
               with_reducible rfl
              rotate_left
              ·simp only [Act.put, List.setIfInBounds_toArray, List.set_cons_zero, List.set_cons_succ, i64_w, i32_w, u8_w, u32_w]
               rfl
              refine done_ (done_of HT_.out (by kernel_rfl)) ?_
              try go_wp2
              go_roundg k3
              case measure => have := HJ5.out; have := HK2.out; have := HK3.out; omega
              case rel => exact ⟨(wrap64 (zl + 1)), (by first | rfl | (simp; done) | (simp [*]; done)), H', ⟨by have := HJ5.out; have := HK2.out; have := HK3.out; omega⟩, ⟨by (with_reducible repeat (first | apply an1 | apply an2 | apply an3)); exact zG.out⟩, ⟨by (with_reducible repeat (first | apply an1 | apply an2 | apply an3)); exact zI.out⟩, ⟨by (with_reducible repeat (first | apply an1 | apply an2 | apply an3)); exact zK.out⟩, ⟨by (with_reducible repeat (first | apply aq1 | apply aq2 | apply aq3)); exact zA.out⟩, ⟨by (with_reducible repeat (first | apply aq1 | apply aq2 | apply aq3)); exact zD.out⟩, ⟨by (with_reducible repeat (first | apply aq1 | apply aq2 | apply aq3)); exact zH.out⟩, ⟨by (with_reducible repeat (first | apply aq1 | apply aq2 | apply aq3)); exact zJ.out⟩, ⟨by (with_reducible repeat (first | apply aq1 | apply aq2 | apply aq3)); exact zR.out⟩, ⟨by repeat (first | (with_reducible first | exact HB.out | apply ab1 | apply ab2 | apply ab3 | refine ab4 ?_ zL.out | refine ab4 ?_ zM.out | refine ab4 ?_ zS.out | refine ab4 ?_ zT.out | refine ab4 ?_ xC.out) | exact HB.out)⟩⟩
          ·rw [if_neg c64] at H
           have c64b0 : decide (zl < 8) = false := decide_eq_false c64
           clear c64
           replace H := Option.bind_eq_some_iff.mp H
           obtain ⟨t346, A860, H⟩ := H
           replace H : (some (t346 == xG)) = some r := H
           have A86 := am_ A860
           clear A860
           obtain rfl := Option.some.inj H
           have hnb87 := zU.out
           have hnc87 := zN.out
           have hnb88 := zV.out
           have hnc88 := zO.out
           have hnb89 := za.out
           have hnc89 := zZ.out
           have hnb90 := xI.out
           have hnc90 := xa.out
           have hcz91_0 : wr.cell? ⟨zE, 0, none⟩ = some (.int .i64 zd) := (aq7 zH.out 0).trans rfl
           have hcz91_1 : wr.cell? ⟨zE, 1, none⟩ = some (.int .i64 ze) := (aq7 zH.out 1).trans rfl
           have hcz91_2 : wr.cell? ⟨zE, 2, none⟩ = some (.slice zz zb.length z0) := (aq7 zH.out 2).trans rfl
           have hfz91_0 := aq8 zH.out 0
           have hfz91_1 := aq8 zH.out 1
           have hfz91_2 := aq8 zH.out 2
           go_wp2_with (first | ((with_reducible refine gate_callee (f := 36) rfl ?_); refine goesL_ (some 67) rfl rfl Tryd.func36 (by kernel_rfl) rfl #[.agg #[.int .i64 zd, .int .i64 ze, .slice zz zb.length z0], .int .i64 z3] rfl (by (try simp only [List.map_toArray, List.map_cons, List.map_nil]); first | done | rfl | (simp only [List.length_drop, List.length_take]; rfl)) ?_; (with_reducible refine (term_Below.calls k3 zd ze _ _ zb z3 t346 _ ?side1 ?side2 A86.out).mono ?_); (case side1 => repeat (first | exact (an9 zG.out).2.2 | (with_reducible refine ac2 ?_ _) | (with_reducible refine ac3 ?_ _) | (with_reducible refine ac4 ?_))); (case side2 => exact (an9 zG.out).2.1); rintro e w92 ⟨rfl, hb⟩; refine ⟨_, rfl, ?_⟩; have zf := am_ (Kd.N_below (by (with_reducible repeat (first | apply an1 | apply an2 | apply an3)); exact zG.out) hb); have zg := am_ (Kd.N_below (by (with_reducible repeat (first | apply an1 | apply an2 | apply an3)); exact zI.out) hb); have zh := am_ (Kd.N_below (by (with_reducible repeat (first | apply an1 | apply an2 | apply an3)); exact zK.out) hb); have zj := am_ (aq4 (g := zB) (o := .cells #[.int .i64 a0_0, .int .i64 a0_1, .slice A0_2 l0_2.length c0_2] 24 (0, 0)) (by (with_reducible repeat (first | apply aq1 | apply aq2 | apply aq3)); exact zA.out) hb); have zk := am_ (aq4 (g := zC) (o := .cells #[.int .i64 a1_0, .int .i64 a1_1, .slice A1_2 l1_2.length c1_2] 24 (0, 0)) (by (with_reducible repeat (first | apply aq1 | apply aq2 | apply aq3)); exact zD.out) hb); have zn := am_ (aq4 (g := zE) (o := .cells #[.int .i64 zd, .int .i64 ze, .slice zz zb.length z0] 29 (0, 0)) (by (with_reducible repeat (first | apply aq1 | apply aq2 | apply aq3)); exact zH.out) hb); have zp := am_ (aq4 (g := zF) (o := .cells #[.int .i64 zm, .int .i64 zo, .slice z5 zi.length z6] 29 (0, 0)) (by (with_reducible repeat (first | apply aq1 | apply aq2 | apply aq3)); exact zJ.out) hb); have zq := am_ (aq4 (g := zc) (o := .cells #[.int .i64 zv, .int .i64 zx, .slice z9 zt.length xA] 29 (0, 0)) (by (with_reducible repeat (first | apply aq1 | apply aq2 | apply aq3)); exact zR.out) hb); have zr := am_ (ab5 (by repeat (first | (with_reducible first | exact HB.out | apply ab1 | apply ab2 | apply ab3 | refine ab4 ?_ zL.out | refine ab4 ?_ zM.out | refine ab4 ?_ zS.out | refine ab4 ?_ zT.out | refine ab4 ?_ xC.out) | exact HB.out)) hb); clear zG; clear zI; clear zK; clear zA; clear zD; clear zH; clear zJ; clear zR; clear HB; have zG := zf; have zI := zg; have zK := zh; have zA := zj; have zD := zk; have zH := zn; have zJ := zp; have zR := zq; have HB := zr; clear zf zg zh zj zk zn zp zq zr; (try clear hb); (try clear hb2); (try clear hk); (try clear hi)))
           go_ret
           exact ⟨by first | rfl | (simp [errW_none, errW_some] <;> rfl) | (simp [*, errW_none, errW_some] <;> rfl), by repeat (first | (with_reducible first | exact HB.out | apply ab1 | apply ab2 | apply ab3 | refine ab4 ?_ zL.out | refine ab4 ?_ zM.out | refine ab4 ?_ zS.out | refine ab4 ?_ zT.out | refine ab4 ?_ xC.out) | exact HB.out)⟩
 ·replace c5 := Bool.eq_false_iff.mpr c5
  subst c5
  have H1 : (none) = some r := by rw [if_neg (show ¬ (false = true) by decide)] at H; exact H
  clear H
  have H := H1
  clear H1
  exact absurd H (by simp)

end Go.Proofs.YtcchfblekaaalaaDoor.P
