-- Printed by mkprint.py (a program of this session, over the kit's print). Lean checks it.
import Derived.Test.YtcchfblekaaalaaDoorPx0
import Derived.Test.YtcchfblekaaalaaDoorQx1
import Derived.Test.YtcchfblekaaalaaDoorQx3
import Derived.Test.YtcchfblekaaalaaDoorQx6
import Derived.Test.YtcchfblekaaalaaDoorHandFree
import Derived.Test.YtcchfblekaaalaaDoorHandShift
import Derived.Test.YtcchfblekaaalaaDoorHandSubst
import Derived.Test.YtcchfblekaaalaaDoorPx1
import Derived.Test.YtcchfblekaaalaaDoorShsA
import Derived.Test.YtcchfblekaaalaaDoorAl
namespace Go.Proofs.YtcchfblekaaalaaDoor.P
open Go.RowKit Go.Proofs.YtcchfblekaaalaaDoorW.PrintWords Go.Proofs.YtcchfblekaaalaaDoorW.PrintLast Go.Proofs.YtcchfblekaaalaaDoorW.PrintMore
attribute [local go_sem] max2_int min2_int max_two min_two max_three min_three max_four min_four   -- for this text's walks alone
set_option linter.unusedVariables false
set_option linter.unusedSimpArgs false

set_option maxHeartbeats 8000000 in
set_option maxRecDepth 100000 in
theorem thyrsuslaw4_TermShifts.calls (k : Nat) (a0_0 : Int) (a0_1 : Int) (A0_2 : Option Addr) (c0_2 : Nat) (l0_2 : List (S24)) (a1_0 : Int) (a1_1 : Int) (A1_2 : Option Addr) (c1_2 : Nat) (l1_2 : List (S24)) (a2 : Int) (a3 : Int) (a4 : Int) (r : Bool) (w : World) (hr0_2 : Kd.C k24 w A0_2 l0_2.length l0_2) (hc0_2 : l0_2.length ≤ c0_2) (hr1_2 : Kd.C k24 w A1_2 l1_2.length l1_2) (hc1_2 : l1_2.length ≤ c1_2) (h : thyrsuslaw4_TermShifts.f k a0_0 a0_1 l0_2 a1_0 a1_1 l1_2 a2 a3 a4 = some r) :
  Calls Tryd.prog 10 #[.agg #[.int .i64 a0_0, .int .i64 a0_1, .slice A0_2 l0_2.length c0_2], .agg #[.int .i64 a1_0, .int .i64 a1_1, .slice A1_2 l1_2.length c1_2], .int .i64 a2, .int .i64 a3, .int .i64 a4] w fun e w' => e = .returned (.bool r) ∧ Below w.heap.size w w' := by
 have hu24 := Tryd.underlying24
 have hu29 := Tryd.underlying29
 have xS := am_ hr0_2
 have xT := am_ hc0_2
 clear hr0_2 hc0_2
 have xX := am_ hr1_2
 have xY := am_ hc1_2
 clear hr1_2 hc1_2
 have HB := am_ (Below.refl w.heap.size w)
 have H : ((thyrsuslaw4_known.f k).bind fun t207 => (if t207 = true then ((thyrsuslaw1_Few.f k a0_0 a0_1 l0_2).bind fun xZ => (if xZ = true then ((thyrsuslaw1_Few.f k a1_0 a1_1 l1_2).bind fun xM => (thyrsuslaw4_TermShifts.j0 k a2 a3 a4 (!xM) a0_0 a0_1 l0_2 a1_0 a1_1 l1_2)) else (thyrsuslaw4_TermShifts.j0 k a2 a3 a4 true a0_0 a0_1 l0_2 a1_0 a1_1 l1_2))) else (none))) = some r := h
 clear h
 replace H := Option.bind_eq_some_iff.mp H
 obtain ⟨t207, A60, H⟩ := H
 replace H : (if t207 = true then ((thyrsuslaw1_Few.f k a0_0 a0_1 l0_2).bind fun xZ => (if xZ = true then ((thyrsuslaw1_Few.f k a1_0 a1_1 l1_2).bind fun xM => (thyrsuslaw4_TermShifts.j0 k a2 a3 a4 (!xM) a0_0 a0_1 l0_2 a1_0 a1_1 l1_2)) else (thyrsuslaw4_TermShifts.j0 k a2 a3 a4 true a0_0 a0_1 l0_2 a1_0 a1_1 l1_2))) else (none)) = some r := H
 have A6 := am_ A60
 clear A60
 by_cases c7 : t207 = true
 ·subst c7
  have H1 : ((thyrsuslaw1_Few.f k a0_0 a0_1 l0_2).bind fun xZ => (if xZ = true then ((thyrsuslaw1_Few.f k a1_0 a1_1 l1_2).bind fun xM => (thyrsuslaw4_TermShifts.j0 k a2 a3 a4 (!xM) a0_0 a0_1 l0_2 a1_0 a1_1 l1_2)) else (thyrsuslaw4_TermShifts.j0 k a2 a3 a4 true a0_0 a0_1 l0_2 a1_0 a1_1 l1_2))) = some r := by rw [if_pos rfl] at H; exact H
  clear H
  have H := H1
  clear H1
  have HC8 := am_ H
  clear H
  go_enter Tryd.func10, Tryd.ntmps10
  go_upto_region 3 with (first | ((with_reducible refine gate_dst (N := 5) rfl ?_); refine box_event ?hg (N := 5) ?hd (cs := #[.int .i64 a0_0, .int .i64 a0_1, .slice A0_2 l0_2.length c0_2]) (t := 24) ?hr ?_; (case hd => rfl); (case hg => rfl); (case hr => first | (go_simp; done) | (go_simp; rfl)); intro zA hg w9 hbox hb; have zd := am_ (ab5 (by repeat (first | (with_reducible first | exact HB.out | apply ab1 | apply ab2 | apply ab3) | exact HB.out)) hb); have ze := am_ (hbox); have zf := am_ ((by rw [hg]; exact (below_size (by repeat (first | (with_reducible first | exact HB.out | apply ab1 | apply ab2 | apply ab3) | exact HB.out))) : w.heap.size ≤ zA)); have zi := am_ ((by rw [hg]; exact (below_size (by repeat (first | (with_reducible first | exact HB.out | apply ab1 | apply ab2 | apply ab3) | exact HB.out))) : w.heap.size ≤ zA)); clear HB; have HB := zd; have zC := ze; have GW205 := zf; have zJ := zi; clear zd ze zf zi; clear hb hbox hg) | ((with_reducible refine gate_dst (N := 6) rfl ?_); refine box_event ?hg (N := 6) ?hd (cs := #[.int .i64 a1_0, .int .i64 a1_1, .slice A1_2 l1_2.length c1_2]) (t := 24) ?hr ?_; (case hd => rfl); (case hg => rfl); (case hr => first | (go_simp; done) | (go_simp; rfl)); intro zB hg w10 hbox hb; have zd := am_ (aq4 (g := zA) (o := .cells #[.int .i64 a0_0, .int .i64 a0_1, .slice A0_2 l0_2.length c0_2] 24 (0, 0)) (by (with_reducible repeat (first | apply aq1 | apply aq2 | apply aq3)); exact zC.out) hb); have ze := am_ (ab5 (by repeat (first | (with_reducible first | exact HB.out | apply ab1 | apply ab2 | apply ab3 | refine ab4 ?_ zJ.out) | exact HB.out)) hb); have zf := am_ (hbox); have zi := am_ ((by rw [hg]; exact (below_size (by repeat (first | (with_reducible first | exact HB.out | apply ab1 | apply ab2 | apply ab3 | refine ab4 ?_ zJ.out) | exact HB.out))) : w.heap.size ≤ zB)); have zj := am_ ((by rw [hg]; exact (below_size (by repeat (first | (with_reducible first | exact HB.out | apply ab1 | apply ab2 | apply ab3 | refine ab4 ?_ zJ.out) | exact HB.out))) : w.heap.size ≤ zB)); have zk := am_ ((by rw [hg]; exact Nat.ne_of_lt (blk_lt (g := zA) (o := .cells #[.int .i64 a0_0, .int .i64 a0_1, .slice A0_2 l0_2.length c0_2] 24 (0, 0)) (by (with_reducible repeat (first | apply aq1 | apply aq2 | apply aq3)); exact zC.out)) : zA ≠ zB)); have zn := am_ ((by rw [hg]; exact Nat.ne_of_gt (blk_lt (g := zA) (o := .cells #[.int .i64 a0_0, .int .i64 a0_1, .slice A0_2 l0_2.length c0_2] 24 (0, 0)) (by (with_reducible repeat (first | apply aq1 | apply aq2 | apply aq3)); exact zC.out)) : zB ≠ zA)); clear zC; clear HB; have zC := zd; have HB := ze; have zD := zf; have GW206 := zi; have zK := zj; have xU := zk; have xV := zn; clear zd ze zf zi zj zk zn; clear hb hbox hg) | ((with_reducible refine gate_callee (f := 14) rfl ?_); refine goesL_ (some 13) rfl rfl Tryd.func14 (by kernel_rfl) rfl #[] rfl (by (try simp only [List.map_toArray, List.map_cons, List.map_nil]); first | done | rfl | (simp only [List.length_drop, List.length_take]; rfl)) ?_; (with_reducible refine (thyrsuslaw4_known.calls k  true _ A6.out).mono ?_); rintro e w11 ⟨rfl, hb⟩; refine ⟨_, rfl, ?_⟩; have zd := am_ (aq4 (g := zA) (o := .cells #[.int .i64 a0_0, .int .i64 a0_1, .slice A0_2 l0_2.length c0_2] 24 (0, 0)) (by (with_reducible repeat (first | apply aq1 | apply aq2 | apply aq3)); exact zC.out) hb); have ze := am_ (aq4 (g := zB) (o := .cells #[.int .i64 a1_0, .int .i64 a1_1, .slice A1_2 l1_2.length c1_2] 24 (0, 0)) (by (with_reducible repeat (first | apply aq1 | apply aq2 | apply aq3)); exact zD.out) hb); have zf := am_ (ab5 (by repeat (first | (with_reducible first | exact HB.out | apply ab1 | apply ab2 | apply ab3 | refine ab4 ?_ zJ.out | refine ab4 ?_ zK.out) | exact HB.out)) hb); clear zC; clear zD; clear HB; have zC := zd; have zD := ze; have HB := zf; clear zd ze zf; (try clear hb); (try clear hb2); (try clear hk); (try clear hi)))
  (try simp only [Act.put, List.setIfInBounds_toArray, List.set_cons_zero, List.set_cons_succ])
  go_cut [22] (fun v22 wc => ∃ (kq : Nat) (xj : Bool), v22 = .bool xj ∧ Aside0 (thyrsuslaw4_TermShifts.j0 kq a2 a3 a4 xj a0_0 a0_1 l0_2 a1_0 a1_1 l1_2 = some r) ∧ Aside0 (kq ≤ k) ∧ Aside0 (wc.heap[zA]? = some (.cells #[.int .i64 a0_0, .int .i64 a0_1, (.slice A0_2 l0_2.length c0_2)] 24 (0, 0))) ∧ Aside0 (wc.heap[zB]? = some (.cells #[.int .i64 a1_0, .int .i64 a1_1, (.slice A1_2 l1_2.length c1_2)] 24 (0, 0))) ∧ Aside0 (Below w.heap.size w wc))
  case first =>
   have H := HC8.out
   clear HC8
   replace H := Option.bind_eq_some_iff.mp H
   obtain ⟨xZ, A120, H⟩ := H
   replace H : (if xZ = true then ((thyrsuslaw1_Few.f k a1_0 a1_1 l1_2).bind fun xM => (thyrsuslaw4_TermShifts.j0 k a2 a3 a4 (!xM) a0_0 a0_1 l0_2 a1_0 a1_1 l1_2)) else (thyrsuslaw4_TermShifts.j0 k a2 a3 a4 true a0_0 a0_1 l0_2 a1_0 a1_1 l1_2)) = some r := H
   have A12 := am_ A120
   clear A120
   by_cases c13 : xZ = true
   ·subst c13
    have H1 : ((thyrsuslaw1_Few.f k a1_0 a1_1 l1_2).bind fun xM => (thyrsuslaw4_TermShifts.j0 k a2 a3 a4 (!xM) a0_0 a0_1 l0_2 a1_0 a1_1 l1_2)) = some r := by rw [if_pos rfl] at H; exact H
    clear H
    have H := H1
    clear H1
    replace H := Option.bind_eq_some_iff.mp H
    obtain ⟨xM, A140, H⟩ := H
    replace H : (thyrsuslaw4_TermShifts.j0 k a2 a3 a4 (!xM) a0_0 a0_1 l0_2 a1_0 a1_1 l1_2) = some r := H
    have A14 := am_ A140
    clear A140
    have H' := am_ H
    clear H
    have hnb15 := xU.out
    have hnc15 := xV.out
    have hcz16_0 : w11.cell? ⟨zA, 0, none⟩ = some (.int .i64 a0_0) := (aq7 zC.out 0).trans rfl
    have hcz16_1 : w11.cell? ⟨zA, 1, none⟩ = some (.int .i64 a0_1) := (aq7 zC.out 1).trans rfl
    have hcz16_2 : w11.cell? ⟨zA, 2, none⟩ = some (.slice A0_2 l0_2.length c0_2) := (aq7 zC.out 2).trans rfl
    have hfz16_0 := blk_frozen zC.out 0
    have hfz16_1 := blk_frozen zC.out 1
    have hfz16_2 := blk_frozen zC.out 2
    go_wp2_with (first | ((with_reducible refine gate_callee (f := 15) rfl ?_); refine goesL_ (some 16) rfl rfl Tryd.func15 (by kernel_rfl) rfl #[.agg #[.int .i64 a0_0, .int .i64 a0_1, .slice A0_2 l0_2.length c0_2]] rfl (by (try simp only [List.map_toArray, List.map_cons, List.map_nil]); first | done | rfl | (simp only [List.length_drop, List.length_take]; rfl)) ?_; (with_reducible refine (thyrsuslaw1_Few.calls k a0_0 a0_1 _ _ l0_2 true _ ?side1 ?side2 A12.out).mono ?_); (case side1 => repeat (first | exact (Kd.C_below xS.out HB.out) | (with_reducible refine ac2 ?_ _) | (with_reducible refine ac3 ?_ _) | (with_reducible refine Kd.C_drew ?_))); (case side2 => exact xT.out); rintro e w17 ⟨rfl, hb⟩; refine ⟨_, rfl, ?_⟩; have zd := am_ (aq4 (g := zA) (o := .cells #[.int .i64 a0_0, .int .i64 a0_1, .slice A0_2 l0_2.length c0_2] 24 (0, 0)) (by (with_reducible repeat (first | apply aq1 | apply aq2 | apply aq3)); exact zC.out) hb); have ze := am_ (aq4 (g := zB) (o := .cells #[.int .i64 a1_0, .int .i64 a1_1, .slice A1_2 l1_2.length c1_2] 24 (0, 0)) (by (with_reducible repeat (first | apply aq1 | apply aq2 | apply aq3)); exact zD.out) hb); have zf := am_ (ab5 (by repeat (first | (with_reducible first | exact HB.out | apply ab1 | apply ab2 | apply ab3 | refine ab4 ?_ zJ.out | refine ab4 ?_ zK.out) | exact HB.out)) hb); clear zC; clear zD; clear HB; have zC := zd; have zD := ze; have HB := zf; clear zd ze zf; (try clear hb); (try clear hb2); (try clear hk); (try clear hi); have hcz18_0 : w17.cell? ⟨zB, 0, none⟩ = some (.int .i64 a1_0) := (aq7 zD.out 0).trans rfl; have hcz18_1 : w17.cell? ⟨zB, 1, none⟩ = some (.int .i64 a1_1) := (aq7 zD.out 1).trans rfl; have hcz18_2 : w17.cell? ⟨zB, 2, none⟩ = some (.slice A1_2 l1_2.length c1_2) := (aq7 zD.out 2).trans rfl; have hfz18_0 := blk_frozen zD.out 0; have hfz18_1 := blk_frozen zD.out 1; have hfz18_2 := blk_frozen zD.out 2) | (go_at_call 15; (with_reducible refine (thyrsuslaw1_Few.calls k a1_0 a1_1 _ _ l1_2 xM _ ?side1 ?side2 A14.out).mono ?_); (case side1 => repeat (first | exact (Kd.C_below xX.out HB.out) | (with_reducible refine ac2 ?_ _) | (with_reducible refine ac3 ?_ _) | (with_reducible refine Kd.C_drew ?_))); (case side2 => exact xY.out); rintro e w19 ⟨rfl, hb⟩; have zd := am_ (aq4 (g := zA) (o := .cells #[.int .i64 a0_0, .int .i64 a0_1, .slice A0_2 l0_2.length c0_2] 24 (0, 0)) (by (with_reducible repeat (first | apply aq1 | apply aq2 | apply aq3)); exact zC.out) hb); have ze := am_ (aq4 (g := zB) (o := .cells #[.int .i64 a1_0, .int .i64 a1_1, .slice A1_2 l1_2.length c1_2] 24 (0, 0)) (by (with_reducible repeat (first | apply aq1 | apply aq2 | apply aq3)); exact zD.out) hb); have zf := am_ (ab5 (by repeat (first | (with_reducible first | exact HB.out | apply ab1 | apply ab2 | apply ab3 | refine ab4 ?_ zJ.out | refine ab4 ?_ zK.out) | exact HB.out)) hb); clear zC; clear zD; clear HB; have zC := zd; have zD := ze; have HB := zf; clear zd ze zf; (try clear hb); (try clear hb2); (try clear hk); (try clear hi)))
    go_meet
    case rel => exact ⟨_, (!xM), (by first | rfl | (simp; done) | (simp [*]; done)), H', ⟨by first | omega | exact Nat.le_refl _⟩, ⟨by (with_reducible repeat (first | apply aq1 | apply aq2 | apply aq3)); exact zC.out⟩, ⟨by (with_reducible repeat (first | apply aq1 | apply aq2 | apply aq3)); exact zD.out⟩, ⟨by repeat (first | (with_reducible first | exact HB.out | apply ab1 | apply ab2 | apply ab3 | refine ab4 ?_ zJ.out | refine ab4 ?_ zK.out) | exact HB.out)⟩⟩
   ·replace c13 := Bool.eq_false_iff.mpr c13
    subst c13
    have H1 : (thyrsuslaw4_TermShifts.j0 k a2 a3 a4 true a0_0 a0_1 l0_2 a1_0 a1_1 l1_2) = some r := by rw [if_neg (show ¬ (false = true) by decide)] at H; exact H
    clear H
    have H := H1
    clear H1
    have H' := am_ H
    clear H
    have hnb20 := xU.out
    have hnc20 := xV.out
    have hcz21_0 : w11.cell? ⟨zA, 0, none⟩ = some (.int .i64 a0_0) := (aq7 zC.out 0).trans rfl
    have hcz21_1 : w11.cell? ⟨zA, 1, none⟩ = some (.int .i64 a0_1) := (aq7 zC.out 1).trans rfl
    have hcz21_2 : w11.cell? ⟨zA, 2, none⟩ = some (.slice A0_2 l0_2.length c0_2) := (aq7 zC.out 2).trans rfl
    have hfz21_0 := blk_frozen zC.out 0
    have hfz21_1 := blk_frozen zC.out 1
    have hfz21_2 := blk_frozen zC.out 2
    go_wp2_with (first | ((with_reducible refine gate_callee (f := 15) rfl ?_); refine goesL_ (some 16) rfl rfl Tryd.func15 (by kernel_rfl) rfl #[.agg #[.int .i64 a0_0, .int .i64 a0_1, .slice A0_2 l0_2.length c0_2]] rfl (by (try simp only [List.map_toArray, List.map_cons, List.map_nil]); first | done | rfl | (simp only [List.length_drop, List.length_take]; rfl)) ?_; (with_reducible refine (thyrsuslaw1_Few.calls k a0_0 a0_1 _ _ l0_2 false _ ?side1 ?side2 A12.out).mono ?_); (case side1 => repeat (first | exact (Kd.C_below xS.out HB.out) | (with_reducible refine ac2 ?_ _) | (with_reducible refine ac3 ?_ _) | (with_reducible refine Kd.C_drew ?_))); (case side2 => exact xT.out); rintro e w22 ⟨rfl, hb⟩; refine ⟨_, rfl, ?_⟩; have zd := am_ (aq4 (g := zA) (o := .cells #[.int .i64 a0_0, .int .i64 a0_1, .slice A0_2 l0_2.length c0_2] 24 (0, 0)) (by (with_reducible repeat (first | apply aq1 | apply aq2 | apply aq3)); exact zC.out) hb); have ze := am_ (aq4 (g := zB) (o := .cells #[.int .i64 a1_0, .int .i64 a1_1, .slice A1_2 l1_2.length c1_2] 24 (0, 0)) (by (with_reducible repeat (first | apply aq1 | apply aq2 | apply aq3)); exact zD.out) hb); have zf := am_ (ab5 (by repeat (first | (with_reducible first | exact HB.out | apply ab1 | apply ab2 | apply ab3 | refine ab4 ?_ zJ.out | refine ab4 ?_ zK.out) | exact HB.out)) hb); clear zC; clear zD; clear HB; have zC := zd; have zD := ze; have HB := zf; clear zd ze zf; (try clear hb); (try clear hb2); (try clear hk); (try clear hi)))
    go_meet
    case rel => exact ⟨_, (true), (by first | rfl | (simp; done) | (simp [*]; done)), H', ⟨by first | omega | exact Nat.le_refl _⟩, ⟨by (with_reducible repeat (first | apply aq1 | apply aq2 | apply aq3)); exact zC.out⟩, ⟨by (with_reducible repeat (first | apply aq1 | apply aq2 | apply aq3)); exact zD.out⟩, ⟨by repeat (first | (with_reducible first | exact HB.out | apply ab1 | apply ab2 | apply ab3 | refine ab4 ?_ zJ.out | refine ab4 ?_ zK.out) | exact HB.out)⟩⟩
  case rest =>
   clear HC8
   try clear c1
   try clear c2
   try clear p2
   try clear c7
   try clear c10
   try clear c13
   try clear c14
   try clear c15
   try clear c20
   try clear hcz16_0
   try clear hcz16_1
   try clear hcz16_2
   try clear hcz18_0
   try clear hcz18_1
   try clear hcz18_2
   try clear hcz21_0
   try clear hcz21_1
   try clear hcz21_2
   try clear hfz16_0
   try clear hfz16_1
   try clear hfz16_2
   try clear hfz18_0
   try clear hfz18_1
   try clear hfz18_2
   try clear hfz21_0
   try clear hfz21_1
   try clear hfz21_2
   obtain ⟨kq, xj, rfl, HA, HJ7, zC, zD, HB⟩ := hcut
   cases kq with
   | zero => exact absurd HA.out (by simp [thyrsuslaw4_TermShifts.j0])
   | succ zc =>
    have H := HA.out
    clear HA
    simp only [thyrsuslaw4_TermShifts.j0] at H
    by_cases c23 : xj = true
    ·subst c23
     have H1 : (some true) = some r := by rw [if_pos rfl] at H; exact H
     clear H
     have H := H1
     clear H1
     obtain rfl := Option.some.inj H
     go_wp2
     go_ret
     exact ⟨by first | rfl | (simp [errW_none, errW_some] <;> rfl) | (simp [*, errW_none, errW_some] <;> rfl), by repeat (first | (with_reducible first | exact HB.out | apply ab1 | apply ab2 | apply ab3 | refine ab4 ?_ zJ.out | refine ab4 ?_ zK.out) | exact HB.out)⟩
    ·replace c23 := Bool.eq_false_iff.mpr c23
     subst c23
     have H1 : ((thyrsuslaw1_Make.f zc a0_0 a0_1 l0_2 6 4).bind fun bt210 => ((thyrsuslaw1_Make.f zc a1_0 a1_1 l1_2 4 4).bind fun bt215 => ((thyrsuslaw4_within.f a2 5).bind fun z7 => ((thyrsuslaw4_within.f a3 5).bind fun z6 => ((thyrsuslaw4_within.f a4 6).bind fun zS => ((term_Shift.f zc bt210.1 bt210.2.1 bt210.2.2 0 zS).bind fun bt225 => ((thyrsusref4_Same.f zc bt225.1 bt225.2.1 bt225.2.2 bt210.1 bt210.2.1 bt210.2.2).bind fun xG => (if xG = true then ((term_Shift.f zc bt210.1 bt210.2.1 bt210.2.2 z7 zS).bind fun bt231 => ((term_Shift.f zc bt231.1 bt231.2.1 bt231.2.2 z6 zS).bind fun bt236 => ((term_Shift.f zc bt210.1 bt210.2.1 bt210.2.2 (wrap64 (z7 + z6)) zS).bind fun bt241 => ((thyrsusref4_Same.f zc bt236.1 bt236.2.1 bt236.2.2 bt241.1 bt241.2.1 bt241.2.2).bind fun z9 => (if z9 = true then ((term_Shift.f zc bt210.1 bt210.2.1 bt210.2.2 1 zS).bind fun bt247 => ((term_Subst.f zc bt247.1 bt247.2.1 bt247.2.2 zS bt215.1 bt215.2.1 bt215.2.2).bind fun bt252 => ((thyrsusref4_Same.f zc bt252.1 bt252.2.1 bt252.2.2 bt210.1 bt210.2.1 bt210.2.2).bind fun z5 => (if z5 = true then ((term_Shift.f zc bt210.1 bt210.2.1 bt210.2.2 1 zS).bind fun bt258 => ((term_Free.f zc bt258.1 bt258.2.1 bt258.2.2 zS).bind fun z0 => (some (!z0)))) else (none))))) else (none)))))) else (none))))))))) = some r := by rw [if_neg (show ¬ (false = true) by decide)] at H; exact H
     clear H
     have H := H1
     clear H1
     replace H := Option.bind_eq_some_iff.mp H
     obtain ⟨⟨zQ, zR, zL⟩, A240, H⟩ := H
     replace H : ((thyrsuslaw1_Make.f zc a1_0 a1_1 l1_2 4 4).bind fun bt215 => ((thyrsuslaw4_within.f a2 5).bind fun z7 => ((thyrsuslaw4_within.f a3 5).bind fun z6 => ((thyrsuslaw4_within.f a4 6).bind fun zS => ((term_Shift.f zc zQ zR zL 0 zS).bind fun bt225 => ((thyrsusref4_Same.f zc bt225.1 bt225.2.1 bt225.2.2 zQ zR zL).bind fun xG => (if xG = true then ((term_Shift.f zc zQ zR zL z7 zS).bind fun bt231 => ((term_Shift.f zc bt231.1 bt231.2.1 bt231.2.2 z6 zS).bind fun bt236 => ((term_Shift.f zc zQ zR zL (wrap64 (z7 + z6)) zS).bind fun bt241 => ((thyrsusref4_Same.f zc bt236.1 bt236.2.1 bt236.2.2 bt241.1 bt241.2.1 bt241.2.2).bind fun z9 => (if z9 = true then ((term_Shift.f zc zQ zR zL 1 zS).bind fun bt247 => ((term_Subst.f zc bt247.1 bt247.2.1 bt247.2.2 zS bt215.1 bt215.2.1 bt215.2.2).bind fun bt252 => ((thyrsusref4_Same.f zc bt252.1 bt252.2.1 bt252.2.2 zQ zR zL).bind fun z5 => (if z5 = true then ((term_Shift.f zc zQ zR zL 1 zS).bind fun bt258 => ((term_Free.f zc bt258.1 bt258.2.1 bt258.2.2 zS).bind fun z0 => (some (!z0)))) else (none))))) else (none)))))) else (none)))))))) = some r := H
     have A24 := am_ A240
     clear A240
     replace H := Option.bind_eq_some_iff.mp H
     obtain ⟨⟨zm, zo, zg⟩, A250, H⟩ := H
     replace H : ((thyrsuslaw4_within.f a2 5).bind fun z7 => ((thyrsuslaw4_within.f a3 5).bind fun z6 => ((thyrsuslaw4_within.f a4 6).bind fun zS => ((term_Shift.f zc zQ zR zL 0 zS).bind fun bt225 => ((thyrsusref4_Same.f zc bt225.1 bt225.2.1 bt225.2.2 zQ zR zL).bind fun xG => (if xG = true then ((term_Shift.f zc zQ zR zL z7 zS).bind fun bt231 => ((term_Shift.f zc bt231.1 bt231.2.1 bt231.2.2 z6 zS).bind fun bt236 => ((term_Shift.f zc zQ zR zL (wrap64 (z7 + z6)) zS).bind fun bt241 => ((thyrsusref4_Same.f zc bt236.1 bt236.2.1 bt236.2.2 bt241.1 bt241.2.1 bt241.2.2).bind fun z9 => (if z9 = true then ((term_Shift.f zc zQ zR zL 1 zS).bind fun bt247 => ((term_Subst.f zc bt247.1 bt247.2.1 bt247.2.2 zS zm zo zg).bind fun bt252 => ((thyrsusref4_Same.f zc bt252.1 bt252.2.1 bt252.2.2 zQ zR zL).bind fun z5 => (if z5 = true then ((term_Shift.f zc zQ zR zL 1 zS).bind fun bt258 => ((term_Free.f zc bt258.1 bt258.2.1 bt258.2.2 zS).bind fun z0 => (some (!z0)))) else (none))))) else (none)))))) else (none))))))) = some r := H
     have A25 := am_ A250
     clear A250
     replace H := Option.bind_eq_some_iff.mp H
     obtain ⟨z7, A260, H⟩ := H
     replace H : ((thyrsuslaw4_within.f a3 5).bind fun z6 => ((thyrsuslaw4_within.f a4 6).bind fun zS => ((term_Shift.f zc zQ zR zL 0 zS).bind fun bt225 => ((thyrsusref4_Same.f zc bt225.1 bt225.2.1 bt225.2.2 zQ zR zL).bind fun xG => (if xG = true then ((term_Shift.f zc zQ zR zL z7 zS).bind fun bt231 => ((term_Shift.f zc bt231.1 bt231.2.1 bt231.2.2 z6 zS).bind fun bt236 => ((term_Shift.f zc zQ zR zL (wrap64 (z7 + z6)) zS).bind fun bt241 => ((thyrsusref4_Same.f zc bt236.1 bt236.2.1 bt236.2.2 bt241.1 bt241.2.1 bt241.2.2).bind fun z9 => (if z9 = true then ((term_Shift.f zc zQ zR zL 1 zS).bind fun bt247 => ((term_Subst.f zc bt247.1 bt247.2.1 bt247.2.2 zS zm zo zg).bind fun bt252 => ((thyrsusref4_Same.f zc bt252.1 bt252.2.1 bt252.2.2 zQ zR zL).bind fun z5 => (if z5 = true then ((term_Shift.f zc zQ zR zL 1 zS).bind fun bt258 => ((term_Free.f zc bt258.1 bt258.2.1 bt258.2.2 zS).bind fun z0 => (some (!z0)))) else (none))))) else (none)))))) else (none)))))) = some r := H
     have A26 := am_ A260
     clear A260
     replace H := Option.bind_eq_some_iff.mp H
     obtain ⟨z6, A270, H⟩ := H
     replace H : ((thyrsuslaw4_within.f a4 6).bind fun zS => ((term_Shift.f zc zQ zR zL 0 zS).bind fun bt225 => ((thyrsusref4_Same.f zc bt225.1 bt225.2.1 bt225.2.2 zQ zR zL).bind fun xG => (if xG = true then ((term_Shift.f zc zQ zR zL z7 zS).bind fun bt231 => ((term_Shift.f zc bt231.1 bt231.2.1 bt231.2.2 z6 zS).bind fun bt236 => ((term_Shift.f zc zQ zR zL (wrap64 (z7 + z6)) zS).bind fun bt241 => ((thyrsusref4_Same.f zc bt236.1 bt236.2.1 bt236.2.2 bt241.1 bt241.2.1 bt241.2.2).bind fun z9 => (if z9 = true then ((term_Shift.f zc zQ zR zL 1 zS).bind fun bt247 => ((term_Subst.f zc bt247.1 bt247.2.1 bt247.2.2 zS zm zo zg).bind fun bt252 => ((thyrsusref4_Same.f zc bt252.1 bt252.2.1 bt252.2.2 zQ zR zL).bind fun z5 => (if z5 = true then ((term_Shift.f zc zQ zR zL 1 zS).bind fun bt258 => ((term_Free.f zc bt258.1 bt258.2.1 bt258.2.2 zS).bind fun z0 => (some (!z0)))) else (none))))) else (none)))))) else (none))))) = some r := H
     have A27 := am_ A270
     clear A270
     replace H := Option.bind_eq_some_iff.mp H
     obtain ⟨zS, A280, H⟩ := H
     replace H : ((term_Shift.f zc zQ zR zL 0 zS).bind fun bt225 => ((thyrsusref4_Same.f zc bt225.1 bt225.2.1 bt225.2.2 zQ zR zL).bind fun xG => (if xG = true then ((term_Shift.f zc zQ zR zL z7 zS).bind fun bt231 => ((term_Shift.f zc bt231.1 bt231.2.1 bt231.2.2 z6 zS).bind fun bt236 => ((term_Shift.f zc zQ zR zL (wrap64 (z7 + z6)) zS).bind fun bt241 => ((thyrsusref4_Same.f zc bt236.1 bt236.2.1 bt236.2.2 bt241.1 bt241.2.1 bt241.2.2).bind fun z9 => (if z9 = true then ((term_Shift.f zc zQ zR zL 1 zS).bind fun bt247 => ((term_Subst.f zc bt247.1 bt247.2.1 bt247.2.2 zS zm zo zg).bind fun bt252 => ((thyrsusref4_Same.f zc bt252.1 bt252.2.1 bt252.2.2 zQ zR zL).bind fun z5 => (if z5 = true then ((term_Shift.f zc zQ zR zL 1 zS).bind fun bt258 => ((term_Free.f zc bt258.1 bt258.2.1 bt258.2.2 zS).bind fun z0 => (some (!z0)))) else (none))))) else (none)))))) else (none)))) = some r := H
     have A28 := am_ A280
     clear A280
     replace H := Option.bind_eq_some_iff.mp H
     obtain ⟨⟨t225, t226, xF⟩, A290, H⟩ := H
     replace H : ((thyrsusref4_Same.f zc t225 t226 xF zQ zR zL).bind fun xG => (if xG = true then ((term_Shift.f zc zQ zR zL z7 zS).bind fun bt231 => ((term_Shift.f zc bt231.1 bt231.2.1 bt231.2.2 z6 zS).bind fun bt236 => ((term_Shift.f zc zQ zR zL (wrap64 (z7 + z6)) zS).bind fun bt241 => ((thyrsusref4_Same.f zc bt236.1 bt236.2.1 bt236.2.2 bt241.1 bt241.2.1 bt241.2.2).bind fun z9 => (if z9 = true then ((term_Shift.f zc zQ zR zL 1 zS).bind fun bt247 => ((term_Subst.f zc bt247.1 bt247.2.1 bt247.2.2 zS zm zo zg).bind fun bt252 => ((thyrsusref4_Same.f zc bt252.1 bt252.2.1 bt252.2.2 zQ zR zL).bind fun z5 => (if z5 = true then ((term_Shift.f zc zQ zR zL 1 zS).bind fun bt258 => ((term_Free.f zc bt258.1 bt258.2.1 bt258.2.2 zS).bind fun z0 => (some (!z0)))) else (none))))) else (none)))))) else (none))) = some r := H
     have A29 := am_ A290
     clear A290
     replace H := Option.bind_eq_some_iff.mp H
     obtain ⟨xG, A300, H⟩ := H
     replace H : (if xG = true then ((term_Shift.f zc zQ zR zL z7 zS).bind fun bt231 => ((term_Shift.f zc bt231.1 bt231.2.1 bt231.2.2 z6 zS).bind fun bt236 => ((term_Shift.f zc zQ zR zL (wrap64 (z7 + z6)) zS).bind fun bt241 => ((thyrsusref4_Same.f zc bt236.1 bt236.2.1 bt236.2.2 bt241.1 bt241.2.1 bt241.2.2).bind fun z9 => (if z9 = true then ((term_Shift.f zc zQ zR zL 1 zS).bind fun bt247 => ((term_Subst.f zc bt247.1 bt247.2.1 bt247.2.2 zS zm zo zg).bind fun bt252 => ((thyrsusref4_Same.f zc bt252.1 bt252.2.1 bt252.2.2 zQ zR zL).bind fun z5 => (if z5 = true then ((term_Shift.f zc zQ zR zL 1 zS).bind fun bt258 => ((term_Free.f zc bt258.1 bt258.2.1 bt258.2.2 zS).bind fun z0 => (some (!z0)))) else (none))))) else (none)))))) else (none)) = some r := H
     have A30 := am_ A300
     clear A300
     by_cases c31 : xG = true
     ·subst c31
      have H1 : ((term_Shift.f zc zQ zR zL z7 zS).bind fun bt231 => ((term_Shift.f zc bt231.1 bt231.2.1 bt231.2.2 z6 zS).bind fun bt236 => ((term_Shift.f zc zQ zR zL (wrap64 (z7 + z6)) zS).bind fun bt241 => ((thyrsusref4_Same.f zc bt236.1 bt236.2.1 bt236.2.2 bt241.1 bt241.2.1 bt241.2.2).bind fun z9 => (if z9 = true then ((term_Shift.f zc zQ zR zL 1 zS).bind fun bt247 => ((term_Subst.f zc bt247.1 bt247.2.1 bt247.2.2 zS zm zo zg).bind fun bt252 => ((thyrsusref4_Same.f zc bt252.1 bt252.2.1 bt252.2.2 zQ zR zL).bind fun z5 => (if z5 = true then ((term_Shift.f zc zQ zR zL 1 zS).bind fun bt258 => ((term_Free.f zc bt258.1 bt258.2.1 bt258.2.2 zS).bind fun z0 => (some (!z0)))) else (none))))) else (none)))))) = some r := by rw [if_pos rfl] at H; exact H
      clear H
      have H := H1
      clear H1
      replace H := Option.bind_eq_some_iff.mp H
      obtain ⟨⟨t231, t232, xN⟩, A320, H⟩ := H
      replace H : ((term_Shift.f zc t231 t232 xN z6 zS).bind fun bt236 => ((term_Shift.f zc zQ zR zL (wrap64 (z7 + z6)) zS).bind fun bt241 => ((thyrsusref4_Same.f zc bt236.1 bt236.2.1 bt236.2.2 bt241.1 bt241.2.1 bt241.2.2).bind fun z9 => (if z9 = true then ((term_Shift.f zc zQ zR zL 1 zS).bind fun bt247 => ((term_Subst.f zc bt247.1 bt247.2.1 bt247.2.2 zS zm zo zg).bind fun bt252 => ((thyrsusref4_Same.f zc bt252.1 bt252.2.1 bt252.2.2 zQ zR zL).bind fun z5 => (if z5 = true then ((term_Shift.f zc zQ zR zL 1 zS).bind fun bt258 => ((term_Free.f zc bt258.1 bt258.2.1 bt258.2.2 zS).bind fun z0 => (some (!z0)))) else (none))))) else (none))))) = some r := H
      have A32 := am_ A320
      clear A320
      replace H := Option.bind_eq_some_iff.mp H
      obtain ⟨⟨xl, xm, xO⟩, A330, H⟩ := H
      replace H : ((term_Shift.f zc zQ zR zL (wrap64 (z7 + z6)) zS).bind fun bt241 => ((thyrsusref4_Same.f zc xl xm xO bt241.1 bt241.2.1 bt241.2.2).bind fun z9 => (if z9 = true then ((term_Shift.f zc zQ zR zL 1 zS).bind fun bt247 => ((term_Subst.f zc bt247.1 bt247.2.1 bt247.2.2 zS zm zo zg).bind fun bt252 => ((thyrsusref4_Same.f zc bt252.1 bt252.2.1 bt252.2.2 zQ zR zL).bind fun z5 => (if z5 = true then ((term_Shift.f zc zQ zR zL 1 zS).bind fun bt258 => ((term_Free.f zc bt258.1 bt258.2.1 bt258.2.2 zS).bind fun z0 => (some (!z0)))) else (none))))) else (none)))) = some r := H
      have A33 := am_ A330
      clear A330
      replace H := Option.bind_eq_some_iff.mp H
      obtain ⟨⟨t241, t242, xP⟩, A340, H⟩ := H
      replace H : ((thyrsusref4_Same.f zc xl xm xO t241 t242 xP).bind fun z9 => (if z9 = true then ((term_Shift.f zc zQ zR zL 1 zS).bind fun bt247 => ((term_Subst.f zc bt247.1 bt247.2.1 bt247.2.2 zS zm zo zg).bind fun bt252 => ((thyrsusref4_Same.f zc bt252.1 bt252.2.1 bt252.2.2 zQ zR zL).bind fun z5 => (if z5 = true then ((term_Shift.f zc zQ zR zL 1 zS).bind fun bt258 => ((term_Free.f zc bt258.1 bt258.2.1 bt258.2.2 zS).bind fun z0 => (some (!z0)))) else (none))))) else (none))) = some r := H
      have A34 := am_ A340
      clear A340
      replace H := Option.bind_eq_some_iff.mp H
      obtain ⟨z9, A350, H⟩ := H
      replace H : (if z9 = true then ((term_Shift.f zc zQ zR zL 1 zS).bind fun bt247 => ((term_Subst.f zc bt247.1 bt247.2.1 bt247.2.2 zS zm zo zg).bind fun bt252 => ((thyrsusref4_Same.f zc bt252.1 bt252.2.1 bt252.2.2 zQ zR zL).bind fun z5 => (if z5 = true then ((term_Shift.f zc zQ zR zL 1 zS).bind fun bt258 => ((term_Free.f zc bt258.1 bt258.2.1 bt258.2.2 zS).bind fun z0 => (some (!z0)))) else (none))))) else (none)) = some r := H
      have A35 := am_ A350
      clear A350
      by_cases c36 : z9 = true
      ·subst c36
       have H1 : ((term_Shift.f zc zQ zR zL 1 zS).bind fun bt247 => ((term_Subst.f zc bt247.1 bt247.2.1 bt247.2.2 zS zm zo zg).bind fun bt252 => ((thyrsusref4_Same.f zc bt252.1 bt252.2.1 bt252.2.2 zQ zR zL).bind fun z5 => (if z5 = true then ((term_Shift.f zc zQ zR zL 1 zS).bind fun bt258 => ((term_Free.f zc bt258.1 bt258.2.1 bt258.2.2 zS).bind fun z0 => (some (!z0)))) else (none))))) = some r := by rw [if_pos rfl] at H; exact H
       clear H
       have H := H1
       clear H1
       replace H := Option.bind_eq_some_iff.mp H
       obtain ⟨⟨t247, t248, xi⟩, A370, H⟩ := H
       replace H : ((term_Subst.f zc t247 t248 xi zS zm zo zg).bind fun bt252 => ((thyrsusref4_Same.f zc bt252.1 bt252.2.1 bt252.2.2 zQ zR zL).bind fun z5 => (if z5 = true then ((term_Shift.f zc zQ zR zL 1 zS).bind fun bt258 => ((term_Free.f zc bt258.1 bt258.2.1 bt258.2.2 zS).bind fun z0 => (some (!z0)))) else (none)))) = some r := H
       have A37 := am_ A370
       clear A370
       replace H := Option.bind_eq_some_iff.mp H
       obtain ⟨⟨t252, t253, xk⟩, A380, H⟩ := H
       replace H : ((thyrsusref4_Same.f zc t252 t253 xk zQ zR zL).bind fun z5 => (if z5 = true then ((term_Shift.f zc zQ zR zL 1 zS).bind fun bt258 => ((term_Free.f zc bt258.1 bt258.2.1 bt258.2.2 zS).bind fun z0 => (some (!z0)))) else (none))) = some r := H
       have A38 := am_ A380
       clear A380
       replace H := Option.bind_eq_some_iff.mp H
       obtain ⟨z5, A390, H⟩ := H
       replace H : (if z5 = true then ((term_Shift.f zc zQ zR zL 1 zS).bind fun bt258 => ((term_Free.f zc bt258.1 bt258.2.1 bt258.2.2 zS).bind fun z0 => (some (!z0)))) else (none)) = some r := H
       have A39 := am_ A390
       clear A390
       by_cases c40 : z5 = true
       ·subst c40
        have H1 : ((term_Shift.f zc zQ zR zL 1 zS).bind fun bt258 => ((term_Free.f zc bt258.1 bt258.2.1 bt258.2.2 zS).bind fun z0 => (some (!z0)))) = some r := by rw [if_pos rfl] at H; exact H
        clear H
        have H := H1
        clear H1
        replace H := Option.bind_eq_some_iff.mp H
        obtain ⟨⟨t258, t259, t260⟩, A410, H⟩ := H
        replace H : ((term_Free.f zc t258 t259 t260 zS).bind fun z0 => (some (!z0))) = some r := H
        have A41 := am_ A410
        clear A410
        replace H := Option.bind_eq_some_iff.mp H
        obtain ⟨z0, A420, H⟩ := H
        replace H : (some (!z0)) = some r := H
        have A42 := am_ A420
        clear A420
        obtain rfl := Option.some.inj H
        try go_wp2
        have zd := am_ (aq2 zC.out)
        have ze := am_ (aq2 zD.out)
        have zf := am_ (ab3 HB.out)
        clear zC
        clear zD
        clear HB
        have zC := zd
        have zD := ze
        have HB := zf
        clear zd ze zf
        refine start_ (n := 8) (S := fun w' => w'.cell? ⟨zA, 0, none⟩ = some (.int .i64 a0_0) ∧ w'.cell? ⟨zA, 1, none⟩ = some (.int .i64 a0_1) ∧ w'.cell? ⟨zA, 2, none⟩ = some (.slice A0_2 l0_2.length c0_2) ∧ w'.cell? ⟨zB, 0, none⟩ = some (.int .i64 a1_0) ∧ w'.cell? ⟨zB, 1, none⟩ = some (.int .i64 a1_1) ∧ w'.cell? ⟨zB, 2, none⟩ = some (.slice A1_2 l1_2.length c1_2)) (ds := []) #[false, false, false, false, false, false, false, false] (by kernel_rfl) rfl rfl ⟨(aq7 zC.out 0).trans rfl, (aq7 zC.out 1).trans rfl, (aq7 zC.out 2).trans rfl, (aq7 zD.out 0).trans rfl, (aq7 zD.out 1).trans rfl, (aq7 zD.out 2).trans rfl⟩ (fun hHeld => ?_); refine with_tabW thyrsuslaw4_TermShifts.tab5 thyrsuslaw4_TermShifts.bits5 (fun HT_ HW_ => ?_)
        generalize wc.drew = w43 at zC zD HB hHeld ⊢
        refine take_ (i := 0) (N := some 23) (v := ?_) (a' := ?_) #[true, false, false, false, false, false, false, false] rfl rfl (take_ofW HT_.out HW_.out (by kernel_rfl)) (fun _ _ _ h => h) (Or.inl ⟨by rfl, ?_⟩) hHeld ?_ ?_
        rotate_left
        ·rintro w' ⟨s0, s1, s2, s3, s4, s5⟩
         go_simp
         with_reducible rfl
        rotate_left
        ·simp only [Act.put, List.setIfInBounds_toArray, List.set_cons_zero, List.set_cons_succ, i64_w, i32_w, u8_w, u32_w]
         rfl
        refine take_ (i := 2) (N := some 25) (v := ?_) (a' := ?_) #[true, false, true, false, false, false, false, false] rfl rfl (take_ofW HT_.out HW_.out (by kernel_rfl)) (fun _ _ _ h => h) (Or.inl ⟨by rfl, ?_⟩) hHeld ?_ ?_
        rotate_left
        ·rintro w' ⟨s0, s1, s2, s3, s4, s5⟩
         go_simp
         with_reducible rfl
        rotate_left
        ·simp only [Act.put, List.setIfInBounds_toArray, List.set_cons_zero, List.set_cons_succ, i64_w, i32_w, u8_w, u32_w]
         rfl
        refine join_ (σ := Value × Value × Nat × Nat) 2 #[true, true, true, true, true, true, false, false] (fun s_ => [(24, .agg #[.int .i64 zQ, .int .i64 zR, s_.1]), (26, .agg #[.int .i64 zm, .int .i64 zo, s_.2.1]), (11, .pointer (some ⟨s_.2.2.1, 0, none⟩)), (12, .pointer (some ⟨s_.2.2.2, 0, none⟩))]) (fun s_ w' => (w'.cell? ⟨zA, 0, none⟩ = some (.int .i64 a0_0) ∧ w'.cell? ⟨zA, 1, none⟩ = some (.int .i64 a0_1) ∧ w'.cell? ⟨zA, 2, none⟩ = some (.slice A0_2 l0_2.length c0_2) ∧ w'.cell? ⟨zB, 0, none⟩ = some (.int .i64 a1_0) ∧ w'.cell? ⟨zB, 1, none⟩ = some (.int .i64 a1_1) ∧ w'.cell? ⟨zB, 2, none⟩ = some (.slice A1_2 l1_2.length c1_2)) ∧ (Kd.N k29 29 w' w.heap.size (fun k_ => some k_ ≠ (s_.2.1 : Value).ownBlock ∧ k_ ≠ zA ∧ k_ ≠ zB ∧ k_ ≠ s_.2.2.1 ∧ k_ ≠ s_.2.2.2) s_.1 zL) ∧ (Kd.N k29 29 w' w.heap.size (fun k_ => some k_ ≠ (s_.1 : Value).ownBlock ∧ k_ ≠ zA ∧ k_ ≠ zB ∧ k_ ≠ s_.2.2.1 ∧ k_ ≠ s_.2.2.2) s_.2.1 zg) ∧ (w'.heap[zA]? = some (.cells #[.int .i64 a0_0, .int .i64 a0_1, .slice A0_2 l0_2.length c0_2] 24 (0, 0))) ∧ (w'.heap[zB]? = some (.cells #[.int .i64 a1_0, .int .i64 a1_1, .slice A1_2 l1_2.length c1_2] 24 (0, 0))) ∧ (w'.heap[s_.2.2.1]? = some (.cells #[.int .i64 0, .int .i64 0, .slice none 0 0] 29 (0, 0))) ∧ (w'.heap[s_.2.2.2]? = some (.cells #[.int .i64 0, .int .i64 0, .slice none 0 0] 29 (0, 0))) ∧ (w.heap.size ≤ s_.2.2.1) ∧ (w.heap.size ≤ s_.2.2.1) ∧ (zA ≠ s_.2.2.1) ∧ (s_.2.2.1 ≠ zA) ∧ (zB ≠ s_.2.2.1) ∧ (s_.2.2.1 ≠ zB) ∧ (s_.2.2.2 ≠ s_.2.2.1) ∧ (s_.2.2.1 ≠ s_.2.2.2) ∧ (w.heap.size ≤ s_.2.2.2) ∧ (w.heap.size ≤ s_.2.2.2) ∧ (zA ≠ s_.2.2.2) ∧ (s_.2.2.2 ≠ zA) ∧ (zB ≠ s_.2.2.2) ∧ (s_.2.2.2 ≠ zB) ∧ (Below w.heap.size w w')) ?_ ?_
        rotate_left
        ·intro hJ1_3_4_5
         refine join_ (σ := Value × Value × Nat) 3 #[true, true, true, true, true, false, false, false] (fun s_ => [(24, .agg #[.int .i64 zQ, .int .i64 zR, s_.1]), (26, .agg #[.int .i64 zm, .int .i64 zo, s_.2.1]), (11, .pointer (some ⟨s_.2.2, 0, none⟩))]) (fun s_ w' => (w'.cell? ⟨zA, 0, none⟩ = some (.int .i64 a0_0) ∧ w'.cell? ⟨zA, 1, none⟩ = some (.int .i64 a0_1) ∧ w'.cell? ⟨zA, 2, none⟩ = some (.slice A0_2 l0_2.length c0_2) ∧ w'.cell? ⟨zB, 0, none⟩ = some (.int .i64 a1_0) ∧ w'.cell? ⟨zB, 1, none⟩ = some (.int .i64 a1_1) ∧ w'.cell? ⟨zB, 2, none⟩ = some (.slice A1_2 l1_2.length c1_2)) ∧ (Kd.N k29 29 w' w.heap.size (fun k_ => some k_ ≠ (s_.2.1 : Value).ownBlock ∧ k_ ≠ zA ∧ k_ ≠ zB ∧ k_ ≠ s_.2.2) s_.1 zL) ∧ (Kd.N k29 29 w' w.heap.size (fun k_ => some k_ ≠ (s_.1 : Value).ownBlock ∧ k_ ≠ zA ∧ k_ ≠ zB ∧ k_ ≠ s_.2.2) s_.2.1 zg) ∧ (w'.heap[zA]? = some (.cells #[.int .i64 a0_0, .int .i64 a0_1, .slice A0_2 l0_2.length c0_2] 24 (0, 0))) ∧ (w'.heap[zB]? = some (.cells #[.int .i64 a1_0, .int .i64 a1_1, .slice A1_2 l1_2.length c1_2] 24 (0, 0))) ∧ (w'.heap[s_.2.2]? = some (.cells #[.int .i64 0, .int .i64 0, .slice none 0 0] 29 (0, 0))) ∧ (w.heap.size ≤ s_.2.2) ∧ (w.heap.size ≤ s_.2.2) ∧ (zA ≠ s_.2.2) ∧ (s_.2.2 ≠ zA) ∧ (zB ≠ s_.2.2) ∧ (s_.2.2 ≠ zB) ∧ (Below w.heap.size w w')) ?_ ?_
         rotate_left
         ·intro hJ1_3_4
          refine join_ (σ := Value × Value × Nat) 3 #[true, true, true, true, false, true, false, false] (fun s_ => [(24, .agg #[.int .i64 zQ, .int .i64 zR, s_.1]), (26, .agg #[.int .i64 zm, .int .i64 zo, s_.2.1]), (12, .pointer (some ⟨s_.2.2, 0, none⟩))]) (fun s_ w' => (w'.cell? ⟨zA, 0, none⟩ = some (.int .i64 a0_0) ∧ w'.cell? ⟨zA, 1, none⟩ = some (.int .i64 a0_1) ∧ w'.cell? ⟨zA, 2, none⟩ = some (.slice A0_2 l0_2.length c0_2) ∧ w'.cell? ⟨zB, 0, none⟩ = some (.int .i64 a1_0) ∧ w'.cell? ⟨zB, 1, none⟩ = some (.int .i64 a1_1) ∧ w'.cell? ⟨zB, 2, none⟩ = some (.slice A1_2 l1_2.length c1_2)) ∧ (Kd.N k29 29 w' w.heap.size (fun k_ => some k_ ≠ (s_.2.1 : Value).ownBlock ∧ k_ ≠ zA ∧ k_ ≠ zB ∧ k_ ≠ s_.2.2) s_.1 zL) ∧ (Kd.N k29 29 w' w.heap.size (fun k_ => some k_ ≠ (s_.1 : Value).ownBlock ∧ k_ ≠ zA ∧ k_ ≠ zB ∧ k_ ≠ s_.2.2) s_.2.1 zg) ∧ (w'.heap[zA]? = some (.cells #[.int .i64 a0_0, .int .i64 a0_1, .slice A0_2 l0_2.length c0_2] 24 (0, 0))) ∧ (w'.heap[zB]? = some (.cells #[.int .i64 a1_0, .int .i64 a1_1, .slice A1_2 l1_2.length c1_2] 24 (0, 0))) ∧ (w'.heap[s_.2.2]? = some (.cells #[.int .i64 0, .int .i64 0, .slice none 0 0] 29 (0, 0))) ∧ (w.heap.size ≤ s_.2.2) ∧ (w.heap.size ≤ s_.2.2) ∧ (zA ≠ s_.2.2) ∧ (s_.2.2 ≠ zA) ∧ (zB ≠ s_.2.2) ∧ (s_.2.2 ≠ zB) ∧ (Below w.heap.size w w')) ?_ ?_
          rotate_left
          ·intro hJ1_3_5
           refine join_ (σ := Value × Nat × Nat) 3 #[true, true, true, false, true, true, false, false] (fun s_ => [(24, .agg #[.int .i64 zQ, .int .i64 zR, s_.1]), (11, .pointer (some ⟨s_.2.1, 0, none⟩)), (12, .pointer (some ⟨s_.2.2, 0, none⟩))]) (fun s_ w' => (w'.cell? ⟨zA, 0, none⟩ = some (.int .i64 a0_0) ∧ w'.cell? ⟨zA, 1, none⟩ = some (.int .i64 a0_1) ∧ w'.cell? ⟨zA, 2, none⟩ = some (.slice A0_2 l0_2.length c0_2) ∧ w'.cell? ⟨zB, 0, none⟩ = some (.int .i64 a1_0) ∧ w'.cell? ⟨zB, 1, none⟩ = some (.int .i64 a1_1) ∧ w'.cell? ⟨zB, 2, none⟩ = some (.slice A1_2 l1_2.length c1_2)) ∧ (Kd.N k29 29 w' w.heap.size (fun k_ => k_ ≠ zA ∧ k_ ≠ zB ∧ k_ ≠ s_.2.1 ∧ k_ ≠ s_.2.2) s_.1 zL) ∧ (w'.heap[zA]? = some (.cells #[.int .i64 a0_0, .int .i64 a0_1, .slice A0_2 l0_2.length c0_2] 24 (0, 0))) ∧ (w'.heap[zB]? = some (.cells #[.int .i64 a1_0, .int .i64 a1_1, .slice A1_2 l1_2.length c1_2] 24 (0, 0))) ∧ (w'.heap[s_.2.1]? = some (.cells #[.int .i64 0, .int .i64 0, .slice none 0 0] 29 (0, 0))) ∧ (w'.heap[s_.2.2]? = some (.cells #[.int .i64 0, .int .i64 0, .slice none 0 0] 29 (0, 0))) ∧ (w.heap.size ≤ s_.2.1) ∧ (w.heap.size ≤ s_.2.1) ∧ (zA ≠ s_.2.1) ∧ (s_.2.1 ≠ zA) ∧ (zB ≠ s_.2.1) ∧ (s_.2.1 ≠ zB) ∧ (s_.2.2 ≠ s_.2.1) ∧ (s_.2.1 ≠ s_.2.2) ∧ (w.heap.size ≤ s_.2.2) ∧ (w.heap.size ≤ s_.2.2) ∧ (zA ≠ s_.2.2) ∧ (s_.2.2 ≠ zA) ∧ (zB ≠ s_.2.2) ∧ (s_.2.2 ≠ zB) ∧ (Below w.heap.size w w')) ?_ ?_
           rotate_left
           ·intro hJ1_4_5
            refine join_ (σ := Value × Value) 4 #[true, true, true, true, false, false, false, false] (fun s_ => [(24, .agg #[.int .i64 zQ, .int .i64 zR, s_.1]), (26, .agg #[.int .i64 zm, .int .i64 zo, s_.2])]) (fun s_ w' => (w'.cell? ⟨zA, 0, none⟩ = some (.int .i64 a0_0) ∧ w'.cell? ⟨zA, 1, none⟩ = some (.int .i64 a0_1) ∧ w'.cell? ⟨zA, 2, none⟩ = some (.slice A0_2 l0_2.length c0_2) ∧ w'.cell? ⟨zB, 0, none⟩ = some (.int .i64 a1_0) ∧ w'.cell? ⟨zB, 1, none⟩ = some (.int .i64 a1_1) ∧ w'.cell? ⟨zB, 2, none⟩ = some (.slice A1_2 l1_2.length c1_2)) ∧ (Kd.N k29 29 w' w.heap.size (fun k_ => some k_ ≠ (s_.2 : Value).ownBlock ∧ k_ ≠ zA ∧ k_ ≠ zB) s_.1 zL) ∧ (Kd.N k29 29 w' w.heap.size (fun k_ => some k_ ≠ (s_.1 : Value).ownBlock ∧ k_ ≠ zA ∧ k_ ≠ zB) s_.2 zg) ∧ (w'.heap[zA]? = some (.cells #[.int .i64 a0_0, .int .i64 a0_1, .slice A0_2 l0_2.length c0_2] 24 (0, 0))) ∧ (w'.heap[zB]? = some (.cells #[.int .i64 a1_0, .int .i64 a1_1, .slice A1_2 l1_2.length c1_2] 24 (0, 0))) ∧ (Below w.heap.size w w')) ?_ ?_
            rotate_left
            ·intro hJ1_3
             refine join_ (σ := Value × Nat) 4 #[true, true, true, false, true, false, false, false] (fun s_ => [(24, .agg #[.int .i64 zQ, .int .i64 zR, s_.1]), (11, .pointer (some ⟨s_.2, 0, none⟩))]) (fun s_ w' => (w'.cell? ⟨zA, 0, none⟩ = some (.int .i64 a0_0) ∧ w'.cell? ⟨zA, 1, none⟩ = some (.int .i64 a0_1) ∧ w'.cell? ⟨zA, 2, none⟩ = some (.slice A0_2 l0_2.length c0_2) ∧ w'.cell? ⟨zB, 0, none⟩ = some (.int .i64 a1_0) ∧ w'.cell? ⟨zB, 1, none⟩ = some (.int .i64 a1_1) ∧ w'.cell? ⟨zB, 2, none⟩ = some (.slice A1_2 l1_2.length c1_2)) ∧ (Kd.N k29 29 w' w.heap.size (fun k_ => k_ ≠ zA ∧ k_ ≠ zB ∧ k_ ≠ s_.2) s_.1 zL) ∧ (w'.heap[zA]? = some (.cells #[.int .i64 a0_0, .int .i64 a0_1, .slice A0_2 l0_2.length c0_2] 24 (0, 0))) ∧ (w'.heap[zB]? = some (.cells #[.int .i64 a1_0, .int .i64 a1_1, .slice A1_2 l1_2.length c1_2] 24 (0, 0))) ∧ (w'.heap[s_.2]? = some (.cells #[.int .i64 0, .int .i64 0, .slice none 0 0] 29 (0, 0))) ∧ (w.heap.size ≤ s_.2) ∧ (w.heap.size ≤ s_.2) ∧ (zA ≠ s_.2) ∧ (s_.2 ≠ zA) ∧ (zB ≠ s_.2) ∧ (s_.2 ≠ zB) ∧ (Below w.heap.size w w')) ?_ ?_
             rotate_left
             ·intro hJ1_4
              refine join_ (σ := Value × Nat) 4 #[true, true, true, false, false, true, false, false] (fun s_ => [(24, .agg #[.int .i64 zQ, .int .i64 zR, s_.1]), (12, .pointer (some ⟨s_.2, 0, none⟩))]) (fun s_ w' => (w'.cell? ⟨zA, 0, none⟩ = some (.int .i64 a0_0) ∧ w'.cell? ⟨zA, 1, none⟩ = some (.int .i64 a0_1) ∧ w'.cell? ⟨zA, 2, none⟩ = some (.slice A0_2 l0_2.length c0_2) ∧ w'.cell? ⟨zB, 0, none⟩ = some (.int .i64 a1_0) ∧ w'.cell? ⟨zB, 1, none⟩ = some (.int .i64 a1_1) ∧ w'.cell? ⟨zB, 2, none⟩ = some (.slice A1_2 l1_2.length c1_2)) ∧ (Kd.N k29 29 w' w.heap.size (fun k_ => k_ ≠ zA ∧ k_ ≠ zB ∧ k_ ≠ s_.2) s_.1 zL) ∧ (w'.heap[zA]? = some (.cells #[.int .i64 a0_0, .int .i64 a0_1, .slice A0_2 l0_2.length c0_2] 24 (0, 0))) ∧ (w'.heap[zB]? = some (.cells #[.int .i64 a1_0, .int .i64 a1_1, .slice A1_2 l1_2.length c1_2] 24 (0, 0))) ∧ (w'.heap[s_.2]? = some (.cells #[.int .i64 0, .int .i64 0, .slice none 0 0] 29 (0, 0))) ∧ (w.heap.size ≤ s_.2) ∧ (w.heap.size ≤ s_.2) ∧ (zA ≠ s_.2) ∧ (s_.2 ≠ zA) ∧ (zB ≠ s_.2) ∧ (s_.2 ≠ zB) ∧ (Below w.heap.size w w')) ?_ ?_
              rotate_left
              ·intro hJ1_5
               refine join_ (σ := Nat × Nat) 4 #[true, false, true, false, true, true, false, false] (fun s_ => [(11, .pointer (some ⟨s_.1, 0, none⟩)), (12, .pointer (some ⟨s_.2, 0, none⟩))]) (fun s_ w' => (w'.cell? ⟨zA, 0, none⟩ = some (.int .i64 a0_0) ∧ w'.cell? ⟨zA, 1, none⟩ = some (.int .i64 a0_1) ∧ w'.cell? ⟨zA, 2, none⟩ = some (.slice A0_2 l0_2.length c0_2) ∧ w'.cell? ⟨zB, 0, none⟩ = some (.int .i64 a1_0) ∧ w'.cell? ⟨zB, 1, none⟩ = some (.int .i64 a1_1) ∧ w'.cell? ⟨zB, 2, none⟩ = some (.slice A1_2 l1_2.length c1_2)) ∧ (w'.heap[zA]? = some (.cells #[.int .i64 a0_0, .int .i64 a0_1, .slice A0_2 l0_2.length c0_2] 24 (0, 0))) ∧ (w'.heap[zB]? = some (.cells #[.int .i64 a1_0, .int .i64 a1_1, .slice A1_2 l1_2.length c1_2] 24 (0, 0))) ∧ (w'.heap[s_.1]? = some (.cells #[.int .i64 0, .int .i64 0, .slice none 0 0] 29 (0, 0))) ∧ (w'.heap[s_.2]? = some (.cells #[.int .i64 0, .int .i64 0, .slice none 0 0] 29 (0, 0))) ∧ (w.heap.size ≤ s_.1) ∧ (w.heap.size ≤ s_.1) ∧ (zA ≠ s_.1) ∧ (s_.1 ≠ zA) ∧ (zB ≠ s_.1) ∧ (s_.1 ≠ zB) ∧ (s_.2 ≠ s_.1) ∧ (s_.1 ≠ s_.2) ∧ (w.heap.size ≤ s_.2) ∧ (w.heap.size ≤ s_.2) ∧ (zA ≠ s_.2) ∧ (s_.2 ≠ zA) ∧ (zB ≠ s_.2) ∧ (s_.2 ≠ zB) ∧ (Below w.heap.size w w')) ?_ ?_
               rotate_left
               ·intro hJ4_5
                refine join_ (σ := Value) 5 #[true, true, true, false, false, false, false, false] (fun s_ => [(24, .agg #[.int .i64 zQ, .int .i64 zR, s_])]) (fun s_ w' => (w'.cell? ⟨zA, 0, none⟩ = some (.int .i64 a0_0) ∧ w'.cell? ⟨zA, 1, none⟩ = some (.int .i64 a0_1) ∧ w'.cell? ⟨zA, 2, none⟩ = some (.slice A0_2 l0_2.length c0_2) ∧ w'.cell? ⟨zB, 0, none⟩ = some (.int .i64 a1_0) ∧ w'.cell? ⟨zB, 1, none⟩ = some (.int .i64 a1_1) ∧ w'.cell? ⟨zB, 2, none⟩ = some (.slice A1_2 l1_2.length c1_2)) ∧ (Kd.N k29 29 w' w.heap.size (fun k_ => k_ ≠ zA ∧ k_ ≠ zB) s_ zL) ∧ (w'.heap[zA]? = some (.cells #[.int .i64 a0_0, .int .i64 a0_1, .slice A0_2 l0_2.length c0_2] 24 (0, 0))) ∧ (w'.heap[zB]? = some (.cells #[.int .i64 a1_0, .int .i64 a1_1, .slice A1_2 l1_2.length c1_2] 24 (0, 0))) ∧ (Below w.heap.size w w')) ?_ ?_
                rotate_left
                ·intro hJ1
                 refine join_ (σ := Nat) 5 #[true, false, true, false, true, false, false, false] (fun s_ => [(11, .pointer (some ⟨s_, 0, none⟩))]) (fun s_ w' => (w'.cell? ⟨zA, 0, none⟩ = some (.int .i64 a0_0) ∧ w'.cell? ⟨zA, 1, none⟩ = some (.int .i64 a0_1) ∧ w'.cell? ⟨zA, 2, none⟩ = some (.slice A0_2 l0_2.length c0_2) ∧ w'.cell? ⟨zB, 0, none⟩ = some (.int .i64 a1_0) ∧ w'.cell? ⟨zB, 1, none⟩ = some (.int .i64 a1_1) ∧ w'.cell? ⟨zB, 2, none⟩ = some (.slice A1_2 l1_2.length c1_2)) ∧ (w'.heap[zA]? = some (.cells #[.int .i64 a0_0, .int .i64 a0_1, .slice A0_2 l0_2.length c0_2] 24 (0, 0))) ∧ (w'.heap[zB]? = some (.cells #[.int .i64 a1_0, .int .i64 a1_1, .slice A1_2 l1_2.length c1_2] 24 (0, 0))) ∧ (w'.heap[s_]? = some (.cells #[.int .i64 0, .int .i64 0, .slice none 0 0] 29 (0, 0))) ∧ (w.heap.size ≤ s_) ∧ (w.heap.size ≤ s_) ∧ (zA ≠ s_) ∧ (s_ ≠ zA) ∧ (zB ≠ s_) ∧ (s_ ≠ zB) ∧ (Below w.heap.size w w')) ?_ ?_
                 rotate_left
                 ·intro hJ4
                  refine join_ (σ := Nat) 5 #[true, false, true, false, false, true, false, false] (fun s_ => [(12, .pointer (some ⟨s_, 0, none⟩))]) (fun s_ w' => (w'.cell? ⟨zA, 0, none⟩ = some (.int .i64 a0_0) ∧ w'.cell? ⟨zA, 1, none⟩ = some (.int .i64 a0_1) ∧ w'.cell? ⟨zA, 2, none⟩ = some (.slice A0_2 l0_2.length c0_2) ∧ w'.cell? ⟨zB, 0, none⟩ = some (.int .i64 a1_0) ∧ w'.cell? ⟨zB, 1, none⟩ = some (.int .i64 a1_1) ∧ w'.cell? ⟨zB, 2, none⟩ = some (.slice A1_2 l1_2.length c1_2)) ∧ (w'.heap[zA]? = some (.cells #[.int .i64 a0_0, .int .i64 a0_1, .slice A0_2 l0_2.length c0_2] 24 (0, 0))) ∧ (w'.heap[zB]? = some (.cells #[.int .i64 a1_0, .int .i64 a1_1, .slice A1_2 l1_2.length c1_2] 24 (0, 0))) ∧ (w'.heap[s_]? = some (.cells #[.int .i64 0, .int .i64 0, .slice none 0 0] 29 (0, 0))) ∧ (w.heap.size ≤ s_) ∧ (w.heap.size ≤ s_) ∧ (zA ≠ s_) ∧ (s_ ≠ zA) ∧ (zB ≠ s_) ∧ (s_ ≠ zB) ∧ (Below w.heap.size w w')) ?_ ?_
                  rotate_left
                  ·intro hJ5
                   refine three_ (i := 1) (j := 4) (k := 5) (Ni := some 24) (Nj := some 11) (Nk := some 12) #[true, true, true, false, false, false, false, false] #[true, false, true, false, true, false, false, false] #[true, false, true, false, false, true, false, false] rfl rfl rfl rfl rfl rfl (three_of HT_.out (by kernel_rfl)) (by decide) (by decide) (by decide) (fun K hK => ?_) (fun K hK => ?_) (fun K hK => ?_)
                   ·skip
                    refine goes_ Tryd.func16 (by kernel_rfl) rfl #[.agg #[.int .i64 a0_0, .int .i64 a0_1, .slice A0_2 l0_2.length c0_2], .int .i64 6, .int .i64 4] (by rfl) rfl rfl (by (try simp only [List.map_toArray, List.map_cons, List.map_nil]); first | done | rfl | (simp only [List.length_drop, List.length_take]; rfl)) ?_
                    with_reducible refine (thyrsuslaw1_Make.calls zc a0_0 a0_1 _ _ l0_2 6 4 zQ zR zL _ ?side1 ?side2 A24.out).mono ?_
                    (case side1 => repeat (first | exact (Kd.C_below xS.out HB.out) | (with_reducible refine ac2 ?_ _) | (with_reducible refine ac3 ?_ _) | (with_reducible refine Kd.C_drew ?_)))
                    (case side2 => exact xT.out)
                    rintro e w44 ⟨zv, rfl, ho0, hb⟩
                    refine ⟨_, rfl, ?_⟩
                    have zd := am_ (Kd.N_lower (an5 (ok' := fun k_ => k_ ≠ zA ∧ k_ ≠ zB) (Kd.R_N (Kd.R_bound ho0)) (fun k_ hk_ => ⟨(af1 (g := zA) (o := .cells #[.int .i64 a0_0, .int .i64 a0_1, .slice A0_2 l0_2.length c0_2] 24 (0, 0)) (by (with_reducible repeat (first | apply aq1 | apply aq2 | apply aq3)); exact zC.out) k_ hk_.2.1), (af1 (g := zB) (o := .cells #[.int .i64 a1_0, .int .i64 a1_1, .slice A1_2 l1_2.length c1_2] 24 (0, 0)) (by (with_reducible repeat (first | apply aq1 | apply aq2 | apply aq3)); exact zD.out) k_ hk_.2.1)⟩)) (below_size (by repeat (first | (with_reducible first | exact HB.out | apply ab1 | apply ab2 | apply ab3 | refine ab4 ?_ zJ.out | refine ab4 ?_ zK.out) | exact HB.out))))
                    have ze := am_ (aq4 (g := zA) (o := .cells #[.int .i64 a0_0, .int .i64 a0_1, .slice A0_2 l0_2.length c0_2] 24 (0, 0)) (by (with_reducible repeat (first | apply aq1 | apply aq2 | apply aq3)); exact zC.out) hb)
                    have zf := am_ (aq4 (g := zB) (o := .cells #[.int .i64 a1_0, .int .i64 a1_1, .slice A1_2 l1_2.length c1_2] 24 (0, 0)) (by (with_reducible repeat (first | apply aq1 | apply aq2 | apply aq3)); exact zD.out) hb)
                    have zi := am_ (ab5 (by repeat (first | (with_reducible first | exact HB.out | apply ab1 | apply ab2 | apply ab3 | refine ab4 ?_ zJ.out | refine ab4 ?_ zK.out) | exact HB.out)) hb)
                    clear zC
                    clear zD
                    clear HB
                    have zI := zd
                    have zC := ze
                    have zD := zf
                    have HB := zi
                    clear zd ze zf zi
                    (try clear hb)
                    (try clear hb2)
                    (try clear hk)
                    (try clear hi)
                    (try clear ho0)
                    refine hK.out _ _ ⟨(aq7 zC.out 0).trans rfl, (aq7 zC.out 1).trans rfl, (aq7 zC.out 2).trans rfl, (aq7 zD.out 0).trans rfl, (aq7 zD.out 1).trans rfl, (aq7 zD.out 2).trans rfl⟩ (fun hHeld => ?_)
                    clear hK K
                    refine norm_ (a' := ?_) ?_ ?_
                    rotate_left
                    ·show Act.put _ (some 24) _ = _
                     simp only [Act.put, List.setIfInBounds_toArray, List.set_cons_zero, List.set_cons_succ, i64_w, i32_w, u8_w, u32_w]
                     rfl
                    exact norm_ (by first | (simp only [putAll, Act.put, List.setIfInBounds_toArray, List.set_cons_zero, List.set_cons_succ]; done) | (simp only [putAll, Act.put, List.setIfInBounds_toArray, List.set_cons_zero, List.set_cons_succ]; rfl)) (hJ1 (zv) _ ⟨hHeld, (by (with_reducible repeat (first | apply an1 | apply an2 | apply an3)); exact zI.out), (by (with_reducible repeat (first | apply aq1 | apply aq2 | apply aq3)); exact zC.out), (by (with_reducible repeat (first | apply aq1 | apply aq2 | apply aq3)); exact zD.out), (by repeat (first | (with_reducible first | exact HB.out | apply ab1 | apply ab2 | apply ab3 | refine ab4 ?_ zJ.out | refine ab4 ?_ zK.out) | exact HB.out))⟩)
                   ·skip
                    refine box_step ?hg (N := 11) ?hd (cs := #[.int .i64 0, .int .i64 0, .slice none 0 0]) (t := 29) ?hr ?_; (case hd => rfl); (case hg => rfl); (case hr => first | (go_simp; done) | (go_simp; rfl))
                    intro zE hg w44 hbox hb
                    have zd := am_ (aq4 (g := zA) (o := .cells #[.int .i64 a0_0, .int .i64 a0_1, .slice A0_2 l0_2.length c0_2] 24 (0, 0)) (by (with_reducible repeat (first | apply aq1 | apply aq2 | apply aq3)); exact zC.out) hb)
                    have ze := am_ (aq4 (g := zB) (o := .cells #[.int .i64 a1_0, .int .i64 a1_1, .slice A1_2 l1_2.length c1_2] 24 (0, 0)) (by (with_reducible repeat (first | apply aq1 | apply aq2 | apply aq3)); exact zD.out) hb)
                    have zf := am_ (ab5 (by repeat (first | (with_reducible first | exact HB.out | apply ab1 | apply ab2 | apply ab3 | refine ab4 ?_ zJ.out | refine ab4 ?_ zK.out) | exact HB.out)) hb)
                    have zi := am_ (hbox)
                    have zj := am_ ((by rw [hg]; exact (below_size (by repeat (first | (with_reducible first | exact HB.out | apply ab1 | apply ab2 | apply ab3 | refine ab4 ?_ zJ.out | refine ab4 ?_ zK.out) | exact HB.out))) : w.heap.size ≤ zE))
                    have zk := am_ ((by rw [hg]; exact (below_size (by repeat (first | (with_reducible first | exact HB.out | apply ab1 | apply ab2 | apply ab3 | refine ab4 ?_ zJ.out | refine ab4 ?_ zK.out) | exact HB.out))) : w.heap.size ≤ zE))
                    have zn := am_ ((by rw [hg]; exact Nat.ne_of_lt (blk_lt (g := zA) (o := .cells #[.int .i64 a0_0, .int .i64 a0_1, .slice A0_2 l0_2.length c0_2] 24 (0, 0)) (by (with_reducible repeat (first | apply aq1 | apply aq2 | apply aq3)); exact zC.out)) : zA ≠ zE))
                    have zs := am_ ((by rw [hg]; exact Nat.ne_of_gt (blk_lt (g := zA) (o := .cells #[.int .i64 a0_0, .int .i64 a0_1, .slice A0_2 l0_2.length c0_2] 24 (0, 0)) (by (with_reducible repeat (first | apply aq1 | apply aq2 | apply aq3)); exact zC.out)) : zE ≠ zA))
                    have zu := am_ ((by rw [hg]; exact Nat.ne_of_lt (blk_lt (g := zB) (o := .cells #[.int .i64 a1_0, .int .i64 a1_1, .slice A1_2 l1_2.length c1_2] 24 (0, 0)) (by (with_reducible repeat (first | apply aq1 | apply aq2 | apply aq3)); exact zD.out)) : zB ≠ zE))
                    have zy := am_ ((by rw [hg]; exact Nat.ne_of_gt (blk_lt (g := zB) (o := .cells #[.int .i64 a1_0, .int .i64 a1_1, .slice A1_2 l1_2.length c1_2] 24 (0, 0)) (by (with_reducible repeat (first | apply aq1 | apply aq2 | apply aq3)); exact zD.out)) : zE ≠ zB))
                    clear zC
                    clear zD
                    clear HB
                    have zC := zd
                    have zD := ze
                    have HB := zf
                    have zG := zi
                    have z2 := zj
                    have zU := zk
                    have zM := zn
                    have zW := zs
                    have zN := zu
                    have zX := zy
                    clear zd ze zf zi zj zk zn zs zu zy
                    clear hb hbox hg
                    refine hK.out _ _ ⟨(aq7 zC.out 0).trans rfl, (aq7 zC.out 1).trans rfl, (aq7 zC.out 2).trans rfl, (aq7 zD.out 0).trans rfl, (aq7 zD.out 1).trans rfl, (aq7 zD.out 2).trans rfl⟩ (fun hHeld => ?_)
                    clear hK K
                    refine norm_ (a' := ?_) ?_ ?_
                    rotate_left
                    ·show Act.put _ (some 11) _ = _
                     simp only [Act.put, List.setIfInBounds_toArray, List.set_cons_zero, List.set_cons_succ, i64_w, i32_w, u8_w, u32_w]
                     rfl
                    exact norm_ (by first | (simp only [putAll, Act.put, List.setIfInBounds_toArray, List.set_cons_zero, List.set_cons_succ]; done) | (simp only [putAll, Act.put, List.setIfInBounds_toArray, List.set_cons_zero, List.set_cons_succ]; rfl)) (hJ4 (zE) _ ⟨hHeld, (by (with_reducible repeat (first | apply aq1 | apply aq2 | apply aq3)); exact zC.out), (by (with_reducible repeat (first | apply aq1 | apply aq2 | apply aq3)); exact zD.out), (by (with_reducible repeat (first | apply aq1 | apply aq2 | apply aq3)); exact zG.out), z2.out, zU.out, zM.out, zW.out, zN.out, zX.out, (by repeat (first | (with_reducible first | exact HB.out | apply ab1 | apply ab2 | apply ab3 | refine ab4 ?_ zJ.out | refine ab4 ?_ zK.out | refine ab4 ?_ zU.out) | exact HB.out))⟩)
                   ·skip
                    refine box_step ?hg (N := 12) ?hd (cs := #[.int .i64 0, .int .i64 0, .slice none 0 0]) (t := 29) ?hr ?_; (case hd => rfl); (case hg => rfl); (case hr => first | (go_simp; done) | (go_simp; rfl))
                    intro zF hg w44 hbox hb
                    have zd := am_ (aq4 (g := zA) (o := .cells #[.int .i64 a0_0, .int .i64 a0_1, .slice A0_2 l0_2.length c0_2] 24 (0, 0)) (by (with_reducible repeat (first | apply aq1 | apply aq2 | apply aq3)); exact zC.out) hb)
                    have ze := am_ (aq4 (g := zB) (o := .cells #[.int .i64 a1_0, .int .i64 a1_1, .slice A1_2 l1_2.length c1_2] 24 (0, 0)) (by (with_reducible repeat (first | apply aq1 | apply aq2 | apply aq3)); exact zD.out) hb)
                    have zf := am_ (ab5 (by repeat (first | (with_reducible first | exact HB.out | apply ab1 | apply ab2 | apply ab3 | refine ab4 ?_ zJ.out | refine ab4 ?_ zK.out) | exact HB.out)) hb)
                    have zi := am_ (hbox)
                    have zj := am_ ((by rw [hg]; exact (below_size (by repeat (first | (with_reducible first | exact HB.out | apply ab1 | apply ab2 | apply ab3 | refine ab4 ?_ zJ.out | refine ab4 ?_ zK.out) | exact HB.out))) : w.heap.size ≤ zF))
                    have zk := am_ ((by rw [hg]; exact (below_size (by repeat (first | (with_reducible first | exact HB.out | apply ab1 | apply ab2 | apply ab3 | refine ab4 ?_ zJ.out | refine ab4 ?_ zK.out) | exact HB.out))) : w.heap.size ≤ zF))
                    have zn := am_ ((by rw [hg]; exact Nat.ne_of_lt (blk_lt (g := zA) (o := .cells #[.int .i64 a0_0, .int .i64 a0_1, .slice A0_2 l0_2.length c0_2] 24 (0, 0)) (by (with_reducible repeat (first | apply aq1 | apply aq2 | apply aq3)); exact zC.out)) : zA ≠ zF))
                    have zs := am_ ((by rw [hg]; exact Nat.ne_of_gt (blk_lt (g := zA) (o := .cells #[.int .i64 a0_0, .int .i64 a0_1, .slice A0_2 l0_2.length c0_2] 24 (0, 0)) (by (with_reducible repeat (first | apply aq1 | apply aq2 | apply aq3)); exact zC.out)) : zF ≠ zA))
                    have zu := am_ ((by rw [hg]; exact Nat.ne_of_lt (blk_lt (g := zB) (o := .cells #[.int .i64 a1_0, .int .i64 a1_1, .slice A1_2 l1_2.length c1_2] 24 (0, 0)) (by (with_reducible repeat (first | apply aq1 | apply aq2 | apply aq3)); exact zD.out)) : zB ≠ zF))
                    have zy := am_ ((by rw [hg]; exact Nat.ne_of_gt (blk_lt (g := zB) (o := .cells #[.int .i64 a1_0, .int .i64 a1_1, .slice A1_2 l1_2.length c1_2] 24 (0, 0)) (by (with_reducible repeat (first | apply aq1 | apply aq2 | apply aq3)); exact zD.out)) : zF ≠ zB))
                    clear zC
                    clear zD
                    clear HB
                    have zC := zd
                    have zD := ze
                    have HB := zf
                    have zH := zi
                    have z3 := zj
                    have zV := zk
                    have zO := zn
                    have zY := zs
                    have zP := zu
                    have zZ := zy
                    clear zd ze zf zi zj zk zn zs zu zy
                    clear hb hbox hg
                    refine hK.out _ _ ⟨(aq7 zC.out 0).trans rfl, (aq7 zC.out 1).trans rfl, (aq7 zC.out 2).trans rfl, (aq7 zD.out 0).trans rfl, (aq7 zD.out 1).trans rfl, (aq7 zD.out 2).trans rfl⟩ (fun hHeld => ?_)
                    clear hK K
                    refine norm_ (a' := ?_) ?_ ?_
                    rotate_left
                    ·show Act.put _ (some 12) _ = _
                     simp only [Act.put, List.setIfInBounds_toArray, List.set_cons_zero, List.set_cons_succ, i64_w, i32_w, u8_w, u32_w]
                     rfl
                    exact norm_ (by first | (simp only [putAll, Act.put, List.setIfInBounds_toArray, List.set_cons_zero, List.set_cons_succ]; done) | (simp only [putAll, Act.put, List.setIfInBounds_toArray, List.set_cons_zero, List.set_cons_succ]; rfl)) (hJ5 (zF) _ ⟨hHeld, (by (with_reducible repeat (first | apply aq1 | apply aq2 | apply aq3)); exact zC.out), (by (with_reducible repeat (first | apply aq1 | apply aq2 | apply aq3)); exact zD.out), (by (with_reducible repeat (first | apply aq1 | apply aq2 | apply aq3)); exact zH.out), z3.out, zV.out, zO.out, zY.out, zP.out, zZ.out, (by repeat (first | (with_reducible first | exact HB.out | apply ab1 | apply ab2 | apply ab3 | refine ab4 ?_ zJ.out | refine ab4 ?_ zK.out | refine ab4 ?_ zV.out) | exact HB.out))⟩)
                  ·skip
                   rintro zF xH ⟨hS_, h0_, h1_, h2_, h3_, h4_, h5_, h6_, h7_, h8_, h9_⟩
                   have zd : Aside0 (xH.heap[zA]? = some (.cells #[.int .i64 a0_0, .int .i64 a0_1, .slice A0_2 l0_2.length c0_2] 24 (0, 0))) := ⟨h0_⟩
                   have ze : Aside0 (xH.heap[zB]? = some (.cells #[.int .i64 a1_0, .int .i64 a1_1, .slice A1_2 l1_2.length c1_2] 24 (0, 0))) := ⟨h1_⟩
                   have zf : Aside0 (xH.heap[zF]? = some (.cells #[.int .i64 0, .int .i64 0, .slice none 0 0] 29 (0, 0))) := ⟨h2_⟩
                   have zi : Aside0 (w.heap.size ≤ zF) := ⟨h3_⟩
                   have zj : Aside0 (w.heap.size ≤ zF) := ⟨h4_⟩
                   have zk : Aside0 (zA ≠ zF) := ⟨h5_⟩
                   have zn : Aside0 (zF ≠ zA) := ⟨h6_⟩
                   have zs : Aside0 (zB ≠ zF) := ⟨h7_⟩
                   have zu : Aside0 (zF ≠ zB) := ⟨h8_⟩
                   have zy : Aside0 (Below w.heap.size w xH) := ⟨h9_⟩
                   clear zC
                   clear zD
                   clear HB
                   clear h0_ h1_ h2_ h3_ h4_ h5_ h6_ h7_ h8_ h9_
                   have zC := zd
                   have zD := ze
                   have zH := zf
                   have z3 := zi
                   have zV := zj
                   have zO := zk
                   have zY := zn
                   have zP := zs
                   have zZ := zu
                   have HB := zy
                   clear zd ze zf zi zj zk zn zs zu zy
                   have hHeld : xH.cell? ⟨zA, 0, none⟩ = some (.int .i64 a0_0) ∧ xH.cell? ⟨zA, 1, none⟩ = some (.int .i64 a0_1) ∧ xH.cell? ⟨zA, 2, none⟩ = some (.slice A0_2 l0_2.length c0_2) ∧ xH.cell? ⟨zB, 0, none⟩ = some (.int .i64 a1_0) ∧ xH.cell? ⟨zB, 1, none⟩ = some (.int .i64 a1_1) ∧ xH.cell? ⟨zB, 2, none⟩ = some (.slice A1_2 l1_2.length c1_2) := hS_
                   refine norm_ (a' := ?_) ?_ ?_
                   rotate_left
                   ·simp only [putAll, Act.put, List.setIfInBounds_toArray, List.set_cons_zero, List.set_cons_succ]
                    rfl
                   refine two_ (i := 1) (j := 4) (Ni := some 24) (Nj := some 11) #[true, true, true, false, false, true, false, false] #[true, false, true, false, true, true, false, false] rfl rfl rfl rfl (two_of HT_.out (by kernel_rfl)) (by decide) (by decide) (fun K hK => ?_) (fun K hK => ?_)
                   ·skip
                    refine goes_ Tryd.func16 (by kernel_rfl) rfl #[.agg #[.int .i64 a0_0, .int .i64 a0_1, .slice A0_2 l0_2.length c0_2], .int .i64 6, .int .i64 4] (by rfl) rfl rfl (by (try simp only [List.map_toArray, List.map_cons, List.map_nil]); first | done | rfl | (simp only [List.length_drop, List.length_take]; rfl)) ?_
                    with_reducible refine (thyrsuslaw1_Make.calls zc a0_0 a0_1 _ _ l0_2 6 4 zQ zR zL _ ?side1 ?side2 A24.out).mono ?_
                    (case side1 => repeat (first | exact (Kd.C_below xS.out HB.out) | (with_reducible refine ac2 ?_ _) | (with_reducible refine ac3 ?_ _) | (with_reducible refine Kd.C_drew ?_)))
                    (case side2 => exact xT.out)
                    rintro e z8 ⟨zv, rfl, ho0, hb⟩
                    refine ⟨_, rfl, ?_⟩
                    have zd := am_ (Kd.N_lower (an5 (ok' := fun k_ => k_ ≠ zA ∧ k_ ≠ zB ∧ k_ ≠ zF) (Kd.R_N (Kd.R_bound ho0)) (fun k_ hk_ => ⟨(af1 (g := zA) (o := .cells #[.int .i64 a0_0, .int .i64 a0_1, .slice A0_2 l0_2.length c0_2] 24 (0, 0)) (by (with_reducible repeat (first | apply aq1 | apply aq2 | apply aq3)); exact zC.out) k_ hk_.2.1), (af1 (g := zB) (o := .cells #[.int .i64 a1_0, .int .i64 a1_1, .slice A1_2 l1_2.length c1_2] 24 (0, 0)) (by (with_reducible repeat (first | apply aq1 | apply aq2 | apply aq3)); exact zD.out) k_ hk_.2.1), (af1 (g := zF) (o := .cells #[.int .i64 0, .int .i64 0, .slice none 0 0] 29 (0, 0)) (by (with_reducible repeat (first | apply aq1 | apply aq2 | apply aq3)); exact zH.out) k_ hk_.2.1)⟩)) (below_size (by repeat (first | (with_reducible first | exact HB.out | apply ab1 | apply ab2 | apply ab3 | refine ab4 ?_ zJ.out | refine ab4 ?_ zK.out | refine ab4 ?_ zV.out) | exact HB.out))))
                    have ze := am_ (aq4 (g := zA) (o := .cells #[.int .i64 a0_0, .int .i64 a0_1, .slice A0_2 l0_2.length c0_2] 24 (0, 0)) (by (with_reducible repeat (first | apply aq1 | apply aq2 | apply aq3)); exact zC.out) hb)
                    have zf := am_ (aq4 (g := zB) (o := .cells #[.int .i64 a1_0, .int .i64 a1_1, .slice A1_2 l1_2.length c1_2] 24 (0, 0)) (by (with_reducible repeat (first | apply aq1 | apply aq2 | apply aq3)); exact zD.out) hb)
                    have zi := am_ (aq4 (g := zF) (o := .cells #[.int .i64 0, .int .i64 0, .slice none 0 0] 29 (0, 0)) (by (with_reducible repeat (first | apply aq1 | apply aq2 | apply aq3)); exact zH.out) hb)
                    have zj := am_ (ab5 (by repeat (first | (with_reducible first | exact HB.out | apply ab1 | apply ab2 | apply ab3 | refine ab4 ?_ zJ.out | refine ab4 ?_ zK.out | refine ab4 ?_ zV.out) | exact HB.out)) hb)
                    clear zC
                    clear zD
                    clear zH
                    clear HB
                    have zI := zd
                    have zC := ze
                    have zD := zf
                    have zH := zi
                    have HB := zj
                    clear zd ze zf zi zj
                    (try clear hb)
                    (try clear hb2)
                    (try clear hk)
                    (try clear hi)
                    (try clear ho0)
                    refine hK.out _ _ ⟨(aq7 zC.out 0).trans rfl, (aq7 zC.out 1).trans rfl, (aq7 zC.out 2).trans rfl, (aq7 zD.out 0).trans rfl, (aq7 zD.out 1).trans rfl, (aq7 zD.out 2).trans rfl⟩ (fun hHeld => ?_)
                    clear hK K
                    refine norm_ (a' := ?_) ?_ ?_
                    rotate_left
                    ·show Act.put _ (some 24) _ = _
                     simp only [Act.put, List.setIfInBounds_toArray, List.set_cons_zero, List.set_cons_succ, i64_w, i32_w, u8_w, u32_w]
                     rfl
                    exact norm_ (by first | (simp only [putAll, Act.put, List.setIfInBounds_toArray, List.set_cons_zero, List.set_cons_succ]; done) | (simp only [putAll, Act.put, List.setIfInBounds_toArray, List.set_cons_zero, List.set_cons_succ]; rfl)) (hJ1_5 (zv, zF) _ ⟨hHeld, (by (with_reducible repeat (first | apply an1 | apply an2 | apply an3)); exact zI.out), (by (with_reducible repeat (first | apply aq1 | apply aq2 | apply aq3)); exact zC.out), (by (with_reducible repeat (first | apply aq1 | apply aq2 | apply aq3)); exact zD.out), (by (with_reducible repeat (first | apply aq1 | apply aq2 | apply aq3)); exact zH.out), z3.out, zV.out, zO.out, zY.out, zP.out, zZ.out, (by repeat (first | (with_reducible first | exact HB.out | apply ab1 | apply ab2 | apply ab3 | refine ab4 ?_ zJ.out | refine ab4 ?_ zK.out | refine ab4 ?_ zV.out) | exact HB.out))⟩)
                   ·skip
                    refine box_step ?hg (N := 11) ?hd (cs := #[.int .i64 0, .int .i64 0, .slice none 0 0]) (t := 29) ?hr ?_; (case hd => rfl); (case hg => rfl); (case hr => first | (go_simp; done) | (go_simp; rfl))
                    intro zE hg z8 hbox hb
                    have zd := am_ (aq4 (g := zA) (o := .cells #[.int .i64 a0_0, .int .i64 a0_1, .slice A0_2 l0_2.length c0_2] 24 (0, 0)) (by (with_reducible repeat (first | apply aq1 | apply aq2 | apply aq3)); exact zC.out) hb)
                    have ze := am_ (aq4 (g := zB) (o := .cells #[.int .i64 a1_0, .int .i64 a1_1, .slice A1_2 l1_2.length c1_2] 24 (0, 0)) (by (with_reducible repeat (first | apply aq1 | apply aq2 | apply aq3)); exact zD.out) hb)
                    have zf := am_ (aq4 (g := zF) (o := .cells #[.int .i64 0, .int .i64 0, .slice none 0 0] 29 (0, 0)) (by (with_reducible repeat (first | apply aq1 | apply aq2 | apply aq3)); exact zH.out) hb)
                    have zi := am_ (ab5 (by repeat (first | (with_reducible first | exact HB.out | apply ab1 | apply ab2 | apply ab3 | refine ab4 ?_ zJ.out | refine ab4 ?_ zK.out | refine ab4 ?_ zV.out) | exact HB.out)) hb)
                    have zj := am_ (hbox)
                    have zk := am_ ((by rw [hg]; exact (below_size (by repeat (first | (with_reducible first | exact HB.out | apply ab1 | apply ab2 | apply ab3 | refine ab4 ?_ zJ.out | refine ab4 ?_ zK.out | refine ab4 ?_ zV.out) | exact HB.out))) : w.heap.size ≤ zE))
                    have zn := am_ ((by rw [hg]; exact (below_size (by repeat (first | (with_reducible first | exact HB.out | apply ab1 | apply ab2 | apply ab3 | refine ab4 ?_ zJ.out | refine ab4 ?_ zK.out | refine ab4 ?_ zV.out) | exact HB.out))) : w.heap.size ≤ zE))
                    have zs := am_ ((by rw [hg]; exact Nat.ne_of_lt (blk_lt (g := zA) (o := .cells #[.int .i64 a0_0, .int .i64 a0_1, .slice A0_2 l0_2.length c0_2] 24 (0, 0)) (by (with_reducible repeat (first | apply aq1 | apply aq2 | apply aq3)); exact zC.out)) : zA ≠ zE))
                    have zu := am_ ((by rw [hg]; exact Nat.ne_of_gt (blk_lt (g := zA) (o := .cells #[.int .i64 a0_0, .int .i64 a0_1, .slice A0_2 l0_2.length c0_2] 24 (0, 0)) (by (with_reducible repeat (first | apply aq1 | apply aq2 | apply aq3)); exact zC.out)) : zE ≠ zA))
                    have zy := am_ ((by rw [hg]; exact Nat.ne_of_lt (blk_lt (g := zB) (o := .cells #[.int .i64 a1_0, .int .i64 a1_1, .slice A1_2 l1_2.length c1_2] 24 (0, 0)) (by (with_reducible repeat (first | apply aq1 | apply aq2 | apply aq3)); exact zD.out)) : zB ≠ zE))
                    have zh := am_ ((by rw [hg]; exact Nat.ne_of_gt (blk_lt (g := zB) (o := .cells #[.int .i64 a1_0, .int .i64 a1_1, .slice A1_2 l1_2.length c1_2] 24 (0, 0)) (by (with_reducible repeat (first | apply aq1 | apply aq2 | apply aq3)); exact zD.out)) : zE ≠ zB))
                    have zp := am_ ((by rw [hg]; exact Nat.ne_of_lt (blk_lt (g := zF) (o := .cells #[.int .i64 0, .int .i64 0, .slice none 0 0] 29 (0, 0)) (by (with_reducible repeat (first | apply aq1 | apply aq2 | apply aq3)); exact zH.out)) : zF ≠ zE))
                    have z1 := am_ ((by rw [hg]; exact Nat.ne_of_gt (blk_lt (g := zF) (o := .cells #[.int .i64 0, .int .i64 0, .slice none 0 0] 29 (0, 0)) (by (with_reducible repeat (first | apply aq1 | apply aq2 | apply aq3)); exact zH.out)) : zE ≠ zF))
                    clear zC
                    clear zD
                    clear zH
                    clear HB
                    have zC := zd
                    have zD := ze
                    have zH := zf
                    have HB := zi
                    have zG := zj
                    have z2 := zk
                    have zU := zn
                    have zM := zs
                    have zW := zu
                    have zN := zy
                    have zX := zh
                    have za := zp
                    have zb := z1
                    clear zd ze zf zi zj zk zn zs zu zy zh zp z1
                    clear hb hbox hg
                    refine hK.out _ _ ⟨(aq7 zC.out 0).trans rfl, (aq7 zC.out 1).trans rfl, (aq7 zC.out 2).trans rfl, (aq7 zD.out 0).trans rfl, (aq7 zD.out 1).trans rfl, (aq7 zD.out 2).trans rfl⟩ (fun hHeld => ?_)
                    clear hK K
                    refine norm_ (a' := ?_) ?_ ?_
                    rotate_left
                    ·show Act.put _ (some 11) _ = _
                     simp only [Act.put, List.setIfInBounds_toArray, List.set_cons_zero, List.set_cons_succ, i64_w, i32_w, u8_w, u32_w]
                     rfl
                    exact norm_ (by first | (simp only [putAll, Act.put, List.setIfInBounds_toArray, List.set_cons_zero, List.set_cons_succ]; done) | (simp only [putAll, Act.put, List.setIfInBounds_toArray, List.set_cons_zero, List.set_cons_succ]; rfl)) (hJ4_5 (zE, zF) _ ⟨hHeld, (by (with_reducible repeat (first | apply aq1 | apply aq2 | apply aq3)); exact zC.out), (by (with_reducible repeat (first | apply aq1 | apply aq2 | apply aq3)); exact zD.out), (by (with_reducible repeat (first | apply aq1 | apply aq2 | apply aq3)); exact zG.out), (by (with_reducible repeat (first | apply aq1 | apply aq2 | apply aq3)); exact zH.out), z2.out, zU.out, zM.out, zW.out, zN.out, zX.out, za.out, zb.out, z3.out, zV.out, zO.out, zY.out, zP.out, zZ.out, (by repeat (first | (with_reducible first | exact HB.out | apply ab1 | apply ab2 | apply ab3 | refine ab4 ?_ zJ.out | refine ab4 ?_ zK.out | refine ab4 ?_ zV.out | refine ab4 ?_ zU.out) | exact HB.out))⟩)
                 ·skip
                  rintro zE xH ⟨hS_, h0_, h1_, h2_, h3_, h4_, h5_, h6_, h7_, h8_, h9_⟩
                  have zd : Aside0 (xH.heap[zA]? = some (.cells #[.int .i64 a0_0, .int .i64 a0_1, .slice A0_2 l0_2.length c0_2] 24 (0, 0))) := ⟨h0_⟩
                  have ze : Aside0 (xH.heap[zB]? = some (.cells #[.int .i64 a1_0, .int .i64 a1_1, .slice A1_2 l1_2.length c1_2] 24 (0, 0))) := ⟨h1_⟩
                  have zf : Aside0 (xH.heap[zE]? = some (.cells #[.int .i64 0, .int .i64 0, .slice none 0 0] 29 (0, 0))) := ⟨h2_⟩
                  have zi : Aside0 (w.heap.size ≤ zE) := ⟨h3_⟩
                  have zj : Aside0 (w.heap.size ≤ zE) := ⟨h4_⟩
                  have zk : Aside0 (zA ≠ zE) := ⟨h5_⟩
                  have zn : Aside0 (zE ≠ zA) := ⟨h6_⟩
                  have zs : Aside0 (zB ≠ zE) := ⟨h7_⟩
                  have zu : Aside0 (zE ≠ zB) := ⟨h8_⟩
                  have zy : Aside0 (Below w.heap.size w xH) := ⟨h9_⟩
                  clear zC
                  clear zD
                  clear HB
                  clear h0_ h1_ h2_ h3_ h4_ h5_ h6_ h7_ h8_ h9_
                  have zC := zd
                  have zD := ze
                  have zG := zf
                  have z2 := zi
                  have zU := zj
                  have zM := zk
                  have zW := zn
                  have zN := zs
                  have zX := zu
                  have HB := zy
                  clear zd ze zf zi zj zk zn zs zu zy
                  have hHeld : xH.cell? ⟨zA, 0, none⟩ = some (.int .i64 a0_0) ∧ xH.cell? ⟨zA, 1, none⟩ = some (.int .i64 a0_1) ∧ xH.cell? ⟨zA, 2, none⟩ = some (.slice A0_2 l0_2.length c0_2) ∧ xH.cell? ⟨zB, 0, none⟩ = some (.int .i64 a1_0) ∧ xH.cell? ⟨zB, 1, none⟩ = some (.int .i64 a1_1) ∧ xH.cell? ⟨zB, 2, none⟩ = some (.slice A1_2 l1_2.length c1_2) := hS_
                  refine norm_ (a' := ?_) ?_ ?_
                  rotate_left
                  ·simp only [putAll, Act.put, List.setIfInBounds_toArray, List.set_cons_zero, List.set_cons_succ]
                   rfl
                  refine two_ (i := 1) (j := 5) (Ni := some 24) (Nj := some 12) #[true, true, true, false, true, false, false, false] #[true, false, true, false, true, true, false, false] rfl rfl rfl rfl (two_of HT_.out (by kernel_rfl)) (by decide) (by decide) (fun K hK => ?_) (fun K hK => ?_)
                  ·skip
                   refine goes_ Tryd.func16 (by kernel_rfl) rfl #[.agg #[.int .i64 a0_0, .int .i64 a0_1, .slice A0_2 l0_2.length c0_2], .int .i64 6, .int .i64 4] (by rfl) rfl rfl (by (try simp only [List.map_toArray, List.map_cons, List.map_nil]); first | done | rfl | (simp only [List.length_drop, List.length_take]; rfl)) ?_
                   with_reducible refine (thyrsuslaw1_Make.calls zc a0_0 a0_1 _ _ l0_2 6 4 zQ zR zL _ ?side1 ?side2 A24.out).mono ?_
                   (case side1 => repeat (first | exact (Kd.C_below xS.out HB.out) | (with_reducible refine ac2 ?_ _) | (with_reducible refine ac3 ?_ _) | (with_reducible refine Kd.C_drew ?_)))
                   (case side2 => exact xT.out)
                   rintro e z8 ⟨zv, rfl, ho0, hb⟩
                   refine ⟨_, rfl, ?_⟩
                   have zd := am_ (Kd.N_lower (an5 (ok' := fun k_ => k_ ≠ zA ∧ k_ ≠ zB ∧ k_ ≠ zE) (Kd.R_N (Kd.R_bound ho0)) (fun k_ hk_ => ⟨(af1 (g := zA) (o := .cells #[.int .i64 a0_0, .int .i64 a0_1, .slice A0_2 l0_2.length c0_2] 24 (0, 0)) (by (with_reducible repeat (first | apply aq1 | apply aq2 | apply aq3)); exact zC.out) k_ hk_.2.1), (af1 (g := zB) (o := .cells #[.int .i64 a1_0, .int .i64 a1_1, .slice A1_2 l1_2.length c1_2] 24 (0, 0)) (by (with_reducible repeat (first | apply aq1 | apply aq2 | apply aq3)); exact zD.out) k_ hk_.2.1), (af1 (g := zE) (o := .cells #[.int .i64 0, .int .i64 0, .slice none 0 0] 29 (0, 0)) (by (with_reducible repeat (first | apply aq1 | apply aq2 | apply aq3)); exact zG.out) k_ hk_.2.1)⟩)) (below_size (by repeat (first | (with_reducible first | exact HB.out | apply ab1 | apply ab2 | apply ab3 | refine ab4 ?_ zJ.out | refine ab4 ?_ zK.out | refine ab4 ?_ zU.out) | exact HB.out))))
                   have ze := am_ (aq4 (g := zA) (o := .cells #[.int .i64 a0_0, .int .i64 a0_1, .slice A0_2 l0_2.length c0_2] 24 (0, 0)) (by (with_reducible repeat (first | apply aq1 | apply aq2 | apply aq3)); exact zC.out) hb)
                   have zf := am_ (aq4 (g := zB) (o := .cells #[.int .i64 a1_0, .int .i64 a1_1, .slice A1_2 l1_2.length c1_2] 24 (0, 0)) (by (with_reducible repeat (first | apply aq1 | apply aq2 | apply aq3)); exact zD.out) hb)
                   have zi := am_ (aq4 (g := zE) (o := .cells #[.int .i64 0, .int .i64 0, .slice none 0 0] 29 (0, 0)) (by (with_reducible repeat (first | apply aq1 | apply aq2 | apply aq3)); exact zG.out) hb)
                   have zj := am_ (ab5 (by repeat (first | (with_reducible first | exact HB.out | apply ab1 | apply ab2 | apply ab3 | refine ab4 ?_ zJ.out | refine ab4 ?_ zK.out | refine ab4 ?_ zU.out) | exact HB.out)) hb)
                   clear zC
                   clear zD
                   clear zG
                   clear HB
                   have zI := zd
                   have zC := ze
                   have zD := zf
                   have zG := zi
                   have HB := zj
                   clear zd ze zf zi zj
                   (try clear hb)
                   (try clear hb2)
                   (try clear hk)
                   (try clear hi)
                   (try clear ho0)
                   refine hK.out _ _ ⟨(aq7 zC.out 0).trans rfl, (aq7 zC.out 1).trans rfl, (aq7 zC.out 2).trans rfl, (aq7 zD.out 0).trans rfl, (aq7 zD.out 1).trans rfl, (aq7 zD.out 2).trans rfl⟩ (fun hHeld => ?_)
                   clear hK K
                   refine norm_ (a' := ?_) ?_ ?_
                   rotate_left
                   ·show Act.put _ (some 24) _ = _
                    simp only [Act.put, List.setIfInBounds_toArray, List.set_cons_zero, List.set_cons_succ, i64_w, i32_w, u8_w, u32_w]
                    rfl
                   exact norm_ (by first | (simp only [putAll, Act.put, List.setIfInBounds_toArray, List.set_cons_zero, List.set_cons_succ]; done) | (simp only [putAll, Act.put, List.setIfInBounds_toArray, List.set_cons_zero, List.set_cons_succ]; rfl)) (hJ1_4 (zv, zE) _ ⟨hHeld, (by (with_reducible repeat (first | apply an1 | apply an2 | apply an3)); exact zI.out), (by (with_reducible repeat (first | apply aq1 | apply aq2 | apply aq3)); exact zC.out), (by (with_reducible repeat (first | apply aq1 | apply aq2 | apply aq3)); exact zD.out), (by (with_reducible repeat (first | apply aq1 | apply aq2 | apply aq3)); exact zG.out), z2.out, zU.out, zM.out, zW.out, zN.out, zX.out, (by repeat (first | (with_reducible first | exact HB.out | apply ab1 | apply ab2 | apply ab3 | refine ab4 ?_ zJ.out | refine ab4 ?_ zK.out | refine ab4 ?_ zU.out) | exact HB.out))⟩)
                  ·skip
                   refine box_step ?hg (N := 12) ?hd (cs := #[.int .i64 0, .int .i64 0, .slice none 0 0]) (t := 29) ?hr ?_; (case hd => rfl); (case hg => rfl); (case hr => first | (go_simp; done) | (go_simp; rfl))
                   intro zF hg z8 hbox hb
                   have zd := am_ (aq4 (g := zA) (o := .cells #[.int .i64 a0_0, .int .i64 a0_1, .slice A0_2 l0_2.length c0_2] 24 (0, 0)) (by (with_reducible repeat (first | apply aq1 | apply aq2 | apply aq3)); exact zC.out) hb)
                   have ze := am_ (aq4 (g := zB) (o := .cells #[.int .i64 a1_0, .int .i64 a1_1, .slice A1_2 l1_2.length c1_2] 24 (0, 0)) (by (with_reducible repeat (first | apply aq1 | apply aq2 | apply aq3)); exact zD.out) hb)
                   have zf := am_ (aq4 (g := zE) (o := .cells #[.int .i64 0, .int .i64 0, .slice none 0 0] 29 (0, 0)) (by (with_reducible repeat (first | apply aq1 | apply aq2 | apply aq3)); exact zG.out) hb)
                   have zi := am_ (ab5 (by repeat (first | (with_reducible first | exact HB.out | apply ab1 | apply ab2 | apply ab3 | refine ab4 ?_ zJ.out | refine ab4 ?_ zK.out | refine ab4 ?_ zU.out) | exact HB.out)) hb)
                   have zj := am_ (hbox)
                   have zk := am_ ((by rw [hg]; exact (below_size (by repeat (first | (with_reducible first | exact HB.out | apply ab1 | apply ab2 | apply ab3 | refine ab4 ?_ zJ.out | refine ab4 ?_ zK.out | refine ab4 ?_ zU.out) | exact HB.out))) : w.heap.size ≤ zF))
                   have zn := am_ ((by rw [hg]; exact (below_size (by repeat (first | (with_reducible first | exact HB.out | apply ab1 | apply ab2 | apply ab3 | refine ab4 ?_ zJ.out | refine ab4 ?_ zK.out | refine ab4 ?_ zU.out) | exact HB.out))) : w.heap.size ≤ zF))
                   have zs := am_ ((by rw [hg]; exact Nat.ne_of_lt (blk_lt (g := zA) (o := .cells #[.int .i64 a0_0, .int .i64 a0_1, .slice A0_2 l0_2.length c0_2] 24 (0, 0)) (by (with_reducible repeat (first | apply aq1 | apply aq2 | apply aq3)); exact zC.out)) : zA ≠ zF))
                   have zu := am_ ((by rw [hg]; exact Nat.ne_of_gt (blk_lt (g := zA) (o := .cells #[.int .i64 a0_0, .int .i64 a0_1, .slice A0_2 l0_2.length c0_2] 24 (0, 0)) (by (with_reducible repeat (first | apply aq1 | apply aq2 | apply aq3)); exact zC.out)) : zF ≠ zA))
                   have zy := am_ ((by rw [hg]; exact Nat.ne_of_lt (blk_lt (g := zB) (o := .cells #[.int .i64 a1_0, .int .i64 a1_1, .slice A1_2 l1_2.length c1_2] 24 (0, 0)) (by (with_reducible repeat (first | apply aq1 | apply aq2 | apply aq3)); exact zD.out)) : zB ≠ zF))
                   have zh := am_ ((by rw [hg]; exact Nat.ne_of_gt (blk_lt (g := zB) (o := .cells #[.int .i64 a1_0, .int .i64 a1_1, .slice A1_2 l1_2.length c1_2] 24 (0, 0)) (by (with_reducible repeat (first | apply aq1 | apply aq2 | apply aq3)); exact zD.out)) : zF ≠ zB))
                   have zp := am_ ((by rw [hg]; exact Nat.ne_of_lt (blk_lt (g := zE) (o := .cells #[.int .i64 0, .int .i64 0, .slice none 0 0] 29 (0, 0)) (by (with_reducible repeat (first | apply aq1 | apply aq2 | apply aq3)); exact zG.out)) : zE ≠ zF))
                   have z1 := am_ ((by rw [hg]; exact Nat.ne_of_gt (blk_lt (g := zE) (o := .cells #[.int .i64 0, .int .i64 0, .slice none 0 0] 29 (0, 0)) (by (with_reducible repeat (first | apply aq1 | apply aq2 | apply aq3)); exact zG.out)) : zF ≠ zE))
                   clear zC
                   clear zD
                   clear zG
                   clear HB
                   have zC := zd
                   have zD := ze
                   have zG := zf
                   have HB := zi
                   have zH := zj
                   have z3 := zk
                   have zV := zn
                   have zO := zs
                   have zY := zu
                   have zP := zy
                   have zZ := zh
                   have zb := zp
                   have za := z1
                   clear zd ze zf zi zj zk zn zs zu zy zh zp z1
                   clear hb hbox hg
                   refine hK.out _ _ ⟨(aq7 zC.out 0).trans rfl, (aq7 zC.out 1).trans rfl, (aq7 zC.out 2).trans rfl, (aq7 zD.out 0).trans rfl, (aq7 zD.out 1).trans rfl, (aq7 zD.out 2).trans rfl⟩ (fun hHeld => ?_)
                   clear hK K
                   refine norm_ (a' := ?_) ?_ ?_
                   rotate_left
                   ·show Act.put _ (some 12) _ = _
                    simp only [Act.put, List.setIfInBounds_toArray, List.set_cons_zero, List.set_cons_succ, i64_w, i32_w, u8_w, u32_w]
                    rfl
                   exact norm_ (by first | (simp only [putAll, Act.put, List.setIfInBounds_toArray, List.set_cons_zero, List.set_cons_succ]; done) | (simp only [putAll, Act.put, List.setIfInBounds_toArray, List.set_cons_zero, List.set_cons_succ]; rfl)) (hJ4_5 (zE, zF) _ ⟨hHeld, (by (with_reducible repeat (first | apply aq1 | apply aq2 | apply aq3)); exact zC.out), (by (with_reducible repeat (first | apply aq1 | apply aq2 | apply aq3)); exact zD.out), (by (with_reducible repeat (first | apply aq1 | apply aq2 | apply aq3)); exact zG.out), (by (with_reducible repeat (first | apply aq1 | apply aq2 | apply aq3)); exact zH.out), z2.out, zU.out, zM.out, zW.out, zN.out, zX.out, za.out, zb.out, z3.out, zV.out, zO.out, zY.out, zP.out, zZ.out, (by repeat (first | (with_reducible first | exact HB.out | apply ab1 | apply ab2 | apply ab3 | refine ab4 ?_ zJ.out | refine ab4 ?_ zK.out | refine ab4 ?_ zU.out | refine ab4 ?_ zV.out) | exact HB.out))⟩)
                ·skip
                 rintro zv xH ⟨hS_, h0_, h1_, h2_, h3_⟩
                 have zd : Aside0 (Kd.N k29 29 xH w.heap.size (fun k_ => k_ ≠ zA ∧ k_ ≠ zB) zv zL) := ⟨h0_⟩
                 have ze : Aside0 (xH.heap[zA]? = some (.cells #[.int .i64 a0_0, .int .i64 a0_1, .slice A0_2 l0_2.length c0_2] 24 (0, 0))) := ⟨h1_⟩
                 have zf : Aside0 (xH.heap[zB]? = some (.cells #[.int .i64 a1_0, .int .i64 a1_1, .slice A1_2 l1_2.length c1_2] 24 (0, 0))) := ⟨h2_⟩
                 have zi : Aside0 (Below w.heap.size w xH) := ⟨h3_⟩
                 clear zC
                 clear zD
                 clear HB
                 clear h0_ h1_ h2_ h3_
                 have zI := zd
                 have zC := ze
                 have zD := zf
                 have HB := zi
                 clear zd ze zf zi
                 have hHeld : xH.cell? ⟨zA, 0, none⟩ = some (.int .i64 a0_0) ∧ xH.cell? ⟨zA, 1, none⟩ = some (.int .i64 a0_1) ∧ xH.cell? ⟨zA, 2, none⟩ = some (.slice A0_2 l0_2.length c0_2) ∧ xH.cell? ⟨zB, 0, none⟩ = some (.int .i64 a1_0) ∧ xH.cell? ⟨zB, 1, none⟩ = some (.int .i64 a1_1) ∧ xH.cell? ⟨zB, 2, none⟩ = some (.slice A1_2 l1_2.length c1_2) := hS_
                 refine norm_ (a' := ?_) ?_ ?_
                 rotate_left
                 ·simp only [putAll, Act.put, List.setIfInBounds_toArray, List.set_cons_zero, List.set_cons_succ]
                  rfl
                 refine three_ (i := 3) (j := 4) (k := 5) (Ni := some 26) (Nj := some 11) (Nk := some 12) #[true, true, true, true, false, false, false, false] #[true, true, true, false, true, false, false, false] #[true, true, true, false, false, true, false, false] rfl rfl rfl rfl rfl rfl (three_of HT_.out (by kernel_rfl)) (by decide) (by decide) (by decide) (fun K hK => ?_) (fun K hK => ?_) (fun K hK => ?_)
                 ·skip
                  refine goes_ Tryd.func16 (by kernel_rfl) rfl #[.agg #[.int .i64 a1_0, .int .i64 a1_1, .slice A1_2 l1_2.length c1_2], .int .i64 4, .int .i64 4] (by rfl) rfl rfl (by (try simp only [List.map_toArray, List.map_cons, List.map_nil]); first | done | rfl | (simp only [List.length_drop, List.length_take]; rfl)) ?_
                  with_reducible refine (thyrsuslaw1_Make.calls zc a1_0 a1_1 _ _ l1_2 4 4 zm zo zg _ ?side1 ?side2 A25.out).mono ?_
                  (case side1 => repeat (first | exact (Kd.C_below xX.out HB.out) | (with_reducible refine ac2 ?_ _) | (with_reducible refine ac3 ?_ _) | (with_reducible refine Kd.C_drew ?_)))
                  (case side2 => exact xY.out)
                  rintro e z8 ⟨xB, rfl, ho0, hb⟩
                  refine ⟨_, rfl, ?_⟩
                  have zd := am_ (an4 (by (with_reducible repeat (first | apply an1 | apply an2 | apply an3)); exact zI.out) (by first | exact Kd.N_base ho0 | exact Kd.R_base ho0) hb)
                  have ze := am_ (Kd.N_lower (an5 (ok' := fun k_ => some k_ ≠ (zv : Value).ownBlock ∧ k_ ≠ zA ∧ k_ ≠ zB) (Kd.R_N (Kd.R_bound ho0)) (fun k_ hk_ => ⟨(af2 (Kd.N_lt (by (with_reducible repeat (first | apply an1 | apply an2 | apply an3)); exact zI.out)) k_ hk_.2.1), (af1 (g := zA) (o := .cells #[.int .i64 a0_0, .int .i64 a0_1, .slice A0_2 l0_2.length c0_2] 24 (0, 0)) (by (with_reducible repeat (first | apply aq1 | apply aq2 | apply aq3)); exact zC.out) k_ hk_.2.1), (af1 (g := zB) (o := .cells #[.int .i64 a1_0, .int .i64 a1_1, .slice A1_2 l1_2.length c1_2] 24 (0, 0)) (by (with_reducible repeat (first | apply aq1 | apply aq2 | apply aq3)); exact zD.out) k_ hk_.2.1)⟩)) (below_size (by repeat (first | (with_reducible first | exact HB.out | apply ab1 | apply ab2 | apply ab3 | refine ab4 ?_ zJ.out | refine ab4 ?_ zK.out) | exact HB.out))))
                  have zf := am_ (aq4 (g := zA) (o := .cells #[.int .i64 a0_0, .int .i64 a0_1, .slice A0_2 l0_2.length c0_2] 24 (0, 0)) (by (with_reducible repeat (first | apply aq1 | apply aq2 | apply aq3)); exact zC.out) hb)
                  have zi := am_ (aq4 (g := zB) (o := .cells #[.int .i64 a1_0, .int .i64 a1_1, .slice A1_2 l1_2.length c1_2] 24 (0, 0)) (by (with_reducible repeat (first | apply aq1 | apply aq2 | apply aq3)); exact zD.out) hb)
                  have zj := am_ (ab5 (by repeat (first | (with_reducible first | exact HB.out | apply ab1 | apply ab2 | apply ab3 | refine ab4 ?_ zJ.out | refine ab4 ?_ zK.out) | exact HB.out)) hb)
                  clear zI
                  clear zC
                  clear zD
                  clear HB
                  have zI := zd
                  have zT := ze
                  have zC := zf
                  have zD := zi
                  have HB := zj
                  clear zd ze zf zi zj
                  (try clear hb)
                  (try clear hb2)
                  (try clear hk)
                  (try clear hi)
                  (try clear ho0)
                  refine hK.out _ _ ⟨(aq7 zC.out 0).trans rfl, (aq7 zC.out 1).trans rfl, (aq7 zC.out 2).trans rfl, (aq7 zD.out 0).trans rfl, (aq7 zD.out 1).trans rfl, (aq7 zD.out 2).trans rfl⟩ (fun hHeld => ?_)
                  clear hK K
                  refine norm_ (a' := ?_) ?_ ?_
                  rotate_left
                  ·show Act.put _ (some 26) _ = _
                   simp only [Act.put, List.setIfInBounds_toArray, List.set_cons_zero, List.set_cons_succ, i64_w, i32_w, u8_w, u32_w]
                   rfl
                  exact norm_ (by first | (simp only [putAll, Act.put, List.setIfInBounds_toArray, List.set_cons_zero, List.set_cons_succ]; done) | (simp only [putAll, Act.put, List.setIfInBounds_toArray, List.set_cons_zero, List.set_cons_succ]; rfl)) (hJ1_3 (zv, xB) _ ⟨hHeld, (by (with_reducible repeat (first | apply an1 | apply an2 | apply an3)); exact an5 zI.out (fun _ hk => ⟨hk.2, ⟨hk.1.1, hk.1.2⟩⟩)), (by (with_reducible repeat (first | apply an1 | apply an2 | apply an3)); exact zT.out), (by (with_reducible repeat (first | apply aq1 | apply aq2 | apply aq3)); exact zC.out), (by (with_reducible repeat (first | apply aq1 | apply aq2 | apply aq3)); exact zD.out), (by repeat (first | (with_reducible first | exact HB.out | apply ab1 | apply ab2 | apply ab3 | refine ab4 ?_ zJ.out | refine ab4 ?_ zK.out) | exact HB.out))⟩)
                 ·skip
                  refine box_step ?hg (N := 11) ?hd (cs := #[.int .i64 0, .int .i64 0, .slice none 0 0]) (t := 29) ?hr ?_; (case hd => rfl); (case hg => rfl); (case hr => first | (go_simp; done) | (go_simp; rfl))
                  intro zE hg z8 hbox hb
                  have zd := am_ (Kd.N_below (Kd.N_elderB (by (with_reducible repeat (first | apply an1 | apply an2 | apply an3)); exact zI.out) zE (Nat.le_of_eq hg.symm)) hb)
                  have ze := am_ (aq4 (g := zA) (o := .cells #[.int .i64 a0_0, .int .i64 a0_1, .slice A0_2 l0_2.length c0_2] 24 (0, 0)) (by (with_reducible repeat (first | apply aq1 | apply aq2 | apply aq3)); exact zC.out) hb)
                  have zf := am_ (aq4 (g := zB) (o := .cells #[.int .i64 a1_0, .int .i64 a1_1, .slice A1_2 l1_2.length c1_2] 24 (0, 0)) (by (with_reducible repeat (first | apply aq1 | apply aq2 | apply aq3)); exact zD.out) hb)
                  have zi := am_ (ab5 (by repeat (first | (with_reducible first | exact HB.out | apply ab1 | apply ab2 | apply ab3 | refine ab4 ?_ zJ.out | refine ab4 ?_ zK.out) | exact HB.out)) hb)
                  have zj := am_ (hbox)
                  have zk := am_ ((by rw [hg]; exact (below_size (by repeat (first | (with_reducible first | exact HB.out | apply ab1 | apply ab2 | apply ab3 | refine ab4 ?_ zJ.out | refine ab4 ?_ zK.out) | exact HB.out))) : w.heap.size ≤ zE))
                  have zn := am_ ((by rw [hg]; exact (below_size (by repeat (first | (with_reducible first | exact HB.out | apply ab1 | apply ab2 | apply ab3 | refine ab4 ?_ zJ.out | refine ab4 ?_ zK.out) | exact HB.out))) : w.heap.size ≤ zE))
                  have zs := am_ ((by rw [hg]; exact Nat.ne_of_lt (blk_lt (g := zA) (o := .cells #[.int .i64 a0_0, .int .i64 a0_1, .slice A0_2 l0_2.length c0_2] 24 (0, 0)) (by (with_reducible repeat (first | apply aq1 | apply aq2 | apply aq3)); exact zC.out)) : zA ≠ zE))
                  have zu := am_ ((by rw [hg]; exact Nat.ne_of_gt (blk_lt (g := zA) (o := .cells #[.int .i64 a0_0, .int .i64 a0_1, .slice A0_2 l0_2.length c0_2] 24 (0, 0)) (by (with_reducible repeat (first | apply aq1 | apply aq2 | apply aq3)); exact zC.out)) : zE ≠ zA))
                  have zy := am_ ((by rw [hg]; exact Nat.ne_of_lt (blk_lt (g := zB) (o := .cells #[.int .i64 a1_0, .int .i64 a1_1, .slice A1_2 l1_2.length c1_2] 24 (0, 0)) (by (with_reducible repeat (first | apply aq1 | apply aq2 | apply aq3)); exact zD.out)) : zB ≠ zE))
                  have zh := am_ ((by rw [hg]; exact Nat.ne_of_gt (blk_lt (g := zB) (o := .cells #[.int .i64 a1_0, .int .i64 a1_1, .slice A1_2 l1_2.length c1_2] 24 (0, 0)) (by (with_reducible repeat (first | apply aq1 | apply aq2 | apply aq3)); exact zD.out)) : zE ≠ zB))
                  clear zI
                  clear zC
                  clear zD
                  clear HB
                  have zI := zd
                  have zC := ze
                  have zD := zf
                  have HB := zi
                  have zG := zj
                  have z2 := zk
                  have zU := zn
                  have zM := zs
                  have zW := zu
                  have zN := zy
                  have zX := zh
                  clear zd ze zf zi zj zk zn zs zu zy zh
                  clear hb hbox hg
                  refine hK.out _ _ ⟨(aq7 zC.out 0).trans rfl, (aq7 zC.out 1).trans rfl, (aq7 zC.out 2).trans rfl, (aq7 zD.out 0).trans rfl, (aq7 zD.out 1).trans rfl, (aq7 zD.out 2).trans rfl⟩ (fun hHeld => ?_)
                  clear hK K
                  refine norm_ (a' := ?_) ?_ ?_
                  rotate_left
                  ·show Act.put _ (some 11) _ = _
                   simp only [Act.put, List.setIfInBounds_toArray, List.set_cons_zero, List.set_cons_succ, i64_w, i32_w, u8_w, u32_w]
                   rfl
                  exact norm_ (by first | (simp only [putAll, Act.put, List.setIfInBounds_toArray, List.set_cons_zero, List.set_cons_succ]; done) | (simp only [putAll, Act.put, List.setIfInBounds_toArray, List.set_cons_zero, List.set_cons_succ]; rfl)) (hJ1_4 (zv, zE) _ ⟨hHeld, (by (with_reducible repeat (first | apply an1 | apply an2 | apply an3)); exact an5 zI.out (fun _ hk => ⟨hk.1.1, ⟨hk.1.2, hk.2⟩⟩)), (by (with_reducible repeat (first | apply aq1 | apply aq2 | apply aq3)); exact zC.out), (by (with_reducible repeat (first | apply aq1 | apply aq2 | apply aq3)); exact zD.out), (by (with_reducible repeat (first | apply aq1 | apply aq2 | apply aq3)); exact zG.out), z2.out, zU.out, zM.out, zW.out, zN.out, zX.out, (by repeat (first | (with_reducible first | exact HB.out | apply ab1 | apply ab2 | apply ab3 | refine ab4 ?_ zJ.out | refine ab4 ?_ zK.out | refine ab4 ?_ zU.out) | exact HB.out))⟩)
                 ·skip
                  refine box_step ?hg (N := 12) ?hd (cs := #[.int .i64 0, .int .i64 0, .slice none 0 0]) (t := 29) ?hr ?_; (case hd => rfl); (case hg => rfl); (case hr => first | (go_simp; done) | (go_simp; rfl))
                  intro zF hg z8 hbox hb
                  have zd := am_ (Kd.N_below (Kd.N_elderB (by (with_reducible repeat (first | apply an1 | apply an2 | apply an3)); exact zI.out) zF (Nat.le_of_eq hg.symm)) hb)
                  have ze := am_ (aq4 (g := zA) (o := .cells #[.int .i64 a0_0, .int .i64 a0_1, .slice A0_2 l0_2.length c0_2] 24 (0, 0)) (by (with_reducible repeat (first | apply aq1 | apply aq2 | apply aq3)); exact zC.out) hb)
                  have zf := am_ (aq4 (g := zB) (o := .cells #[.int .i64 a1_0, .int .i64 a1_1, .slice A1_2 l1_2.length c1_2] 24 (0, 0)) (by (with_reducible repeat (first | apply aq1 | apply aq2 | apply aq3)); exact zD.out) hb)
                  have zi := am_ (ab5 (by repeat (first | (with_reducible first | exact HB.out | apply ab1 | apply ab2 | apply ab3 | refine ab4 ?_ zJ.out | refine ab4 ?_ zK.out) | exact HB.out)) hb)
                  have zj := am_ (hbox)
                  have zk := am_ ((by rw [hg]; exact (below_size (by repeat (first | (with_reducible first | exact HB.out | apply ab1 | apply ab2 | apply ab3 | refine ab4 ?_ zJ.out | refine ab4 ?_ zK.out) | exact HB.out))) : w.heap.size ≤ zF))
                  have zn := am_ ((by rw [hg]; exact (below_size (by repeat (first | (with_reducible first | exact HB.out | apply ab1 | apply ab2 | apply ab3 | refine ab4 ?_ zJ.out | refine ab4 ?_ zK.out) | exact HB.out))) : w.heap.size ≤ zF))
                  have zs := am_ ((by rw [hg]; exact Nat.ne_of_lt (blk_lt (g := zA) (o := .cells #[.int .i64 a0_0, .int .i64 a0_1, .slice A0_2 l0_2.length c0_2] 24 (0, 0)) (by (with_reducible repeat (first | apply aq1 | apply aq2 | apply aq3)); exact zC.out)) : zA ≠ zF))
                  have zu := am_ ((by rw [hg]; exact Nat.ne_of_gt (blk_lt (g := zA) (o := .cells #[.int .i64 a0_0, .int .i64 a0_1, .slice A0_2 l0_2.length c0_2] 24 (0, 0)) (by (with_reducible repeat (first | apply aq1 | apply aq2 | apply aq3)); exact zC.out)) : zF ≠ zA))
                  have zy := am_ ((by rw [hg]; exact Nat.ne_of_lt (blk_lt (g := zB) (o := .cells #[.int .i64 a1_0, .int .i64 a1_1, .slice A1_2 l1_2.length c1_2] 24 (0, 0)) (by (with_reducible repeat (first | apply aq1 | apply aq2 | apply aq3)); exact zD.out)) : zB ≠ zF))
                  have zh := am_ ((by rw [hg]; exact Nat.ne_of_gt (blk_lt (g := zB) (o := .cells #[.int .i64 a1_0, .int .i64 a1_1, .slice A1_2 l1_2.length c1_2] 24 (0, 0)) (by (with_reducible repeat (first | apply aq1 | apply aq2 | apply aq3)); exact zD.out)) : zF ≠ zB))
                  clear zI
                  clear zC
                  clear zD
                  clear HB
                  have zI := zd
                  have zC := ze
                  have zD := zf
                  have HB := zi
                  have zH := zj
                  have z3 := zk
                  have zV := zn
                  have zO := zs
                  have zY := zu
                  have zP := zy
                  have zZ := zh
                  clear zd ze zf zi zj zk zn zs zu zy zh
                  clear hb hbox hg
                  refine hK.out _ _ ⟨(aq7 zC.out 0).trans rfl, (aq7 zC.out 1).trans rfl, (aq7 zC.out 2).trans rfl, (aq7 zD.out 0).trans rfl, (aq7 zD.out 1).trans rfl, (aq7 zD.out 2).trans rfl⟩ (fun hHeld => ?_)
                  clear hK K
                  refine norm_ (a' := ?_) ?_ ?_
                  rotate_left
                  ·show Act.put _ (some 12) _ = _
                   simp only [Act.put, List.setIfInBounds_toArray, List.set_cons_zero, List.set_cons_succ, i64_w, i32_w, u8_w, u32_w]
                   rfl
                  exact norm_ (by first | (simp only [putAll, Act.put, List.setIfInBounds_toArray, List.set_cons_zero, List.set_cons_succ]; done) | (simp only [putAll, Act.put, List.setIfInBounds_toArray, List.set_cons_zero, List.set_cons_succ]; rfl)) (hJ1_5 (zv, zF) _ ⟨hHeld, (by (with_reducible repeat (first | apply an1 | apply an2 | apply an3)); exact an5 zI.out (fun _ hk => ⟨hk.1.1, ⟨hk.1.2, hk.2⟩⟩)), (by (with_reducible repeat (first | apply aq1 | apply aq2 | apply aq3)); exact zC.out), (by (with_reducible repeat (first | apply aq1 | apply aq2 | apply aq3)); exact zD.out), (by (with_reducible repeat (first | apply aq1 | apply aq2 | apply aq3)); exact zH.out), z3.out, zV.out, zO.out, zY.out, zP.out, zZ.out, (by repeat (first | (with_reducible first | exact HB.out | apply ab1 | apply ab2 | apply ab3 | refine ab4 ?_ zJ.out | refine ab4 ?_ zK.out | refine ab4 ?_ zV.out) | exact HB.out))⟩)
               ·skip
                rintro ⟨zE, zF⟩ z8 ⟨hS_, h0_, h1_, h2_, h3_, h4_, h5_, h6_, h7_, h8_, h9_, h10_, h11_, h12_, h13_, h14_, h15_, h16_, h17_, h18_⟩
                have zd : Aside0 (z8.heap[zA]? = some (.cells #[.int .i64 a0_0, .int .i64 a0_1, .slice A0_2 l0_2.length c0_2] 24 (0, 0))) := ⟨h0_⟩
                have ze : Aside0 (z8.heap[zB]? = some (.cells #[.int .i64 a1_0, .int .i64 a1_1, .slice A1_2 l1_2.length c1_2] 24 (0, 0))) := ⟨h1_⟩
                have zf : Aside0 (z8.heap[zE]? = some (.cells #[.int .i64 0, .int .i64 0, .slice none 0 0] 29 (0, 0))) := ⟨h2_⟩
                have zi : Aside0 (z8.heap[zF]? = some (.cells #[.int .i64 0, .int .i64 0, .slice none 0 0] 29 (0, 0))) := ⟨h3_⟩
                have zj : Aside0 (w.heap.size ≤ zE) := ⟨h4_⟩
                have zk : Aside0 (w.heap.size ≤ zE) := ⟨h5_⟩
                have zn : Aside0 (zA ≠ zE) := ⟨h6_⟩
                have zs : Aside0 (zE ≠ zA) := ⟨h7_⟩
                have zu : Aside0 (zB ≠ zE) := ⟨h8_⟩
                have zy : Aside0 (zE ≠ zB) := ⟨h9_⟩
                have zh : Aside0 (zF ≠ zE) := ⟨h10_⟩
                have zp : Aside0 (zE ≠ zF) := ⟨h11_⟩
                have z1 : Aside0 (w.heap.size ≤ zF) := ⟨h12_⟩
                have xA : Aside0 (w.heap.size ≤ zF) := ⟨h13_⟩
                have xJ : Aside0 (zA ≠ zF) := ⟨h14_⟩
                have xa : Aside0 (zF ≠ zA) := ⟨h15_⟩
                have xb : Aside0 (zB ≠ zF) := ⟨h16_⟩
                have xc : Aside0 (zF ≠ zB) := ⟨h17_⟩
                have xd : Aside0 (Below w.heap.size w z8) := ⟨h18_⟩
                clear zC
                clear zD
                clear HB
                clear h0_ h1_ h2_ h3_ h4_ h5_ h6_ h7_ h8_ h9_ h10_ h11_ h12_ h13_ h14_ h15_ h16_ h17_ h18_
                have zC := zd
                have zD := ze
                have zG := zf
                have zH := zi
                have z2 := zj
                have zU := zk
                have zM := zn
                have zW := zs
                have zN := zu
                have zX := zy
                have za := zh
                have zb := zp
                have z3 := z1
                have zV := xA
                have zO := xJ
                have zY := xa
                have zP := xb
                have zZ := xc
                have HB := xd
                clear zd ze zf zi zj zk zn zs zu zy zh zp z1 xA xJ xa xb xc xd
                have hHeld : z8.cell? ⟨zA, 0, none⟩ = some (.int .i64 a0_0) ∧ z8.cell? ⟨zA, 1, none⟩ = some (.int .i64 a0_1) ∧ z8.cell? ⟨zA, 2, none⟩ = some (.slice A0_2 l0_2.length c0_2) ∧ z8.cell? ⟨zB, 0, none⟩ = some (.int .i64 a1_0) ∧ z8.cell? ⟨zB, 1, none⟩ = some (.int .i64 a1_1) ∧ z8.cell? ⟨zB, 2, none⟩ = some (.slice A1_2 l1_2.length c1_2) := hS_
                refine norm_ (a' := ?_) ?_ ?_
                rotate_left
                ·simp only [putAll, Act.put, List.setIfInBounds_toArray, List.set_cons_zero, List.set_cons_succ]
                 rfl
                refine one_ (i := 1) (N := some 24) #[true, true, true, false, true, true, false, false] rfl rfl (one_of HT_.out (by kernel_rfl)) (by decide) (fun K hK => ?_)
                refine goes_ Tryd.func16 (by kernel_rfl) rfl #[.agg #[.int .i64 a0_0, .int .i64 a0_1, .slice A0_2 l0_2.length c0_2], .int .i64 6, .int .i64 4] (by rfl) rfl rfl (by (try simp only [List.map_toArray, List.map_cons, List.map_nil]); first | done | rfl | (simp only [List.length_drop, List.length_take]; rfl)) ?_
                with_reducible refine (thyrsuslaw1_Make.calls zc a0_0 a0_1 _ _ l0_2 6 4 zQ zR zL _ ?side1 ?side2 A24.out).mono ?_
                (case side1 => repeat (first | exact (Kd.C_below xS.out HB.out) | (with_reducible refine ac2 ?_ _) | (with_reducible refine ac3 ?_ _) | (with_reducible refine Kd.C_drew ?_)))
                (case side2 => exact xT.out)
                rintro e xD ⟨zv, rfl, ho0, hb⟩
                refine ⟨_, rfl, ?_⟩
                have zd := am_ (Kd.N_lower (an5 (ok' := fun k_ => k_ ≠ zA ∧ k_ ≠ zB ∧ k_ ≠ zE ∧ k_ ≠ zF) (Kd.R_N (Kd.R_bound ho0)) (fun k_ hk_ => ⟨(af1 (g := zA) (o := .cells #[.int .i64 a0_0, .int .i64 a0_1, .slice A0_2 l0_2.length c0_2] 24 (0, 0)) (by (with_reducible repeat (first | apply aq1 | apply aq2 | apply aq3)); exact zC.out) k_ hk_.2.1), (af1 (g := zB) (o := .cells #[.int .i64 a1_0, .int .i64 a1_1, .slice A1_2 l1_2.length c1_2] 24 (0, 0)) (by (with_reducible repeat (first | apply aq1 | apply aq2 | apply aq3)); exact zD.out) k_ hk_.2.1), (af1 (g := zE) (o := .cells #[.int .i64 0, .int .i64 0, .slice none 0 0] 29 (0, 0)) (by (with_reducible repeat (first | apply aq1 | apply aq2 | apply aq3)); exact zG.out) k_ hk_.2.1), (af1 (g := zF) (o := .cells #[.int .i64 0, .int .i64 0, .slice none 0 0] 29 (0, 0)) (by (with_reducible repeat (first | apply aq1 | apply aq2 | apply aq3)); exact zH.out) k_ hk_.2.1)⟩)) (below_size (by repeat (first | (with_reducible first | exact HB.out | apply ab1 | apply ab2 | apply ab3 | refine ab4 ?_ zJ.out | refine ab4 ?_ zK.out | refine ab4 ?_ zU.out | refine ab4 ?_ zV.out) | exact HB.out))))
                have ze := am_ (aq4 (g := zA) (o := .cells #[.int .i64 a0_0, .int .i64 a0_1, .slice A0_2 l0_2.length c0_2] 24 (0, 0)) (by (with_reducible repeat (first | apply aq1 | apply aq2 | apply aq3)); exact zC.out) hb)
                have zf := am_ (aq4 (g := zB) (o := .cells #[.int .i64 a1_0, .int .i64 a1_1, .slice A1_2 l1_2.length c1_2] 24 (0, 0)) (by (with_reducible repeat (first | apply aq1 | apply aq2 | apply aq3)); exact zD.out) hb)
                have zi := am_ (aq4 (g := zE) (o := .cells #[.int .i64 0, .int .i64 0, .slice none 0 0] 29 (0, 0)) (by (with_reducible repeat (first | apply aq1 | apply aq2 | apply aq3)); exact zG.out) hb)
                have zj := am_ (aq4 (g := zF) (o := .cells #[.int .i64 0, .int .i64 0, .slice none 0 0] 29 (0, 0)) (by (with_reducible repeat (first | apply aq1 | apply aq2 | apply aq3)); exact zH.out) hb)
                have zk := am_ (ab5 (by repeat (first | (with_reducible first | exact HB.out | apply ab1 | apply ab2 | apply ab3 | refine ab4 ?_ zJ.out | refine ab4 ?_ zK.out | refine ab4 ?_ zU.out | refine ab4 ?_ zV.out) | exact HB.out)) hb)
                clear zC
                clear zD
                clear zG
                clear zH
                clear HB
                have zI := zd
                have zC := ze
                have zD := zf
                have zG := zi
                have zH := zj
                have HB := zk
                clear zd ze zf zi zj zk
                (try clear hb)
                (try clear hb2)
                (try clear hk)
                (try clear hi)
                (try clear ho0)
                refine hK.out _ _ ⟨(aq7 zC.out 0).trans rfl, (aq7 zC.out 1).trans rfl, (aq7 zC.out 2).trans rfl, (aq7 zD.out 0).trans rfl, (aq7 zD.out 1).trans rfl, (aq7 zD.out 2).trans rfl⟩ (fun hHeld => ?_)
                clear hK K
                refine norm_ (a' := ?_) ?_ ?_
                rotate_left
                ·show Act.put _ (some 24) _ = _
                 simp only [Act.put, List.setIfInBounds_toArray, List.set_cons_zero, List.set_cons_succ, i64_w, i32_w, u8_w, u32_w]
                 rfl
                exact norm_ (by first | (simp only [putAll, Act.put, List.setIfInBounds_toArray, List.set_cons_zero, List.set_cons_succ]; done) | (simp only [putAll, Act.put, List.setIfInBounds_toArray, List.set_cons_zero, List.set_cons_succ]; rfl)) (hJ1_4_5 (zv, zE, zF) _ ⟨hHeld, (by (with_reducible repeat (first | apply an1 | apply an2 | apply an3)); exact zI.out), (by (with_reducible repeat (first | apply aq1 | apply aq2 | apply aq3)); exact zC.out), (by (with_reducible repeat (first | apply aq1 | apply aq2 | apply aq3)); exact zD.out), (by (with_reducible repeat (first | apply aq1 | apply aq2 | apply aq3)); exact zG.out), (by (with_reducible repeat (first | apply aq1 | apply aq2 | apply aq3)); exact zH.out), z2.out, zU.out, zM.out, zW.out, zN.out, zX.out, za.out, zb.out, z3.out, zV.out, zO.out, zY.out, zP.out, zZ.out, (by repeat (first | (with_reducible first | exact HB.out | apply ab1 | apply ab2 | apply ab3 | refine ab4 ?_ zJ.out | refine ab4 ?_ zK.out | refine ab4 ?_ zU.out | refine ab4 ?_ zV.out) | exact HB.out))⟩)
              ·skip
               rintro ⟨zv, zF⟩ z8 ⟨hS_, h0_, h1_, h2_, h3_, h4_, h5_, h6_, h7_, h8_, h9_, h10_⟩
               have zd : Aside0 (Kd.N k29 29 z8 w.heap.size (fun k_ => k_ ≠ zA ∧ k_ ≠ zB ∧ k_ ≠ zF) zv zL) := ⟨h0_⟩
               have ze : Aside0 (z8.heap[zA]? = some (.cells #[.int .i64 a0_0, .int .i64 a0_1, .slice A0_2 l0_2.length c0_2] 24 (0, 0))) := ⟨h1_⟩
               have zf : Aside0 (z8.heap[zB]? = some (.cells #[.int .i64 a1_0, .int .i64 a1_1, .slice A1_2 l1_2.length c1_2] 24 (0, 0))) := ⟨h2_⟩
               have zi : Aside0 (z8.heap[zF]? = some (.cells #[.int .i64 0, .int .i64 0, .slice none 0 0] 29 (0, 0))) := ⟨h3_⟩
               have zj : Aside0 (w.heap.size ≤ zF) := ⟨h4_⟩
               have zk : Aside0 (w.heap.size ≤ zF) := ⟨h5_⟩
               have zn : Aside0 (zA ≠ zF) := ⟨h6_⟩
               have zs : Aside0 (zF ≠ zA) := ⟨h7_⟩
               have zu : Aside0 (zB ≠ zF) := ⟨h8_⟩
               have zy : Aside0 (zF ≠ zB) := ⟨h9_⟩
               have zh : Aside0 (Below w.heap.size w z8) := ⟨h10_⟩
               clear zC
               clear zD
               clear HB
               clear h0_ h1_ h2_ h3_ h4_ h5_ h6_ h7_ h8_ h9_ h10_
               have zI := zd
               have zC := ze
               have zD := zf
               have zH := zi
               have z3 := zj
               have zV := zk
               have zO := zn
               have zY := zs
               have zP := zu
               have zZ := zy
               have HB := zh
               clear zd ze zf zi zj zk zn zs zu zy zh
               have hHeld : z8.cell? ⟨zA, 0, none⟩ = some (.int .i64 a0_0) ∧ z8.cell? ⟨zA, 1, none⟩ = some (.int .i64 a0_1) ∧ z8.cell? ⟨zA, 2, none⟩ = some (.slice A0_2 l0_2.length c0_2) ∧ z8.cell? ⟨zB, 0, none⟩ = some (.int .i64 a1_0) ∧ z8.cell? ⟨zB, 1, none⟩ = some (.int .i64 a1_1) ∧ z8.cell? ⟨zB, 2, none⟩ = some (.slice A1_2 l1_2.length c1_2) := hS_
               refine norm_ (a' := ?_) ?_ ?_
               rotate_left
               ·simp only [putAll, Act.put, List.setIfInBounds_toArray, List.set_cons_zero, List.set_cons_succ]
                rfl
               refine two_ (i := 3) (j := 4) (Ni := some 26) (Nj := some 11) #[true, true, true, true, false, true, false, false] #[true, true, true, false, true, true, false, false] rfl rfl rfl rfl (two_of HT_.out (by kernel_rfl)) (by decide) (by decide) (fun K hK => ?_) (fun K hK => ?_)
               ·skip
                refine goes_ Tryd.func16 (by kernel_rfl) rfl #[.agg #[.int .i64 a1_0, .int .i64 a1_1, .slice A1_2 l1_2.length c1_2], .int .i64 4, .int .i64 4] (by rfl) rfl rfl (by (try simp only [List.map_toArray, List.map_cons, List.map_nil]); first | done | rfl | (simp only [List.length_drop, List.length_take]; rfl)) ?_
                with_reducible refine (thyrsuslaw1_Make.calls zc a1_0 a1_1 _ _ l1_2 4 4 zm zo zg _ ?side1 ?side2 A25.out).mono ?_
                (case side1 => repeat (first | exact (Kd.C_below xX.out HB.out) | (with_reducible refine ac2 ?_ _) | (with_reducible refine ac3 ?_ _) | (with_reducible refine Kd.C_drew ?_)))
                (case side2 => exact xY.out)
                rintro e xD ⟨xB, rfl, ho0, hb⟩
                refine ⟨_, rfl, ?_⟩
                have zd := am_ (an4 (by (with_reducible repeat (first | apply an1 | apply an2 | apply an3)); exact zI.out) (by first | exact Kd.N_base ho0 | exact Kd.R_base ho0) hb)
                have ze := am_ (Kd.N_lower (an5 (ok' := fun k_ => some k_ ≠ (zv : Value).ownBlock ∧ k_ ≠ zA ∧ k_ ≠ zB ∧ k_ ≠ zF) (Kd.R_N (Kd.R_bound ho0)) (fun k_ hk_ => ⟨(af2 (Kd.N_lt (by (with_reducible repeat (first | apply an1 | apply an2 | apply an3)); exact zI.out)) k_ hk_.2.1), (af1 (g := zA) (o := .cells #[.int .i64 a0_0, .int .i64 a0_1, .slice A0_2 l0_2.length c0_2] 24 (0, 0)) (by (with_reducible repeat (first | apply aq1 | apply aq2 | apply aq3)); exact zC.out) k_ hk_.2.1), (af1 (g := zB) (o := .cells #[.int .i64 a1_0, .int .i64 a1_1, .slice A1_2 l1_2.length c1_2] 24 (0, 0)) (by (with_reducible repeat (first | apply aq1 | apply aq2 | apply aq3)); exact zD.out) k_ hk_.2.1), (af1 (g := zF) (o := .cells #[.int .i64 0, .int .i64 0, .slice none 0 0] 29 (0, 0)) (by (with_reducible repeat (first | apply aq1 | apply aq2 | apply aq3)); exact zH.out) k_ hk_.2.1)⟩)) (below_size (by repeat (first | (with_reducible first | exact HB.out | apply ab1 | apply ab2 | apply ab3 | refine ab4 ?_ zJ.out | refine ab4 ?_ zK.out | refine ab4 ?_ zV.out) | exact HB.out))))
                have zf := am_ (aq4 (g := zA) (o := .cells #[.int .i64 a0_0, .int .i64 a0_1, .slice A0_2 l0_2.length c0_2] 24 (0, 0)) (by (with_reducible repeat (first | apply aq1 | apply aq2 | apply aq3)); exact zC.out) hb)
                have zi := am_ (aq4 (g := zB) (o := .cells #[.int .i64 a1_0, .int .i64 a1_1, .slice A1_2 l1_2.length c1_2] 24 (0, 0)) (by (with_reducible repeat (first | apply aq1 | apply aq2 | apply aq3)); exact zD.out) hb)
                have zj := am_ (aq4 (g := zF) (o := .cells #[.int .i64 0, .int .i64 0, .slice none 0 0] 29 (0, 0)) (by (with_reducible repeat (first | apply aq1 | apply aq2 | apply aq3)); exact zH.out) hb)
                have zk := am_ (ab5 (by repeat (first | (with_reducible first | exact HB.out | apply ab1 | apply ab2 | apply ab3 | refine ab4 ?_ zJ.out | refine ab4 ?_ zK.out | refine ab4 ?_ zV.out) | exact HB.out)) hb)
                clear zI
                clear zC
                clear zD
                clear zH
                clear HB
                have zI := zd
                have zT := ze
                have zC := zf
                have zD := zi
                have zH := zj
                have HB := zk
                clear zd ze zf zi zj zk
                (try clear hb)
                (try clear hb2)
                (try clear hk)
                (try clear hi)
                (try clear ho0)
                refine hK.out _ _ ⟨(aq7 zC.out 0).trans rfl, (aq7 zC.out 1).trans rfl, (aq7 zC.out 2).trans rfl, (aq7 zD.out 0).trans rfl, (aq7 zD.out 1).trans rfl, (aq7 zD.out 2).trans rfl⟩ (fun hHeld => ?_)
                clear hK K
                refine norm_ (a' := ?_) ?_ ?_
                rotate_left
                ·show Act.put _ (some 26) _ = _
                 simp only [Act.put, List.setIfInBounds_toArray, List.set_cons_zero, List.set_cons_succ, i64_w, i32_w, u8_w, u32_w]
                 rfl
                exact norm_ (by first | (simp only [putAll, Act.put, List.setIfInBounds_toArray, List.set_cons_zero, List.set_cons_succ]; done) | (simp only [putAll, Act.put, List.setIfInBounds_toArray, List.set_cons_zero, List.set_cons_succ]; rfl)) (hJ1_3_5 (zv, xB, zF) _ ⟨hHeld, (by (with_reducible repeat (first | apply an1 | apply an2 | apply an3)); exact an5 zI.out (fun _ hk => ⟨hk.2, ⟨hk.1.1, ⟨hk.1.2.1, hk.1.2.2⟩⟩⟩)), (by (with_reducible repeat (first | apply an1 | apply an2 | apply an3)); exact zT.out), (by (with_reducible repeat (first | apply aq1 | apply aq2 | apply aq3)); exact zC.out), (by (with_reducible repeat (first | apply aq1 | apply aq2 | apply aq3)); exact zD.out), (by (with_reducible repeat (first | apply aq1 | apply aq2 | apply aq3)); exact zH.out), z3.out, zV.out, zO.out, zY.out, zP.out, zZ.out, (by repeat (first | (with_reducible first | exact HB.out | apply ab1 | apply ab2 | apply ab3 | refine ab4 ?_ zJ.out | refine ab4 ?_ zK.out | refine ab4 ?_ zV.out) | exact HB.out))⟩)
               ·skip
                refine box_step ?hg (N := 11) ?hd (cs := #[.int .i64 0, .int .i64 0, .slice none 0 0]) (t := 29) ?hr ?_; (case hd => rfl); (case hg => rfl); (case hr => first | (go_simp; done) | (go_simp; rfl))
                intro zE hg xD hbox hb
                have zd := am_ (Kd.N_below (Kd.N_elderB (by (with_reducible repeat (first | apply an1 | apply an2 | apply an3)); exact zI.out) zE (Nat.le_of_eq hg.symm)) hb)
                have ze := am_ (aq4 (g := zA) (o := .cells #[.int .i64 a0_0, .int .i64 a0_1, .slice A0_2 l0_2.length c0_2] 24 (0, 0)) (by (with_reducible repeat (first | apply aq1 | apply aq2 | apply aq3)); exact zC.out) hb)
                have zf := am_ (aq4 (g := zB) (o := .cells #[.int .i64 a1_0, .int .i64 a1_1, .slice A1_2 l1_2.length c1_2] 24 (0, 0)) (by (with_reducible repeat (first | apply aq1 | apply aq2 | apply aq3)); exact zD.out) hb)
                have zi := am_ (aq4 (g := zF) (o := .cells #[.int .i64 0, .int .i64 0, .slice none 0 0] 29 (0, 0)) (by (with_reducible repeat (first | apply aq1 | apply aq2 | apply aq3)); exact zH.out) hb)
                have zj := am_ (ab5 (by repeat (first | (with_reducible first | exact HB.out | apply ab1 | apply ab2 | apply ab3 | refine ab4 ?_ zJ.out | refine ab4 ?_ zK.out | refine ab4 ?_ zV.out) | exact HB.out)) hb)
                have zk := am_ (hbox)
                have zn := am_ ((by rw [hg]; exact (below_size (by repeat (first | (with_reducible first | exact HB.out | apply ab1 | apply ab2 | apply ab3 | refine ab4 ?_ zJ.out | refine ab4 ?_ zK.out | refine ab4 ?_ zV.out) | exact HB.out))) : w.heap.size ≤ zE))
                have zs := am_ ((by rw [hg]; exact (below_size (by repeat (first | (with_reducible first | exact HB.out | apply ab1 | apply ab2 | apply ab3 | refine ab4 ?_ zJ.out | refine ab4 ?_ zK.out | refine ab4 ?_ zV.out) | exact HB.out))) : w.heap.size ≤ zE))
                have zu := am_ ((by rw [hg]; exact Nat.ne_of_lt (blk_lt (g := zA) (o := .cells #[.int .i64 a0_0, .int .i64 a0_1, .slice A0_2 l0_2.length c0_2] 24 (0, 0)) (by (with_reducible repeat (first | apply aq1 | apply aq2 | apply aq3)); exact zC.out)) : zA ≠ zE))
                have zy := am_ ((by rw [hg]; exact Nat.ne_of_gt (blk_lt (g := zA) (o := .cells #[.int .i64 a0_0, .int .i64 a0_1, .slice A0_2 l0_2.length c0_2] 24 (0, 0)) (by (with_reducible repeat (first | apply aq1 | apply aq2 | apply aq3)); exact zC.out)) : zE ≠ zA))
                have zh := am_ ((by rw [hg]; exact Nat.ne_of_lt (blk_lt (g := zB) (o := .cells #[.int .i64 a1_0, .int .i64 a1_1, .slice A1_2 l1_2.length c1_2] 24 (0, 0)) (by (with_reducible repeat (first | apply aq1 | apply aq2 | apply aq3)); exact zD.out)) : zB ≠ zE))
                have zp := am_ ((by rw [hg]; exact Nat.ne_of_gt (blk_lt (g := zB) (o := .cells #[.int .i64 a1_0, .int .i64 a1_1, .slice A1_2 l1_2.length c1_2] 24 (0, 0)) (by (with_reducible repeat (first | apply aq1 | apply aq2 | apply aq3)); exact zD.out)) : zE ≠ zB))
                have z1 := am_ ((by rw [hg]; exact Nat.ne_of_lt (blk_lt (g := zF) (o := .cells #[.int .i64 0, .int .i64 0, .slice none 0 0] 29 (0, 0)) (by (with_reducible repeat (first | apply aq1 | apply aq2 | apply aq3)); exact zH.out)) : zF ≠ zE))
                have xA := am_ ((by rw [hg]; exact Nat.ne_of_gt (blk_lt (g := zF) (o := .cells #[.int .i64 0, .int .i64 0, .slice none 0 0] 29 (0, 0)) (by (with_reducible repeat (first | apply aq1 | apply aq2 | apply aq3)); exact zH.out)) : zE ≠ zF))
                clear zI
                clear zC
                clear zD
                clear zH
                clear HB
                have zI := zd
                have zC := ze
                have zD := zf
                have zH := zi
                have HB := zj
                have zG := zk
                have z2 := zn
                have zU := zs
                have zM := zu
                have zW := zy
                have zN := zh
                have zX := zp
                have za := z1
                have zb := xA
                clear zd ze zf zi zj zk zn zs zu zy zh zp z1 xA
                clear hb hbox hg
                refine hK.out _ _ ⟨(aq7 zC.out 0).trans rfl, (aq7 zC.out 1).trans rfl, (aq7 zC.out 2).trans rfl, (aq7 zD.out 0).trans rfl, (aq7 zD.out 1).trans rfl, (aq7 zD.out 2).trans rfl⟩ (fun hHeld => ?_)
                clear hK K
                refine norm_ (a' := ?_) ?_ ?_
                rotate_left
                ·show Act.put _ (some 11) _ = _
                 simp only [Act.put, List.setIfInBounds_toArray, List.set_cons_zero, List.set_cons_succ, i64_w, i32_w, u8_w, u32_w]
                 rfl
                exact norm_ (by first | (simp only [putAll, Act.put, List.setIfInBounds_toArray, List.set_cons_zero, List.set_cons_succ]; done) | (simp only [putAll, Act.put, List.setIfInBounds_toArray, List.set_cons_zero, List.set_cons_succ]; rfl)) (hJ1_4_5 (zv, zE, zF) _ ⟨hHeld, (by (with_reducible repeat (first | apply an1 | apply an2 | apply an3)); exact an5 zI.out (fun _ hk => ⟨hk.1.1, ⟨hk.1.2.1, ⟨hk.2, hk.1.2.2⟩⟩⟩)), (by (with_reducible repeat (first | apply aq1 | apply aq2 | apply aq3)); exact zC.out), (by (with_reducible repeat (first | apply aq1 | apply aq2 | apply aq3)); exact zD.out), (by (with_reducible repeat (first | apply aq1 | apply aq2 | apply aq3)); exact zG.out), (by (with_reducible repeat (first | apply aq1 | apply aq2 | apply aq3)); exact zH.out), z2.out, zU.out, zM.out, zW.out, zN.out, zX.out, za.out, zb.out, z3.out, zV.out, zO.out, zY.out, zP.out, zZ.out, (by repeat (first | (with_reducible first | exact HB.out | apply ab1 | apply ab2 | apply ab3 | refine ab4 ?_ zJ.out | refine ab4 ?_ zK.out | refine ab4 ?_ zV.out | refine ab4 ?_ zU.out) | exact HB.out))⟩)
             ·skip
              rintro ⟨zv, zE⟩ z8 ⟨hS_, h0_, h1_, h2_, h3_, h4_, h5_, h6_, h7_, h8_, h9_, h10_⟩
              have zd : Aside0 (Kd.N k29 29 z8 w.heap.size (fun k_ => k_ ≠ zA ∧ k_ ≠ zB ∧ k_ ≠ zE) zv zL) := ⟨h0_⟩
              have ze : Aside0 (z8.heap[zA]? = some (.cells #[.int .i64 a0_0, .int .i64 a0_1, .slice A0_2 l0_2.length c0_2] 24 (0, 0))) := ⟨h1_⟩
              have zf : Aside0 (z8.heap[zB]? = some (.cells #[.int .i64 a1_0, .int .i64 a1_1, .slice A1_2 l1_2.length c1_2] 24 (0, 0))) := ⟨h2_⟩
              have zi : Aside0 (z8.heap[zE]? = some (.cells #[.int .i64 0, .int .i64 0, .slice none 0 0] 29 (0, 0))) := ⟨h3_⟩
              have zj : Aside0 (w.heap.size ≤ zE) := ⟨h4_⟩
              have zk : Aside0 (w.heap.size ≤ zE) := ⟨h5_⟩
              have zn : Aside0 (zA ≠ zE) := ⟨h6_⟩
              have zs : Aside0 (zE ≠ zA) := ⟨h7_⟩
              have zu : Aside0 (zB ≠ zE) := ⟨h8_⟩
              have zy : Aside0 (zE ≠ zB) := ⟨h9_⟩
              have zh : Aside0 (Below w.heap.size w z8) := ⟨h10_⟩
              clear zC
              clear zD
              clear HB
              clear h0_ h1_ h2_ h3_ h4_ h5_ h6_ h7_ h8_ h9_ h10_
              have zI := zd
              have zC := ze
              have zD := zf
              have zG := zi
              have z2 := zj
              have zU := zk
              have zM := zn
              have zW := zs
              have zN := zu
              have zX := zy
              have HB := zh
              clear zd ze zf zi zj zk zn zs zu zy zh
              have hHeld : z8.cell? ⟨zA, 0, none⟩ = some (.int .i64 a0_0) ∧ z8.cell? ⟨zA, 1, none⟩ = some (.int .i64 a0_1) ∧ z8.cell? ⟨zA, 2, none⟩ = some (.slice A0_2 l0_2.length c0_2) ∧ z8.cell? ⟨zB, 0, none⟩ = some (.int .i64 a1_0) ∧ z8.cell? ⟨zB, 1, none⟩ = some (.int .i64 a1_1) ∧ z8.cell? ⟨zB, 2, none⟩ = some (.slice A1_2 l1_2.length c1_2) := hS_
              refine norm_ (a' := ?_) ?_ ?_
              rotate_left
              ·simp only [putAll, Act.put, List.setIfInBounds_toArray, List.set_cons_zero, List.set_cons_succ]
               rfl
              refine two_ (i := 3) (j := 5) (Ni := some 26) (Nj := some 12) #[true, true, true, true, true, false, false, false] #[true, true, true, false, true, true, false, false] rfl rfl rfl rfl (two_of HT_.out (by kernel_rfl)) (by decide) (by decide) (fun K hK => ?_) (fun K hK => ?_)
              ·skip
               refine goes_ Tryd.func16 (by kernel_rfl) rfl #[.agg #[.int .i64 a1_0, .int .i64 a1_1, .slice A1_2 l1_2.length c1_2], .int .i64 4, .int .i64 4] (by rfl) rfl rfl (by (try simp only [List.map_toArray, List.map_cons, List.map_nil]); first | done | rfl | (simp only [List.length_drop, List.length_take]; rfl)) ?_
               with_reducible refine (thyrsuslaw1_Make.calls zc a1_0 a1_1 _ _ l1_2 4 4 zm zo zg _ ?side1 ?side2 A25.out).mono ?_
               (case side1 => repeat (first | exact (Kd.C_below xX.out HB.out) | (with_reducible refine ac2 ?_ _) | (with_reducible refine ac3 ?_ _) | (with_reducible refine Kd.C_drew ?_)))
               (case side2 => exact xY.out)
               rintro e xD ⟨xB, rfl, ho0, hb⟩
               refine ⟨_, rfl, ?_⟩
               have zd := am_ (an4 (by (with_reducible repeat (first | apply an1 | apply an2 | apply an3)); exact zI.out) (by first | exact Kd.N_base ho0 | exact Kd.R_base ho0) hb)
               have ze := am_ (Kd.N_lower (an5 (ok' := fun k_ => some k_ ≠ (zv : Value).ownBlock ∧ k_ ≠ zA ∧ k_ ≠ zB ∧ k_ ≠ zE) (Kd.R_N (Kd.R_bound ho0)) (fun k_ hk_ => ⟨(af2 (Kd.N_lt (by (with_reducible repeat (first | apply an1 | apply an2 | apply an3)); exact zI.out)) k_ hk_.2.1), (af1 (g := zA) (o := .cells #[.int .i64 a0_0, .int .i64 a0_1, .slice A0_2 l0_2.length c0_2] 24 (0, 0)) (by (with_reducible repeat (first | apply aq1 | apply aq2 | apply aq3)); exact zC.out) k_ hk_.2.1), (af1 (g := zB) (o := .cells #[.int .i64 a1_0, .int .i64 a1_1, .slice A1_2 l1_2.length c1_2] 24 (0, 0)) (by (with_reducible repeat (first | apply aq1 | apply aq2 | apply aq3)); exact zD.out) k_ hk_.2.1), (af1 (g := zE) (o := .cells #[.int .i64 0, .int .i64 0, .slice none 0 0] 29 (0, 0)) (by (with_reducible repeat (first | apply aq1 | apply aq2 | apply aq3)); exact zG.out) k_ hk_.2.1)⟩)) (below_size (by repeat (first | (with_reducible first | exact HB.out | apply ab1 | apply ab2 | apply ab3 | refine ab4 ?_ zJ.out | refine ab4 ?_ zK.out | refine ab4 ?_ zU.out) | exact HB.out))))
               have zf := am_ (aq4 (g := zA) (o := .cells #[.int .i64 a0_0, .int .i64 a0_1, .slice A0_2 l0_2.length c0_2] 24 (0, 0)) (by (with_reducible repeat (first | apply aq1 | apply aq2 | apply aq3)); exact zC.out) hb)
               have zi := am_ (aq4 (g := zB) (o := .cells #[.int .i64 a1_0, .int .i64 a1_1, .slice A1_2 l1_2.length c1_2] 24 (0, 0)) (by (with_reducible repeat (first | apply aq1 | apply aq2 | apply aq3)); exact zD.out) hb)
               have zj := am_ (aq4 (g := zE) (o := .cells #[.int .i64 0, .int .i64 0, .slice none 0 0] 29 (0, 0)) (by (with_reducible repeat (first | apply aq1 | apply aq2 | apply aq3)); exact zG.out) hb)
               have zk := am_ (ab5 (by repeat (first | (with_reducible first | exact HB.out | apply ab1 | apply ab2 | apply ab3 | refine ab4 ?_ zJ.out | refine ab4 ?_ zK.out | refine ab4 ?_ zU.out) | exact HB.out)) hb)
               clear zI
               clear zC
               clear zD
               clear zG
               clear HB
               have zI := zd
               have zT := ze
               have zC := zf
               have zD := zi
               have zG := zj
               have HB := zk
               clear zd ze zf zi zj zk
               (try clear hb)
               (try clear hb2)
               (try clear hk)
               (try clear hi)
               (try clear ho0)
               refine hK.out _ _ ⟨(aq7 zC.out 0).trans rfl, (aq7 zC.out 1).trans rfl, (aq7 zC.out 2).trans rfl, (aq7 zD.out 0).trans rfl, (aq7 zD.out 1).trans rfl, (aq7 zD.out 2).trans rfl⟩ (fun hHeld => ?_)
               clear hK K
               refine norm_ (a' := ?_) ?_ ?_
               rotate_left
               ·show Act.put _ (some 26) _ = _
                simp only [Act.put, List.setIfInBounds_toArray, List.set_cons_zero, List.set_cons_succ, i64_w, i32_w, u8_w, u32_w]
                rfl
               exact norm_ (by first | (simp only [putAll, Act.put, List.setIfInBounds_toArray, List.set_cons_zero, List.set_cons_succ]; done) | (simp only [putAll, Act.put, List.setIfInBounds_toArray, List.set_cons_zero, List.set_cons_succ]; rfl)) (hJ1_3_4 (zv, xB, zE) _ ⟨hHeld, (by (with_reducible repeat (first | apply an1 | apply an2 | apply an3)); exact an5 zI.out (fun _ hk => ⟨hk.2, ⟨hk.1.1, ⟨hk.1.2.1, hk.1.2.2⟩⟩⟩)), (by (with_reducible repeat (first | apply an1 | apply an2 | apply an3)); exact zT.out), (by (with_reducible repeat (first | apply aq1 | apply aq2 | apply aq3)); exact zC.out), (by (with_reducible repeat (first | apply aq1 | apply aq2 | apply aq3)); exact zD.out), (by (with_reducible repeat (first | apply aq1 | apply aq2 | apply aq3)); exact zG.out), z2.out, zU.out, zM.out, zW.out, zN.out, zX.out, (by repeat (first | (with_reducible first | exact HB.out | apply ab1 | apply ab2 | apply ab3 | refine ab4 ?_ zJ.out | refine ab4 ?_ zK.out | refine ab4 ?_ zU.out) | exact HB.out))⟩)
              ·skip
               refine box_step ?hg (N := 12) ?hd (cs := #[.int .i64 0, .int .i64 0, .slice none 0 0]) (t := 29) ?hr ?_; (case hd => rfl); (case hg => rfl); (case hr => first | (go_simp; done) | (go_simp; rfl))
               intro zF hg xD hbox hb
               have zd := am_ (Kd.N_below (Kd.N_elderB (by (with_reducible repeat (first | apply an1 | apply an2 | apply an3)); exact zI.out) zF (Nat.le_of_eq hg.symm)) hb)
               have ze := am_ (aq4 (g := zA) (o := .cells #[.int .i64 a0_0, .int .i64 a0_1, .slice A0_2 l0_2.length c0_2] 24 (0, 0)) (by (with_reducible repeat (first | apply aq1 | apply aq2 | apply aq3)); exact zC.out) hb)
               have zf := am_ (aq4 (g := zB) (o := .cells #[.int .i64 a1_0, .int .i64 a1_1, .slice A1_2 l1_2.length c1_2] 24 (0, 0)) (by (with_reducible repeat (first | apply aq1 | apply aq2 | apply aq3)); exact zD.out) hb)
               have zi := am_ (aq4 (g := zE) (o := .cells #[.int .i64 0, .int .i64 0, .slice none 0 0] 29 (0, 0)) (by (with_reducible repeat (first | apply aq1 | apply aq2 | apply aq3)); exact zG.out) hb)
               have zj := am_ (ab5 (by repeat (first | (with_reducible first | exact HB.out | apply ab1 | apply ab2 | apply ab3 | refine ab4 ?_ zJ.out | refine ab4 ?_ zK.out | refine ab4 ?_ zU.out) | exact HB.out)) hb)
               have zk := am_ (hbox)
               have zn := am_ ((by rw [hg]; exact (below_size (by repeat (first | (with_reducible first | exact HB.out | apply ab1 | apply ab2 | apply ab3 | refine ab4 ?_ zJ.out | refine ab4 ?_ zK.out | refine ab4 ?_ zU.out) | exact HB.out))) : w.heap.size ≤ zF))
               have zs := am_ ((by rw [hg]; exact (below_size (by repeat (first | (with_reducible first | exact HB.out | apply ab1 | apply ab2 | apply ab3 | refine ab4 ?_ zJ.out | refine ab4 ?_ zK.out | refine ab4 ?_ zU.out) | exact HB.out))) : w.heap.size ≤ zF))
               have zu := am_ ((by rw [hg]; exact Nat.ne_of_lt (blk_lt (g := zA) (o := .cells #[.int .i64 a0_0, .int .i64 a0_1, .slice A0_2 l0_2.length c0_2] 24 (0, 0)) (by (with_reducible repeat (first | apply aq1 | apply aq2 | apply aq3)); exact zC.out)) : zA ≠ zF))
               have zy := am_ ((by rw [hg]; exact Nat.ne_of_gt (blk_lt (g := zA) (o := .cells #[.int .i64 a0_0, .int .i64 a0_1, .slice A0_2 l0_2.length c0_2] 24 (0, 0)) (by (with_reducible repeat (first | apply aq1 | apply aq2 | apply aq3)); exact zC.out)) : zF ≠ zA))
               have zh := am_ ((by rw [hg]; exact Nat.ne_of_lt (blk_lt (g := zB) (o := .cells #[.int .i64 a1_0, .int .i64 a1_1, .slice A1_2 l1_2.length c1_2] 24 (0, 0)) (by (with_reducible repeat (first | apply aq1 | apply aq2 | apply aq3)); exact zD.out)) : zB ≠ zF))
               have zp := am_ ((by rw [hg]; exact Nat.ne_of_gt (blk_lt (g := zB) (o := .cells #[.int .i64 a1_0, .int .i64 a1_1, .slice A1_2 l1_2.length c1_2] 24 (0, 0)) (by (with_reducible repeat (first | apply aq1 | apply aq2 | apply aq3)); exact zD.out)) : zF ≠ zB))
               have z1 := am_ ((by rw [hg]; exact Nat.ne_of_lt (blk_lt (g := zE) (o := .cells #[.int .i64 0, .int .i64 0, .slice none 0 0] 29 (0, 0)) (by (with_reducible repeat (first | apply aq1 | apply aq2 | apply aq3)); exact zG.out)) : zE ≠ zF))
               have xA := am_ ((by rw [hg]; exact Nat.ne_of_gt (blk_lt (g := zE) (o := .cells #[.int .i64 0, .int .i64 0, .slice none 0 0] 29 (0, 0)) (by (with_reducible repeat (first | apply aq1 | apply aq2 | apply aq3)); exact zG.out)) : zF ≠ zE))
               clear zI
               clear zC
               clear zD
               clear zG
               clear HB
               have zI := zd
               have zC := ze
               have zD := zf
               have zG := zi
               have HB := zj
               have zH := zk
               have z3 := zn
               have zV := zs
               have zO := zu
               have zY := zy
               have zP := zh
               have zZ := zp
               have zb := z1
               have za := xA
               clear zd ze zf zi zj zk zn zs zu zy zh zp z1 xA
               clear hb hbox hg
               refine hK.out _ _ ⟨(aq7 zC.out 0).trans rfl, (aq7 zC.out 1).trans rfl, (aq7 zC.out 2).trans rfl, (aq7 zD.out 0).trans rfl, (aq7 zD.out 1).trans rfl, (aq7 zD.out 2).trans rfl⟩ (fun hHeld => ?_)
               clear hK K
               refine norm_ (a' := ?_) ?_ ?_
               rotate_left
               ·show Act.put _ (some 12) _ = _
                simp only [Act.put, List.setIfInBounds_toArray, List.set_cons_zero, List.set_cons_succ, i64_w, i32_w, u8_w, u32_w]
                rfl
               exact norm_ (by first | (simp only [putAll, Act.put, List.setIfInBounds_toArray, List.set_cons_zero, List.set_cons_succ]; done) | (simp only [putAll, Act.put, List.setIfInBounds_toArray, List.set_cons_zero, List.set_cons_succ]; rfl)) (hJ1_4_5 (zv, zE, zF) _ ⟨hHeld, (by (with_reducible repeat (first | apply an1 | apply an2 | apply an3)); exact an5 zI.out (fun _ hk => ⟨hk.1.1, ⟨hk.1.2.1, ⟨hk.1.2.2, hk.2⟩⟩⟩)), (by (with_reducible repeat (first | apply aq1 | apply aq2 | apply aq3)); exact zC.out), (by (with_reducible repeat (first | apply aq1 | apply aq2 | apply aq3)); exact zD.out), (by (with_reducible repeat (first | apply aq1 | apply aq2 | apply aq3)); exact zG.out), (by (with_reducible repeat (first | apply aq1 | apply aq2 | apply aq3)); exact zH.out), z2.out, zU.out, zM.out, zW.out, zN.out, zX.out, za.out, zb.out, z3.out, zV.out, zO.out, zY.out, zP.out, zZ.out, (by repeat (first | (with_reducible first | exact HB.out | apply ab1 | apply ab2 | apply ab3 | refine ab4 ?_ zJ.out | refine ab4 ?_ zK.out | refine ab4 ?_ zU.out | refine ab4 ?_ zV.out) | exact HB.out))⟩)
            ·skip
             rintro ⟨zv, xB⟩ z8 ⟨hS_, h0_, h1_, h2_, h3_, h4_⟩
             have zd : Aside0 (Kd.N k29 29 z8 w.heap.size (fun k_ => some k_ ≠ (xB : Value).ownBlock ∧ k_ ≠ zA ∧ k_ ≠ zB) zv zL) := ⟨h0_⟩
             have ze : Aside0 (Kd.N k29 29 z8 w.heap.size (fun k_ => some k_ ≠ (zv : Value).ownBlock ∧ k_ ≠ zA ∧ k_ ≠ zB) xB zg) := ⟨h1_⟩
             have zf : Aside0 (z8.heap[zA]? = some (.cells #[.int .i64 a0_0, .int .i64 a0_1, .slice A0_2 l0_2.length c0_2] 24 (0, 0))) := ⟨h2_⟩
             have zi : Aside0 (z8.heap[zB]? = some (.cells #[.int .i64 a1_0, .int .i64 a1_1, .slice A1_2 l1_2.length c1_2] 24 (0, 0))) := ⟨h3_⟩
             have zj : Aside0 (Below w.heap.size w z8) := ⟨h4_⟩
             clear zC
             clear zD
             clear HB
             clear h0_ h1_ h2_ h3_ h4_
             have zI := zd
             have zT := ze
             have zC := zf
             have zD := zi
             have HB := zj
             clear zd ze zf zi zj
             have hHeld : z8.cell? ⟨zA, 0, none⟩ = some (.int .i64 a0_0) ∧ z8.cell? ⟨zA, 1, none⟩ = some (.int .i64 a0_1) ∧ z8.cell? ⟨zA, 2, none⟩ = some (.slice A0_2 l0_2.length c0_2) ∧ z8.cell? ⟨zB, 0, none⟩ = some (.int .i64 a1_0) ∧ z8.cell? ⟨zB, 1, none⟩ = some (.int .i64 a1_1) ∧ z8.cell? ⟨zB, 2, none⟩ = some (.slice A1_2 l1_2.length c1_2) := hS_
             refine norm_ (a' := ?_) ?_ ?_
             rotate_left
             ·simp only [putAll, Act.put, List.setIfInBounds_toArray, List.set_cons_zero, List.set_cons_succ]
              rfl
             refine two_ (i := 4) (j := 5) (Ni := some 11) (Nj := some 12) #[true, true, true, true, true, false, false, false] #[true, true, true, true, false, true, false, false] rfl rfl rfl rfl (two_of HT_.out (by kernel_rfl)) (by decide) (by decide) (fun K hK => ?_) (fun K hK => ?_)
             ·skip
              refine box_step ?hg (N := 11) ?hd (cs := #[.int .i64 0, .int .i64 0, .slice none 0 0]) (t := 29) ?hr ?_; (case hd => rfl); (case hg => rfl); (case hr => first | (go_simp; done) | (go_simp; rfl))
              intro zE hg xD hbox hb
              have zd := am_ (Kd.N_below (Kd.N_elderB (by (with_reducible repeat (first | apply an1 | apply an2 | apply an3)); exact zI.out) zE (Nat.le_of_eq hg.symm)) hb)
              have ze := am_ (Kd.N_below (Kd.N_elderB (by (with_reducible repeat (first | apply an1 | apply an2 | apply an3)); exact zT.out) zE (Nat.le_of_eq hg.symm)) hb)
              have zf := am_ (aq4 (g := zA) (o := .cells #[.int .i64 a0_0, .int .i64 a0_1, .slice A0_2 l0_2.length c0_2] 24 (0, 0)) (by (with_reducible repeat (first | apply aq1 | apply aq2 | apply aq3)); exact zC.out) hb)
              have zi := am_ (aq4 (g := zB) (o := .cells #[.int .i64 a1_0, .int .i64 a1_1, .slice A1_2 l1_2.length c1_2] 24 (0, 0)) (by (with_reducible repeat (first | apply aq1 | apply aq2 | apply aq3)); exact zD.out) hb)
              have zj := am_ (ab5 (by repeat (first | (with_reducible first | exact HB.out | apply ab1 | apply ab2 | apply ab3 | refine ab4 ?_ zJ.out | refine ab4 ?_ zK.out) | exact HB.out)) hb)
              have zk := am_ (hbox)
              have zn := am_ ((by rw [hg]; exact (below_size (by repeat (first | (with_reducible first | exact HB.out | apply ab1 | apply ab2 | apply ab3 | refine ab4 ?_ zJ.out | refine ab4 ?_ zK.out) | exact HB.out))) : w.heap.size ≤ zE))
              have zs := am_ ((by rw [hg]; exact (below_size (by repeat (first | (with_reducible first | exact HB.out | apply ab1 | apply ab2 | apply ab3 | refine ab4 ?_ zJ.out | refine ab4 ?_ zK.out) | exact HB.out))) : w.heap.size ≤ zE))
              have zu := am_ ((by rw [hg]; exact Nat.ne_of_lt (blk_lt (g := zA) (o := .cells #[.int .i64 a0_0, .int .i64 a0_1, .slice A0_2 l0_2.length c0_2] 24 (0, 0)) (by (with_reducible repeat (first | apply aq1 | apply aq2 | apply aq3)); exact zC.out)) : zA ≠ zE))
              have zy := am_ ((by rw [hg]; exact Nat.ne_of_gt (blk_lt (g := zA) (o := .cells #[.int .i64 a0_0, .int .i64 a0_1, .slice A0_2 l0_2.length c0_2] 24 (0, 0)) (by (with_reducible repeat (first | apply aq1 | apply aq2 | apply aq3)); exact zC.out)) : zE ≠ zA))
              have zh := am_ ((by rw [hg]; exact Nat.ne_of_lt (blk_lt (g := zB) (o := .cells #[.int .i64 a1_0, .int .i64 a1_1, .slice A1_2 l1_2.length c1_2] 24 (0, 0)) (by (with_reducible repeat (first | apply aq1 | apply aq2 | apply aq3)); exact zD.out)) : zB ≠ zE))
              have zp := am_ ((by rw [hg]; exact Nat.ne_of_gt (blk_lt (g := zB) (o := .cells #[.int .i64 a1_0, .int .i64 a1_1, .slice A1_2 l1_2.length c1_2] 24 (0, 0)) (by (with_reducible repeat (first | apply aq1 | apply aq2 | apply aq3)); exact zD.out)) : zE ≠ zB))
              clear zI
              clear zT
              clear zC
              clear zD
              clear HB
              have zI := zd
              have zT := ze
              have zC := zf
              have zD := zi
              have HB := zj
              have zG := zk
              have z2 := zn
              have zU := zs
              have zM := zu
              have zW := zy
              have zN := zh
              have zX := zp
              clear zd ze zf zi zj zk zn zs zu zy zh zp
              clear hb hbox hg
              refine hK.out _ _ ⟨(aq7 zC.out 0).trans rfl, (aq7 zC.out 1).trans rfl, (aq7 zC.out 2).trans rfl, (aq7 zD.out 0).trans rfl, (aq7 zD.out 1).trans rfl, (aq7 zD.out 2).trans rfl⟩ (fun hHeld => ?_)
              clear hK K
              refine norm_ (a' := ?_) ?_ ?_
              rotate_left
              ·show Act.put _ (some 11) _ = _
               simp only [Act.put, List.setIfInBounds_toArray, List.set_cons_zero, List.set_cons_succ, i64_w, i32_w, u8_w, u32_w]
               rfl
              exact norm_ (by first | (simp only [putAll, Act.put, List.setIfInBounds_toArray, List.set_cons_zero, List.set_cons_succ]; done) | (simp only [putAll, Act.put, List.setIfInBounds_toArray, List.set_cons_zero, List.set_cons_succ]; rfl)) (hJ1_3_4 (zv, xB, zE) _ ⟨hHeld, (by (with_reducible repeat (first | apply an1 | apply an2 | apply an3)); exact an5 zI.out (fun _ hk => ⟨hk.1.1, ⟨hk.1.2.1, ⟨hk.1.2.2, hk.2⟩⟩⟩)), (by (with_reducible repeat (first | apply an1 | apply an2 | apply an3)); exact an5 zT.out (fun _ hk => ⟨hk.1.1, ⟨hk.1.2.1, ⟨hk.1.2.2, hk.2⟩⟩⟩)), (by (with_reducible repeat (first | apply aq1 | apply aq2 | apply aq3)); exact zC.out), (by (with_reducible repeat (first | apply aq1 | apply aq2 | apply aq3)); exact zD.out), (by (with_reducible repeat (first | apply aq1 | apply aq2 | apply aq3)); exact zG.out), z2.out, zU.out, zM.out, zW.out, zN.out, zX.out, (by repeat (first | (with_reducible first | exact HB.out | apply ab1 | apply ab2 | apply ab3 | refine ab4 ?_ zJ.out | refine ab4 ?_ zK.out | refine ab4 ?_ zU.out) | exact HB.out))⟩)
             ·skip
              refine box_step ?hg (N := 12) ?hd (cs := #[.int .i64 0, .int .i64 0, .slice none 0 0]) (t := 29) ?hr ?_; (case hd => rfl); (case hg => rfl); (case hr => first | (go_simp; done) | (go_simp; rfl))
              intro zF hg xD hbox hb
              have zd := am_ (Kd.N_below (Kd.N_elderB (by (with_reducible repeat (first | apply an1 | apply an2 | apply an3)); exact zI.out) zF (Nat.le_of_eq hg.symm)) hb)
              have ze := am_ (Kd.N_below (Kd.N_elderB (by (with_reducible repeat (first | apply an1 | apply an2 | apply an3)); exact zT.out) zF (Nat.le_of_eq hg.symm)) hb)
              have zf := am_ (aq4 (g := zA) (o := .cells #[.int .i64 a0_0, .int .i64 a0_1, .slice A0_2 l0_2.length c0_2] 24 (0, 0)) (by (with_reducible repeat (first | apply aq1 | apply aq2 | apply aq3)); exact zC.out) hb)
              have zi := am_ (aq4 (g := zB) (o := .cells #[.int .i64 a1_0, .int .i64 a1_1, .slice A1_2 l1_2.length c1_2] 24 (0, 0)) (by (with_reducible repeat (first | apply aq1 | apply aq2 | apply aq3)); exact zD.out) hb)
              have zj := am_ (ab5 (by repeat (first | (with_reducible first | exact HB.out | apply ab1 | apply ab2 | apply ab3 | refine ab4 ?_ zJ.out | refine ab4 ?_ zK.out) | exact HB.out)) hb)
              have zk := am_ (hbox)
              have zn := am_ ((by rw [hg]; exact (below_size (by repeat (first | (with_reducible first | exact HB.out | apply ab1 | apply ab2 | apply ab3 | refine ab4 ?_ zJ.out | refine ab4 ?_ zK.out) | exact HB.out))) : w.heap.size ≤ zF))
              have zs := am_ ((by rw [hg]; exact (below_size (by repeat (first | (with_reducible first | exact HB.out | apply ab1 | apply ab2 | apply ab3 | refine ab4 ?_ zJ.out | refine ab4 ?_ zK.out) | exact HB.out))) : w.heap.size ≤ zF))
              have zu := am_ ((by rw [hg]; exact Nat.ne_of_lt (blk_lt (g := zA) (o := .cells #[.int .i64 a0_0, .int .i64 a0_1, .slice A0_2 l0_2.length c0_2] 24 (0, 0)) (by (with_reducible repeat (first | apply aq1 | apply aq2 | apply aq3)); exact zC.out)) : zA ≠ zF))
              have zy := am_ ((by rw [hg]; exact Nat.ne_of_gt (blk_lt (g := zA) (o := .cells #[.int .i64 a0_0, .int .i64 a0_1, .slice A0_2 l0_2.length c0_2] 24 (0, 0)) (by (with_reducible repeat (first | apply aq1 | apply aq2 | apply aq3)); exact zC.out)) : zF ≠ zA))
              have zh := am_ ((by rw [hg]; exact Nat.ne_of_lt (blk_lt (g := zB) (o := .cells #[.int .i64 a1_0, .int .i64 a1_1, .slice A1_2 l1_2.length c1_2] 24 (0, 0)) (by (with_reducible repeat (first | apply aq1 | apply aq2 | apply aq3)); exact zD.out)) : zB ≠ zF))
              have zp := am_ ((by rw [hg]; exact Nat.ne_of_gt (blk_lt (g := zB) (o := .cells #[.int .i64 a1_0, .int .i64 a1_1, .slice A1_2 l1_2.length c1_2] 24 (0, 0)) (by (with_reducible repeat (first | apply aq1 | apply aq2 | apply aq3)); exact zD.out)) : zF ≠ zB))
              clear zI
              clear zT
              clear zC
              clear zD
              clear HB
              have zI := zd
              have zT := ze
              have zC := zf
              have zD := zi
              have HB := zj
              have zH := zk
              have z3 := zn
              have zV := zs
              have zO := zu
              have zY := zy
              have zP := zh
              have zZ := zp
              clear zd ze zf zi zj zk zn zs zu zy zh zp
              clear hb hbox hg
              refine hK.out _ _ ⟨(aq7 zC.out 0).trans rfl, (aq7 zC.out 1).trans rfl, (aq7 zC.out 2).trans rfl, (aq7 zD.out 0).trans rfl, (aq7 zD.out 1).trans rfl, (aq7 zD.out 2).trans rfl⟩ (fun hHeld => ?_)
              clear hK K
              refine norm_ (a' := ?_) ?_ ?_
              rotate_left
              ·show Act.put _ (some 12) _ = _
               simp only [Act.put, List.setIfInBounds_toArray, List.set_cons_zero, List.set_cons_succ, i64_w, i32_w, u8_w, u32_w]
               rfl
              exact norm_ (by first | (simp only [putAll, Act.put, List.setIfInBounds_toArray, List.set_cons_zero, List.set_cons_succ]; done) | (simp only [putAll, Act.put, List.setIfInBounds_toArray, List.set_cons_zero, List.set_cons_succ]; rfl)) (hJ1_3_5 (zv, xB, zF) _ ⟨hHeld, (by (with_reducible repeat (first | apply an1 | apply an2 | apply an3)); exact an5 zI.out (fun _ hk => ⟨hk.1.1, ⟨hk.1.2.1, ⟨hk.1.2.2, hk.2⟩⟩⟩)), (by (with_reducible repeat (first | apply an1 | apply an2 | apply an3)); exact an5 zT.out (fun _ hk => ⟨hk.1.1, ⟨hk.1.2.1, ⟨hk.1.2.2, hk.2⟩⟩⟩)), (by (with_reducible repeat (first | apply aq1 | apply aq2 | apply aq3)); exact zC.out), (by (with_reducible repeat (first | apply aq1 | apply aq2 | apply aq3)); exact zD.out), (by (with_reducible repeat (first | apply aq1 | apply aq2 | apply aq3)); exact zH.out), z3.out, zV.out, zO.out, zY.out, zP.out, zZ.out, (by repeat (first | (with_reducible first | exact HB.out | apply ab1 | apply ab2 | apply ab3 | refine ab4 ?_ zJ.out | refine ab4 ?_ zK.out | refine ab4 ?_ zV.out) | exact HB.out))⟩)
           ·skip
            rintro ⟨zv, zE, zF⟩ xD ⟨hS_, h0_, h1_, h2_, h3_, h4_, h5_, h6_, h7_, h8_, h9_, h10_, h11_, h12_, h13_, h14_, h15_, h16_, h17_, h18_, h19_⟩
            have zd : Aside0 (Kd.N k29 29 xD w.heap.size (fun k_ => k_ ≠ zA ∧ k_ ≠ zB ∧ k_ ≠ zE ∧ k_ ≠ zF) zv zL) := ⟨h0_⟩
            have ze : Aside0 (xD.heap[zA]? = some (.cells #[.int .i64 a0_0, .int .i64 a0_1, .slice A0_2 l0_2.length c0_2] 24 (0, 0))) := ⟨h1_⟩
            have zf : Aside0 (xD.heap[zB]? = some (.cells #[.int .i64 a1_0, .int .i64 a1_1, .slice A1_2 l1_2.length c1_2] 24 (0, 0))) := ⟨h2_⟩
            have zi : Aside0 (xD.heap[zE]? = some (.cells #[.int .i64 0, .int .i64 0, .slice none 0 0] 29 (0, 0))) := ⟨h3_⟩
            have zj : Aside0 (xD.heap[zF]? = some (.cells #[.int .i64 0, .int .i64 0, .slice none 0 0] 29 (0, 0))) := ⟨h4_⟩
            have zk : Aside0 (w.heap.size ≤ zE) := ⟨h5_⟩
            have zn : Aside0 (w.heap.size ≤ zE) := ⟨h6_⟩
            have zs : Aside0 (zA ≠ zE) := ⟨h7_⟩
            have zu : Aside0 (zE ≠ zA) := ⟨h8_⟩
            have zy : Aside0 (zB ≠ zE) := ⟨h9_⟩
            have zh : Aside0 (zE ≠ zB) := ⟨h10_⟩
            have zp : Aside0 (zF ≠ zE) := ⟨h11_⟩
            have z1 : Aside0 (zE ≠ zF) := ⟨h12_⟩
            have xA : Aside0 (w.heap.size ≤ zF) := ⟨h13_⟩
            have xJ : Aside0 (w.heap.size ≤ zF) := ⟨h14_⟩
            have xa : Aside0 (zA ≠ zF) := ⟨h15_⟩
            have xb : Aside0 (zF ≠ zA) := ⟨h16_⟩
            have xc : Aside0 (zB ≠ zF) := ⟨h17_⟩
            have xd : Aside0 (zF ≠ zB) := ⟨h18_⟩
            have xn : Aside0 (Below w.heap.size w xD) := ⟨h19_⟩
            clear zC
            clear zD
            clear HB
            clear h0_ h1_ h2_ h3_ h4_ h5_ h6_ h7_ h8_ h9_ h10_ h11_ h12_ h13_ h14_ h15_ h16_ h17_ h18_ h19_
            have zI := zd
            have zC := ze
            have zD := zf
            have zG := zi
            have zH := zj
            have z2 := zk
            have zU := zn
            have zM := zs
            have zW := zu
            have zN := zy
            have zX := zh
            have za := zp
            have zb := z1
            have z3 := xA
            have zV := xJ
            have zO := xa
            have zY := xb
            have zP := xc
            have zZ := xd
            have HB := xn
            clear zd ze zf zi zj zk zn zs zu zy zh zp z1 xA xJ xa xb xc xd xn
            have hHeld : xD.cell? ⟨zA, 0, none⟩ = some (.int .i64 a0_0) ∧ xD.cell? ⟨zA, 1, none⟩ = some (.int .i64 a0_1) ∧ xD.cell? ⟨zA, 2, none⟩ = some (.slice A0_2 l0_2.length c0_2) ∧ xD.cell? ⟨zB, 0, none⟩ = some (.int .i64 a1_0) ∧ xD.cell? ⟨zB, 1, none⟩ = some (.int .i64 a1_1) ∧ xD.cell? ⟨zB, 2, none⟩ = some (.slice A1_2 l1_2.length c1_2) := hS_
            refine norm_ (a' := ?_) ?_ ?_
            rotate_left
            ·simp only [putAll, Act.put, List.setIfInBounds_toArray, List.set_cons_zero, List.set_cons_succ]
             rfl
            refine one_ (i := 3) (N := some 26) #[true, true, true, true, true, true, false, false] rfl rfl (one_of HT_.out (by kernel_rfl)) (by decide) (fun K hK => ?_)
            refine goes_ Tryd.func16 (by kernel_rfl) rfl #[.agg #[.int .i64 a1_0, .int .i64 a1_1, .slice A1_2 l1_2.length c1_2], .int .i64 4, .int .i64 4] (by rfl) rfl rfl (by (try simp only [List.map_toArray, List.map_cons, List.map_nil]); first | done | rfl | (simp only [List.length_drop, List.length_take]; rfl)) ?_
            with_reducible refine (thyrsuslaw1_Make.calls zc a1_0 a1_1 _ _ l1_2 4 4 zm zo zg _ ?side1 ?side2 A25.out).mono ?_
            (case side1 => repeat (first | exact (Kd.C_below xX.out HB.out) | (with_reducible refine ac2 ?_ _) | (with_reducible refine ac3 ?_ _) | (with_reducible refine Kd.C_drew ?_)))
            (case side2 => exact xY.out)
            rintro e xI ⟨xB, rfl, ho0, hb⟩
            refine ⟨_, rfl, ?_⟩
            have zd := am_ (an4 (by (with_reducible repeat (first | apply an1 | apply an2 | apply an3)); exact zI.out) (by first | exact Kd.N_base ho0 | exact Kd.R_base ho0) hb)
            have ze := am_ (Kd.N_lower (an5 (ok' := fun k_ => some k_ ≠ (zv : Value).ownBlock ∧ k_ ≠ zA ∧ k_ ≠ zB ∧ k_ ≠ zE ∧ k_ ≠ zF) (Kd.R_N (Kd.R_bound ho0)) (fun k_ hk_ => ⟨(af2 (Kd.N_lt (by (with_reducible repeat (first | apply an1 | apply an2 | apply an3)); exact zI.out)) k_ hk_.2.1), (af1 (g := zA) (o := .cells #[.int .i64 a0_0, .int .i64 a0_1, .slice A0_2 l0_2.length c0_2] 24 (0, 0)) (by (with_reducible repeat (first | apply aq1 | apply aq2 | apply aq3)); exact zC.out) k_ hk_.2.1), (af1 (g := zB) (o := .cells #[.int .i64 a1_0, .int .i64 a1_1, .slice A1_2 l1_2.length c1_2] 24 (0, 0)) (by (with_reducible repeat (first | apply aq1 | apply aq2 | apply aq3)); exact zD.out) k_ hk_.2.1), (af1 (g := zE) (o := .cells #[.int .i64 0, .int .i64 0, .slice none 0 0] 29 (0, 0)) (by (with_reducible repeat (first | apply aq1 | apply aq2 | apply aq3)); exact zG.out) k_ hk_.2.1), (af1 (g := zF) (o := .cells #[.int .i64 0, .int .i64 0, .slice none 0 0] 29 (0, 0)) (by (with_reducible repeat (first | apply aq1 | apply aq2 | apply aq3)); exact zH.out) k_ hk_.2.1)⟩)) (below_size (by repeat (first | (with_reducible first | exact HB.out | apply ab1 | apply ab2 | apply ab3 | refine ab4 ?_ zJ.out | refine ab4 ?_ zK.out | refine ab4 ?_ zU.out | refine ab4 ?_ zV.out) | exact HB.out))))
            have zf := am_ (aq4 (g := zA) (o := .cells #[.int .i64 a0_0, .int .i64 a0_1, .slice A0_2 l0_2.length c0_2] 24 (0, 0)) (by (with_reducible repeat (first | apply aq1 | apply aq2 | apply aq3)); exact zC.out) hb)
            have zi := am_ (aq4 (g := zB) (o := .cells #[.int .i64 a1_0, .int .i64 a1_1, .slice A1_2 l1_2.length c1_2] 24 (0, 0)) (by (with_reducible repeat (first | apply aq1 | apply aq2 | apply aq3)); exact zD.out) hb)
            have zj := am_ (aq4 (g := zE) (o := .cells #[.int .i64 0, .int .i64 0, .slice none 0 0] 29 (0, 0)) (by (with_reducible repeat (first | apply aq1 | apply aq2 | apply aq3)); exact zG.out) hb)
            have zk := am_ (aq4 (g := zF) (o := .cells #[.int .i64 0, .int .i64 0, .slice none 0 0] 29 (0, 0)) (by (with_reducible repeat (first | apply aq1 | apply aq2 | apply aq3)); exact zH.out) hb)
            have zn := am_ (ab5 (by repeat (first | (with_reducible first | exact HB.out | apply ab1 | apply ab2 | apply ab3 | refine ab4 ?_ zJ.out | refine ab4 ?_ zK.out | refine ab4 ?_ zU.out | refine ab4 ?_ zV.out) | exact HB.out)) hb)
            clear zI
            clear zC
            clear zD
            clear zG
            clear zH
            clear HB
            have zI := zd
            have zT := ze
            have zC := zf
            have zD := zi
            have zG := zj
            have zH := zk
            have HB := zn
            clear zd ze zf zi zj zk zn
            (try clear hb)
            (try clear hb2)
            (try clear hk)
            (try clear hi)
            (try clear ho0)
            refine hK.out _ _ ⟨(aq7 zC.out 0).trans rfl, (aq7 zC.out 1).trans rfl, (aq7 zC.out 2).trans rfl, (aq7 zD.out 0).trans rfl, (aq7 zD.out 1).trans rfl, (aq7 zD.out 2).trans rfl⟩ (fun hHeld => ?_)
            clear hK K
            refine norm_ (a' := ?_) ?_ ?_
            rotate_left
            ·show Act.put _ (some 26) _ = _
             simp only [Act.put, List.setIfInBounds_toArray, List.set_cons_zero, List.set_cons_succ, i64_w, i32_w, u8_w, u32_w]
             rfl
            exact norm_ (by first | (simp only [putAll, Act.put, List.setIfInBounds_toArray, List.set_cons_zero, List.set_cons_succ]; done) | (simp only [putAll, Act.put, List.setIfInBounds_toArray, List.set_cons_zero, List.set_cons_succ]; rfl)) (hJ1_3_4_5 (zv, xB, zE, zF) _ ⟨hHeld, (by (with_reducible repeat (first | apply an1 | apply an2 | apply an3)); exact an5 zI.out (fun _ hk => ⟨hk.2, ⟨hk.1.1, ⟨hk.1.2.1, ⟨hk.1.2.2.1, hk.1.2.2.2⟩⟩⟩⟩)), (by (with_reducible repeat (first | apply an1 | apply an2 | apply an3)); exact zT.out), (by (with_reducible repeat (first | apply aq1 | apply aq2 | apply aq3)); exact zC.out), (by (with_reducible repeat (first | apply aq1 | apply aq2 | apply aq3)); exact zD.out), (by (with_reducible repeat (first | apply aq1 | apply aq2 | apply aq3)); exact zG.out), (by (with_reducible repeat (first | apply aq1 | apply aq2 | apply aq3)); exact zH.out), z2.out, zU.out, zM.out, zW.out, zN.out, zX.out, za.out, zb.out, z3.out, zV.out, zO.out, zY.out, zP.out, zZ.out, (by repeat (first | (with_reducible first | exact HB.out | apply ab1 | apply ab2 | apply ab3 | refine ab4 ?_ zJ.out | refine ab4 ?_ zK.out | refine ab4 ?_ zU.out | refine ab4 ?_ zV.out) | exact HB.out))⟩)
          ·skip
           rintro ⟨zv, xB, zF⟩ xD ⟨hS_, h0_, h1_, h2_, h3_, h4_, h5_, h6_, h7_, h8_, h9_, h10_, h11_⟩
           have zd : Aside0 (Kd.N k29 29 xD w.heap.size (fun k_ => some k_ ≠ (xB : Value).ownBlock ∧ k_ ≠ zA ∧ k_ ≠ zB ∧ k_ ≠ zF) zv zL) := ⟨h0_⟩
           have ze : Aside0 (Kd.N k29 29 xD w.heap.size (fun k_ => some k_ ≠ (zv : Value).ownBlock ∧ k_ ≠ zA ∧ k_ ≠ zB ∧ k_ ≠ zF) xB zg) := ⟨h1_⟩
           have zf : Aside0 (xD.heap[zA]? = some (.cells #[.int .i64 a0_0, .int .i64 a0_1, .slice A0_2 l0_2.length c0_2] 24 (0, 0))) := ⟨h2_⟩
           have zi : Aside0 (xD.heap[zB]? = some (.cells #[.int .i64 a1_0, .int .i64 a1_1, .slice A1_2 l1_2.length c1_2] 24 (0, 0))) := ⟨h3_⟩
           have zj : Aside0 (xD.heap[zF]? = some (.cells #[.int .i64 0, .int .i64 0, .slice none 0 0] 29 (0, 0))) := ⟨h4_⟩
           have zk : Aside0 (w.heap.size ≤ zF) := ⟨h5_⟩
           have zn : Aside0 (w.heap.size ≤ zF) := ⟨h6_⟩
           have zs : Aside0 (zA ≠ zF) := ⟨h7_⟩
           have zu : Aside0 (zF ≠ zA) := ⟨h8_⟩
           have zy : Aside0 (zB ≠ zF) := ⟨h9_⟩
           have zh : Aside0 (zF ≠ zB) := ⟨h10_⟩
           have zp : Aside0 (Below w.heap.size w xD) := ⟨h11_⟩
           clear zC
           clear zD
           clear HB
           clear h0_ h1_ h2_ h3_ h4_ h5_ h6_ h7_ h8_ h9_ h10_ h11_
           have zI := zd
           have zT := ze
           have zC := zf
           have zD := zi
           have zH := zj
           have z3 := zk
           have zV := zn
           have zO := zs
           have zY := zu
           have zP := zy
           have zZ := zh
           have HB := zp
           clear zd ze zf zi zj zk zn zs zu zy zh zp
           have hHeld : xD.cell? ⟨zA, 0, none⟩ = some (.int .i64 a0_0) ∧ xD.cell? ⟨zA, 1, none⟩ = some (.int .i64 a0_1) ∧ xD.cell? ⟨zA, 2, none⟩ = some (.slice A0_2 l0_2.length c0_2) ∧ xD.cell? ⟨zB, 0, none⟩ = some (.int .i64 a1_0) ∧ xD.cell? ⟨zB, 1, none⟩ = some (.int .i64 a1_1) ∧ xD.cell? ⟨zB, 2, none⟩ = some (.slice A1_2 l1_2.length c1_2) := hS_
           refine norm_ (a' := ?_) ?_ ?_
           rotate_left
           ·simp only [putAll, Act.put, List.setIfInBounds_toArray, List.set_cons_zero, List.set_cons_succ]
            rfl
           refine one_ (i := 4) (N := some 11) #[true, true, true, true, true, true, false, false] rfl rfl (one_of HT_.out (by kernel_rfl)) (by decide) (fun K hK => ?_)
           refine box_step ?hg (N := 11) ?hd (cs := #[.int .i64 0, .int .i64 0, .slice none 0 0]) (t := 29) ?hr ?_; (case hd => rfl); (case hg => rfl); (case hr => first | (go_simp; done) | (go_simp; rfl))
           intro zE hg xI hbox hb
           have zd := am_ (Kd.N_below (Kd.N_elderB (by (with_reducible repeat (first | apply an1 | apply an2 | apply an3)); exact zI.out) zE (Nat.le_of_eq hg.symm)) hb)
           have ze := am_ (Kd.N_below (Kd.N_elderB (by (with_reducible repeat (first | apply an1 | apply an2 | apply an3)); exact zT.out) zE (Nat.le_of_eq hg.symm)) hb)
           have zf := am_ (aq4 (g := zA) (o := .cells #[.int .i64 a0_0, .int .i64 a0_1, .slice A0_2 l0_2.length c0_2] 24 (0, 0)) (by (with_reducible repeat (first | apply aq1 | apply aq2 | apply aq3)); exact zC.out) hb)
           have zi := am_ (aq4 (g := zB) (o := .cells #[.int .i64 a1_0, .int .i64 a1_1, .slice A1_2 l1_2.length c1_2] 24 (0, 0)) (by (with_reducible repeat (first | apply aq1 | apply aq2 | apply aq3)); exact zD.out) hb)
           have zj := am_ (aq4 (g := zF) (o := .cells #[.int .i64 0, .int .i64 0, .slice none 0 0] 29 (0, 0)) (by (with_reducible repeat (first | apply aq1 | apply aq2 | apply aq3)); exact zH.out) hb)
           have zk := am_ (ab5 (by repeat (first | (with_reducible first | exact HB.out | apply ab1 | apply ab2 | apply ab3 | refine ab4 ?_ zJ.out | refine ab4 ?_ zK.out | refine ab4 ?_ zV.out) | exact HB.out)) hb)
           have zn := am_ (hbox)
           have zs := am_ ((by rw [hg]; exact (below_size (by repeat (first | (with_reducible first | exact HB.out | apply ab1 | apply ab2 | apply ab3 | refine ab4 ?_ zJ.out | refine ab4 ?_ zK.out | refine ab4 ?_ zV.out) | exact HB.out))) : w.heap.size ≤ zE))
           have zu := am_ ((by rw [hg]; exact (below_size (by repeat (first | (with_reducible first | exact HB.out | apply ab1 | apply ab2 | apply ab3 | refine ab4 ?_ zJ.out | refine ab4 ?_ zK.out | refine ab4 ?_ zV.out) | exact HB.out))) : w.heap.size ≤ zE))
           have zy := am_ ((by rw [hg]; exact Nat.ne_of_lt (blk_lt (g := zA) (o := .cells #[.int .i64 a0_0, .int .i64 a0_1, .slice A0_2 l0_2.length c0_2] 24 (0, 0)) (by (with_reducible repeat (first | apply aq1 | apply aq2 | apply aq3)); exact zC.out)) : zA ≠ zE))
           have zh := am_ ((by rw [hg]; exact Nat.ne_of_gt (blk_lt (g := zA) (o := .cells #[.int .i64 a0_0, .int .i64 a0_1, .slice A0_2 l0_2.length c0_2] 24 (0, 0)) (by (with_reducible repeat (first | apply aq1 | apply aq2 | apply aq3)); exact zC.out)) : zE ≠ zA))
           have zp := am_ ((by rw [hg]; exact Nat.ne_of_lt (blk_lt (g := zB) (o := .cells #[.int .i64 a1_0, .int .i64 a1_1, .slice A1_2 l1_2.length c1_2] 24 (0, 0)) (by (with_reducible repeat (first | apply aq1 | apply aq2 | apply aq3)); exact zD.out)) : zB ≠ zE))
           have z1 := am_ ((by rw [hg]; exact Nat.ne_of_gt (blk_lt (g := zB) (o := .cells #[.int .i64 a1_0, .int .i64 a1_1, .slice A1_2 l1_2.length c1_2] 24 (0, 0)) (by (with_reducible repeat (first | apply aq1 | apply aq2 | apply aq3)); exact zD.out)) : zE ≠ zB))
           have xA := am_ ((by rw [hg]; exact Nat.ne_of_lt (blk_lt (g := zF) (o := .cells #[.int .i64 0, .int .i64 0, .slice none 0 0] 29 (0, 0)) (by (with_reducible repeat (first | apply aq1 | apply aq2 | apply aq3)); exact zH.out)) : zF ≠ zE))
           have xJ := am_ ((by rw [hg]; exact Nat.ne_of_gt (blk_lt (g := zF) (o := .cells #[.int .i64 0, .int .i64 0, .slice none 0 0] 29 (0, 0)) (by (with_reducible repeat (first | apply aq1 | apply aq2 | apply aq3)); exact zH.out)) : zE ≠ zF))
           clear zI
           clear zT
           clear zC
           clear zD
           clear zH
           clear HB
           have zI := zd
           have zT := ze
           have zC := zf
           have zD := zi
           have zH := zj
           have HB := zk
           have zG := zn
           have z2 := zs
           have zU := zu
           have zM := zy
           have zW := zh
           have zN := zp
           have zX := z1
           have za := xA
           have zb := xJ
           clear zd ze zf zi zj zk zn zs zu zy zh zp z1 xA xJ
           clear hb hbox hg
           refine hK.out _ _ ⟨(aq7 zC.out 0).trans rfl, (aq7 zC.out 1).trans rfl, (aq7 zC.out 2).trans rfl, (aq7 zD.out 0).trans rfl, (aq7 zD.out 1).trans rfl, (aq7 zD.out 2).trans rfl⟩ (fun hHeld => ?_)
           clear hK K
           refine norm_ (a' := ?_) ?_ ?_
           rotate_left
           ·show Act.put _ (some 11) _ = _
            simp only [Act.put, List.setIfInBounds_toArray, List.set_cons_zero, List.set_cons_succ, i64_w, i32_w, u8_w, u32_w]
            rfl
           exact norm_ (by first | (simp only [putAll, Act.put, List.setIfInBounds_toArray, List.set_cons_zero, List.set_cons_succ]; done) | (simp only [putAll, Act.put, List.setIfInBounds_toArray, List.set_cons_zero, List.set_cons_succ]; rfl)) (hJ1_3_4_5 (zv, xB, zE, zF) _ ⟨hHeld, (by (with_reducible repeat (first | apply an1 | apply an2 | apply an3)); exact an5 zI.out (fun _ hk => ⟨hk.1.1, ⟨hk.1.2.1, ⟨hk.1.2.2.1, ⟨hk.2, hk.1.2.2.2⟩⟩⟩⟩)), (by (with_reducible repeat (first | apply an1 | apply an2 | apply an3)); exact an5 zT.out (fun _ hk => ⟨hk.1.1, ⟨hk.1.2.1, ⟨hk.1.2.2.1, ⟨hk.2, hk.1.2.2.2⟩⟩⟩⟩)), (by (with_reducible repeat (first | apply aq1 | apply aq2 | apply aq3)); exact zC.out), (by (with_reducible repeat (first | apply aq1 | apply aq2 | apply aq3)); exact zD.out), (by (with_reducible repeat (first | apply aq1 | apply aq2 | apply aq3)); exact zG.out), (by (with_reducible repeat (first | apply aq1 | apply aq2 | apply aq3)); exact zH.out), z2.out, zU.out, zM.out, zW.out, zN.out, zX.out, za.out, zb.out, z3.out, zV.out, zO.out, zY.out, zP.out, zZ.out, (by repeat (first | (with_reducible first | exact HB.out | apply ab1 | apply ab2 | apply ab3 | refine ab4 ?_ zJ.out | refine ab4 ?_ zK.out | refine ab4 ?_ zV.out | refine ab4 ?_ zU.out) | exact HB.out))⟩)
         ·skip
          rintro ⟨zv, xB, zE⟩ xD ⟨hS_, h0_, h1_, h2_, h3_, h4_, h5_, h6_, h7_, h8_, h9_, h10_, h11_⟩
          have zd : Aside0 (Kd.N k29 29 xD w.heap.size (fun k_ => some k_ ≠ (xB : Value).ownBlock ∧ k_ ≠ zA ∧ k_ ≠ zB ∧ k_ ≠ zE) zv zL) := ⟨h0_⟩
          have ze : Aside0 (Kd.N k29 29 xD w.heap.size (fun k_ => some k_ ≠ (zv : Value).ownBlock ∧ k_ ≠ zA ∧ k_ ≠ zB ∧ k_ ≠ zE) xB zg) := ⟨h1_⟩
          have zf : Aside0 (xD.heap[zA]? = some (.cells #[.int .i64 a0_0, .int .i64 a0_1, .slice A0_2 l0_2.length c0_2] 24 (0, 0))) := ⟨h2_⟩
          have zi : Aside0 (xD.heap[zB]? = some (.cells #[.int .i64 a1_0, .int .i64 a1_1, .slice A1_2 l1_2.length c1_2] 24 (0, 0))) := ⟨h3_⟩
          have zj : Aside0 (xD.heap[zE]? = some (.cells #[.int .i64 0, .int .i64 0, .slice none 0 0] 29 (0, 0))) := ⟨h4_⟩
          have zk : Aside0 (w.heap.size ≤ zE) := ⟨h5_⟩
          have zn : Aside0 (w.heap.size ≤ zE) := ⟨h6_⟩
          have zs : Aside0 (zA ≠ zE) := ⟨h7_⟩
          have zu : Aside0 (zE ≠ zA) := ⟨h8_⟩
          have zy : Aside0 (zB ≠ zE) := ⟨h9_⟩
          have zh : Aside0 (zE ≠ zB) := ⟨h10_⟩
          have zp : Aside0 (Below w.heap.size w xD) := ⟨h11_⟩
          clear zC
          clear zD
          clear HB
          clear h0_ h1_ h2_ h3_ h4_ h5_ h6_ h7_ h8_ h9_ h10_ h11_
          have zI := zd
          have zT := ze
          have zC := zf
          have zD := zi
          have zG := zj
          have z2 := zk
          have zU := zn
          have zM := zs
          have zW := zu
          have zN := zy
          have zX := zh
          have HB := zp
          clear zd ze zf zi zj zk zn zs zu zy zh zp
          have hHeld : xD.cell? ⟨zA, 0, none⟩ = some (.int .i64 a0_0) ∧ xD.cell? ⟨zA, 1, none⟩ = some (.int .i64 a0_1) ∧ xD.cell? ⟨zA, 2, none⟩ = some (.slice A0_2 l0_2.length c0_2) ∧ xD.cell? ⟨zB, 0, none⟩ = some (.int .i64 a1_0) ∧ xD.cell? ⟨zB, 1, none⟩ = some (.int .i64 a1_1) ∧ xD.cell? ⟨zB, 2, none⟩ = some (.slice A1_2 l1_2.length c1_2) := hS_
          refine norm_ (a' := ?_) ?_ ?_
          rotate_left
          ·simp only [putAll, Act.put, List.setIfInBounds_toArray, List.set_cons_zero, List.set_cons_succ]
           rfl
          refine one_ (i := 5) (N := some 12) #[true, true, true, true, true, true, false, false] rfl rfl (one_of HT_.out (by kernel_rfl)) (by decide) (fun K hK => ?_)
          refine box_step ?hg (N := 12) ?hd (cs := #[.int .i64 0, .int .i64 0, .slice none 0 0]) (t := 29) ?hr ?_; (case hd => rfl); (case hg => rfl); (case hr => first | (go_simp; done) | (go_simp; rfl))
          intro zF hg xI hbox hb
          have zd := am_ (Kd.N_below (Kd.N_elderB (by (with_reducible repeat (first | apply an1 | apply an2 | apply an3)); exact zI.out) zF (Nat.le_of_eq hg.symm)) hb)
          have ze := am_ (Kd.N_below (Kd.N_elderB (by (with_reducible repeat (first | apply an1 | apply an2 | apply an3)); exact zT.out) zF (Nat.le_of_eq hg.symm)) hb)
          have zf := am_ (aq4 (g := zA) (o := .cells #[.int .i64 a0_0, .int .i64 a0_1, .slice A0_2 l0_2.length c0_2] 24 (0, 0)) (by (with_reducible repeat (first | apply aq1 | apply aq2 | apply aq3)); exact zC.out) hb)
          have zi := am_ (aq4 (g := zB) (o := .cells #[.int .i64 a1_0, .int .i64 a1_1, .slice A1_2 l1_2.length c1_2] 24 (0, 0)) (by (with_reducible repeat (first | apply aq1 | apply aq2 | apply aq3)); exact zD.out) hb)
          have zj := am_ (aq4 (g := zE) (o := .cells #[.int .i64 0, .int .i64 0, .slice none 0 0] 29 (0, 0)) (by (with_reducible repeat (first | apply aq1 | apply aq2 | apply aq3)); exact zG.out) hb)
          have zk := am_ (ab5 (by repeat (first | (with_reducible first | exact HB.out | apply ab1 | apply ab2 | apply ab3 | refine ab4 ?_ zJ.out | refine ab4 ?_ zK.out | refine ab4 ?_ zU.out) | exact HB.out)) hb)
          have zn := am_ (hbox)
          have zs := am_ ((by rw [hg]; exact (below_size (by repeat (first | (with_reducible first | exact HB.out | apply ab1 | apply ab2 | apply ab3 | refine ab4 ?_ zJ.out | refine ab4 ?_ zK.out | refine ab4 ?_ zU.out) | exact HB.out))) : w.heap.size ≤ zF))
          have zu := am_ ((by rw [hg]; exact (below_size (by repeat (first | (with_reducible first | exact HB.out | apply ab1 | apply ab2 | apply ab3 | refine ab4 ?_ zJ.out | refine ab4 ?_ zK.out | refine ab4 ?_ zU.out) | exact HB.out))) : w.heap.size ≤ zF))
          have zy := am_ ((by rw [hg]; exact Nat.ne_of_lt (blk_lt (g := zA) (o := .cells #[.int .i64 a0_0, .int .i64 a0_1, .slice A0_2 l0_2.length c0_2] 24 (0, 0)) (by (with_reducible repeat (first | apply aq1 | apply aq2 | apply aq3)); exact zC.out)) : zA ≠ zF))
          have zh := am_ ((by rw [hg]; exact Nat.ne_of_gt (blk_lt (g := zA) (o := .cells #[.int .i64 a0_0, .int .i64 a0_1, .slice A0_2 l0_2.length c0_2] 24 (0, 0)) (by (with_reducible repeat (first | apply aq1 | apply aq2 | apply aq3)); exact zC.out)) : zF ≠ zA))
          have zp := am_ ((by rw [hg]; exact Nat.ne_of_lt (blk_lt (g := zB) (o := .cells #[.int .i64 a1_0, .int .i64 a1_1, .slice A1_2 l1_2.length c1_2] 24 (0, 0)) (by (with_reducible repeat (first | apply aq1 | apply aq2 | apply aq3)); exact zD.out)) : zB ≠ zF))
          have z1 := am_ ((by rw [hg]; exact Nat.ne_of_gt (blk_lt (g := zB) (o := .cells #[.int .i64 a1_0, .int .i64 a1_1, .slice A1_2 l1_2.length c1_2] 24 (0, 0)) (by (with_reducible repeat (first | apply aq1 | apply aq2 | apply aq3)); exact zD.out)) : zF ≠ zB))
          have xA := am_ ((by rw [hg]; exact Nat.ne_of_lt (blk_lt (g := zE) (o := .cells #[.int .i64 0, .int .i64 0, .slice none 0 0] 29 (0, 0)) (by (with_reducible repeat (first | apply aq1 | apply aq2 | apply aq3)); exact zG.out)) : zE ≠ zF))
          have xJ := am_ ((by rw [hg]; exact Nat.ne_of_gt (blk_lt (g := zE) (o := .cells #[.int .i64 0, .int .i64 0, .slice none 0 0] 29 (0, 0)) (by (with_reducible repeat (first | apply aq1 | apply aq2 | apply aq3)); exact zG.out)) : zF ≠ zE))
          clear zI
          clear zT
          clear zC
          clear zD
          clear zG
          clear HB
          have zI := zd
          have zT := ze
          have zC := zf
          have zD := zi
          have zG := zj
          have HB := zk
          have zH := zn
          have z3 := zs
          have zV := zu
          have zO := zy
          have zY := zh
          have zP := zp
          have zZ := z1
          have zb := xA
          have za := xJ
          clear zd ze zf zi zj zk zn zs zu zy zh zp z1 xA xJ
          clear hb hbox hg
          refine hK.out _ _ ⟨(aq7 zC.out 0).trans rfl, (aq7 zC.out 1).trans rfl, (aq7 zC.out 2).trans rfl, (aq7 zD.out 0).trans rfl, (aq7 zD.out 1).trans rfl, (aq7 zD.out 2).trans rfl⟩ (fun hHeld => ?_)
          clear hK K
          refine norm_ (a' := ?_) ?_ ?_
          rotate_left
          ·show Act.put _ (some 12) _ = _
           simp only [Act.put, List.setIfInBounds_toArray, List.set_cons_zero, List.set_cons_succ, i64_w, i32_w, u8_w, u32_w]
           rfl
          exact norm_ (by first | (simp only [putAll, Act.put, List.setIfInBounds_toArray, List.set_cons_zero, List.set_cons_succ]; done) | (simp only [putAll, Act.put, List.setIfInBounds_toArray, List.set_cons_zero, List.set_cons_succ]; rfl)) (hJ1_3_4_5 (zv, xB, zE, zF) _ ⟨hHeld, (by (with_reducible repeat (first | apply an1 | apply an2 | apply an3)); exact an5 zI.out (fun _ hk => ⟨hk.1.1, ⟨hk.1.2.1, ⟨hk.1.2.2.1, ⟨hk.1.2.2.2, hk.2⟩⟩⟩⟩)), (by (with_reducible repeat (first | apply an1 | apply an2 | apply an3)); exact an5 zT.out (fun _ hk => ⟨hk.1.1, ⟨hk.1.2.1, ⟨hk.1.2.2.1, ⟨hk.1.2.2.2, hk.2⟩⟩⟩⟩)), (by (with_reducible repeat (first | apply aq1 | apply aq2 | apply aq3)); exact zC.out), (by (with_reducible repeat (first | apply aq1 | apply aq2 | apply aq3)); exact zD.out), (by (with_reducible repeat (first | apply aq1 | apply aq2 | apply aq3)); exact zG.out), (by (with_reducible repeat (first | apply aq1 | apply aq2 | apply aq3)); exact zH.out), z2.out, zU.out, zM.out, zW.out, zN.out, zX.out, za.out, zb.out, z3.out, zV.out, zO.out, zY.out, zP.out, zZ.out, (by repeat (first | (with_reducible first | exact HB.out | apply ab1 | apply ab2 | apply ab3 | refine ab4 ?_ zJ.out | refine ab4 ?_ zK.out | refine ab4 ?_ zU.out | refine ab4 ?_ zV.out) | exact HB.out))⟩)
        rintro ⟨zv, xB, zE, zF⟩ xI ⟨hS_, h0_, h1_, h2_, h3_, h4_, h5_, h6_, h7_, h8_, h9_, h10_, h11_, h12_, h13_, h14_, h15_, h16_, h17_, h18_, h19_, h20_⟩
        have zd : Aside0 (Kd.N k29 29 xI w.heap.size (fun k_ => some k_ ≠ (xB : Value).ownBlock ∧ k_ ≠ zA ∧ k_ ≠ zB ∧ k_ ≠ zE ∧ k_ ≠ zF) zv zL) := ⟨h0_⟩
        have ze : Aside0 (Kd.N k29 29 xI w.heap.size (fun k_ => some k_ ≠ (zv : Value).ownBlock ∧ k_ ≠ zA ∧ k_ ≠ zB ∧ k_ ≠ zE ∧ k_ ≠ zF) xB zg) := ⟨h1_⟩
        have zf : Aside0 (xI.heap[zA]? = some (.cells #[.int .i64 a0_0, .int .i64 a0_1, .slice A0_2 l0_2.length c0_2] 24 (0, 0))) := ⟨h2_⟩
        have zi : Aside0 (xI.heap[zB]? = some (.cells #[.int .i64 a1_0, .int .i64 a1_1, .slice A1_2 l1_2.length c1_2] 24 (0, 0))) := ⟨h3_⟩
        have zj : Aside0 (xI.heap[zE]? = some (.cells #[.int .i64 0, .int .i64 0, .slice none 0 0] 29 (0, 0))) := ⟨h4_⟩
        have zk : Aside0 (xI.heap[zF]? = some (.cells #[.int .i64 0, .int .i64 0, .slice none 0 0] 29 (0, 0))) := ⟨h5_⟩
        have zn : Aside0 (w.heap.size ≤ zE) := ⟨h6_⟩
        have zs : Aside0 (w.heap.size ≤ zE) := ⟨h7_⟩
        have zu : Aside0 (zA ≠ zE) := ⟨h8_⟩
        have zy : Aside0 (zE ≠ zA) := ⟨h9_⟩
        have zh : Aside0 (zB ≠ zE) := ⟨h10_⟩
        have zp : Aside0 (zE ≠ zB) := ⟨h11_⟩
        have z1 : Aside0 (zF ≠ zE) := ⟨h12_⟩
        have xA : Aside0 (zE ≠ zF) := ⟨h13_⟩
        have xJ : Aside0 (w.heap.size ≤ zF) := ⟨h14_⟩
        have xa : Aside0 (w.heap.size ≤ zF) := ⟨h15_⟩
        have xb : Aside0 (zA ≠ zF) := ⟨h16_⟩
        have xc : Aside0 (zF ≠ zA) := ⟨h17_⟩
        have xd : Aside0 (zB ≠ zF) := ⟨h18_⟩
        have xn : Aside0 (zF ≠ zB) := ⟨h19_⟩
        have n20_ : Aside0 (Below w.heap.size w xI) := ⟨h20_⟩
        clear zC
        clear zD
        clear HB
        clear h0_ h1_ h2_ h3_ h4_ h5_ h6_ h7_ h8_ h9_ h10_ h11_ h12_ h13_ h14_ h15_ h16_ h17_ h18_ h19_ h20_
        have zI := zd
        have zT := ze
        have zC := zf
        have zD := zi
        have zG := zj
        have zH := zk
        have z2 := zn
        have zU := zs
        have zM := zu
        have zW := zy
        have zN := zh
        have zX := zp
        have za := z1
        have zb := xA
        have z3 := xJ
        have zV := xa
        have zO := xb
        have zY := xc
        have zP := xd
        have zZ := xn
        have HB := n20_
        clear zd ze zf zi zj zk zn zs zu zy zh zp z1 xA xJ xa xb xc xd xn n20_
        have hHeld : xI.cell? ⟨zA, 0, none⟩ = some (.int .i64 a0_0) ∧ xI.cell? ⟨zA, 1, none⟩ = some (.int .i64 a0_1) ∧ xI.cell? ⟨zA, 2, none⟩ = some (.slice A0_2 l0_2.length c0_2) ∧ xI.cell? ⟨zB, 0, none⟩ = some (.int .i64 a1_0) ∧ xI.cell? ⟨zB, 1, none⟩ = some (.int .i64 a1_1) ∧ xI.cell? ⟨zB, 2, none⟩ = some (.slice A1_2 l1_2.length c1_2) := hS_
        obtain ⟨zw, zx, eo51⟩ := Kd.N_slice zI.out
        (first | subst eo51 | (injection eo51 with f1_ f2_ f3_; have f4_ := f1_.symm; have f5_ := f3_.symm; clear f1_ f2_ f3_; subst f4_; subst f5_))
        obtain ⟨zq, zr, eo55⟩ := Kd.N_slice zT.out
        (first | subst eo55 | (injection eo55 with f1_ f2_ f3_; have f4_ := f1_.symm; have f5_ := f3_.symm; clear f1_ f2_ f3_; subst f4_; subst f5_))
        refine norm_ (a' := ?_) ?_ ?_
        rotate_left
        ·simp only [putAll, Act.put, List.setIfInBounds_toArray, List.set_cons_zero, List.set_cons_succ]
         rfl
        refine one_ (i := 6) (N := none) #[true, true, true, true, true, true, true, false] rfl rfl (one_of HT_.out (by kernel_rfl)) (by decide) (fun K hK => ?_)
        have hs49 : xI.cell? ⟨zE, 0, none⟩ = some (.int .i64 0) := (aq7 zG.out 0).trans rfl
        have hfs49 := blk_frozen zG.out 0
        have hns49_0 := zM.out
        have hns49_1 := zN.out
        have hns49_3 := za.out
        have hms49_0 := zW.out
        have hms49_1 := zX.out
        have hms49_3 := zb.out
        have hs50 : xI.cell? ⟨zE, 1, none⟩ = some (.int .i64 0) := (aq7 zG.out 1).trans rfl
        have hfs50 := blk_frozen zG.out 1
        have hns50_0 := zM.out
        have hns50_1 := zN.out
        have hns50_3 := za.out
        have hms50_0 := zW.out
        have hms50_1 := zX.out
        have hms50_3 := zb.out
        have hs52 : xI.cell? ⟨zE, 2, none⟩ = some (.slice none 0 0) := (aq7 zG.out 2).trans rfl
        have hfs52 := blk_frozen zG.out 2
        have hns52_0 := zM.out
        have hns52_1 := zN.out
        have hns52_3 := za.out
        have hms52_0 := zW.out
        have hms52_1 := zX.out
        have hms52_3 := zb.out
        refine skip_ (w1 := ?_) (by rfl) rfl ?_ ?_
        rotate_left
        ·go_simp
         rfl
        refine hK.out _ _ ⟨((cell_far (p := ⟨zE, _, none⟩) zM.out _).trans (((cell_far (p := ⟨zE, _, none⟩) zM.out _).trans (((cell_far (p := ⟨zE, _, none⟩) zM.out _).trans (hHeld.1)))))), ((cell_far (p := ⟨zE, _, none⟩) zM.out _).trans (((cell_far (p := ⟨zE, _, none⟩) zM.out _).trans (((cell_far (p := ⟨zE, _, none⟩) zM.out _).trans (hHeld.2.1)))))), ((cell_far (p := ⟨zE, _, none⟩) zM.out _).trans (((cell_far (p := ⟨zE, _, none⟩) zM.out _).trans (((cell_far (p := ⟨zE, _, none⟩) zM.out _).trans (hHeld.2.2.1)))))), ((cell_far (p := ⟨zE, _, none⟩) zN.out _).trans (((cell_far (p := ⟨zE, _, none⟩) zN.out _).trans (((cell_far (p := ⟨zE, _, none⟩) zN.out _).trans (hHeld.2.2.2.1)))))), ((cell_far (p := ⟨zE, _, none⟩) zN.out _).trans (((cell_far (p := ⟨zE, _, none⟩) zN.out _).trans (((cell_far (p := ⟨zE, _, none⟩) zN.out _).trans (hHeld.2.2.2.2.1)))))), ((cell_far (p := ⟨zE, _, none⟩) zN.out _).trans (((cell_far (p := ⟨zE, _, none⟩) zN.out _).trans (((cell_far (p := ⟨zE, _, none⟩) zN.out _).trans (hHeld.2.2.2.2.2))))))⟩ (fun hHeld => ?_)
        clear hK K
        refine one_ (i := 7) (N := none) #[true, true, true, true, true, true, true, true] rfl rfl (one_of HT_.out (by kernel_rfl)) (by decide) (fun K hK => ?_)
        have hs53 : xI.cell? ⟨zF, 0, none⟩ = some (.int .i64 0) := (aq7 zH.out 0).trans rfl
        have hfs53 := blk_frozen zH.out 0
        have hns53_0 := zO.out
        have hns53_1 := zP.out
        have hns53_2 := zb.out
        have hms53_0 := zY.out
        have hms53_1 := zZ.out
        have hms53_2 := za.out
        have hs54 : xI.cell? ⟨zF, 1, none⟩ = some (.int .i64 0) := (aq7 zH.out 1).trans rfl
        have hfs54 := blk_frozen zH.out 1
        have hns54_0 := zO.out
        have hns54_1 := zP.out
        have hns54_2 := zb.out
        have hms54_0 := zY.out
        have hms54_1 := zZ.out
        have hms54_2 := za.out
        have hs56 : xI.cell? ⟨zF, 2, none⟩ = some (.slice none 0 0) := (aq7 zH.out 2).trans rfl
        have hfs56 := blk_frozen zH.out 2
        have hns56_0 := zO.out
        have hns56_1 := zP.out
        have hns56_2 := zb.out
        have hms56_0 := zY.out
        have hms56_1 := zZ.out
        have hms56_2 := za.out
        refine skip_ (w1 := ?_) (by rfl) rfl ?_ ?_
        rotate_left
        ·go_simp
         rfl
        refine hK.out _ _ ⟨((cell_far (p := ⟨zF, _, none⟩) zO.out _).trans (((cell_far (p := ⟨zF, _, none⟩) zO.out _).trans (((cell_far (p := ⟨zF, _, none⟩) zO.out _).trans (hHeld.1)))))), ((cell_far (p := ⟨zF, _, none⟩) zO.out _).trans (((cell_far (p := ⟨zF, _, none⟩) zO.out _).trans (((cell_far (p := ⟨zF, _, none⟩) zO.out _).trans (hHeld.2.1)))))), ((cell_far (p := ⟨zF, _, none⟩) zO.out _).trans (((cell_far (p := ⟨zF, _, none⟩) zO.out _).trans (((cell_far (p := ⟨zF, _, none⟩) zO.out _).trans (hHeld.2.2.1)))))), ((cell_far (p := ⟨zF, _, none⟩) zP.out _).trans (((cell_far (p := ⟨zF, _, none⟩) zP.out _).trans (((cell_far (p := ⟨zF, _, none⟩) zP.out _).trans (hHeld.2.2.2.1)))))), ((cell_far (p := ⟨zF, _, none⟩) zP.out _).trans (((cell_far (p := ⟨zF, _, none⟩) zP.out _).trans (((cell_far (p := ⟨zF, _, none⟩) zP.out _).trans (hHeld.2.2.2.2.1)))))), ((cell_far (p := ⟨zF, _, none⟩) zP.out _).trans (((cell_far (p := ⟨zF, _, none⟩) zP.out _).trans (((cell_far (p := ⟨zF, _, none⟩) zP.out _).trans (hHeld.2.2.2.2.2))))))⟩ (fun hHeld => ?_)
        clear hK K
        refine done_ (done_of HT_.out (by kernel_rfl)) ?_
        try go_wp2_with (first | ((with_reducible refine gate_callee (f := 20) rfl ?_); refine goesL_ (some 28) rfl rfl Tryd.func20 (by kernel_rfl) rfl #[.int .i64 a2, .int .i64 5] rfl (by (try simp only [List.map_toArray, List.map_cons, List.map_nil]); first | done | rfl | (simp only [List.length_drop, List.length_take]; rfl)) ?_; (with_reducible refine (thyrsuslaw4_within.calls a2 5 z7 _ A26.out).mono ?_); rintro e w' ⟨rfl, ⟨nd, rfl⟩⟩; refine ⟨_, rfl, ?_⟩) | ((with_reducible refine gate_callee (f := 20) rfl ?_); refine goesL_ (some 30) rfl rfl Tryd.func20 (by kernel_rfl) rfl #[.int .i64 a3, .int .i64 5] rfl (by (try simp only [List.map_toArray, List.map_cons, List.map_nil]); first | done | rfl | (simp only [List.length_drop, List.length_take]; rfl)) ?_; (with_reducible refine (thyrsuslaw4_within.calls a3 5 z6 _ A27.out).mono ?_); rintro e w' ⟨rfl, ⟨nd, rfl⟩⟩; refine ⟨_, rfl, ?_⟩) | ((with_reducible refine gate_callee (f := 20) rfl ?_); refine goesL_ (some 32) rfl rfl Tryd.func20 (by kernel_rfl) rfl #[.int .i64 a4, .int .i64 6] rfl (by (try simp only [List.map_toArray, List.map_cons, List.map_nil]); first | done | rfl | (simp only [List.length_drop, List.length_take]; rfl)) ?_; (with_reducible refine (thyrsuslaw4_within.calls a4 6 zS _ A28.out).mono ?_); rintro e w' ⟨rfl, ⟨nd, rfl⟩⟩; refine ⟨_, rfl, ?_⟩))
        have zd : Aside0 (Kd.N k29 29 ((((((xI.setCell ⟨zE, 0, none⟩ (.int .i64 zQ)).setCell ⟨zE, 1, none⟩ (.int .i64 zR)).setCell ⟨zE, 2, none⟩ (.slice zw zL.length zx)).setCell ⟨zF, 0, none⟩ (.int .i64 zm)).setCell ⟨zF, 1, none⟩ (.int .i64 zo)).setCell ⟨zF, 2, none⟩ (.slice zq zg.length zr)) w.heap.size (fun k_ => some k_ ≠ (.slice zq zg.length zr : Value).ownBlock ∧ k_ ≠ zA ∧ k_ ≠ zB ∧ k_ ≠ zE ∧ k_ ≠ zF) (.slice zw zL.length zx) zL) := ⟨by (with_reducible repeat (first | apply an1 | apply an2 | apply an3)); exact an5 (Kd.N_far (p := ⟨zF, 2, none⟩) (Kd.N_far (p := ⟨zF, 1, none⟩) (Kd.N_far (p := ⟨zF, 0, none⟩) (Kd.N_far (p := ⟨zE, 2, none⟩) (Kd.N_far (p := ⟨zE, 1, none⟩) (Kd.N_far (p := ⟨zE, 0, none⟩) (an5 (an5 zI.out (fun k_ hk => (⟨hk, hk.2.2.2.1⟩ : _ ∧ k_ ≠ zE))) (fun k_ hk => (⟨hk, hk.1.2.2.2.2⟩ : _ ∧ k_ ≠ zF))) (fun _ hk => hk.1.2) (.int .i64 zQ)) (fun _ hk => hk.1.2) (.int .i64 zR)) (fun _ hk => hk.1.2) (.slice zw zL.length zx)) (fun _ hk => hk.2) (.int .i64 zm)) (fun _ hk => hk.2) (.int .i64 zo)) (fun _ hk => hk.2) (.slice zq zg.length zr)) (fun _ hk => ⟨hk.1.1.1, ⟨hk.1.1.2.1, ⟨hk.1.1.2.2.1, ⟨hk.1.1.2.2.2.1, hk.1.1.2.2.2.2⟩⟩⟩⟩)⟩
        have ze : Aside0 (Kd.N k29 29 ((((((xI.setCell ⟨zE, 0, none⟩ (.int .i64 zQ)).setCell ⟨zE, 1, none⟩ (.int .i64 zR)).setCell ⟨zE, 2, none⟩ (.slice zw zL.length zx)).setCell ⟨zF, 0, none⟩ (.int .i64 zm)).setCell ⟨zF, 1, none⟩ (.int .i64 zo)).setCell ⟨zF, 2, none⟩ (.slice zq zg.length zr)) w.heap.size (fun k_ => some k_ ≠ (.slice zw zL.length zx : Value).ownBlock ∧ k_ ≠ zA ∧ k_ ≠ zB ∧ k_ ≠ zE ∧ k_ ≠ zF) (.slice zq zg.length zr) zg) := ⟨by (with_reducible repeat (first | apply an1 | apply an2 | apply an3)); exact an5 (Kd.N_far (p := ⟨zF, 2, none⟩) (Kd.N_far (p := ⟨zF, 1, none⟩) (Kd.N_far (p := ⟨zF, 0, none⟩) (Kd.N_far (p := ⟨zE, 2, none⟩) (Kd.N_far (p := ⟨zE, 1, none⟩) (Kd.N_far (p := ⟨zE, 0, none⟩) (an5 (an5 zT.out (fun k_ hk => (⟨hk, hk.2.2.2.1⟩ : _ ∧ k_ ≠ zE))) (fun k_ hk => (⟨hk, hk.1.2.2.2.2⟩ : _ ∧ k_ ≠ zF))) (fun _ hk => hk.1.2) (.int .i64 zQ)) (fun _ hk => hk.1.2) (.int .i64 zR)) (fun _ hk => hk.1.2) (.slice zw zL.length zx)) (fun _ hk => hk.2) (.int .i64 zm)) (fun _ hk => hk.2) (.int .i64 zo)) (fun _ hk => hk.2) (.slice zq zg.length zr)) (fun _ hk => ⟨hk.1.1.1, ⟨hk.1.1.2.1, ⟨hk.1.1.2.2.1, ⟨hk.1.1.2.2.2.1, hk.1.1.2.2.2.2⟩⟩⟩⟩)⟩
        have zf : Aside0 (((((((xI.setCell ⟨zE, 0, none⟩ (.int .i64 zQ)).setCell ⟨zE, 1, none⟩ (.int .i64 zR)).setCell ⟨zE, 2, none⟩ (.slice zw zL.length zx)).setCell ⟨zF, 0, none⟩ (.int .i64 zm)).setCell ⟨zF, 1, none⟩ (.int .i64 zo)).setCell ⟨zF, 2, none⟩ (.slice zq zg.length zr)).heap[zA]? = some (.cells #[.int .i64 a0_0, .int .i64 a0_1, .slice A0_2 l0_2.length c0_2] 24 (0, 0))) := ⟨by (with_reducible repeat (first | apply aq1 | apply aq2 | apply aq3)); refine blk_far ?_ zO.out _; (with_reducible repeat (first | apply aq1 | apply aq2 | apply aq3)); refine blk_far ?_ zO.out _; (with_reducible repeat (first | apply aq1 | apply aq2 | apply aq3)); refine blk_far ?_ zO.out _; (with_reducible repeat (first | apply aq1 | apply aq2 | apply aq3)); refine blk_far ?_ zM.out _; (with_reducible repeat (first | apply aq1 | apply aq2 | apply aq3)); refine blk_far ?_ zM.out _; (with_reducible repeat (first | apply aq1 | apply aq2 | apply aq3)); refine blk_far ?_ zM.out _; (with_reducible repeat (first | apply aq1 | apply aq2 | apply aq3)); exact zC.out⟩
        have zi : Aside0 (((((((xI.setCell ⟨zE, 0, none⟩ (.int .i64 zQ)).setCell ⟨zE, 1, none⟩ (.int .i64 zR)).setCell ⟨zE, 2, none⟩ (.slice zw zL.length zx)).setCell ⟨zF, 0, none⟩ (.int .i64 zm)).setCell ⟨zF, 1, none⟩ (.int .i64 zo)).setCell ⟨zF, 2, none⟩ (.slice zq zg.length zr)).heap[zB]? = some (.cells #[.int .i64 a1_0, .int .i64 a1_1, .slice A1_2 l1_2.length c1_2] 24 (0, 0))) := ⟨by (with_reducible repeat (first | apply aq1 | apply aq2 | apply aq3)); refine blk_far ?_ zP.out _; (with_reducible repeat (first | apply aq1 | apply aq2 | apply aq3)); refine blk_far ?_ zP.out _; (with_reducible repeat (first | apply aq1 | apply aq2 | apply aq3)); refine blk_far ?_ zP.out _; (with_reducible repeat (first | apply aq1 | apply aq2 | apply aq3)); refine blk_far ?_ zN.out _; (with_reducible repeat (first | apply aq1 | apply aq2 | apply aq3)); refine blk_far ?_ zN.out _; (with_reducible repeat (first | apply aq1 | apply aq2 | apply aq3)); refine blk_far ?_ zN.out _; (with_reducible repeat (first | apply aq1 | apply aq2 | apply aq3)); exact zD.out⟩
        have zj : Aside0 (((((((xI.setCell ⟨zE, 0, none⟩ (.int .i64 zQ)).setCell ⟨zE, 1, none⟩ (.int .i64 zR)).setCell ⟨zE, 2, none⟩ (.slice zw zL.length zx)).setCell ⟨zF, 0, none⟩ (.int .i64 zm)).setCell ⟨zF, 1, none⟩ (.int .i64 zo)).setCell ⟨zF, 2, none⟩ (.slice zq zg.length zr)).heap[zE]? = some (.cells #[.int .i64 zQ, .int .i64 zR, .slice zw zL.length zx] 29 (0, 0))) := ⟨by (with_reducible repeat (first | apply aq1 | apply aq2 | apply aq3)); refine blk_far ?_ zb.out _; (with_reducible repeat (first | apply aq1 | apply aq2 | apply aq3)); refine blk_far ?_ zb.out _; (with_reducible repeat (first | apply aq1 | apply aq2 | apply aq3)); refine blk_far ?_ zb.out _; (with_reducible repeat (first | apply aq1 | apply aq2 | apply aq3)); refine blk_put (cs := #[.int .i64 zQ, .int .i64 zR, .slice none 0 0]) ?_ 2 _ rfl; (with_reducible repeat (first | apply aq1 | apply aq2 | apply aq3)); refine blk_put (cs := #[.int .i64 zQ, .int .i64 0, .slice none 0 0]) ?_ 1 _ rfl; (with_reducible repeat (first | apply aq1 | apply aq2 | apply aq3)); refine blk_put (cs := #[.int .i64 0, .int .i64 0, .slice none 0 0]) ?_ 0 _ rfl; (with_reducible repeat (first | apply aq1 | apply aq2 | apply aq3)); exact zG.out⟩
        have zk : Aside0 (((((((xI.setCell ⟨zE, 0, none⟩ (.int .i64 zQ)).setCell ⟨zE, 1, none⟩ (.int .i64 zR)).setCell ⟨zE, 2, none⟩ (.slice zw zL.length zx)).setCell ⟨zF, 0, none⟩ (.int .i64 zm)).setCell ⟨zF, 1, none⟩ (.int .i64 zo)).setCell ⟨zF, 2, none⟩ (.slice zq zg.length zr)).heap[zF]? = some (.cells #[.int .i64 zm, .int .i64 zo, .slice zq zg.length zr] 29 (0, 0))) := ⟨by (with_reducible repeat (first | apply aq1 | apply aq2 | apply aq3)); refine blk_put (cs := #[.int .i64 zm, .int .i64 zo, .slice none 0 0]) ?_ 2 _ rfl; (with_reducible repeat (first | apply aq1 | apply aq2 | apply aq3)); refine blk_put (cs := #[.int .i64 zm, .int .i64 0, .slice none 0 0]) ?_ 1 _ rfl; (with_reducible repeat (first | apply aq1 | apply aq2 | apply aq3)); refine blk_put (cs := #[.int .i64 0, .int .i64 0, .slice none 0 0]) ?_ 0 _ rfl; (with_reducible repeat (first | apply aq1 | apply aq2 | apply aq3)); refine blk_far ?_ za.out _; (with_reducible repeat (first | apply aq1 | apply aq2 | apply aq3)); refine blk_far ?_ za.out _; (with_reducible repeat (first | apply aq1 | apply aq2 | apply aq3)); refine blk_far ?_ za.out _; (with_reducible repeat (first | apply aq1 | apply aq2 | apply aq3)); exact zH.out⟩
        have zn : Aside0 (Below w.heap.size w ((((((xI.setCell ⟨zE, 0, none⟩ (.int .i64 zQ)).setCell ⟨zE, 1, none⟩ (.int .i64 zR)).setCell ⟨zE, 2, none⟩ (.slice zw zL.length zx)).setCell ⟨zF, 0, none⟩ (.int .i64 zm)).setCell ⟨zF, 1, none⟩ (.int .i64 zo)).setCell ⟨zF, 2, none⟩ (.slice zq zg.length zr))) := ⟨by repeat (first | (with_reducible first | exact HB.out | apply ab1 | apply ab2 | apply ab3 | refine ab4 ?_ zJ.out | refine ab4 ?_ zK.out | refine ab4 ?_ zU.out | refine ab4 ?_ zV.out) | exact HB.out)⟩
        (try clear zI)
        (try clear zT)
        (try clear zC)
        (try clear zD)
        (try clear zG)
        (try clear zH)
        (try clear HB)
        generalize ((((((xI.setCell ⟨zE, 0, none⟩ (.int .i64 zQ)).setCell ⟨zE, 1, none⟩ (.int .i64 zR)).setCell ⟨zE, 2, none⟩ (.slice zw zL.length zx)).setCell ⟨zF, 0, none⟩ (.int .i64 zm)).setCell ⟨zF, 1, none⟩ (.int .i64 zo)).setCell ⟨zF, 2, none⟩ (.slice zq zg.length zr)) = xo at zd ze zf zi zj zk zn ⊢
        have zI := zd
        have zT := ze
        have zC := zf
        have zD := zi
        have zG := zj
        have zH := zk
        have HB := zn
        clear zd ze zf zi zj zk zn
        (try (rw [drewN_self xo]; generalize hq_ : World.drewN xo _ = xo; have zd : Aside0 (Kd.N k29 29 xo w.heap.size (fun k_ => some k_ ≠ (.slice zq zg.length zr : Value).ownBlock ∧ k_ ≠ zA ∧ k_ ≠ zB ∧ k_ ≠ zE ∧ k_ ≠ zF) (.slice zw zL.length zx) zL) := ⟨by rw [← hq_]; exact (by (with_reducible repeat (first | apply an1 | apply an2 | apply an3)); exact zI.out)⟩; have ze : Aside0 (Kd.N k29 29 xo w.heap.size (fun k_ => some k_ ≠ (.slice zw zL.length zx : Value).ownBlock ∧ k_ ≠ zA ∧ k_ ≠ zB ∧ k_ ≠ zE ∧ k_ ≠ zF) (.slice zq zg.length zr) zg) := ⟨by rw [← hq_]; exact (by (with_reducible repeat (first | apply an1 | apply an2 | apply an3)); exact zT.out)⟩; have zf : Aside0 (xo.heap[zA]? = some (.cells #[.int .i64 a0_0, .int .i64 a0_1, .slice A0_2 l0_2.length c0_2] 24 (0, 0))) := ⟨by rw [← hq_]; exact (by (with_reducible repeat (first | apply aq1 | apply aq2 | apply aq3)); exact zC.out)⟩; have zi : Aside0 (xo.heap[zB]? = some (.cells #[.int .i64 a1_0, .int .i64 a1_1, .slice A1_2 l1_2.length c1_2] 24 (0, 0))) := ⟨by rw [← hq_]; exact (by (with_reducible repeat (first | apply aq1 | apply aq2 | apply aq3)); exact zD.out)⟩; have zj : Aside0 (xo.heap[zE]? = some (.cells #[.int .i64 zQ, .int .i64 zR, .slice zw zL.length zx] 29 (0, 0))) := ⟨by rw [← hq_]; exact (by (with_reducible repeat (first | apply aq1 | apply aq2 | apply aq3)); exact zG.out)⟩; have zk : Aside0 (xo.heap[zF]? = some (.cells #[.int .i64 zm, .int .i64 zo, .slice zq zg.length zr] 29 (0, 0))) := ⟨by rw [← hq_]; exact (by (with_reducible repeat (first | apply aq1 | apply aq2 | apply aq3)); exact zH.out)⟩; have zn : Aside0 (Below w.heap.size w xo) := ⟨by rw [← hq_]; exact (by repeat (first | (with_reducible first | exact HB.out | apply ab1 | apply ab2 | apply ab3 | refine ab4 ?_ zJ.out | refine ab4 ?_ zK.out | refine ab4 ?_ zU.out | refine ab4 ?_ zV.out) | exact HB.out))⟩; clear zI zT zC zD zG zH HB hq_; have zI := zd; have zT := ze; have zC := zf; have zD := zi; have zG := zj; have zH := zk; have HB := zn; clear zd ze zf zi zj zk zn))
        have zd := am_ (an3 zI.out)
        have ze := am_ (an3 zT.out)
        have zf := am_ (aq2 zC.out)
        have zi := am_ (aq2 zD.out)
        have zj := am_ (aq2 zG.out)
        have zk := am_ (aq2 zH.out)
        have zn := am_ (ab3 HB.out)
        clear zI
        clear zT
        clear zC
        clear zD
        clear zG
        clear zH
        clear HB
        have zI := zd
        have zT := ze
        have zC := zf
        have zD := zi
        have zG := zj
        have zH := zk
        have HB := zn
        clear zd ze zf zi zj zk zn
        refine start_ (n := 40) (S := fun w' => w'.cell? ⟨zE, 0, none⟩ = some (.int .i64 zQ) ∧ w'.cell? ⟨zE, 1, none⟩ = some (.int .i64 zR) ∧ w'.cell? ⟨zE, 2, none⟩ = some (.slice zw zL.length zx) ∧ w'.cell? ⟨zF, 0, none⟩ = some (.int .i64 zm) ∧ w'.cell? ⟨zF, 1, none⟩ = some (.int .i64 zo) ∧ w'.cell? ⟨zF, 2, none⟩ = some (.slice zq zg.length zr)) (ds := []) #[false, false, false, false, false, false, false, false, false, false, false, false, false, false, false, false, false, false, false, false, false, false, false, false, false, false, false, false, false, false, false, false, false, false, false, false, false, false, false, false] (by kernel_rfl) rfl rfl ⟨(aq7 zG.out 0).trans rfl, (aq7 zG.out 1).trans rfl, (aq7 zG.out 2).trans rfl, (aq7 zH.out 0).trans rfl, (aq7 zH.out 1).trans rfl, (aq7 zH.out 2).trans rfl⟩ (fun hHeld => ?_); refine with_tabW thyrsuslaw4_TermShifts.tab7 thyrsuslaw4_TermShifts.bits7 (fun HT_ HW_ => ?_)
        generalize xo.drew = w58 at zI zT zC zD zG zH HB hHeld ⊢
        refine pure_ (i := 1) (N := some 34) (v := ?_) (a' := ?_) #[false, true, false, false, false, false, false, false, false, false, false, false, false, false, false, false, false, false, false, false, false, false, false, false, false, false, false, false, false, false, false, false, false, false, false, false, false, false, false, false] rfl rfl (any_of HT_.out (by kernel_rfl)) (fun _ _ _ h => h) (Or.inl ⟨by rfl, ?_⟩) ?_ ?_
        rotate_left
        ·intro w'
         go_simp
         with_reducible rfl
        rotate_left
        ·simp only [Act.put, List.setIfInBounds_toArray, List.set_cons_zero, List.set_cons_succ, i64_w, i32_w, u8_w, u32_w]
         rfl
        refine take_ (i := 0) (N := some 33) (v := ?_) (a' := ?_) #[true, true, false, false, false, false, false, false, false, false, false, false, false, false, false, false, false, false, false, false, false, false, false, false, false, false, false, false, false, false, false, false, false, false, false, false, false, false, false, false] rfl rfl (take_ofW HT_.out HW_.out (by kernel_rfl)) (fun _ _ _ h => h) (Or.inl ⟨by rfl, ?_⟩) hHeld ?_ ?_
        rotate_left
        ·rintro w' ⟨s0, s1, s2, s3, s4, s5⟩
         go_simp
         with_reducible rfl
        rotate_left
        ·simp only [Act.put, List.setIfInBounds_toArray, List.set_cons_zero, List.set_cons_succ, i64_w, i32_w, u8_w, u32_w]
         rfl
        refine take_ (i := 3) (N := some 36) (v := ?_) (a' := ?_) #[true, true, false, true, false, false, false, false, false, false, false, false, false, false, false, false, false, false, false, false, false, false, false, false, false, false, false, false, false, false, false, false, false, false, false, false, false, false, false, false] rfl rfl (take_ofW HT_.out HW_.out (by kernel_rfl)) (fun _ _ _ h => h) (Or.inl ⟨by rfl, ?_⟩) hHeld ?_ ?_
        rotate_left
        ·rintro w' ⟨s0, s1, s2, s3, s4, s5⟩
         go_simp
         with_reducible rfl
        rotate_left
        ·simp only [Act.put, List.setIfInBounds_toArray, List.set_cons_zero, List.set_cons_succ, i64_w, i32_w, u8_w, u32_w]
         rfl
        refine one_ (i := 2) (N := some 35) #[true, true, true, true, false, false, false, false, false, false, false, false, false, false, false, false, false, false, false, false, false, false, false, false, false, false, false, false, false, false, false, false, false, false, false, false, false, false, false, false] rfl rfl (one_of HT_.out (by kernel_rfl)) (by decide) (fun K hK => ?_)
        refine goes_ Tryd.func23 (by kernel_rfl) rfl #[.agg #[.int .i64 zQ, .int .i64 zR, .slice zw zL.length zx], .int .i64 0, .int .i64 zS] (by rfl) rfl rfl (by (try simp only [List.map_toArray, List.map_cons, List.map_nil]); first | done | rfl | (simp only [List.length_drop, List.length_take]; rfl)) ?_
        with_reducible refine (term_Shift.calls zc zQ zR (fun k_ => (some k_ ≠ (.slice zq zg.length zr : Value).ownBlock ∧ (k_ ≠ zA ∧ (k_ ≠ zB ∧ (k_ ≠ zE ∧ k_ ≠ zF))))) _ _ zL 0 zS t225 t226 xF _ ?side1 A29.out).mono ?_
        (case side1 => exact Kd.N_V (zI.out))
        rintro e w59 ⟨v228, rfl, ho0, hb⟩
        refine ⟨_, rfl, ?_⟩
        have zd := am_ (an4 (by (with_reducible repeat (first | apply an1 | apply an2 | apply an3)); exact zI.out) (by first | exact Kd.N_base ho0 | exact Kd.R_base ho0) hb)
        have ze := am_ (an4 (by (with_reducible repeat (first | apply an1 | apply an2 | apply an3)); exact zT.out) (by first | exact Kd.N_base ho0 | exact Kd.R_base ho0) hb)
        have zf := am_ (Kd.N_lower (an5 (ok' := fun k_ => some k_ ≠ (.slice zq zg.length zr : Value).ownBlock ∧ k_ ≠ zA ∧ k_ ≠ zB ∧ k_ ≠ zE ∧ k_ ≠ zF) ho0 (fun k_ hk_ => ⟨Or.elim hk_ (fun hs_ => hs_.1) (fun hn_ => (af2 (Kd.N_lt (by (with_reducible repeat (first | apply an1 | apply an2 | apply an3)); exact zT.out)) k_ hn_)), Or.elim hk_ (fun hs_ => hs_.2.1) (fun hn_ => (af1 (g := zA) (o := .cells #[.int .i64 a0_0, .int .i64 a0_1, .slice A0_2 l0_2.length c0_2] 24 (0, 0)) (by (with_reducible repeat (first | apply aq1 | apply aq2 | apply aq3)); exact zC.out) k_ hn_)), Or.elim hk_ (fun hs_ => hs_.2.2.1) (fun hn_ => (af1 (g := zB) (o := .cells #[.int .i64 a1_0, .int .i64 a1_1, .slice A1_2 l1_2.length c1_2] 24 (0, 0)) (by (with_reducible repeat (first | apply aq1 | apply aq2 | apply aq3)); exact zD.out) k_ hn_)), Or.elim hk_ (fun hs_ => hs_.2.2.2.1) (fun hn_ => (af1 (g := zE) (o := .cells #[.int .i64 zQ, .int .i64 zR, .slice zw zL.length zx] 29 (0, 0)) (by (with_reducible repeat (first | apply aq1 | apply aq2 | apply aq3)); exact zG.out) k_ hn_)), Or.elim hk_ (fun hs_ => hs_.2.2.2.2) (fun hn_ => (af1 (g := zF) (o := .cells #[.int .i64 zm, .int .i64 zo, .slice zq zg.length zr] 29 (0, 0)) (by (with_reducible repeat (first | apply aq1 | apply aq2 | apply aq3)); exact zH.out) k_ hn_))⟩)) (below_size (by repeat (first | (with_reducible first | exact HB.out | apply ab1 | apply ab2 | apply ab3 | refine ab4 ?_ zJ.out | refine ab4 ?_ zK.out | refine ab4 ?_ zU.out | refine ab4 ?_ zV.out) | exact HB.out))))
        have zi := am_ (aq4 (g := zA) (o := .cells #[.int .i64 a0_0, .int .i64 a0_1, .slice A0_2 l0_2.length c0_2] 24 (0, 0)) (by (with_reducible repeat (first | apply aq1 | apply aq2 | apply aq3)); exact zC.out) hb)
        have zj := am_ (aq4 (g := zB) (o := .cells #[.int .i64 a1_0, .int .i64 a1_1, .slice A1_2 l1_2.length c1_2] 24 (0, 0)) (by (with_reducible repeat (first | apply aq1 | apply aq2 | apply aq3)); exact zD.out) hb)
        have zk := am_ (aq4 (g := zE) (o := .cells #[.int .i64 zQ, .int .i64 zR, .slice zw zL.length zx] 29 (0, 0)) (by (with_reducible repeat (first | apply aq1 | apply aq2 | apply aq3)); exact zG.out) hb)
        have zn := am_ (aq4 (g := zF) (o := .cells #[.int .i64 zm, .int .i64 zo, .slice zq zg.length zr] 29 (0, 0)) (by (with_reducible repeat (first | apply aq1 | apply aq2 | apply aq3)); exact zH.out) hb)
        have zs := am_ (ab5 (by repeat (first | (with_reducible first | exact HB.out | apply ab1 | apply ab2 | apply ab3 | refine ab4 ?_ zJ.out | refine ab4 ?_ zK.out | refine ab4 ?_ zU.out | refine ab4 ?_ zV.out) | exact HB.out)) hb)
        clear zI
        clear zT
        clear zC
        clear zD
        clear zG
        clear zH
        clear HB
        have zI := zd
        have zT := ze
        have zl := zf
        have zC := zi
        have zD := zj
        have zG := zk
        have zH := zn
        have HB := zs
        clear zd ze zf zi zj zk zn zs
        (try clear hb)
        (try clear hb2)
        (try clear hk)
        (try clear hi)
        (try clear ho0)
        obtain ⟨xK, xL, eo60⟩ := Kd.N_slice zl.out
        (first | subst eo60 | (injection eo60 with f1_ f2_ f3_; have f4_ := f1_.symm; have f5_ := f3_.symm; clear f1_ f2_ f3_; subst f4_; subst f5_))
        refine hK.out _ _ ⟨(aq7 zG.out 0).trans rfl, (aq7 zG.out 1).trans rfl, (aq7 zG.out 2).trans rfl, (aq7 zH.out 0).trans rfl, (aq7 zH.out 1).trans rfl, (aq7 zH.out 2).trans rfl⟩ (fun hHeld => ?_)
        clear hK K
        refine norm_ (a' := ?_) ?_ ?_
        rotate_left
        ·show Act.put _ (some 35) _ = _
         simp only [Act.put, List.setIfInBounds_toArray, List.set_cons_zero, List.set_cons_succ, i64_w, i32_w, u8_w, u32_w]
         rfl
        refine one_ (i := 4) (N := some 37) #[true, true, true, true, true, false, false, false, false, false, false, false, false, false, false, false, false, false, false, false, false, false, false, false, false, false, false, false, false, false, false, false, false, false, false, false, false, false, false, false] rfl rfl (one_of HT_.out (by kernel_rfl)) (by decide) (fun K hK => ?_)
        refine goes_ Tryd.func18 (by kernel_rfl) rfl #[.agg #[.int .i64 t225, .int .i64 t226, .slice xK xF.length xL], .agg #[.int .i64 zQ, .int .i64 zR, .slice zw zL.length zx]] (by rfl) rfl rfl (by (try simp only [List.map_toArray, List.map_cons, List.map_nil]); first | done | rfl | (simp only [List.length_drop, List.length_take]; rfl)) ?_
        with_reducible refine (thyrsusref4_Same.calls zc t225 t226 _ _ xF zQ zR _ _ zL true _ ?side1 ?side2 ?side3 ?side4 A30.out).mono ?_
        (case side1 => repeat (first | exact (Kd.N_reads' zl.out).2.2 | (with_reducible refine ac2 ?_ _) | (with_reducible refine ac3 ?_ _) | (with_reducible refine Kd.C_drew ?_)))
        (case side2 => exact (Kd.N_reads' zl.out).2.1)
        (case side3 => repeat (first | exact (Kd.N_reads' zI.out).2.2 | (with_reducible refine ac2 ?_ _) | (with_reducible refine ac3 ?_ _) | (with_reducible refine Kd.C_drew ?_)))
        (case side4 => exact (Kd.N_reads' zI.out).2.1)
        rintro e w61 ⟨rfl, hb⟩
        refine ⟨_, rfl, ?_⟩
        have zd := am_ (Kd.N_below (by (with_reducible repeat (first | apply an1 | apply an2 | apply an3)); exact zI.out) hb)
        have ze := am_ (Kd.N_below (by (with_reducible repeat (first | apply an1 | apply an2 | apply an3)); exact zT.out) hb)
        have zf := am_ (Kd.N_below (by (with_reducible repeat (first | apply an1 | apply an2 | apply an3)); exact zl.out) hb)
        have zi := am_ (aq4 (g := zA) (o := .cells #[.int .i64 a0_0, .int .i64 a0_1, .slice A0_2 l0_2.length c0_2] 24 (0, 0)) (by (with_reducible repeat (first | apply aq1 | apply aq2 | apply aq3)); exact zC.out) hb)
        have zj := am_ (aq4 (g := zB) (o := .cells #[.int .i64 a1_0, .int .i64 a1_1, .slice A1_2 l1_2.length c1_2] 24 (0, 0)) (by (with_reducible repeat (first | apply aq1 | apply aq2 | apply aq3)); exact zD.out) hb)
        have zk := am_ (aq4 (g := zE) (o := .cells #[.int .i64 zQ, .int .i64 zR, .slice zw zL.length zx] 29 (0, 0)) (by (with_reducible repeat (first | apply aq1 | apply aq2 | apply aq3)); exact zG.out) hb)
        have zn := am_ (aq4 (g := zF) (o := .cells #[.int .i64 zm, .int .i64 zo, .slice zq zg.length zr] 29 (0, 0)) (by (with_reducible repeat (first | apply aq1 | apply aq2 | apply aq3)); exact zH.out) hb)
        have zs := am_ (ab5 (by repeat (first | (with_reducible first | exact HB.out | apply ab1 | apply ab2 | apply ab3 | refine ab4 ?_ zJ.out | refine ab4 ?_ zK.out | refine ab4 ?_ zU.out | refine ab4 ?_ zV.out) | exact HB.out)) hb)
        clear zI
        clear zT
        clear zl
        clear zC
        clear zD
        clear zG
        clear zH
        clear HB
        have zI := zd
        have zT := ze
        have zl := zf
        have zC := zi
        have zD := zj
        have zG := zk
        have zH := zn
        have HB := zs
        clear zd ze zf zi zj zk zn zs
        (try clear hb)
        (try clear hb2)
        (try clear hk)
        (try clear hi)
        refine hK.out _ _ ⟨(aq7 zG.out 0).trans rfl, (aq7 zG.out 1).trans rfl, (aq7 zG.out 2).trans rfl, (aq7 zH.out 0).trans rfl, (aq7 zH.out 1).trans rfl, (aq7 zH.out 2).trans rfl⟩ (fun hHeld => ?_)
        clear hK K
        refine norm_ (a' := ?_) ?_ ?_
        rotate_left
        ·show Act.put _ (some 37) _ = _
         simp only [Act.put, List.setIfInBounds_toArray, List.set_cons_zero, List.set_cons_succ, i64_w, i32_w, u8_w, u32_w]
         rfl
        refine pure_ (i := 5) (N := some 38) (v := ?_) (a' := ?_) #[true, true, true, true, true, true, false, false, false, false, false, false, false, false, false, false, false, false, false, false, false, false, false, false, false, false, false, false, false, false, false, false, false, false, false, false, false, false, false, false] rfl rfl (any_of HT_.out (by kernel_rfl)) (fun _ _ _ h => h) (Or.inl ⟨by rfl, ?_⟩) ?_ ?_
        rotate_left
        ·intro w'
         go_simp
         with_reducible rfl
        rotate_left
        ·simp only [Act.put, List.setIfInBounds_toArray, List.set_cons_zero, List.set_cons_succ, i64_w, i32_w, u8_w, u32_w]
         rfl
        refine pure_ (i := 7) (N := some 40) (v := ?_) (a' := ?_) #[true, true, true, true, true, true, false, true, false, false, false, false, false, false, false, false, false, false, false, false, false, false, false, false, false, false, false, false, false, false, false, false, false, false, false, false, false, false, false, false] rfl rfl (any_of HT_.out (by kernel_rfl)) (fun _ _ _ h => h) (Or.inl ⟨by rfl, ?_⟩) ?_ ?_
        rotate_left
        ·intro w'
         go_simp
         with_reducible rfl
        rotate_left
        ·simp only [Act.put, List.setIfInBounds_toArray, List.set_cons_zero, List.set_cons_succ, i64_w, i32_w, u8_w, u32_w]
         rfl
        refine pure_ (i := 8) (N := some 41) (v := ?_) (a' := ?_) #[true, true, true, true, true, true, false, true, true, false, false, false, false, false, false, false, false, false, false, false, false, false, false, false, false, false, false, false, false, false, false, false, false, false, false, false, false, false, false, false] rfl rfl (any_of HT_.out (by kernel_rfl)) (fun _ _ _ h => h) (Or.inl ⟨by rfl, ?_⟩) ?_ ?_
        rotate_left
        ·intro w'
         go_simp
         with_reducible rfl
        rotate_left
        ·simp only [Act.put, List.setIfInBounds_toArray, List.set_cons_zero, List.set_cons_succ, i64_w, i32_w, u8_w, u32_w]
         rfl
        refine pure_ (i := 10) (N := some 43) (v := ?_) (a' := ?_) #[true, true, true, true, true, true, false, true, true, false, true, false, false, false, false, false, false, false, false, false, false, false, false, false, false, false, false, false, false, false, false, false, false, false, false, false, false, false, false, false] rfl rfl (any_of HT_.out (by kernel_rfl)) (fun _ _ _ h => h) (Or.inl ⟨by rfl, ?_⟩) ?_ ?_
        rotate_left
        ·intro w'
         go_simp
         with_reducible rfl
        rotate_left
        ·simp only [Act.put, List.setIfInBounds_toArray, List.set_cons_zero, List.set_cons_succ, i64_w, i32_w, u8_w, u32_w]
         rfl
        refine pure_ (i := 11) (N := some 44) (v := ?_) (a' := ?_) #[true, true, true, true, true, true, false, true, true, false, true, true, false, false, false, false, false, false, false, false, false, false, false, false, false, false, false, false, false, false, false, false, false, false, false, false, false, false, false, false] rfl rfl (any_of HT_.out (by kernel_rfl)) (fun _ _ _ h => h) (Or.inl ⟨by rfl, ?_⟩) ?_ ?_
        rotate_left
        ·intro w'
         go_simp
         with_reducible rfl
        rotate_left
        ·simp only [Act.put, List.setIfInBounds_toArray, List.set_cons_zero, List.set_cons_succ, i64_w, i32_w, u8_w, u32_w]
         rfl
        refine pure_ (i := 14) (N := some 47) (v := ?_) (a' := ?_) #[true, true, true, true, true, true, false, true, true, false, true, true, false, false, true, false, false, false, false, false, false, false, false, false, false, false, false, false, false, false, false, false, false, false, false, false, false, false, false, false] rfl rfl (any_of HT_.out (by kernel_rfl)) (fun _ _ _ h => h) (Or.inl ⟨by rfl, ?_⟩) ?_ ?_
        rotate_left
        ·intro w'
         go_simp
         with_reducible rfl
        rotate_left
        ·simp only [Act.put, List.setIfInBounds_toArray, List.set_cons_zero, List.set_cons_succ, i64_w, i32_w, u8_w, u32_w]
         rfl
        refine pure_ (i := 15) (N := some 48) (v := ?_) (a' := ?_) #[true, true, true, true, true, true, false, true, true, false, true, true, false, false, true, true, false, false, false, false, false, false, false, false, false, false, false, false, false, false, false, false, false, false, false, false, false, false, false, false] rfl rfl (any_of HT_.out (by kernel_rfl)) (fun _ _ _ h => h) (Or.inl ⟨by rfl, ?_⟩) ?_ ?_
        rotate_left
        ·intro w'
         go_simp
         with_reducible rfl
        rotate_left
        ·simp only [Act.put, List.setIfInBounds_toArray, List.set_cons_zero, List.set_cons_succ, i64_w, i32_w, u8_w, u32_w]
         rfl
        refine pure_ (i := 16) (N := some 49) (v := ?_) (a' := ?_) #[true, true, true, true, true, true, false, true, true, false, true, true, false, false, true, true, true, false, false, false, false, false, false, false, false, false, false, false, false, false, false, false, false, false, false, false, false, false, false, false] rfl rfl (any_of HT_.out (by kernel_rfl)) (fun _ _ _ h => h) (Or.inl ⟨by rfl, ?_⟩) ?_ ?_
        rotate_left
        ·intro w'
         go_simp
         with_reducible rfl
        rotate_left
        ·simp only [Act.put, List.setIfInBounds_toArray, List.set_cons_zero, List.set_cons_succ, i64_w, i32_w, u8_w, u32_w]
         rfl
        refine pure_ (i := 17) (N := some 50) (v := ?_) (a' := ?_) #[true, true, true, true, true, true, false, true, true, false, true, true, false, false, true, true, true, true, false, false, false, false, false, false, false, false, false, false, false, false, false, false, false, false, false, false, false, false, false, false] rfl rfl (any_of HT_.out (by kernel_rfl)) (fun _ _ _ h => h) (Or.inl ⟨by rfl, ?_⟩) ?_ ?_
        rotate_left
        ·intro w'
         go_simp
         with_reducible rfl
        rotate_left
        ·simp only [Act.put, List.setIfInBounds_toArray, List.set_cons_zero, List.set_cons_succ, i64_w, i32_w, u8_w, u32_w]
         rfl
        refine take_ (i := 6) (N := some 39) (v := ?_) (a' := ?_) #[true, true, true, true, true, true, true, true, true, false, true, true, false, false, true, true, true, true, false, false, false, false, false, false, false, false, false, false, false, false, false, false, false, false, false, false, false, false, false, false] rfl rfl (take_ofW HT_.out HW_.out (by kernel_rfl)) (fun _ _ _ h => h) (Or.inl ⟨by rfl, ?_⟩) hHeld ?_ ?_
        rotate_left
        ·rintro w' ⟨s0, s1, s2, s3, s4, s5⟩
         go_simp
         with_reducible rfl
        rotate_left
        ·simp only [Act.put, List.setIfInBounds_toArray, List.set_cons_zero, List.set_cons_succ, i64_w, i32_w, u8_w, u32_w]
         rfl
        refine take_ (i := 13) (N := some 46) (v := ?_) (a' := ?_) #[true, true, true, true, true, true, true, true, true, false, true, true, false, true, true, true, true, true, false, false, false, false, false, false, false, false, false, false, false, false, false, false, false, false, false, false, false, false, false, false] rfl rfl (take_ofW HT_.out HW_.out (by kernel_rfl)) (fun _ _ _ h => h) (Or.inl ⟨by rfl, ?_⟩) hHeld ?_ ?_
        rotate_left
        ·rintro w' ⟨s0, s1, s2, s3, s4, s5⟩
         go_simp
         with_reducible rfl
        rotate_left
        ·simp only [Act.put, List.setIfInBounds_toArray, List.set_cons_zero, List.set_cons_succ, i64_w, i32_w, u8_w, u32_w]
         rfl
        refine one_ (i := 9) (N := some 42) #[true, true, true, true, true, true, true, true, true, true, true, true, false, true, true, true, true, true, false, false, false, false, false, false, false, false, false, false, false, false, false, false, false, false, false, false, false, false, false, false] rfl rfl (one_of HT_.out (by kernel_rfl)) (by decide) (fun K hK => ?_)
        refine goes_ Tryd.func23 (by kernel_rfl) rfl #[.agg #[.int .i64 zQ, .int .i64 zR, .slice zw zL.length zx], .int .i64 z7, .int .i64 zS] (by rfl) rfl rfl (by (try simp only [List.map_toArray, List.map_cons, List.map_nil]); first | done | rfl | (simp only [List.length_drop, List.length_take]; rfl)) ?_
        with_reducible refine (term_Shift.calls zc zQ zR (fun k_ => ((some k_ ≠ (.slice zq zg.length zr : Value).ownBlock ∧ (k_ ≠ zA ∧ (k_ ≠ zB ∧ (k_ ≠ zE ∧ k_ ≠ zF)))) ∧ some k_ ≠ (.slice xK xF.length xL : Value).ownBlock)) _ _ zL z7 zS t231 t232 xN _ ?side1 A32.out).mono ?_
        (case side1 => exact Kd.N_V (zI.out))
        rintro e w62 ⟨v234, rfl, ho0, hb⟩
        refine ⟨_, rfl, ?_⟩
        have zd := am_ (an4 (by (with_reducible repeat (first | apply an1 | apply an2 | apply an3)); exact zI.out) (by first | exact Kd.N_base ho0 | exact Kd.R_base ho0) hb)
        have ze := am_ (an4 (by (with_reducible repeat (first | apply an1 | apply an2 | apply an3)); exact zT.out) (by first | exact Kd.N_base ho0 | exact Kd.R_base ho0) hb)
        have zf := am_ (an4 (by (with_reducible repeat (first | apply an1 | apply an2 | apply an3)); exact zl.out) (by first | exact Kd.N_base ho0 | exact Kd.R_base ho0) hb)
        have zi := am_ (Kd.N_lower (an5 (ok' := fun k_ => some k_ ≠ (.slice zq zg.length zr : Value).ownBlock ∧ some k_ ≠ (.slice xK xF.length xL : Value).ownBlock ∧ k_ ≠ zA ∧ k_ ≠ zB ∧ k_ ≠ zE ∧ k_ ≠ zF) ho0 (fun k_ hk_ => ⟨Or.elim hk_ (fun hs_ => hs_.1.1) (fun hn_ => (af2 (Kd.N_lt (by (with_reducible repeat (first | apply an1 | apply an2 | apply an3)); exact zT.out)) k_ hn_)), Or.elim hk_ (fun hs_ => hs_.2) (fun hn_ => (af2 (Kd.N_lt (by (with_reducible repeat (first | apply an1 | apply an2 | apply an3)); exact zl.out)) k_ hn_)), Or.elim hk_ (fun hs_ => hs_.1.2.1) (fun hn_ => (af1 (g := zA) (o := .cells #[.int .i64 a0_0, .int .i64 a0_1, .slice A0_2 l0_2.length c0_2] 24 (0, 0)) (by (with_reducible repeat (first | apply aq1 | apply aq2 | apply aq3)); exact zC.out) k_ hn_)), Or.elim hk_ (fun hs_ => hs_.1.2.2.1) (fun hn_ => (af1 (g := zB) (o := .cells #[.int .i64 a1_0, .int .i64 a1_1, .slice A1_2 l1_2.length c1_2] 24 (0, 0)) (by (with_reducible repeat (first | apply aq1 | apply aq2 | apply aq3)); exact zD.out) k_ hn_)), Or.elim hk_ (fun hs_ => hs_.1.2.2.2.1) (fun hn_ => (af1 (g := zE) (o := .cells #[.int .i64 zQ, .int .i64 zR, .slice zw zL.length zx] 29 (0, 0)) (by (with_reducible repeat (first | apply aq1 | apply aq2 | apply aq3)); exact zG.out) k_ hn_)), Or.elim hk_ (fun hs_ => hs_.1.2.2.2.2) (fun hn_ => (af1 (g := zF) (o := .cells #[.int .i64 zm, .int .i64 zo, .slice zq zg.length zr] 29 (0, 0)) (by (with_reducible repeat (first | apply aq1 | apply aq2 | apply aq3)); exact zH.out) k_ hn_))⟩)) (below_size (by repeat (first | (with_reducible first | exact HB.out | apply ab1 | apply ab2 | apply ab3 | refine ab4 ?_ zJ.out | refine ab4 ?_ zK.out | refine ab4 ?_ zU.out | refine ab4 ?_ zV.out) | exact HB.out))))
        have zj := am_ (aq4 (g := zA) (o := .cells #[.int .i64 a0_0, .int .i64 a0_1, .slice A0_2 l0_2.length c0_2] 24 (0, 0)) (by (with_reducible repeat (first | apply aq1 | apply aq2 | apply aq3)); exact zC.out) hb)
        have zk := am_ (aq4 (g := zB) (o := .cells #[.int .i64 a1_0, .int .i64 a1_1, .slice A1_2 l1_2.length c1_2] 24 (0, 0)) (by (with_reducible repeat (first | apply aq1 | apply aq2 | apply aq3)); exact zD.out) hb)
        have zn := am_ (aq4 (g := zE) (o := .cells #[.int .i64 zQ, .int .i64 zR, .slice zw zL.length zx] 29 (0, 0)) (by (with_reducible repeat (first | apply aq1 | apply aq2 | apply aq3)); exact zG.out) hb)
        have zs := am_ (aq4 (g := zF) (o := .cells #[.int .i64 zm, .int .i64 zo, .slice zq zg.length zr] 29 (0, 0)) (by (with_reducible repeat (first | apply aq1 | apply aq2 | apply aq3)); exact zH.out) hb)
        have zu := am_ (ab5 (by repeat (first | (with_reducible first | exact HB.out | apply ab1 | apply ab2 | apply ab3 | refine ab4 ?_ zJ.out | refine ab4 ?_ zK.out | refine ab4 ?_ zU.out | refine ab4 ?_ zV.out) | exact HB.out)) hb)
        clear zI
        clear zT
        clear zl
        clear zC
        clear zD
        clear zG
        clear zH
        clear HB
        have zI := zd
        have zT := ze
        have zl := zf
        have zt := zi
        have zC := zj
        have zD := zk
        have zG := zn
        have zH := zs
        have HB := zu
        clear zd ze zf zi zj zk zn zs zu
        (try clear hb)
        (try clear hb2)
        (try clear hk)
        (try clear hi)
        (try clear ho0)
        obtain ⟨xQ, xR, eo63⟩ := Kd.N_slice zt.out
        (first | subst eo63 | (injection eo63 with f1_ f2_ f3_; have f4_ := f1_.symm; have f5_ := f3_.symm; clear f1_ f2_ f3_; subst f4_; subst f5_))
        refine hK.out _ _ ⟨(aq7 zG.out 0).trans rfl, (aq7 zG.out 1).trans rfl, (aq7 zG.out 2).trans rfl, (aq7 zH.out 0).trans rfl, (aq7 zH.out 1).trans rfl, (aq7 zH.out 2).trans rfl⟩ (fun hHeld => ?_)
        clear hK K
        refine norm_ (a' := ?_) ?_ ?_
        rotate_left
        ·show Act.put _ (some 42) _ = _
         simp only [Act.put, List.setIfInBounds_toArray, List.set_cons_zero, List.set_cons_succ, i64_w, i32_w, u8_w, u32_w]
         rfl
        refine one_ (i := 12) (N := some 45) #[true, true, true, true, true, true, true, true, true, true, true, true, true, true, true, true, true, true, false, false, false, false, false, false, false, false, false, false, false, false, false, false, false, false, false, false, false, false, false, false] rfl rfl (one_of HT_.out (by kernel_rfl)) (by decide) (fun K hK => ?_)
        refine goes_ Tryd.func23 (by kernel_rfl) rfl #[.agg #[.int .i64 t231, .int .i64 t232, .slice xQ xN.length xR], .int .i64 z6, .int .i64 zS] (by rfl) rfl rfl (by (try simp only [List.map_toArray, List.map_cons, List.map_nil]); first | done | rfl | (simp only [List.length_drop, List.length_take]; rfl)) ?_
        with_reducible refine (term_Shift.calls zc t231 t232 (fun k_ => (some k_ ≠ (.slice zq zg.length zr : Value).ownBlock ∧ (some k_ ≠ (.slice xK xF.length xL : Value).ownBlock ∧ (k_ ≠ zA ∧ (k_ ≠ zB ∧ (k_ ≠ zE ∧ k_ ≠ zF)))))) _ _ xN z6 zS xl xm xO _ ?side1 A33.out).mono ?_
        (case side1 => exact Kd.N_V (zt.out))
        rintro e w64 ⟨v239, rfl, ho0, hb⟩
        refine ⟨_, rfl, ?_⟩
        have zd := am_ (an4 (by (with_reducible repeat (first | apply an1 | apply an2 | apply an3)); exact zI.out) (by first | exact Kd.N_base ho0 | exact Kd.R_base ho0) hb)
        have ze := am_ (an4 (by (with_reducible repeat (first | apply an1 | apply an2 | apply an3)); exact zT.out) (by first | exact Kd.N_base ho0 | exact Kd.R_base ho0) hb)
        have zf := am_ (an4 (by (with_reducible repeat (first | apply an1 | apply an2 | apply an3)); exact zl.out) (by first | exact Kd.N_base ho0 | exact Kd.R_base ho0) hb)
        have zi := am_ (an4 (by (with_reducible repeat (first | apply an1 | apply an2 | apply an3)); exact zt.out) (by first | exact Kd.N_base ho0 | exact Kd.R_base ho0) hb)
        have zj := am_ (Kd.N_lower (an5 (ok' := fun k_ => some k_ ≠ (.slice zq zg.length zr : Value).ownBlock ∧ some k_ ≠ (.slice xK xF.length xL : Value).ownBlock ∧ k_ ≠ zA ∧ k_ ≠ zB ∧ k_ ≠ zE ∧ k_ ≠ zF) ho0 (fun k_ hk_ => ⟨Or.elim hk_ (fun hs_ => hs_.1) (fun hn_ => (af2 (Kd.N_lt (by (with_reducible repeat (first | apply an1 | apply an2 | apply an3)); exact zT.out)) k_ hn_)), Or.elim hk_ (fun hs_ => hs_.2.1) (fun hn_ => (af2 (Kd.N_lt (by (with_reducible repeat (first | apply an1 | apply an2 | apply an3)); exact zl.out)) k_ hn_)), Or.elim hk_ (fun hs_ => hs_.2.2.1) (fun hn_ => (af1 (g := zA) (o := .cells #[.int .i64 a0_0, .int .i64 a0_1, .slice A0_2 l0_2.length c0_2] 24 (0, 0)) (by (with_reducible repeat (first | apply aq1 | apply aq2 | apply aq3)); exact zC.out) k_ hn_)), Or.elim hk_ (fun hs_ => hs_.2.2.2.1) (fun hn_ => (af1 (g := zB) (o := .cells #[.int .i64 a1_0, .int .i64 a1_1, .slice A1_2 l1_2.length c1_2] 24 (0, 0)) (by (with_reducible repeat (first | apply aq1 | apply aq2 | apply aq3)); exact zD.out) k_ hn_)), Or.elim hk_ (fun hs_ => hs_.2.2.2.2.1) (fun hn_ => (af1 (g := zE) (o := .cells #[.int .i64 zQ, .int .i64 zR, .slice zw zL.length zx] 29 (0, 0)) (by (with_reducible repeat (first | apply aq1 | apply aq2 | apply aq3)); exact zG.out) k_ hn_)), Or.elim hk_ (fun hs_ => hs_.2.2.2.2.2) (fun hn_ => (af1 (g := zF) (o := .cells #[.int .i64 zm, .int .i64 zo, .slice zq zg.length zr] 29 (0, 0)) (by (with_reducible repeat (first | apply aq1 | apply aq2 | apply aq3)); exact zH.out) k_ hn_))⟩)) (below_size (by repeat (first | (with_reducible first | exact HB.out | apply ab1 | apply ab2 | apply ab3 | refine ab4 ?_ zJ.out | refine ab4 ?_ zK.out | refine ab4 ?_ zU.out | refine ab4 ?_ zV.out) | exact HB.out))))
        have zk := am_ (aq4 (g := zA) (o := .cells #[.int .i64 a0_0, .int .i64 a0_1, .slice A0_2 l0_2.length c0_2] 24 (0, 0)) (by (with_reducible repeat (first | apply aq1 | apply aq2 | apply aq3)); exact zC.out) hb)
        have zn := am_ (aq4 (g := zB) (o := .cells #[.int .i64 a1_0, .int .i64 a1_1, .slice A1_2 l1_2.length c1_2] 24 (0, 0)) (by (with_reducible repeat (first | apply aq1 | apply aq2 | apply aq3)); exact zD.out) hb)
        have zs := am_ (aq4 (g := zE) (o := .cells #[.int .i64 zQ, .int .i64 zR, .slice zw zL.length zx] 29 (0, 0)) (by (with_reducible repeat (first | apply aq1 | apply aq2 | apply aq3)); exact zG.out) hb)
        have zu := am_ (aq4 (g := zF) (o := .cells #[.int .i64 zm, .int .i64 zo, .slice zq zg.length zr] 29 (0, 0)) (by (with_reducible repeat (first | apply aq1 | apply aq2 | apply aq3)); exact zH.out) hb)
        have zy := am_ (ab5 (by repeat (first | (with_reducible first | exact HB.out | apply ab1 | apply ab2 | apply ab3 | refine ab4 ?_ zJ.out | refine ab4 ?_ zK.out | refine ab4 ?_ zU.out | refine ab4 ?_ zV.out) | exact HB.out)) hb)
        clear zI
        clear zT
        clear zl
        clear zt
        clear zC
        clear zD
        clear zG
        clear zH
        clear HB
        have zI := zd
        have zT := ze
        have zl := zf
        have zt := zi
        have zz := zj
        have zC := zk
        have zD := zn
        have zG := zs
        have zH := zu
        have HB := zy
        clear zd ze zf zi zj zk zn zs zu zy
        (try clear hb)
        (try clear hb2)
        (try clear hk)
        (try clear hi)
        (try clear ho0)
        refine hK.out _ _ ⟨(aq7 zG.out 0).trans rfl, (aq7 zG.out 1).trans rfl, (aq7 zG.out 2).trans rfl, (aq7 zH.out 0).trans rfl, (aq7 zH.out 1).trans rfl, (aq7 zH.out 2).trans rfl⟩ (fun hHeld => ?_)
        clear hK K
        refine norm_ (a' := ?_) ?_ ?_
        rotate_left
        ·show Act.put _ (some 45) _ = _
         simp only [Act.put, List.setIfInBounds_toArray, List.set_cons_zero, List.set_cons_succ, i64_w, i32_w, u8_w, u32_w]
         rfl
        refine one_ (i := 18) (N := some 51) #[true, true, true, true, true, true, true, true, true, true, true, true, true, true, true, true, true, true, true, false, false, false, false, false, false, false, false, false, false, false, false, false, false, false, false, false, false, false, false, false] rfl rfl (one_of HT_.out (by kernel_rfl)) (by decide) (fun K hK => ?_)
        refine goes_ Tryd.func23 (by kernel_rfl) rfl #[.agg #[.int .i64 zQ, .int .i64 zR, .slice zw zL.length zx], .int .i64 (wrap64 (z7 + z6)), .int .i64 zS] (by rfl) rfl rfl (by (try simp only [List.map_toArray, List.map_cons, List.map_nil]); first | done | rfl | (simp only [List.length_drop, List.length_take]; rfl)) ?_
        with_reducible refine (term_Shift.calls zc zQ zR (fun k_ => ((((some k_ ≠ (.slice zq zg.length zr : Value).ownBlock ∧ (k_ ≠ zA ∧ (k_ ≠ zB ∧ (k_ ≠ zE ∧ k_ ≠ zF)))) ∧ some k_ ≠ (.slice xK xF.length xL : Value).ownBlock) ∧ some k_ ≠ (.slice xQ xN.length xR : Value).ownBlock) ∧ some k_ ≠ (v239 : Value).ownBlock)) _ _ zL (wrap64 (z7 + z6)) zS t241 t242 xP _ ?side1 A34.out).mono ?_
        (case side1 => exact Kd.N_V (zI.out))
        rintro e w65 ⟨v244, rfl, ho0, hb⟩
        refine ⟨_, rfl, ?_⟩
        have zd := am_ (an4 (by (with_reducible repeat (first | apply an1 | apply an2 | apply an3)); exact zI.out) (by first | exact Kd.N_base ho0 | exact Kd.R_base ho0) hb)
        have ze := am_ (an4 (by (with_reducible repeat (first | apply an1 | apply an2 | apply an3)); exact zT.out) (by first | exact Kd.N_base ho0 | exact Kd.R_base ho0) hb)
        have zf := am_ (an4 (by (with_reducible repeat (first | apply an1 | apply an2 | apply an3)); exact zl.out) (by first | exact Kd.N_base ho0 | exact Kd.R_base ho0) hb)
        have zi := am_ (an4 (by (with_reducible repeat (first | apply an1 | apply an2 | apply an3)); exact zt.out) (by first | exact Kd.N_base ho0 | exact Kd.R_base ho0) hb)
        have zj := am_ (an4 (by (with_reducible repeat (first | apply an1 | apply an2 | apply an3)); exact zz.out) (by first | exact Kd.N_base ho0 | exact Kd.R_base ho0) hb)
        have zk := am_ (Kd.N_lower (an5 (ok' := fun k_ => some k_ ≠ (.slice zq zg.length zr : Value).ownBlock ∧ some k_ ≠ (.slice xK xF.length xL : Value).ownBlock ∧ some k_ ≠ (.slice xQ xN.length xR : Value).ownBlock ∧ some k_ ≠ (v239 : Value).ownBlock ∧ k_ ≠ zA ∧ k_ ≠ zB ∧ k_ ≠ zE ∧ k_ ≠ zF) ho0 (fun k_ hk_ => ⟨Or.elim hk_ (fun hs_ => hs_.1.1.1.1) (fun hn_ => (af2 (Kd.N_lt (by (with_reducible repeat (first | apply an1 | apply an2 | apply an3)); exact zT.out)) k_ hn_)), Or.elim hk_ (fun hs_ => hs_.1.1.2) (fun hn_ => (af2 (Kd.N_lt (by (with_reducible repeat (first | apply an1 | apply an2 | apply an3)); exact zl.out)) k_ hn_)), Or.elim hk_ (fun hs_ => hs_.1.2) (fun hn_ => (af2 (Kd.N_lt (by (with_reducible repeat (first | apply an1 | apply an2 | apply an3)); exact zt.out)) k_ hn_)), Or.elim hk_ (fun hs_ => hs_.2) (fun hn_ => (af2 (Kd.N_lt (by (with_reducible repeat (first | apply an1 | apply an2 | apply an3)); exact zz.out)) k_ hn_)), Or.elim hk_ (fun hs_ => hs_.1.1.1.2.1) (fun hn_ => (af1 (g := zA) (o := .cells #[.int .i64 a0_0, .int .i64 a0_1, .slice A0_2 l0_2.length c0_2] 24 (0, 0)) (by (with_reducible repeat (first | apply aq1 | apply aq2 | apply aq3)); exact zC.out) k_ hn_)), Or.elim hk_ (fun hs_ => hs_.1.1.1.2.2.1) (fun hn_ => (af1 (g := zB) (o := .cells #[.int .i64 a1_0, .int .i64 a1_1, .slice A1_2 l1_2.length c1_2] 24 (0, 0)) (by (with_reducible repeat (first | apply aq1 | apply aq2 | apply aq3)); exact zD.out) k_ hn_)), Or.elim hk_ (fun hs_ => hs_.1.1.1.2.2.2.1) (fun hn_ => (af1 (g := zE) (o := .cells #[.int .i64 zQ, .int .i64 zR, .slice zw zL.length zx] 29 (0, 0)) (by (with_reducible repeat (first | apply aq1 | apply aq2 | apply aq3)); exact zG.out) k_ hn_)), Or.elim hk_ (fun hs_ => hs_.1.1.1.2.2.2.2) (fun hn_ => (af1 (g := zF) (o := .cells #[.int .i64 zm, .int .i64 zo, .slice zq zg.length zr] 29 (0, 0)) (by (with_reducible repeat (first | apply aq1 | apply aq2 | apply aq3)); exact zH.out) k_ hn_))⟩)) (below_size (by repeat (first | (with_reducible first | exact HB.out | apply ab1 | apply ab2 | apply ab3 | refine ab4 ?_ zJ.out | refine ab4 ?_ zK.out | refine ab4 ?_ zU.out | refine ab4 ?_ zV.out) | exact HB.out))))
        have zn := am_ (aq4 (g := zA) (o := .cells #[.int .i64 a0_0, .int .i64 a0_1, .slice A0_2 l0_2.length c0_2] 24 (0, 0)) (by (with_reducible repeat (first | apply aq1 | apply aq2 | apply aq3)); exact zC.out) hb)
        have zs := am_ (aq4 (g := zB) (o := .cells #[.int .i64 a1_0, .int .i64 a1_1, .slice A1_2 l1_2.length c1_2] 24 (0, 0)) (by (with_reducible repeat (first | apply aq1 | apply aq2 | apply aq3)); exact zD.out) hb)
        have zu := am_ (aq4 (g := zE) (o := .cells #[.int .i64 zQ, .int .i64 zR, .slice zw zL.length zx] 29 (0, 0)) (by (with_reducible repeat (first | apply aq1 | apply aq2 | apply aq3)); exact zG.out) hb)
        have zy := am_ (aq4 (g := zF) (o := .cells #[.int .i64 zm, .int .i64 zo, .slice zq zg.length zr] 29 (0, 0)) (by (with_reducible repeat (first | apply aq1 | apply aq2 | apply aq3)); exact zH.out) hb)
        have zh := am_ (ab5 (by repeat (first | (with_reducible first | exact HB.out | apply ab1 | apply ab2 | apply ab3 | refine ab4 ?_ zJ.out | refine ab4 ?_ zK.out | refine ab4 ?_ zU.out | refine ab4 ?_ zV.out) | exact HB.out)) hb)
        clear zI
        clear zT
        clear zl
        clear zt
        clear zz
        clear zC
        clear zD
        clear zG
        clear zH
        clear HB
        have zI := zd
        have zT := ze
        have zl := zf
        have zt := zi
        have zz := zj
        have z4 := zk
        have zC := zn
        have zD := zs
        have zG := zu
        have zH := zy
        have HB := zh
        clear zd ze zf zi zj zk zn zs zu zy zh
        (try clear hb)
        (try clear hb2)
        (try clear hk)
        (try clear hi)
        (try clear ho0)
        obtain ⟨xe, xf, eo66⟩ := Kd.N_slice zz.out
        (first | subst eo66 | (injection eo66 with f1_ f2_ f3_; have f4_ := f1_.symm; have f5_ := f3_.symm; clear f1_ f2_ f3_; subst f4_; subst f5_))
        obtain ⟨xg, xh, eo67⟩ := Kd.N_slice z4.out
        (first | subst eo67 | (injection eo67 with f1_ f2_ f3_; have f4_ := f1_.symm; have f5_ := f3_.symm; clear f1_ f2_ f3_; subst f4_; subst f5_))
        refine hK.out _ _ ⟨(aq7 zG.out 0).trans rfl, (aq7 zG.out 1).trans rfl, (aq7 zG.out 2).trans rfl, (aq7 zH.out 0).trans rfl, (aq7 zH.out 1).trans rfl, (aq7 zH.out 2).trans rfl⟩ (fun hHeld => ?_)
        clear hK K
        refine norm_ (a' := ?_) ?_ ?_
        rotate_left
        ·show Act.put _ (some 51) _ = _
         simp only [Act.put, List.setIfInBounds_toArray, List.set_cons_zero, List.set_cons_succ, i64_w, i32_w, u8_w, u32_w]
         rfl
        refine one_ (i := 19) (N := some 52) #[true, true, true, true, true, true, true, true, true, true, true, true, true, true, true, true, true, true, true, true, false, false, false, false, false, false, false, false, false, false, false, false, false, false, false, false, false, false, false, false] rfl rfl (one_of HT_.out (by kernel_rfl)) (by decide) (fun K hK => ?_)
        refine goes_ Tryd.func18 (by kernel_rfl) rfl #[.agg #[.int .i64 xl, .int .i64 xm, .slice xe xO.length xf], .agg #[.int .i64 t241, .int .i64 t242, .slice xg xP.length xh]] (by rfl) rfl rfl (by (try simp only [List.map_toArray, List.map_cons, List.map_nil]); first | done | rfl | (simp only [List.length_drop, List.length_take]; rfl)) ?_
        with_reducible refine (thyrsusref4_Same.calls zc xl xm _ _ xO t241 t242 _ _ xP true _ ?side1 ?side2 ?side3 ?side4 A35.out).mono ?_
        (case side1 => repeat (first | exact (Kd.N_reads' zz.out).2.2 | (with_reducible refine ac2 ?_ _) | (with_reducible refine ac3 ?_ _) | (with_reducible refine Kd.C_drew ?_)))
        (case side2 => exact (Kd.N_reads' zz.out).2.1)
        (case side3 => repeat (first | exact (Kd.N_reads' z4.out).2.2 | (with_reducible refine ac2 ?_ _) | (with_reducible refine ac3 ?_ _) | (with_reducible refine Kd.C_drew ?_)))
        (case side4 => exact (Kd.N_reads' z4.out).2.1)
        rintro e w68 ⟨rfl, hb⟩
        refine ⟨_, rfl, ?_⟩
        have zd := am_ (Kd.N_below (by (with_reducible repeat (first | apply an1 | apply an2 | apply an3)); exact zI.out) hb)
        have ze := am_ (Kd.N_below (by (with_reducible repeat (first | apply an1 | apply an2 | apply an3)); exact zT.out) hb)
        have zf := am_ (Kd.N_below (by (with_reducible repeat (first | apply an1 | apply an2 | apply an3)); exact zl.out) hb)
        have zi := am_ (Kd.N_below (by (with_reducible repeat (first | apply an1 | apply an2 | apply an3)); exact zt.out) hb)
        have zj := am_ (Kd.N_below (by (with_reducible repeat (first | apply an1 | apply an2 | apply an3)); exact zz.out) hb)
        have zk := am_ (Kd.N_below (by (with_reducible repeat (first | apply an1 | apply an2 | apply an3)); exact z4.out) hb)
        have zn := am_ (aq4 (g := zA) (o := .cells #[.int .i64 a0_0, .int .i64 a0_1, .slice A0_2 l0_2.length c0_2] 24 (0, 0)) (by (with_reducible repeat (first | apply aq1 | apply aq2 | apply aq3)); exact zC.out) hb)
        have zs := am_ (aq4 (g := zB) (o := .cells #[.int .i64 a1_0, .int .i64 a1_1, .slice A1_2 l1_2.length c1_2] 24 (0, 0)) (by (with_reducible repeat (first | apply aq1 | apply aq2 | apply aq3)); exact zD.out) hb)
        have zu := am_ (aq4 (g := zE) (o := .cells #[.int .i64 zQ, .int .i64 zR, .slice zw zL.length zx] 29 (0, 0)) (by (with_reducible repeat (first | apply aq1 | apply aq2 | apply aq3)); exact zG.out) hb)
        have zy := am_ (aq4 (g := zF) (o := .cells #[.int .i64 zm, .int .i64 zo, .slice zq zg.length zr] 29 (0, 0)) (by (with_reducible repeat (first | apply aq1 | apply aq2 | apply aq3)); exact zH.out) hb)
        have zh := am_ (ab5 (by repeat (first | (with_reducible first | exact HB.out | apply ab1 | apply ab2 | apply ab3 | refine ab4 ?_ zJ.out | refine ab4 ?_ zK.out | refine ab4 ?_ zU.out | refine ab4 ?_ zV.out) | exact HB.out)) hb)
        clear zI
        clear zT
        clear zl
        clear zt
        clear zz
        clear z4
        clear zC
        clear zD
        clear zG
        clear zH
        clear HB
        have zI := zd
        have zT := ze
        have zl := zf
        have zt := zi
        have zz := zj
        have z4 := zk
        have zC := zn
        have zD := zs
        have zG := zu
        have zH := zy
        have HB := zh
        clear zd ze zf zi zj zk zn zs zu zy zh
        (try clear hb)
        (try clear hb2)
        (try clear hk)
        (try clear hi)
        refine hK.out _ _ ⟨(aq7 zG.out 0).trans rfl, (aq7 zG.out 1).trans rfl, (aq7 zG.out 2).trans rfl, (aq7 zH.out 0).trans rfl, (aq7 zH.out 1).trans rfl, (aq7 zH.out 2).trans rfl⟩ (fun hHeld => ?_)
        clear hK K
        refine norm_ (a' := ?_) ?_ ?_
        rotate_left
        ·show Act.put _ (some 52) _ = _
         simp only [Act.put, List.setIfInBounds_toArray, List.set_cons_zero, List.set_cons_succ, i64_w, i32_w, u8_w, u32_w]
         rfl
        refine pure_ (i := 20) (N := some 53) (v := ?_) (a' := ?_) #[true, true, true, true, true, true, true, true, true, true, true, true, true, true, true, true, true, true, true, true, true, false, false, false, false, false, false, false, false, false, false, false, false, false, false, false, false, false, false, false] rfl rfl (any_of HT_.out (by kernel_rfl)) (fun _ _ _ h => h) (Or.inl ⟨by rfl, ?_⟩) ?_ ?_
        rotate_left
        ·intro w'
         go_simp
         with_reducible rfl
        rotate_left
        ·simp only [Act.put, List.setIfInBounds_toArray, List.set_cons_zero, List.set_cons_succ, i64_w, i32_w, u8_w, u32_w]
         rfl
        refine pure_ (i := 21) (N := some 54) (v := ?_) (a' := ?_) #[true, true, true, true, true, true, true, true, true, true, true, true, true, true, true, true, true, true, true, true, true, true, false, false, false, false, false, false, false, false, false, false, false, false, false, false, false, false, false, false] rfl rfl (any_of HT_.out (by kernel_rfl)) (fun _ _ _ h => h) (Or.inl ⟨by rfl, ?_⟩) ?_ ?_
        rotate_left
        ·intro w'
         go_simp
         with_reducible rfl
        rotate_left
        ·simp only [Act.put, List.setIfInBounds_toArray, List.set_cons_zero, List.set_cons_succ, i64_w, i32_w, u8_w, u32_w]
         rfl
        refine pure_ (i := 23) (N := some 56) (v := ?_) (a' := ?_) #[true, true, true, true, true, true, true, true, true, true, true, true, true, true, true, true, true, true, true, true, true, true, false, true, false, false, false, false, false, false, false, false, false, false, false, false, false, false, false, false] rfl rfl (any_of HT_.out (by kernel_rfl)) (fun _ _ _ h => h) (Or.inl ⟨by rfl, ?_⟩) ?_ ?_
        rotate_left
        ·intro w'
         go_simp
         with_reducible rfl
        rotate_left
        ·simp only [Act.put, List.setIfInBounds_toArray, List.set_cons_zero, List.set_cons_succ, i64_w, i32_w, u8_w, u32_w]
         rfl
        refine pure_ (i := 25) (N := some 58) (v := ?_) (a' := ?_) #[true, true, true, true, true, true, true, true, true, true, true, true, true, true, true, true, true, true, true, true, true, true, false, true, false, true, false, false, false, false, false, false, false, false, false, false, false, false, false, false] rfl rfl (any_of HT_.out (by kernel_rfl)) (fun _ _ _ h => h) (Or.inl ⟨by rfl, ?_⟩) ?_ ?_
        rotate_left
        ·intro w'
         go_simp
         with_reducible rfl
        rotate_left
        ·simp only [Act.put, List.setIfInBounds_toArray, List.set_cons_zero, List.set_cons_succ, i64_w, i32_w, u8_w, u32_w]
         rfl
        refine take_ (i := 22) (N := some 55) (v := ?_) (a' := ?_) #[true, true, true, true, true, true, true, true, true, true, true, true, true, true, true, true, true, true, true, true, true, true, true, true, false, true, false, false, false, false, false, false, false, false, false, false, false, false, false, false] rfl rfl (take_ofW HT_.out HW_.out (by kernel_rfl)) (fun _ _ _ h => h) (Or.inl ⟨by rfl, ?_⟩) hHeld ?_ ?_
        rotate_left
        ·rintro w' ⟨s0, s1, s2, s3, s4, s5⟩
         go_simp
         with_reducible rfl
        rotate_left
        ·simp only [Act.put, List.setIfInBounds_toArray, List.set_cons_zero, List.set_cons_succ, i64_w, i32_w, u8_w, u32_w]
         rfl
        refine take_ (i := 26) (N := some 59) (v := ?_) (a' := ?_) #[true, true, true, true, true, true, true, true, true, true, true, true, true, true, true, true, true, true, true, true, true, true, true, true, false, true, true, false, false, false, false, false, false, false, false, false, false, false, false, false] rfl rfl (take_ofW HT_.out HW_.out (by kernel_rfl)) (fun _ _ _ h => h) (Or.inl ⟨by rfl, ?_⟩) hHeld ?_ ?_
        rotate_left
        ·rintro w' ⟨s0, s1, s2, s3, s4, s5⟩
         go_simp
         with_reducible rfl
        rotate_left
        ·simp only [Act.put, List.setIfInBounds_toArray, List.set_cons_zero, List.set_cons_succ, i64_w, i32_w, u8_w, u32_w]
         rfl
        refine take_ (i := 28) (N := some 61) (v := ?_) (a' := ?_) #[true, true, true, true, true, true, true, true, true, true, true, true, true, true, true, true, true, true, true, true, true, true, true, true, false, true, true, false, true, false, false, false, false, false, false, false, false, false, false, false] rfl rfl (take_ofW HT_.out HW_.out (by kernel_rfl)) (fun _ _ _ h => h) (Or.inl ⟨by rfl, ?_⟩) hHeld ?_ ?_
        rotate_left
        ·rintro w' ⟨s0, s1, s2, s3, s4, s5⟩
         go_simp
         with_reducible rfl
        rotate_left
        ·simp only [Act.put, List.setIfInBounds_toArray, List.set_cons_zero, List.set_cons_succ, i64_w, i32_w, u8_w, u32_w]
         rfl
        refine one_ (i := 24) (N := some 57) #[true, true, true, true, true, true, true, true, true, true, true, true, true, true, true, true, true, true, true, true, true, true, true, true, true, true, true, false, true, false, false, false, false, false, false, false, false, false, false, false] rfl rfl (one_of HT_.out (by kernel_rfl)) (by decide) (fun K hK => ?_)
        refine goes_ Tryd.func23 (by kernel_rfl) rfl #[.agg #[.int .i64 zQ, .int .i64 zR, .slice zw zL.length zx], .int .i64 1, .int .i64 zS] (by rfl) rfl rfl (by (try simp only [List.map_toArray, List.map_cons, List.map_nil]); first | done | rfl | (simp only [List.length_drop, List.length_take]; rfl)) ?_
        with_reducible refine (term_Shift.calls zc zQ zR (fun k_ => (((((some k_ ≠ (.slice zq zg.length zr : Value).ownBlock ∧ (k_ ≠ zA ∧ (k_ ≠ zB ∧ (k_ ≠ zE ∧ k_ ≠ zF)))) ∧ some k_ ≠ (.slice xK xF.length xL : Value).ownBlock) ∧ some k_ ≠ (.slice xQ xN.length xR : Value).ownBlock) ∧ some k_ ≠ (.slice xe xO.length xf : Value).ownBlock) ∧ some k_ ≠ (.slice xg xP.length xh : Value).ownBlock)) _ _ zL 1 zS t247 t248 xi _ ?side1 A37.out).mono ?_
        (case side1 => exact Kd.N_V (zI.out))
        rintro e w69 ⟨v250, rfl, ho0, hb⟩
        refine ⟨_, rfl, ?_⟩
        have zd := am_ (an4 (by (with_reducible repeat (first | apply an1 | apply an2 | apply an3)); exact zI.out) (by first | exact Kd.N_base ho0 | exact Kd.R_base ho0) hb)
        have ze := am_ (an4 (by (with_reducible repeat (first | apply an1 | apply an2 | apply an3)); exact zT.out) (by first | exact Kd.N_base ho0 | exact Kd.R_base ho0) hb)
        have zf := am_ (an4 (by (with_reducible repeat (first | apply an1 | apply an2 | apply an3)); exact zl.out) (by first | exact Kd.N_base ho0 | exact Kd.R_base ho0) hb)
        have zi := am_ (an4 (by (with_reducible repeat (first | apply an1 | apply an2 | apply an3)); exact zt.out) (by first | exact Kd.N_base ho0 | exact Kd.R_base ho0) hb)
        have zj := am_ (an4 (by (with_reducible repeat (first | apply an1 | apply an2 | apply an3)); exact zz.out) (by first | exact Kd.N_base ho0 | exact Kd.R_base ho0) hb)
        have zk := am_ (an4 (by (with_reducible repeat (first | apply an1 | apply an2 | apply an3)); exact z4.out) (by first | exact Kd.N_base ho0 | exact Kd.R_base ho0) hb)
        have zn := am_ (Kd.N_lower (an5 (ok' := fun k_ => some k_ ≠ (.slice zq zg.length zr : Value).ownBlock ∧ some k_ ≠ (.slice xK xF.length xL : Value).ownBlock ∧ some k_ ≠ (.slice xQ xN.length xR : Value).ownBlock ∧ some k_ ≠ (.slice xe xO.length xf : Value).ownBlock ∧ some k_ ≠ (.slice xg xP.length xh : Value).ownBlock ∧ k_ ≠ zA ∧ k_ ≠ zB ∧ k_ ≠ zE ∧ k_ ≠ zF) ho0 (fun k_ hk_ => ⟨Or.elim hk_ (fun hs_ => hs_.1.1.1.1.1) (fun hn_ => (af2 (Kd.N_lt (by (with_reducible repeat (first | apply an1 | apply an2 | apply an3)); exact zT.out)) k_ hn_)), Or.elim hk_ (fun hs_ => hs_.1.1.1.2) (fun hn_ => (af2 (Kd.N_lt (by (with_reducible repeat (first | apply an1 | apply an2 | apply an3)); exact zl.out)) k_ hn_)), Or.elim hk_ (fun hs_ => hs_.1.1.2) (fun hn_ => (af2 (Kd.N_lt (by (with_reducible repeat (first | apply an1 | apply an2 | apply an3)); exact zt.out)) k_ hn_)), Or.elim hk_ (fun hs_ => hs_.1.2) (fun hn_ => (af2 (Kd.N_lt (by (with_reducible repeat (first | apply an1 | apply an2 | apply an3)); exact zz.out)) k_ hn_)), Or.elim hk_ (fun hs_ => hs_.2) (fun hn_ => (af2 (Kd.N_lt (by (with_reducible repeat (first | apply an1 | apply an2 | apply an3)); exact z4.out)) k_ hn_)), Or.elim hk_ (fun hs_ => hs_.1.1.1.1.2.1) (fun hn_ => (af1 (g := zA) (o := .cells #[.int .i64 a0_0, .int .i64 a0_1, .slice A0_2 l0_2.length c0_2] 24 (0, 0)) (by (with_reducible repeat (first | apply aq1 | apply aq2 | apply aq3)); exact zC.out) k_ hn_)), Or.elim hk_ (fun hs_ => hs_.1.1.1.1.2.2.1) (fun hn_ => (af1 (g := zB) (o := .cells #[.int .i64 a1_0, .int .i64 a1_1, .slice A1_2 l1_2.length c1_2] 24 (0, 0)) (by (with_reducible repeat (first | apply aq1 | apply aq2 | apply aq3)); exact zD.out) k_ hn_)), Or.elim hk_ (fun hs_ => hs_.1.1.1.1.2.2.2.1) (fun hn_ => (af1 (g := zE) (o := .cells #[.int .i64 zQ, .int .i64 zR, .slice zw zL.length zx] 29 (0, 0)) (by (with_reducible repeat (first | apply aq1 | apply aq2 | apply aq3)); exact zG.out) k_ hn_)), Or.elim hk_ (fun hs_ => hs_.1.1.1.1.2.2.2.2) (fun hn_ => (af1 (g := zF) (o := .cells #[.int .i64 zm, .int .i64 zo, .slice zq zg.length zr] 29 (0, 0)) (by (with_reducible repeat (first | apply aq1 | apply aq2 | apply aq3)); exact zH.out) k_ hn_))⟩)) (below_size (by repeat (first | (with_reducible first | exact HB.out | apply ab1 | apply ab2 | apply ab3 | refine ab4 ?_ zJ.out | refine ab4 ?_ zK.out | refine ab4 ?_ zU.out | refine ab4 ?_ zV.out) | exact HB.out))))
        have zs := am_ (aq4 (g := zA) (o := .cells #[.int .i64 a0_0, .int .i64 a0_1, .slice A0_2 l0_2.length c0_2] 24 (0, 0)) (by (with_reducible repeat (first | apply aq1 | apply aq2 | apply aq3)); exact zC.out) hb)
        have zu := am_ (aq4 (g := zB) (o := .cells #[.int .i64 a1_0, .int .i64 a1_1, .slice A1_2 l1_2.length c1_2] 24 (0, 0)) (by (with_reducible repeat (first | apply aq1 | apply aq2 | apply aq3)); exact zD.out) hb)
        have zy := am_ (aq4 (g := zE) (o := .cells #[.int .i64 zQ, .int .i64 zR, .slice zw zL.length zx] 29 (0, 0)) (by (with_reducible repeat (first | apply aq1 | apply aq2 | apply aq3)); exact zG.out) hb)
        have zh := am_ (aq4 (g := zF) (o := .cells #[.int .i64 zm, .int .i64 zo, .slice zq zg.length zr] 29 (0, 0)) (by (with_reducible repeat (first | apply aq1 | apply aq2 | apply aq3)); exact zH.out) hb)
        have zp := am_ (ab5 (by repeat (first | (with_reducible first | exact HB.out | apply ab1 | apply ab2 | apply ab3 | refine ab4 ?_ zJ.out | refine ab4 ?_ zK.out | refine ab4 ?_ zU.out | refine ab4 ?_ zV.out) | exact HB.out)) hb)
        clear zI
        clear zT
        clear zl
        clear zt
        clear zz
        clear z4
        clear zC
        clear zD
        clear zG
        clear zH
        clear HB
        have zI := zd
        have zT := ze
        have zl := zf
        have zt := zi
        have zz := zj
        have z4 := zk
        have xC := zn
        have zC := zs
        have zD := zu
        have zG := zy
        have zH := zh
        have HB := zp
        clear zd ze zf zi zj zk zn zs zu zy zh zp
        (try clear hb)
        (try clear hb2)
        (try clear hk)
        (try clear hi)
        (try clear ho0)
        obtain ⟨Ao70, co70, eo70⟩ := Kd.N_slice xC.out
        (first | subst eo70 | (injection eo70 with f1_ f2_ f3_; have f4_ := f1_.symm; have f5_ := f3_.symm; clear f1_ f2_ f3_; subst f4_; subst f5_))
        refine hK.out _ _ ⟨(aq7 zG.out 0).trans rfl, (aq7 zG.out 1).trans rfl, (aq7 zG.out 2).trans rfl, (aq7 zH.out 0).trans rfl, (aq7 zH.out 1).trans rfl, (aq7 zH.out 2).trans rfl⟩ (fun hHeld => ?_)
        clear hK K
        refine norm_ (a' := ?_) ?_ ?_
        rotate_left
        ·show Act.put _ (some 57) _ = _
         simp only [Act.put, List.setIfInBounds_toArray, List.set_cons_zero, List.set_cons_succ, i64_w, i32_w, u8_w, u32_w]
         rfl
        refine one_ (i := 27) (N := some 60) #[true, true, true, true, true, true, true, true, true, true, true, true, true, true, true, true, true, true, true, true, true, true, true, true, true, true, true, true, true, false, false, false, false, false, false, false, false, false, false, false] rfl rfl (one_of HT_.out (by kernel_rfl)) (by decide) (fun K hK => ?_)
        refine goes_ Tryd.func22 (by kernel_rfl) rfl #[.agg #[.int .i64 t247, .int .i64 t248, .slice Ao70 xi.length co70], .int .i64 zS, .agg #[.int .i64 zm, .int .i64 zo, .slice zq zg.length zr]] (by rfl) rfl rfl (by (try simp only [List.map_toArray, List.map_cons, List.map_nil]); first | done | rfl | (simp only [List.length_drop, List.length_take]; rfl)) ?_
        with_reducible refine (term_Subst.calls zc t247 t248 (fun k_ => (some k_ ≠ (.slice zq zg.length zr : Value).ownBlock ∧ (some k_ ≠ (.slice xK xF.length xL : Value).ownBlock ∧ (some k_ ≠ (.slice xQ xN.length xR : Value).ownBlock ∧ (some k_ ≠ (.slice xe xO.length xf : Value).ownBlock ∧ (some k_ ≠ (.slice xg xP.length xh : Value).ownBlock ∧ (k_ ≠ zA ∧ (k_ ≠ zB ∧ (k_ ≠ zE ∧ k_ ≠ zF))))))))) _ _ xi zS zm zo (fun k_ => ((((((some k_ ≠ (.slice zw zL.length zx : Value).ownBlock ∧ (k_ ≠ zA ∧ (k_ ≠ zB ∧ (k_ ≠ zE ∧ k_ ≠ zF)))) ∧ some k_ ≠ (.slice xK xF.length xL : Value).ownBlock) ∧ some k_ ≠ (.slice xQ xN.length xR : Value).ownBlock) ∧ some k_ ≠ (.slice xe xO.length xf : Value).ownBlock) ∧ some k_ ≠ (.slice xg xP.length xh : Value).ownBlock) ∧ some k_ ≠ (.slice Ao70 xi.length co70 : Value).ownBlock)) _ _ zg t252 t253 xk _ ?side1 ?side2 A38.out).mono ?_
        (case side1 => exact Kd.N_V (xC.out))
        (case side2 => exact Kd.N_V (zT.out))
        rintro e w71 ⟨v255, rfl, ho0, hb⟩
        refine ⟨_, rfl, ?_⟩
        have zd := am_ (an4 (by (with_reducible repeat (first | apply an1 | apply an2 | apply an3)); exact zI.out) (by first | exact Kd.N_base ho0 | exact Kd.R_base ho0) hb)
        have ze := am_ (an4 (by (with_reducible repeat (first | apply an1 | apply an2 | apply an3)); exact zT.out) (by first | exact Kd.N_base ho0 | exact Kd.R_base ho0) hb)
        have zf := am_ (an4 (by (with_reducible repeat (first | apply an1 | apply an2 | apply an3)); exact zl.out) (by first | exact Kd.N_base ho0 | exact Kd.R_base ho0) hb)
        have zi := am_ (an4 (by (with_reducible repeat (first | apply an1 | apply an2 | apply an3)); exact zt.out) (by first | exact Kd.N_base ho0 | exact Kd.R_base ho0) hb)
        have zj := am_ (an4 (by (with_reducible repeat (first | apply an1 | apply an2 | apply an3)); exact zz.out) (by first | exact Kd.N_base ho0 | exact Kd.R_base ho0) hb)
        have zk := am_ (an4 (by (with_reducible repeat (first | apply an1 | apply an2 | apply an3)); exact z4.out) (by first | exact Kd.N_base ho0 | exact Kd.R_base ho0) hb)
        have zn := am_ (an4 (by (with_reducible repeat (first | apply an1 | apply an2 | apply an3)); exact xC.out) (by first | exact Kd.N_base ho0 | exact Kd.R_base ho0) hb)
        have zs := am_ (Kd.N_lower (an5 (ok' := fun k_ => some k_ ≠ (.slice xK xF.length xL : Value).ownBlock ∧ some k_ ≠ (.slice xQ xN.length xR : Value).ownBlock ∧ some k_ ≠ (.slice xe xO.length xf : Value).ownBlock ∧ some k_ ≠ (.slice xg xP.length xh : Value).ownBlock ∧ k_ ≠ zA ∧ k_ ≠ zB ∧ k_ ≠ zE ∧ k_ ≠ zF) ho0 (fun k_ hk_ => ⟨Or.elim hk_ (fun hs_ => Or.elim hs_ (fun hs_ => hs_.2.1) (fun hs_ => hs_.1.1.1.1.2)) (fun hn_ => (af2 (Kd.N_lt (by (with_reducible repeat (first | apply an1 | apply an2 | apply an3)); exact zl.out)) k_ hn_)), Or.elim hk_ (fun hs_ => Or.elim hs_ (fun hs_ => hs_.2.2.1) (fun hs_ => hs_.1.1.1.2)) (fun hn_ => (af2 (Kd.N_lt (by (with_reducible repeat (first | apply an1 | apply an2 | apply an3)); exact zt.out)) k_ hn_)), Or.elim hk_ (fun hs_ => Or.elim hs_ (fun hs_ => hs_.2.2.2.1) (fun hs_ => hs_.1.1.2)) (fun hn_ => (af2 (Kd.N_lt (by (with_reducible repeat (first | apply an1 | apply an2 | apply an3)); exact zz.out)) k_ hn_)), Or.elim hk_ (fun hs_ => Or.elim hs_ (fun hs_ => hs_.2.2.2.2.1) (fun hs_ => hs_.1.2)) (fun hn_ => (af2 (Kd.N_lt (by (with_reducible repeat (first | apply an1 | apply an2 | apply an3)); exact z4.out)) k_ hn_)), Or.elim hk_ (fun hs_ => Or.elim hs_ (fun hs_ => hs_.2.2.2.2.2.1) (fun hs_ => hs_.1.1.1.1.1.2.1)) (fun hn_ => (af1 (g := zA) (o := .cells #[.int .i64 a0_0, .int .i64 a0_1, .slice A0_2 l0_2.length c0_2] 24 (0, 0)) (by (with_reducible repeat (first | apply aq1 | apply aq2 | apply aq3)); exact zC.out) k_ hn_)), Or.elim hk_ (fun hs_ => Or.elim hs_ (fun hs_ => hs_.2.2.2.2.2.2.1) (fun hs_ => hs_.1.1.1.1.1.2.2.1)) (fun hn_ => (af1 (g := zB) (o := .cells #[.int .i64 a1_0, .int .i64 a1_1, .slice A1_2 l1_2.length c1_2] 24 (0, 0)) (by (with_reducible repeat (first | apply aq1 | apply aq2 | apply aq3)); exact zD.out) k_ hn_)), Or.elim hk_ (fun hs_ => Or.elim hs_ (fun hs_ => hs_.2.2.2.2.2.2.2.1) (fun hs_ => hs_.1.1.1.1.1.2.2.2.1)) (fun hn_ => (af1 (g := zE) (o := .cells #[.int .i64 zQ, .int .i64 zR, .slice zw zL.length zx] 29 (0, 0)) (by (with_reducible repeat (first | apply aq1 | apply aq2 | apply aq3)); exact zG.out) k_ hn_)), Or.elim hk_ (fun hs_ => Or.elim hs_ (fun hs_ => hs_.2.2.2.2.2.2.2.2) (fun hs_ => hs_.1.1.1.1.1.2.2.2.2)) (fun hn_ => (af1 (g := zF) (o := .cells #[.int .i64 zm, .int .i64 zo, .slice zq zg.length zr] 29 (0, 0)) (by (with_reducible repeat (first | apply aq1 | apply aq2 | apply aq3)); exact zH.out) k_ hn_))⟩)) (below_size (by repeat (first | (with_reducible first | exact HB.out | apply ab1 | apply ab2 | apply ab3 | refine ab4 ?_ zJ.out | refine ab4 ?_ zK.out | refine ab4 ?_ zU.out | refine ab4 ?_ zV.out) | exact HB.out))))
        have zu := am_ (aq4 (g := zA) (o := .cells #[.int .i64 a0_0, .int .i64 a0_1, .slice A0_2 l0_2.length c0_2] 24 (0, 0)) (by (with_reducible repeat (first | apply aq1 | apply aq2 | apply aq3)); exact zC.out) hb)
        have zy := am_ (aq4 (g := zB) (o := .cells #[.int .i64 a1_0, .int .i64 a1_1, .slice A1_2 l1_2.length c1_2] 24 (0, 0)) (by (with_reducible repeat (first | apply aq1 | apply aq2 | apply aq3)); exact zD.out) hb)
        have zh := am_ (aq4 (g := zE) (o := .cells #[.int .i64 zQ, .int .i64 zR, .slice zw zL.length zx] 29 (0, 0)) (by (with_reducible repeat (first | apply aq1 | apply aq2 | apply aq3)); exact zG.out) hb)
        have zp := am_ (aq4 (g := zF) (o := .cells #[.int .i64 zm, .int .i64 zo, .slice zq zg.length zr] 29 (0, 0)) (by (with_reducible repeat (first | apply aq1 | apply aq2 | apply aq3)); exact zH.out) hb)
        have z1 := am_ (ab5 (by repeat (first | (with_reducible first | exact HB.out | apply ab1 | apply ab2 | apply ab3 | refine ab4 ?_ zJ.out | refine ab4 ?_ zK.out | refine ab4 ?_ zU.out | refine ab4 ?_ zV.out) | exact HB.out)) hb)
        clear zI
        clear zT
        clear zl
        clear zt
        clear zz
        clear z4
        clear xC
        clear zC
        clear zD
        clear zG
        clear zH
        clear HB
        have zI := zd
        have zT := ze
        have zl := zf
        have zt := zi
        have zz := zj
        have z4 := zk
        have xC := zn
        have xE := zs
        have zC := zu
        have zD := zy
        have zG := zh
        have zH := zp
        have HB := z1
        clear zd ze zf zi zj zk zn zs zu zy zh zp z1
        (try clear hb)
        (try clear hb2)
        (try clear hk)
        (try clear hi)
        (try clear ho0)
        obtain ⟨Ao72, co72, eo72⟩ := Kd.N_slice xE.out
        (first | subst eo72 | (injection eo72 with f1_ f2_ f3_; have f4_ := f1_.symm; have f5_ := f3_.symm; clear f1_ f2_ f3_; subst f4_; subst f5_))
        refine hK.out _ _ ⟨(aq7 zG.out 0).trans rfl, (aq7 zG.out 1).trans rfl, (aq7 zG.out 2).trans rfl, (aq7 zH.out 0).trans rfl, (aq7 zH.out 1).trans rfl, (aq7 zH.out 2).trans rfl⟩ (fun hHeld => ?_)
        clear hK K
        refine norm_ (a' := ?_) ?_ ?_
        rotate_left
        ·show Act.put _ (some 60) _ = _
         simp only [Act.put, List.setIfInBounds_toArray, List.set_cons_zero, List.set_cons_succ, i64_w, i32_w, u8_w, u32_w]
         rfl
        refine one_ (i := 29) (N := some 62) #[true, true, true, true, true, true, true, true, true, true, true, true, true, true, true, true, true, true, true, true, true, true, true, true, true, true, true, true, true, true, false, false, false, false, false, false, false, false, false, false] rfl rfl (one_of HT_.out (by kernel_rfl)) (by decide) (fun K hK => ?_)
        refine goes_ Tryd.func18 (by kernel_rfl) rfl #[.agg #[.int .i64 t252, .int .i64 t253, .slice Ao72 xk.length co72], .agg #[.int .i64 zQ, .int .i64 zR, .slice zw zL.length zx]] (by rfl) rfl rfl (by (try simp only [List.map_toArray, List.map_cons, List.map_nil]); first | done | rfl | (simp only [List.length_drop, List.length_take]; rfl)) ?_
        with_reducible refine (thyrsusref4_Same.calls zc t252 t253 _ _ xk zQ zR _ _ zL true _ ?side1 ?side2 ?side3 ?side4 A39.out).mono ?_
        (case side1 => repeat (first | exact (Kd.N_reads' xE.out).2.2 | (with_reducible refine ac2 ?_ _) | (with_reducible refine ac3 ?_ _) | (with_reducible refine Kd.C_drew ?_)))
        (case side2 => exact (Kd.N_reads' xE.out).2.1)
        (case side3 => repeat (first | exact (Kd.N_reads' zI.out).2.2 | (with_reducible refine ac2 ?_ _) | (with_reducible refine ac3 ?_ _) | (with_reducible refine Kd.C_drew ?_)))
        (case side4 => exact (Kd.N_reads' zI.out).2.1)
        rintro e w73 ⟨rfl, hb⟩
        refine ⟨_, rfl, ?_⟩
        have zd := am_ (Kd.N_below (by (with_reducible repeat (first | apply an1 | apply an2 | apply an3)); exact zI.out) hb)
        have ze := am_ (Kd.N_below (by (with_reducible repeat (first | apply an1 | apply an2 | apply an3)); exact zT.out) hb)
        have zf := am_ (Kd.N_below (by (with_reducible repeat (first | apply an1 | apply an2 | apply an3)); exact zl.out) hb)
        have zi := am_ (Kd.N_below (by (with_reducible repeat (first | apply an1 | apply an2 | apply an3)); exact zt.out) hb)
        have zj := am_ (Kd.N_below (by (with_reducible repeat (first | apply an1 | apply an2 | apply an3)); exact zz.out) hb)
        have zk := am_ (Kd.N_below (by (with_reducible repeat (first | apply an1 | apply an2 | apply an3)); exact z4.out) hb)
        have zn := am_ (Kd.N_below (by (with_reducible repeat (first | apply an1 | apply an2 | apply an3)); exact xC.out) hb)
        have zs := am_ (Kd.N_below (by (with_reducible repeat (first | apply an1 | apply an2 | apply an3)); exact xE.out) hb)
        have zu := am_ (aq4 (g := zA) (o := .cells #[.int .i64 a0_0, .int .i64 a0_1, .slice A0_2 l0_2.length c0_2] 24 (0, 0)) (by (with_reducible repeat (first | apply aq1 | apply aq2 | apply aq3)); exact zC.out) hb)
        have zy := am_ (aq4 (g := zB) (o := .cells #[.int .i64 a1_0, .int .i64 a1_1, .slice A1_2 l1_2.length c1_2] 24 (0, 0)) (by (with_reducible repeat (first | apply aq1 | apply aq2 | apply aq3)); exact zD.out) hb)
        have zh := am_ (aq4 (g := zE) (o := .cells #[.int .i64 zQ, .int .i64 zR, .slice zw zL.length zx] 29 (0, 0)) (by (with_reducible repeat (first | apply aq1 | apply aq2 | apply aq3)); exact zG.out) hb)
        have zp := am_ (aq4 (g := zF) (o := .cells #[.int .i64 zm, .int .i64 zo, .slice zq zg.length zr] 29 (0, 0)) (by (with_reducible repeat (first | apply aq1 | apply aq2 | apply aq3)); exact zH.out) hb)
        have z1 := am_ (ab5 (by repeat (first | (with_reducible first | exact HB.out | apply ab1 | apply ab2 | apply ab3 | refine ab4 ?_ zJ.out | refine ab4 ?_ zK.out | refine ab4 ?_ zU.out | refine ab4 ?_ zV.out) | exact HB.out)) hb)
        clear zI
        clear zT
        clear zl
        clear zt
        clear zz
        clear z4
        clear xC
        clear xE
        clear zC
        clear zD
        clear zG
        clear zH
        clear HB
        have zI := zd
        have zT := ze
        have zl := zf
        have zt := zi
        have zz := zj
        have z4 := zk
        have xC := zn
        have xE := zs
        have zC := zu
        have zD := zy
        have zG := zh
        have zH := zp
        have HB := z1
        clear zd ze zf zi zj zk zn zs zu zy zh zp z1
        (try clear hb)
        (try clear hb2)
        (try clear hk)
        (try clear hi)
        refine hK.out _ _ ⟨(aq7 zG.out 0).trans rfl, (aq7 zG.out 1).trans rfl, (aq7 zG.out 2).trans rfl, (aq7 zH.out 0).trans rfl, (aq7 zH.out 1).trans rfl, (aq7 zH.out 2).trans rfl⟩ (fun hHeld => ?_)
        clear hK K
        refine norm_ (a' := ?_) ?_ ?_
        rotate_left
        ·show Act.put _ (some 62) _ = _
         simp only [Act.put, List.setIfInBounds_toArray, List.set_cons_zero, List.set_cons_succ, i64_w, i32_w, u8_w, u32_w]
         rfl
        refine pure_ (i := 30) (N := some 63) (v := ?_) (a' := ?_) #[true, true, true, true, true, true, true, true, true, true, true, true, true, true, true, true, true, true, true, true, true, true, true, true, true, true, true, true, true, true, true, false, false, false, false, false, false, false, false, false] rfl rfl (any_of HT_.out (by kernel_rfl)) (fun _ _ _ h => h) (Or.inl ⟨by rfl, ?_⟩) ?_ ?_
        rotate_left
        ·intro w'
         go_simp
         with_reducible rfl
        rotate_left
        ·simp only [Act.put, List.setIfInBounds_toArray, List.set_cons_zero, List.set_cons_succ, i64_w, i32_w, u8_w, u32_w]
         rfl
        refine pure_ (i := 31) (N := some 64) (v := ?_) (a' := ?_) #[true, true, true, true, true, true, true, true, true, true, true, true, true, true, true, true, true, true, true, true, true, true, true, true, true, true, true, true, true, true, true, true, false, false, false, false, false, false, false, false] rfl rfl (any_of HT_.out (by kernel_rfl)) (fun _ _ _ h => h) (Or.inl ⟨by rfl, ?_⟩) ?_ ?_
        rotate_left
        ·intro w'
         go_simp
         with_reducible rfl
        rotate_left
        ·simp only [Act.put, List.setIfInBounds_toArray, List.set_cons_zero, List.set_cons_succ, i64_w, i32_w, u8_w, u32_w]
         rfl
        refine pure_ (i := 33) (N := some 66) (v := ?_) (a' := ?_) #[true, true, true, true, true, true, true, true, true, true, true, true, true, true, true, true, true, true, true, true, true, true, true, true, true, true, true, true, true, true, true, true, false, true, false, false, false, false, false, false] rfl rfl (any_of HT_.out (by kernel_rfl)) (fun _ _ _ h => h) (Or.inl ⟨by rfl, ?_⟩) ?_ ?_
        rotate_left
        ·intro w'
         go_simp
         with_reducible rfl
        rotate_left
        ·simp only [Act.put, List.setIfInBounds_toArray, List.set_cons_zero, List.set_cons_succ, i64_w, i32_w, u8_w, u32_w]
         rfl
        refine pure_ (i := 35) (N := some 68) (v := ?_) (a' := ?_) #[true, true, true, true, true, true, true, true, true, true, true, true, true, true, true, true, true, true, true, true, true, true, true, true, true, true, true, true, true, true, true, true, false, true, false, true, false, false, false, false] rfl rfl (any_of HT_.out (by kernel_rfl)) (fun _ _ _ h => h) (Or.inl ⟨by rfl, ?_⟩) ?_ ?_
        rotate_left
        ·intro w'
         go_simp
         with_reducible rfl
        rotate_left
        ·simp only [Act.put, List.setIfInBounds_toArray, List.set_cons_zero, List.set_cons_succ, i64_w, i32_w, u8_w, u32_w]
         rfl
        refine take_ (i := 32) (N := some 65) (v := ?_) (a' := ?_) #[true, true, true, true, true, true, true, true, true, true, true, true, true, true, true, true, true, true, true, true, true, true, true, true, true, true, true, true, true, true, true, true, true, true, false, true, false, false, false, false] rfl rfl (take_ofW HT_.out HW_.out (by kernel_rfl)) (fun _ _ _ h => h) (Or.inl ⟨by rfl, ?_⟩) hHeld ?_ ?_
        rotate_left
        ·rintro w' ⟨s0, s1, s2, s3, s4, s5⟩
         go_simp
         with_reducible rfl
        rotate_left
        ·simp only [Act.put, List.setIfInBounds_toArray, List.set_cons_zero, List.set_cons_succ, i64_w, i32_w, u8_w, u32_w]
         rfl
        refine one_ (i := 34) (N := some 67) #[true, true, true, true, true, true, true, true, true, true, true, true, true, true, true, true, true, true, true, true, true, true, true, true, true, true, true, true, true, true, true, true, true, true, true, true, false, false, false, false] rfl rfl (one_of HT_.out (by kernel_rfl)) (by decide) (fun K hK => ?_)
        refine goes_ Tryd.func23 (by kernel_rfl) rfl #[.agg #[.int .i64 zQ, .int .i64 zR, .slice zw zL.length zx], .int .i64 1, .int .i64 zS] (by rfl) rfl rfl (by (try simp only [List.map_toArray, List.map_cons, List.map_nil]); first | done | rfl | (simp only [List.length_drop, List.length_take]; rfl)) ?_
        with_reducible refine (term_Shift.calls zc zQ zR (fun k_ => (((((((some k_ ≠ (.slice zq zg.length zr : Value).ownBlock ∧ (k_ ≠ zA ∧ (k_ ≠ zB ∧ (k_ ≠ zE ∧ k_ ≠ zF)))) ∧ some k_ ≠ (.slice xK xF.length xL : Value).ownBlock) ∧ some k_ ≠ (.slice xQ xN.length xR : Value).ownBlock) ∧ some k_ ≠ (.slice xe xO.length xf : Value).ownBlock) ∧ some k_ ≠ (.slice xg xP.length xh : Value).ownBlock) ∧ some k_ ≠ (.slice Ao70 xi.length co70 : Value).ownBlock) ∧ some k_ ≠ (.slice Ao72 xk.length co72 : Value).ownBlock)) _ _ zL 1 zS t258 t259 t260 _ ?side1 A41.out).mono ?_
        (case side1 => exact Kd.N_V (zI.out))
        rintro e w74 ⟨v261, rfl, ho0, hb⟩
        refine ⟨_, rfl, ?_⟩
        have zd := am_ (an4 (by (with_reducible repeat (first | apply an1 | apply an2 | apply an3)); exact zI.out) (by first | exact Kd.N_base ho0 | exact Kd.R_base ho0) hb)
        have ze := am_ (an4 (by (with_reducible repeat (first | apply an1 | apply an2 | apply an3)); exact zT.out) (by first | exact Kd.N_base ho0 | exact Kd.R_base ho0) hb)
        have zf := am_ (an4 (by (with_reducible repeat (first | apply an1 | apply an2 | apply an3)); exact zl.out) (by first | exact Kd.N_base ho0 | exact Kd.R_base ho0) hb)
        have zi := am_ (an4 (by (with_reducible repeat (first | apply an1 | apply an2 | apply an3)); exact zt.out) (by first | exact Kd.N_base ho0 | exact Kd.R_base ho0) hb)
        have zj := am_ (an4 (by (with_reducible repeat (first | apply an1 | apply an2 | apply an3)); exact zz.out) (by first | exact Kd.N_base ho0 | exact Kd.R_base ho0) hb)
        have zk := am_ (an4 (by (with_reducible repeat (first | apply an1 | apply an2 | apply an3)); exact z4.out) (by first | exact Kd.N_base ho0 | exact Kd.R_base ho0) hb)
        have zn := am_ (an4 (by (with_reducible repeat (first | apply an1 | apply an2 | apply an3)); exact xC.out) (by first | exact Kd.N_base ho0 | exact Kd.R_base ho0) hb)
        have zs := am_ (an4 (by (with_reducible repeat (first | apply an1 | apply an2 | apply an3)); exact xE.out) (by first | exact Kd.N_base ho0 | exact Kd.R_base ho0) hb)
        have zu := am_ (Kd.N_lower (an5 (ok' := fun k_ => some k_ ≠ (.slice zq zg.length zr : Value).ownBlock ∧ some k_ ≠ (.slice xK xF.length xL : Value).ownBlock ∧ some k_ ≠ (.slice xQ xN.length xR : Value).ownBlock ∧ some k_ ≠ (.slice xe xO.length xf : Value).ownBlock ∧ some k_ ≠ (.slice xg xP.length xh : Value).ownBlock ∧ some k_ ≠ (.slice Ao70 xi.length co70 : Value).ownBlock ∧ some k_ ≠ (.slice Ao72 xk.length co72 : Value).ownBlock ∧ k_ ≠ zA ∧ k_ ≠ zB ∧ k_ ≠ zE ∧ k_ ≠ zF) ho0 (fun k_ hk_ => ⟨Or.elim hk_ (fun hs_ => hs_.1.1.1.1.1.1.1) (fun hn_ => (af2 (Kd.N_lt (by (with_reducible repeat (first | apply an1 | apply an2 | apply an3)); exact zT.out)) k_ hn_)), Or.elim hk_ (fun hs_ => hs_.1.1.1.1.1.2) (fun hn_ => (af2 (Kd.N_lt (by (with_reducible repeat (first | apply an1 | apply an2 | apply an3)); exact zl.out)) k_ hn_)), Or.elim hk_ (fun hs_ => hs_.1.1.1.1.2) (fun hn_ => (af2 (Kd.N_lt (by (with_reducible repeat (first | apply an1 | apply an2 | apply an3)); exact zt.out)) k_ hn_)), Or.elim hk_ (fun hs_ => hs_.1.1.1.2) (fun hn_ => (af2 (Kd.N_lt (by (with_reducible repeat (first | apply an1 | apply an2 | apply an3)); exact zz.out)) k_ hn_)), Or.elim hk_ (fun hs_ => hs_.1.1.2) (fun hn_ => (af2 (Kd.N_lt (by (with_reducible repeat (first | apply an1 | apply an2 | apply an3)); exact z4.out)) k_ hn_)), Or.elim hk_ (fun hs_ => hs_.1.2) (fun hn_ => (af2 (Kd.N_lt (by (with_reducible repeat (first | apply an1 | apply an2 | apply an3)); exact xC.out)) k_ hn_)), Or.elim hk_ (fun hs_ => hs_.2) (fun hn_ => (af2 (Kd.N_lt (by (with_reducible repeat (first | apply an1 | apply an2 | apply an3)); exact xE.out)) k_ hn_)), Or.elim hk_ (fun hs_ => hs_.1.1.1.1.1.1.2.1) (fun hn_ => (af1 (g := zA) (o := .cells #[.int .i64 a0_0, .int .i64 a0_1, .slice A0_2 l0_2.length c0_2] 24 (0, 0)) (by (with_reducible repeat (first | apply aq1 | apply aq2 | apply aq3)); exact zC.out) k_ hn_)), Or.elim hk_ (fun hs_ => hs_.1.1.1.1.1.1.2.2.1) (fun hn_ => (af1 (g := zB) (o := .cells #[.int .i64 a1_0, .int .i64 a1_1, .slice A1_2 l1_2.length c1_2] 24 (0, 0)) (by (with_reducible repeat (first | apply aq1 | apply aq2 | apply aq3)); exact zD.out) k_ hn_)), Or.elim hk_ (fun hs_ => hs_.1.1.1.1.1.1.2.2.2.1) (fun hn_ => (af1 (g := zE) (o := .cells #[.int .i64 zQ, .int .i64 zR, .slice zw zL.length zx] 29 (0, 0)) (by (with_reducible repeat (first | apply aq1 | apply aq2 | apply aq3)); exact zG.out) k_ hn_)), Or.elim hk_ (fun hs_ => hs_.1.1.1.1.1.1.2.2.2.2) (fun hn_ => (af1 (g := zF) (o := .cells #[.int .i64 zm, .int .i64 zo, .slice zq zg.length zr] 29 (0, 0)) (by (with_reducible repeat (first | apply aq1 | apply aq2 | apply aq3)); exact zH.out) k_ hn_))⟩)) (below_size (by repeat (first | (with_reducible first | exact HB.out | apply ab1 | apply ab2 | apply ab3 | refine ab4 ?_ zJ.out | refine ab4 ?_ zK.out | refine ab4 ?_ zU.out | refine ab4 ?_ zV.out) | exact HB.out))))
        have zy := am_ (aq4 (g := zA) (o := .cells #[.int .i64 a0_0, .int .i64 a0_1, .slice A0_2 l0_2.length c0_2] 24 (0, 0)) (by (with_reducible repeat (first | apply aq1 | apply aq2 | apply aq3)); exact zC.out) hb)
        have zh := am_ (aq4 (g := zB) (o := .cells #[.int .i64 a1_0, .int .i64 a1_1, .slice A1_2 l1_2.length c1_2] 24 (0, 0)) (by (with_reducible repeat (first | apply aq1 | apply aq2 | apply aq3)); exact zD.out) hb)
        have zp := am_ (aq4 (g := zE) (o := .cells #[.int .i64 zQ, .int .i64 zR, .slice zw zL.length zx] 29 (0, 0)) (by (with_reducible repeat (first | apply aq1 | apply aq2 | apply aq3)); exact zG.out) hb)
        have z1 := am_ (aq4 (g := zF) (o := .cells #[.int .i64 zm, .int .i64 zo, .slice zq zg.length zr] 29 (0, 0)) (by (with_reducible repeat (first | apply aq1 | apply aq2 | apply aq3)); exact zH.out) hb)
        have xA := am_ (ab5 (by repeat (first | (with_reducible first | exact HB.out | apply ab1 | apply ab2 | apply ab3 | refine ab4 ?_ zJ.out | refine ab4 ?_ zK.out | refine ab4 ?_ zU.out | refine ab4 ?_ zV.out) | exact HB.out)) hb)
        clear zI
        clear zT
        clear zl
        clear zt
        clear zz
        clear z4
        clear xC
        clear xE
        clear zC
        clear zD
        clear zG
        clear zH
        clear HB
        have zI := zd
        have zT := ze
        have zl := zf
        have zt := zi
        have zz := zj
        have z4 := zk
        have xC := zn
        have xE := zs
        have xW := zu
        have zC := zy
        have zD := zh
        have zG := zp
        have zH := z1
        have HB := xA
        clear zd ze zf zi zj zk zn zs zu zy zh zp z1 xA
        (try clear hb)
        (try clear hb2)
        (try clear hk)
        (try clear hi)
        (try clear ho0)
        obtain ⟨Ao75, co75, eo75⟩ := Kd.N_slice xW.out
        (first | subst eo75 | (injection eo75 with f1_ f2_ f3_; have f4_ := f1_.symm; have f5_ := f3_.symm; clear f1_ f2_ f3_; subst f4_; subst f5_))
        refine hK.out _ _ ⟨(aq7 zG.out 0).trans rfl, (aq7 zG.out 1).trans rfl, (aq7 zG.out 2).trans rfl, (aq7 zH.out 0).trans rfl, (aq7 zH.out 1).trans rfl, (aq7 zH.out 2).trans rfl⟩ (fun hHeld => ?_)
        clear hK K
        refine norm_ (a' := ?_) ?_ ?_
        rotate_left
        ·show Act.put _ (some 67) _ = _
         simp only [Act.put, List.setIfInBounds_toArray, List.set_cons_zero, List.set_cons_succ, i64_w, i32_w, u8_w, u32_w]
         rfl
        refine one_ (i := 36) (N := some 69) #[true, true, true, true, true, true, true, true, true, true, true, true, true, true, true, true, true, true, true, true, true, true, true, true, true, true, true, true, true, true, true, true, true, true, true, true, true, false, false, false] rfl rfl (one_of HT_.out (by kernel_rfl)) (by decide) (fun K hK => ?_)
        refine goes_ Tryd.func34 (by kernel_rfl) rfl #[.agg #[.int .i64 t258, .int .i64 t259, .slice Ao75 t260.length co75], .int .i64 zS] (by rfl) rfl rfl (by (try simp only [List.map_toArray, List.map_cons, List.map_nil]); first | done | rfl | (simp only [List.length_drop, List.length_take]; rfl)) ?_
        with_reducible refine (term_Free.calls zc t258 t259 _ _ t260 zS z0 _ ?side1 ?side2 A42.out).mono ?_
        (case side1 => repeat (first | exact (Kd.N_reads' xW.out).2.2 | (with_reducible refine ac2 ?_ _) | (with_reducible refine ac3 ?_ _) | (with_reducible refine Kd.C_drew ?_)))
        (case side2 => exact (Kd.N_reads' xW.out).2.1)
        rintro e w76 ⟨rfl, hb⟩
        refine ⟨_, rfl, ?_⟩
        have zd := am_ (Kd.N_below (by (with_reducible repeat (first | apply an1 | apply an2 | apply an3)); exact zI.out) hb)
        have ze := am_ (Kd.N_below (by (with_reducible repeat (first | apply an1 | apply an2 | apply an3)); exact zT.out) hb)
        have zf := am_ (Kd.N_below (by (with_reducible repeat (first | apply an1 | apply an2 | apply an3)); exact zl.out) hb)
        have zi := am_ (Kd.N_below (by (with_reducible repeat (first | apply an1 | apply an2 | apply an3)); exact zt.out) hb)
        have zj := am_ (Kd.N_below (by (with_reducible repeat (first | apply an1 | apply an2 | apply an3)); exact zz.out) hb)
        have zk := am_ (Kd.N_below (by (with_reducible repeat (first | apply an1 | apply an2 | apply an3)); exact z4.out) hb)
        have zn := am_ (Kd.N_below (by (with_reducible repeat (first | apply an1 | apply an2 | apply an3)); exact xC.out) hb)
        have zs := am_ (Kd.N_below (by (with_reducible repeat (first | apply an1 | apply an2 | apply an3)); exact xE.out) hb)
        have zu := am_ (Kd.N_below (by (with_reducible repeat (first | apply an1 | apply an2 | apply an3)); exact xW.out) hb)
        have zy := am_ (aq4 (g := zA) (o := .cells #[.int .i64 a0_0, .int .i64 a0_1, .slice A0_2 l0_2.length c0_2] 24 (0, 0)) (by (with_reducible repeat (first | apply aq1 | apply aq2 | apply aq3)); exact zC.out) hb)
        have zh := am_ (aq4 (g := zB) (o := .cells #[.int .i64 a1_0, .int .i64 a1_1, .slice A1_2 l1_2.length c1_2] 24 (0, 0)) (by (with_reducible repeat (first | apply aq1 | apply aq2 | apply aq3)); exact zD.out) hb)
        have zp := am_ (aq4 (g := zE) (o := .cells #[.int .i64 zQ, .int .i64 zR, .slice zw zL.length zx] 29 (0, 0)) (by (with_reducible repeat (first | apply aq1 | apply aq2 | apply aq3)); exact zG.out) hb)
        have z1 := am_ (aq4 (g := zF) (o := .cells #[.int .i64 zm, .int .i64 zo, .slice zq zg.length zr] 29 (0, 0)) (by (with_reducible repeat (first | apply aq1 | apply aq2 | apply aq3)); exact zH.out) hb)
        have xA := am_ (ab5 (by repeat (first | (with_reducible first | exact HB.out | apply ab1 | apply ab2 | apply ab3 | refine ab4 ?_ zJ.out | refine ab4 ?_ zK.out | refine ab4 ?_ zU.out | refine ab4 ?_ zV.out) | exact HB.out)) hb)
        clear zI
        clear zT
        clear zl
        clear zt
        clear zz
        clear z4
        clear xC
        clear xE
        clear xW
        clear zC
        clear zD
        clear zG
        clear zH
        clear HB
        have zI := zd
        have zT := ze
        have zl := zf
        have zt := zi
        have zz := zj
        have z4 := zk
        have xC := zn
        have xE := zs
        have xW := zu
        have zC := zy
        have zD := zh
        have zG := zp
        have zH := z1
        have HB := xA
        clear zd ze zf zi zj zk zn zs zu zy zh zp z1 xA
        (try clear hb)
        (try clear hb2)
        (try clear hk)
        (try clear hi)
        refine hK.out _ _ ⟨(aq7 zG.out 0).trans rfl, (aq7 zG.out 1).trans rfl, (aq7 zG.out 2).trans rfl, (aq7 zH.out 0).trans rfl, (aq7 zH.out 1).trans rfl, (aq7 zH.out 2).trans rfl⟩ (fun hHeld => ?_)
        clear hK K
        refine norm_ (a' := ?_) ?_ ?_
        rotate_left
        ·show Act.put _ (some 69) _ = _
         simp only [Act.put, List.setIfInBounds_toArray, List.set_cons_zero, List.set_cons_succ, i64_w, i32_w, u8_w, u32_w]
         rfl
        refine pure_ (i := 37) (N := some 70) (v := ?_) (a' := ?_) #[true, true, true, true, true, true, true, true, true, true, true, true, true, true, true, true, true, true, true, true, true, true, true, true, true, true, true, true, true, true, true, true, true, true, true, true, true, true, false, false] rfl rfl (any_of HT_.out (by kernel_rfl)) (fun _ _ _ h => h) (Or.inl ⟨by rfl, ?_⟩) ?_ ?_
        rotate_left
        ·intro w'
         go_simp
         with_reducible rfl
        rotate_left
        ·simp only [Act.put, List.setIfInBounds_toArray, List.set_cons_zero, List.set_cons_succ, i64_w, i32_w, u8_w, u32_w]
         rfl
        refine pure_ (i := 38) (N := some 71) (v := ?_) (a' := ?_) #[true, true, true, true, true, true, true, true, true, true, true, true, true, true, true, true, true, true, true, true, true, true, true, true, true, true, true, true, true, true, true, true, true, true, true, true, true, true, true, false] rfl rfl (any_of HT_.out (by kernel_rfl)) (fun _ _ _ h => h) (Or.inl ⟨by rfl, ?_⟩) ?_ ?_
        rotate_left
        ·intro w'
         go_simp
         with_reducible rfl
        rotate_left
        ·simp only [Act.put, List.setIfInBounds_toArray, List.set_cons_zero, List.set_cons_succ, i64_w, i32_w, u8_w, u32_w]
         rfl
        refine pure_ (i := 39) (N := some 10) (v := ?_) (a' := ?_) #[true, true, true, true, true, true, true, true, true, true, true, true, true, true, true, true, true, true, true, true, true, true, true, true, true, true, true, true, true, true, true, true, true, true, true, true, true, true, true, true] rfl rfl (any_of HT_.out (by kernel_rfl)) (fun _ _ _ h => h) (Or.inl ⟨by rfl, ?_⟩) ?_ ?_
        rotate_left
        ·intro w'
         go_simp
         with_reducible rfl
        rotate_left
        ·simp only [Act.put, List.setIfInBounds_toArray, List.set_cons_zero, List.set_cons_succ, i64_w, i32_w, u8_w, u32_w]
         rfl
        refine done_ (done_of HT_.out (by kernel_rfl)) ?_
        try go_wp2
        go_ret
        exact ⟨by first | rfl | (simp [errW_none, errW_some] <;> rfl) | (simp [*, errW_none, errW_some] <;> rfl), by repeat (first | (with_reducible first | exact HB.out | apply ab1 | apply ab2 | apply ab3 | refine ab4 ?_ zJ.out | refine ab4 ?_ zK.out | refine ab4 ?_ zU.out | refine ab4 ?_ zV.out) | exact HB.out)⟩
       ·replace c40 := Bool.eq_false_iff.mpr c40
        subst c40
        have H1 : (none) = some r := by rw [if_neg (show ¬ (false = true) by decide)] at H; exact H
        clear H
        have H := H1
        clear H1
        exact absurd H (by simp)
      ·replace c36 := Bool.eq_false_iff.mpr c36
       subst c36
       have H1 : (none) = some r := by rw [if_neg (show ¬ (false = true) by decide)] at H; exact H
       clear H
       have H := H1
       clear H1
       exact absurd H (by simp)
     ·replace c31 := Bool.eq_false_iff.mpr c31
      subst c31
      have H1 : (none) = some r := by rw [if_neg (show ¬ (false = true) by decide)] at H; exact H
      clear H
      have H := H1
      clear H1
      exact absurd H (by simp)
 ·replace c7 := Bool.eq_false_iff.mpr c7
  subst c7
  have H1 : (none) = some r := by rw [if_neg (show ¬ (false = true) by decide)] at H; exact H
  clear H
  have H := H1
  clear H1
  exact absurd H (by simp)

end Go.Proofs.YtcchfblekaaalaaDoor.P
