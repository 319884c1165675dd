-- Printed by mkprint.py (a program of this session, over the kit's print). Lean checks it.
import Derived.Test.YtcchfblekaaalaaDoorMPx0
import Derived.Test.YtcchfblekaaalaaDoorMQx1
import Derived.Test.YtcchfblekaaalaaDoorMQx15
import Derived.Test.YtcchfblekaaalaaDoorMPx1
namespace Go.Proofs.YtcchfblekaaalaaDoor.P
open Go.RowKit Go.Proofs.YtcchfblekaaalaaDoorW.PrintWords Go.Proofs.YtcchfblekaaalaaDoorW.PrintLast Go.Proofs.YtcchfblekaaalaaDoorW.PrintMore
attribute [local go_sem] max2_int min2_int max_two min_two max_three min_three max_four min_four   -- for this text's walks alone
set_option linter.unusedVariables false
set_option linter.unusedSimpArgs false
theorem zaa {p : Prop} (h : p := by repeat (first | (with_reducible first | exact HB.out | apply below_alloc | apply pw_below_drewN | apply below_drew1) | exact HB.out)) : p := h
theorem zab {p : Prop} (h : p := by repeat (first | (with_reducible first | exact HB.out | apply below_alloc | apply pw_below_drewN | apply below_drew1 | refine below_set ?_ GE509.out | refine below_set ?_ GE510.out | refine below_set ?_ GE511.out | refine below_set ?_ GE517.out) | exact HB.out)) : p := h
theorem zac {p : Prop} (h : p := by repeat (first | (with_reducible first | exact HB.out | apply below_alloc | apply pw_below_drewN | apply below_drew1 | refine below_set ?_ GE509.out | refine below_set ?_ GE510.out | refine below_set ?_ GE511.out) | exact HB.out)) : p := h
theorem zad {p : Prop} (h : p := by repeat (first | (with_reducible first | exact HB.out | apply below_alloc | apply pw_below_drewN | apply below_drew1 | refine below_set ?_ GE509.out | refine below_set ?_ GE510.out) | exact HB.out)) : p := h
theorem zae {p : Prop} (h : p := by repeat (first | (with_reducible first | exact HB.out | apply below_alloc | apply pw_below_drewN | apply below_drew1 | refine below_set ?_ GE509.out) | exact HB.out)) : p := h
theorem zaf {p : Prop} (h : p := by (with_reducible repeat (first | apply Kd.V_alloc | apply Kd.V_drewN | apply Kd.V_drew)); exact HO0_2.out) : p := h
theorem zag {p : Prop} (h : p := by rw [hg]; exact Nat.ne_of_lt (blk_lt (g := gb509) (o := .cells #[.int .i64 a0_0, .int .i64 a0_1, .slice A0_2 l0_2.length c0_2] 29 (0, 0)) (bk_ BK509.out))) : p := h
theorem zah {p : Prop} (h : p := by rw [hg]; exact Nat.ne_of_gt (blk_lt (g := gb509) (o := .cells #[.int .i64 a0_0, .int .i64 a0_1, .slice A0_2 l0_2.length c0_2] 29 (0, 0)) (bk_ BK509.out))) : p := h
theorem zai {p : Prop} (h : p := by repeat (first | (with_reducible first | exact HB.out | apply below_alloc | apply pw_below_drewN | apply below_drew1 | refine below_set ?_ GE528.out | refine below_set ?_ GE529.out | refine below_set ?_ GE530.out) | exact HB.out)) : p := h
theorem zaj {p : Prop} (h : p := by (try simp only [List.map_toArray, List.map_cons, List.map_nil]); first | done | rfl | (simp only [List.length_drop, List.length_take]; rfl)) : p := h
theorem zak {p : Prop} (h : p := by first | rfl | (simp [errW_none, errW_some] <;> rfl) | (simp [*, errW_none, errW_some] <;> rfl)) : p := h
theorem zal {p : Prop} (h : p := by rw [hg]; exact Nat.ne_of_lt (blk_lt (g := gb510) (o := .cells #[.int .i64 a3_0, .int .i64 a3_1, .slice A3_2 l3_2.length c3_2] 29 (0, 0)) (bk_ BK510.out))) : p := h
theorem zam {p : Prop} (h : p := by rw [hg]; exact Nat.ne_of_gt (blk_lt (g := gb510) (o := .cells #[.int .i64 a3_0, .int .i64 a3_1, .slice A3_2 l3_2.length c3_2] 29 (0, 0)) (bk_ BK510.out))) : p := h
theorem zan {p : Prop} (h : p := by rw [hw]; exact (by refine bk_ ?_; refine blk_far ?_ NB509_511.out _; refine bk_ ?_; refine blk_far ?_ NB509_511.out _; refine bk_ ?_; refine blk_far ?_ NB509_511.out _; exact bk_ BK509.out)) : p := h
theorem zao {p : Prop} (h : p := by rw [hw]; exact (by refine bk_ ?_; refine blk_far ?_ NB510_511.out _; refine bk_ ?_; refine blk_far ?_ NB510_511.out _; refine bk_ ?_; refine blk_far ?_ NB510_511.out _; exact bk_ BK510.out)) : p := h
theorem zap {p : Prop} (h : p := by repeat (first | (with_reducible first | exact HB.out | apply below_alloc | apply pw_below_drewN | apply below_drew1 | refine below_set ?_ GE528.out | refine below_set ?_ GE529.out) | exact HB.out)) : p := h
theorem zaq {p : Prop} (h : p := by repeat (first | (with_reducible first | exact HB.out | apply below_alloc | apply pw_below_drewN | apply below_drew1 | refine below_set ?_ GE528.out) | exact HB.out)) : p := h
theorem zar {p : Prop} (h : p := by (with_reducible repeat (first | apply Kd.N_alloc | apply Kd.N_drewN | apply Kd.N_drew)); exact HO_518002.out) : p := h
theorem zas {p : Prop} (h : p := by kernel_rfl) : p := h
theorem zat {p : Prop} (h : p := by rw [hg]; exact (below_size zaa)) : p := h
theorem zau {p : Prop} (h : p := by rw [hg]; exact (below_size zae)) : p := h
theorem zav {p : Prop} (h : p := by rw [hg]; exact (below_size zad)) : p := h
theorem zaw {p : Prop} (h : p := by rw [hg]; exact Nat.ne_of_lt (blk_lt (g := gb528) (o := .cells #[.int .i64 a0_0, .int .i64 a0_1, .slice A0_2 l0_2.length c0_2] 29 (0, 0)) (bk_ BK528.out))) : p := h
theorem zax {p : Prop} (h : p := by rw [hg]; exact Nat.ne_of_gt (blk_lt (g := gb528) (o := .cells #[.int .i64 a0_0, .int .i64 a0_1, .slice A0_2 l0_2.length c0_2] 29 (0, 0)) (bk_ BK528.out))) : p := h

/-! ### thyrsusref4_subst: function 58 -/
mutual
def thyrsusref4_subst.l0 : Nat → Int → Int → Int → Int → Int → List (S29) → Int → Int → List (S29) → Int → Int → List (S29) → Option (Int × Int × (List (S29)))
 | 0, _, _, _, _, _, _, _, _, _, _, _, _ => none
 | k + 1, x1, x2, x10, x510000, x510001, x510002, x511000, x511001, x511002, x518000, x518001, x518002 => if x10 < (x510002.length : Int) then ((thyrsusref4_Binders.f k x510000 x10).bind fun t518 => (if 0 ≤ x10 then ((thyrsusref4_subst.f k ((rd_T29 x510002 x10).f0) ((rd_T29 x510002 x10).f1) ((rd_T29 x510002 x10).f2) (wrap64 (x1 + t518)) (wrap64 (x2 + t518)) x511000 x511001 x511002).bind fun bt520 => (if x518002.length < 3518437208883 then (thyrsusref4_subst.l0 k x1 x2 (wrap64 (x10 + 1)) x510000 x510001 x510002 x511000 x511001 x511002 x518000 x518001 (x518002 ++ [(⟨bt520.1, bt520.2.1, bt520.2.2⟩ : S29)])) else (none))) else (none))) else (some (x518000, x518001, x518002))
def thyrsusref4_subst.f : Nat → Int → Int → List (S29) → Int → Int → Int → Int → List (S29) → Option (Int × Int × (List (S29)))
 | 0, _, _, _, _, _, _, _, _ => none
 | k + 1, a0_0, a0_1, l0_2, a1, a2, a3_0, a3_1, l3_2 => if a0_0 = 1 then (if a0_1 = a1 then ((thyrsusref4_Shift.f k a3_0 a3_1 l3_2 a2 0).bind fun bt512 => (some (bt512.1, bt512.2.1, bt512.2.2))) else (if a0_1 > a1 then (some (1, wrap64 (a0_1 - 1), ([] : List (S29)))) else (some (a0_0, a0_1, l0_2)))) else (thyrsusref4_subst.l0 k a1 a2 0 a0_0 a0_1 l0_2 a3_0 a3_1 l3_2 a0_0 a0_1 ([] : List (S29)))
end
def thyrsusref4_subst.T12 : Bool × List (List Nat × List Nat) := (true, [([], []), ([0], [0]), ([], []), ([2], [2]), ([], []), ([3, 4], [3, 4]), ([5], [5]), ([], []), ([], []), ([7, 8], [7, 8]), ([], []), ([], []), ([10, 11], [10, 11]), ([], []), ([6, 9, 12, 13], [6, 9, 12, 13]), ([14], [14]), ([1, 15, 14], [1, 15]), ([0, 1, 2, 3, 4, 5, 6, 7, 8, 9, 10, 11, 12, 13, 14, 15, 16], []), ([17, 16, 16, 0, 1, 2, 3, 4, 5, 6, 7, 8, 9, 10, 11, 12, 13, 14, 15, 16], [16, 17])])
def thyrsusref4_subst.B12 : List Nat := [0, 1, 0, 4, 0, 28, 60, 0, 0, 384, 0, 0, 3072, 0, 16380, 32764, 65535, 131071, 262143]
theorem thyrsusref4_subst.tab12 : rtab .any (opsOf Tryd.f58 12) = thyrsusref4_subst.T12 := by kernel_rfl
theorem thyrsusref4_subst.bits12 : waitsOk thyrsusref4_subst.T12.2 thyrsusref4_subst.B12 = true := by kernel_rfl
set_option maxHeartbeats 8000000 in
set_option maxRecDepth 100000 in
theorem thyrsusref4_subst.calls (k : Nat) : ∀ (a0_0 : Int) (a0_1 : Int) (P0_2_ : Nat → Prop) (A0_2 : Option Addr) (c0_2 : Nat) (l0_2 : List (S29)) (a1 : Int) (a2 : Int) (a3_0 : Int) (a3_1 : Int) (A3_2 : Option Addr) (c3_2 : Nat) (l3_2 : List (S29)) (r1 : Int) (r2 : Int) (r3 : List (S29)) (w : World) (hs0_2 : Kd.V k29 29 w w.heap.size (fun k_ => P0_2_ k_) (.slice A0_2 l0_2.length c0_2) l0_2) (hr3_2 : Kd.C k29 w A3_2 l3_2.length l3_2) (hc3_2 : l3_2.length ≤ c3_2) (h : thyrsusref4_subst.f k a0_0 a0_1 l0_2 a1 a2 a3_0 a3_1 l3_2 = some (r1, r2, r3)),
  Calls Tryd.prog 58 #[.agg #[.int .i64 a0_0, .int .i64 a0_1, .slice A0_2 l0_2.length c0_2], .int .i64 a1, .int .i64 a2, .agg #[.int .i64 a3_0, .int .i64 a3_1, .slice A3_2 l3_2.length c3_2]] w fun e w' => ∃ v2_ : Value, e = .returned (.agg #[.int .i64 r1, .int .i64 r2, v2_]) ∧ Kd.V k29 29 w' w.heap.size (fun k_ => (P0_2_ k_ ∨ w.heap.size ≤ k_)) v2_ r3 ∧ Below w.heap.size w w' := by
 induction k using Nat.strongRecOn with
 | _ k ih =>
 intro a0_0 a0_1 P0_2_ A0_2 c0_2 l0_2 a1 a2 a3_0 a3_1 A3_2 c3_2 l3_2 r1 r2 r3 w hs0_2 hr3_2 hc3_2 h
 cases k with
 | zero => exact absurd h (by simp [thyrsusref4_subst.f])
 | succ k =>
 simp only [thyrsusref4_subst.f] at h
 have hu29 := Tryd.underlying29
 have HO0_2 := Aside0.mk (show Kd.V k29 29 w w.heap.size (fun k_ => (P0_2_ k_ ∨ w.heap.size ≤ k_)) (.slice A0_2 l0_2.length c0_2) l0_2 from Kd.V_mono hs0_2 (fun k_ hk => .inl hk))
 have HR3_2 := Aside0.mk hr3_2
 have HC3_2 := Aside0.mk hc3_2
 clear hr3_2 hc3_2
 have HB := Aside0.mk (Below.refl w.heap.size w)
 have H : (if a0_0 = 1 then (if a0_1 = a1 then ((thyrsusref4_Shift.f k a3_0 a3_1 l3_2 a2 0).bind fun bt512 => (some (bt512.1, bt512.2.1, bt512.2.2))) else (if a0_1 > a1 then (some (1, wrap64 (a0_1 - 1), ([] : List (S29)))) else (some (a0_0, a0_1, l0_2)))) else (thyrsusref4_subst.l0 k a1 a2 0 a0_0 a0_1 l0_2 a3_0 a3_1 l3_2 a0_0 a0_1 ([] : List (S29)))) = some (r1, r2, r3) := h
 clear h
 by_cases c5 : a0_0 = 1
 ·rw [if_pos c5] at H
  have c5b0 : (a0_0 == 1) = true := beq_iff_eq.mpr c5
  have c5b1 : (a0_0 != 1) = false := bne_eq_false_iff_eq.mpr c5
  clear c5
  by_cases c6 : a0_1 = a1
  ·rw [if_pos c6] at H
   have c6b0 : (a0_1 == a1) = true := beq_iff_eq.mpr c6
   have c6b1 : (a0_1 != a1) = false := bne_eq_false_iff_eq.mpr c6
   clear c6
   replace H := Option.bind_eq_some_iff.mp H
   obtain ⟨⟨t512, t513, t514⟩, A70, H⟩ := H
   replace H : (some (t512, t513, t514)) = some (r1, r2, r3) := H
   have A7 := Aside0.mk A70
   clear A70
   simp only [Option.some.injEq, Prod.mk.injEq] at H
   obtain ⟨rfl, rfl, rfl⟩ := H
   go_enter Tryd.func58, Tryd.ntmps58
   go_wp2_with (first | ((with_reducible refine gate_dst (N := 4) rfl ?_); refine box_event ?hg (N := 4) ?hd (cs := #[.int .i64 a0_0, .int .i64 a0_1, .slice A0_2 l0_2.length c0_2]) (t := 29) ?hr ?_; (case hd => rfl); (case hg => rfl); (case hr => first | (go_simp; done) | (go_simp; rfl)); intro gb509 hg w8 hbox hb; have n0_ := Aside0.mk (Kd.V_below (Kd.V_elderB zaf gb509 (Nat.le_of_eq hg.symm)) hb); have n1_ := Aside0.mk (below_step zaa hb); have n2_ := Aside0.mk (hbox); have n3_ := Aside0.mk ((zat : w.heap.size ≤ gb509)); have n4_ := Aside0.mk ((zat : w.heap.size ≤ gb509)); clear HO0_2; clear HB; have HO0_2 := n0_; have HB := n1_; have BK509 := n2_; have GW509 := n3_; have GE509 := n4_; clear n0_ n1_ n2_ n3_ n4_; clear hb hbox hg) | ((with_reducible refine gate_dst (N := 7) rfl ?_); refine box_event ?hg (N := 7) ?hd (cs := #[.int .i64 a3_0, .int .i64 a3_1, .slice A3_2 l3_2.length c3_2]) (t := 29) ?hr ?_; (case hd => rfl); (case hg => rfl); (case hr => first | (go_simp; done) | (go_simp; rfl)); intro gb510 hg w9 hbox hb; have n0_ := Aside0.mk (Kd.V_below (Kd.V_elderB zaf gb510 (Nat.le_of_eq hg.symm)) hb); have n1_ := Aside0.mk (blk_below (g := gb509) (o := .cells #[.int .i64 a0_0, .int .i64 a0_1, .slice A0_2 l0_2.length c0_2] 29 (0, 0)) (bk_ BK509.out) hb); have n2_ := Aside0.mk (below_step zae hb); have n3_ := Aside0.mk (hbox); have n4_ := Aside0.mk ((zau : w.heap.size ≤ gb510)); have n5_ := Aside0.mk ((zau : w.heap.size ≤ gb510)); have n6_ := Aside0.mk ((zag : gb509 ≠ gb510)); have n7_ := Aside0.mk ((zah : gb510 ≠ gb509)); clear HO0_2; clear BK509; clear HB; have HO0_2 := n0_; have BK509 := n1_; have HB := n2_; have BK510 := n3_; have GW510 := n4_; have GE510 := n5_; have NB509_510 := n6_; have NB510_509 := n7_; clear n0_ n1_ n2_ n3_ n4_ n5_ n6_ n7_; clear hb hbox hg) | ((with_reducible refine gate_dst (N := 8) rfl ?_); refine box_event ?hg (N := 8) ?hd (cs := #[.int .i64 0, .int .i64 0, .slice none 0 0]) (t := 29) ?hr ?_; (case hd => rfl); (case hg => rfl); (case hr => first | (go_simp; done) | (go_simp; rfl)); intro gb511 hg w10 hbox hb; have n0_ := Aside0.mk (Kd.V_below (Kd.V_elderB zaf gb511 (Nat.le_of_eq hg.symm)) hb); have n1_ := Aside0.mk (blk_below (g := gb509) (o := .cells #[.int .i64 a0_0, .int .i64 a0_1, .slice A0_2 l0_2.length c0_2] 29 (0, 0)) (bk_ BK509.out) hb); have n2_ := Aside0.mk (blk_below (g := gb510) (o := .cells #[.int .i64 a3_0, .int .i64 a3_1, .slice A3_2 l3_2.length c3_2] 29 (0, 0)) (bk_ BK510.out) hb); have n3_ := Aside0.mk (below_step zad hb); have n4_ := Aside0.mk (hbox); have n5_ := Aside0.mk ((zav : w.heap.size ≤ gb511)); have n6_ := Aside0.mk ((zav : w.heap.size ≤ gb511)); have n7_ := Aside0.mk ((zag : gb509 ≠ gb511)); have n8_ := Aside0.mk ((zah : gb511 ≠ gb509)); have n9_ := Aside0.mk ((zal : gb510 ≠ gb511)); have n10_ := Aside0.mk ((zam : gb511 ≠ gb510)); clear HO0_2; clear BK509; clear BK510; clear HB; have HO0_2 := n0_; have BK509 := n1_; have BK510 := n2_; have HB := n3_; have BK511 := n4_; have GW511 := n5_; have GE511 := n6_; have NB509_511 := n7_; have NB511_509 := n8_; have NB510_511 := n9_; have NB511_510 := n10_; clear n0_ n1_ n2_ n3_ n4_ n5_ n6_ n7_ n8_ n9_ n10_; clear hb hbox hg; have hnb11 := NB509_510.out; have hnc11 := NB510_509.out; have hnb12 := NB509_511.out; have hnc12 := NB511_509.out; have hcz13_0 : w10.cell? ⟨gb509, 0, none⟩ = some (.int .i64 a0_0) := bc_ BK509 0; have hcz13_1 : w10.cell? ⟨gb509, 1, none⟩ = some (.int .i64 a0_1) := bc_ BK509 1; have hcz13_2 : w10.cell? ⟨gb509, 2, none⟩ = some (.slice A0_2 l0_2.length c0_2) := bc_ BK509 2; have hfz13_0 := blk_frozen BK509.out 0; have hfz13_1 := blk_frozen BK509.out 1; have hfz13_2 := blk_frozen BK509.out 2; have hnb14 := NB510_511.out; have hnc14 := NB511_510.out; have hcz15_0 : w10.cell? ⟨gb510, 0, none⟩ = some (.int .i64 a3_0) := bc_ BK510 0; have hcz15_1 : w10.cell? ⟨gb510, 1, none⟩ = some (.int .i64 a3_1) := bc_ BK510 1; have hcz15_2 : w10.cell? ⟨gb510, 2, none⟩ = some (.slice A3_2 l3_2.length c3_2) := bc_ BK510 2; have hfz15_0 := blk_frozen BK510.out 0; have hfz15_1 := blk_frozen BK510.out 1; have hfz15_2 := blk_frozen BK510.out 2) | ((with_reducible refine gate_callee (f := 38) rfl ?_); refine goesL_ (some 22) rfl rfl Tryd.func38 zas rfl #[.agg #[.int .i64 a3_0, .int .i64 a3_1, .slice A3_2 l3_2.length c3_2], .int .i64 a2, .int .i64 0] rfl zaj ?_; (with_reducible refine (thyrsusref4_Shift.calls k a3_0 a3_1 _ _ l3_2 a2 0 t512 t513 t514 _ ?side1 ?side2 A7.out).mono ?_); (case side1 => repeat (first | exact (Kd.C_below HR3_2.out HB.out) | (with_reducible refine Kd.C_alloc ?_ _) | (with_reducible refine Kd.C_drewN ?_ _) | (with_reducible refine Kd.C_drew ?_))); (case side2 => exact HC3_2.out); rintro e w16 ⟨v515, rfl, ho0, hb⟩; refine ⟨_, rfl, ?_⟩; have n0_ := Aside0.mk (Kd.V_elder' zaf (by first | exact Kd.N_base ho0 | exact Kd.R_base ho0) hb); have n1_ := Aside0.mk (Kd.N_lower (Kd.N_mono (ok' := fun k_ => (P0_2_ k_ ∨ w.heap.size ≤ k_) ∧ k_ ≠ gb509 ∧ k_ ≠ gb510 ∧ k_ ≠ gb511) (Kd.R_N (Kd.R_bound ho0)) (fun k_ hk_ => ⟨(.inr (Nat.le_trans (below_size zac) hk_.2.1)), (Kd.freshB (g := gb509) (o := .cells #[.int .i64 a0_0, .int .i64 a0_1, .slice A0_2 l0_2.length c0_2] 29 (0, 0)) (bk_ BK509.out) k_ hk_.2.1), (Kd.freshB (g := gb510) (o := .cells #[.int .i64 a3_0, .int .i64 a3_1, .slice A3_2 l3_2.length c3_2] 29 (0, 0)) (bk_ BK510.out) k_ hk_.2.1), (Kd.freshB (g := gb511) (o := .cells #[.int .i64 0, .int .i64 0, .slice none 0 0] 29 (0, 0)) (bk_ BK511.out) k_ hk_.2.1)⟩)) (below_size zac)); have n2_ := Aside0.mk (blk_below (g := gb509) (o := .cells #[.int .i64 a0_0, .int .i64 a0_1, .slice A0_2 l0_2.length c0_2] 29 (0, 0)) (bk_ BK509.out) hb); have n3_ := Aside0.mk (blk_below (g := gb510) (o := .cells #[.int .i64 a3_0, .int .i64 a3_1, .slice A3_2 l3_2.length c3_2] 29 (0, 0)) (bk_ BK510.out) hb); have n4_ := Aside0.mk (blk_below (g := gb511) (o := .cells #[.int .i64 0, .int .i64 0, .slice none 0 0] 29 (0, 0)) (bk_ BK511.out) hb); have n5_ := Aside0.mk (below_step zac hb); clear HO0_2; clear BK509; clear BK510; clear BK511; clear HB; have HO0_2 := n0_; have HO516 := n1_; have BK509 := n2_; have BK510 := n3_; have BK511 := n4_; have HB := n5_; clear n0_ n1_ n2_ n3_ n4_ n5_; (try clear hb); (try clear hb2); (try clear hk); (try clear hi); (try clear ho0); have hcz17_0 : w16.cell? ⟨gb511, 0, none⟩ = some (.int .i64 0) := bc_ BK511 0; have hcz17_1 : w16.cell? ⟨gb511, 1, none⟩ = some (.int .i64 0) := bc_ BK511 1; have hcz17_2 : w16.cell? ⟨gb511, 2, none⟩ = some (.slice none 0 0) := bc_ BK511 2; have hfz17_0 := blk_frozen BK511.out 0; have hfz17_1 := blk_frozen BK511.out 1; have hfz17_2 := blk_frozen BK511.out 2; obtain ⟨Ao18, co18, eo18⟩ := Kd.N_slice HO516.out; subst eo18) | ((with_reducible refine gate_store (t := 29) (p := 8) rfl ?_); refine store_event (t := 29) (p := 8) (v := ?vo_w19) (w1 := (((w16.setCell ⟨gb511, 0, none⟩ (.int .i64 t512)).setCell ⟨gb511, 1, none⟩ (.int .i64 t513)).setCell ⟨gb511, 2, none⟩ (.slice Ao18 t514.length co18))) ?hg ?ho ?hn ?hr ?_; (case ho => rfl); (case hg => rfl); (case hn => rfl); (case hr => first | (go_simp; done) | (go_simp; rfl)); intro w19 hw; have n0_ : Aside0 (Kd.V k29 29 w19 w.heap.size (fun k_ => (P0_2_ k_ ∨ w.heap.size ≤ k_) ∧ some k_ ≠ (.slice Ao18 t514.length co18 : Value).ownBlock ∧ k_ ≠ gb509 ∧ k_ ≠ gb510 ∧ k_ ≠ gb511) (.slice A0_2 l0_2.length c0_2) l0_2) := ⟨(by rw [hw]; exact (by (with_reducible repeat (first | apply Kd.V_alloc | apply Kd.V_drewN | apply Kd.V_drew)); exact Kd.V_mono (Kd.V_far (p := ⟨gb511, 2, none⟩) (Kd.V_far (p := ⟨gb511, 1, none⟩) (Kd.V_far (p := ⟨gb511, 0, none⟩) (Kd.V_mono HO0_2.out (fun k_ hk => (⟨hk, hk.1.2⟩ : _ ∧ k_ ≠ gb511))) (fun _ hk => hk.2) (.int .i64 t512)) (fun _ hk => hk.2) (.int .i64 t513)) (fun _ hk => hk.2) (.slice Ao18 t514.length co18)) (fun _ hk => ⟨hk.1.1.1.1.1, ⟨hk.1.2, ⟨hk.1.1.1.1.2, ⟨hk.1.1.1.2, hk.1.1.2⟩⟩⟩⟩)))⟩; have n1_ : Aside0 (Kd.N k29 29 w19 w.heap.size (fun k_ => (P0_2_ k_ ∨ w.heap.size ≤ k_) ∧ k_ ≠ gb509 ∧ k_ ≠ gb510 ∧ k_ ≠ gb511) (.slice Ao18 t514.length co18) t514) := ⟨(by rw [hw]; exact (by (with_reducible repeat (first | apply Kd.N_alloc | apply Kd.N_drewN | apply Kd.N_drew)); exact Kd.N_mono (Kd.N_far (p := ⟨gb511, 2, none⟩) (Kd.N_far (p := ⟨gb511, 1, none⟩) (Kd.N_far (p := ⟨gb511, 0, none⟩) (Kd.N_mono HO516.out (fun k_ hk => (⟨hk, hk.2.2.2⟩ : _ ∧ k_ ≠ gb511))) (fun _ hk => hk.2) (.int .i64 t512)) (fun _ hk => hk.2) (.int .i64 t513)) (fun _ hk => hk.2) (.slice Ao18 t514.length co18)) (fun _ hk => ⟨hk.1.1, ⟨hk.1.2.1, ⟨hk.1.2.2.1, hk.1.2.2.2⟩⟩⟩)))⟩; have n2_ : Aside0 (w19.heap[gb509]? = some (.cells #[.int .i64 a0_0, .int .i64 a0_1, .slice A0_2 l0_2.length c0_2] 29 (0, 0))) := ⟨zan⟩; have n3_ : Aside0 (w19.heap[gb510]? = some (.cells #[.int .i64 a3_0, .int .i64 a3_1, .slice A3_2 l3_2.length c3_2] 29 (0, 0))) := ⟨zao⟩; have n4_ : Aside0 (w19.heap[gb511]? = some (.cells #[.int .i64 t512, .int .i64 t513, .slice Ao18 t514.length co18] 29 (0, 0))) := ⟨(by rw [hw]; exact (by refine bk_ ?_; refine blk_put (cs := #[.int .i64 t512, .int .i64 t513, .slice none 0 0]) ?_ 2 _ rfl; refine bk_ ?_; refine blk_put (cs := #[.int .i64 t512, .int .i64 0, .slice none 0 0]) ?_ 1 _ rfl; refine bk_ ?_; refine blk_put (cs := #[.int .i64 0, .int .i64 0, .slice none 0 0]) ?_ 0 _ rfl; exact bk_ BK511.out))⟩; have n5_ : Aside0 (Below w.heap.size w w19) := ⟨(by rw [hw]; exact zac)⟩; clear hw; clear HO0_2; clear HO516; clear BK509; clear BK510; clear BK511; clear HB; have HO0_2 := n0_; have HO516 := n1_; have BK509 := n2_; have BK510 := n3_; have BK511 := n4_; have HB := n5_; clear n0_ n1_ n2_ n3_ n4_ n5_))
   refine bodyPost_ret (results_cell_row rfl _ _ gb511 29 #[.int .i64 t512, .int .i64 t513, .slice Ao18 t514.length co18] (0, 0) _ rfl (bk_ BK511.out) Tryd.underlying29 rfl zas) rfl ?_
   exact ⟨_, zak, Kd.N_V (by (with_reducible repeat (first | apply Kd.N_alloc | apply Kd.N_drewN | apply Kd.N_drew)); exact Kd.N_mono HO516.out (fun _ hk => hk.1)), zac⟩
  ·rw [if_neg c6] at H
   have c6b0 : (a0_1 == a1) = false := beq_eq_false_iff_ne.mpr c6
   have c6b1 : (a0_1 != a1) = true := bne_iff_ne.mpr c6
   by_cases c20 : a0_1 > a1
   ·rw [if_pos c20] at H
    have c20b0 : decide (a1 < a0_1) = true := decide_eq_true c20
    clear c20
    simp only [Option.some.injEq, Prod.mk.injEq] at H
    obtain ⟨rfl, rfl, rfl⟩ := H
    go_enter Tryd.func58, Tryd.ntmps58
    go_wp2_with (first | ((with_reducible refine gate_dst (N := 4) rfl ?_); refine box_event ?hg (N := 4) ?hd (cs := #[.int .i64 a0_0, .int .i64 a0_1, .slice A0_2 l0_2.length c0_2]) (t := 29) ?hr ?_; (case hd => rfl); (case hg => rfl); (case hr => first | (go_simp; done) | (go_simp; rfl)); intro gb509 hg w21 hbox hb; have n0_ := Aside0.mk (Kd.V_below (Kd.V_elderB zaf gb509 (Nat.le_of_eq hg.symm)) hb); have n1_ := Aside0.mk (below_step zaa hb); have n2_ := Aside0.mk (hbox); have n3_ := Aside0.mk ((zat : w.heap.size ≤ gb509)); have n4_ := Aside0.mk ((zat : w.heap.size ≤ gb509)); clear HO0_2; clear HB; have HO0_2 := n0_; have HB := n1_; have BK509 := n2_; have GW509 := n3_; have GE509 := n4_; clear n0_ n1_ n2_ n3_ n4_; clear hb hbox hg) | ((with_reducible refine gate_dst (N := 7) rfl ?_); refine box_event ?hg (N := 7) ?hd (cs := #[.int .i64 a3_0, .int .i64 a3_1, .slice A3_2 l3_2.length c3_2]) (t := 29) ?hr ?_; (case hd => rfl); (case hg => rfl); (case hr => first | (go_simp; done) | (go_simp; rfl)); intro gb510 hg w22 hbox hb; have n0_ := Aside0.mk (Kd.V_below (Kd.V_elderB zaf gb510 (Nat.le_of_eq hg.symm)) hb); have n1_ := Aside0.mk (blk_below (g := gb509) (o := .cells #[.int .i64 a0_0, .int .i64 a0_1, .slice A0_2 l0_2.length c0_2] 29 (0, 0)) (bk_ BK509.out) hb); have n2_ := Aside0.mk (below_step zae hb); have n3_ := Aside0.mk (hbox); have n4_ := Aside0.mk ((zau : w.heap.size ≤ gb510)); have n5_ := Aside0.mk ((zau : w.heap.size ≤ gb510)); have n6_ := Aside0.mk ((zag : gb509 ≠ gb510)); have n7_ := Aside0.mk ((zah : gb510 ≠ gb509)); clear HO0_2; clear BK509; clear HB; have HO0_2 := n0_; have BK509 := n1_; have HB := n2_; have BK510 := n3_; have GW510 := n4_; have GE510 := n5_; have NB509_510 := n6_; have NB510_509 := n7_; clear n0_ n1_ n2_ n3_ n4_ n5_ n6_ n7_; clear hb hbox hg) | ((with_reducible refine gate_dst (N := 8) rfl ?_); refine box_event ?hg (N := 8) ?hd (cs := #[.int .i64 0, .int .i64 0, .slice none 0 0]) (t := 29) ?hr ?_; (case hd => rfl); (case hg => rfl); (case hr => first | (go_simp; done) | (go_simp; rfl)); intro gb511 hg w23 hbox hb; have n0_ := Aside0.mk (Kd.V_below (Kd.V_elderB zaf gb511 (Nat.le_of_eq hg.symm)) hb); have n1_ := Aside0.mk (blk_below (g := gb509) (o := .cells #[.int .i64 a0_0, .int .i64 a0_1, .slice A0_2 l0_2.length c0_2] 29 (0, 0)) (bk_ BK509.out) hb); have n2_ := Aside0.mk (blk_below (g := gb510) (o := .cells #[.int .i64 a3_0, .int .i64 a3_1, .slice A3_2 l3_2.length c3_2] 29 (0, 0)) (bk_ BK510.out) hb); have n3_ := Aside0.mk (below_step zad hb); have n4_ := Aside0.mk (hbox); have n5_ := Aside0.mk ((zav : w.heap.size ≤ gb511)); have n6_ := Aside0.mk ((zav : w.heap.size ≤ gb511)); have n7_ := Aside0.mk ((zag : gb509 ≠ gb511)); have n8_ := Aside0.mk ((zah : gb511 ≠ gb509)); have n9_ := Aside0.mk ((zal : gb510 ≠ gb511)); have n10_ := Aside0.mk ((zam : gb511 ≠ gb510)); clear HO0_2; clear BK509; clear BK510; clear HB; have HO0_2 := n0_; have BK509 := n1_; have BK510 := n2_; have HB := n3_; have BK511 := n4_; have GW511 := n5_; have GE511 := n6_; have NB509_511 := n7_; have NB511_509 := n8_; have NB510_511 := n9_; have NB511_510 := n10_; clear n0_ n1_ n2_ n3_ n4_ n5_ n6_ n7_ n8_ n9_ n10_; clear hb hbox hg; have hnb24 := NB509_510.out; have hnc24 := NB510_509.out; have hnb25 := NB509_511.out; have hnc25 := NB511_509.out; have hcz26_0 : w23.cell? ⟨gb509, 0, none⟩ = some (.int .i64 a0_0) := bc_ BK509 0; have hcz26_1 : w23.cell? ⟨gb509, 1, none⟩ = some (.int .i64 a0_1) := bc_ BK509 1; have hcz26_2 : w23.cell? ⟨gb509, 2, none⟩ = some (.slice A0_2 l0_2.length c0_2) := bc_ BK509 2; have hfz26_0 := blk_frozen BK509.out 0; have hfz26_1 := blk_frozen BK509.out 1; have hfz26_2 := blk_frozen BK509.out 2; have hnb27 := NB511_510.out; have hnc27 := NB510_511.out; have hcz28_0 : w23.cell? ⟨gb511, 0, none⟩ = some (.int .i64 0) := bc_ BK511 0; have hcz28_1 : w23.cell? ⟨gb511, 1, none⟩ = some (.int .i64 0) := bc_ BK511 1; have hcz28_2 : w23.cell? ⟨gb511, 2, none⟩ = some (.slice none 0 0) := bc_ BK511 2; have hfz28_0 := blk_frozen BK511.out 0; have hfz28_1 := blk_frozen BK511.out 1; have hfz28_2 := blk_frozen BK511.out 2) | ((with_reducible refine gate_store (t := 29) (p := 8) rfl ?_); refine store_event (t := 29) (p := 8) (v := ?vo_w29) (w1 := (((w23.setCell ⟨gb511, 0, none⟩ (.int .i64 1)).setCell ⟨gb511, 1, none⟩ (.int .i64 (wrap64 (a0_1 - 1)))).setCell ⟨gb511, 2, none⟩ (.slice none 0 0))) ?hg ?ho ?hn ?hr ?_; (case ho => rfl); (case hg => rfl); (case hn => rfl); (case hr => first | (go_simp; done) | (go_simp; rfl)); intro w29 hw; have n0_ : Aside0 (Kd.V k29 29 w29 w.heap.size (fun k_ => (P0_2_ k_ ∨ w.heap.size ≤ k_) ∧ k_ ≠ gb509 ∧ k_ ≠ gb510 ∧ k_ ≠ gb511) (.slice A0_2 l0_2.length c0_2) l0_2) := ⟨(by rw [hw]; exact (by (with_reducible repeat (first | apply Kd.V_alloc | apply Kd.V_drewN | apply Kd.V_drew)); exact Kd.V_mono (Kd.V_far (p := ⟨gb511, 2, none⟩) (Kd.V_far (p := ⟨gb511, 1, none⟩) (Kd.V_far (p := ⟨gb511, 0, none⟩) (Kd.V_mono HO0_2.out (fun k_ hk => (⟨hk, hk.2⟩ : _ ∧ k_ ≠ gb511))) (fun _ hk => hk.2) (.int .i64 1)) (fun _ hk => hk.2) (.int .i64 (wrap64 (a0_1 - 1)))) (fun _ hk => hk.2) (.slice none 0 0)) (fun _ hk => ⟨hk.1.1.1.1, ⟨hk.1.1.1.2, ⟨hk.1.1.2, hk.1.2⟩⟩⟩)))⟩; have n1_ : Aside0 (w29.heap[gb509]? = some (.cells #[.int .i64 a0_0, .int .i64 a0_1, .slice A0_2 l0_2.length c0_2] 29 (0, 0))) := ⟨zan⟩; have n2_ : Aside0 (w29.heap[gb510]? = some (.cells #[.int .i64 a3_0, .int .i64 a3_1, .slice A3_2 l3_2.length c3_2] 29 (0, 0))) := ⟨zao⟩; have n3_ : Aside0 (w29.heap[gb511]? = some (.cells #[.int .i64 1, .int .i64 (wrap64 (a0_1 - 1)), .slice none 0 0] 29 (0, 0))) := ⟨(by rw [hw]; exact (by refine bk_ ?_; refine blk_put (cs := #[.int .i64 1, .int .i64 (wrap64 (a0_1 - 1)), .slice none 0 0]) ?_ 2 _ rfl; refine bk_ ?_; refine blk_put (cs := #[.int .i64 1, .int .i64 0, .slice none 0 0]) ?_ 1 _ rfl; refine bk_ ?_; refine blk_put (cs := #[.int .i64 0, .int .i64 0, .slice none 0 0]) ?_ 0 _ rfl; exact bk_ BK511.out))⟩; have n4_ : Aside0 (Below w.heap.size w w29) := ⟨(by rw [hw]; exact zac)⟩; clear hw; clear HO0_2; clear BK509; clear BK510; clear BK511; clear HB; have HO0_2 := n0_; have BK509 := n1_; have BK510 := n2_; have BK511 := n3_; have HB := n4_; clear n0_ n1_ n2_ n3_ n4_))
    refine bodyPost_ret (results_cell_row rfl _ _ gb511 29 #[.int .i64 1, .int .i64 (wrap64 (a0_1 - 1)), .slice none 0 0] (0, 0) _ rfl (bk_ BK511.out) Tryd.underlying29 rfl zas) rfl ?_
    exact ⟨_, zak, (Kd.V_nil _ _ _ _ _), zac⟩
   ·rw [if_neg c20] at H
    have c20b0 : decide (a1 < a0_1) = false := decide_eq_false c20
    clear c20
    simp only [Option.some.injEq, Prod.mk.injEq] at H
    obtain ⟨rfl, rfl, rfl⟩ := H
    go_enter Tryd.func58, Tryd.ntmps58
    go_wp2_with (first | ((with_reducible refine gate_dst (N := 4) rfl ?_); refine box_event ?hg (N := 4) ?hd (cs := #[.int .i64 a0_0, .int .i64 a0_1, .slice A0_2 l0_2.length c0_2]) (t := 29) ?hr ?_; (case hd => rfl); (case hg => rfl); (case hr => first | (go_simp; done) | (go_simp; rfl)); intro gb509 hg w30 hbox hb; have n0_ := Aside0.mk (Kd.V_below (Kd.V_elderB zaf gb509 (Nat.le_of_eq hg.symm)) hb); have n1_ := Aside0.mk (below_step zaa hb); have n2_ := Aside0.mk (hbox); have n3_ := Aside0.mk ((zat : w.heap.size ≤ gb509)); have n4_ := Aside0.mk ((zat : w.heap.size ≤ gb509)); clear HO0_2; clear HB; have HO0_2 := n0_; have HB := n1_; have BK509 := n2_; have GW509 := n3_; have GE509 := n4_; clear n0_ n1_ n2_ n3_ n4_; clear hb hbox hg) | ((with_reducible refine gate_dst (N := 7) rfl ?_); refine box_event ?hg (N := 7) ?hd (cs := #[.int .i64 a3_0, .int .i64 a3_1, .slice A3_2 l3_2.length c3_2]) (t := 29) ?hr ?_; (case hd => rfl); (case hg => rfl); (case hr => first | (go_simp; done) | (go_simp; rfl)); intro gb510 hg w31 hbox hb; have n0_ := Aside0.mk (Kd.V_below (Kd.V_elderB zaf gb510 (Nat.le_of_eq hg.symm)) hb); have n1_ := Aside0.mk (blk_below (g := gb509) (o := .cells #[.int .i64 a0_0, .int .i64 a0_1, .slice A0_2 l0_2.length c0_2] 29 (0, 0)) (bk_ BK509.out) hb); have n2_ := Aside0.mk (below_step zae hb); have n3_ := Aside0.mk (hbox); have n4_ := Aside0.mk ((zau : w.heap.size ≤ gb510)); have n5_ := Aside0.mk ((zau : w.heap.size ≤ gb510)); have n6_ := Aside0.mk ((zag : gb509 ≠ gb510)); have n7_ := Aside0.mk ((zah : gb510 ≠ gb509)); clear HO0_2; clear BK509; clear HB; have HO0_2 := n0_; have BK509 := n1_; have HB := n2_; have BK510 := n3_; have GW510 := n4_; have GE510 := n5_; have NB509_510 := n6_; have NB510_509 := n7_; clear n0_ n1_ n2_ n3_ n4_ n5_ n6_ n7_; clear hb hbox hg) | ((with_reducible refine gate_dst (N := 8) rfl ?_); refine box_event ?hg (N := 8) ?hd (cs := #[.int .i64 0, .int .i64 0, .slice none 0 0]) (t := 29) ?hr ?_; (case hd => rfl); (case hg => rfl); (case hr => first | (go_simp; done) | (go_simp; rfl)); intro gb511 hg w32 hbox hb; have n0_ := Aside0.mk (Kd.V_below (Kd.V_elderB zaf gb511 (Nat.le_of_eq hg.symm)) hb); have n1_ := Aside0.mk (blk_below (g := gb509) (o := .cells #[.int .i64 a0_0, .int .i64 a0_1, .slice A0_2 l0_2.length c0_2] 29 (0, 0)) (bk_ BK509.out) hb); have n2_ := Aside0.mk (blk_below (g := gb510) (o := .cells #[.int .i64 a3_0, .int .i64 a3_1, .slice A3_2 l3_2.length c3_2] 29 (0, 0)) (bk_ BK510.out) hb); have n3_ := Aside0.mk (below_step zad hb); have n4_ := Aside0.mk (hbox); have n5_ := Aside0.mk ((zav : w.heap.size ≤ gb511)); have n6_ := Aside0.mk ((zav : w.heap.size ≤ gb511)); have n7_ := Aside0.mk ((zag : gb509 ≠ gb511)); have n8_ := Aside0.mk ((zah : gb511 ≠ gb509)); have n9_ := Aside0.mk ((zal : gb510 ≠ gb511)); have n10_ := Aside0.mk ((zam : gb511 ≠ gb510)); clear HO0_2; clear BK509; clear BK510; clear HB; have HO0_2 := n0_; have BK509 := n1_; have BK510 := n2_; have HB := n3_; have BK511 := n4_; have GW511 := n5_; have GE511 := n6_; have NB509_511 := n7_; have NB511_509 := n8_; have NB510_511 := n9_; have NB511_510 := n10_; clear n0_ n1_ n2_ n3_ n4_ n5_ n6_ n7_ n8_ n9_ n10_; clear hb hbox hg; have hnb33 := NB509_510.out; have hnc33 := NB510_509.out; have hnb34 := NB509_511.out; have hnc34 := NB511_509.out; have hcz35_0 : w32.cell? ⟨gb509, 0, none⟩ = some (.int .i64 a0_0) := bc_ BK509 0; have hcz35_1 : w32.cell? ⟨gb509, 1, none⟩ = some (.int .i64 a0_1) := bc_ BK509 1; have hcz35_2 : w32.cell? ⟨gb509, 2, none⟩ = some (.slice A0_2 l0_2.length c0_2) := bc_ BK509 2; have hfz35_0 := blk_frozen BK509.out 0; have hfz35_1 := blk_frozen BK509.out 1; have hfz35_2 := blk_frozen BK509.out 2; have hnb36 := NB511_510.out; have hnc36 := NB510_511.out; have hcz37_0 : w32.cell? ⟨gb511, 0, none⟩ = some (.int .i64 0) := bc_ BK511 0; have hcz37_1 : w32.cell? ⟨gb511, 1, none⟩ = some (.int .i64 0) := bc_ BK511 1; have hcz37_2 : w32.cell? ⟨gb511, 2, none⟩ = some (.slice none 0 0) := bc_ BK511 2; have hfz37_0 := blk_frozen BK511.out 0; have hfz37_1 := blk_frozen BK511.out 1; have hfz37_2 := blk_frozen BK511.out 2) | ((with_reducible refine gate_store (t := 29) (p := 8) rfl ?_); refine store_event (t := 29) (p := 8) (v := ?vo_w38) (w1 := (((w32.setCell ⟨gb511, 0, none⟩ (.int .i64 a0_0)).setCell ⟨gb511, 1, none⟩ (.int .i64 a0_1)).setCell ⟨gb511, 2, none⟩ (.slice A0_2 l0_2.length c0_2))) ?hg ?ho ?hn ?hr ?_; (case ho => rfl); (case hg => rfl); (case hn => rfl); (case hr => first | (go_simp; done) | (go_simp; rfl)); intro w38 hw; have n0_ : Aside0 (Kd.V k29 29 w38 w.heap.size (fun k_ => (P0_2_ k_ ∨ w.heap.size ≤ k_) ∧ k_ ≠ gb509 ∧ k_ ≠ gb510 ∧ k_ ≠ gb511) (.slice A0_2 l0_2.length c0_2) l0_2) := ⟨(by rw [hw]; exact (by (with_reducible repeat (first | apply Kd.V_alloc | apply Kd.V_drewN | apply Kd.V_drew)); exact Kd.V_mono (Kd.V_far (p := ⟨gb511, 2, none⟩) (Kd.V_far (p := ⟨gb511, 1, none⟩) (Kd.V_far (p := ⟨gb511, 0, none⟩) (Kd.V_mono HO0_2.out (fun k_ hk => (⟨hk, hk.2⟩ : _ ∧ k_ ≠ gb511))) (fun _ hk => hk.2) (.int .i64 a0_0)) (fun _ hk => hk.2) (.int .i64 a0_1)) (fun _ hk => hk.2) (.slice A0_2 l0_2.length c0_2)) (fun _ hk => ⟨hk.1.1.1.1, ⟨hk.1.1.1.2, ⟨hk.1.1.2, hk.1.2⟩⟩⟩)))⟩; have n1_ : Aside0 (w38.heap[gb509]? = some (.cells #[.int .i64 a0_0, .int .i64 a0_1, .slice A0_2 l0_2.length c0_2] 29 (0, 0))) := ⟨zan⟩; have n2_ : Aside0 (w38.heap[gb510]? = some (.cells #[.int .i64 a3_0, .int .i64 a3_1, .slice A3_2 l3_2.length c3_2] 29 (0, 0))) := ⟨zao⟩; have n3_ : Aside0 (w38.heap[gb511]? = some (.cells #[.int .i64 a0_0, .int .i64 a0_1, .slice A0_2 l0_2.length c0_2] 29 (0, 0))) := ⟨(by rw [hw]; exact (by refine bk_ ?_; refine blk_put (cs := #[.int .i64 a0_0, .int .i64 a0_1, .slice none 0 0]) ?_ 2 _ rfl; refine bk_ ?_; refine blk_put (cs := #[.int .i64 a0_0, .int .i64 0, .slice none 0 0]) ?_ 1 _ rfl; refine bk_ ?_; refine blk_put (cs := #[.int .i64 0, .int .i64 0, .slice none 0 0]) ?_ 0 _ rfl; exact bk_ BK511.out))⟩; have n4_ : Aside0 (Below w.heap.size w w38) := ⟨(by rw [hw]; exact zac)⟩; clear hw; clear HO0_2; clear BK509; clear BK510; clear BK511; clear HB; have HO0_2 := n0_; have BK509 := n1_; have BK510 := n2_; have BK511 := n3_; have HB := n4_; clear n0_ n1_ n2_ n3_ n4_))
    refine bodyPost_ret (results_cell_row rfl _ _ gb511 29 #[.int .i64 a0_0, .int .i64 a0_1, .slice A0_2 l0_2.length c0_2] (0, 0) _ rfl (bk_ BK511.out) Tryd.underlying29 rfl zas) rfl ?_
    exact ⟨_, zak, by (with_reducible repeat (first | apply Kd.V_alloc | apply Kd.V_drewN | apply Kd.V_drew)); exact Kd.V_mono HO0_2.out (fun _ hk => hk.1), zac⟩
 ·rw [if_neg c5] at H
  have c5b0 : (a0_0 == 1) = false := beq_eq_false_iff_ne.mpr c5
  have c5b1 : (a0_0 != 1) = true := bne_iff_ne.mpr c5
  have H' := Aside0.mk H
  clear H
  go_enter Tryd.func58, Tryd.ntmps58
  go_wp2_with (first | ((with_reducible refine gate_dst (N := 4) rfl ?_); refine box_event ?hg (N := 4) ?hd (cs := #[.int .i64 a0_0, .int .i64 a0_1, .slice A0_2 l0_2.length c0_2]) (t := 29) ?hr ?_; (case hd => rfl); (case hg => rfl); (case hr => first | (go_simp; done) | (go_simp; rfl)); intro gb509 hg w39 hbox hb; have n0_ := Aside0.mk (Kd.V_below (Kd.V_elderB zaf gb509 (Nat.le_of_eq hg.symm)) hb); have n1_ := Aside0.mk (below_step zaa hb); have n2_ := Aside0.mk (hbox); have n3_ := Aside0.mk ((zat : w.heap.size ≤ gb509)); have n4_ := Aside0.mk ((zat : w.heap.size ≤ gb509)); clear HO0_2; clear HB; have HO0_2 := n0_; have HB := n1_; have BK509 := n2_; have GW509 := n3_; have GE509 := n4_; clear n0_ n1_ n2_ n3_ n4_; clear hb hbox hg) | ((with_reducible refine gate_dst (N := 7) rfl ?_); refine box_event ?hg (N := 7) ?hd (cs := #[.int .i64 a3_0, .int .i64 a3_1, .slice A3_2 l3_2.length c3_2]) (t := 29) ?hr ?_; (case hd => rfl); (case hg => rfl); (case hr => first | (go_simp; done) | (go_simp; rfl)); intro gb510 hg w40 hbox hb; have n0_ := Aside0.mk (Kd.V_below (Kd.V_elderB zaf gb510 (Nat.le_of_eq hg.symm)) hb); have n1_ := Aside0.mk (blk_below (g := gb509) (o := .cells #[.int .i64 a0_0, .int .i64 a0_1, .slice A0_2 l0_2.length c0_2] 29 (0, 0)) (bk_ BK509.out) hb); have n2_ := Aside0.mk (below_step zae hb); have n3_ := Aside0.mk (hbox); have n4_ := Aside0.mk ((zau : w.heap.size ≤ gb510)); have n5_ := Aside0.mk ((zau : w.heap.size ≤ gb510)); have n6_ := Aside0.mk ((zag : gb509 ≠ gb510)); have n7_ := Aside0.mk ((zah : gb510 ≠ gb509)); clear HO0_2; clear BK509; clear HB; have HO0_2 := n0_; have BK509 := n1_; have HB := n2_; have BK510 := n3_; have GW510 := n4_; have GE510 := n5_; have NB509_510 := n6_; have NB510_509 := n7_; clear n0_ n1_ n2_ n3_ n4_ n5_ n6_ n7_; clear hb hbox hg) | ((with_reducible refine gate_dst (N := 8) rfl ?_); refine box_event ?hg (N := 8) ?hd (cs := #[.int .i64 0, .int .i64 0, .slice none 0 0]) (t := 29) ?hr ?_; (case hd => rfl); (case hg => rfl); (case hr => first | (go_simp; done) | (go_simp; rfl)); intro gb511 hg w41 hbox hb; have n0_ := Aside0.mk (Kd.V_below (Kd.V_elderB zaf gb511 (Nat.le_of_eq hg.symm)) hb); have n1_ := Aside0.mk (blk_below (g := gb509) (o := .cells #[.int .i64 a0_0, .int .i64 a0_1, .slice A0_2 l0_2.length c0_2] 29 (0, 0)) (bk_ BK509.out) hb); have n2_ := Aside0.mk (blk_below (g := gb510) (o := .cells #[.int .i64 a3_0, .int .i64 a3_1, .slice A3_2 l3_2.length c3_2] 29 (0, 0)) (bk_ BK510.out) hb); have n3_ := Aside0.mk (below_step zad hb); have n4_ := Aside0.mk (hbox); have n5_ := Aside0.mk ((zav : w.heap.size ≤ gb511)); have n6_ := Aside0.mk ((zav : w.heap.size ≤ gb511)); have n7_ := Aside0.mk ((zag : gb509 ≠ gb511)); have n8_ := Aside0.mk ((zah : gb511 ≠ gb509)); have n9_ := Aside0.mk ((zal : gb510 ≠ gb511)); have n10_ := Aside0.mk ((zam : gb511 ≠ gb510)); clear HO0_2; clear BK509; clear BK510; clear HB; have HO0_2 := n0_; have BK509 := n1_; have BK510 := n2_; have HB := n3_; have BK511 := n4_; have GW511 := n5_; have GE511 := n6_; have NB509_511 := n7_; have NB511_509 := n8_; have NB510_511 := n9_; have NB511_510 := n10_; clear n0_ n1_ n2_ n3_ n4_ n5_ n6_ n7_ n8_ n9_ n10_; clear hb hbox hg; have hnb42 := NB509_510.out; have hnc42 := NB510_509.out; have hnb43 := NB509_511.out; have hnc43 := NB511_509.out; have hcz44_0 : w41.cell? ⟨gb509, 0, none⟩ = some (.int .i64 a0_0) := bc_ BK509 0; have hcz44_1 : w41.cell? ⟨gb509, 1, none⟩ = some (.int .i64 a0_1) := bc_ BK509 1; have hcz44_2 : w41.cell? ⟨gb509, 2, none⟩ = some (.slice A0_2 l0_2.length c0_2) := bc_ BK509 2; have hfz44_0 := blk_frozen BK509.out 0; have hfz44_1 := blk_frozen BK509.out 1; have hfz44_2 := blk_frozen BK509.out 2) | ((with_reducible refine gate_dst (N := 9) rfl ?_); refine box_event ?hg (N := 9) ?hd (cs := #[.int .i64 0, .int .i64 0, .slice none 0 0]) (t := 29) ?hr ?_; (case hd => rfl); (case hg => rfl); (case hr => first | (go_simp; done) | (go_simp; rfl)); intro gb517 hg w45 hbox hb; have n0_ := Aside0.mk (Kd.V_below (Kd.V_elderB zaf gb517 (Nat.le_of_eq hg.symm)) hb); have n1_ := Aside0.mk (blk_below (g := gb509) (o := .cells #[.int .i64 a0_0, .int .i64 a0_1, .slice A0_2 l0_2.length c0_2] 29 (0, 0)) (bk_ BK509.out) hb); have n2_ := Aside0.mk (blk_below (g := gb510) (o := .cells #[.int .i64 a3_0, .int .i64 a3_1, .slice A3_2 l3_2.length c3_2] 29 (0, 0)) (bk_ BK510.out) hb); have n3_ := Aside0.mk (blk_below (g := gb511) (o := .cells #[.int .i64 0, .int .i64 0, .slice none 0 0] 29 (0, 0)) (bk_ BK511.out) hb); have n4_ := Aside0.mk (below_step zac hb); have n5_ := Aside0.mk (hbox); have n6_ := Aside0.mk ((by rw [hg]; exact (below_size zac) : w.heap.size ≤ gb517)); have n7_ := Aside0.mk ((by rw [hg]; exact (below_size zac) : w.heap.size ≤ gb517)); have n8_ := Aside0.mk ((zag : gb509 ≠ gb517)); have n9_ := Aside0.mk ((zah : gb517 ≠ gb509)); have n10_ := Aside0.mk ((zal : gb510 ≠ gb517)); have n11_ := Aside0.mk ((zam : gb517 ≠ gb510)); have n12_ := Aside0.mk ((by rw [hg]; exact Nat.ne_of_lt (blk_lt (g := gb511) (o := .cells #[.int .i64 0, .int .i64 0, .slice none 0 0] 29 (0, 0)) (bk_ BK511.out)) : gb511 ≠ gb517)); have n13_ := Aside0.mk ((by rw [hg]; exact Nat.ne_of_gt (blk_lt (g := gb511) (o := .cells #[.int .i64 0, .int .i64 0, .slice none 0 0] 29 (0, 0)) (bk_ BK511.out)) : gb517 ≠ gb511)); clear HO0_2; clear BK509; clear BK510; clear BK511; clear HB; have HO0_2 := n0_; have BK509 := n1_; have BK510 := n2_; have BK511 := n3_; have HB := n4_; have BK517 := n5_; have GW517 := n6_; have GE517 := n7_; have NB509_517 := n8_; have NB517_509 := n9_; have NB510_517 := n10_; have NB517_510 := n11_; have NB511_517 := n12_; have NB517_511 := n13_; clear n0_ n1_ n2_ n3_ n4_ n5_ n6_ n7_ n8_ n9_ n10_ n11_ n12_ n13_; clear hb hbox hg; have hnb46 := NB517_509.out; have hnc46 := NB509_517.out; have hnb47 := NB517_510.out; have hnc47 := NB510_517.out; have hnb48 := NB517_511.out; have hnc48 := NB511_517.out; have hcz49_0 : w45.cell? ⟨gb517, 0, none⟩ = some (.int .i64 0) := bc_ BK517 0; have hcz49_1 : w45.cell? ⟨gb517, 1, none⟩ = some (.int .i64 0) := bc_ BK517 1; have hcz49_2 : w45.cell? ⟨gb517, 2, none⟩ = some (.slice none 0 0) := bc_ BK517 2; have hfz49_0 := blk_frozen BK517.out 0; have hfz49_1 := blk_frozen BK517.out 1; have hfz49_2 := blk_frozen BK517.out 2) | ((with_reducible refine gate_store (t := 29) (p := 9) rfl ?_); refine store_event (t := 29) (p := 9) (v := ?vo_w50) (w1 := (((w45.setCell ⟨gb517, 0, none⟩ (.int .i64 a0_0)).setCell ⟨gb517, 1, none⟩ (.int .i64 a0_1)).setCell ⟨gb517, 2, none⟩ (.slice none 0 0))) ?hg ?ho ?hn ?hr ?_; (case ho => rfl); (case hg => rfl); (case hn => rfl); (case hr => first | (go_simp; done) | (go_simp; rfl)); intro w50 hw; have n0_ : Aside0 (Kd.V k29 29 w50 w.heap.size (fun k_ => (P0_2_ k_ ∨ w.heap.size ≤ k_) ∧ k_ ≠ gb509 ∧ k_ ≠ gb510 ∧ k_ ≠ gb511 ∧ k_ ≠ gb517) (.slice A0_2 l0_2.length c0_2) l0_2) := ⟨(by rw [hw]; exact (by (with_reducible repeat (first | apply Kd.V_alloc | apply Kd.V_drewN | apply Kd.V_drew)); exact Kd.V_mono (Kd.V_far (p := ⟨gb517, 2, none⟩) (Kd.V_far (p := ⟨gb517, 1, none⟩) (Kd.V_far (p := ⟨gb517, 0, none⟩) (Kd.V_mono HO0_2.out (fun k_ hk => (⟨hk, hk.2⟩ : _ ∧ k_ ≠ gb517))) (fun _ hk => hk.2) (.int .i64 a0_0)) (fun _ hk => hk.2) (.int .i64 a0_1)) (fun _ hk => hk.2) (.slice none 0 0)) (fun _ hk => ⟨hk.1.1.1.1.1, ⟨hk.1.1.1.1.2, ⟨hk.1.1.1.2, ⟨hk.1.1.2, hk.1.2⟩⟩⟩⟩)))⟩; have n1_ : Aside0 (w50.heap[gb509]? = some (.cells #[.int .i64 a0_0, .int .i64 a0_1, .slice A0_2 l0_2.length c0_2] 29 (0, 0))) := ⟨(by rw [hw]; exact (by refine bk_ ?_; refine blk_far ?_ NB509_517.out _; refine bk_ ?_; refine blk_far ?_ NB509_517.out _; refine bk_ ?_; refine blk_far ?_ NB509_517.out _; exact bk_ BK509.out))⟩; have n2_ : Aside0 (w50.heap[gb510]? = some (.cells #[.int .i64 a3_0, .int .i64 a3_1, .slice A3_2 l3_2.length c3_2] 29 (0, 0))) := ⟨(by rw [hw]; exact (by refine bk_ ?_; refine blk_far ?_ NB510_517.out _; refine bk_ ?_; refine blk_far ?_ NB510_517.out _; refine bk_ ?_; refine blk_far ?_ NB510_517.out _; exact bk_ BK510.out))⟩; have n3_ : Aside0 (w50.heap[gb511]? = some (.cells #[.int .i64 0, .int .i64 0, .slice none 0 0] 29 (0, 0))) := ⟨(by rw [hw]; exact (by refine bk_ ?_; refine blk_far ?_ NB511_517.out _; refine bk_ ?_; refine blk_far ?_ NB511_517.out _; refine bk_ ?_; refine blk_far ?_ NB511_517.out _; exact bk_ BK511.out))⟩; have n4_ : Aside0 (w50.heap[gb517]? = some (.cells #[.int .i64 a0_0, .int .i64 a0_1, .slice none 0 0] 29 (0, 0))) := ⟨(by rw [hw]; exact (by refine bk_ ?_; refine blk_put (cs := #[.int .i64 a0_0, .int .i64 a0_1, .slice none 0 0]) ?_ 2 _ rfl; refine bk_ ?_; refine blk_put (cs := #[.int .i64 a0_0, .int .i64 0, .slice none 0 0]) ?_ 1 _ rfl; refine bk_ ?_; refine blk_put (cs := #[.int .i64 0, .int .i64 0, .slice none 0 0]) ?_ 0 _ rfl; exact bk_ BK517.out))⟩; have n5_ : Aside0 (Below w.heap.size w w50) := ⟨(by rw [hw]; exact zab)⟩; clear hw; clear HO0_2; clear BK509; clear BK510; clear BK511; clear BK517; clear HB; have HO0_2 := n0_; have BK509 := n1_; have BK510 := n2_; have BK511 := n3_; have BK517 := n4_; have HB := n5_; clear n0_ n1_ n2_ n3_ n4_ n5_))
  go_loopg [10] k (fun kq v10 w' => ∃ (x10_1 : Int) (x518002_1 : List (S29)) (u518002 : Value), v10 = .int .i64 x10_1 ∧ Aside0 (thyrsusref4_subst.l0 kq a1 a2 x10_1 a0_0 a0_1 l0_2 a3_0 a3_1 l3_2 a0_0 a0_1 x518002_1 = some (r1, r2, r3)) ∧ Aside0 (kq ≤ k) ∧ Aside0 (Kd.V k29 29 w' w.heap.size (fun k_ => (P0_2_ k_ ∨ w.heap.size ≤ k_) ∧ some k_ ≠ (u518002 : Value).ownBlock ∧ k_ ≠ gb509 ∧ k_ ≠ gb510 ∧ k_ ≠ gb511 ∧ k_ ≠ gb517) (.slice A0_2 l0_2.length c0_2) l0_2) ∧ Aside0 (Kd.N k29 29 w' w.heap.size (fun k_ => (P0_2_ k_ ∨ w.heap.size ≤ k_) ∧ k_ ≠ gb509 ∧ k_ ≠ gb510 ∧ k_ ≠ gb511 ∧ k_ ≠ gb517) u518002 x518002_1) ∧ Aside0 (w'.heap[gb509]? = some (.cells #[.int .i64 a0_0, .int .i64 a0_1, (.slice A0_2 l0_2.length c0_2)] 29 (0, 0))) ∧ Aside0 (w'.heap[gb510]? = some (.cells #[.int .i64 a3_0, .int .i64 a3_1, (.slice A3_2 l3_2.length c3_2)] 29 (0, 0))) ∧ Aside0 (w'.heap[gb511]? = some (.cells #[.int .i64 0, .int .i64 0, (.slice none 0 0)] 29 (0, 0))) ∧ Aside0 (w'.heap[gb517]? = some (.cells #[.int .i64 a0_0, .int .i64 a0_1, u518002] 29 (0, 0))) ∧ Aside0 (Below w.heap.size w w'))
  case atStart => exact ⟨(0), (([] : List (S29))), (.slice none 0 0), (by first | rfl | (simp; done) | (simp [*]; done)), H', ⟨Nat.le_refl _⟩, ⟨by (with_reducible repeat (first | apply Kd.V_alloc | apply Kd.V_drewN | apply Kd.V_drew)); exact Kd.V_mono HO0_2.out (fun _ hk => ⟨hk.1, ⟨(by simp [Value.ownBlock]), ⟨hk.2.1, ⟨hk.2.2.1, ⟨hk.2.2.2.1, hk.2.2.2.2⟩⟩⟩⟩⟩)⟩, ⟨by first | exact Kd.R_nil _ _ _ _ _ | exact Kd.N_nil _ _ _ _ _ | exact Kd.V_nil _ _ _ _ _ | exact Kd.Q_nil _ _ _ _ _ | exact Kd.S_nil _ _ _ _ _⟩, ⟨bk_ BK509.out⟩, ⟨bk_ BK510.out⟩, ⟨bk_ BK511.out⟩, ⟨bk_ BK517.out⟩, ⟨zab⟩⟩
  case round =>
   clear H'
   try clear c1
   try clear c2
   try clear p2
   try clear c3
   try clear c4
   try clear c5
   try clear c5b0
   try clear c5b1
   try clear c6
   try clear c6b0
   try clear c6b1
   try clear p6
   try clear c11
   try clear c12
   try clear c14
   try clear c20
   try clear c20b0
   try clear c24
   try clear c25
   try clear c27
   try clear c33
   try clear c34
   try clear c36
   try clear c38
   try clear c42
   try clear c43
   try clear c46
   try clear c47
   try clear c48
   try clear hcz13_0
   try clear hcz13_1
   try clear hcz13_2
   try clear hcz15_0
   try clear hcz15_1
   try clear hcz15_2
   try clear hcz17_0
   try clear hcz17_1
   try clear hcz17_2
   try clear hcz26_0
   try clear hcz26_1
   try clear hcz26_2
   try clear hcz28_0
   try clear hcz28_1
   try clear hcz28_2
   try clear hcz35_0
   try clear hcz35_1
   try clear hcz35_2
   try clear hcz37_0
   try clear hcz37_1
   try clear hcz37_2
   try clear hcz44_0
   try clear hcz44_1
   try clear hcz44_2
   try clear hcz49_0
   try clear hcz49_1
   try clear hcz49_2
   try clear hfz13_0
   try clear hfz13_1
   try clear hfz13_2
   try clear hfz15_0
   try clear hfz15_1
   try clear hfz15_2
   try clear hfz17_0
   try clear hfz17_1
   try clear hfz17_2
   try clear hfz26_0
   try clear hfz26_1
   try clear hfz26_2
   try clear hfz28_0
   try clear hfz28_1
   try clear hfz28_2
   try clear hfz35_0
   try clear hfz35_1
   try clear hfz35_2
   try clear hfz37_0
   try clear hfz37_1
   try clear hfz37_2
   try clear hfz44_0
   try clear hfz44_1
   try clear hfz44_2
   try clear hfz49_0
   try clear hfz49_1
   try clear hfz49_2
   try clear HO_510002
   try clear HO_518002
   try clear BK509
   try clear BK510
   try clear BK511
   try clear BK517
   try clear HB
   obtain ⟨x10_1, x518002_1, u518002, rfl, HA, HK1, HO_510002, HO_518002, BK509, BK510, BK511, BK517, HB⟩ := hrel
   cases gk with
   | zero => exact absurd HA.out (by simp [thyrsusref4_subst.l0])
   | succ k1 =>
    have H := HA.out
    clear HA
    simp only [thyrsusref4_subst.l0] at H
    by_cases c51 : x10_1 < (l0_2.length : Int)
    ·rw [if_pos c51] at H
     have c51b0 : decide (x10_1 < (l0_2.length : Int)) = true := decide_eq_true c51
     clear c51
     replace H := Option.bind_eq_some_iff.mp H
     obtain ⟨t518, A520, H⟩ := H
     replace H : (if 0 ≤ x10_1 then ((thyrsusref4_subst.f k1 ((rd_T29 l0_2 x10_1).f0) ((rd_T29 l0_2 x10_1).f1) ((rd_T29 l0_2 x10_1).f2) (wrap64 (a1 + t518)) (wrap64 (a2 + t518)) a3_0 a3_1 l3_2).bind fun bt520 => (if x518002_1.length < 3518437208883 then (thyrsusref4_subst.l0 k1 a1 a2 (wrap64 (x10_1 + 1)) a0_0 a0_1 l0_2 a3_0 a3_1 l3_2 a0_0 a0_1 (x518002_1 ++ [(⟨bt520.1, bt520.2.1, bt520.2.2⟩ : S29)])) else (none))) else (none)) = some (r1, r2, r3) := H
     have A52 := Aside0.mk A520
     clear A520
     by_cases c53 : 0 ≤ x10_1
     ·rw [if_pos c53] at H
      have c53b0 : decide (0 ≤ x10_1) = true := decide_eq_true c53
      clear c53
      replace H := Option.bind_eq_some_iff.mp H
      obtain ⟨⟨t520, t521, t522⟩, A540, H⟩ := H
      replace H : (if x518002_1.length < 3518437208883 then (thyrsusref4_subst.l0 k1 a1 a2 (wrap64 (x10_1 + 1)) a0_0 a0_1 l0_2 a3_0 a3_1 l3_2 a0_0 a0_1 (x518002_1 ++ [(⟨t520, t521, t522⟩ : S29)])) else (none)) = some (r1, r2, r3) := H
      have A54 := Aside0.mk A540
      clear A540
      by_cases c55 : x518002_1.length < 3518437208883
      ·rw [if_pos c55] at H
       have LMc55 := Aside0.mk c55
       clear c55
       obtain ⟨y525, hy525⟩ : ∃ y_ : List (S29), y_ = (x518002_1 ++ [(⟨t520, t521, t522⟩ : S29)]) := ⟨_, rfl⟩
       replace H : (thyrsusref4_subst.l0 k1 a1 a2 (wrap64 (x10_1 + 1)) a0_0 a0_1 l0_2 a3_0 a3_1 l3_2 a0_0 a0_1 y525) = some (r1, r2, r3) := by first | (rw [hy525]; with_reducible exact H) | (have H2_ := (Option.bind_some _ _).symm.trans H; rw [hy525]; with_reducible exact H2_) | (have H2_ := (Option.bind_some _ _).symm.trans H; with_reducible exact H2_) | with_reducible exact H | (rw [hy525]; exact H) | exact H
       have Ny525 := Aside0.mk hy525
       clear hy525
       have H' := Aside0.mk H
       clear H
       have hnb56 := NB509_510.out
       have hnc56 := NB510_509.out
       have hnb57 := NB509_511.out
       have hnc57 := NB511_509.out
       have hnb58 := NB509_517.out
       have hnc58 := NB517_509.out
       have hcz59_0 : wr.cell? ⟨gb509, 0, none⟩ = some (.int .i64 a0_0) := bc_ BK509 0
       have hcz59_1 : wr.cell? ⟨gb509, 1, none⟩ = some (.int .i64 a0_1) := bc_ BK509 1
       have hcz59_2 : wr.cell? ⟨gb509, 2, none⟩ = some (.slice A0_2 l0_2.length c0_2) := bc_ BK509 2
       have hfz59_0 := blk_frozen BK509.out 0
       have hfz59_1 := blk_frozen BK509.out 1
       have hfz59_2 := blk_frozen BK509.out 2
       try go_wp2_with (first | ((with_reducible refine gate_callee (f := 31) rfl ?_); refine goesL_ (some 48) rfl rfl Tryd.func31 zas rfl #[.int .i64 a0_0, .int .i64 x10_1] rfl zaj ?_; (with_reducible refine (thyrsusref4_Binders.calls k1 a0_0 x10_1 t518 _ A52.out).mono ?_); rintro e w' ⟨rfl, ⟨nd, rfl⟩⟩; refine ⟨_, rfl, ?_⟩; (try (rw [drewN_self wr]; generalize hq_ : World.drewN wr _ = wr; have n0_ : Aside0 (Kd.V k29 29 wr w.heap.size (fun k_ => (P0_2_ k_ ∨ w.heap.size ≤ k_) ∧ some k_ ≠ (u518002 : Value).ownBlock ∧ k_ ≠ gb509 ∧ k_ ≠ gb510 ∧ k_ ≠ gb511 ∧ k_ ≠ gb517) (.slice A0_2 l0_2.length c0_2) l0_2) := ⟨by rw [← hq_]; exact (by (with_reducible repeat (first | apply Kd.V_alloc | apply Kd.V_drewN | apply Kd.V_drew)); exact HO_510002.out)⟩; have n1_ : Aside0 (Kd.N k29 29 wr w.heap.size (fun k_ => (P0_2_ k_ ∨ w.heap.size ≤ k_) ∧ k_ ≠ gb509 ∧ k_ ≠ gb510 ∧ k_ ≠ gb511 ∧ k_ ≠ gb517) u518002 x518002_1) := ⟨by rw [← hq_]; exact zar⟩; have n2_ : Aside0 (wr.heap[gb509]? = some (.cells #[.int .i64 a0_0, .int .i64 a0_1, .slice A0_2 l0_2.length c0_2] 29 (0, 0))) := ⟨by rw [← hq_]; exact (bk_ BK509.out)⟩; have n3_ : Aside0 (wr.heap[gb510]? = some (.cells #[.int .i64 a3_0, .int .i64 a3_1, .slice A3_2 l3_2.length c3_2] 29 (0, 0))) := ⟨by rw [← hq_]; exact (bk_ BK510.out)⟩; have n4_ : Aside0 (wr.heap[gb511]? = some (.cells #[.int .i64 0, .int .i64 0, .slice none 0 0] 29 (0, 0))) := ⟨by rw [← hq_]; exact (bk_ BK511.out)⟩; have n5_ : Aside0 (wr.heap[gb517]? = some (.cells #[.int .i64 a0_0, .int .i64 a0_1, u518002] 29 (0, 0))) := ⟨by rw [← hq_]; exact (bk_ BK517.out)⟩; have n6_ : Aside0 (Below w.heap.size w wr) := ⟨by rw [← hq_]; exact zab⟩; clear HO_510002 HO_518002 BK509 BK510 BK511 BK517 HB hq_; have HO_510002 := n0_; have HO_518002 := n1_; have BK509 := n2_; have BK510 := n3_; have BK511 := n4_; have BK517 := n5_; have HB := n6_; clear n0_ n1_ n2_ n3_ n4_ n5_ n6_))))
       have n0_ := Aside0.mk (Kd.V_drew HO_510002.out)
       have n1_ := Aside0.mk (Kd.N_drew HO_518002.out)
       have n2_ := Aside0.mk (blk_drew BK509.out)
       have n3_ := Aside0.mk (blk_drew BK510.out)
       have n4_ := Aside0.mk (blk_drew BK511.out)
       have n5_ := Aside0.mk (blk_drew BK517.out)
       have n6_ := Aside0.mk (below_drew1 HB.out)
       clear HO_510002
       clear HO_518002
       clear BK509
       clear BK510
       clear BK511
       clear BK517
       clear HB
       have HO_510002 := n0_
       have HO_518002 := n1_
       have BK509 := n2_
       have BK510 := n3_
       have BK511 := n4_
       have BK517 := n5_
       have HB := n6_
       clear n0_ n1_ n2_ n3_ n4_ n5_ n6_
       have p519 : 0 ≤ (x10_1 : Int) := of_decide_eq_true (by first | (with_reducible assumption) | assumption)
       have q519 : x10_1 < (l0_2.length : Int) := of_decide_eq_true (by first | (with_reducible assumption) | assumption)
       obtain ⟨ad519, A519_2, c519_2, e519, hx519_0, hx519_1, hx519_2, hl519_2, hi519_2⟩ := at_T29 (Kd.V_reads' HO_510002.out).2.2 x10_1 p519 q519
       cases e519
       obtain ⟨ce519, hce519, hMe519, hcc519⟩ := Kd.V_get HO_510002.out z29 x10_1 p519 (by first | exact q519 | exact of_decide_eq_true (by first | (with_reducible assumption) | assumption) | (have e_ := (Kd.V_reads' HO_510002.out).1; omega))
       obtain ⟨ua519_2, uc519_2, rfl, ul519_2, ge519_2⟩ := k29_openF hMe519
       have hv519_2 := hcc519 2 _ rfl
       rw [add_field _ _ 2 (by omega)] at hv519_2
       replace hv519_2 := Option.some.inj (hv519_2.symm.trans hx519_2)
       injection hv519_2 with hva_ hvn_ hvc_
       rw [hva_] at ge519_2
       rw [hvc_] at ul519_2
       have HL519_2 := Aside0.mk (show Kd.V k29 29 _ w.heap.size _ _ ((rd_T29 l0_2 x10_1).f2) from Kd.V_mk ul519_2 ge519_2)
       clear hva_ hvn_ hvc_ ge519_2 ul519_2
       clear hcc519 hce519
       have HR519_2 := Aside0.mk hi519_2
       have HC519_2 := Aside0.mk hl519_2
       clear hi519_2 hl519_2
       replace p519 := eq_true p519
       replace q519 := eq_true q519
       refine start_ (n := 19) (S := fun w' => w'.cell? ⟨gb517, 0, none⟩ = some (.int .i64 a0_0) ∧ w'.cell? ⟨gb517, 1, none⟩ = some (.int .i64 a0_1) ∧ w'.cell? ⟨gb517, 2, none⟩ = some (u518002) ∧ w'.cell? ⟨gb509, 0, none⟩ = some (.int .i64 a0_0) ∧ w'.cell? ⟨gb509, 1, none⟩ = some (.int .i64 a0_1) ∧ w'.cell? ⟨gb509, 2, none⟩ = some (.slice (some ad519) l0_2.length c0_2) ∧ w'.cell? ⟨gb510, 0, none⟩ = some (.int .i64 a3_0) ∧ w'.cell? ⟨gb510, 1, none⟩ = some (.int .i64 a3_1) ∧ w'.cell? ⟨gb510, 2, none⟩ = some (.slice A3_2 l3_2.length c3_2) ∧ w'.cell? (ad519.add ((x10_1).toNat * 3)) = some (.int .i64 ((rd_T29 l0_2 x10_1).f0)) ∧ w'.cell? ⟨(ad519.add ((x10_1).toNat * 3)).block, (ad519.add ((x10_1).toNat * 3)).off + 1, none⟩ = some (.int .i64 ((rd_T29 l0_2 x10_1).f1)) ∧ w'.cell? ⟨(ad519.add ((x10_1).toNat * 3)).block, (ad519.add ((x10_1).toNat * 3)).off + 2, none⟩ = some (.slice A519_2 ((rd_T29 l0_2 x10_1).f2).length c519_2)) (ds := [16, 18]) #[false, false, false, false, false, false, false, false, false, false, false, false, false, false, false, false, false, false, false] zas rfl rfl ⟨bc_ BK517 0, bc_ BK517 1, bc_ BK517 2, bc_ BK509 0, bc_ BK509 1, bc_ BK509 2, bc_ BK510 0, bc_ BK510 1, bc_ BK510 2, hx519_0, hx519_1, hx519_2⟩ (fun hHeld => ?_); refine with_tabW thyrsusref4_subst.tab12 thyrsusref4_subst.bits12 (fun HT_ HW_ => ?_)
       generalize wr.drew = w60 at HO_510002 HO_518002 BK509 BK510 BK511 BK517 HB HL519_2 HR519_2 hx519_0 hx519_1 hx519_2 hHeld ⊢
       refine pure_ (i := 0) (N := some 49) (v := ?_) (a' := ?_) #[true, false, false, false, false, false, false, false, false, false, false, false, false, false, false, false, false, false, false] rfl rfl (any_of HT_.out zas) (fun _ _ _ h => h) (Or.inl ⟨by rfl, ?_⟩) ?_ ?_
       rotate_left
       ·intro w'
        go_simp
        with_reducible rfl
       rotate_left
       ·simp only [Act.put, List.setIfInBounds_toArray, List.set_cons_zero, List.set_cons_succ, i64_w, i32_w, u8_w, u32_w]
        rfl
       refine pure_ (i := 2) (N := some 51) (v := ?_) (a' := ?_) #[true, false, true, false, false, false, false, false, false, false, false, false, false, false, false, false, false, false, false] rfl rfl (any_of HT_.out zas) (fun _ _ _ h => h) (Or.inl ⟨by rfl, ?_⟩) ?_ ?_
       rotate_left
       ·intro w'
        go_simp
        with_reducible rfl
       rotate_left
       ·simp only [Act.put, List.setIfInBounds_toArray, List.set_cons_zero, List.set_cons_succ, i64_w, i32_w, u8_w, u32_w]
        rfl
       refine pure_ (i := 4) (N := some 53) (v := ?_) (a' := ?_) #[true, false, true, false, true, false, false, false, false, false, false, false, false, false, false, false, false, false, false] rfl rfl (any_of HT_.out zas) (fun _ _ _ h => h) (Or.inl ⟨by rfl, ?_⟩) ?_ ?_
       rotate_left
       ·intro w'
        go_simp
        with_reducible rfl
       rotate_left
       ·simp only [Act.put, List.setIfInBounds_toArray, List.set_cons_zero, List.set_cons_succ, i64_w, i32_w, u8_w, u32_w]
        rfl
       refine pure_ (i := 7) (N := some 56) (v := ?_) (a' := ?_) #[true, false, true, false, true, false, false, true, false, false, false, false, false, false, false, false, false, false, false] rfl rfl (any_of HT_.out zas) (fun _ _ _ h => h) (Or.inl ⟨by rfl, ?_⟩) ?_ ?_
       rotate_left
       ·intro w'
        go_simp
        with_reducible rfl
       rotate_left
       ·simp only [Act.put, List.setIfInBounds_toArray, List.set_cons_zero, List.set_cons_succ, i64_w, i32_w, u8_w, u32_w]
        rfl
       refine pure_ (i := 8) (N := some 57) (v := ?_) (a' := ?_) #[true, false, true, false, true, false, false, true, true, false, false, false, false, false, false, false, false, false, false] rfl rfl (any_of HT_.out zas) (fun _ _ _ h => h) (Or.inl ⟨by rfl, ?_⟩) ?_ ?_
       rotate_left
       ·intro w'
        go_simp
        with_reducible rfl
       rotate_left
       ·simp only [Act.put, List.setIfInBounds_toArray, List.set_cons_zero, List.set_cons_succ, i64_w, i32_w, u8_w, u32_w]
        rfl
       refine pure_ (i := 9) (N := some 58) (v := ?_) (a' := ?_) #[true, false, true, false, true, false, false, true, true, true, false, false, false, false, false, false, false, false, false] rfl rfl (any_of HT_.out zas) (fun _ _ _ h => h) (Or.inl ⟨by rfl, ?_⟩) ?_ ?_
       rotate_left
       ·intro w'
        go_simp
        with_reducible rfl
       rotate_left
       ·simp only [Act.put, List.setIfInBounds_toArray, List.set_cons_zero, List.set_cons_succ, i64_w, i32_w, u8_w, u32_w]
        rfl
       refine pure_ (i := 10) (N := some 59) (v := ?_) (a' := ?_) #[true, false, true, false, true, false, false, true, true, true, true, false, false, false, false, false, false, false, false] rfl rfl (any_of HT_.out zas) (fun _ _ _ h => h) (Or.inl ⟨by rfl, ?_⟩) ?_ ?_
       rotate_left
       ·intro w'
        go_simp
        with_reducible rfl
       rotate_left
       ·simp only [Act.put, List.setIfInBounds_toArray, List.set_cons_zero, List.set_cons_succ, i64_w, i32_w, u8_w, u32_w]
        rfl
       refine pure_ (i := 11) (N := some 60) (v := ?_) (a' := ?_) #[true, false, true, false, true, false, false, true, true, true, true, true, false, false, false, false, false, false, false] rfl rfl (any_of HT_.out zas) (fun _ _ _ h => h) (Or.inl ⟨by rfl, ?_⟩) ?_ ?_
       rotate_left
       ·intro w'
        go_simp
        with_reducible rfl
       rotate_left
       ·simp only [Act.put, List.setIfInBounds_toArray, List.set_cons_zero, List.set_cons_succ, i64_w, i32_w, u8_w, u32_w]
        rfl
       refine pure_ (i := 12) (N := some 61) (v := ?_) (a' := ?_) #[true, false, true, false, true, false, false, true, true, true, true, true, true, false, false, false, false, false, false] rfl rfl (any_of HT_.out zas) (fun _ _ _ h => h) (Or.inl ⟨by rfl, ?_⟩) ?_ ?_
       rotate_left
       ·intro w'
        go_simp
        with_reducible rfl
       rotate_left
       ·simp only [Act.put, List.setIfInBounds_toArray, List.set_cons_zero, List.set_cons_succ, i64_w, i32_w, u8_w, u32_w]
        rfl
       refine take_ (i := 1) (N := some 50) (v := ?_) (a' := ?_) #[true, true, true, false, true, false, false, true, true, true, true, true, true, false, false, false, false, false, false] rfl rfl (take_ofW HT_.out HW_.out zas) (fun _ _ _ h => h) (Or.inl ⟨by rfl, ?_⟩) hHeld ?_ ?_
       rotate_left
       ·rintro w' ⟨s0, s1, s2, s3, s4, s5, s6, s7, s8, s9, s10, s11⟩
        go_simp
        with_reducible rfl
       rotate_left
       ·simp only [Act.put, List.setIfInBounds_toArray, List.set_cons_zero, List.set_cons_succ, i64_w, i32_w, u8_w, u32_w]
        rfl
       refine take_ (i := 3) (N := some 52) (v := ?_) (a' := ?_) #[true, true, true, true, true, false, false, true, true, true, true, true, true, false, false, false, false, false, false] rfl rfl (take_ofW HT_.out HW_.out zas) (fun _ _ _ h => h) (Or.inl ⟨by rfl, ?_⟩) hHeld ?_ ?_
       rotate_left
       ·rintro w' ⟨s0, s1, s2, s3, s4, s5, s6, s7, s8, s9, s10, s11⟩
        go_simp
        with_reducible rfl
       rotate_left
       ·simp only [Act.put, List.setIfInBounds_toArray, List.set_cons_zero, List.set_cons_succ, i64_w, i32_w, u8_w, u32_w]
        rfl
       refine pure_ (i := 5) (N := some 54) (v := ?_) (a' := ?_) #[true, true, true, true, true, true, false, true, true, true, true, true, true, false, false, false, false, false, false] rfl rfl (any_of HT_.out zas) (fun _ _ _ h => h) (Or.inl ⟨by rfl, ?_⟩) ?_ ?_
       rotate_left
       ·intro w'
        go_simp
        with_reducible rfl
       rotate_left
       ·simp only [Act.put, List.setIfInBounds_toArray, List.set_cons_zero, List.set_cons_succ, i64_w, i32_w, u8_w, u32_w]
        rfl
       refine take_ (i := 6) (N := some 55) (v := ?_) (a' := ?_) #[true, true, true, true, true, true, true, true, true, true, true, true, true, false, false, false, false, false, false] rfl rfl (take_ofW HT_.out HW_.out zas) (fun _ _ _ h => h) (Or.inl ⟨by rfl, ?_⟩) hHeld ?_ ?_
       rotate_left
       ·rintro w' ⟨s0, s1, s2, s3, s4, s5, s6, s7, s8, s9, s10, s11⟩
        go_simp
        with_reducible rfl
       rotate_left
       ·simp only [Act.put, List.setIfInBounds_toArray, List.set_cons_zero, List.set_cons_succ, i64_w, i32_w, u8_w, u32_w]
        rfl
       refine take_ (i := 13) (N := some 62) (v := ?_) (a' := ?_) #[true, true, true, true, true, true, true, true, true, true, true, true, true, true, false, false, false, false, false] rfl rfl (take_ofW HT_.out HW_.out zas) (fun _ _ _ h => h) (Or.inl ⟨by rfl, ?_⟩) hHeld ?_ ?_
       rotate_left
       ·rintro w' ⟨s0, s1, s2, s3, s4, s5, s6, s7, s8, s9, s10, s11⟩
        go_simp
        with_reducible rfl
       rotate_left
       ·simp only [Act.put, List.setIfInBounds_toArray, List.set_cons_zero, List.set_cons_succ, i64_w, i32_w, u8_w, u32_w]
        rfl
       refine one_ (i := 14) (N := some 63) #[true, true, true, true, true, true, true, true, true, true, true, true, true, true, true, false, false, false, false] rfl rfl (one_of HT_.out zas) (by decide) (fun K hK => ?_)
       refine goes_ Tryd.func58 zas rfl #[.agg #[.int .i64 ((rd_T29 l0_2 x10_1).f0), .int .i64 ((rd_T29 l0_2 x10_1).f1), .slice A519_2 ((rd_T29 l0_2 x10_1).f2).length c519_2], .int .i64 (wrap64 (a1 + t518)), .int .i64 (wrap64 (a2 + t518)), .agg #[.int .i64 a3_0, .int .i64 a3_1, .slice A3_2 l3_2.length c3_2]] (by rfl) rfl rfl zaj ?_
       with_reducible refine (ih k1 (by have := HK1.out; omega) ((rd_T29 l0_2 x10_1).f0) ((rd_T29 l0_2 x10_1).f1) (fun k_ => ((P0_2_ k_ ∨ w.heap.size ≤ k_) ∧ (some k_ ≠ (u518002 : Value).ownBlock ∧ (k_ ≠ gb509 ∧ (k_ ≠ gb510 ∧ (k_ ≠ gb511 ∧ k_ ≠ gb517)))))) _ _ ((rd_T29 l0_2 x10_1).f2) (wrap64 (a1 + t518)) (wrap64 (a2 + t518)) a3_0 a3_1 _ _ l3_2 t520 t521 t522 _ ?side1 ?side2 ?side3 A54.out).mono ?_
       (case side1 => exact HL519_2.out)
       (case side2 => repeat (first | exact (Kd.C_below HR3_2.out HB.out) | (with_reducible refine Kd.C_alloc ?_ _) | (with_reducible refine Kd.C_drewN ?_ _) | (with_reducible refine Kd.C_drew ?_)))
       (case side3 => exact HC3_2.out)
       rintro e w61 ⟨v523, rfl, ho0, hb⟩
       have HS9_ := (hb.cell (World.block_lt_of_cell? _ _ (hHeld.2.2.2.2.2.2.2.2.2.1))).trans (hHeld.2.2.2.2.2.2.2.2.2.1)
       have HS10_ := (hb.cell (World.block_lt_of_cell? _ _ (hHeld.2.2.2.2.2.2.2.2.2.2.1))).trans (hHeld.2.2.2.2.2.2.2.2.2.2.1)
       have HS11_ := (hb.cell (World.block_lt_of_cell? _ _ (hHeld.2.2.2.2.2.2.2.2.2.2.2))).trans (hHeld.2.2.2.2.2.2.2.2.2.2.2)
       refine ⟨_, rfl, ?_⟩
       have n0_ := Aside0.mk (Kd.V_below (by (with_reducible repeat (first | apply Kd.V_alloc | apply Kd.V_drewN | apply Kd.V_drew)); exact HO_510002.out) hb)
       have n1_ := Aside0.mk (Kd.N_below zar hb)
       have n2_ := Aside0.mk (Kd.V_below (by (with_reducible repeat (first | apply Kd.V_alloc | apply Kd.V_drewN | apply Kd.V_drew)); exact HL519_2.out) hb)
       have n3_ := Aside0.mk (Kd.V_lower (Kd.V_mono (ok' := fun k_ => (P0_2_ k_ ∨ w.heap.size ≤ k_) ∧ some k_ ≠ (u518002 : Value).ownBlock ∧ k_ ≠ gb509 ∧ k_ ≠ gb510 ∧ k_ ≠ gb511 ∧ k_ ≠ gb517) ho0 (fun k_ hk_ => ⟨Or.elim hk_ (fun hs_ => hs_.1) (fun hn_ => (.inr (Nat.le_trans (below_size zab) hn_))), Or.elim hk_ (fun hs_ => hs_.2.1) (fun hn_ => (Kd.fresh' (Kd.N_lt zar) k_ hn_)), Or.elim hk_ (fun hs_ => hs_.2.2.1) (fun hn_ => (Kd.freshB (g := gb509) (o := .cells #[.int .i64 a0_0, .int .i64 a0_1, .slice (some ad519) l0_2.length c0_2] 29 (0, 0)) (bk_ BK509.out) k_ hn_)), Or.elim hk_ (fun hs_ => hs_.2.2.2.1) (fun hn_ => (Kd.freshB (g := gb510) (o := .cells #[.int .i64 a3_0, .int .i64 a3_1, .slice A3_2 l3_2.length c3_2] 29 (0, 0)) (bk_ BK510.out) k_ hn_)), Or.elim hk_ (fun hs_ => hs_.2.2.2.2.1) (fun hn_ => (Kd.freshB (g := gb511) (o := .cells #[.int .i64 0, .int .i64 0, .slice none 0 0] 29 (0, 0)) (bk_ BK511.out) k_ hn_)), Or.elim hk_ (fun hs_ => hs_.2.2.2.2.2) (fun hn_ => (Kd.freshB (g := gb517) (o := .cells #[.int .i64 a0_0, .int .i64 a0_1, u518002] 29 (0, 0)) (bk_ BK517.out) k_ hn_))⟩)) (below_size zab))
       have n4_ := Aside0.mk (blk_below (g := gb509) (o := .cells #[.int .i64 a0_0, .int .i64 a0_1, .slice (some ad519) l0_2.length c0_2] 29 (0, 0)) (bk_ BK509.out) hb)
       have n5_ := Aside0.mk (blk_below (g := gb510) (o := .cells #[.int .i64 a3_0, .int .i64 a3_1, .slice A3_2 l3_2.length c3_2] 29 (0, 0)) (bk_ BK510.out) hb)
       have n6_ := Aside0.mk (blk_below (g := gb511) (o := .cells #[.int .i64 0, .int .i64 0, .slice none 0 0] 29 (0, 0)) (bk_ BK511.out) hb)
       have n7_ := Aside0.mk (blk_below (g := gb517) (o := .cells #[.int .i64 a0_0, .int .i64 a0_1, u518002] 29 (0, 0)) (bk_ BK517.out) hb)
       have n8_ := Aside0.mk (Kd.C_below (by repeat (first | (with_reducible exact HR519_2.out) | (with_reducible refine Kd.C_alloc ?_ _) | (with_reducible refine Kd.C_drewN ?_ _) | (with_reducible refine Kd.C_drew ?_) | exact HR519_2.out)) hb)
       have n9_ := Aside0.mk (below_step zab hb)
       clear HO_510002
       clear HO_518002
       clear HL519_2
       clear BK509
       clear BK510
       clear BK511
       clear BK517
       clear HR519_2
       clear HB
       have HO_510002 := n0_
       have HO_518002 := n1_
       have HL519_2 := n2_
       have HO524 := n3_
       have BK509 := n4_
       have BK510 := n5_
       have BK511 := n6_
       have BK517 := n7_
       have HR519_2 := n8_
       have HB := n9_
       clear n0_ n1_ n2_ n3_ n4_ n5_ n6_ n7_ n8_ n9_
       (try clear hb)
       (try clear hb2)
       (try clear hk)
       (try clear hi)
       (try clear ho0)
       obtain ⟨Ao63, co63, eo63⟩ := Kd.V_slice HO524.out
       (first | subst eo63 | (injection eo63 with f1_ f2_ f3_; have f4_ := f1_.symm; have f5_ := f3_.symm; clear f1_ f2_ f3_; subst f4_; subst f5_))
       refine hK.out _ _ ⟨bc_ BK517 0, bc_ BK517 1, bc_ BK517 2, bc_ BK509 0, bc_ BK509 1, bc_ BK509 2, bc_ BK510 0, bc_ BK510 1, bc_ BK510 2, HS9_, HS10_, HS11_⟩ (fun hHeld => ?_)
       clear hK K
       refine norm_ (a' := ?_) ?_ ?_
       rotate_left
       ·show Act.put _ (some 63) _ = _
        simp only [Act.put, List.setIfInBounds_toArray, List.set_cons_zero, List.set_cons_succ, i64_w, i32_w, u8_w, u32_w]
        rfl
       refine one_ (i := 15) (N := some 64) #[true, true, true, true, true, true, true, true, true, true, true, true, true, true, true, true, false, false, false] rfl rfl (one_of HT_.out zas) (by decide) (fun K hK => ?_)
       refine value_ (w1 := ?_) (v := ?_) (by rfl) rfl ?_ ?_
       rotate_left 2
       ·go_simp
        constructor
        ·rfl
        ·rfl
       refine hK.out _ _ ⟨(blk_cell (blk_alloc BK517.out _) 0).trans rfl, (blk_cell (blk_alloc BK517.out _) 1).trans rfl, (blk_cell (blk_alloc BK517.out _) 2).trans rfl, (blk_cell (blk_alloc BK509.out _) 0).trans rfl, (blk_cell (blk_alloc BK509.out _) 1).trans rfl, (blk_cell (blk_alloc BK509.out _) 2).trans rfl, (blk_cell (blk_alloc BK510.out _) 0).trans rfl, (blk_cell (blk_alloc BK510.out _) 1).trans rfl, (blk_cell (blk_alloc BK510.out _) 2).trans rfl, (World.cell?_alloc_lt _ _ _ (World.block_lt_of_cell? _ _ (hHeld.2.2.2.2.2.2.2.2.2.1))).trans (hHeld.2.2.2.2.2.2.2.2.2.1), (World.cell?_alloc_lt _ _ _ (World.block_lt_of_cell? _ _ (hHeld.2.2.2.2.2.2.2.2.2.2.1))).trans (hHeld.2.2.2.2.2.2.2.2.2.2.1), (World.cell?_alloc_lt _ _ _ (World.block_lt_of_cell? _ _ (hHeld.2.2.2.2.2.2.2.2.2.2.2))).trans (hHeld.2.2.2.2.2.2.2.2.2.2.2)⟩ (fun hHeld => ?_)
       clear hK K
       refine norm_ (a' := ?_) ?_ ?_
       rotate_left
       ·show Act.put _ (some 64) _ = _
        simp only [Act.put, List.setIfInBounds_toArray, List.set_cons_zero, List.set_cons_succ, i64_w, i32_w, u8_w, u32_w]
        rfl
       refine last_ (i := 16) (N := some 65) #[true, true, true, true, true, true, true, true, true, true, true, true, true, true, true, true, true, false, false] rfl rfl (one_of HT_.out zas) (by decide) (fun K hK => ?_)
       refine Kd.N_append_step k29 (w0 := w) w.heap.size (by rfl) (.tmp 50) (.tmp 64) 27 29 (.agg #[(.int .i64 0), (.int .i64 0), (.slice none 0 0)]) 40 rfl Tryd.underlying27 info29 rfl (by decide) (by omega) u518002 x518002_1 (⟨t520, t521, t522⟩ : S29) [.int .i64 t520, .int .i64 t521, .slice Ao63 t522.length co63] (fun k_ => (P0_2_ k_ ∨ w.heap.size ≤ k_) ∧ k_ ≠ gb509 ∧ k_ ≠ gb510 ∧ k_ ≠ gb511 ∧ k_ ≠ gb517) (fun k_ => ((fun k_ => (P0_2_ k_ ∨ w.heap.size ≤ k_) ∧ k_ ≠ gb509 ∧ k_ ≠ gb510 ∧ k_ ≠ gb511 ∧ k_ ≠ gb517)) k_ ∧ some k_ ≠ (u518002 : Value).ownBlock) rfl rfl ?aP (fun _ hk => hk) ?aF ?aO ?aB ?aS ?aL ?_
       (case aP => exact (k29_mkF _ _ (⟨t520, t521, t522⟩ : S29) (Kd.V_reads' (Kd.V_mono (ok' := (fun k_ => ((fun k_ => (P0_2_ k_ ∨ w.heap.size ≤ k_) ∧ k_ ≠ gb509 ∧ k_ ≠ gb510 ∧ k_ ≠ gb511 ∧ k_ ≠ gb517)) k_ ∧ some k_ ≠ (u518002 : Value).ownBlock)) (HO524.out) (fun k_ hk => ⟨⟨hk.1, ⟨hk.2.2.1, ⟨hk.2.2.2.1, ⟨hk.2.2.2.2.1, hk.2.2.2.2.2⟩⟩⟩⟩, hk.2.1⟩))).2.1 (Kd.V_F (Kd.V_mono (ok' := (fun k_ => ((fun k_ => (P0_2_ k_ ∨ w.heap.size ≤ k_) ∧ k_ ≠ gb509 ∧ k_ ≠ gb510 ∧ k_ ≠ gb511 ∧ k_ ≠ gb517)) k_ ∧ some k_ ≠ (u518002 : Value).ownBlock)) (HO524.out) (fun k_ hk => ⟨⟨hk.1, ⟨hk.2.2.1, ⟨hk.2.2.2.1, ⟨hk.2.2.2.2.1, hk.2.2.2.2.2⟩⟩⟩⟩, hk.2.1⟩)))))
       (case aB => exact zab)
       (case aF => exact (fun k_ hk => ⟨(.inr (Nat.le_trans (below_size zab) hk)), Kd.freshB (g := gb509) (o := .cells #[.int .i64 a0_0, .int .i64 a0_1, .slice (some ad519) l0_2.length c0_2] 29 (0, 0)) (bk_ BK509.out) k_ hk, Kd.freshB (g := gb510) (o := .cells #[.int .i64 a3_0, .int .i64 a3_1, .slice A3_2 l3_2.length c3_2] 29 (0, 0)) (bk_ BK510.out) k_ hk, Kd.freshB (g := gb511) (o := .cells #[.int .i64 0, .int .i64 0, .slice none 0 0] 29 (0, 0)) (bk_ BK511.out) k_ hk, Kd.freshB (g := gb517) (o := .cells #[.int .i64 a0_0, .int .i64 a0_1, u518002] 29 (0, 0)) (bk_ BK517.out) k_ hk⟩))
       (case aO => exact zar)
       (case aS => exact (below_size zab))
       (case aL => have := LMc55.out; omega)
       intro v526 w62 ho hb hg hat
       rw [← Ny525.out] at ho
       have n0_ := Aside0.mk (Kd.V_afterv (ok := (fun k_ => (P0_2_ k_ ∨ w.heap.size ≤ k_) ∧ k_ ≠ gb509 ∧ k_ ≠ gb510 ∧ k_ ≠ gb511 ∧ k_ ≠ gb517)) (by (with_reducible repeat (first | apply Kd.V_alloc | apply Kd.V_drewN | apply Kd.V_drew)); exact Kd.V_mono HO_510002.out (fun _ hk => ⟨⟨hk.1, ⟨hk.2.2.1, ⟨hk.2.2.2.1, ⟨hk.2.2.2.2.1, hk.2.2.2.2.2⟩⟩⟩⟩, hk.2.1⟩)) hg hat)
       have n1_ := Aside0.mk (blk_grown (g := gb509) (o := .cells #[.int .i64 a0_0, .int .i64 a0_1, .slice (some ad519) l0_2.length c0_2] 29 (0, 0)) (bk_ BK509.out) hg (Kd.N_away HO_518002.out (fun _ hk => hk.2.1)))
       have n2_ := Aside0.mk (blk_grown (g := gb510) (o := .cells #[.int .i64 a3_0, .int .i64 a3_1, .slice A3_2 l3_2.length c3_2] 29 (0, 0)) (bk_ BK510.out) hg (Kd.N_away HO_518002.out (fun _ hk => hk.2.2.1)))
       have n3_ := Aside0.mk (blk_grown (g := gb511) (o := .cells #[.int .i64 0, .int .i64 0, .slice none 0 0] 29 (0, 0)) (bk_ BK511.out) hg (Kd.N_away HO_518002.out (fun _ hk => hk.2.2.2.1)))
       have n4_ := Aside0.mk (blk_grown (g := gb517) (o := .cells #[.int .i64 a0_0, .int .i64 a0_1, u518002] 29 (0, 0)) (bk_ BK517.out) hg (Kd.N_away HO_518002.out (fun _ hk => hk.2.2.2.2)))
       have n5_ := Aside0.mk (Kd.V_afterv (ok := (fun k_ => (P0_2_ k_ ∨ w.heap.size ≤ k_) ∧ k_ ≠ gb509 ∧ k_ ≠ gb510 ∧ k_ ≠ gb511 ∧ k_ ≠ gb517)) (by (with_reducible repeat (first | apply Kd.V_alloc | apply Kd.V_drewN | apply Kd.V_drew)); exact Kd.V_mono HL519_2.out (fun _ hk => ⟨⟨hk.1, ⟨hk.2.2.1, ⟨hk.2.2.2.1, ⟨hk.2.2.2.2.1, hk.2.2.2.2.2⟩⟩⟩⟩, hk.2.1⟩)) hg hat)
       have n6_ := Aside0.mk (Kd.V_afterv (ok := (fun k_ => (P0_2_ k_ ∨ w.heap.size ≤ k_) ∧ k_ ≠ gb509 ∧ k_ ≠ gb510 ∧ k_ ≠ gb511 ∧ k_ ≠ gb517)) (by (with_reducible repeat (first | apply Kd.V_alloc | apply Kd.V_drewN | apply Kd.V_drew)); exact Kd.V_mono HO524.out (fun _ hk => ⟨⟨hk.1, ⟨hk.2.2.1, ⟨hk.2.2.2.1, ⟨hk.2.2.2.2.1, hk.2.2.2.2.2⟩⟩⟩⟩, hk.2.1⟩)) hg hat)
       have n7_ := Aside0.mk (hb)
       have n8_ := Aside0.mk (ho)
       clear HO_510002
       clear BK509
       clear BK510
       clear BK511
       clear BK517
       clear HL519_2
       clear HO524
       clear HB
       clear HO_518002
       have HO_510002 := n0_
       have BK509 := n1_
       have BK510 := n2_
       have BK511 := n3_
       have BK517 := n4_
       have HL519_2 := n5_
       have HO524 := n6_
       have HB := n7_
       have HO527 := n8_
       clear n0_ n1_ n2_ n3_ n4_ n5_ n6_ n7_ n8_
       clear ho hb hg hat
       obtain ⟨Ao64, co64, eo64⟩ := Kd.N_slice HO527.out
       (first | subst eo64 | (injection eo64 with f1_ f2_ f3_; have f4_ := f1_.symm; have f5_ := f3_.symm; clear f1_ f2_ f3_; subst f4_; subst f5_))
       refine hK.out _ _ ?_
       clear hK K
       refine norm_ (a' := ?_) ?_ ?_
       rotate_left
       ·show Act.put _ (some 65) _ = _
        simp only [Act.put, List.setIfInBounds_toArray, List.set_cons_zero, List.set_cons_succ, i64_w, i32_w, u8_w, u32_w]
        rfl
       refine pure_ (i := 17) (N := some 66) (v := ?_) (a' := ?_) #[true, true, true, true, true, true, true, true, true, true, true, true, true, true, true, true, true, true, false] rfl rfl (any_of HT_.out zas) (fun _ _ _ h => h) (Or.inl ⟨by rfl, ?_⟩) ?_ ?_
       rotate_left
       ·intro w'
        go_simp
        with_reducible rfl
       rotate_left
       ·simp only [Act.put, List.setIfInBounds_toArray, List.set_cons_zero, List.set_cons_succ, i64_w, i32_w, u8_w, u32_w]
        rfl
       refine last_ (i := 18) (N := none) #[true, true, true, true, true, true, true, true, true, true, true, true, true, true, true, true, true, true, true] rfl rfl (one_of HT_.out zas) (by decide) (fun K hK => ?_)
       have hs65 : w62.cell? ⟨gb517, 2, none⟩ = some (u518002) := bc_ BK517 2
       have hfs65 := blk_frozen BK517.out 2
       have hns65_0 := NB509_517.out
       have hns65_1 := NB510_517.out
       have hns65_2 := NB511_517.out
       have hms65_0 := NB517_509.out
       have hms65_1 := NB517_510.out
       have hms65_2 := NB517_511.out
       refine skip_ (w1 := ?_) (by rfl) rfl ?_ ?_
       rotate_left
       ·go_simp
        rfl
       refine hK.out _ _ ?_
       clear hK K
       refine done_ (done_of HT_.out zas) ?_
       try go_wp2
       go_roundg k1
       case measure => have := HK1.out; omega
       case rel => exact ⟨(wrap64 (x10_1 + 1)), (y525), (.slice Ao64 y525.length co64), (by first | rfl | (simp; done) | (simp [*]; done)), H', ⟨by have := HK1.out; omega⟩, ⟨by (with_reducible repeat (first | apply Kd.V_alloc | apply Kd.V_drewN | apply Kd.V_drew)); exact Kd.V_mono (Kd.V_far (p := ⟨gb517, 2, none⟩) (Kd.V_mono HO_510002.out (fun k_ hk => (⟨hk, hk.1.2.2.2.2⟩ : _ ∧ k_ ≠ gb517))) (fun _ hk => hk.2) (.slice Ao64 y525.length co64)) (fun _ hk => ⟨hk.1.1.1, ⟨hk.1.2, ⟨hk.1.1.2.1, ⟨hk.1.1.2.2.1, ⟨hk.1.1.2.2.2.1, hk.1.1.2.2.2.2⟩⟩⟩⟩⟩)⟩, ⟨by (with_reducible repeat (first | apply Kd.N_alloc | apply Kd.N_drewN | apply Kd.N_drew)); exact Kd.N_mono (Kd.N_far (p := ⟨gb517, 2, none⟩) (Kd.N_mono HO527.out (fun k_ hk => (⟨hk, hk.2.2.2.2⟩ : _ ∧ k_ ≠ gb517))) (fun _ hk => hk.2) (.slice Ao64 y525.length co64)) (fun _ hk => ⟨hk.1.1, ⟨hk.1.2.1, ⟨hk.1.2.2.1, ⟨hk.1.2.2.2.1, hk.1.2.2.2.2⟩⟩⟩⟩)⟩, ⟨by refine bk_ ?_; refine blk_far ?_ NB509_517.out _; exact bk_ BK509.out⟩, ⟨by refine bk_ ?_; refine blk_far ?_ NB510_517.out _; exact bk_ BK510.out⟩, ⟨by refine bk_ ?_; refine blk_far ?_ NB511_517.out _; exact bk_ BK511.out⟩, ⟨by refine bk_ ?_; refine blk_put (cs := #[.int .i64 a0_0, .int .i64 a0_1, u518002]) ?_ 2 _ rfl; exact bk_ BK517.out⟩, ⟨zab⟩⟩
      ·rw [if_neg c55] at H
       exact absurd H (by simp)
     ·rw [if_neg c53] at H
      exact absurd H (by simp)
    ·rw [if_neg c51] at H
     have c51b0 : decide (x10_1 < (l0_2.length : Int)) = false := decide_eq_false c51
     clear c51
     simp only [Option.some.injEq, Prod.mk.injEq] at H
     obtain ⟨rfl, rfl, rfl⟩ := H
     have hnb66 := NB509_510.out
     have hnc66 := NB510_509.out
     have hnb67 := NB509_511.out
     have hnc67 := NB511_509.out
     have hnb68 := NB509_517.out
     have hnc68 := NB517_509.out
     have hcz69_0 : wr.cell? ⟨gb509, 0, none⟩ = some (.int .i64 a0_0) := bc_ BK509 0
     have hcz69_1 : wr.cell? ⟨gb509, 1, none⟩ = some (.int .i64 a0_1) := bc_ BK509 1
     have hcz69_2 : wr.cell? ⟨gb509, 2, none⟩ = some (.slice A0_2 l0_2.length c0_2) := bc_ BK509 2
     have hfz69_0 := blk_frozen BK509.out 0
     have hfz69_1 := blk_frozen BK509.out 1
     have hfz69_2 := blk_frozen BK509.out 2
     have hnb70 := NB517_510.out
     have hnc70 := NB510_517.out
     have hnb71 := NB517_511.out
     have hnc71 := NB511_517.out
     have hcz72_0 : wr.cell? ⟨gb517, 0, none⟩ = some (.int .i64 a0_0) := bc_ BK517 0
     have hcz72_1 : wr.cell? ⟨gb517, 1, none⟩ = some (.int .i64 a0_1) := bc_ BK517 1
     have hcz72_2 : wr.cell? ⟨gb517, 2, none⟩ = some (u518002) := bc_ BK517 2
     have hfz72_0 := blk_frozen BK517.out 0
     have hfz72_1 := blk_frozen BK517.out 1
     have hfz72_2 := blk_frozen BK517.out 2
     have hnb73 := NB511_510.out
     have hnc73 := NB510_511.out
     have hcz74_0 : wr.cell? ⟨gb511, 0, none⟩ = some (.int .i64 0) := bc_ BK511 0
     have hcz74_1 : wr.cell? ⟨gb511, 1, none⟩ = some (.int .i64 0) := bc_ BK511 1
     have hcz74_2 : wr.cell? ⟨gb511, 2, none⟩ = some (.slice none 0 0) := bc_ BK511 2
     have hfz74_0 := blk_frozen BK511.out 0
     have hfz74_1 := blk_frozen BK511.out 1
     have hfz74_2 := blk_frozen BK511.out 2
     obtain ⟨Ao75, co75, eo75⟩ := Kd.N_slice HO_518002.out
     subst eo75
     go_wp2_with (first | ((with_reducible refine gate_store (t := 29) (p := 8) rfl ?_); refine store_event (t := 29) (p := 8) (v := ?vo_w76) (w1 := (((wr.setCell ⟨gb511, 0, none⟩ (.int .i64 a0_0)).setCell ⟨gb511, 1, none⟩ (.int .i64 a0_1)).setCell ⟨gb511, 2, none⟩ (.slice Ao75 x518002_1.length co75))) ?hg ?ho ?hn ?hr ?_; (case ho => rfl); (case hg => rfl); (case hn => rfl); (case hr => first | (go_simp; done) | (go_simp; rfl)); intro w76 hw; have n0_ : Aside0 (Kd.V k29 29 w76 w.heap.size (fun k_ => (P0_2_ k_ ∨ w.heap.size ≤ k_) ∧ some k_ ≠ (.slice Ao75 x518002_1.length co75 : Value).ownBlock ∧ k_ ≠ gb509 ∧ k_ ≠ gb510 ∧ k_ ≠ gb511 ∧ k_ ≠ gb517) (.slice A0_2 l0_2.length c0_2) l0_2) := ⟨(by rw [hw]; exact (by (with_reducible repeat (first | apply Kd.V_alloc | apply Kd.V_drewN | apply Kd.V_drew)); exact Kd.V_mono (Kd.V_far (p := ⟨gb511, 2, none⟩) (Kd.V_far (p := ⟨gb511, 1, none⟩) (Kd.V_far (p := ⟨gb511, 0, none⟩) (Kd.V_mono HO_510002.out (fun k_ hk => (⟨hk, hk.2.2.2.2.1⟩ : _ ∧ k_ ≠ gb511))) (fun _ hk => hk.2) (.int .i64 a0_0)) (fun _ hk => hk.2) (.int .i64 a0_1)) (fun _ hk => hk.2) (.slice Ao75 x518002_1.length co75)) (fun _ hk => ⟨hk.1.1, ⟨hk.1.2.1, ⟨hk.1.2.2.1, ⟨hk.1.2.2.2.1, ⟨hk.1.2.2.2.2.1, hk.1.2.2.2.2.2⟩⟩⟩⟩⟩)))⟩; have n1_ : Aside0 (Kd.N k29 29 w76 w.heap.size (fun k_ => (P0_2_ k_ ∨ w.heap.size ≤ k_) ∧ k_ ≠ gb509 ∧ k_ ≠ gb510 ∧ k_ ≠ gb511 ∧ k_ ≠ gb517) (.slice Ao75 x518002_1.length co75) x518002_1) := ⟨(by rw [hw]; exact (by (with_reducible repeat (first | apply Kd.N_alloc | apply Kd.N_drewN | apply Kd.N_drew)); exact Kd.N_mono (Kd.N_far (p := ⟨gb511, 2, none⟩) (Kd.N_far (p := ⟨gb511, 1, none⟩) (Kd.N_far (p := ⟨gb511, 0, none⟩) (Kd.N_mono HO_518002.out (fun k_ hk => (⟨hk, hk.2.2.2.1⟩ : _ ∧ k_ ≠ gb511))) (fun _ hk => hk.2) (.int .i64 a0_0)) (fun _ hk => hk.2) (.int .i64 a0_1)) (fun _ hk => hk.2) (.slice Ao75 x518002_1.length co75)) (fun _ hk => ⟨hk.1.1, ⟨hk.1.2.1, ⟨hk.1.2.2.1, ⟨hk.1.2.2.2.1, hk.1.2.2.2.2⟩⟩⟩⟩)))⟩; have n2_ : Aside0 (w76.heap[gb509]? = some (.cells #[.int .i64 a0_0, .int .i64 a0_1, .slice A0_2 l0_2.length c0_2] 29 (0, 0))) := ⟨zan⟩; have n3_ : Aside0 (w76.heap[gb510]? = some (.cells #[.int .i64 a3_0, .int .i64 a3_1, .slice A3_2 l3_2.length c3_2] 29 (0, 0))) := ⟨zao⟩; have n4_ : Aside0 (w76.heap[gb511]? = some (.cells #[.int .i64 a0_0, .int .i64 a0_1, .slice Ao75 x518002_1.length co75] 29 (0, 0))) := ⟨(by rw [hw]; exact (by refine bk_ ?_; refine blk_put (cs := #[.int .i64 a0_0, .int .i64 a0_1, .slice none 0 0]) ?_ 2 _ rfl; refine bk_ ?_; refine blk_put (cs := #[.int .i64 a0_0, .int .i64 0, .slice none 0 0]) ?_ 1 _ rfl; refine bk_ ?_; refine blk_put (cs := #[.int .i64 0, .int .i64 0, .slice none 0 0]) ?_ 0 _ rfl; exact bk_ BK511.out))⟩; have n5_ : Aside0 (w76.heap[gb517]? = some (.cells #[.int .i64 a0_0, .int .i64 a0_1, .slice Ao75 x518002_1.length co75] 29 (0, 0))) := ⟨(by rw [hw]; exact (by refine bk_ ?_; refine blk_far ?_ NB517_511.out _; refine bk_ ?_; refine blk_far ?_ NB517_511.out _; refine bk_ ?_; refine blk_far ?_ NB517_511.out _; exact bk_ BK517.out))⟩; have n6_ : Aside0 (Below w.heap.size w w76) := ⟨(by rw [hw]; exact zab)⟩; clear hw; clear HO_510002; clear HO_518002; clear BK509; clear BK510; clear BK511; clear BK517; clear HB; have HO_510002 := n0_; have HO_518002 := n1_; have BK509 := n2_; have BK510 := n3_; have BK511 := n4_; have BK517 := n5_; have HB := n6_; clear n0_ n1_ n2_ n3_ n4_ n5_ n6_))
     refine bodyPost_ret (results_cell_row rfl _ _ gb511 29 #[.int .i64 a0_0, .int .i64 a0_1, .slice Ao75 x518002_1.length co75] (0, 0) _ rfl (bk_ BK511.out) Tryd.underlying29 rfl zas) rfl ?_
     exact ⟨_, zak, Kd.N_V (by (with_reducible repeat (first | apply Kd.N_alloc | apply Kd.N_drewN | apply Kd.N_drew)); exact Kd.N_mono HO_518002.out (fun _ hk => hk.1)), zab⟩

/-! ### thyrsusref4_Subst: function 39 -/
def thyrsusref4_Subst.f (k : Nat) (a0_0 : Int) (a0_1 : Int) (l0_2 : List (S29)) (a1 : Int) (a2_0 : Int) (a2_1 : Int) (l2_2 : List (S29)) : Option (Int × Int × (List (S29))) := (thyrsusref4_subst.f k a0_0 a0_1 l0_2 a1 0 a2_0 a2_1 l2_2).bind fun bt531 => (some (bt531.1, bt531.2.1, bt531.2.2))
set_option maxHeartbeats 8000000 in
set_option maxRecDepth 100000 in
theorem thyrsusref4_Subst.calls (k : Nat) (a0_0 : Int) (a0_1 : Int) (P0_2_ : Nat → Prop) (A0_2 : Option Addr) (c0_2 : Nat) (l0_2 : List (S29)) (a1 : Int) (a2_0 : Int) (a2_1 : Int) (A2_2 : Option Addr) (c2_2 : Nat) (l2_2 : List (S29)) (r1 : Int) (r2 : Int) (r3 : List (S29)) (w : World) (hs0_2 : Kd.V k29 29 w w.heap.size (fun k_ => P0_2_ k_) (.slice A0_2 l0_2.length c0_2) l0_2) (hr2_2 : Kd.C k29 w A2_2 l2_2.length l2_2) (hc2_2 : l2_2.length ≤ c2_2) (h : thyrsusref4_Subst.f k a0_0 a0_1 l0_2 a1 a2_0 a2_1 l2_2 = some (r1, r2, r3)) :
  Calls Tryd.prog 39 #[.agg #[.int .i64 a0_0, .int .i64 a0_1, .slice A0_2 l0_2.length c0_2], .int .i64 a1, .agg #[.int .i64 a2_0, .int .i64 a2_1, .slice A2_2 l2_2.length c2_2]] w fun e w' => ∃ v2_ : Value, e = .returned (.agg #[.int .i64 r1, .int .i64 r2, v2_]) ∧ Kd.V k29 29 w' w.heap.size (fun k_ => (P0_2_ k_ ∨ w.heap.size ≤ k_)) v2_ r3 ∧ Below w.heap.size w w' := by
 have hu29 := Tryd.underlying29
 have HO0_2 := Aside0.mk (show Kd.V k29 29 w w.heap.size (fun k_ => (P0_2_ k_ ∨ w.heap.size ≤ k_)) (.slice A0_2 l0_2.length c0_2) l0_2 from Kd.V_mono hs0_2 (fun k_ hk => .inl hk))
 have HR2_2 := Aside0.mk hr2_2
 have HC2_2 := Aside0.mk hc2_2
 clear hr2_2 hc2_2
 have HB := Aside0.mk (Below.refl w.heap.size w)
 have H : ((thyrsusref4_subst.f k a0_0 a0_1 l0_2 a1 0 a2_0 a2_1 l2_2).bind fun bt531 => (some (bt531.1, bt531.2.1, bt531.2.2))) = some (r1, r2, r3) := h
 clear h
 replace H := Option.bind_eq_some_iff.mp H
 obtain ⟨⟨t531, t532, t533⟩, A40, H⟩ := H
 replace H : (some (t531, t532, t533)) = some (r1, r2, r3) := H
 have A4 := Aside0.mk A40
 clear A40
 simp only [Option.some.injEq, Prod.mk.injEq] at H
 obtain ⟨rfl, rfl, rfl⟩ := H
 go_enter Tryd.func39, Tryd.ntmps39
 go_wp2_with (first | ((with_reducible refine gate_dst (N := 3) rfl ?_); refine box_event ?hg (N := 3) ?hd (cs := #[.int .i64 a0_0, .int .i64 a0_1, .slice A0_2 l0_2.length c0_2]) (t := 29) ?hr ?_; (case hd => rfl); (case hg => rfl); (case hr => first | (go_simp; done) | (go_simp; rfl)); intro gb528 hg w5 hbox hb; have n0_ := Aside0.mk (Kd.V_below (Kd.V_elderB zaf gb528 (Nat.le_of_eq hg.symm)) hb); have n1_ := Aside0.mk (below_step zaa hb); have n2_ := Aside0.mk (hbox); have n3_ := Aside0.mk ((zat : w.heap.size ≤ gb528)); have n4_ := Aside0.mk ((zat : w.heap.size ≤ gb528)); clear HO0_2; clear HB; have HO0_2 := n0_; have HB := n1_; have BK528 := n2_; have GW528 := n3_; have GE528 := n4_; clear n0_ n1_ n2_ n3_ n4_; clear hb hbox hg) | ((with_reducible refine gate_dst (N := 5) rfl ?_); refine box_event ?hg (N := 5) ?hd (cs := #[.int .i64 a2_0, .int .i64 a2_1, .slice A2_2 l2_2.length c2_2]) (t := 29) ?hr ?_; (case hd => rfl); (case hg => rfl); (case hr => first | (go_simp; done) | (go_simp; rfl)); intro gb529 hg w6 hbox hb; have n0_ := Aside0.mk (Kd.V_below (Kd.V_elderB zaf gb529 (Nat.le_of_eq hg.symm)) hb); have n1_ := Aside0.mk (blk_below (g := gb528) (o := .cells #[.int .i64 a0_0, .int .i64 a0_1, .slice A0_2 l0_2.length c0_2] 29 (0, 0)) (bk_ BK528.out) hb); have n2_ := Aside0.mk (below_step zaq hb); have n3_ := Aside0.mk (hbox); have n4_ := Aside0.mk ((by rw [hg]; exact (below_size zaq) : w.heap.size ≤ gb529)); have n5_ := Aside0.mk ((by rw [hg]; exact (below_size zaq) : w.heap.size ≤ gb529)); have n6_ := Aside0.mk ((zaw : gb528 ≠ gb529)); have n7_ := Aside0.mk ((zax : gb529 ≠ gb528)); clear HO0_2; clear BK528; clear HB; have HO0_2 := n0_; have BK528 := n1_; have HB := n2_; have BK529 := n3_; have GW529 := n4_; have GE529 := n5_; have NB528_529 := n6_; have NB529_528 := n7_; clear n0_ n1_ n2_ n3_ n4_ n5_ n6_ n7_; clear hb hbox hg) | ((with_reducible refine gate_dst (N := 6) rfl ?_); refine box_event ?hg (N := 6) ?hd (cs := #[.int .i64 0, .int .i64 0, .slice none 0 0]) (t := 29) ?hr ?_; (case hd => rfl); (case hg => rfl); (case hr => first | (go_simp; done) | (go_simp; rfl)); intro gb530 hg w7 hbox hb; have n0_ := Aside0.mk (Kd.V_below (Kd.V_elderB zaf gb530 (Nat.le_of_eq hg.symm)) hb); have n1_ := Aside0.mk (blk_below (g := gb528) (o := .cells #[.int .i64 a0_0, .int .i64 a0_1, .slice A0_2 l0_2.length c0_2] 29 (0, 0)) (bk_ BK528.out) hb); have n2_ := Aside0.mk (blk_below (g := gb529) (o := .cells #[.int .i64 a2_0, .int .i64 a2_1, .slice A2_2 l2_2.length c2_2] 29 (0, 0)) (bk_ BK529.out) hb); have n3_ := Aside0.mk (below_step zap hb); have n4_ := Aside0.mk (hbox); have n5_ := Aside0.mk ((by rw [hg]; exact (below_size zap) : w.heap.size ≤ gb530)); have n6_ := Aside0.mk ((by rw [hg]; exact (below_size zap) : w.heap.size ≤ gb530)); have n7_ := Aside0.mk ((zaw : gb528 ≠ gb530)); have n8_ := Aside0.mk ((zax : gb530 ≠ gb528)); have n9_ := Aside0.mk ((by rw [hg]; exact Nat.ne_of_lt (blk_lt (g := gb529) (o := .cells #[.int .i64 a2_0, .int .i64 a2_1, .slice A2_2 l2_2.length c2_2] 29 (0, 0)) (bk_ BK529.out)) : gb529 ≠ gb530)); have n10_ := Aside0.mk ((by rw [hg]; exact Nat.ne_of_gt (blk_lt (g := gb529) (o := .cells #[.int .i64 a2_0, .int .i64 a2_1, .slice A2_2 l2_2.length c2_2] 29 (0, 0)) (bk_ BK529.out)) : gb530 ≠ gb529)); clear HO0_2; clear BK528; clear BK529; clear HB; have HO0_2 := n0_; have BK528 := n1_; have BK529 := n2_; have HB := n3_; have BK530 := n4_; have GW530 := n5_; have GE530 := n6_; have NB528_530 := n7_; have NB530_528 := n8_; have NB529_530 := n9_; have NB530_529 := n10_; clear n0_ n1_ n2_ n3_ n4_ n5_ n6_ n7_ n8_ n9_ n10_; clear hb hbox hg; have hnb8 := NB528_529.out; have hnc8 := NB529_528.out; have hnb9 := NB528_530.out; have hnc9 := NB530_528.out; have hcz10_0 : w7.cell? ⟨gb528, 0, none⟩ = some (.int .i64 a0_0) := bc_ BK528 0; have hcz10_1 : w7.cell? ⟨gb528, 1, none⟩ = some (.int .i64 a0_1) := bc_ BK528 1; have hcz10_2 : w7.cell? ⟨gb528, 2, none⟩ = some (.slice A0_2 l0_2.length c0_2) := bc_ BK528 2; have hfz10_0 := blk_frozen BK528.out 0; have hfz10_1 := blk_frozen BK528.out 1; have hfz10_2 := blk_frozen BK528.out 2; have hnb11 := NB529_530.out; have hnc11 := NB530_529.out; have hcz12_0 : w7.cell? ⟨gb529, 0, none⟩ = some (.int .i64 a2_0) := bc_ BK529 0; have hcz12_1 : w7.cell? ⟨gb529, 1, none⟩ = some (.int .i64 a2_1) := bc_ BK529 1; have hcz12_2 : w7.cell? ⟨gb529, 2, none⟩ = some (.slice A2_2 l2_2.length c2_2) := bc_ BK529 2; have hfz12_0 := blk_frozen BK529.out 0; have hfz12_1 := blk_frozen BK529.out 1; have hfz12_2 := blk_frozen BK529.out 2) | ((with_reducible refine gate_callee (f := 58) rfl ?_); refine goesL_ (some 10) rfl rfl Tryd.func58 zas rfl #[.agg #[.int .i64 a0_0, .int .i64 a0_1, .slice A0_2 l0_2.length c0_2], .int .i64 a1, .int .i64 0, .agg #[.int .i64 a2_0, .int .i64 a2_1, .slice A2_2 l2_2.length c2_2]] rfl zaj ?_; (with_reducible refine (thyrsusref4_subst.calls k a0_0 a0_1 (fun k_ => ((((P0_2_ k_ ∨ w.heap.size ≤ k_) ∧ k_ ≠ gb528) ∧ k_ ≠ gb529) ∧ k_ ≠ gb530)) _ _ l0_2 a1 0 a2_0 a2_1 _ _ l2_2 t531 t532 t533 _ ?side1 ?side2 ?side3 A4.out).mono ?_); (case side1 => exact HO0_2.out); (case side2 => repeat (first | exact (Kd.C_below HR2_2.out HB.out) | (with_reducible refine Kd.C_alloc ?_ _) | (with_reducible refine Kd.C_drewN ?_ _) | (with_reducible refine Kd.C_drew ?_))); (case side3 => exact HC2_2.out); rintro e w13 ⟨v534, rfl, ho0, hb⟩; refine ⟨_, rfl, ?_⟩; have n0_ := Aside0.mk (Kd.V_below zaf hb); have n1_ := Aside0.mk (Kd.V_lower (Kd.V_mono (ok' := fun k_ => (P0_2_ k_ ∨ w.heap.size ≤ k_) ∧ k_ ≠ gb528 ∧ k_ ≠ gb529 ∧ k_ ≠ gb530) ho0 (fun k_ hk_ => ⟨Or.elim hk_ (fun hs_ => hs_.1.1.1) (fun hn_ => (.inr (Nat.le_trans (below_size zai) hn_))), Or.elim hk_ (fun hs_ => hs_.1.1.2) (fun hn_ => (Kd.freshB (g := gb528) (o := .cells #[.int .i64 a0_0, .int .i64 a0_1, .slice A0_2 l0_2.length c0_2] 29 (0, 0)) (bk_ BK528.out) k_ hn_)), Or.elim hk_ (fun hs_ => hs_.1.2) (fun hn_ => (Kd.freshB (g := gb529) (o := .cells #[.int .i64 a2_0, .int .i64 a2_1, .slice A2_2 l2_2.length c2_2] 29 (0, 0)) (bk_ BK529.out) k_ hn_)), Or.elim hk_ (fun hs_ => hs_.2) (fun hn_ => (Kd.freshB (g := gb530) (o := .cells #[.int .i64 0, .int .i64 0, .slice none 0 0] 29 (0, 0)) (bk_ BK530.out) k_ hn_))⟩)) (below_size zai)); have n2_ := Aside0.mk (blk_below (g := gb528) (o := .cells #[.int .i64 a0_0, .int .i64 a0_1, .slice A0_2 l0_2.length c0_2] 29 (0, 0)) (bk_ BK528.out) hb); have n3_ := Aside0.mk (blk_below (g := gb529) (o := .cells #[.int .i64 a2_0, .int .i64 a2_1, .slice A2_2 l2_2.length c2_2] 29 (0, 0)) (bk_ BK529.out) hb); have n4_ := Aside0.mk (blk_below (g := gb530) (o := .cells #[.int .i64 0, .int .i64 0, .slice none 0 0] 29 (0, 0)) (bk_ BK530.out) hb); have n5_ := Aside0.mk (below_step zai hb); clear HO0_2; clear BK528; clear BK529; clear BK530; clear HB; have HO0_2 := n0_; have HO535 := n1_; have BK528 := n2_; have BK529 := n3_; have BK530 := n4_; have HB := n5_; clear n0_ n1_ n2_ n3_ n4_ n5_; (try clear hb); (try clear hb2); (try clear hk); (try clear hi); (try clear ho0); have hcz14_0 : w13.cell? ⟨gb530, 0, none⟩ = some (.int .i64 0) := bc_ BK530 0; have hcz14_1 : w13.cell? ⟨gb530, 1, none⟩ = some (.int .i64 0) := bc_ BK530 1; have hcz14_2 : w13.cell? ⟨gb530, 2, none⟩ = some (.slice none 0 0) := bc_ BK530 2; have hfz14_0 := blk_frozen BK530.out 0; have hfz14_1 := blk_frozen BK530.out 1; have hfz14_2 := blk_frozen BK530.out 2; obtain ⟨Ao15, co15, eo15⟩ := Kd.V_slice HO535.out; subst eo15) | ((with_reducible refine gate_store (t := 29) (p := 6) rfl ?_); refine store_event (t := 29) (p := 6) (v := ?vo_w16) (w1 := (((w13.setCell ⟨gb530, 0, none⟩ (.int .i64 t531)).setCell ⟨gb530, 1, none⟩ (.int .i64 t532)).setCell ⟨gb530, 2, none⟩ (.slice Ao15 t533.length co15))) ?hg ?ho ?hn ?hr ?_; (case ho => rfl); (case hg => rfl); (case hn => rfl); (case hr => first | (go_simp; done) | (go_simp; rfl)); intro w16 hw; have n0_ : Aside0 (Kd.V k29 29 w16 w.heap.size (fun k_ => (P0_2_ k_ ∨ w.heap.size ≤ k_) ∧ k_ ≠ gb528 ∧ k_ ≠ gb529 ∧ k_ ≠ gb530) (.slice A0_2 l0_2.length c0_2) l0_2) := ⟨(by rw [hw]; exact (by (with_reducible repeat (first | apply Kd.V_alloc | apply Kd.V_drewN | apply Kd.V_drew)); exact Kd.V_mono (Kd.V_far (p := ⟨gb530, 2, none⟩) (Kd.V_far (p := ⟨gb530, 1, none⟩) (Kd.V_far (p := ⟨gb530, 0, none⟩) (Kd.V_mono HO0_2.out (fun k_ hk => (⟨hk, hk.2⟩ : _ ∧ k_ ≠ gb530))) (fun _ hk => hk.2) (.int .i64 t531)) (fun _ hk => hk.2) (.int .i64 t532)) (fun _ hk => hk.2) (.slice Ao15 t533.length co15)) (fun _ hk => ⟨hk.1.1.1.1, ⟨hk.1.1.1.2, ⟨hk.1.1.2, hk.1.2⟩⟩⟩)))⟩; have n1_ : Aside0 (Kd.V k29 29 w16 w.heap.size (fun k_ => (P0_2_ k_ ∨ w.heap.size ≤ k_) ∧ k_ ≠ gb528 ∧ k_ ≠ gb529 ∧ k_ ≠ gb530) (.slice Ao15 t533.length co15) t533) := ⟨(by rw [hw]; exact (by (with_reducible repeat (first | apply Kd.V_alloc | apply Kd.V_drewN | apply Kd.V_drew)); exact Kd.V_mono (Kd.V_far (p := ⟨gb530, 2, none⟩) (Kd.V_far (p := ⟨gb530, 1, none⟩) (Kd.V_far (p := ⟨gb530, 0, none⟩) (Kd.V_mono HO535.out (fun k_ hk => (⟨hk, hk.2.2.2⟩ : _ ∧ k_ ≠ gb530))) (fun _ hk => hk.2) (.int .i64 t531)) (fun _ hk => hk.2) (.int .i64 t532)) (fun _ hk => hk.2) (.slice Ao15 t533.length co15)) (fun _ hk => ⟨hk.1.1, ⟨hk.1.2.1, ⟨hk.1.2.2.1, hk.1.2.2.2⟩⟩⟩)))⟩; have n2_ : Aside0 (w16.heap[gb528]? = some (.cells #[.int .i64 a0_0, .int .i64 a0_1, .slice A0_2 l0_2.length c0_2] 29 (0, 0))) := ⟨(by rw [hw]; exact (by refine bk_ ?_; refine blk_far ?_ NB528_530.out _; refine bk_ ?_; refine blk_far ?_ NB528_530.out _; refine bk_ ?_; refine blk_far ?_ NB528_530.out _; exact bk_ BK528.out))⟩; have n3_ : Aside0 (w16.heap[gb529]? = some (.cells #[.int .i64 a2_0, .int .i64 a2_1, .slice A2_2 l2_2.length c2_2] 29 (0, 0))) := ⟨(by rw [hw]; exact (by refine bk_ ?_; refine blk_far ?_ NB529_530.out _; refine bk_ ?_; refine blk_far ?_ NB529_530.out _; refine bk_ ?_; refine blk_far ?_ NB529_530.out _; exact bk_ BK529.out))⟩; have n4_ : Aside0 (w16.heap[gb530]? = some (.cells #[.int .i64 t531, .int .i64 t532, .slice Ao15 t533.length co15] 29 (0, 0))) := ⟨(by rw [hw]; exact (by refine bk_ ?_; refine blk_put (cs := #[.int .i64 t531, .int .i64 t532, .slice none 0 0]) ?_ 2 _ rfl; refine bk_ ?_; refine blk_put (cs := #[.int .i64 t531, .int .i64 0, .slice none 0 0]) ?_ 1 _ rfl; refine bk_ ?_; refine blk_put (cs := #[.int .i64 0, .int .i64 0, .slice none 0 0]) ?_ 0 _ rfl; exact bk_ BK530.out))⟩; have n5_ : Aside0 (Below w.heap.size w w16) := ⟨(by rw [hw]; exact zai)⟩; clear hw; clear HO0_2; clear HO535; clear BK528; clear BK529; clear BK530; clear HB; have HO0_2 := n0_; have HO535 := n1_; have BK528 := n2_; have BK529 := n3_; have BK530 := n4_; have HB := n5_; clear n0_ n1_ n2_ n3_ n4_ n5_))
 refine bodyPost_ret (results_cell_row rfl _ _ gb530 29 #[.int .i64 t531, .int .i64 t532, .slice Ao15 t533.length co15] (0, 0) _ rfl (bk_ BK530.out) Tryd.underlying29 rfl zas) rfl ?_
 exact ⟨_, zak, by (with_reducible repeat (first | apply Kd.V_alloc | apply Kd.V_drewN | apply Kd.V_drew)); exact Kd.V_mono HO535.out (fun _ hk => hk.1), zai⟩

/-! ### thyrsusref3_Digits: function 59 -/
def thyrsusref3_Digits.f : Nat → Int → Option (ByteArray)
 | 0, _ => none
 | k + 1, a0 => if a0 < 0 then (if a0 = (-9223372036854775808) then (some (⟨#[45, 57, 50, 50, 51, 51, 55, 50, 48, 51, 54, 56, 53, 52, 55, 55, 53, 56, 48, 56]⟩ : ByteArray)) else ((thyrsusref3_Digits.f k (wrap64 (-a0))).bind fun t536 => (if 1 + t536.size ≤ 9223372036854775807 then (some ((⟨#[45]⟩ : ByteArray) ++ t536)) else (none)))) else (if a0 ≥ 10 then ((thyrsusref3_Digits.f k (wrap64 (Int.tdiv a0 10))).bind fun t537 => ((thyrsusref3_Digits.f k (Int.tmod a0 10)).bind fun t538 => (if t537.size + t538.size ≤ 9223372036854775807 then (some (t537 ++ t538)) else (none)))) else (some (strOfNums (([(wrap64 (48 + a0)) % 256] : List Int)))))
set_option maxHeartbeats 8000000 in
set_option maxRecDepth 100000 in
theorem thyrsusref3_Digits.calls (k : Nat) : ∀ (a0 : Int) (r : ByteArray) (w : World) (h : thyrsusref3_Digits.f k a0 = some r),
  Calls Tryd.prog 59 #[.int .i64 a0] w fun e w' => e = .returned (.string r) ∧ Below w.heap.size w w' := by
 induction k using Nat.strongRecOn with
 | _ k ih =>
 intro a0 r w h
 cases k with
 | zero => exact absurd h (by simp [thyrsusref3_Digits.f])
 | succ k =>
 simp only [thyrsusref3_Digits.f] at h
 have HB := Aside0.mk (Below.refl w.heap.size w)
 have H : (if a0 < 0 then (if a0 = (-9223372036854775808) then (some (⟨#[45, 57, 50, 50, 51, 51, 55, 50, 48, 51, 54, 56, 53, 52, 55, 55, 53, 56, 48, 56]⟩ : ByteArray)) else ((thyrsusref3_Digits.f k (wrap64 (-a0))).bind fun t536 => (if 1 + t536.size ≤ 9223372036854775807 then (some ((⟨#[45]⟩ : ByteArray) ++ t536)) else (none)))) else (if a0 ≥ 10 then ((thyrsusref3_Digits.f k (wrap64 (Int.tdiv a0 10))).bind fun t537 => ((thyrsusref3_Digits.f k (Int.tmod a0 10)).bind fun t538 => (if t537.size + t538.size ≤ 9223372036854775807 then (some (t537 ++ t538)) else (none)))) else (some (strOfNums (([(wrap64 (48 + a0)) % 256] : List Int)))))) = some r := h
 clear h
 by_cases c2 : a0 < 0
 ·rw [if_pos c2] at H
  have c2b0 : decide (a0 < 0) = true := decide_eq_true c2
  clear c2
  by_cases c3 : a0 = (-9223372036854775808)
  ·rw [if_pos c3] at H
   have c3b0 : (a0 == (-9223372036854775808)) = true := beq_iff_eq.mpr c3
   have c3b1 : (a0 != (-9223372036854775808)) = false := bne_eq_false_iff_eq.mpr c3
   clear c3
   obtain rfl := Option.some.inj H
   go_enter Tryd.func59, Tryd.ntmps59
   go_wp2
   go_ret
   exact ⟨zak, zaa⟩
  ·rw [if_neg c3] at H
   have c3b0 : (a0 == (-9223372036854775808)) = false := beq_eq_false_iff_ne.mpr c3
   have c3b1 : (a0 != (-9223372036854775808)) = true := bne_iff_ne.mpr c3
   replace H := Option.bind_eq_some_iff.mp H
   obtain ⟨t536, A40, H⟩ := H
   replace H : (if 1 + t536.size ≤ 9223372036854775807 then (some ((⟨#[45]⟩ : ByteArray) ++ t536)) else (none)) = some r := H
   have A4 := Aside0.mk A40
   clear A40
   by_cases c5 : 1 + t536.size ≤ 9223372036854775807
   ·rw [if_pos c5] at H
    have c5b0 := eq_true c5
    have c5b1 : decide (1 + t536.size ≤ 9223372036854775807) = true := decide_eq_true c5
    try have c5b2 : (9223372036854775807 < 1 + t536.size) = False := eq_false (Nat.not_lt.2 c5)
    obtain rfl := Option.some.inj H
    go_enter Tryd.func59, Tryd.ntmps59
    go_wp2_with (first | ((with_reducible refine gate_callee (f := 59) rfl ?_); refine goesL_ (some 9) rfl rfl Tryd.func59 zas rfl #[.int .i64 (wrap64 (-a0))] rfl zaj ?_; (with_reducible refine (ih k (by omega) (wrap64 (-a0)) t536 _ A4.out).mono ?_); rintro e w6 ⟨rfl, hb⟩; refine ⟨_, rfl, ?_⟩; have n0_ := Aside0.mk (below_step zaa hb); clear HB; have HB := n0_; clear n0_; (try clear hb); (try clear hb2); (try clear hk); (try clear hi)))
    go_ret
    exact ⟨zak, zaa⟩
   ·rw [if_neg c5] at H
    exact absurd H (by simp)
 ·rw [if_neg c2] at H
  have c2b0 : decide (a0 < 0) = false := decide_eq_false c2
  clear c2
  by_cases c7 : a0 ≥ 10
  ·rw [if_pos c7] at H
   have c7b0 : decide (10 ≤ a0) = true := decide_eq_true c7
   clear c7
   replace H := Option.bind_eq_some_iff.mp H
   obtain ⟨t537, A80, H⟩ := H
   replace H : ((thyrsusref3_Digits.f k (Int.tmod a0 10)).bind fun t538 => (if t537.size + t538.size ≤ 9223372036854775807 then (some (t537 ++ t538)) else (none))) = some r := H
   have A8 := Aside0.mk A80
   clear A80
   replace H := Option.bind_eq_some_iff.mp H
   obtain ⟨t538, A90, H⟩ := H
   replace H : (if t537.size + t538.size ≤ 9223372036854775807 then (some (t537 ++ t538)) else (none)) = some r := H
   have A9 := Aside0.mk A90
   clear A90
   by_cases c10 : t537.size + t538.size ≤ 9223372036854775807
   ·rw [if_pos c10] at H
    have c10b0 := eq_true c10
    have c10b1 : decide (t537.size + t538.size ≤ 9223372036854775807) = true := decide_eq_true c10
    try have c10b2 : (9223372036854775807 < t537.size + t538.size) = False := eq_false (Nat.not_lt.2 c10)
    obtain rfl := Option.some.inj H
    go_enter Tryd.func59, Tryd.ntmps59
    go_wp2_with (first | ((with_reducible refine gate_callee (f := 59) rfl ?_); refine goesL_ (some 15) rfl rfl Tryd.func59 zas rfl #[.int .i64 (wrap64 (Int.tdiv a0 10))] rfl zaj ?_; (with_reducible refine (ih k (by omega) (wrap64 (Int.tdiv a0 10)) t537 _ A8.out).mono ?_); rintro e w11 ⟨rfl, hb⟩; refine ⟨_, rfl, ?_⟩; have n0_ := Aside0.mk (below_step zaa hb); clear HB; have HB := n0_; clear n0_; (try clear hb); (try clear hb2); (try clear hk); (try clear hi)) | ((with_reducible refine gate_callee (f := 59) rfl ?_); refine goesL_ (some 18) rfl rfl Tryd.func59 zas rfl #[.int .i64 (Int.tmod a0 10)] rfl zaj ?_; (with_reducible refine (ih k (by omega) (Int.tmod a0 10) t538 _ A9.out).mono ?_); rintro e w12 ⟨rfl, hb⟩; refine ⟨_, rfl, ?_⟩; have n0_ := Aside0.mk (below_step zaa hb); clear HB; have HB := n0_; clear n0_; (try clear hb); (try clear hb2); (try clear hk); (try clear hi)))
    go_ret
    exact ⟨zak, zaa⟩
   ·rw [if_neg c10] at H
    exact absurd H (by simp)
  ·rw [if_neg c7] at H
   have c7b0 : decide (10 ≤ a0) = false := decide_eq_false c7
   clear c7
   obtain ⟨y539, hy539⟩ : ∃ y_ : List Int, y_ = (([(wrap64 (48 + a0)) % 256] : List Int)) := ⟨_, rfl⟩
   replace H : (some (strOfNums y539)) = some r := by first | (rw [hy539]; with_reducible exact H) | (have H2_ := (Option.bind_some _ _).symm.trans H; rw [hy539]; with_reducible exact H2_) | (have H2_ := (Option.bind_some _ _).symm.trans H; with_reducible exact H2_) | with_reducible exact H | (rw [hy539]; exact H) | exact H
   have Ny539 := Aside0.mk hy539
   clear hy539
   obtain rfl := Option.some.inj H
   go_enter Tryd.func59, Tryd.ntmps59
   go_wp2_with (first | ((with_reducible refine gate_dst (N := 23) rfl ?_); refine Kd.R_lit (Kd.int .u8) _ 5 ?hg (N := 23) ?hd (xs := ([(wrap64 (48 + a0)) % 256] : List Int)) (inner := [.int .u8 ((wrap64 (48 + a0)) % 256)]) (ok := fun _ => True) (okp := fun _ => True) ?hr ?hp (fun _ hk => hk) trivial (Below.refl _ _) (Nat.le_refl _) (by simp) ?_; (case hd => rfl); (case hg => rfl); (case hr => first | (go_simp; done) | (go_simp; rfl)); (case hp => exact (Reps.one (show Kd.M (Kd.int .u8) _ _ _ ((wrap64 (48 + a0)) % 256) [.int .u8 ((wrap64 (48 + a0)) % 256)] from rfl) (Reps.none _ _))); intro v540 w13 ho14 hb hg_ hnew_; clear hg_ hnew_; (first | rw [← Ny539.out] at ho14 | (simp only [Int.reduceToNat] at ho14; rw [← Ny539.out] at ho14)); have n0_ := Aside0.mk (Kd.R_lower ho14 (below_size zaa)); have n1_ := Aside0.mk (below_step zaa hb); clear HB; have HO541 := n0_; have HB := n1_; clear n0_ n1_; clear hb ho14; have hcv15 := own_string (P := Tryd.prog) Tryd.underlying75 Tryd.underlying5 Tryd.underlying9 (Kd.own_of_R HO541.out)))
   go_ret
   exact ⟨zak, zaa⟩

end Go.Proofs.YtcchfblekaaalaaDoor.P
