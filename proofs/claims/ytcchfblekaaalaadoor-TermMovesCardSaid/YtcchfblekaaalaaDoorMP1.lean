/- Several texts in one. -/
import Derived.Test.YtcchfblekaaalaaDoorMP0
import Derived.Test.YtcchfblekaaalaaDoorMQx1
import Derived.Test.YtcchfblekaaalaaDoorMPx1
import Derived.Test.YtcchfblekaaalaaDoorRows
import Derived.Lib.LaidTab
import Derived.KernelRfl
/- TermMoves: its walk (genmovw.py: the print's head, then the drawn regions' lemmas) -/
namespace Go.Proofs.YtcchfblekaaalaaDoor.P
open Go.RowKit Go.Proofs.YtcchfblekaaalaaDoorW.PrintWords Go.Proofs.YtcchfblekaaalaaDoorW.PrintLast Go.Proofs.YtcchfblekaaalaaDoorW.PrintMore
set_option linter.unusedVariables false
set_option linter.unusedSimpArgs false
theorem zsa {p : Prop} (h : p := by repeat (first | (with_reducible first | exact HB.out | apply below_alloc | apply pw_below_drewN | apply below_drew1 | refine below_set ?_ GE232.out | refine below_set ?_ GE233.out) | exact HB.out)) : p := h
theorem zsb {p : Prop} (h : p := by (try simp only [List.map_toArray, List.map_cons, List.map_nil]); first | done | rfl | (simp only [List.length_drop, List.length_take]; rfl)) : p := h
theorem zsc {p : Prop} (h : p := by repeat (first | (with_reducible first | exact HB.out | apply below_alloc | apply pw_below_drewN | apply below_drew1 | refine below_set ?_ GE232.out) | exact HB.out)) : p := h
theorem zsd {p : Prop} (h : p := by repeat (first | (with_reducible first | exact HB.out | apply below_alloc | apply pw_below_drewN | apply below_drew1) | exact HB.out)) : p := h
theorem within_go (a n t : Int) (w : World) (h : thyrsuslaw4_within.f a n = some t) : Calls Tryd.prog 20 #[.int .i64 a, .int .i64 n] w fun e w' => e = .returned (.int .i64 t) ∧ Below w.heap.size w w' :=
 (thyrsuslaw4_within.calls a n t w h).mono fun e w' ⟨he, nd, hd⟩ => ⟨he, hd ▸ pw_below_drewN (Below.refl _ _) nd⟩
attribute [local go_sem] max2_int min2_int max_two min_two max_three min_three max_four min_four
set_option maxHeartbeats 8000000 in
set_option maxRecDepth 100000 in
theorem thyrsuslaw4_TermMoves.calls (k : Nat) (a0_0 : Int) (a0_1 : Int) (A0_2 : Option Addr) (c0_2 : Nat) (l0_2 : List (S24)) (a1_0 : Int) (a1_1 : Int) (A1_2 : Option Addr) (c1_2 : Nat) (l1_2 : List (S24)) (a2 : Int) (a3 : Int) (r : Bool) (w : World) (hT : TabP w) (hr0_2 : Kd.C k24 w A0_2 l0_2.length l0_2) (hc0_2 : l0_2.length ≤ c0_2) (hr1_2 : Kd.C k24 w A1_2 l1_2.length l1_2) (hc1_2 : l1_2.length ≤ c1_2) (h : thyrsuslaw4_TermMoves.f k a0_0 a0_1 l0_2 a1_0 a1_1 l1_2 a2 a3 = some r) :
  Calls Tryd.prog 13 #[.agg #[.int .i64 a0_0, .int .i64 a0_1, .slice A0_2 l0_2.length c0_2], .agg #[.int .i64 a1_0, .int .i64 a1_1, .slice A1_2 l1_2.length c1_2], .int .i64 a2, .int .i64 a3] w fun e w' => e = .returned (.bool r) ∧ Below w.heap.size w w' := by
 have HTB := Aside0.mk hT
 clear hT
 have hu24 := Tryd.underlying24
 have hu29 := Tryd.underlying29
 have HR0_2 := Aside0.mk hr0_2
 have HC0_2 := Aside0.mk hc0_2
 clear hr0_2 hc0_2
 have HR1_2 := Aside0.mk hr1_2
 have HC1_2 := Aside0.mk hc1_2
 clear hr1_2 hc1_2
 have HB := Aside0.mk (Below.refl w.heap.size w)
 have H : ((thyrsuslaw4_known.f k).bind fun t234 => (if t234 = true then ((thyrsuslaw1_Few.f k a0_0 a0_1 l0_2).bind fun t235 => (if t235 = true then ((thyrsuslaw1_Few.f k a1_0 a1_1 l1_2).bind fun t236 => (thyrsuslaw4_TermMoves.j0 k a2 a3 (!t236) a0_0 a0_1 l0_2 a1_0 a1_1 l1_2)) else (thyrsuslaw4_TermMoves.j0 k a2 a3 true a0_0 a0_1 l0_2 a1_0 a1_1 l1_2))) else (none))) = some r := h
 clear h
 replace H := Option.bind_eq_some_iff.mp H
 obtain ⟨t234, A50, H⟩ := H
 replace H : (if t234 = true then ((thyrsuslaw1_Few.f k a0_0 a0_1 l0_2).bind fun t235 => (if t235 = true then ((thyrsuslaw1_Few.f k a1_0 a1_1 l1_2).bind fun t236 => (thyrsuslaw4_TermMoves.j0 k a2 a3 (!t236) a0_0 a0_1 l0_2 a1_0 a1_1 l1_2)) else (thyrsuslaw4_TermMoves.j0 k a2 a3 true a0_0 a0_1 l0_2 a1_0 a1_1 l1_2))) else (none)) = some r := H
 have A5 := Aside0.mk A50
 clear A50
 by_cases c6 : t234 = true
 ·subst c6
  have H1 : ((thyrsuslaw1_Few.f k a0_0 a0_1 l0_2).bind fun t235 => (if t235 = true then ((thyrsuslaw1_Few.f k a1_0 a1_1 l1_2).bind fun t236 => (thyrsuslaw4_TermMoves.j0 k a2 a3 (!t236) a0_0 a0_1 l0_2 a1_0 a1_1 l1_2)) else (thyrsuslaw4_TermMoves.j0 k a2 a3 true a0_0 a0_1 l0_2 a1_0 a1_1 l1_2))) = some r := by rw [if_pos rfl] at H; exact H
  clear H
  have H := H1
  clear H1
  have HC7 := Aside0.mk H
  clear H
  go_enter Tryd.func13, Tryd.ntmps13
  go_upto_region 3 with (first | ((with_reducible refine gate_dst (N := 4) rfl ?_); refine box_event ?hg (N := 4) ?hd (cs := #[.int .i64 a0_0, .int .i64 a0_1, .slice A0_2 l0_2.length c0_2]) (t := 24) ?hr ?_; (case hd => rfl); (case hg => rfl); (case hr => first | (go_simp; done) | (go_simp; rfl)); intro gb232 hg w8 hbox hb; have n0_ := Aside0.mk (below_step zsd hb); have n1_ := Aside0.mk (hbox); have n2_ := Aside0.mk ((by rw [hg]; exact (below_size zsd) : w.heap.size ≤ gb232)); have n3_ := Aside0.mk ((by rw [hg]; exact (below_size zsd) : w.heap.size ≤ gb232)); clear HB; have HB := n0_; have BK232 := n1_; have GW232 := n2_; have GE232 := n3_; clear n0_ n1_ n2_ n3_; clear hb hbox hg) | ((with_reducible refine gate_dst (N := 5) rfl ?_); refine box_event ?hg (N := 5) ?hd (cs := #[.int .i64 a1_0, .int .i64 a1_1, .slice A1_2 l1_2.length c1_2]) (t := 24) ?hr ?_; (case hd => rfl); (case hg => rfl); (case hr => first | (go_simp; done) | (go_simp; rfl)); intro gb233 hg w9 hbox hb; have n0_ := Aside0.mk (blk_below (g := gb232) (o := .cells #[.int .i64 a0_0, .int .i64 a0_1, .slice A0_2 l0_2.length c0_2] 24 (0, 0)) (bk_ BK232.out) hb); have n1_ := Aside0.mk (below_step zsc hb); have n2_ := Aside0.mk (hbox); have n3_ := Aside0.mk ((by rw [hg]; exact (below_size zsc) : w.heap.size ≤ gb233)); have n4_ := Aside0.mk ((by rw [hg]; exact (below_size zsc) : w.heap.size ≤ gb233)); have n5_ := Aside0.mk ((by rw [hg]; exact Nat.ne_of_lt (blk_lt (g := gb232) (o := .cells #[.int .i64 a0_0, .int .i64 a0_1, .slice A0_2 l0_2.length c0_2] 24 (0, 0)) (bk_ BK232.out)) : gb232 ≠ gb233)); have n6_ := Aside0.mk ((by rw [hg]; exact Nat.ne_of_gt (blk_lt (g := gb232) (o := .cells #[.int .i64 a0_0, .int .i64 a0_1, .slice A0_2 l0_2.length c0_2] 24 (0, 0)) (bk_ BK232.out)) : gb233 ≠ gb232)); clear BK232; clear HB; have BK232 := n0_; have HB := n1_; have BK233 := n2_; have GW233 := n3_; have GE233 := n4_; have NB232_233 := n5_; have NB233_232 := n6_; clear n0_ n1_ n2_ n3_ n4_ n5_ n6_; clear hb hbox hg) | ((with_reducible refine gate_callee (f := 14) rfl ?_); refine goesL_ (some 11) rfl rfl Tryd.func14 (by kernel_rfl) rfl #[] rfl zsb ?_; (with_reducible refine (thyrsuslaw4_known.calls k true _ ?sideT A5.out).mono ?_); (case sideT => exact TabP.below HTB.out zsa); rintro e w10 ⟨rfl, hb⟩; refine ⟨_, rfl, ?_⟩; have n0_ := Aside0.mk (blk_below (g := gb232) (o := .cells #[.int .i64 a0_0, .int .i64 a0_1, .slice A0_2 l0_2.length c0_2] 24 (0, 0)) (bk_ BK232.out) hb); have n1_ := Aside0.mk (blk_below (g := gb233) (o := .cells #[.int .i64 a1_0, .int .i64 a1_1, .slice A1_2 l1_2.length c1_2] 24 (0, 0)) (bk_ BK233.out) hb); have n2_ := Aside0.mk (below_step zsa hb); clear BK232; clear BK233; clear HB; have BK232 := n0_; have BK233 := n1_; have HB := n2_; clear n0_ n1_ n2_; (try clear hb); (try clear hb2); (try clear hk); (try clear hi)))
  (try simp only [Act.put, List.setIfInBounds_toArray, List.set_cons_zero, List.set_cons_succ])
  go_cut [20] (fun v20 wc => ∃ (kq : Nat) (x20_6 : Bool), v20 = .bool x20_6 ∧ Aside0 (thyrsuslaw4_TermMoves.j0 kq a2 a3 x20_6 a0_0 a0_1 l0_2 a1_0 a1_1 l1_2 = some r) ∧ Aside0 (kq ≤ k) ∧ Aside0 (wc.heap[gb232]? = some (.cells #[.int .i64 a0_0, .int .i64 a0_1, (.slice A0_2 l0_2.length c0_2)] 24 (0, 0))) ∧ Aside0 (wc.heap[gb233]? = some (.cells #[.int .i64 a1_0, .int .i64 a1_1, (.slice A1_2 l1_2.length c1_2)] 24 (0, 0))) ∧ Aside0 (Below w.heap.size w wc))
  case first =>
   have H := HC7.out
   clear HC7
   replace H := Option.bind_eq_some_iff.mp H
   obtain ⟨t235, A110, H⟩ := H
   replace H : (if t235 = true then ((thyrsuslaw1_Few.f k a1_0 a1_1 l1_2).bind fun t236 => (thyrsuslaw4_TermMoves.j0 k a2 a3 (!t236) a0_0 a0_1 l0_2 a1_0 a1_1 l1_2)) else (thyrsuslaw4_TermMoves.j0 k a2 a3 true a0_0 a0_1 l0_2 a1_0 a1_1 l1_2)) = some r := H
   have A11 := Aside0.mk A110
   clear A110
   by_cases c12 : t235 = true
   ·subst c12
    have H1 : ((thyrsuslaw1_Few.f k a1_0 a1_1 l1_2).bind fun t236 => (thyrsuslaw4_TermMoves.j0 k a2 a3 (!t236) a0_0 a0_1 l0_2 a1_0 a1_1 l1_2)) = some r := by rw [if_pos rfl] at H; exact H
    clear H
    have H := H1
    clear H1
    replace H := Option.bind_eq_some_iff.mp H
    obtain ⟨t236, A130, H⟩ := H
    replace H : (thyrsuslaw4_TermMoves.j0 k a2 a3 (!t236) a0_0 a0_1 l0_2 a1_0 a1_1 l1_2) = some r := H
    have A13 := Aside0.mk A130
    clear A130
    have H' := Aside0.mk H
    clear H
    have hnb14 := NB232_233.out
    have hnc14 := NB233_232.out
    have hcz15_0 : w10.cell? ⟨gb232, 0, none⟩ = some (.int .i64 a0_0) := bc_ BK232 0
    have hcz15_1 : w10.cell? ⟨gb232, 1, none⟩ = some (.int .i64 a0_1) := bc_ BK232 1
    have hcz15_2 : w10.cell? ⟨gb232, 2, none⟩ = some (.slice A0_2 l0_2.length c0_2) := bc_ BK232 2
    have hfz15_0 := blk_frozen BK232.out 0
    have hfz15_1 := blk_frozen BK232.out 1
    have hfz15_2 := blk_frozen BK232.out 2
    go_wp2_with (first | ((with_reducible refine gate_callee (f := 15) rfl ?_); refine goesL_ (some 14) rfl rfl Tryd.func15 (by kernel_rfl) rfl #[.agg #[.int .i64 a0_0, .int .i64 a0_1, .slice A0_2 l0_2.length c0_2]] rfl zsb ?_; (with_reducible refine (thyrsuslaw1_Few.calls k a0_0 a0_1 _ _ l0_2 true _ ?side1 ?side2 A11.out).mono ?_); (case side1 => repeat (first | exact (Kd.C_below HR0_2.out HB.out) | (with_reducible refine Kd.C_alloc ?_ _) | (with_reducible refine Kd.C_drewN ?_ _) | (with_reducible refine Kd.C_drew ?_))); (case side2 => exact HC0_2.out); rintro e w16 ⟨rfl, hb⟩; refine ⟨_, rfl, ?_⟩; have n0_ := Aside0.mk (blk_below (g := gb232) (o := .cells #[.int .i64 a0_0, .int .i64 a0_1, .slice A0_2 l0_2.length c0_2] 24 (0, 0)) (bk_ BK232.out) hb); have n1_ := Aside0.mk (blk_below (g := gb233) (o := .cells #[.int .i64 a1_0, .int .i64 a1_1, .slice A1_2 l1_2.length c1_2] 24 (0, 0)) (bk_ BK233.out) hb); have n2_ := Aside0.mk (below_step zsa hb); clear BK232; clear BK233; clear HB; have BK232 := n0_; have BK233 := n1_; have HB := n2_; clear n0_ n1_ n2_; (try clear hb); (try clear hb2); (try clear hk); (try clear hi); have hcz17_0 : w16.cell? ⟨gb233, 0, none⟩ = some (.int .i64 a1_0) := bc_ BK233 0; have hcz17_1 : w16.cell? ⟨gb233, 1, none⟩ = some (.int .i64 a1_1) := bc_ BK233 1; have hcz17_2 : w16.cell? ⟨gb233, 2, none⟩ = some (.slice A1_2 l1_2.length c1_2) := bc_ BK233 2; have hfz17_0 := blk_frozen BK233.out 0; have hfz17_1 := blk_frozen BK233.out 1; have hfz17_2 := blk_frozen BK233.out 2) | (go_at_call 15; (with_reducible refine (thyrsuslaw1_Few.calls k a1_0 a1_1 _ _ l1_2 t236 _ ?side1 ?side2 A13.out).mono ?_); (case side1 => repeat (first | exact (Kd.C_below HR1_2.out HB.out) | (with_reducible refine Kd.C_alloc ?_ _) | (with_reducible refine Kd.C_drewN ?_ _) | (with_reducible refine Kd.C_drew ?_))); (case side2 => exact HC1_2.out); rintro e w18 ⟨rfl, hb⟩; have n0_ := Aside0.mk (blk_below (g := gb232) (o := .cells #[.int .i64 a0_0, .int .i64 a0_1, .slice A0_2 l0_2.length c0_2] 24 (0, 0)) (bk_ BK232.out) hb); have n1_ := Aside0.mk (blk_below (g := gb233) (o := .cells #[.int .i64 a1_0, .int .i64 a1_1, .slice A1_2 l1_2.length c1_2] 24 (0, 0)) (bk_ BK233.out) hb); have n2_ := Aside0.mk (below_step zsa hb); clear BK232; clear BK233; clear HB; have BK232 := n0_; have BK233 := n1_; have HB := n2_; clear n0_ n1_ n2_; (try clear hb); (try clear hb2); (try clear hk); (try clear hi)))
    go_meet
    case rel => exact ⟨_, (!t236), (by first | rfl | (simp; done) | (simp [*]; done)), H', ⟨by first | omega | exact Nat.le_refl _⟩, ⟨bk_ BK232.out⟩, ⟨bk_ BK233.out⟩, ⟨zsa⟩⟩
   ·replace c12 := Bool.eq_false_iff.mpr c12
    subst c12
    have H1 : (thyrsuslaw4_TermMoves.j0 k a2 a3 true a0_0 a0_1 l0_2 a1_0 a1_1 l1_2) = some r := by rw [if_neg (show ¬ (false = true) by decide)] at H; exact H
    clear H
    have H := H1
    clear H1
    have H' := Aside0.mk H
    clear H
    have hnb19 := NB232_233.out
    have hnc19 := NB233_232.out
    have hcz20_0 : w10.cell? ⟨gb232, 0, none⟩ = some (.int .i64 a0_0) := bc_ BK232 0
    have hcz20_1 : w10.cell? ⟨gb232, 1, none⟩ = some (.int .i64 a0_1) := bc_ BK232 1
    have hcz20_2 : w10.cell? ⟨gb232, 2, none⟩ = some (.slice A0_2 l0_2.length c0_2) := bc_ BK232 2
    have hfz20_0 := blk_frozen BK232.out 0
    have hfz20_1 := blk_frozen BK232.out 1
    have hfz20_2 := blk_frozen BK232.out 2
    go_wp2_with (first | ((with_reducible refine gate_callee (f := 15) rfl ?_); refine goesL_ (some 14) rfl rfl Tryd.func15 (by kernel_rfl) rfl #[.agg #[.int .i64 a0_0, .int .i64 a0_1, .slice A0_2 l0_2.length c0_2]] rfl zsb ?_; (with_reducible refine (thyrsuslaw1_Few.calls k a0_0 a0_1 _ _ l0_2 false _ ?side1 ?side2 A11.out).mono ?_); (case side1 => repeat (first | exact (Kd.C_below HR0_2.out HB.out) | (with_reducible refine Kd.C_alloc ?_ _) | (with_reducible refine Kd.C_drewN ?_ _) | (with_reducible refine Kd.C_drew ?_))); (case side2 => exact HC0_2.out); rintro e w21 ⟨rfl, hb⟩; refine ⟨_, rfl, ?_⟩; have n0_ := Aside0.mk (blk_below (g := gb232) (o := .cells #[.int .i64 a0_0, .int .i64 a0_1, .slice A0_2 l0_2.length c0_2] 24 (0, 0)) (bk_ BK232.out) hb); have n1_ := Aside0.mk (blk_below (g := gb233) (o := .cells #[.int .i64 a1_0, .int .i64 a1_1, .slice A1_2 l1_2.length c1_2] 24 (0, 0)) (bk_ BK233.out) hb); have n2_ := Aside0.mk (below_step zsa hb); clear BK232; clear BK233; clear HB; have BK232 := n0_; have BK233 := n1_; have HB := n2_; clear n0_ n1_ n2_; (try clear hb); (try clear hb2); (try clear hk); (try clear hi)))
    go_meet
    case rel => exact ⟨_, (true), (by first | rfl | (simp; done) | (simp [*]; done)), H', ⟨by first | omega | exact Nat.le_refl _⟩, ⟨bk_ BK232.out⟩, ⟨bk_ BK233.out⟩, ⟨zsa⟩⟩
  case rest =>
   clear HC7
   try clear c1
   try clear p2
   try clear c6
   try clear c12
   try clear c13
   try clear c14
   try clear c15
   try clear c19
   try clear hcz15_0
   try clear hcz15_1
   try clear hcz15_2
   try clear hcz17_0
   try clear hcz17_1
   try clear hcz17_2
   try clear hcz20_0
   try clear hcz20_1
   try clear hcz20_2
   try clear hfz15_0
   try clear hfz15_1
   try clear hfz15_2
   try clear hfz17_0
   try clear hfz17_1
   try clear hfz17_2
   try clear hfz20_0
   try clear hfz20_1
   try clear hfz20_2
   obtain ⟨kq, x20_6, rfl, HA, HJ6, BK232, BK233, HB⟩ := hcut
   cases kq with
   | zero => exact absurd HA.out (by simp [thyrsuslaw4_TermMoves.j0])
   | succ kj6 =>
    have H := HA.out
    clear HA
    simp only [thyrsuslaw4_TermMoves.j0] at H
    by_cases c22 : x20_6 = true
    ·subst c22
     have H1 : (some true) = some r := by rw [if_pos rfl] at H; exact H
     clear H
     have H := H1
     clear H1
     obtain rfl := Option.some.inj H
     go_wp2
     go_ret
     exact ⟨by first | rfl | (simp [errW_none, errW_some] <;> rfl) | (simp [*, errW_none, errW_some] <;> rfl), zsa⟩
    ·replace c22 := Bool.eq_false_iff.mpr c22
     subst c22
     have H1 : ((thyrsuslaw1_Make.f kj6 a0_0 a0_1 l0_2 6 4).bind fun bt237 => ((thyrsuslaw1_Make.f kj6 a1_0 a1_1 l1_2 4 4).bind fun bt242 => ((thyrsuslaw4_within.f a2 6).bind fun t249 => ((thyrsuslaw4_within.f a3 5).bind fun t250 => ((term_Size.f kj6 bt237.1 bt237.2.1 bt237.2.2).bind fun t251 => ((thyrsusref4_Size.f kj6 bt237.1 bt237.2.1 bt237.2.2).bind fun t252 => (if t251 = t252 then ((term_Free.f kj6 bt237.1 bt237.2.1 bt237.2.2 t249).bind fun t253 => ((thyrsusref4_Free.f kj6 bt237.1 bt237.2.1 bt237.2.2 t249).bind fun t254 => (if (t253 == t254) = true then ((term_Below.f kj6 bt237.1 bt237.2.1 bt237.2.2 t249).bind fun t255 => ((thyrsusref4_Below.f kj6 bt237.1 bt237.2.1 bt237.2.2 t249).bind fun t256 => (if (t255 == t256) = true then ((term_Shift.f kj6 bt237.1 bt237.2.1 bt237.2.2 t250 t249).bind fun bt257 => ((thyrsusref4_Shift.f kj6 bt237.1 bt237.2.1 bt237.2.2 t250 t249).bind fun bt262 => ((thyrsusref4_Same.f kj6 bt257.1 bt257.2.1 bt257.2.2 bt262.1 bt262.2.1 bt262.2.2).bind fun t267 => (if t267 = true then ((term_Subst.f kj6 bt237.1 bt237.2.1 bt237.2.2 t249 bt242.1 bt242.2.1 bt242.2.2).bind fun bt268 => ((thyrsusref4_Subst.f kj6 bt237.1 bt237.2.1 bt237.2.2 t249 bt242.1 bt242.2.1 bt242.2.2).bind fun bt273 => ((thyrsusref4_Same.f kj6 bt268.1 bt268.2.1 bt268.2.2 bt273.1 bt273.2.1 bt273.2.2).bind fun t278 => (if t278 = true then ((term_Text.f kj6 bt237.1 bt237.2.1 bt237.2.2).bind fun t279 => ((thyrsusref4_Text.f kj6 bt237.1 bt237.2.1 bt237.2.2).bind fun t280 => (if t279.toList = t280.toList then ((term_Same.f kj6 bt237.1 bt237.2.1 bt237.2.2 bt242.1 bt242.2.1 bt242.2.2).bind fun t281 => ((thyrsusref4_Same.f kj6 bt237.1 bt237.2.1 bt237.2.2 bt242.1 bt242.2.1 bt242.2.2).bind fun t282 => (if (t281 == t282) = true then ((thyrsuslaw1_Make.f kj6 a0_0 a0_1 l0_2 6 4).bind fun bt283 => ((term_Same.f kj6 bt237.1 bt237.2.1 bt237.2.2 bt283.1 bt283.2.1 bt283.2.2).bind fun t288 => (some t288))) else (none)))) else (none)))) else (none))))) else (none))))) else (none)))) else (none)))) else (none)))))))) = some r := by rw [if_neg (show ¬ (false = true) by decide)] at H; exact H
     clear H
     have H := H1
     clear H1
     replace H := Option.bind_eq_some_iff.mp H
     obtain ⟨⟨t237, t238, t239⟩, A230, H⟩ := H
     replace H : ((thyrsuslaw1_Make.f kj6 a1_0 a1_1 l1_2 4 4).bind fun bt242 => ((thyrsuslaw4_within.f a2 6).bind fun t249 => ((thyrsuslaw4_within.f a3 5).bind fun t250 => ((term_Size.f kj6 t237 t238 t239).bind fun t251 => ((thyrsusref4_Size.f kj6 t237 t238 t239).bind fun t252 => (if t251 = t252 then ((term_Free.f kj6 t237 t238 t239 t249).bind fun t253 => ((thyrsusref4_Free.f kj6 t237 t238 t239 t249).bind fun t254 => (if (t253 == t254) = true then ((term_Below.f kj6 t237 t238 t239 t249).bind fun t255 => ((thyrsusref4_Below.f kj6 t237 t238 t239 t249).bind fun t256 => (if (t255 == t256) = true then ((term_Shift.f kj6 t237 t238 t239 t250 t249).bind fun bt257 => ((thyrsusref4_Shift.f kj6 t237 t238 t239 t250 t249).bind fun bt262 => ((thyrsusref4_Same.f kj6 bt257.1 bt257.2.1 bt257.2.2 bt262.1 bt262.2.1 bt262.2.2).bind fun t267 => (if t267 = true then ((term_Subst.f kj6 t237 t238 t239 t249 bt242.1 bt242.2.1 bt242.2.2).bind fun bt268 => ((thyrsusref4_Subst.f kj6 t237 t238 t239 t249 bt242.1 bt242.2.1 bt242.2.2).bind fun bt273 => ((thyrsusref4_Same.f kj6 bt268.1 bt268.2.1 bt268.2.2 bt273.1 bt273.2.1 bt273.2.2).bind fun t278 => (if t278 = true then ((term_Text.f kj6 t237 t238 t239).bind fun t279 => ((thyrsusref4_Text.f kj6 t237 t238 t239).bind fun t280 => (if t279.toList = t280.toList then ((term_Same.f kj6 t237 t238 t239 bt242.1 bt242.2.1 bt242.2.2).bind fun t281 => ((thyrsusref4_Same.f kj6 t237 t238 t239 bt242.1 bt242.2.1 bt242.2.2).bind fun t282 => (if (t281 == t282) = true then ((thyrsuslaw1_Make.f kj6 a0_0 a0_1 l0_2 6 4).bind fun bt283 => ((term_Same.f kj6 t237 t238 t239 bt283.1 bt283.2.1 bt283.2.2).bind fun t288 => (some t288))) else (none)))) else (none)))) else (none))))) else (none))))) else (none)))) else (none)))) else (none))))))) = some r := H
     have A23 := Aside0.mk A230
     clear A230
     replace H := Option.bind_eq_some_iff.mp H
     obtain ⟨⟨t242, t243, t244⟩, A240, H⟩ := H
     replace H : ((thyrsuslaw4_within.f a2 6).bind fun t249 => ((thyrsuslaw4_within.f a3 5).bind fun t250 => ((term_Size.f kj6 t237 t238 t239).bind fun t251 => ((thyrsusref4_Size.f kj6 t237 t238 t239).bind fun t252 => (if t251 = t252 then ((term_Free.f kj6 t237 t238 t239 t249).bind fun t253 => ((thyrsusref4_Free.f kj6 t237 t238 t239 t249).bind fun t254 => (if (t253 == t254) = true then ((term_Below.f kj6 t237 t238 t239 t249).bind fun t255 => ((thyrsusref4_Below.f kj6 t237 t238 t239 t249).bind fun t256 => (if (t255 == t256) = true then ((term_Shift.f kj6 t237 t238 t239 t250 t249).bind fun bt257 => ((thyrsusref4_Shift.f kj6 t237 t238 t239 t250 t249).bind fun bt262 => ((thyrsusref4_Same.f kj6 bt257.1 bt257.2.1 bt257.2.2 bt262.1 bt262.2.1 bt262.2.2).bind fun t267 => (if t267 = true then ((term_Subst.f kj6 t237 t238 t239 t249 t242 t243 t244).bind fun bt268 => ((thyrsusref4_Subst.f kj6 t237 t238 t239 t249 t242 t243 t244).bind fun bt273 => ((thyrsusref4_Same.f kj6 bt268.1 bt268.2.1 bt268.2.2 bt273.1 bt273.2.1 bt273.2.2).bind fun t278 => (if t278 = true then ((term_Text.f kj6 t237 t238 t239).bind fun t279 => ((thyrsusref4_Text.f kj6 t237 t238 t239).bind fun t280 => (if t279.toList = t280.toList then ((term_Same.f kj6 t237 t238 t239 t242 t243 t244).bind fun t281 => ((thyrsusref4_Same.f kj6 t237 t238 t239 t242 t243 t244).bind fun t282 => (if (t281 == t282) = true then ((thyrsuslaw1_Make.f kj6 a0_0 a0_1 l0_2 6 4).bind fun bt283 => ((term_Same.f kj6 t237 t238 t239 bt283.1 bt283.2.1 bt283.2.2).bind fun t288 => (some t288))) else (none)))) else (none)))) else (none))))) else (none))))) else (none)))) else (none)))) else (none)))))) = some r := H
     have A24 := Aside0.mk A240
     clear A240
     replace H := Option.bind_eq_some_iff.mp H
     obtain ⟨t249, A250, H⟩ := H
     replace H : ((thyrsuslaw4_within.f a3 5).bind fun t250 => ((term_Size.f kj6 t237 t238 t239).bind fun t251 => ((thyrsusref4_Size.f kj6 t237 t238 t239).bind fun t252 => (if t251 = t252 then ((term_Free.f kj6 t237 t238 t239 t249).bind fun t253 => ((thyrsusref4_Free.f kj6 t237 t238 t239 t249).bind fun t254 => (if (t253 == t254) = true then ((term_Below.f kj6 t237 t238 t239 t249).bind fun t255 => ((thyrsusref4_Below.f kj6 t237 t238 t239 t249).bind fun t256 => (if (t255 == t256) = true then ((term_Shift.f kj6 t237 t238 t239 t250 t249).bind fun bt257 => ((thyrsusref4_Shift.f kj6 t237 t238 t239 t250 t249).bind fun bt262 => ((thyrsusref4_Same.f kj6 bt257.1 bt257.2.1 bt257.2.2 bt262.1 bt262.2.1 bt262.2.2).bind fun t267 => (if t267 = true then ((term_Subst.f kj6 t237 t238 t239 t249 t242 t243 t244).bind fun bt268 => ((thyrsusref4_Subst.f kj6 t237 t238 t239 t249 t242 t243 t244).bind fun bt273 => ((thyrsusref4_Same.f kj6 bt268.1 bt268.2.1 bt268.2.2 bt273.1 bt273.2.1 bt273.2.2).bind fun t278 => (if t278 = true then ((term_Text.f kj6 t237 t238 t239).bind fun t279 => ((thyrsusref4_Text.f kj6 t237 t238 t239).bind fun t280 => (if t279.toList = t280.toList then ((term_Same.f kj6 t237 t238 t239 t242 t243 t244).bind fun t281 => ((thyrsusref4_Same.f kj6 t237 t238 t239 t242 t243 t244).bind fun t282 => (if (t281 == t282) = true then ((thyrsuslaw1_Make.f kj6 a0_0 a0_1 l0_2 6 4).bind fun bt283 => ((term_Same.f kj6 t237 t238 t239 bt283.1 bt283.2.1 bt283.2.2).bind fun t288 => (some t288))) else (none)))) else (none)))) else (none))))) else (none))))) else (none)))) else (none)))) else (none))))) = some r := H
     have A25 := Aside0.mk A250
     clear A250
     replace H := Option.bind_eq_some_iff.mp H
     obtain ⟨t250, A260, H⟩ := H
     replace H : ((term_Size.f kj6 t237 t238 t239).bind fun t251 => ((thyrsusref4_Size.f kj6 t237 t238 t239).bind fun t252 => (if t251 = t252 then ((term_Free.f kj6 t237 t238 t239 t249).bind fun t253 => ((thyrsusref4_Free.f kj6 t237 t238 t239 t249).bind fun t254 => (if (t253 == t254) = true then ((term_Below.f kj6 t237 t238 t239 t249).bind fun t255 => ((thyrsusref4_Below.f kj6 t237 t238 t239 t249).bind fun t256 => (if (t255 == t256) = true then ((term_Shift.f kj6 t237 t238 t239 t250 t249).bind fun bt257 => ((thyrsusref4_Shift.f kj6 t237 t238 t239 t250 t249).bind fun bt262 => ((thyrsusref4_Same.f kj6 bt257.1 bt257.2.1 bt257.2.2 bt262.1 bt262.2.1 bt262.2.2).bind fun t267 => (if t267 = true then ((term_Subst.f kj6 t237 t238 t239 t249 t242 t243 t244).bind fun bt268 => ((thyrsusref4_Subst.f kj6 t237 t238 t239 t249 t242 t243 t244).bind fun bt273 => ((thyrsusref4_Same.f kj6 bt268.1 bt268.2.1 bt268.2.2 bt273.1 bt273.2.1 bt273.2.2).bind fun t278 => (if t278 = true then ((term_Text.f kj6 t237 t238 t239).bind fun t279 => ((thyrsusref4_Text.f kj6 t237 t238 t239).bind fun t280 => (if t279.toList = t280.toList then ((term_Same.f kj6 t237 t238 t239 t242 t243 t244).bind fun t281 => ((thyrsusref4_Same.f kj6 t237 t238 t239 t242 t243 t244).bind fun t282 => (if (t281 == t282) = true then ((thyrsuslaw1_Make.f kj6 a0_0 a0_1 l0_2 6 4).bind fun bt283 => ((term_Same.f kj6 t237 t238 t239 bt283.1 bt283.2.1 bt283.2.2).bind fun t288 => (some t288))) else (none)))) else (none)))) else (none))))) else (none))))) else (none)))) else (none)))) else (none)))) = some r := H
     have A26 := Aside0.mk A260
     clear A260
     replace H := Option.bind_eq_some_iff.mp H
     obtain ⟨t251, A270, H⟩ := H
     replace H : ((thyrsusref4_Size.f kj6 t237 t238 t239).bind fun t252 => (if t251 = t252 then ((term_Free.f kj6 t237 t238 t239 t249).bind fun t253 => ((thyrsusref4_Free.f kj6 t237 t238 t239 t249).bind fun t254 => (if (t253 == t254) = true then ((term_Below.f kj6 t237 t238 t239 t249).bind fun t255 => ((thyrsusref4_Below.f kj6 t237 t238 t239 t249).bind fun t256 => (if (t255 == t256) = true then ((term_Shift.f kj6 t237 t238 t239 t250 t249).bind fun bt257 => ((thyrsusref4_Shift.f kj6 t237 t238 t239 t250 t249).bind fun bt262 => ((thyrsusref4_Same.f kj6 bt257.1 bt257.2.1 bt257.2.2 bt262.1 bt262.2.1 bt262.2.2).bind fun t267 => (if t267 = true then ((term_Subst.f kj6 t237 t238 t239 t249 t242 t243 t244).bind fun bt268 => ((thyrsusref4_Subst.f kj6 t237 t238 t239 t249 t242 t243 t244).bind fun bt273 => ((thyrsusref4_Same.f kj6 bt268.1 bt268.2.1 bt268.2.2 bt273.1 bt273.2.1 bt273.2.2).bind fun t278 => (if t278 = true then ((term_Text.f kj6 t237 t238 t239).bind fun t279 => ((thyrsusref4_Text.f kj6 t237 t238 t239).bind fun t280 => (if t279.toList = t280.toList then ((term_Same.f kj6 t237 t238 t239 t242 t243 t244).bind fun t281 => ((thyrsusref4_Same.f kj6 t237 t238 t239 t242 t243 t244).bind fun t282 => (if (t281 == t282) = true then ((thyrsuslaw1_Make.f kj6 a0_0 a0_1 l0_2 6 4).bind fun bt283 => ((term_Same.f kj6 t237 t238 t239 bt283.1 bt283.2.1 bt283.2.2).bind fun t288 => (some t288))) else (none)))) else (none)))) else (none))))) else (none))))) else (none)))) else (none)))) else (none))) = some r := H
     have A27 := Aside0.mk A270
     clear A270
     replace H := Option.bind_eq_some_iff.mp H
     obtain ⟨t252, A280, H⟩ := H
     replace H : (if t251 = t252 then ((term_Free.f kj6 t237 t238 t239 t249).bind fun t253 => ((thyrsusref4_Free.f kj6 t237 t238 t239 t249).bind fun t254 => (if (t253 == t254) = true then ((term_Below.f kj6 t237 t238 t239 t249).bind fun t255 => ((thyrsusref4_Below.f kj6 t237 t238 t239 t249).bind fun t256 => (if (t255 == t256) = true then ((term_Shift.f kj6 t237 t238 t239 t250 t249).bind fun bt257 => ((thyrsusref4_Shift.f kj6 t237 t238 t239 t250 t249).bind fun bt262 => ((thyrsusref4_Same.f kj6 bt257.1 bt257.2.1 bt257.2.2 bt262.1 bt262.2.1 bt262.2.2).bind fun t267 => (if t267 = true then ((term_Subst.f kj6 t237 t238 t239 t249 t242 t243 t244).bind fun bt268 => ((thyrsusref4_Subst.f kj6 t237 t238 t239 t249 t242 t243 t244).bind fun bt273 => ((thyrsusref4_Same.f kj6 bt268.1 bt268.2.1 bt268.2.2 bt273.1 bt273.2.1 bt273.2.2).bind fun t278 => (if t278 = true then ((term_Text.f kj6 t237 t238 t239).bind fun t279 => ((thyrsusref4_Text.f kj6 t237 t238 t239).bind fun t280 => (if t279.toList = t280.toList then ((term_Same.f kj6 t237 t238 t239 t242 t243 t244).bind fun t281 => ((thyrsusref4_Same.f kj6 t237 t238 t239 t242 t243 t244).bind fun t282 => (if (t281 == t282) = true then ((thyrsuslaw1_Make.f kj6 a0_0 a0_1 l0_2 6 4).bind fun bt283 => ((term_Same.f kj6 t237 t238 t239 bt283.1 bt283.2.1 bt283.2.2).bind fun t288 => (some t288))) else (none)))) else (none)))) else (none))))) else (none))))) else (none)))) else (none)))) else (none)) = some r := H
     have A28 := Aside0.mk A280
     clear A280
     by_cases c29 : t251 = t252
     rotate_left
     ·rw [if_neg c29] at H
      exact absurd H (by simp)
     rw [if_pos c29] at H
     subst c29
     obtain ⟨t253, A300, H⟩ := Option.bind_eq_some_iff.mp H
     have A30 := Aside0.mk A300
     clear A300
     obtain ⟨t254, A310, H⟩ := Option.bind_eq_some_iff.mp H
     have A31 := Aside0.mk A310
     clear A310
     by_cases c32 : (t253 == t254) = true
     rotate_left
     ·rw [if_neg c32] at H
      exact absurd H (by simp)
     rw [if_pos c32] at H
     obtain rfl : t253 = t254 := eq_of_beq c32
     clear c32
     obtain ⟨t255, A330, H⟩ := Option.bind_eq_some_iff.mp H
     have A33 := Aside0.mk A330
     clear A330
     obtain ⟨t256, A340, H⟩ := Option.bind_eq_some_iff.mp H
     have A34 := Aside0.mk A340
     clear A340
     by_cases c35 : (t255 == t256) = true
     rotate_left
     ·rw [if_neg c35] at H
      exact absurd H (by simp)
     rw [if_pos c35] at H
     obtain rfl : t255 = t256 := eq_of_beq c35
     clear c35
     obtain ⟨⟨t257, t258, t259⟩, A360, H⟩ := Option.bind_eq_some_iff.mp H
     have A36 := Aside0.mk A360
     clear A360
     obtain ⟨⟨t262, t263, t264⟩, A370, H⟩ := Option.bind_eq_some_iff.mp H
     have A37 := Aside0.mk A370
     clear A370
     obtain ⟨t267, A380, H⟩ := Option.bind_eq_some_iff.mp H
     have A38 := Aside0.mk A380
     clear A380
     by_cases c39 : t267 = true
     rotate_left
     ·rw [if_neg c39] at H
      exact absurd H (by simp)
     rw [if_pos c39] at H
     subst c39
     obtain ⟨⟨t268, t269, t270⟩, A400, H⟩ := Option.bind_eq_some_iff.mp H
     have A40 := Aside0.mk A400
     clear A400
     obtain ⟨⟨t273, t274, t275⟩, A410, H⟩ := Option.bind_eq_some_iff.mp H
     have A41 := Aside0.mk A410
     clear A410
     obtain ⟨t278, A420, H⟩ := Option.bind_eq_some_iff.mp H
     have A42 := Aside0.mk A420
     clear A420
     by_cases c43 : t278 = true
     rotate_left
     ·rw [if_neg c43] at H
      exact absurd H (by simp)
     rw [if_pos c43] at H
     subst c43
     obtain ⟨t279, A440, H⟩ := Option.bind_eq_some_iff.mp H
     have A44 := Aside0.mk A440
     clear A440
     obtain ⟨t280, A450, H⟩ := Option.bind_eq_some_iff.mp H
     have A45 := Aside0.mk A450
     clear A450
     by_cases c46 : t279.toList = t280.toList
     rotate_left
     ·rw [if_neg c46] at H
      exact absurd H (by simp)
     rw [if_pos c46] at H
     have c46b := Aside0.mk (show (t279.toList == t280.toList) = true from beq_iff_eq.mpr c46)
     clear c46
     obtain ⟨t281, A470, H⟩ := Option.bind_eq_some_iff.mp H
     have A47 := Aside0.mk A470
     clear A470
     obtain ⟨t282, A480, H⟩ := Option.bind_eq_some_iff.mp H
     have A48 := Aside0.mk A480
     clear A480
     by_cases c49 : (t281 == t282) = true
     rotate_left
     ·rw [if_neg c49] at H
      exact absurd H (by simp)
     rw [if_pos c49] at H
     obtain rfl : t281 = t282 := eq_of_beq c49
     clear c49
     obtain ⟨⟨t283, t284, t285⟩, A500, H⟩ := Option.bind_eq_some_iff.mp H
     have A50 := Aside0.mk A500
     clear A500
     obtain ⟨t288, A510, H⟩ := Option.bind_eq_some_iff.mp H
     have A51 := Aside0.mk A510
     clear A510
     obtain rfl := Option.some.inj H
     try go_wp2
     refine moves_r5 (by rfl) kj6 a0_0 a0_1 A0_2 c0_2 l0_2 gb232 rfl BK232.out (Kd.C_below HR0_2.out HB.out) HC0_2.out a1_0 a1_1 A1_2 c1_2 l1_2 gb233 rfl BK233.out (Kd.C_below HR1_2.out HB.out) HC1_2.out t237 t238 t239 t242 t243 t244 A23.out A24.out ?_
     rintro u1 u3 g4 g5 w1 hb _ S4 F4 _ S5 F5
     replace BK232 := Aside0.mk (blk_below BK232.out hb)
     replace HB := Aside0.mk (below_step HB.out hb)
     clear hb BK233
     have B4 := Aside0.mk S4
     have T4 := Aside0.mk F4
     clear S4 F4
     have B5 := Aside0.mk S5
     have T5 := Aside0.mk F5
     clear S5 F5
     (try simp only [Act.put, List.setIfInBounds_toArray, List.set_cons_zero, List.set_cons_succ])
     go_wp2_with (first | ((with_reducible refine gate_callee (f := 20) rfl ?_); refine goesL_ (some 26) rfl rfl Tryd.func20 (by kernel_rfl) rfl #[.int .i64 a2, .int .i64 6] rfl zsb ?_; refine (within_go a2 6 t249 _ A25.out).mono ?_; rintro e w2 ⟨rfl, hb⟩; refine ⟨_, rfl, ?_⟩; replace B4 := Aside0.mk (blk_below B4.out hb); replace T4 := Aside0.mk (TV.step T4.out hb); replace B5 := Aside0.mk (blk_below B5.out hb); replace T5 := Aside0.mk (TV.step T5.out hb); replace BK232 := Aside0.mk (blk_below BK232.out hb); replace HB := Aside0.mk (below_step HB.out hb); clear hb) | ((with_reducible refine gate_callee (f := 20) rfl ?_); refine goesL_ (some 28) rfl rfl Tryd.func20 (by kernel_rfl) rfl #[.int .i64 a3, .int .i64 5] rfl zsb ?_; refine (within_go a3 5 t250 _ A26.out).mono ?_; rintro e w2 ⟨rfl, hb⟩; refine ⟨_, rfl, ?_⟩; replace B4 := Aside0.mk (blk_below B4.out hb); replace T4 := Aside0.mk (TV.step T4.out hb); replace B5 := Aside0.mk (blk_below B5.out hb); replace T5 := Aside0.mk (TV.step T5.out hb); replace BK232 := Aside0.mk (blk_below BK232.out hb); replace HB := Aside0.mk (below_step HB.out hb); clear hb))
     refine moves_r7 (by rfl) kj6 t237 t238 u1 t239 g4 rfl B4.out T4.out t242 t243 u3 t244 g5 rfl B5.out T5.out a0_0 a0_1 A0_2 c0_2 l0_2 gb232 rfl BK232.out (Kd.C_below HR0_2.out HB.out) HC0_2.out t249 rfl t250 rfl t255 t253 t281 t288 t279 t280 t251 c46b.out (TabP.below HTB.out HB.out) t257 t258 t259 t262 t263 t264 t268 t269 t270 t273 t274 t275 t283 t284 t285 A27.out A28.out A30.out A31.out A33.out A34.out A36.out A37.out A38.out A40.out A41.out A42.out A44.out A45.out A47.out A48.out A50.out A51.out ?_
     rintro z1 z2 z3 z4 z5 w3 hb
     replace HB := Aside0.mk (below_step HB.out hb)
     clear hb
     (try simp only [Act.put, List.setIfInBounds_toArray, List.set_cons_zero, List.set_cons_succ])
     try go_wp2
     go_ret
     exact ⟨by first | rfl | (simp [errW_none, errW_some] <;> rfl) | (simp [*, errW_none, errW_some] <;> rfl), HB.out⟩
 ·replace c6 := Bool.eq_false_iff.mpr c6
  subst c6
  have H1 : (none) = some r := by rw [if_neg (show ¬ (false = true) by decide)] at H; exact H
  exact absurd H1 (by simp)
end Go.Proofs.YtcchfblekaaalaaDoor.P
/- TermMoves, the plain law: the code and the reference do the same to made terms. -/
namespace Go.Proofs.YtcchfblekaaalaaDoor.Pure
open Go.RowKit Go.Proofs.YtcchfblekaaalaaDoor.P Go.Proofs.YtcchfblekaaalaaDoorW.PrintWords Go.Proofs.YtcchfblekaaalaaDoorW.PrintLast Go.Proofs.YtcchfblekaaalaaDoorW.PrintMore
set_option linter.unusedVariables false
theorem mkT {x : S24} (hx : WF24 x) (n : Nat) (vars : Int) (hn : n ≤ 6) (hv : 0 ≤ vars) (hv2 : vars ≤ 100) :
    ∃ t : S29, Ev (fun k => thyrsuslaw1_Make.f k x.f0 x.f1 x.f2 (n : Int) vars) (t.f0, t.f1, t.f2) ∧ good 1000 t ∧ deep29 t ≤ 11 ∧ size29 t ≤ 100000 ∧ nums t := by
  obtain ⟨t, h1, h2, h3, h4⟩ := make2_all n x hx (n : Int) vars (Int.le_refl _) (by omega) hv (by omega) (by omega)
  have hc : cap n ≤ 100000 := by
    have : n = 0 ∨ n = 1 ∨ n = 2 ∨ n = 3 ∨ n = 4 ∨ n = 5 ∨ n = 6 := by omega
    rcases this with rfl | rfl | rfl | rfl | rfl | rfl | rfl <;> decide
  exact ⟨t, h1, mk_good (by omega) t h2 (by omega), by omega, by omega, mk_nums t h2 (by omega)⟩
theorem shE {B y f : Int} {t : S29} (hg : good B t) (hd : deep29 t ≤ 1000) (hB : B ≤ 1000000) (hy : 0 ≤ y) (hy2 : y ≤ 1000) (hf : 0 ≤ f) (hf2 : f ≤ 1000) : Ev (fun k => term_Shift.f k t.f0 t.f1 t.f2 y f) ((sh y f 0 t).f0, (sh y f 0 t).f1, (sh y f 0 t).f2) :=
  ⟨3 * size29 t, fun k hk => shift_run (B := B) (by omega) (by omega) (by omega) (by omega) (by omega) t hg (by omega) k hk⟩
theorem sbE {B C m : Int} {t u : S29} (hg : good B t) (hu : good C u) (hd : deep29 t ≤ 1000) (hdu : deep29 u ≤ 1000) (hB : B ≤ 1000000) (hC : C ≤ 1000000) (hm : 0 ≤ m) (hm2 : m ≤ 1000) : Ev (fun k => term_Subst.f k t.f0 t.f1 t.f2 m u.f0 u.f1 u.f2) ((sb m u 0 t).f0, (sb m u 0 t).f1, (sb m u 0 t).f2) :=
  ⟨3 * size29 t + 3 * size29 u, fun k hk => subst_run (B := B) (C := C) (by omega) (by omega) (by omega) (by omega) t u hg hu (by omega) (by omega) k (by omega) (by omega)⟩
theorem smE {B : Int} {t u : S29} (h : t = u) (hg : good B t) : Ev (fun k => thyrsusref4_Same.f k t.f0 t.f1 t.f2 u.f0 u.f1 u.f2) true := ⟨4 * size29 t, fun k hk => same_eq h hg k hk⟩
theorem TermMoves {x y : S24} (hx : WF24 x) (hy : WF24 y) {n b : Int} (hn : (Lit.int .i64 n).wf = true) (hb : (Lit.int .i64 b).wf = true) :
    Ev (fun k => thyrsuslaw4_TermMoves.f k x.f0 x.f1 x.f2 y.f0 y.f1 y.f2 n b) true := by
  unfold thyrsuslaw4_TermMoves.f
  refine Ev.bind ⟨10, fun k hk => known_k hk⟩ ?_
  simp only [if_true]
  obtain ⟨c1, e1, _⟩ := few_ev hx
  refine Ev.bind e1 ?_
  have out : ∀ c : Bool, Ev (fun k => thyrsuslaw4_TermMoves.j0 k n b c x.f0 x.f1 x.f2 y.f0 y.f1 y.f2) true := by
    intro c
    cases c with
    | true => exact Ev.step (f := fun k => some true) (fun k => by simp only [thyrsuslaw4_TermMoves.j0, if_true]) (Ev.now _)
    | false =>
      obtain ⟨t, m1, g1, d1, s1, q1⟩ := mkT hx 6 4 (by omega) (by omega) (by omega)
      obtain ⟨u, m2, g2, d2, s2, q2⟩ := mkT hy 4 4 (by omega) (by omega) (by omega)
      obtain ⟨na, la, ea_⟩ := within_ex (i64_of hn) (n := 6) (by decide) (by decide)
      obtain ⟨nb, lb, eb_⟩ := within_ex (i64_of hb) (n := 5) (by decide) (by decide)
      have r1 : Ev (fun k => term_Size.f k t.f0 t.f1 t.f2) (size29 t : Int) := ⟨_, fun k hk => size_run t k g1 (by omega) hk⟩
      have r2 : Ev (fun k => thyrsusref4_Size.f k t.f0 t.f1 t.f2) (size29 t : Int) := ⟨_, fun k hk => rsize_run t k g1 (by omega) hk⟩
      have r3 : Ev (fun k => term_Free.f k t.f0 t.f1 t.f2 (na : Int)) (free na 0 t) := ⟨_, fun k hk => free_run (by omega) t g1 (by omega) k hk⟩
      have r4 : Ev (fun k => thyrsusref4_Free.f k t.f0 t.f1 t.f2 (na : Int)) (free na 0 t) := ⟨_, fun k hk => by
        have := rfree_run (n := (na : Int)) (by omega) t 0 k g1 (by omega) (by omega) hk
        rw [Int.add_zero] at this
        exact this⟩
      have r5 : Ev (fun k => term_Below.f k t.f0 t.f1 t.f2 (na : Int)) (!sa (beP na) 0 t) := ⟨_, fun k hk => below_run (by omega) t g1 (by omega) k hk⟩
      have r6 : Ev (fun k => thyrsusref4_Below.f k t.f0 t.f1 t.f2 (na : Int)) (!sa (beP na) 0 t) := ⟨_, fun k hk => by
        have := rbelow_run (n := (na : Int)) (by omega) t 0 k g1 (by omega) (by omega) hk
        rw [Int.add_zero] at this
        exact this⟩
      have r7 := shE (y := nb) (f := na) g1 (by omega) (by omega) (by omega) (by omega) (by omega) (by omega)
      have r8 : Ev (fun k => thyrsusref4_Shift.f k t.f0 t.f1 t.f2 (nb : Int) (na : Int)) ((sh nb na 0 t).f0, (sh nb na 0 t).f1, (sh nb na 0 t).f2) := ⟨_, fun k hk => rshift_all (B := 1000) (by omega) (by omega) (by omega) (by omega) t k g1 (by omega) hk⟩
      have g3 : good (1000 + nb) (sh nb na 0 t) := sh_good (by omega) (by omega) t 0 g1
      have r9 := smE (t := sh (nb : Int) na 0 t) rfl g3
      have r10 := sbE (m := na) g1 g2 (by omega) (by omega) (by omega) (by omega) (by omega) (by omega)
      have r11 : Ev (fun k => thyrsusref4_Subst.f k t.f0 t.f1 t.f2 (na : Int) u.f0 u.f1 u.f2) ((sb na u 0 t).f0, (sb na u 0 t).f1, (sb na u 0 t).f2) := ⟨_, fun k hk => rsubst_all (B := 1000) (C := 1000) (by omega) (by omega) (by omega) g2 (by omega) t k g1 (by omega) hk⟩
      have g4 : good 2000 (sb na u 0 t) := sb_good (B := 1000) (C := 1000) (by omega) (by omega) _ g2 t 0 g1 (by omega) (by omega)
      have r12 := smE (t := sb (na : Int) u 0 t) rfl g4
      have r13 : Ev (fun k => term_Text.f k t.f0 t.f1 t.f2) (bs (txt t)) := ⟨_, fun k hk => text_run t k q1 (by omega) hk⟩
      have r14 : Ev (fun k => thyrsusref4_Text.f k t.f0 t.f1 t.f2) (bs (txt t)) := ⟨_, fun k hk => rtext_run t k q1 (by omega) hk⟩
      have r15 : Ev (fun k => term_Same.f k t.f0 t.f1 t.f2 u.f0 u.f1 u.f2) (eqv t u) := ⟨_, fun k hk => tsame_run t u k g1 g2 hk⟩
      have r16 : Ev (fun k => thyrsusref4_Same.f k t.f0 t.f1 t.f2 u.f0 u.f1 u.f2) (eqv t u) := ⟨_, fun k hk => rsame_run t u k g1 g2 hk⟩
      have r17 : Ev (fun k => term_Same.f k t.f0 t.f1 t.f2 t.f0 t.f1 t.f2) true := ⟨_, fun k hk => (tsame_run t t k g1 g1 hk).trans (by rw [eqv_yes rfl])⟩
      refine Ev.step (fun k => by simp only [thyrsuslaw4_TermMoves.j0, Bool.false_eq_true, if_false]; rfl) ?_
      refine Ev.bind m1 (Ev.bind m2 ?_)
      simp only [ea_, eb_, Option.bind_some]
      refine Ev.bind r1 (Ev.bind r2 ?_)
      simp only [if_true]
      refine Ev.bind r3 (Ev.bind r4 ?_)
      simp only [beq_self_eq_true, if_true]
      refine Ev.bind r5 (Ev.bind r6 ?_)
      simp only [beq_self_eq_true, if_true]
      refine Ev.bind r7 (Ev.bind r8 (Ev.bind r9 ?_))
      simp only [if_true]
      refine Ev.bind r10 (Ev.bind r11 (Ev.bind r12 ?_))
      simp only [if_true]
      refine Ev.bind r13 (Ev.bind r14 ?_)
      simp only [if_true]
      refine Ev.bind r15 (Ev.bind r16 ?_)
      simp only [beq_self_eq_true, if_true]
      refine Ev.bind m1 (Ev.bind r17 ?_)
      exact Ev.now _
  cases c1 with
  | true =>
    simp only [if_true]
    obtain ⟨c2, e2, _⟩ := few_ev hy
    exact Ev.bind e2 (out (!c2))
  | false =>
    simp only [Bool.false_eq_true, if_false]
    exact out true
end Go.Proofs.YtcchfblekaaalaaDoor.Pure
namespace Go.Proofs.YtcchfblekaaalaaDoor.P
open Go.RowKit Go.Proofs.YtcchfblekaaalaaDoorW.PrintWords Go.Proofs.YtcchfblekaaalaaDoorW.PrintLast Go.Proofs.YtcchfblekaaalaaDoorW.PrintMore
theorem termMoves_walk (x0 : S24) (A0 : Option Addr) (c0 : Nat) {W : World} (hl0 : x0.f2.length ≤ c0) (hC0 : Kd.C k24 W A0 x0.f2.length x0.f2) (wf0 : WF24 x0) (x1 : S24) (A1 : Option Addr) (c1 : Nat) (hl1 : x1.f2.length ≤ c1) (hC1 : Kd.C k24 W A1 x1.f2.length x1.f2) (wf1 : WF24 x1) (a2 : Int) (w2 : (Lit.int .i64 a2).wf = true) (a3 : Int) (w3 : (Lit.int .i64 a3).wf = true) (hT : TabP W) :
    Calls Tryd.prog 13 #[.agg #[.int .i64 x0.f0, .int .i64 x0.f1, .slice A0 x0.f2.length c0], .agg #[.int .i64 x1.f0, .int .i64 x1.f1, .slice A1 x1.f2.length c1], .int .i64 a2, .int .i64 a3] W fun e w' => e = .returned (.bool true) ∧ Below W.heap.size W w' := by
  obtain ⟨k, h⟩ := (Pure.TermMoves wf0 wf1 w2 w3).rounds
  exact thyrsuslaw4_TermMoves.calls k x0.f0 x0.f1 A0 c0 x0.f2 x1.f0 x1.f1 A1 c1 x1.f2 a2 a3 true W hT hC0 hl0 hC1 hl1 h
end Go.Proofs.YtcchfblekaaalaaDoor.P
/- The rows' condition on listed variables, for strconv's table of powers of ten. -/
namespace Go.Proofs.YtcchfblekaaalaaDoor.P
theorem tabP_of {W : World} (h : laidMetH Tryd.prog Rows.termMovesRow.laid W) : TabP W := by
  have h' : laidMet Tryd.prog Rows.termMovesRow.laid W := h
  obtain ⟨ps, ⟨g1, t1, c1, f1, p1, q1, _, _, _, _, ⟨g2, t2, c2, f2, p2, q2, _, _, _, _, ⟨g, t, cs, fuel, p, q, hg, ht, hvar, hd, _, _⟩, _⟩, _⟩, _⟩ := h'
  have hg1 : Tryd.prog.globalNamed "internal/strconv.uint64pow10" = some 1 := by kernel_rfl
  obtain rfl := Option.some.inj (hg1.symm.trans hg)
  have ht1 : (Tryd.prog.globals[1]?).map (·.type) = some 98 := by kernel_rfl
  obtain rfl := Option.some.inj (ht1.symm.trans ht)
  have e := Lib.cells_of_tab (n := 20) (k := .u64) (zs := Lib.pow10Tab) Tryd.underlying98 Tryd.underlying92 (by kernel_rfl) (by kernel_rfl) hd
  unfold TabP Lib.TabIs
  rw [hvar, ← e]
end Go.Proofs.YtcchfblekaaalaaDoor.P
