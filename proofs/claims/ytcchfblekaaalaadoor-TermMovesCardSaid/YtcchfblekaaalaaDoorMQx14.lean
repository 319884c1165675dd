-- Printed by mkprint.py (a program of this session, over the kit's print). Lean checks it.
import Derived.Test.YtcchfblekaaalaaDoorMPx0
import Derived.Test.YtcchfblekaaalaaDoorMQx1
import Derived.Test.YtcchfblekaaalaaDoorMPx1
namespace Go.Proofs.YtcchfblekaaalaaDoor.P
open Go.RowKit Go.Proofs.YtcchfblekaaalaaDoorW.PrintWords Go.Proofs.YtcchfblekaaalaaDoorW.PrintLast Go.Proofs.YtcchfblekaaalaaDoorW.PrintMore
attribute [local go_sem] max2_int min2_int max_two min_two max_three min_three max_four min_four   -- for this text's walks alone
set_option linter.unusedVariables false
set_option linter.unusedSimpArgs false
theorem zfa {p : Prop} (h : p := by repeat (first | (with_reducible first | exact HB.out | apply below_alloc | apply pw_below_drewN | apply below_drew1 | refine below_set ?_ GE492.out) | exact HB.out)) : p := h
theorem zfb {p : Prop} (h : p := by repeat (first | (with_reducible first | exact HB.out | apply below_alloc | apply pw_below_drewN | apply below_drew1) | exact HB.out)) : p := h
theorem zfc {p : Prop} (h : p := by (try simp only [List.map_toArray, List.map_cons, List.map_nil]); first | done | rfl | (simp only [List.length_drop, List.length_take]; rfl)) : p := h
theorem zfd {p : Prop} (h : p := by repeat (first | (with_reducible first | exact HB.out | apply below_alloc | apply pw_below_drewN | apply below_drew1 | refine below_set ?_ GE489.out) | exact HB.out)) : p := h
theorem zfe {p : Prop} (h : p := by kernel_rfl) : p := h
theorem zff {p : Prop} (h : p := by first | rfl | (simp [errW_none, errW_some] <;> rfl) | (simp [*, errW_none, errW_some] <;> rfl)) : p := h
theorem zfg {p : Prop} (h : p := by first | (with_reducible assumption) | assumption) : p := h
theorem zfh {p : Prop} (h : p := by first | rfl | (simp; done) | (simp [*]; done)) : p := h
theorem zfi {p : Prop} (h : p := by rw [hg]; exact (below_size zfb)) : p := h

-- GIVEN: function 19 (term_Same)

/-! ### thyrsusref4_Size: function 28 -/
mutual
def thyrsusref4_Size.l0 : Nat → Int → Int → Int → Int → List (S29) → Option (Int)
 | 0, _, _, _, _, _ => none
 | k + 1, x3, x4, x490000, x490001, x490002 => if x4 < (x490002.length : Int) then (if 0 ≤ x4 then ((thyrsusref4_Size.f k ((rd_T29 x490002 x4).f0) ((rd_T29 x490002 x4).f1) ((rd_T29 x490002 x4).f2)).bind fun t491 => (thyrsusref4_Size.l0 k (wrap64 (x3 + t491)) (wrap64 (x4 + 1)) x490000 x490001 x490002)) else (none)) else (some x3)
def thyrsusref4_Size.f : Nat → Int → Int → List (S29) → Option (Int)
 | 0, _, _, _ => none
 | k + 1, a0_0, a0_1, l0_2 => thyrsusref4_Size.l0 k 1 0 a0_0 a0_1 l0_2
end
set_option maxHeartbeats 8000000 in
set_option maxRecDepth 100000 in
theorem thyrsusref4_Size.calls (k : Nat) : ∀ (a0_0 : Int) (a0_1 : Int) (A0_2 : Option Addr) (c0_2 : Nat) (l0_2 : List (S29)) (r : Int) (w : World) (hr0_2 : Kd.C k29 w A0_2 l0_2.length l0_2) (hc0_2 : l0_2.length ≤ c0_2) (h : thyrsusref4_Size.f k a0_0 a0_1 l0_2 = some r),
  Calls Tryd.prog 28 #[.agg #[.int .i64 a0_0, .int .i64 a0_1, .slice A0_2 l0_2.length c0_2]] w fun e w' => e = .returned (.int .i64 r) ∧ Below w.heap.size w w' := by
 induction k using Nat.strongRecOn with
 | _ k ih =>
 intro a0_0 a0_1 A0_2 c0_2 l0_2 r w hr0_2 hc0_2 h
 cases k with
 | zero => exact absurd h (by simp [thyrsusref4_Size.f])
 | succ k =>
 simp only [thyrsusref4_Size.f] at h
 have hu29 := Tryd.underlying29
 have HR0_2 := Aside0.mk hr0_2
 have HC0_2 := Aside0.mk hc0_2
 clear hr0_2 hc0_2
 have HB := Aside0.mk (Below.refl w.heap.size w)
 have H : (thyrsusref4_Size.l0 k 1 0 a0_0 a0_1 l0_2) = some r := h
 clear h
 have H' := Aside0.mk H
 clear H
 go_enter Tryd.func28, Tryd.ntmps28
 go_wp2_with (first | ((with_reducible refine gate_dst (N := 1) rfl ?_); refine box_event ?hg (N := 1) ?hd (cs := #[.int .i64 a0_0, .int .i64 a0_1, .slice A0_2 l0_2.length c0_2]) (t := 29) ?hr ?_; (case hd => rfl); (case hg => rfl); (case hr => first | (go_simp; done) | (go_simp; rfl)); intro gb489 hg w2 hbox hb; have n0_ := Aside0.mk (below_step zfb hb); have n1_ := Aside0.mk (hbox); have n2_ := Aside0.mk ((zfi : w.heap.size ≤ gb489)); have n3_ := Aside0.mk ((zfi : w.heap.size ≤ gb489)); clear HB; have HB := n0_; have BK489 := n1_; have GW489 := n2_; have GE489 := n3_; clear n0_ n1_ n2_ n3_; clear hb hbox hg))
 go_loopg [3, 4] k (fun kq v3 v4 w' => ∃ (x3_1 : Int) (x4_1 : Int), v3 = .int .i64 x3_1 ∧ v4 = .int .i64 x4_1 ∧ Aside0 (thyrsusref4_Size.l0 kq x3_1 x4_1 a0_0 a0_1 l0_2 = some r) ∧ Aside0 (kq ≤ k) ∧ Aside0 (w'.heap[gb489]? = some (.cells #[.int .i64 a0_0, .int .i64 a0_1, (.slice A0_2 l0_2.length c0_2)] 29 (0, 0))) ∧ Aside0 (Below w.heap.size w w'))
 case atStart => exact ⟨(1), (0), zfh, zfh, H', ⟨Nat.le_refl _⟩, ⟨bk_ BK489.out⟩, ⟨zfd⟩⟩
 case round =>
  clear H'
  try clear c2
  try clear p2
  try clear BK489
  try clear HB
  obtain ⟨x3_1, x4_1, rfl, rfl, HA, HK1, BK489, HB⟩ := hrel
  cases gk with
  | zero => exact absurd HA.out (by simp [thyrsusref4_Size.l0])
  | succ k1 =>
   have H := HA.out
   clear HA
   simp only [thyrsusref4_Size.l0] at H
   by_cases c3 : x4_1 < (l0_2.length : Int)
   ·rw [if_pos c3] at H
    have c3b0 : decide (x4_1 < (l0_2.length : Int)) = true := decide_eq_true c3
    clear c3
    by_cases c4 : 0 ≤ x4_1
    ·rw [if_pos c4] at H
     have c4b0 : decide (0 ≤ x4_1) = true := decide_eq_true c4
     clear c4
     replace H := Option.bind_eq_some_iff.mp H
     obtain ⟨t491, A50, H⟩ := H
     replace H : (thyrsusref4_Size.l0 k1 (wrap64 (x3_1 + t491)) (wrap64 (x4_1 + 1)) a0_0 a0_1 l0_2) = some r := H
     have A5 := Aside0.mk A50
     clear A50
     have H' := Aside0.mk H
     clear H
     have hcz6_0 : wr.cell? ⟨gb489, 0, none⟩ = some (.int .i64 a0_0) := bc_ BK489 0
     have hcz6_1 : wr.cell? ⟨gb489, 1, none⟩ = some (.int .i64 a0_1) := bc_ BK489 1
     have hcz6_2 : wr.cell? ⟨gb489, 2, none⟩ = some (.slice A0_2 l0_2.length c0_2) := bc_ BK489 2
     have hfz6_0 := blk_frozen BK489.out 0
     have hfz6_1 := blk_frozen BK489.out 1
     have hfz6_2 := blk_frozen BK489.out 2
     have p490 : 0 ≤ (x4_1 : Int) := of_decide_eq_true zfg
     have q490 : x4_1 < (l0_2.length : Int) := of_decide_eq_true zfg
     obtain ⟨ad490, A490_2, c490_2, e490, hx490_0, hx490_1, hx490_2, hl490_2, hi490_2⟩ := at_T29 HR0_2.out x4_1 p490 q490
     cases e490
     replace hx490_0 := (HB.out.cell (World.block_lt_of_cell? w _ hx490_0)).trans hx490_0
     replace hx490_1 := (HB.out.cell (World.block_lt_of_cell? w _ hx490_1)).trans hx490_1
     replace hx490_2 := (HB.out.cell (World.block_lt_of_cell? w _ hx490_2)).trans hx490_2
     have HR490_2 := Aside0.mk hi490_2
     have HC490_2 := Aside0.mk hl490_2
     clear hi490_2 hl490_2
     replace p490 := eq_true p490
     replace q490 := eq_true q490
     go_wp2_with (first | ((with_reducible refine gate_callee (f := 28) rfl ?_); refine goesL_ (some 18) rfl rfl Tryd.func28 zfe rfl #[.agg #[.int .i64 ((rd_T29 l0_2 x4_1).f0), .int .i64 ((rd_T29 l0_2 x4_1).f1), .slice A490_2 ((rd_T29 l0_2 x4_1).f2).length c490_2]] rfl zfc ?_; (with_reducible refine (ih k1 (by have := HK1.out; omega) ((rd_T29 l0_2 x4_1).f0) ((rd_T29 l0_2 x4_1).f1) _ _ ((rd_T29 l0_2 x4_1).f2) t491 _ ?side1 ?side2 A5.out).mono ?_); (case side1 => repeat (first | exact (Kd.C_below HR490_2.out HB.out) | (with_reducible refine Kd.C_alloc ?_ _) | (with_reducible refine Kd.C_drewN ?_ _) | (with_reducible refine Kd.C_drew ?_))); (case side2 => exact HC490_2.out); rintro e w7 ⟨rfl, hb⟩; refine ⟨_, rfl, ?_⟩; have n0_ := Aside0.mk (blk_below (g := gb489) (o := .cells #[.int .i64 a0_0, .int .i64 a0_1, .slice (some ad490) l0_2.length c0_2] 29 (0, 0)) (bk_ BK489.out) hb); have n1_ := Aside0.mk (below_step zfd hb); clear BK489; clear HB; have BK489 := n0_; have HB := n1_; clear n0_ n1_; (try clear hb); (try clear hb2); (try clear hk); (try clear hi)))
     go_roundg k1
     case measure => have := HK1.out; omega
     case rel => exact ⟨(wrap64 (x3_1 + t491)), (wrap64 (x4_1 + 1)), zfh, zfh, H', ⟨by have := HK1.out; omega⟩, ⟨bk_ BK489.out⟩, ⟨zfd⟩⟩
    ·rw [if_neg c4] at H
     exact absurd H (by simp)
   ·rw [if_neg c3] at H
    have c3b0 : decide (x4_1 < (l0_2.length : Int)) = false := decide_eq_false c3
    clear c3
    obtain rfl := Option.some.inj H
    have hcz8_0 : wr.cell? ⟨gb489, 0, none⟩ = some (.int .i64 a0_0) := bc_ BK489 0
    have hcz8_1 : wr.cell? ⟨gb489, 1, none⟩ = some (.int .i64 a0_1) := bc_ BK489 1
    have hcz8_2 : wr.cell? ⟨gb489, 2, none⟩ = some (.slice A0_2 l0_2.length c0_2) := bc_ BK489 2
    have hfz8_0 := blk_frozen BK489.out 0
    have hfz8_1 := blk_frozen BK489.out 1
    have hfz8_2 := blk_frozen BK489.out 2
    go_wp2
    go_ret
    exact ⟨zff, zfd⟩

/-! ### thyrsusref4_Below: function 37 -/
mutual
def thyrsusref4_Below.l0 : Nat → Int → Int → Int → Int → List (S29) → Option (Bool)
 | 0, _, _, _, _, _ => none
 | k + 1, x1, x5, x493000, x493001, x493002 => if x5 < (x493002.length : Int) then (if 0 ≤ x5 then ((thyrsusref4_Binders.f k x493000 x5).bind fun t494 => ((thyrsusref4_Below.f k ((rd_T29 x493002 x5).f0) ((rd_T29 x493002 x5).f1) ((rd_T29 x493002 x5).f2) (wrap64 (x1 + t494))).bind fun t495 => (if t495 = true then (thyrsusref4_Below.l0 k x1 (wrap64 (x5 + 1)) x493000 x493001 x493002) else (some false)))) else (none)) else (some true)
def thyrsusref4_Below.f : Nat → Int → Int → List (S29) → Int → Option (Bool)
 | 0, _, _, _, _ => none
 | k + 1, a0_0, a0_1, l0_2, a1 => if a0_0 = 1 then (some (decide (a0_1 < a1))) else (thyrsusref4_Below.l0 k a1 0 a0_0 a0_1 l0_2)
end
def thyrsusref4_Below.T6 : Bool × List (List Nat × List Nat) := (true, [([], []), ([0], [0]), ([], []), ([1, 2], [1, 2]), ([3], [3]), ([], []), ([], []), ([6], [6]), ([], []), ([7, 8], [7, 8]), ([5, 9], [5, 9]), ([4, 10, 9], [4, 10]), ([11], [11])])
def thyrsusref4_Below.B6 : List Nat := [0, 1, 0, 7, 15, 0, 0, 64, 0, 448, 992, 2047, 4095]
theorem thyrsusref4_Below.tab6 : rtab .any (opsOf Tryd.f37 6) = thyrsusref4_Below.T6 := by kernel_rfl
theorem thyrsusref4_Below.bits6 : waitsOk thyrsusref4_Below.T6.2 thyrsusref4_Below.B6 = true := by kernel_rfl
set_option maxHeartbeats 8000000 in
set_option maxRecDepth 100000 in
theorem thyrsusref4_Below.calls (k : Nat) : ∀ (a0_0 : Int) (a0_1 : Int) (A0_2 : Option Addr) (c0_2 : Nat) (l0_2 : List (S29)) (a1 : Int) (r : Bool) (w : World) (hr0_2 : Kd.C k29 w A0_2 l0_2.length l0_2) (hc0_2 : l0_2.length ≤ c0_2) (h : thyrsusref4_Below.f k a0_0 a0_1 l0_2 a1 = some r),
  Calls Tryd.prog 37 #[.agg #[.int .i64 a0_0, .int .i64 a0_1, .slice A0_2 l0_2.length c0_2], .int .i64 a1] w fun e w' => e = .returned (.bool r) ∧ Below w.heap.size w w' := by
 induction k using Nat.strongRecOn with
 | _ k ih =>
 intro a0_0 a0_1 A0_2 c0_2 l0_2 a1 r w hr0_2 hc0_2 h
 cases k with
 | zero => exact absurd h (by simp [thyrsusref4_Below.f])
 | succ k =>
 simp only [thyrsusref4_Below.f] at h
 have hu29 := Tryd.underlying29
 have HR0_2 := Aside0.mk hr0_2
 have HC0_2 := Aside0.mk hc0_2
 clear hr0_2 hc0_2
 have HB := Aside0.mk (Below.refl w.heap.size w)
 have H : (if a0_0 = 1 then (some (decide (a0_1 < a1))) else (thyrsusref4_Below.l0 k a1 0 a0_0 a0_1 l0_2)) = some r := h
 clear h
 by_cases c3 : a0_0 = 1
 ·rw [if_pos c3] at H
  have c3b0 : (a0_0 == 1) = true := beq_iff_eq.mpr c3
  have c3b1 : (a0_0 != 1) = false := bne_eq_false_iff_eq.mpr c3
  clear c3
  obtain rfl := Option.some.inj H
  go_enter Tryd.func37, Tryd.ntmps37
  go_wp2_with (first | ((with_reducible refine gate_dst (N := 2) rfl ?_); refine box_event ?hg (N := 2) ?hd (cs := #[.int .i64 a0_0, .int .i64 a0_1, .slice A0_2 l0_2.length c0_2]) (t := 29) ?hr ?_; (case hd => rfl); (case hg => rfl); (case hr => first | (go_simp; done) | (go_simp; rfl)); intro gb492 hg w4 hbox hb; have n0_ := Aside0.mk (below_step zfb hb); have n1_ := Aside0.mk (hbox); have n2_ := Aside0.mk ((zfi : w.heap.size ≤ gb492)); have n3_ := Aside0.mk ((zfi : w.heap.size ≤ gb492)); clear HB; have HB := n0_; have BK492 := n1_; have GW492 := n2_; have GE492 := n3_; clear n0_ n1_ n2_ n3_; clear hb hbox hg; have hcz5_0 : w4.cell? ⟨gb492, 0, none⟩ = some (.int .i64 a0_0) := bc_ BK492 0; have hcz5_1 : w4.cell? ⟨gb492, 1, none⟩ = some (.int .i64 a0_1) := bc_ BK492 1; have hcz5_2 : w4.cell? ⟨gb492, 2, none⟩ = some (.slice A0_2 l0_2.length c0_2) := bc_ BK492 2; have hfz5_0 := blk_frozen BK492.out 0; have hfz5_1 := blk_frozen BK492.out 1; have hfz5_2 := blk_frozen BK492.out 2))
  go_ret
  exact ⟨zff, zfa⟩
 ·rw [if_neg c3] at H
  have c3b0 : (a0_0 == 1) = false := beq_eq_false_iff_ne.mpr c3
  have c3b1 : (a0_0 != 1) = true := bne_iff_ne.mpr c3
  have H' := Aside0.mk H
  clear H
  go_enter Tryd.func37, Tryd.ntmps37
  go_wp2_with (first | ((with_reducible refine gate_dst (N := 2) rfl ?_); refine box_event ?hg (N := 2) ?hd (cs := #[.int .i64 a0_0, .int .i64 a0_1, .slice A0_2 l0_2.length c0_2]) (t := 29) ?hr ?_; (case hd => rfl); (case hg => rfl); (case hr => first | (go_simp; done) | (go_simp; rfl)); intro gb492 hg w6 hbox hb; have n0_ := Aside0.mk (below_step zfb hb); have n1_ := Aside0.mk (hbox); have n2_ := Aside0.mk ((zfi : w.heap.size ≤ gb492)); have n3_ := Aside0.mk ((zfi : w.heap.size ≤ gb492)); clear HB; have HB := n0_; have BK492 := n1_; have GW492 := n2_; have GE492 := n3_; clear n0_ n1_ n2_ n3_; clear hb hbox hg; have hcz7_0 : w6.cell? ⟨gb492, 0, none⟩ = some (.int .i64 a0_0) := bc_ BK492 0; have hcz7_1 : w6.cell? ⟨gb492, 1, none⟩ = some (.int .i64 a0_1) := bc_ BK492 1; have hcz7_2 : w6.cell? ⟨gb492, 2, none⟩ = some (.slice A0_2 l0_2.length c0_2) := bc_ BK492 2; have hfz7_0 := blk_frozen BK492.out 0; have hfz7_1 := blk_frozen BK492.out 1; have hfz7_2 := blk_frozen BK492.out 2))
  go_loopg [5] k (fun kq v5 w' => ∃ (x5_1 : Int), v5 = .int .i64 x5_1 ∧ Aside0 (thyrsusref4_Below.l0 kq a1 x5_1 a0_0 a0_1 l0_2 = some r) ∧ Aside0 (kq ≤ k) ∧ Aside0 (w'.heap[gb492]? = some (.cells #[.int .i64 a0_0, .int .i64 a0_1, (.slice A0_2 l0_2.length c0_2)] 29 (0, 0))) ∧ Aside0 (Below w.heap.size w w'))
  case atStart => exact ⟨(0), zfh, H', ⟨Nat.le_refl _⟩, ⟨bk_ BK492.out⟩, ⟨zfa⟩⟩
  case round =>
   clear H'
   try clear p2
   try clear c3
   try clear c3b0
   try clear c3b1
   try clear hcz5_0
   try clear hcz5_1
   try clear hcz5_2
   try clear hcz7_0
   try clear hcz7_1
   try clear hcz7_2
   try clear hfz5_0
   try clear hfz5_1
   try clear hfz5_2
   try clear hfz7_0
   try clear hfz7_1
   try clear hfz7_2
   try clear BK492
   try clear HB
   obtain ⟨x5_1, rfl, HA, HK1, BK492, HB⟩ := hrel
   cases gk with
   | zero => exact absurd HA.out (by simp [thyrsusref4_Below.l0])
   | succ k1 =>
    have H := HA.out
    clear HA
    simp only [thyrsusref4_Below.l0] at H
    by_cases c8 : x5_1 < (l0_2.length : Int)
    ·rw [if_pos c8] at H
     have c8b0 : decide (x5_1 < (l0_2.length : Int)) = true := decide_eq_true c8
     clear c8
     by_cases c9 : 0 ≤ x5_1
     ·rw [if_pos c9] at H
      have c9b0 : decide (0 ≤ x5_1) = true := decide_eq_true c9
      clear c9
      replace H := Option.bind_eq_some_iff.mp H
      obtain ⟨t494, A100, H⟩ := H
      replace H : ((thyrsusref4_Below.f k1 ((rd_T29 l0_2 x5_1).f0) ((rd_T29 l0_2 x5_1).f1) ((rd_T29 l0_2 x5_1).f2) (wrap64 (a1 + t494))).bind fun t495 => (if t495 = true then (thyrsusref4_Below.l0 k1 a1 (wrap64 (x5_1 + 1)) a0_0 a0_1 l0_2) else (some false))) = some r := H
      have A10 := Aside0.mk A100
      clear A100
      replace H := Option.bind_eq_some_iff.mp H
      obtain ⟨t495, A110, H⟩ := H
      replace H : (if t495 = true then (thyrsusref4_Below.l0 k1 a1 (wrap64 (x5_1 + 1)) a0_0 a0_1 l0_2) else (some false)) = some r := H
      have A11 := Aside0.mk A110
      clear A110
      by_cases c12 : t495 = true
      ·subst c12
       have H1 : (thyrsusref4_Below.l0 k1 a1 (wrap64 (x5_1 + 1)) a0_0 a0_1 l0_2) = some r := by rw [if_pos rfl] at H; exact H
       clear H
       have H := H1
       clear H1
       have H' := Aside0.mk H
       clear H
       have hcz13_0 : wr.cell? ⟨gb492, 0, none⟩ = some (.int .i64 a0_0) := bc_ BK492 0
       have hcz13_1 : wr.cell? ⟨gb492, 1, none⟩ = some (.int .i64 a0_1) := bc_ BK492 1
       have hcz13_2 : wr.cell? ⟨gb492, 2, none⟩ = some (.slice A0_2 l0_2.length c0_2) := bc_ BK492 2
       have hfz13_0 := blk_frozen BK492.out 0
       have hfz13_1 := blk_frozen BK492.out 1
       have hfz13_2 := blk_frozen BK492.out 2
       try go_wp2
       have n0_ := Aside0.mk (blk_drew BK492.out)
       have n1_ := Aside0.mk (below_drew1 HB.out)
       clear BK492
       clear HB
       have BK492 := n0_
       have HB := n1_
       clear n0_ n1_
       have p493 : 0 ≤ (x5_1 : Int) := of_decide_eq_true zfg
       have q493 : x5_1 < (l0_2.length : Int) := of_decide_eq_true zfg
       obtain ⟨ad493, A493_2, c493_2, e493, hx493_0, hx493_1, hx493_2, hl493_2, hi493_2⟩ := at_T29 HR0_2.out x5_1 p493 q493
       have hw493_2 := hx493_2
       have hw493_1 := hx493_1
       have hw493_0 := hx493_0
       cases e493
       replace hx493_0 := (HB.out.cell (World.block_lt_of_cell? w _ hx493_0)).trans hx493_0
       replace hx493_1 := (HB.out.cell (World.block_lt_of_cell? w _ hx493_1)).trans hx493_1
       replace hx493_2 := (HB.out.cell (World.block_lt_of_cell? w _ hx493_2)).trans hx493_2
       have HR493_2 := Aside0.mk hi493_2
       have HC493_2 := Aside0.mk hl493_2
       clear hi493_2 hl493_2
       replace p493 := eq_true p493
       replace q493 := eq_true q493
       refine start_ (n := 13) (S := fun w' => w'.cell? ⟨gb492, 0, none⟩ = some (.int .i64 a0_0) ∧ w'.cell? ⟨gb492, 1, none⟩ = some (.int .i64 a0_1) ∧ w'.cell? ⟨gb492, 2, none⟩ = some (.slice (some ad493) l0_2.length c0_2) ∧ w'.cell? (ad493.add ((x5_1).toNat * 3)) = some (.int .i64 ((rd_T29 l0_2 x5_1).f0)) ∧ w'.cell? ⟨(ad493.add ((x5_1).toNat * 3)).block, (ad493.add ((x5_1).toNat * 3)).off + 1, none⟩ = some (.int .i64 ((rd_T29 l0_2 x5_1).f1)) ∧ w'.cell? ⟨(ad493.add ((x5_1).toNat * 3)).block, (ad493.add ((x5_1).toNat * 3)).off + 2, none⟩ = some (.slice A493_2 ((rd_T29 l0_2 x5_1).f2).length c493_2)) (ds := []) #[false, false, false, false, false, false, false, false, false, false, false, false, false] zfe rfl rfl ⟨bc_ BK492 0, bc_ BK492 1, bc_ BK492 2, ((HB.out.cell (World.block_lt_of_cell? w _ hw493_0)).trans hw493_0), ((HB.out.cell (World.block_lt_of_cell? w _ hw493_1)).trans hw493_1), ((HB.out.cell (World.block_lt_of_cell? w _ hw493_2)).trans hw493_2)⟩ (fun hHeld => ?_); refine with_tabW thyrsusref4_Below.tab6 thyrsusref4_Below.bits6 (fun HT_ HW_ => ?_)
       generalize wr.drew = w14 at BK492 HB HR493_2 hx493_0 hx493_1 hx493_2 hHeld ⊢
       refine pure_ (i := 0) (N := some 20) (v := ?_) (a' := ?_) #[true, false, false, false, false, false, false, false, false, false, false, false, false] rfl rfl (any_of HT_.out zfe) (fun _ _ _ h => h) (Or.inl ⟨by rfl, ?_⟩) ?_ ?_
       rotate_left
       ·intro w'
        go_simp
        with_reducible rfl
       rotate_left
       ·simp only [Act.put, List.setIfInBounds_toArray, List.set_cons_zero, List.set_cons_succ, i64_w, i32_w, u8_w, u32_w]
        rfl
       refine pure_ (i := 2) (N := some 22) (v := ?_) (a' := ?_) #[true, false, true, false, false, false, false, false, false, false, false, false, false] rfl rfl (any_of HT_.out zfe) (fun _ _ _ h => h) (Or.inl ⟨by rfl, ?_⟩) ?_ ?_
       rotate_left
       ·intro w'
        go_simp
        with_reducible rfl
       rotate_left
       ·simp only [Act.put, List.setIfInBounds_toArray, List.set_cons_zero, List.set_cons_succ, i64_w, i32_w, u8_w, u32_w]
        rfl
       refine pure_ (i := 5) (N := some 25) (v := ?_) (a' := ?_) #[true, false, true, false, false, true, false, false, false, false, false, false, false] rfl rfl (any_of HT_.out zfe) (fun _ _ _ h => h) (Or.inl ⟨by rfl, ?_⟩) ?_ ?_
       rotate_left
       ·intro w'
        go_simp
        with_reducible rfl
       rotate_left
       ·simp only [Act.put, List.setIfInBounds_toArray, List.set_cons_zero, List.set_cons_succ, i64_w, i32_w, u8_w, u32_w]
        rfl
       refine pure_ (i := 6) (N := some 26) (v := ?_) (a' := ?_) #[true, false, true, false, false, true, true, false, false, false, false, false, false] rfl rfl (any_of HT_.out zfe) (fun _ _ _ h => h) (Or.inl ⟨by rfl, ?_⟩) ?_ ?_
       rotate_left
       ·intro w'
        go_simp
        with_reducible rfl
       rotate_left
       ·simp only [Act.put, List.setIfInBounds_toArray, List.set_cons_zero, List.set_cons_succ, i64_w, i32_w, u8_w, u32_w]
        rfl
       refine pure_ (i := 8) (N := some 28) (v := ?_) (a' := ?_) #[true, false, true, false, false, true, true, false, true, false, false, false, false] rfl rfl (any_of HT_.out zfe) (fun _ _ _ h => h) (Or.inl ⟨by rfl, ?_⟩) ?_ ?_
       rotate_left
       ·intro w'
        go_simp
        with_reducible rfl
       rotate_left
       ·simp only [Act.put, List.setIfInBounds_toArray, List.set_cons_zero, List.set_cons_succ, i64_w, i32_w, u8_w, u32_w]
        rfl
       refine take_ (i := 1) (N := some 21) (v := ?_) (a' := ?_) #[true, true, true, false, false, true, true, false, true, false, false, false, false] rfl rfl (take_ofW HT_.out HW_.out zfe) (fun _ _ _ h => h) (Or.inl ⟨by rfl, ?_⟩) hHeld ?_ ?_
       rotate_left
       ·rintro w' ⟨s0, s1, s2, s3, s4, s5⟩
        go_simp
        with_reducible rfl
       rotate_left
       ·simp only [Act.put, List.setIfInBounds_toArray, List.set_cons_zero, List.set_cons_succ, i64_w, i32_w, u8_w, u32_w]
        rfl
       refine pure_ (i := 3) (N := some 23) (v := ?_) (a' := ?_) #[true, true, true, true, false, true, true, false, true, false, false, false, false] rfl rfl (any_of HT_.out zfe) (fun _ _ _ h => h) (Or.inl ⟨by rfl, ?_⟩) ?_ ?_
       rotate_left
       ·intro w'
        go_simp
        with_reducible rfl
       rotate_left
       ·simp only [Act.put, List.setIfInBounds_toArray, List.set_cons_zero, List.set_cons_succ, i64_w, i32_w, u8_w, u32_w]
        rfl
       refine take_ (i := 4) (N := some 24) (v := ?_) (a' := ?_) #[true, true, true, true, true, true, true, false, true, false, false, false, false] rfl rfl (take_ofW HT_.out HW_.out zfe) (fun _ _ _ h => h) (Or.inl ⟨by rfl, ?_⟩) hHeld ?_ ?_
       rotate_left
       ·rintro w' ⟨s0, s1, s2, s3, s4, s5⟩
        go_simp
        with_reducible rfl
       rotate_left
       ·simp only [Act.put, List.setIfInBounds_toArray, List.set_cons_zero, List.set_cons_succ, i64_w, i32_w, u8_w, u32_w]
        rfl
       refine take_ (i := 7) (N := some 27) (v := ?_) (a' := ?_) #[true, true, true, true, true, true, true, true, true, false, false, false, false] rfl rfl (take_ofW HT_.out HW_.out zfe) (fun _ _ _ h => h) (Or.inl ⟨by rfl, ?_⟩) hHeld ?_ ?_
       rotate_left
       ·rintro w' ⟨s0, s1, s2, s3, s4, s5⟩
        go_simp
        with_reducible rfl
       rotate_left
       ·simp only [Act.put, List.setIfInBounds_toArray, List.set_cons_zero, List.set_cons_succ, i64_w, i32_w, u8_w, u32_w]
        rfl
       refine one_ (i := 9) (N := some 29) #[true, true, true, true, true, true, true, true, true, true, false, false, false] rfl rfl (one_of HT_.out zfe) (by decide) (fun K hK => ?_)
       refine goes_ Tryd.func31 zfe rfl #[.int .i64 a0_0, .int .i64 x5_1] (by rfl) rfl rfl zfc ?_
       with_reducible refine (thyrsusref4_Binders.calls k1 a0_0 x5_1 t494 _ A10.out).mono ?_
       rintro e w' ⟨rfl, ⟨nd, rfl⟩⟩
       refine ⟨_, rfl, ?_⟩
       refine hK.out _ _ ⟨bc_ BK492 0, bc_ BK492 1, bc_ BK492 2, ((HB.out.cell (World.block_lt_of_cell? w _ hw493_0)).trans hw493_0), ((HB.out.cell (World.block_lt_of_cell? w _ hw493_1)).trans hw493_1), ((HB.out.cell (World.block_lt_of_cell? w _ hw493_2)).trans hw493_2)⟩ (fun hHeld => ?_)
       clear hK K
       refine norm_ (a' := ?_) ?_ ?_
       rotate_left
       ·show Act.put _ (some 29) _ = _
        simp only [Act.put, List.setIfInBounds_toArray, List.set_cons_zero, List.set_cons_succ, i64_w, i32_w, u8_w, u32_w]
        rfl
       refine pure_ (i := 10) (N := some 30) (v := ?_) (a' := ?_) #[true, true, true, true, true, true, true, true, true, true, true, false, false] rfl rfl (any_of HT_.out zfe) (fun _ _ _ h => h) (Or.inl ⟨by rfl, ?_⟩) ?_ ?_
       rotate_left
       ·intro w'
        go_simp
        with_reducible rfl
       rotate_left
       ·simp only [Act.put, List.setIfInBounds_toArray, List.set_cons_zero, List.set_cons_succ, i64_w, i32_w, u8_w, u32_w]
        rfl
       refine one_ (i := 11) (N := some 31) #[true, true, true, true, true, true, true, true, true, true, true, true, false] rfl rfl (one_of HT_.out zfe) (by decide) (fun K hK => ?_)
       refine goes_ Tryd.func37 zfe rfl #[.agg #[.int .i64 ((rd_T29 l0_2 x5_1).f0), .int .i64 ((rd_T29 l0_2 x5_1).f1), .slice A493_2 ((rd_T29 l0_2 x5_1).f2).length c493_2], .int .i64 (wrap64 (a1 + t494))] (by rfl) rfl rfl zfc ?_
       with_reducible refine (ih k1 (by have := HK1.out; omega) ((rd_T29 l0_2 x5_1).f0) ((rd_T29 l0_2 x5_1).f1) _ _ ((rd_T29 l0_2 x5_1).f2) (wrap64 (a1 + t494)) true _ ?side1 ?side2 A11.out).mono ?_
       (case side1 => repeat (first | exact (Kd.C_below HR493_2.out zfa) | (with_reducible refine Kd.C_alloc ?_ _) | (with_reducible refine Kd.C_drewN ?_ _) | (with_reducible refine Kd.C_drew ?_)))
       (case side2 => exact HC493_2.out)
       rintro e w15 ⟨rfl, hb⟩
       refine ⟨_, rfl, ?_⟩
       have n0_ := Aside0.mk (blk_below (g := gb492) (o := .cells #[.int .i64 a0_0, .int .i64 a0_1, .slice (some ad493) l0_2.length c0_2] 29 (0, 0)) (bk_ BK492.out) hb)
       have n1_ := Aside0.mk (below_step zfa hb)
       clear BK492
       clear HB
       have BK492 := n0_
       have HB := n1_
       clear n0_ n1_
       (try clear hb)
       (try clear hb2)
       (try clear hk)
       (try clear hi)
       refine hK.out _ _ ⟨bc_ BK492 0, bc_ BK492 1, bc_ BK492 2, ((HB.out.cell (World.block_lt_of_cell? w _ hw493_0)).trans hw493_0), ((HB.out.cell (World.block_lt_of_cell? w _ hw493_1)).trans hw493_1), ((HB.out.cell (World.block_lt_of_cell? w _ hw493_2)).trans hw493_2)⟩ (fun hHeld => ?_)
       clear hK K
       refine norm_ (a' := ?_) ?_ ?_
       rotate_left
       ·show Act.put _ (some 31) _ = _
        simp only [Act.put, List.setIfInBounds_toArray, List.set_cons_zero, List.set_cons_succ, i64_w, i32_w, u8_w, u32_w]
        rfl
       refine pure_ (i := 12) (N := some 32) (v := ?_) (a' := ?_) #[true, true, true, true, true, true, true, true, true, true, true, true, true] rfl rfl (any_of HT_.out zfe) (fun _ _ _ h => h) (Or.inl ⟨by rfl, ?_⟩) ?_ ?_
       rotate_left
       ·intro w'
        go_simp
        with_reducible rfl
       rotate_left
       ·simp only [Act.put, List.setIfInBounds_toArray, List.set_cons_zero, List.set_cons_succ, i64_w, i32_w, u8_w, u32_w]
        rfl
       refine done_ (done_of HT_.out zfe) ?_
       try go_wp2
       go_roundg k1
       case measure => have := HK1.out; omega
       case rel => exact ⟨(wrap64 (x5_1 + 1)), zfh, H', ⟨by have := HK1.out; omega⟩, ⟨bk_ BK492.out⟩, ⟨zfa⟩⟩
      ·replace c12 := Bool.eq_false_iff.mpr c12
       subst c12
       have H1 : (some false) = some r := by rw [if_neg (show ¬ (false = true) by decide)] at H; exact H
       clear H
       have H := H1
       clear H1
       obtain rfl := Option.some.inj H
       have hcz16_0 : wr.cell? ⟨gb492, 0, none⟩ = some (.int .i64 a0_0) := bc_ BK492 0
       have hcz16_1 : wr.cell? ⟨gb492, 1, none⟩ = some (.int .i64 a0_1) := bc_ BK492 1
       have hcz16_2 : wr.cell? ⟨gb492, 2, none⟩ = some (.slice A0_2 l0_2.length c0_2) := bc_ BK492 2
       have hfz16_0 := blk_frozen BK492.out 0
       have hfz16_1 := blk_frozen BK492.out 1
       have hfz16_2 := blk_frozen BK492.out 2
       try go_wp2
       have n0_ := Aside0.mk (blk_drew BK492.out)
       have n1_ := Aside0.mk (below_drew1 HB.out)
       clear BK492
       clear HB
       have BK492 := n0_
       have HB := n1_
       clear n0_ n1_
       have p493 : 0 ≤ (x5_1 : Int) := of_decide_eq_true zfg
       have q493 : x5_1 < (l0_2.length : Int) := of_decide_eq_true zfg
       obtain ⟨ad493, A493_2, c493_2, e493, hx493_0, hx493_1, hx493_2, hl493_2, hi493_2⟩ := at_T29 HR0_2.out x5_1 p493 q493
       have hw493_2 := hx493_2
       have hw493_1 := hx493_1
       have hw493_0 := hx493_0
       cases e493
       replace hx493_0 := (HB.out.cell (World.block_lt_of_cell? w _ hx493_0)).trans hx493_0
       replace hx493_1 := (HB.out.cell (World.block_lt_of_cell? w _ hx493_1)).trans hx493_1
       replace hx493_2 := (HB.out.cell (World.block_lt_of_cell? w _ hx493_2)).trans hx493_2
       have HR493_2 := Aside0.mk hi493_2
       have HC493_2 := Aside0.mk hl493_2
       clear hi493_2 hl493_2
       replace p493 := eq_true p493
       replace q493 := eq_true q493
       refine start_ (n := 13) (S := fun w' => w'.cell? ⟨gb492, 0, none⟩ = some (.int .i64 a0_0) ∧ w'.cell? ⟨gb492, 1, none⟩ = some (.int .i64 a0_1) ∧ w'.cell? ⟨gb492, 2, none⟩ = some (.slice (some ad493) l0_2.length c0_2) ∧ w'.cell? (ad493.add ((x5_1).toNat * 3)) = some (.int .i64 ((rd_T29 l0_2 x5_1).f0)) ∧ w'.cell? ⟨(ad493.add ((x5_1).toNat * 3)).block, (ad493.add ((x5_1).toNat * 3)).off + 1, none⟩ = some (.int .i64 ((rd_T29 l0_2 x5_1).f1)) ∧ w'.cell? ⟨(ad493.add ((x5_1).toNat * 3)).block, (ad493.add ((x5_1).toNat * 3)).off + 2, none⟩ = some (.slice A493_2 ((rd_T29 l0_2 x5_1).f2).length c493_2)) (ds := []) #[false, false, false, false, false, false, false, false, false, false, false, false, false] zfe rfl rfl ⟨bc_ BK492 0, bc_ BK492 1, bc_ BK492 2, ((HB.out.cell (World.block_lt_of_cell? w _ hw493_0)).trans hw493_0), ((HB.out.cell (World.block_lt_of_cell? w _ hw493_1)).trans hw493_1), ((HB.out.cell (World.block_lt_of_cell? w _ hw493_2)).trans hw493_2)⟩ (fun hHeld => ?_); refine with_tabW thyrsusref4_Below.tab6 thyrsusref4_Below.bits6 (fun HT_ HW_ => ?_)
       generalize wr.drew = w17 at BK492 HB HR493_2 hx493_0 hx493_1 hx493_2 hHeld ⊢
       refine pure_ (i := 0) (N := some 20) (v := ?_) (a' := ?_) #[true, false, false, false, false, false, false, false, false, false, false, false, false] rfl rfl (any_of HT_.out zfe) (fun _ _ _ h => h) (Or.inl ⟨by rfl, ?_⟩) ?_ ?_
       rotate_left
       ·intro w'
        go_simp
        with_reducible rfl
       rotate_left
       ·simp only [Act.put, List.setIfInBounds_toArray, List.set_cons_zero, List.set_cons_succ, i64_w, i32_w, u8_w, u32_w]
        rfl
       refine pure_ (i := 2) (N := some 22) (v := ?_) (a' := ?_) #[true, false, true, false, false, false, false, false, false, false, false, false, false] rfl rfl (any_of HT_.out zfe) (fun _ _ _ h => h) (Or.inl ⟨by rfl, ?_⟩) ?_ ?_
       rotate_left
       ·intro w'
        go_simp
        with_reducible rfl
       rotate_left
       ·simp only [Act.put, List.setIfInBounds_toArray, List.set_cons_zero, List.set_cons_succ, i64_w, i32_w, u8_w, u32_w]
        rfl
       refine pure_ (i := 5) (N := some 25) (v := ?_) (a' := ?_) #[true, false, true, false, false, true, false, false, false, false, false, false, false] rfl rfl (any_of HT_.out zfe) (fun _ _ _ h => h) (Or.inl ⟨by rfl, ?_⟩) ?_ ?_
       rotate_left
       ·intro w'
        go_simp
        with_reducible rfl
       rotate_left
       ·simp only [Act.put, List.setIfInBounds_toArray, List.set_cons_zero, List.set_cons_succ, i64_w, i32_w, u8_w, u32_w]
        rfl
       refine pure_ (i := 6) (N := some 26) (v := ?_) (a' := ?_) #[true, false, true, false, false, true, true, false, false, false, false, false, false] rfl rfl (any_of HT_.out zfe) (fun _ _ _ h => h) (Or.inl ⟨by rfl, ?_⟩) ?_ ?_
       rotate_left
       ·intro w'
        go_simp
        with_reducible rfl
       rotate_left
       ·simp only [Act.put, List.setIfInBounds_toArray, List.set_cons_zero, List.set_cons_succ, i64_w, i32_w, u8_w, u32_w]
        rfl
       refine pure_ (i := 8) (N := some 28) (v := ?_) (a' := ?_) #[true, false, true, false, false, true, true, false, true, false, false, false, false] rfl rfl (any_of HT_.out zfe) (fun _ _ _ h => h) (Or.inl ⟨by rfl, ?_⟩) ?_ ?_
       rotate_left
       ·intro w'
        go_simp
        with_reducible rfl
       rotate_left
       ·simp only [Act.put, List.setIfInBounds_toArray, List.set_cons_zero, List.set_cons_succ, i64_w, i32_w, u8_w, u32_w]
        rfl
       refine take_ (i := 1) (N := some 21) (v := ?_) (a' := ?_) #[true, true, true, false, false, true, true, false, true, false, false, false, false] rfl rfl (take_ofW HT_.out HW_.out zfe) (fun _ _ _ h => h) (Or.inl ⟨by rfl, ?_⟩) hHeld ?_ ?_
       rotate_left
       ·rintro w' ⟨s0, s1, s2, s3, s4, s5⟩
        go_simp
        with_reducible rfl
       rotate_left
       ·simp only [Act.put, List.setIfInBounds_toArray, List.set_cons_zero, List.set_cons_succ, i64_w, i32_w, u8_w, u32_w]
        rfl
       refine pure_ (i := 3) (N := some 23) (v := ?_) (a' := ?_) #[true, true, true, true, false, true, true, false, true, false, false, false, false] rfl rfl (any_of HT_.out zfe) (fun _ _ _ h => h) (Or.inl ⟨by rfl, ?_⟩) ?_ ?_
       rotate_left
       ·intro w'
        go_simp
        with_reducible rfl
       rotate_left
       ·simp only [Act.put, List.setIfInBounds_toArray, List.set_cons_zero, List.set_cons_succ, i64_w, i32_w, u8_w, u32_w]
        rfl
       refine take_ (i := 4) (N := some 24) (v := ?_) (a' := ?_) #[true, true, true, true, true, true, true, false, true, false, false, false, false] rfl rfl (take_ofW HT_.out HW_.out zfe) (fun _ _ _ h => h) (Or.inl ⟨by rfl, ?_⟩) hHeld ?_ ?_
       rotate_left
       ·rintro w' ⟨s0, s1, s2, s3, s4, s5⟩
        go_simp
        with_reducible rfl
       rotate_left
       ·simp only [Act.put, List.setIfInBounds_toArray, List.set_cons_zero, List.set_cons_succ, i64_w, i32_w, u8_w, u32_w]
        rfl
       refine take_ (i := 7) (N := some 27) (v := ?_) (a' := ?_) #[true, true, true, true, true, true, true, true, true, false, false, false, false] rfl rfl (take_ofW HT_.out HW_.out zfe) (fun _ _ _ h => h) (Or.inl ⟨by rfl, ?_⟩) hHeld ?_ ?_
       rotate_left
       ·rintro w' ⟨s0, s1, s2, s3, s4, s5⟩
        go_simp
        with_reducible rfl
       rotate_left
       ·simp only [Act.put, List.setIfInBounds_toArray, List.set_cons_zero, List.set_cons_succ, i64_w, i32_w, u8_w, u32_w]
        rfl
       refine one_ (i := 9) (N := some 29) #[true, true, true, true, true, true, true, true, true, true, false, false, false] rfl rfl (one_of HT_.out zfe) (by decide) (fun K hK => ?_)
       refine goes_ Tryd.func31 zfe rfl #[.int .i64 a0_0, .int .i64 x5_1] (by rfl) rfl rfl zfc ?_
       with_reducible refine (thyrsusref4_Binders.calls k1 a0_0 x5_1 t494 _ A10.out).mono ?_
       rintro e w' ⟨rfl, ⟨nd, rfl⟩⟩
       refine ⟨_, rfl, ?_⟩
       refine hK.out _ _ ⟨bc_ BK492 0, bc_ BK492 1, bc_ BK492 2, ((HB.out.cell (World.block_lt_of_cell? w _ hw493_0)).trans hw493_0), ((HB.out.cell (World.block_lt_of_cell? w _ hw493_1)).trans hw493_1), ((HB.out.cell (World.block_lt_of_cell? w _ hw493_2)).trans hw493_2)⟩ (fun hHeld => ?_)
       clear hK K
       refine norm_ (a' := ?_) ?_ ?_
       rotate_left
       ·show Act.put _ (some 29) _ = _
        simp only [Act.put, List.setIfInBounds_toArray, List.set_cons_zero, List.set_cons_succ, i64_w, i32_w, u8_w, u32_w]
        rfl
       refine pure_ (i := 10) (N := some 30) (v := ?_) (a' := ?_) #[true, true, true, true, true, true, true, true, true, true, true, false, false] rfl rfl (any_of HT_.out zfe) (fun _ _ _ h => h) (Or.inl ⟨by rfl, ?_⟩) ?_ ?_
       rotate_left
       ·intro w'
        go_simp
        with_reducible rfl
       rotate_left
       ·simp only [Act.put, List.setIfInBounds_toArray, List.set_cons_zero, List.set_cons_succ, i64_w, i32_w, u8_w, u32_w]
        rfl
       refine one_ (i := 11) (N := some 31) #[true, true, true, true, true, true, true, true, true, true, true, true, false] rfl rfl (one_of HT_.out zfe) (by decide) (fun K hK => ?_)
       refine goes_ Tryd.func37 zfe rfl #[.agg #[.int .i64 ((rd_T29 l0_2 x5_1).f0), .int .i64 ((rd_T29 l0_2 x5_1).f1), .slice A493_2 ((rd_T29 l0_2 x5_1).f2).length c493_2], .int .i64 (wrap64 (a1 + t494))] (by rfl) rfl rfl zfc ?_
       with_reducible refine (ih k1 (by have := HK1.out; omega) ((rd_T29 l0_2 x5_1).f0) ((rd_T29 l0_2 x5_1).f1) _ _ ((rd_T29 l0_2 x5_1).f2) (wrap64 (a1 + t494)) false _ ?side1 ?side2 A11.out).mono ?_
       (case side1 => repeat (first | exact (Kd.C_below HR493_2.out zfa) | (with_reducible refine Kd.C_alloc ?_ _) | (with_reducible refine Kd.C_drewN ?_ _) | (with_reducible refine Kd.C_drew ?_)))
       (case side2 => exact HC493_2.out)
       rintro e w18 ⟨rfl, hb⟩
       refine ⟨_, rfl, ?_⟩
       have n0_ := Aside0.mk (blk_below (g := gb492) (o := .cells #[.int .i64 a0_0, .int .i64 a0_1, .slice (some ad493) l0_2.length c0_2] 29 (0, 0)) (bk_ BK492.out) hb)
       have n1_ := Aside0.mk (below_step zfa hb)
       clear BK492
       clear HB
       have BK492 := n0_
       have HB := n1_
       clear n0_ n1_
       (try clear hb)
       (try clear hb2)
       (try clear hk)
       (try clear hi)
       refine hK.out _ _ ⟨bc_ BK492 0, bc_ BK492 1, bc_ BK492 2, ((HB.out.cell (World.block_lt_of_cell? w _ hw493_0)).trans hw493_0), ((HB.out.cell (World.block_lt_of_cell? w _ hw493_1)).trans hw493_1), ((HB.out.cell (World.block_lt_of_cell? w _ hw493_2)).trans hw493_2)⟩ (fun hHeld => ?_)
       clear hK K
       refine norm_ (a' := ?_) ?_ ?_
       rotate_left
       ·show Act.put _ (some 31) _ = _
        simp only [Act.put, List.setIfInBounds_toArray, List.set_cons_zero, List.set_cons_succ, i64_w, i32_w, u8_w, u32_w]
        rfl
       refine pure_ (i := 12) (N := some 32) (v := ?_) (a' := ?_) #[true, true, true, true, true, true, true, true, true, true, true, true, true] rfl rfl (any_of HT_.out zfe) (fun _ _ _ h => h) (Or.inl ⟨by rfl, ?_⟩) ?_ ?_
       rotate_left
       ·intro w'
        go_simp
        with_reducible rfl
       rotate_left
       ·simp only [Act.put, List.setIfInBounds_toArray, List.set_cons_zero, List.set_cons_succ, i64_w, i32_w, u8_w, u32_w]
        rfl
       refine done_ (done_of HT_.out zfe) ?_
       try go_wp2
       go_ret
       exact ⟨zff, zfa⟩
     ·rw [if_neg c9] at H
      exact absurd H (by simp)
    ·rw [if_neg c8] at H
     have c8b0 : decide (x5_1 < (l0_2.length : Int)) = false := decide_eq_false c8
     clear c8
     obtain rfl := Option.some.inj H
     have hcz19_0 : wr.cell? ⟨gb492, 0, none⟩ = some (.int .i64 a0_0) := bc_ BK492 0
     have hcz19_1 : wr.cell? ⟨gb492, 1, none⟩ = some (.int .i64 a0_1) := bc_ BK492 1
     have hcz19_2 : wr.cell? ⟨gb492, 2, none⟩ = some (.slice A0_2 l0_2.length c0_2) := bc_ BK492 2
     have hfz19_0 := blk_frozen BK492.out 0
     have hfz19_1 := blk_frozen BK492.out 1
     have hfz19_2 := blk_frozen BK492.out 2
     go_wp2
     go_ret
     exact ⟨zff, zfa⟩

end Go.Proofs.YtcchfblekaaalaaDoor.P
