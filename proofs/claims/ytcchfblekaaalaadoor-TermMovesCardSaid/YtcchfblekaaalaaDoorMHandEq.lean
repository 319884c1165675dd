/- Go's library: slices.EqualFunc over terms, with term.Same; term.Same, in the print's form. -/
import Derived.Test.YtcchfblekaaalaaDoorMHandBind
namespace Go.Proofs.YtcchfblekaaalaaDoor.P
open Go.RowKit Go.Proofs.YtcchfblekaaalaaDoorW.PrintWords Go.Proofs.YtcchfblekaaalaaDoorW.PrintLast Go.Proofs.YtcchfblekaaalaaDoorW.PrintMore
attribute [local go_sem] max2_int min2_int max_two min_two max_three min_three max_four min_four   -- for this text's walks alone
set_option linter.unusedVariables false
set_option linter.unusedSimpArgs false
theorem zoa {p : Prop} (h : p := by repeat (first | (with_reducible first | exact HB.out | apply below_alloc | apply pw_below_drewN | apply below_drew1 | refine below_set ?_ GE102.out | refine below_set ?_ GE104.out) | exact HB.out)) : p := h
theorem zob {p : Prop} (h : p := by repeat (first | (with_reducible first | exact HB.out | apply below_alloc | apply pw_below_drewN | apply below_drew1 | refine below_set ?_ GE102.out) | exact HB.out)) : p := h
theorem zoc {p : Prop} (h : p := by repeat (first | (with_reducible first | exact HB.out | apply below_alloc | apply pw_below_drewN | apply below_drew1) | exact HB.out)) : p := h
theorem zod {p : Prop} (h : p := by first | (with_reducible assumption) | assumption) : p := h
theorem zoe {p : Prop} (h : p := by rw [hg]; exact Nat.ne_of_lt (blk_lt (g := gb102) (o := .cells #[.int .i64 ((rd_T29 l0 x17_1).f0), .int .i64 ((rd_T29 l0 x17_1).f1), .slice A101_2 ((rd_T29 l0 x17_1).f2).length c101_2] 29 (0, 0)) (bk_ BK102.out))) : p := h
theorem zof {p : Prop} (h : p := by rw [hg]; exact Nat.ne_of_gt (blk_lt (g := gb102) (o := .cells #[.int .i64 ((rd_T29 l0 x17_1).f0), .int .i64 ((rd_T29 l0 x17_1).f1), .slice A101_2 ((rd_T29 l0 x17_1).f2).length c101_2] 29 (0, 0)) (bk_ BK102.out))) : p := h
theorem zog {p : Prop} (h : p := by rw [hw]; exact (by refine bk_ ?_; refine blk_far ?_ NB102_104.out _; refine bk_ ?_; refine blk_far ?_ NB102_104.out _; refine bk_ ?_; refine blk_far ?_ NB102_104.out _; exact bk_ BK102.out)) : p := h
theorem zoh {p : Prop} (h : p := by first | rfl | (simp [errW_none, errW_some] <;> rfl) | (simp [*, errW_none, errW_some] <;> rfl)) : p := h
/-- term.Same, as it is handed over: what it answers, in every later world. -/
def CloE (do_ : Int → Int → List S29 → Int → Int → List S29 → Option Bool) (w : World) : Prop := ∀ w1, Below w.heap.size w w1 → ∀ (o1 n1 : Int) (A1 : Option Addr) (c1 : Nat) (l1 : List S29) (o2 n2 : Int) (A2 : Option Addr) (c2 : Nat) (l2 : List S29) (b : Bool), Kd.C k29 w1 A1 l1.length l1 → l1.length ≤ c1 → Kd.C k29 w1 A2 l2.length l2 → l2.length ≤ c2 → do_ o1 n1 l1 o2 n2 l2 = some b →
 Calls Tryd.prog 19 #[.agg #[.int .i64 o1, .int .i64 n1, .slice A1 l1.length c1], .agg #[.int .i64 o2, .int .i64 n2, .slice A2 l2.length c2]] w1 fun e w' => e = .returned (.bool b) ∧ Below w1.heap.size w1 w'
section
variable (do_ : Int → Int → List S29 → Int → Int → List S29 → Option Bool)
/-! ### eqL: function 47 -/
def eqL.l0 : Nat → List (S29) → List (S29) → Int → Int → Option (Bool)
 | 0, _, _, _, _ => none
 | k + 1, x1, x15, x16, x17 => if x17 < x16 then (if 0 ≤ x17 then (if x17 < (x15.length : Int) then (if x17 < (x1.length : Int) then ((do_ ((rd_T29 x15 x17).f0) ((rd_T29 x15 x17).f1) ((rd_T29 x15 x17).f2) ((rd_T29 x1 x17).f0) ((rd_T29 x1 x17).f1) ((rd_T29 x1 x17).f2)).bind fun t105 => (if t105 = true then (eqL.l0 k x1 x15 x16 (wrap64 (x17 + 1))) else (some false))) else (none)) else (none)) else (none)) else (some true)
def eqL.f (k : Nat) (l0 : List (S29)) (l1 : List (S29)) (a2 : Int) : Option (Bool) := if (l0.length : Int) = (l1.length : Int) then (eqL.l0 do_ k l1 l0 (l0.length : Int) 0) else (some false)
set_option maxHeartbeats 8000000 in
set_option maxRecDepth 100000 in
theorem eqL.calls (k : Nat) (A0 : Option Addr) (c0 : Nat) (l0 : List (S29)) (A1 : Option Addr) (c1 : Nat) (l1 : List (S29)) (a2 : Int) (r : Bool) (w : World) (hr0 : Kd.C k29 w A0 l0.length l0) (hc0 : l0.length ≤ c0) (hr1 : Kd.C k29 w A1 l1.length l1) (hc1 : l1.length ≤ c1) (hq : CloE do_ w) (h : eqL.f do_ k l0 l1 a2 = some r) :
  Calls Tryd.prog 47 #[.slice A0 l0.length c0, .slice A1 l1.length c1, (.func (.func 19) #[] #[])] w fun e w' => e = .returned (.bool r) ∧ Below w.heap.size w w' := by
 have hu29 := Tryd.underlying29
 have HR0 := Aside0.mk hr0
 have HC0 := Aside0.mk hc0
 clear hr0 hc0
 have HR1 := Aside0.mk hr1
 have HC1 := Aside0.mk hc1
 clear hr1 hc1
 have HB := Aside0.mk (Below.refl w.heap.size w)
 have HQ := Aside0.mk hq
 clear hq
 have H : (if (l0.length : Int) = (l1.length : Int) then (eqL.l0 do_ k l1 l0 (l0.length : Int) 0) else (some false)) = some r := h
 clear h
 by_cases c4 : (l0.length : Int) = (l1.length : Int)
 ·rw [if_pos c4] at H
  have c4b0 : ((l0.length : Int) == (l1.length : Int)) = true := beq_iff_eq.mpr c4
  have c4b1 : ((l0.length : Int) != (l1.length : Int)) = false := bne_eq_false_iff_eq.mpr c4
  have c4b2 : (l0.length == l1.length) = true := by first | simpa using c4 | (simp at c4 ⊢; omega)
  clear c4
  have H' := Aside0.mk H
  clear H
  go_enter Tryd.func47, Tryd.ntmps47
  go_wp2
  go_loopg [17] k (fun kq v17 w' => ∃ (x17_1 : Int), v17 = .int .i64 x17_1 ∧ Aside0 (eqL.l0 do_ kq l1 l0 (l0.length : Int) x17_1 = some r) ∧ Aside0 (kq ≤ k) ∧ Aside0 (Below w.heap.size w w'))
  case atStart => exact ⟨(0), (by first | rfl | (simp; done) | (simp [*]; done)), H', ⟨Nat.le_refl _⟩, ⟨zoc⟩⟩
  case round =>
   clear H'
   try clear c1
   try clear p2
   try clear c4
   try clear c4b0
   try clear c4b1
   try clear c4b2
   try clear HB
   obtain ⟨x17_1, rfl, HA, HK1, HB⟩ := hrel
   cases gk with
   | zero => exact absurd HA.out (by simp [eqL.l0])
   | succ k1 =>
    have H := HA.out
    clear HA
    simp only [eqL.l0] at H
    by_cases c5 : x17_1 < (l0.length : Int)
    ·rw [if_pos c5] at H
     have c5b0 : decide (x17_1 < (l0.length : Int)) = true := decide_eq_true c5
     clear c5
     by_cases c6 : 0 ≤ x17_1
     ·rw [if_pos c6] at H
      have c6b0 : decide (0 ≤ x17_1) = true := decide_eq_true c6
      clear c6
      by_cases c7 : x17_1 < (l0.length : Int)
      ·rw [if_pos c7] at H
       have c7b0 : decide (x17_1 < (l0.length : Int)) = true := decide_eq_true c7
       clear c7
       by_cases c8 : x17_1 < (l1.length : Int)
       ·rw [if_pos c8] at H
        have c8b0 : decide (x17_1 < (l1.length : Int)) = true := decide_eq_true c8
        clear c8
        replace H := Option.bind_eq_some_iff.mp H
        obtain ⟨t105, A90, H⟩ := H
        replace H : (if t105 = true then (eqL.l0 do_ k1 l1 l0 (l0.length : Int) (wrap64 (x17_1 + 1))) else (some false)) = some r := H
        have A9 := Aside0.mk A90
        clear A90
        by_cases c10 : t105 = true
        ·subst c10
         have H1 : (eqL.l0 do_ k1 l1 l0 (l0.length : Int) (wrap64 (x17_1 + 1))) = some r := by rw [if_pos rfl] at H; exact H
         clear H
         have H := H1
         clear H1
         have H' := Aside0.mk H
         clear H
         have p101 : 0 ≤ (x17_1 : Int) := of_decide_eq_true zod
         have q101 : x17_1 < (l0.length : Int) := of_decide_eq_true zod
         obtain ⟨ad101, A101_2, c101_2, e101, hx101_0, hx101_1, hx101_2, hl101_2, hi101_2⟩ := at_T29 HR0.out x17_1 p101 q101
         cases e101
         replace hx101_0 := (HB.out.cell (World.block_lt_of_cell? w _ hx101_0)).trans hx101_0
         replace hx101_1 := (HB.out.cell (World.block_lt_of_cell? w _ hx101_1)).trans hx101_1
         replace hx101_2 := (HB.out.cell (World.block_lt_of_cell? w _ hx101_2)).trans hx101_2
         have HR101_2 := Aside0.mk hi101_2
         have HC101_2 := Aside0.mk hl101_2
         clear hi101_2 hl101_2
         replace p101 := eq_true p101
         replace q101 := eq_true q101
         go_wp2_with (first | ((with_reducible refine gate_dst (N := 8) rfl ?_); refine box_event ?hg (N := 8) ?hd (cs := #[.int .i64 0, .int .i64 0, .slice none 0 0]) (t := 29) ?hr ?_; (case hd => rfl); (case hg => rfl); (case hr => first | (go_simp; done) | (go_simp; rfl)); intro gb102 hg w11 hbox hb; have n0_ := Aside0.mk (below_step zoc hb); have n1_ := Aside0.mk (hbox); have n2_ := Aside0.mk ((by rw [hg]; exact (below_size zoc) : w.heap.size ≤ gb102)); have n3_ := Aside0.mk ((by rw [hg]; exact (below_size zoc) : w.heap.size ≤ gb102)); clear HB; have HB := n0_; have BK102 := n1_; have GW102 := n2_; have GE102 := n3_; clear n0_ n1_ n2_ n3_; clear hb hbox hg; have hcz12_0 : w11.cell? ⟨gb102, 0, none⟩ = some (.int .i64 0) := bc_ BK102 0; have hcz12_1 : w11.cell? ⟨gb102, 1, none⟩ = some (.int .i64 0) := bc_ BK102 1; have hcz12_2 : w11.cell? ⟨gb102, 2, none⟩ = some (.slice none 0 0) := bc_ BK102 2; have hfz12_0 := blk_frozen BK102.out 0; have hfz12_1 := blk_frozen BK102.out 1; have hfz12_2 := blk_frozen BK102.out 2) | ((with_reducible refine gate_store (t := 29) (p := 8) rfl ?_); refine store_event (t := 29) (p := 8) (v := ?vo_w13) (w1 := (((w11.setCell ⟨gb102, 0, none⟩ (.int .i64 ((rd_T29 l0 x17_1).f0))).setCell ⟨gb102, 1, none⟩ (.int .i64 ((rd_T29 l0 x17_1).f1))).setCell ⟨gb102, 2, none⟩ (.slice A101_2 ((rd_T29 l0 x17_1).f2).length c101_2))) ?hg ?ho ?hn ?hr ?_; (case ho => rfl); (case hg => rfl); (case hn => rfl); (case hr => first | (go_simp; done) | (go_simp; rfl)); intro w13 hw; have n0_ : Aside0 (w13.heap[gb102]? = some (.cells #[.int .i64 ((rd_T29 l0 x17_1).f0), .int .i64 ((rd_T29 l0 x17_1).f1), .slice A101_2 ((rd_T29 l0 x17_1).f2).length c101_2] 29 (0, 0))) := ⟨(by rw [hw]; exact (by refine bk_ ?_; refine blk_put (cs := #[.int .i64 ((rd_T29 l0 x17_1).f0), .int .i64 ((rd_T29 l0 x17_1).f1), .slice none 0 0]) ?_ 2 _ rfl; refine bk_ ?_; refine blk_put (cs := #[.int .i64 ((rd_T29 l0 x17_1).f0), .int .i64 0, .slice none 0 0]) ?_ 1 _ rfl; refine bk_ ?_; refine blk_put (cs := #[.int .i64 0, .int .i64 0, .slice none 0 0]) ?_ 0 _ rfl; exact bk_ BK102.out))⟩; have n1_ : Aside0 (Below w.heap.size w w13) := ⟨(by rw [hw]; exact zob)⟩; clear hw; clear BK102; clear HB; have BK102 := n0_; have HB := n1_; clear n0_ n1_; have p103 : 0 ≤ (x17_1 : Int) := of_decide_eq_true zod; have q103 : x17_1 < (l1.length : Int) := of_decide_eq_true zod; obtain ⟨ad103, A103_2, c103_2, e103, hx103_0, hx103_1, hx103_2, hl103_2, hi103_2⟩ := at_T29 HR1.out x17_1 p103 q103; cases e103; replace hx103_0 := (HB.out.cell (World.block_lt_of_cell? w _ hx103_0)).trans hx103_0; replace hx103_1 := (HB.out.cell (World.block_lt_of_cell? w _ hx103_1)).trans hx103_1; replace hx103_2 := (HB.out.cell (World.block_lt_of_cell? w _ hx103_2)).trans hx103_2; have HR103_2 := Aside0.mk hi103_2; have HC103_2 := Aside0.mk hl103_2; clear hi103_2 hl103_2; replace p103 := eq_true p103; replace q103 := eq_true q103) | ((with_reducible refine gate_dst (N := 9) rfl ?_); refine box_event ?hg (N := 9) ?hd (cs := #[.int .i64 0, .int .i64 0, .slice none 0 0]) (t := 29) ?hr ?_; (case hd => rfl); (case hg => rfl); (case hr => first | (go_simp; done) | (go_simp; rfl)); intro gb104 hg w14 hbox hb; have n0_ := Aside0.mk (blk_below (g := gb102) (o := .cells #[.int .i64 ((rd_T29 l0 x17_1).f0), .int .i64 ((rd_T29 l0 x17_1).f1), .slice A101_2 ((rd_T29 l0 x17_1).f2).length c101_2] 29 (0, 0)) (bk_ BK102.out) hb); have n1_ := Aside0.mk (below_step zob hb); have n2_ := Aside0.mk (hbox); have n3_ := Aside0.mk ((by rw [hg]; exact (below_size zob) : w.heap.size ≤ gb104)); have n4_ := Aside0.mk ((by rw [hg]; exact (below_size zob) : w.heap.size ≤ gb104)); have n5_ := Aside0.mk ((zoe : gb102 ≠ gb104)); have n6_ := Aside0.mk ((zof : gb104 ≠ gb102)); clear BK102; clear HB; have BK102 := n0_; have HB := n1_; have BK104 := n2_; have GW104 := n3_; have GE104 := n4_; have NB102_104 := n5_; have NB104_102 := n6_; clear n0_ n1_ n2_ n3_ n4_ n5_ n6_; clear hb hbox hg; have hnb15 := NB104_102.out; have hnc15 := NB102_104.out; have hcz16_0 : w14.cell? ⟨gb104, 0, none⟩ = some (.int .i64 0) := bc_ BK104 0; have hcz16_1 : w14.cell? ⟨gb104, 1, none⟩ = some (.int .i64 0) := bc_ BK104 1; have hcz16_2 : w14.cell? ⟨gb104, 2, none⟩ = some (.slice none 0 0) := bc_ BK104 2; have hfz16_0 := blk_frozen BK104.out 0; have hfz16_1 := blk_frozen BK104.out 1; have hfz16_2 := blk_frozen BK104.out 2) | ((with_reducible refine gate_store (t := 29) (p := 9) rfl ?_); refine store_event (t := 29) (p := 9) (v := ?vo_w17) (w1 := (((w14.setCell ⟨gb104, 0, none⟩ (.int .i64 ((rd_T29 l1 x17_1).f0))).setCell ⟨gb104, 1, none⟩ (.int .i64 ((rd_T29 l1 x17_1).f1))).setCell ⟨gb104, 2, none⟩ (.slice A103_2 ((rd_T29 l1 x17_1).f2).length c103_2))) ?hg ?ho ?hn ?hr ?_; (case ho => rfl); (case hg => rfl); (case hn => rfl); (case hr => first | (go_simp; done) | (go_simp; rfl)); intro w17 hw; have n0_ : Aside0 (w17.heap[gb102]? = some (.cells #[.int .i64 ((rd_T29 l0 x17_1).f0), .int .i64 ((rd_T29 l0 x17_1).f1), .slice A101_2 ((rd_T29 l0 x17_1).f2).length c101_2] 29 (0, 0))) := ⟨zog⟩; have n1_ : Aside0 (w17.heap[gb104]? = some (.cells #[.int .i64 ((rd_T29 l1 x17_1).f0), .int .i64 ((rd_T29 l1 x17_1).f1), .slice A103_2 ((rd_T29 l1 x17_1).f2).length c103_2] 29 (0, 0))) := ⟨(by rw [hw]; exact (by refine bk_ ?_; refine blk_put (cs := #[.int .i64 ((rd_T29 l1 x17_1).f0), .int .i64 ((rd_T29 l1 x17_1).f1), .slice none 0 0]) ?_ 2 _ rfl; refine bk_ ?_; refine blk_put (cs := #[.int .i64 ((rd_T29 l1 x17_1).f0), .int .i64 0, .slice none 0 0]) ?_ 1 _ rfl; refine bk_ ?_; refine blk_put (cs := #[.int .i64 0, .int .i64 0, .slice none 0 0]) ?_ 0 _ rfl; exact bk_ BK104.out))⟩; have n2_ : Aside0 (Below w.heap.size w w17) := ⟨(by rw [hw]; exact zoa)⟩; clear hw; clear BK102; clear BK104; clear HB; have BK102 := n0_; have BK104 := n1_; have HB := n2_; clear n0_ n1_ n2_; have hcz18_0 : w17.cell? ⟨gb102, 0, none⟩ = some (.int .i64 ((rd_T29 l0 x17_1).f0)) := bc_ BK102 0; have hcz18_1 : w17.cell? ⟨gb102, 1, none⟩ = some (.int .i64 ((rd_T29 l0 x17_1).f1)) := bc_ BK102 1; have hcz18_2 : w17.cell? ⟨gb102, 2, none⟩ = some (.slice A101_2 ((rd_T29 l0 x17_1).f2).length c101_2) := bc_ BK102 2; have hfz18_0 := blk_frozen BK102.out 0; have hfz18_1 := blk_frozen BK102.out 1; have hfz18_2 := blk_frozen BK102.out 2; have hcz19_0 : w17.cell? ⟨gb104, 0, none⟩ = some (.int .i64 ((rd_T29 l1 x17_1).f0)) := bc_ BK104 0; have hcz19_1 : w17.cell? ⟨gb104, 1, none⟩ = some (.int .i64 ((rd_T29 l1 x17_1).f1)) := bc_ BK104 1; have hcz19_2 : w17.cell? ⟨gb104, 2, none⟩ = some (.slice A103_2 ((rd_T29 l1 x17_1).f2).length c103_2) := bc_ BK104 2; have hfz19_0 := blk_frozen BK104.out 0; have hfz19_1 := blk_frozen BK104.out 1; have hfz19_2 := blk_frozen BK104.out 2) | (go_at_call 19; refine (HQ.out _ zoa ((rd_T29 l0 x17_1).f0) ((rd_T29 l0 x17_1).f1) _ _ ((rd_T29 l0 x17_1).f2) ((rd_T29 l1 x17_1).f0) ((rd_T29 l1 x17_1).f1) _ _ ((rd_T29 l1 x17_1).f2) true ?side1 ?side2 ?side3 ?side4 A9.out).mono ?_; (case side1 => repeat (first | exact (Kd.C_below HR101_2.out HB.out) | (with_reducible refine Kd.C_alloc ?_ _) | (with_reducible refine Kd.C_drewN ?_ _) | (with_reducible refine Kd.C_drew ?_))); (case side2 => exact HC101_2.out); (case side3 => repeat (first | exact (Kd.C_below HR103_2.out HB.out) | (with_reducible refine Kd.C_alloc ?_ _) | (with_reducible refine Kd.C_drewN ?_ _) | (with_reducible refine Kd.C_drew ?_))); (case side4 => exact HC103_2.out); rintro e w20 ⟨rfl, hb⟩; have n0_ := Aside0.mk (blk_below (g := gb102) (o := .cells #[.int .i64 ((rd_T29 l0 x17_1).f0), .int .i64 ((rd_T29 l0 x17_1).f1), .slice A101_2 ((rd_T29 l0 x17_1).f2).length c101_2] 29 (0, 0)) (bk_ BK102.out) hb); have n1_ := Aside0.mk (blk_below (g := gb104) (o := .cells #[.int .i64 ((rd_T29 l1 x17_1).f0), .int .i64 ((rd_T29 l1 x17_1).f1), .slice A103_2 ((rd_T29 l1 x17_1).f2).length c103_2] 29 (0, 0)) (bk_ BK104.out) hb); have n2_ := Aside0.mk (below_step zoa hb); clear BK102; clear BK104; clear HB; have BK102 := n0_; have BK104 := n1_; have HB := n2_; clear n0_ n1_ n2_; (try clear hb); (try clear hb2); (try clear hk); (try clear hi)))
         go_roundg k1
         case measure => have := HK1.out; omega
         case rel => exact ⟨(wrap64 (x17_1 + 1)), (by first | rfl | (simp; done) | (simp [*]; done)), H', ⟨by have := HK1.out; omega⟩, ⟨zoa⟩⟩
        ·replace c10 := Bool.eq_false_iff.mpr c10
         subst c10
         have H1 : (some false) = some r := by rw [if_neg (show ¬ (false = true) by decide)] at H; exact H
         clear H
         have H := H1
         clear H1
         obtain rfl := Option.some.inj H
         have p101 : 0 ≤ (x17_1 : Int) := of_decide_eq_true zod
         have q101 : x17_1 < (l0.length : Int) := of_decide_eq_true zod
         obtain ⟨ad101, A101_2, c101_2, e101, hx101_0, hx101_1, hx101_2, hl101_2, hi101_2⟩ := at_T29 HR0.out x17_1 p101 q101
         cases e101
         replace hx101_0 := (HB.out.cell (World.block_lt_of_cell? w _ hx101_0)).trans hx101_0
         replace hx101_1 := (HB.out.cell (World.block_lt_of_cell? w _ hx101_1)).trans hx101_1
         replace hx101_2 := (HB.out.cell (World.block_lt_of_cell? w _ hx101_2)).trans hx101_2
         have HR101_2 := Aside0.mk hi101_2
         have HC101_2 := Aside0.mk hl101_2
         clear hi101_2 hl101_2
         replace p101 := eq_true p101
         replace q101 := eq_true q101
         go_wp2_with (first | ((with_reducible refine gate_dst (N := 8) rfl ?_); refine box_event ?hg (N := 8) ?hd (cs := #[.int .i64 0, .int .i64 0, .slice none 0 0]) (t := 29) ?hr ?_; (case hd => rfl); (case hg => rfl); (case hr => first | (go_simp; done) | (go_simp; rfl)); intro gb102 hg w21 hbox hb; have n0_ := Aside0.mk (below_step zoc hb); have n1_ := Aside0.mk (hbox); have n2_ := Aside0.mk ((by rw [hg]; exact (below_size zoc) : w.heap.size ≤ gb102)); have n3_ := Aside0.mk ((by rw [hg]; exact (below_size zoc) : w.heap.size ≤ gb102)); clear HB; have HB := n0_; have BK102 := n1_; have GW102 := n2_; have GE102 := n3_; clear n0_ n1_ n2_ n3_; clear hb hbox hg; have hcz22_0 : w21.cell? ⟨gb102, 0, none⟩ = some (.int .i64 0) := bc_ BK102 0; have hcz22_1 : w21.cell? ⟨gb102, 1, none⟩ = some (.int .i64 0) := bc_ BK102 1; have hcz22_2 : w21.cell? ⟨gb102, 2, none⟩ = some (.slice none 0 0) := bc_ BK102 2; have hfz22_0 := blk_frozen BK102.out 0; have hfz22_1 := blk_frozen BK102.out 1; have hfz22_2 := blk_frozen BK102.out 2) | ((with_reducible refine gate_store (t := 29) (p := 8) rfl ?_); refine store_event (t := 29) (p := 8) (v := ?vo_w23) (w1 := (((w21.setCell ⟨gb102, 0, none⟩ (.int .i64 ((rd_T29 l0 x17_1).f0))).setCell ⟨gb102, 1, none⟩ (.int .i64 ((rd_T29 l0 x17_1).f1))).setCell ⟨gb102, 2, none⟩ (.slice A101_2 ((rd_T29 l0 x17_1).f2).length c101_2))) ?hg ?ho ?hn ?hr ?_; (case ho => rfl); (case hg => rfl); (case hn => rfl); (case hr => first | (go_simp; done) | (go_simp; rfl)); intro w23 hw; have n0_ : Aside0 (w23.heap[gb102]? = some (.cells #[.int .i64 ((rd_T29 l0 x17_1).f0), .int .i64 ((rd_T29 l0 x17_1).f1), .slice A101_2 ((rd_T29 l0 x17_1).f2).length c101_2] 29 (0, 0))) := ⟨(by rw [hw]; exact (by refine bk_ ?_; refine blk_put (cs := #[.int .i64 ((rd_T29 l0 x17_1).f0), .int .i64 ((rd_T29 l0 x17_1).f1), .slice none 0 0]) ?_ 2 _ rfl; refine bk_ ?_; refine blk_put (cs := #[.int .i64 ((rd_T29 l0 x17_1).f0), .int .i64 0, .slice none 0 0]) ?_ 1 _ rfl; refine bk_ ?_; refine blk_put (cs := #[.int .i64 0, .int .i64 0, .slice none 0 0]) ?_ 0 _ rfl; exact bk_ BK102.out))⟩; have n1_ : Aside0 (Below w.heap.size w w23) := ⟨(by rw [hw]; exact zob)⟩; clear hw; clear BK102; clear HB; have BK102 := n0_; have HB := n1_; clear n0_ n1_; have p103 : 0 ≤ (x17_1 : Int) := of_decide_eq_true zod; have q103 : x17_1 < (l1.length : Int) := of_decide_eq_true zod; obtain ⟨ad103, A103_2, c103_2, e103, hx103_0, hx103_1, hx103_2, hl103_2, hi103_2⟩ := at_T29 HR1.out x17_1 p103 q103; cases e103; replace hx103_0 := (HB.out.cell (World.block_lt_of_cell? w _ hx103_0)).trans hx103_0; replace hx103_1 := (HB.out.cell (World.block_lt_of_cell? w _ hx103_1)).trans hx103_1; replace hx103_2 := (HB.out.cell (World.block_lt_of_cell? w _ hx103_2)).trans hx103_2; have HR103_2 := Aside0.mk hi103_2; have HC103_2 := Aside0.mk hl103_2; clear hi103_2 hl103_2; replace p103 := eq_true p103; replace q103 := eq_true q103) | ((with_reducible refine gate_dst (N := 9) rfl ?_); refine box_event ?hg (N := 9) ?hd (cs := #[.int .i64 0, .int .i64 0, .slice none 0 0]) (t := 29) ?hr ?_; (case hd => rfl); (case hg => rfl); (case hr => first | (go_simp; done) | (go_simp; rfl)); intro gb104 hg w24 hbox hb; have n0_ := Aside0.mk (blk_below (g := gb102) (o := .cells #[.int .i64 ((rd_T29 l0 x17_1).f0), .int .i64 ((rd_T29 l0 x17_1).f1), .slice A101_2 ((rd_T29 l0 x17_1).f2).length c101_2] 29 (0, 0)) (bk_ BK102.out) hb); have n1_ := Aside0.mk (below_step zob hb); have n2_ := Aside0.mk (hbox); have n3_ := Aside0.mk ((by rw [hg]; exact (below_size zob) : w.heap.size ≤ gb104)); have n4_ := Aside0.mk ((by rw [hg]; exact (below_size zob) : w.heap.size ≤ gb104)); have n5_ := Aside0.mk ((zoe : gb102 ≠ gb104)); have n6_ := Aside0.mk ((zof : gb104 ≠ gb102)); clear BK102; clear HB; have BK102 := n0_; have HB := n1_; have BK104 := n2_; have GW104 := n3_; have GE104 := n4_; have NB102_104 := n5_; have NB104_102 := n6_; clear n0_ n1_ n2_ n3_ n4_ n5_ n6_; clear hb hbox hg; have hnb25 := NB104_102.out; have hnc25 := NB102_104.out; have hcz26_0 : w24.cell? ⟨gb104, 0, none⟩ = some (.int .i64 0) := bc_ BK104 0; have hcz26_1 : w24.cell? ⟨gb104, 1, none⟩ = some (.int .i64 0) := bc_ BK104 1; have hcz26_2 : w24.cell? ⟨gb104, 2, none⟩ = some (.slice none 0 0) := bc_ BK104 2; have hfz26_0 := blk_frozen BK104.out 0; have hfz26_1 := blk_frozen BK104.out 1; have hfz26_2 := blk_frozen BK104.out 2) | ((with_reducible refine gate_store (t := 29) (p := 9) rfl ?_); refine store_event (t := 29) (p := 9) (v := ?vo_w27) (w1 := (((w24.setCell ⟨gb104, 0, none⟩ (.int .i64 ((rd_T29 l1 x17_1).f0))).setCell ⟨gb104, 1, none⟩ (.int .i64 ((rd_T29 l1 x17_1).f1))).setCell ⟨gb104, 2, none⟩ (.slice A103_2 ((rd_T29 l1 x17_1).f2).length c103_2))) ?hg ?ho ?hn ?hr ?_; (case ho => rfl); (case hg => rfl); (case hn => rfl); (case hr => first | (go_simp; done) | (go_simp; rfl)); intro w27 hw; have n0_ : Aside0 (w27.heap[gb102]? = some (.cells #[.int .i64 ((rd_T29 l0 x17_1).f0), .int .i64 ((rd_T29 l0 x17_1).f1), .slice A101_2 ((rd_T29 l0 x17_1).f2).length c101_2] 29 (0, 0))) := ⟨zog⟩; have n1_ : Aside0 (w27.heap[gb104]? = some (.cells #[.int .i64 ((rd_T29 l1 x17_1).f0), .int .i64 ((rd_T29 l1 x17_1).f1), .slice A103_2 ((rd_T29 l1 x17_1).f2).length c103_2] 29 (0, 0))) := ⟨(by rw [hw]; exact (by refine bk_ ?_; refine blk_put (cs := #[.int .i64 ((rd_T29 l1 x17_1).f0), .int .i64 ((rd_T29 l1 x17_1).f1), .slice none 0 0]) ?_ 2 _ rfl; refine bk_ ?_; refine blk_put (cs := #[.int .i64 ((rd_T29 l1 x17_1).f0), .int .i64 0, .slice none 0 0]) ?_ 1 _ rfl; refine bk_ ?_; refine blk_put (cs := #[.int .i64 0, .int .i64 0, .slice none 0 0]) ?_ 0 _ rfl; exact bk_ BK104.out))⟩; have n2_ : Aside0 (Below w.heap.size w w27) := ⟨(by rw [hw]; exact zoa)⟩; clear hw; clear BK102; clear BK104; clear HB; have BK102 := n0_; have BK104 := n1_; have HB := n2_; clear n0_ n1_ n2_; have hcz28_0 : w27.cell? ⟨gb102, 0, none⟩ = some (.int .i64 ((rd_T29 l0 x17_1).f0)) := bc_ BK102 0; have hcz28_1 : w27.cell? ⟨gb102, 1, none⟩ = some (.int .i64 ((rd_T29 l0 x17_1).f1)) := bc_ BK102 1; have hcz28_2 : w27.cell? ⟨gb102, 2, none⟩ = some (.slice A101_2 ((rd_T29 l0 x17_1).f2).length c101_2) := bc_ BK102 2; have hfz28_0 := blk_frozen BK102.out 0; have hfz28_1 := blk_frozen BK102.out 1; have hfz28_2 := blk_frozen BK102.out 2; have hcz29_0 : w27.cell? ⟨gb104, 0, none⟩ = some (.int .i64 ((rd_T29 l1 x17_1).f0)) := bc_ BK104 0; have hcz29_1 : w27.cell? ⟨gb104, 1, none⟩ = some (.int .i64 ((rd_T29 l1 x17_1).f1)) := bc_ BK104 1; have hcz29_2 : w27.cell? ⟨gb104, 2, none⟩ = some (.slice A103_2 ((rd_T29 l1 x17_1).f2).length c103_2) := bc_ BK104 2; have hfz29_0 := blk_frozen BK104.out 0; have hfz29_1 := blk_frozen BK104.out 1; have hfz29_2 := blk_frozen BK104.out 2) | (go_at_call 19; refine (HQ.out _ zoa ((rd_T29 l0 x17_1).f0) ((rd_T29 l0 x17_1).f1) _ _ ((rd_T29 l0 x17_1).f2) ((rd_T29 l1 x17_1).f0) ((rd_T29 l1 x17_1).f1) _ _ ((rd_T29 l1 x17_1).f2) false ?side1 ?side2 ?side3 ?side4 A9.out).mono ?_; (case side1 => repeat (first | exact (Kd.C_below HR101_2.out HB.out) | (with_reducible refine Kd.C_alloc ?_ _) | (with_reducible refine Kd.C_drewN ?_ _) | (with_reducible refine Kd.C_drew ?_))); (case side2 => exact HC101_2.out); (case side3 => repeat (first | exact (Kd.C_below HR103_2.out HB.out) | (with_reducible refine Kd.C_alloc ?_ _) | (with_reducible refine Kd.C_drewN ?_ _) | (with_reducible refine Kd.C_drew ?_))); (case side4 => exact HC103_2.out); rintro e w30 ⟨rfl, hb⟩; have n0_ := Aside0.mk (blk_below (g := gb102) (o := .cells #[.int .i64 ((rd_T29 l0 x17_1).f0), .int .i64 ((rd_T29 l0 x17_1).f1), .slice A101_2 ((rd_T29 l0 x17_1).f2).length c101_2] 29 (0, 0)) (bk_ BK102.out) hb); have n1_ := Aside0.mk (blk_below (g := gb104) (o := .cells #[.int .i64 ((rd_T29 l1 x17_1).f0), .int .i64 ((rd_T29 l1 x17_1).f1), .slice A103_2 ((rd_T29 l1 x17_1).f2).length c103_2] 29 (0, 0)) (bk_ BK104.out) hb); have n2_ := Aside0.mk (below_step zoa hb); clear BK102; clear BK104; clear HB; have BK102 := n0_; have BK104 := n1_; have HB := n2_; clear n0_ n1_ n2_; (try clear hb); (try clear hb2); (try clear hk); (try clear hi)))
         go_ret
         exact ⟨zoh, zoa⟩
       ·rw [if_neg c8] at H
        exact absurd H (by simp)
      ·rw [if_neg c7] at H
       exact absurd H (by simp)
     ·rw [if_neg c6] at H
      exact absurd H (by simp)
    ·rw [if_neg c5] at H
     have c5b0 : decide (x17_1 < (l0.length : Int)) = false := decide_eq_false c5
     clear c5
     obtain rfl := Option.some.inj H
     go_wp2
     go_ret
     exact ⟨zoh, zoc⟩
 ·rw [if_neg c4] at H
  have c4b0 : ((l0.length : Int) == (l1.length : Int)) = false := beq_eq_false_iff_ne.mpr c4
  have c4b1 : ((l0.length : Int) != (l1.length : Int)) = true := bne_iff_ne.mpr c4
  have c4b2 : (l0.length == l1.length) = false := by first | simpa using c4 | (simp at c4 ⊢; omega)
  obtain rfl := Option.some.inj H
  go_enter Tryd.func47, Tryd.ntmps47
  go_wp2
  go_ret
  exact ⟨zoh, zoc⟩

end
/-- Are two terms the same? As term.Same says it, of k rounds. -/
def term_Same.f : Nat → Int → Int → List S29 → Int → Int → List S29 → Option Bool
 | 0, _, _, _, _, _, _ => none
 | k + 1, o1, n1, l1, o2, n2, l2 => if o1 = o2 then (if n1 = n2 then eqL.f (term_Same.f k) k l1 l2 0 else some false) else some false
end Go.Proofs.YtcchfblekaaalaaDoor.P
