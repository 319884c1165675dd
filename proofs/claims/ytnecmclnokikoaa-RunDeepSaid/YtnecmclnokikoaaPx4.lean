-- Printed by mkprint.py (a program of this session, over the kit's print). Lean checks it.
import Derived.Test.YtnecmclnokikoaaPx0
import Derived.Test.YtnecmclnokikoaaPx1
import Derived.Test.YtnecmclnokikoaaPx3
import Derived.Test.YtnecmclnokikoaaHandRun
namespace Go.Proofs.Ytnecmclnokikoaa.P
open Go.RowKit Go.Proofs.YtnecmclnokikoaaW.PrintWords Go.Proofs.YtnecmclnokikoaaW.PrintLast Go.Proofs.YtnecmclnokikoaaW.PrintMore
attribute [local go_sem] max2_int min2_int max_two min_two max_three min_three max_four min_four   -- for this text's walks alone
set_option linter.unusedVariables false
set_option linter.unusedSimpArgs false

/-! ### thyrsuslaw12_RunDeep: function 5 -/
mutual
def thyrsuslaw12_RunDeep.l0 : Nat → Int → Int → Int → Int → Int → List (S29) → Option (Bool)
  | 0, _, _, _, _, _, _ => none
  | k + 1, x0, x1, x6, x205000, x205001, x205002 => if x6 < x0 then ((thyrsusref4_V.f 0).bind fun bt205 => ((thyrsusref4_V.f 0).bind fun bt210 => ((thyrsusref4_T.f 22 (([(⟨bt205.1, bt205.2.1, bt205.2.2⟩ : S29), (⟨bt210.1, bt210.2.1, bt210.2.2⟩ : S29)] : List (S29)))).bind fun bt218 => ((thyrsusref4_T.f 28 (([(⟨bt218.1, bt218.2.1, bt218.2.2⟩ : S29), (⟨x205000, x205001, x205002⟩ : S29)] : List (S29)))).bind fun bt226 => (thyrsuslaw12_RunDeep.l0 k x0 x1 (wrap64 (x6 + 1)) bt226.1 bt226.2.1 bt226.2.2))))) else ((thyrsusref4_Int.f x1).bind fun bt231 => ((thyrsusref4_T.f 28 (([(⟨bt231.1, bt231.2.1, bt231.2.2⟩ : S29), (⟨x205000, x205001, x205002⟩ : S29)] : List (S29)))).bind fun bt239 => ((run_Run.f k bt239.1 bt239.2.1 bt239.2.2 10).bind fun bt244 => (thyrsuslaw12_RunDeep.l1 k x0 bt244.2.2.2.1 bt244.2.2.2.2 0 bt244.1 bt244.2.1 bt244.2.2.1 1 x1 ([] : List (S34))))))
def thyrsuslaw12_RunDeep.l1 : Nat → Int → Int → Int → Int → Int → Int → List (S34) → Int → Int → List (S34) → Option (Bool)
  | 0, _, _, _, _, _, _, _, _, _, _ => none
  | k + 1, x0, x8, x9, x11, x252000, x252001, x252002, x253000, x253001, x253002 => if x11 < x0 then (thyrsuslaw12_RunDeep.l1 k x0 x8 x9 (wrap64 (x11 + 1)) x252000 x252001 x252002 2 0 (([(⟨x253000, x253001, x253002⟩ : S34), (⟨x253000, x253001, x253002⟩ : S34)] : List (S34)))) else (if x9 = 0 then (if x8 = 0 then ((thyrsusref11_Same.f k x252000 x252001 x252002 x253000 x253001 x253002).bind fun t256 => (some t256)) else (none)) else (none))
end
def thyrsuslaw12_RunDeep.f (k : Nat) (a0 : Int) (a1 : Int) : Option (Bool) := (thyrsuslaw12_known.f k).bind fun t197 => (if t197 = true then ((thyrsuslaw12_within.f a0 11).bind fun t198 => ((thyrsusref4_V.f 0).bind fun bt199 => (thyrsuslaw12_RunDeep.l0 k t198 a1 0 bt199.1 bt199.2.1 bt199.2.2))) else (none))
theorem thyrsuslaw12_RunDeep.mono_l : ∀ k, (∀ y0 y1 y2 y3 y4 y5, LeO (thyrsuslaw12_RunDeep.l0 k y0 y1 y2 y3 y4 y5) (thyrsuslaw12_RunDeep.l0 (k + 1) y0 y1 y2 y3 y4 y5)) ∧ (∀ y0 y1 y2 y3 y4 y5 y6 y7 y8 y9, LeO (thyrsuslaw12_RunDeep.l1 k y0 y1 y2 y3 y4 y5 y6 y7 y8 y9) (thyrsuslaw12_RunDeep.l1 (k + 1) y0 y1 y2 y3 y4 y5 y6 y7 y8 y9))
  | 0 => ⟨fun _ _ _ _ _ _ r h => by simp [thyrsuslaw12_RunDeep.l0] at h, fun _ _ _ _ _ _ _ _ _ _ r h => by simp [thyrsuslaw12_RunDeep.l1] at h⟩
  | k + 1 => by
    obtain ⟨ih0, ih1⟩ := thyrsuslaw12_RunDeep.mono_l k
    refine ⟨?_, ?_⟩
    · intro y0 y1 y2 y3 y4 y5
      unfold thyrsuslaw12_RunDeep.l0
      repeat' first
      | (with_reducible exact ih0 _ _ _ _ _ _)
      | (with_reducible exact ih1 _ _ _ _ _ _ _ _ _ _)
      | (with_reducible exact run_Run.mono _ _ _ _ _)
      | (with_reducible exact thyrsuslaw12_known.mono _)
      | (with_reducible exact thyrsusref11_Same.mono _ _ _ _ _ _ _)
      | (with_reducible exact LeO.refl _)
      | (with_reducible exact LeO.none _)
      | (with_reducible refine LeO.ite ?_ ?_)
      | (with_reducible refine LeO.bind ?_ (fun _ => ?_))
      | exact ih0 _ _ _ _ _ _
      | exact ih1 _ _ _ _ _ _ _ _ _ _
      | exact run_Run.mono _ _ _ _ _
      | exact thyrsuslaw12_known.mono _
      | exact thyrsusref11_Same.mono _ _ _ _ _ _ _
      | exact LeO.none _
      | refine LeO.ite ?_ ?_
      | refine LeO.bind ?_ (fun _ => ?_)
    · intro y0 y1 y2 y3 y4 y5 y6 y7 y8 y9
      unfold thyrsuslaw12_RunDeep.l1
      repeat' first
      | (with_reducible exact ih0 _ _ _ _ _ _)
      | (with_reducible exact ih1 _ _ _ _ _ _ _ _ _ _)
      | (with_reducible exact run_Run.mono _ _ _ _ _)
      | (with_reducible exact thyrsuslaw12_known.mono _)
      | (with_reducible exact thyrsusref11_Same.mono _ _ _ _ _ _ _)
      | (with_reducible exact LeO.refl _)
      | (with_reducible exact LeO.none _)
      | (with_reducible refine LeO.ite ?_ ?_)
      | (with_reducible refine LeO.bind ?_ (fun _ => ?_))
      | exact ih0 _ _ _ _ _ _
      | exact ih1 _ _ _ _ _ _ _ _ _ _
      | exact run_Run.mono _ _ _ _ _
      | exact thyrsuslaw12_known.mono _
      | exact thyrsusref11_Same.mono _ _ _ _ _ _ _
      | exact LeO.none _
      | refine LeO.ite ?_ ?_
      | refine LeO.bind ?_ (fun _ => ?_)
theorem thyrsuslaw12_RunDeep.mono : ∀ a0 a1 k, LeO (thyrsuslaw12_RunDeep.f k a0 a1) (thyrsuslaw12_RunDeep.f (k + 1) a0 a1) := by
  intro a0 a1 k
  obtain ⟨ih0, ih1⟩ := thyrsuslaw12_RunDeep.mono_l k
  unfold thyrsuslaw12_RunDeep.f
  repeat' first
      | (with_reducible exact ih0 _ _ _ _ _ _)
      | (with_reducible exact ih1 _ _ _ _ _ _ _ _ _ _)
      | (with_reducible exact run_Run.mono _ _ _ _ _)
      | (with_reducible exact thyrsuslaw12_known.mono _)
      | (with_reducible exact thyrsusref11_Same.mono _ _ _ _ _ _ _)
      | (with_reducible exact LeO.refl _)
      | (with_reducible exact LeO.none _)
      | (with_reducible refine LeO.ite ?_ ?_)
      | (with_reducible refine LeO.bind ?_ (fun _ => ?_))
      | exact ih0 _ _ _ _ _ _
      | exact ih1 _ _ _ _ _ _ _ _ _ _
      | exact run_Run.mono _ _ _ _ _
      | exact thyrsuslaw12_known.mono _
      | exact thyrsusref11_Same.mono _ _ _ _ _ _ _
      | exact LeO.none _
      | refine LeO.ite ?_ ?_
      | refine LeO.bind ?_ (fun _ => ?_)
def thyrsuslaw12_RunDeep.T8 : Bool × List (List Nat × List Nat) := (true, [([], []), ([0], []), ([0, 1], [0, 1]), ([2, 1], [2]), ([], []), ([3, 4], [3, 4]), ([5, 3], [5]), ([6, 6, 0, 1, 2, 3, 4, 5, 6], [6])])
def thyrsuslaw12_RunDeep.B8 : List Nat := [0, 1, 3, 7, 0, 31, 63, 127]
theorem thyrsuslaw12_RunDeep.tab8 : rtab .any (opsOf Try.f5 8) = thyrsuslaw12_RunDeep.T8 := by kernel_rfl
theorem thyrsuslaw12_RunDeep.bits8 : waitsOk thyrsuslaw12_RunDeep.T8.2 thyrsuslaw12_RunDeep.B8 = true := by kernel_rfl
set_option maxHeartbeats 8000000 in
set_option maxRecDepth 100000 in
theorem thyrsuslaw12_RunDeep.calls (k : Nat) (a0 : Int) (a1 : Int) (r : Bool) (w : World) (h : thyrsuslaw12_RunDeep.f k a0 a1 = some r) :
    Calls Try.prog 5 #[.int .i64 a0, .int .i64 a1] w fun e w' => e = .returned (.bool r) ∧ Below w.heap.size w w' := by
  have hu29 := Try.underlying29
  have hu34 := Try.underlying34
  have HB := Aside0.mk (Below.refl w.heap.size w)
  have H : ((thyrsuslaw12_known.f k).bind fun t197 => (if t197 = true then ((thyrsuslaw12_within.f a0 11).bind fun t198 => ((thyrsusref4_V.f 0).bind fun bt199 => (thyrsuslaw12_RunDeep.l0 k t198 a1 0 bt199.1 bt199.2.1 bt199.2.2))) else (none))) = some r := h
  clear h
  replace H := Option.bind_eq_some_iff.mp H
  obtain ⟨t197, A30, H⟩ := H
  replace H : (if t197 = true then ((thyrsuslaw12_within.f a0 11).bind fun t198 => ((thyrsusref4_V.f 0).bind fun bt199 => (thyrsuslaw12_RunDeep.l0 k t198 a1 0 bt199.1 bt199.2.1 bt199.2.2))) else (none)) = some r := H
  have A3 := Aside0.mk A30
  clear A30
  by_cases c4 : t197 = true
  · subst c4
    have H1 : ((thyrsuslaw12_within.f a0 11).bind fun t198 => ((thyrsusref4_V.f 0).bind fun bt199 => (thyrsuslaw12_RunDeep.l0 k t198 a1 0 bt199.1 bt199.2.1 bt199.2.2))) = some r := by rw [if_pos rfl] at H; exact H
    clear H
    have H := H1
    clear H1
    replace H := Option.bind_eq_some_iff.mp H
    obtain ⟨t198, A50, H⟩ := H
    replace H : ((thyrsusref4_V.f 0).bind fun bt199 => (thyrsuslaw12_RunDeep.l0 k t198 a1 0 bt199.1 bt199.2.1 bt199.2.2)) = some r := H
    have A5 := Aside0.mk A50
    clear A50
    replace H := Option.bind_eq_some_iff.mp H
    obtain ⟨⟨t199, t200, t201⟩, A60, H⟩ := H
    replace H : (thyrsuslaw12_RunDeep.l0 k t198 a1 0 t199 t200 t201) = some r := H
    have A6 := Aside0.mk A60
    clear A60
    have H' := Aside0.mk H
    clear H
    go_enter Try.func5, Try.ntmps5
    go_wp2_with (first | ((with_reducible refine gate_callee (f := 9) rfl ?_); refine goesL_ (some 12) rfl rfl Try.func9 (by kernel_rfl) rfl #[] rfl (by (try simp only [List.map_toArray, List.map_cons, List.map_nil]); first | done | rfl | (simp only [List.length_drop, List.length_take]; rfl)) ?_; (with_reducible refine (thyrsuslaw12_known.calls k  true _ A3.out).mono ?_); rintro e w7 ⟨rfl, hb⟩; refine ⟨_, rfl, ?_⟩; have n0_ := Aside0.mk (below_step (by repeat (first | (with_reducible first | exact HB.out | apply below_alloc | apply pw_below_drewN | apply below_drew1) | exact HB.out)) hb); clear HB; have HB := n0_; clear n0_; (try clear hb); (try clear hb2); (try clear hk); (try clear hi)) | ((with_reducible refine gate_callee (f := 13) rfl ?_); refine goesL_ (some 15) rfl rfl Try.func13 (by kernel_rfl) rfl #[.int .i64 a0, .int .i64 11] rfl (by (try simp only [List.map_toArray, List.map_cons, List.map_nil]); first | done | rfl | (simp only [List.length_drop, List.length_take]; rfl)) ?_; (with_reducible refine (thyrsuslaw12_within.calls a0 11 t198 _ A5.out).mono ?_); rintro e w' ⟨rfl, ⟨nd, rfl⟩⟩; refine ⟨_, rfl, ?_⟩; (try (rw [drewN_self w7]; generalize hq_ : World.drewN w7 _ = w7; have n0_ : Aside0 (Below w.heap.size w w7) := ⟨by rw [← hq_]; exact (by repeat (first | (with_reducible first | exact HB.out | apply below_alloc | apply pw_below_drewN | apply below_drew1) | exact HB.out))⟩; clear HB hq_; have HB := n0_; clear n0_))) | ((with_reducible refine gate_callee (f := 17) rfl ?_); refine goesL_ (some 16) rfl rfl Try.func17 (by kernel_rfl) rfl #[.int .i64 0] rfl (by (try simp only [List.map_toArray, List.map_cons, List.map_nil]); first | done | rfl | (simp only [List.length_drop, List.length_take]; rfl)) ?_; (with_reducible refine (thyrsusref4_V.calls 0 t199 t200 t201 _ A6.out).mono ?_); rintro e w8 ⟨v202, rfl, ho0, hb⟩; refine ⟨_, rfl, ?_⟩; have n0_ := Aside0.mk (Kd.N_lower (Kd.N_mono (ok' := fun k_ => True) (Kd.R_N (Kd.R_bound ho0)) (fun k_ hk_ => trivial)) (below_size (by repeat (first | (with_reducible first | exact HB.out | apply below_alloc | apply pw_below_drewN | apply below_drew1) | exact HB.out)))); have n1_ := Aside0.mk (below_step (by repeat (first | (with_reducible first | exact HB.out | apply below_alloc | apply pw_below_drewN | apply below_drew1) | exact HB.out)) hb); clear HB; have HO203 := n0_; have HB := n1_; clear n0_ n1_; (try clear hb); (try clear hb2); (try clear hk); (try clear hi); (try clear ho0)) | ((with_reducible refine gate_dst (N := 5) rfl ?_); refine box_event ?hg (N := 5) ?hd (cs := #[.int .i64 0, .int .i64 0, .slice none 0 0]) (t := 29) ?hr ?_; (case hd => rfl); (case hg => rfl); (case hr => first | (go_simp; done) | (go_simp; rfl)); intro gb204 hg w9 hbox hb; have n0_ := Aside0.mk (Kd.N_below (Kd.N_elderB (by (with_reducible repeat (first | apply Kd.N_alloc | apply Kd.N_drewN | apply Kd.N_drew)); exact HO203.out) gb204 (Nat.le_of_eq hg.symm)) hb); have n1_ := Aside0.mk (below_step (by repeat (first | (with_reducible first | exact HB.out | apply below_alloc | apply pw_below_drewN | apply below_drew1) | exact HB.out)) hb); have n2_ := Aside0.mk (hbox); have n3_ := Aside0.mk ((by rw [hg]; exact (below_size (by repeat (first | (with_reducible first | exact HB.out | apply below_alloc | apply pw_below_drewN | apply below_drew1) | exact HB.out))) : w.heap.size ≤ gb204)); have n4_ := Aside0.mk ((by rw [hg]; exact (below_size (by repeat (first | (with_reducible first | exact HB.out | apply below_alloc | apply pw_below_drewN | apply below_drew1) | exact HB.out))) : w.heap.size ≤ gb204)); clear HO203; clear HB; have HO203 := n0_; have HB := n1_; have BK204 := n2_; have GW204 := n3_; have GE204 := n4_; clear n0_ n1_ n2_ n3_ n4_; clear hb hbox hg; have hcz10_0 : w9.cell? ⟨gb204, 0, none⟩ = some (.int .i64 0) := (blk_cell BK204.out 0).trans rfl; have hcz10_1 : w9.cell? ⟨gb204, 1, none⟩ = some (.int .i64 0) := (blk_cell BK204.out 1).trans rfl; have hcz10_2 : w9.cell? ⟨gb204, 2, none⟩ = some (.slice none 0 0) := (blk_cell BK204.out 2).trans rfl; have hfz10_0 := blk_frozen BK204.out 0; have hfz10_1 := blk_frozen BK204.out 1; have hfz10_2 := blk_frozen BK204.out 2; obtain ⟨Ao11, co11, eo11⟩ := Kd.N_slice HO203.out; subst eo11))
    go_loopg [6] k (fun kq v6 w' => ∃ (x6_1 : Int) (x205000_1 : Int) (x205001_1 : Int) (x205002_1 : List (S29)) (u205002 : Value), v6 = .int .i64 x6_1 ∧ Aside0 (thyrsuslaw12_RunDeep.l0 kq t198 a1 x6_1 x205000_1 x205001_1 x205002_1 = some r) ∧ Aside0 (kq ≤ k) ∧ Aside0 (Kd.V k29 29 w' w.heap.size (fun k_ => k_ ≠ gb204) u205002 x205002_1) ∧ Aside0 (w'.heap[gb204]? = some (.cells #[.int .i64 x205000_1, .int .i64 x205001_1, u205002] 29 (0, 0))) ∧ Aside0 (Below w.heap.size w w'))
    case atStart => exact ⟨(0), (t199), (t200), (t201), (.slice Ao11 t201.length co11), (by first | rfl | (simp; done) | (simp [*]; done)), H', ⟨Nat.le_refl _⟩, ⟨Kd.N_V (by (with_reducible repeat (first | apply Kd.N_alloc | apply Kd.N_drewN | apply Kd.N_drew)); exact Kd.N_mono (Kd.N_far (p := ⟨gb204, 2, none⟩) (Kd.N_far (p := ⟨gb204, 1, none⟩) (Kd.N_far (p := ⟨gb204, 0, none⟩) (Kd.N_mono HO203.out (fun k_ hk => (⟨hk, hk.2⟩ : _ ∧ k_ ≠ gb204))) (fun _ hk => hk.2) (.int .i64 t199)) (fun _ hk => hk.2) (.int .i64 t200)) (fun _ hk => hk.2) (.slice Ao11 t201.length co11)) (fun _ hk => hk.1.2))⟩, ⟨by (with_reducible repeat (first | refine blk_drewN ?_ _ | refine blk_drew ?_ | refine blk_alloc ?_ _)); refine blk_put (cs := #[.int .i64 t199, .int .i64 t200, .slice none 0 0]) ?_ 2 _ rfl; (with_reducible repeat (first | refine blk_drewN ?_ _ | refine blk_drew ?_ | refine blk_alloc ?_ _)); refine blk_put (cs := #[.int .i64 t199, .int .i64 0, .slice none 0 0]) ?_ 1 _ rfl; (with_reducible repeat (first | refine blk_drewN ?_ _ | refine blk_drew ?_ | refine blk_alloc ?_ _)); refine blk_put (cs := #[.int .i64 0, .int .i64 0, .slice none 0 0]) ?_ 0 _ rfl; (with_reducible repeat (first | refine blk_drewN ?_ _ | refine blk_drew ?_ | refine blk_alloc ?_ _)); exact BK204.out⟩, ⟨by repeat (first | (with_reducible first | exact HB.out | apply below_alloc | apply pw_below_drewN | apply below_drew1 | refine below_set ?_ GE204.out) | exact HB.out)⟩⟩
    case round =>
      clear H'
      try clear c1
      try clear p2
      try clear c4
      try clear c5
      try clear c9
      try clear hcz10_0
      try clear hcz10_1
      try clear hcz10_2
      try clear hfz10_0
      try clear hfz10_1
      try clear hfz10_2
      try clear HO_205002
      try clear BK204
      try clear HB
      obtain ⟨x6_1, x205000_1, x205001_1, x205002_1, u205002, rfl, HA, HK1, HO_205002, BK204, HB⟩ := hrel
      cases gk with
      | zero => exact absurd HA.out (by simp [thyrsuslaw12_RunDeep.l0])
      | succ k1 =>
        have H := HA.out
        clear HA
        simp only [thyrsuslaw12_RunDeep.l0] at H
        by_cases c12 : x6_1 < t198
        · rw [if_pos c12] at H
          have c12b0 : decide (x6_1 < t198) = true := decide_eq_true c12
          clear c12
          replace H := Option.bind_eq_some_iff.mp H
          obtain ⟨⟨t205, t206, t207⟩, A130, H⟩ := H
          replace H : ((thyrsusref4_V.f 0).bind fun bt210 => ((thyrsusref4_T.f 22 (([(⟨t205, t206, t207⟩ : S29), (⟨bt210.1, bt210.2.1, bt210.2.2⟩ : S29)] : List (S29)))).bind fun bt218 => ((thyrsusref4_T.f 28 (([(⟨bt218.1, bt218.2.1, bt218.2.2⟩ : S29), (⟨x205000_1, x205001_1, x205002_1⟩ : S29)] : List (S29)))).bind fun bt226 => (thyrsuslaw12_RunDeep.l0 k1 t198 a1 (wrap64 (x6_1 + 1)) bt226.1 bt226.2.1 bt226.2.2)))) = some r := H
          have A13 := Aside0.mk A130
          clear A130
          replace H := Option.bind_eq_some_iff.mp H
          obtain ⟨⟨t210, t211, t212⟩, A140, H⟩ := H
          replace H : ((thyrsusref4_T.f 22 (([(⟨t205, t206, t207⟩ : S29), (⟨t210, t211, t212⟩ : S29)] : List (S29)))).bind fun bt218 => ((thyrsusref4_T.f 28 (([(⟨bt218.1, bt218.2.1, bt218.2.2⟩ : S29), (⟨x205000_1, x205001_1, x205002_1⟩ : S29)] : List (S29)))).bind fun bt226 => (thyrsuslaw12_RunDeep.l0 k1 t198 a1 (wrap64 (x6_1 + 1)) bt226.1 bt226.2.1 bt226.2.2))) = some r := H
          have A14 := Aside0.mk A140
          clear A140
          obtain ⟨y215, hy215⟩ : ∃ y_ : List (S29), y_ = (([(⟨t205, t206, t207⟩ : S29), (⟨t210, t211, t212⟩ : S29)] : List (S29))) := ⟨_, rfl⟩
          replace H : ((thyrsusref4_T.f 22 y215).bind fun bt218 => ((thyrsusref4_T.f 28 (([(⟨bt218.1, bt218.2.1, bt218.2.2⟩ : S29), (⟨x205000_1, x205001_1, x205002_1⟩ : S29)] : List (S29)))).bind fun bt226 => (thyrsuslaw12_RunDeep.l0 k1 t198 a1 (wrap64 (x6_1 + 1)) bt226.1 bt226.2.1 bt226.2.2))) = some r := by first | (rw [hy215]; with_reducible exact H) | (have H2_ := (Option.bind_some _ _).symm.trans H; rw [hy215]; with_reducible exact H2_) | (have H2_ := (Option.bind_some _ _).symm.trans H; with_reducible exact H2_) | with_reducible exact H | (rw [hy215]; exact H) | exact H
          have Ny215 := Aside0.mk hy215
          clear hy215
          replace H := Option.bind_eq_some_iff.mp H
          obtain ⟨⟨t218, t219, t220⟩, A150, H⟩ := H
          replace H : ((thyrsusref4_T.f 28 (([(⟨t218, t219, t220⟩ : S29), (⟨x205000_1, x205001_1, x205002_1⟩ : S29)] : List (S29)))).bind fun bt226 => (thyrsuslaw12_RunDeep.l0 k1 t198 a1 (wrap64 (x6_1 + 1)) bt226.1 bt226.2.1 bt226.2.2)) = some r := H
          have A15 := Aside0.mk A150
          clear A150
          obtain ⟨y223, hy223⟩ : ∃ y_ : List (S29), y_ = (([(⟨t218, t219, t220⟩ : S29), (⟨x205000_1, x205001_1, x205002_1⟩ : S29)] : List (S29))) := ⟨_, rfl⟩
          replace H : ((thyrsusref4_T.f 28 y223).bind fun bt226 => (thyrsuslaw12_RunDeep.l0 k1 t198 a1 (wrap64 (x6_1 + 1)) bt226.1 bt226.2.1 bt226.2.2)) = some r := by first | (rw [hy223]; with_reducible exact H) | (have H2_ := (Option.bind_some _ _).symm.trans H; rw [hy223]; with_reducible exact H2_) | (have H2_ := (Option.bind_some _ _).symm.trans H; with_reducible exact H2_) | with_reducible exact H | (rw [hy223]; exact H) | exact H
          have Ny223 := Aside0.mk hy223
          clear hy223
          replace H := Option.bind_eq_some_iff.mp H
          obtain ⟨⟨t226, t227, t228⟩, A160, H⟩ := H
          replace H : (thyrsuslaw12_RunDeep.l0 k1 t198 a1 (wrap64 (x6_1 + 1)) t226 t227 t228) = some r := H
          have A16 := Aside0.mk A160
          clear A160
          have H' := Aside0.mk H
          clear H
          try go_wp2
          have n0_ := Aside0.mk (Kd.V_drew HO_205002.out)
          have n1_ := Aside0.mk (blk_drew BK204.out)
          have n2_ := Aside0.mk (below_drew1 HB.out)
          clear HO_205002
          clear BK204
          clear HB
          have HO_205002 := n0_
          have BK204 := n1_
          have HB := n2_
          clear n0_ n1_ n2_
          refine start_ (n := 8) (S := fun w' => w'.cell? ⟨gb204, 0, none⟩ = some (.int .i64 x205000_1) ∧ w'.cell? ⟨gb204, 1, none⟩ = some (.int .i64 x205001_1) ∧ w'.cell? ⟨gb204, 2, none⟩ = some (u205002)) (ds := [7]) #[false, false, false, false, false, false, false, false] (by kernel_rfl) rfl rfl ⟨(blk_cell BK204.out 0).trans rfl, (blk_cell BK204.out 1).trans rfl, (blk_cell BK204.out 2).trans rfl⟩ (fun hHeld => ?_); refine with_tabW thyrsuslaw12_RunDeep.tab8 thyrsuslaw12_RunDeep.bits8 (fun HT_ HW_ => ?_)
          generalize wr.drew = w17 at HO_205002 BK204 HB hHeld ⊢
          refine take_ (i := 4) (N := some 26) (v := ?_) (a' := ?_) #[false, false, false, false, true, false, false, false] rfl rfl (take_ofW HT_.out HW_.out (by kernel_rfl)) (fun _ _ _ h => h) (Or.inl ⟨by rfl, ?_⟩) hHeld ?_ ?_
          rotate_left
          · rintro w' ⟨s0, s1, s2⟩
            go_simp
            with_reducible rfl
          rotate_left
          · simp only [Act.put, List.setIfInBounds_toArray, List.set_cons_zero, List.set_cons_succ, i64_w, i32_w, u8_w, u32_w]
            rfl
          refine one_ (i := 0) (N := some 22) #[true, false, false, false, true, false, false, false] rfl rfl (one_of HT_.out (by kernel_rfl)) (by decide) (fun K hK => ?_)
          refine goes_ Try.func17 (by kernel_rfl) rfl #[.int .i64 0] (by rfl) rfl rfl (by (try simp only [List.map_toArray, List.map_cons, List.map_nil]); first | done | rfl | (simp only [List.length_drop, List.length_take]; rfl)) ?_
          with_reducible refine (thyrsusref4_V.calls 0 t205 t206 t207 _ A13.out).mono ?_
          rintro e w18 ⟨v208, rfl, ho0, hb⟩
          refine ⟨_, rfl, ?_⟩
          have n0_ := Aside0.mk (Kd.V_elder' (by (with_reducible repeat (first | apply Kd.V_alloc | apply Kd.V_drewN | apply Kd.V_drew)); exact HO_205002.out) (by first | exact Kd.N_base ho0 | exact Kd.N_base (Kd.R_N ho0)) hb)
          have n1_ := Aside0.mk (Kd.N_lower (Kd.N_mono (ok' := fun k_ => k_ ≠ gb204) (Kd.R_N (Kd.R_bound ho0)) (fun k_ hk_ => (Kd.freshB (g := gb204) (o := .cells #[.int .i64 x205000_1, .int .i64 x205001_1, u205002] 29 (0, 0)) (by (with_reducible repeat (first | refine blk_drewN ?_ _ | refine blk_drew ?_ | refine blk_alloc ?_ _)); exact BK204.out) k_ hk_.2.1))) (below_size (by repeat (first | (with_reducible first | exact HB.out | apply below_alloc | apply pw_below_drewN | apply below_drew1 | refine below_set ?_ GE204.out) | exact HB.out))))
          have n2_ := Aside0.mk (blk_below (g := gb204) (o := .cells #[.int .i64 x205000_1, .int .i64 x205001_1, u205002] 29 (0, 0)) (by (with_reducible repeat (first | refine blk_drewN ?_ _ | refine blk_drew ?_ | refine blk_alloc ?_ _)); exact BK204.out) hb)
          have n3_ := Aside0.mk (below_step (by repeat (first | (with_reducible first | exact HB.out | apply below_alloc | apply pw_below_drewN | apply below_drew1 | refine below_set ?_ GE204.out) | exact HB.out)) hb)
          clear HO_205002
          clear BK204
          clear HB
          have HO_205002 := n0_
          have HO209 := n1_
          have BK204 := n2_
          have HB := n3_
          clear n0_ n1_ n2_ n3_
          (try clear hb)
          (try clear hb2)
          (try clear hk)
          (try clear hi)
          (try clear ho0)
          refine hK.out _ _ ⟨(blk_cell BK204.out 0).trans rfl, (blk_cell BK204.out 1).trans rfl, (blk_cell BK204.out 2).trans rfl⟩ (fun hHeld => ?_)
          clear hK K
          refine norm_ (a' := ?_) ?_ ?_
          rotate_left
          · show Act.put _ (some 22) _ = _
            simp only [Act.put, List.setIfInBounds_toArray, List.set_cons_zero, List.set_cons_succ, i64_w, i32_w, u8_w, u32_w]
            rfl
          refine one_ (i := 1) (N := some 23) #[true, true, false, false, true, false, false, false] rfl rfl (one_of HT_.out (by kernel_rfl)) (by decide) (fun K hK => ?_)
          refine goes_ Try.func17 (by kernel_rfl) rfl #[.int .i64 0] (by rfl) rfl rfl (by (try simp only [List.map_toArray, List.map_cons, List.map_nil]); first | done | rfl | (simp only [List.length_drop, List.length_take]; rfl)) ?_
          with_reducible refine (thyrsusref4_V.calls 0 t210 t211 t212 _ A14.out).mono ?_
          rintro e w19 ⟨v213, rfl, ho0, hb⟩
          refine ⟨_, rfl, ?_⟩
          have n0_ := Aside0.mk (Kd.V_elder' (by (with_reducible repeat (first | apply Kd.V_alloc | apply Kd.V_drewN | apply Kd.V_drew)); exact HO_205002.out) (by first | exact Kd.N_base ho0 | exact Kd.N_base (Kd.R_N ho0)) hb)
          have n1_ := Aside0.mk (Kd.N_elder' (by (with_reducible repeat (first | apply Kd.N_alloc | apply Kd.N_drewN | apply Kd.N_drew)); exact HO209.out) (by first | exact Kd.N_base ho0 | exact Kd.N_base (Kd.R_N ho0)) hb)
          have n2_ := Aside0.mk (Kd.N_lower (Kd.N_mono (ok' := fun k_ => some k_ ≠ (v208 : Value).ownBlock ∧ k_ ≠ gb204) (Kd.R_N (Kd.R_bound ho0)) (fun k_ hk_ => ⟨(Kd.fresh' (Kd.N_lt (by (with_reducible repeat (first | apply Kd.N_alloc | apply Kd.N_drewN | apply Kd.N_drew)); exact HO209.out)) k_ hk_.2.1), (Kd.freshB (g := gb204) (o := .cells #[.int .i64 x205000_1, .int .i64 x205001_1, u205002] 29 (0, 0)) (by (with_reducible repeat (first | refine blk_drewN ?_ _ | refine blk_drew ?_ | refine blk_alloc ?_ _)); exact BK204.out) k_ hk_.2.1)⟩)) (below_size (by repeat (first | (with_reducible first | exact HB.out | apply below_alloc | apply pw_below_drewN | apply below_drew1 | refine below_set ?_ GE204.out) | exact HB.out))))
          have n3_ := Aside0.mk (blk_below (g := gb204) (o := .cells #[.int .i64 x205000_1, .int .i64 x205001_1, u205002] 29 (0, 0)) (by (with_reducible repeat (first | refine blk_drewN ?_ _ | refine blk_drew ?_ | refine blk_alloc ?_ _)); exact BK204.out) hb)
          have n4_ := Aside0.mk (below_step (by repeat (first | (with_reducible first | exact HB.out | apply below_alloc | apply pw_below_drewN | apply below_drew1 | refine below_set ?_ GE204.out) | exact HB.out)) hb)
          clear HO_205002
          clear HO209
          clear BK204
          clear HB
          have HO_205002 := n0_
          have HO209 := n1_
          have HO214 := n2_
          have BK204 := n3_
          have HB := n4_
          clear n0_ n1_ n2_ n3_ n4_
          (try clear hb)
          (try clear hb2)
          (try clear hk)
          (try clear hi)
          (try clear ho0)
          obtain ⟨Ao20, co20, eo20⟩ := Kd.N_slice HO209.out
          (first | subst eo20 | (injection eo20 with f1_ f2_ f3_; have f4_ := f1_.symm; have f5_ := f3_.symm; clear f1_ f2_ f3_; subst f4_; subst f5_))
          obtain ⟨Ao21, co21, eo21⟩ := Kd.N_slice HO214.out
          (first | subst eo21 | (injection eo21 with f1_ f2_ f3_; have f4_ := f1_.symm; have f5_ := f3_.symm; clear f1_ f2_ f3_; subst f4_; subst f5_))
          refine hK.out _ _ ⟨(blk_cell BK204.out 0).trans rfl, (blk_cell BK204.out 1).trans rfl, (blk_cell BK204.out 2).trans rfl⟩ (fun hHeld => ?_)
          clear hK K
          refine norm_ (a' := ?_) ?_ ?_
          rotate_left
          · show Act.put _ (some 23) _ = _
            simp only [Act.put, List.setIfInBounds_toArray, List.set_cons_zero, List.set_cons_succ, i64_w, i32_w, u8_w, u32_w]
            rfl
          refine one_ (i := 2) (N := some 24) #[true, true, true, false, true, false, false, false] rfl rfl (one_of HT_.out (by kernel_rfl)) (by decide) (fun K hK => ?_)
          refine Kd.N_lit_step k29 _ 29 ?hg (N' := 24) ?hd (xs := ([(⟨t205, t206, t207⟩ : S29), (⟨t210, t211, t212⟩ : S29)] : List (S29))) (inner := [.int .i64 t205, .int .i64 t206, .slice Ao20 t207.length co20, .int .i64 t210, .int .i64 t211, .slice Ao21 t212.length co21]) (ok := (fun k_ => k_ ≠ gb204)) (okp := (fun k_ => k_ ≠ gb204)) ?hr ?hp (fun _ hk => hk) ((show ∀ k_, w19.heap.size ≤ k_ → (fun k_ => k_ ≠ gb204) k_ from fun k_ hk => Kd.freshB (g := gb204) (o := .cells #[.int .i64 x205000_1, .int .i64 x205001_1, u205002] 29 (0, 0)) (by (with_reducible repeat (first | refine blk_drewN ?_ _ | refine blk_drew ?_ | refine blk_alloc ?_ _)); exact BK204.out) k_ hk) _ (Nat.le_refl _)) (Below.refl _ _) (Nat.le_refl _) (by simp) ?_; (case hd => rfl); (case hg => rfl); (case hr => first | (go_simp; done) | (go_simp; rfl)); (case hp => exact (Reps.c3 (show Kd.FK k29 _ _ (⟨t205, t206, t207⟩ : S29) [.int .i64 t205, .int .i64 t206, .slice Ao20 t207.length co20] from (k29_mkF _ _ (⟨t205, t206, t207⟩ : S29) (Kd.N_reads' (Kd.N_mono (ok' := (fun k_ => k_ ≠ gb204)) (HO209.out) (fun k_ hk => hk.1))).2.1 (Kd.N_F (Kd.N_mono (ok' := (fun k_ => k_ ≠ gb204)) (HO209.out) (fun k_ hk => hk.1))))) (Reps.c3 (show Kd.FK k29 _ _ (⟨t210, t211, t212⟩ : S29) [.int .i64 t210, .int .i64 t211, .slice Ao21 t212.length co21] from (k29_mkF _ _ (⟨t210, t211, t212⟩ : S29) (Kd.N_reads' (Kd.N_mono (ok' := (fun k_ => k_ ≠ gb204)) (HO214.out) (fun k_ hk => hk.2))).2.1 (Kd.N_F (Kd.N_mono (ok' := (fun k_ => k_ ≠ gb204)) (HO214.out) (fun k_ hk => hk.2))))) (Reps.none _ _))))
          intro v216 w22 ho23 hb hg_ hnew_
          clear hg_ hnew_
          (first | rw [← Ny215.out] at ho23 | (simp only [Int.reduceToNat] at ho23; rw [← Ny215.out] at ho23))
          have n0_ := Aside0.mk (Kd.V_elder' (by (with_reducible repeat (first | apply Kd.V_alloc | apply Kd.V_drewN | apply Kd.V_drew)); exact HO_205002.out) (Kd.N_base ho23) hb)
          have n1_ := Aside0.mk (Kd.N_lower ho23 (below_size (by repeat (first | (with_reducible first | exact HB.out | apply below_alloc | apply pw_below_drewN | apply below_drew1 | refine below_set ?_ GE204.out) | exact HB.out))))
          have n2_ := Aside0.mk (blk_below (g := gb204) (o := .cells #[.int .i64 x205000_1, .int .i64 x205001_1, u205002] 29 (0, 0)) (by (with_reducible repeat (first | refine blk_drewN ?_ _ | refine blk_drew ?_ | refine blk_alloc ?_ _)); exact BK204.out) hb)
          have n3_ := Aside0.mk (below_step (by repeat (first | (with_reducible first | exact HB.out | apply below_alloc | apply pw_below_drewN | apply below_drew1 | refine below_set ?_ GE204.out) | exact HB.out)) hb)
          clear HO_205002
          clear BK204
          clear HB
          clear HO209
          clear HO214
          have HO_205002 := n0_
          have HO217 := n1_
          have BK204 := n2_
          have HB := n3_
          clear n0_ n1_ n2_ n3_
          clear hb ho23
          obtain ⟨Ao24, co24, eo24⟩ := Kd.N_slice HO217.out
          (first | subst eo24 | (injection eo24 with f1_ f2_ f3_; have f4_ := f1_.symm; have f5_ := f3_.symm; clear f1_ f2_ f3_; subst f4_; subst f5_))
          refine hK.out _ _ ⟨(blk_cell BK204.out 0).trans rfl, (blk_cell BK204.out 1).trans rfl, (blk_cell BK204.out 2).trans rfl⟩ (fun hHeld => ?_)
          clear hK K
          refine norm_ (a' := ?_) ?_ ?_
          rotate_left
          · show Act.put _ (some 24) _ = _
            simp only [Act.put, List.setIfInBounds_toArray, List.set_cons_zero, List.set_cons_succ, i64_w, i32_w, u8_w, u32_w]
            rfl
          refine one_ (i := 3) (N := some 25) #[true, true, true, true, true, false, false, false] rfl rfl (one_of HT_.out (by kernel_rfl)) (by decide) (fun K hK => ?_)
          refine goes_ Try.func18 (by kernel_rfl) rfl #[.int .i64 22, .slice Ao24 y215.length co24] (by rfl) rfl rfl (by (try simp only [List.map_toArray, List.map_cons, List.map_nil]); first | done | rfl | (simp only [List.length_drop, List.length_take]; rfl)) ?_
          with_reducible refine (thyrsusref4_T.calls 22 (fun k_ => k_ ≠ gb204) _ _ y215 t218 t219 t220 _ ?side1 A15.out).mono ?_
          (case side1 => exact Kd.N_V (HO217.out))
          rintro e w25 ⟨v221, rfl, ho0, hb⟩
          refine ⟨_, rfl, ?_⟩
          have n0_ := Aside0.mk (Kd.V_below (by (with_reducible repeat (first | apply Kd.V_alloc | apply Kd.V_drewN | apply Kd.V_drew)); exact HO_205002.out) hb)
          have n1_ := Aside0.mk (Kd.N_below (by (with_reducible repeat (first | apply Kd.N_alloc | apply Kd.N_drewN | apply Kd.N_drew)); exact HO217.out) hb)
          have n2_ := Aside0.mk (Kd.V_lower (Kd.V_mono (ok' := fun k_ => k_ ≠ gb204) ho0 (fun k_ hk_ => Or.elim hk_ (fun hs_ => hs_) (fun hn_ => (Kd.freshB (g := gb204) (o := .cells #[.int .i64 x205000_1, .int .i64 x205001_1, u205002] 29 (0, 0)) (by (with_reducible repeat (first | refine blk_drewN ?_ _ | refine blk_drew ?_ | refine blk_alloc ?_ _)); exact BK204.out) k_ hn_)))) (below_size (by repeat (first | (with_reducible first | exact HB.out | apply below_alloc | apply pw_below_drewN | apply below_drew1 | refine below_set ?_ GE204.out) | exact HB.out))))
          have n3_ := Aside0.mk (blk_below (g := gb204) (o := .cells #[.int .i64 x205000_1, .int .i64 x205001_1, u205002] 29 (0, 0)) (by (with_reducible repeat (first | refine blk_drewN ?_ _ | refine blk_drew ?_ | refine blk_alloc ?_ _)); exact BK204.out) hb)
          have n4_ := Aside0.mk (below_step (by repeat (first | (with_reducible first | exact HB.out | apply below_alloc | apply pw_below_drewN | apply below_drew1 | refine below_set ?_ GE204.out) | exact HB.out)) hb)
          clear HO_205002
          clear HO217
          clear BK204
          clear HB
          have HO_205002 := n0_
          have HO217 := n1_
          have HO222 := n2_
          have BK204 := n3_
          have HB := n4_
          clear n0_ n1_ n2_ n3_ n4_
          (try clear hb)
          (try clear hb2)
          (try clear hk)
          (try clear hi)
          (try clear ho0)
          obtain ⟨Ao26, co26, eo26⟩ := Kd.V_slice HO222.out
          (first | subst eo26 | (injection eo26 with f1_ f2_ f3_; have f4_ := f1_.symm; have f5_ := f3_.symm; clear f1_ f2_ f3_; subst f4_; subst f5_))
          obtain ⟨Ao27, co27, eo27⟩ := Kd.V_slice HO_205002.out
          (first | subst eo27 | (injection eo27 with f1_ f2_ f3_; have f4_ := f1_.symm; have f5_ := f3_.symm; clear f1_ f2_ f3_; subst f4_; subst f5_))
          refine hK.out _ _ ⟨(blk_cell BK204.out 0).trans rfl, (blk_cell BK204.out 1).trans rfl, (blk_cell BK204.out 2).trans rfl⟩ (fun hHeld => ?_)
          clear hK K
          refine norm_ (a' := ?_) ?_ ?_
          rotate_left
          · show Act.put _ (some 25) _ = _
            simp only [Act.put, List.setIfInBounds_toArray, List.set_cons_zero, List.set_cons_succ, i64_w, i32_w, u8_w, u32_w]
            rfl
          refine one_ (i := 5) (N := some 27) #[true, true, true, true, true, true, false, false] rfl rfl (one_of HT_.out (by kernel_rfl)) (by decide) (fun K hK => ?_)
          refine Kd.N_lit_step k29 _ 29 ?hg (N' := 27) ?hd (xs := ([(⟨t218, t219, t220⟩ : S29), (⟨x205000_1, x205001_1, x205002_1⟩ : S29)] : List (S29))) (inner := [.int .i64 t218, .int .i64 t219, .slice Ao26 t220.length co26, .int .i64 x205000_1, .int .i64 x205001_1, .slice Ao27 x205002_1.length co27]) (ok := (fun k_ => k_ ≠ gb204)) (okp := (fun k_ => k_ ≠ gb204)) ?hr ?hp (fun _ hk => hk) ((show ∀ k_, w25.heap.size ≤ k_ → (fun k_ => k_ ≠ gb204) k_ from fun k_ hk => Kd.freshB (g := gb204) (o := .cells #[.int .i64 x205000_1, .int .i64 x205001_1, .slice Ao27 x205002_1.length co27] 29 (0, 0)) (by (with_reducible repeat (first | refine blk_drewN ?_ _ | refine blk_drew ?_ | refine blk_alloc ?_ _)); exact BK204.out) k_ hk) _ (Nat.le_refl _)) (Below.refl _ _) (Nat.le_refl _) (by simp) ?_; (case hd => rfl); (case hg => rfl); (case hr => first | (go_simp; done) | (go_simp; rfl)); (case hp => exact (Reps.c3 (show Kd.FK k29 _ _ (⟨t218, t219, t220⟩ : S29) [.int .i64 t218, .int .i64 t219, .slice Ao26 t220.length co26] from (k29_mkF _ _ (⟨t218, t219, t220⟩ : S29) (Kd.V_reads' (Kd.V_mono (ok' := (fun k_ => k_ ≠ gb204)) (HO222.out) (fun k_ hk => hk))).2.1 (Kd.V_F (Kd.V_mono (ok' := (fun k_ => k_ ≠ gb204)) (HO222.out) (fun k_ hk => hk))))) (Reps.c3 (show Kd.FK k29 _ _ (⟨x205000_1, x205001_1, x205002_1⟩ : S29) [.int .i64 x205000_1, .int .i64 x205001_1, .slice Ao27 x205002_1.length co27] from (k29_mkF _ _ (⟨x205000_1, x205001_1, x205002_1⟩ : S29) (Kd.V_reads' (Kd.V_mono (ok' := (fun k_ => k_ ≠ gb204)) (HO_205002.out) (fun k_ hk => hk.1.1.1))).2.1 (Kd.V_F (Kd.V_mono (ok' := (fun k_ => k_ ≠ gb204)) (HO_205002.out) (fun k_ hk => hk.1.1.1))))) (Reps.none _ _))))
          intro v224 w28 ho29 hb hg_ hnew_
          clear hg_ hnew_
          (first | rw [← Ny223.out] at ho29 | (simp only [Int.reduceToNat] at ho29; rw [← Ny223.out] at ho29))
          have n0_ := Aside0.mk (Kd.V_elder' (by (with_reducible repeat (first | apply Kd.V_alloc | apply Kd.V_drewN | apply Kd.V_drew)); exact HO_205002.out) (Kd.N_base ho29) hb)
          have n1_ := Aside0.mk (Kd.N_elder' (by (with_reducible repeat (first | apply Kd.N_alloc | apply Kd.N_drewN | apply Kd.N_drew)); exact HO217.out) (Kd.N_base ho29) hb)
          have n2_ := Aside0.mk (Kd.V_elder' (by (with_reducible repeat (first | apply Kd.V_alloc | apply Kd.V_drewN | apply Kd.V_drew)); exact HO222.out) (Kd.N_base ho29) hb)
          have n3_ := Aside0.mk (Kd.N_lower ho29 (below_size (by repeat (first | (with_reducible first | exact HB.out | apply below_alloc | apply pw_below_drewN | apply below_drew1 | refine below_set ?_ GE204.out) | exact HB.out))))
          have n4_ := Aside0.mk (blk_below (g := gb204) (o := .cells #[.int .i64 x205000_1, .int .i64 x205001_1, .slice Ao27 x205002_1.length co27] 29 (0, 0)) (by (with_reducible repeat (first | refine blk_drewN ?_ _ | refine blk_drew ?_ | refine blk_alloc ?_ _)); exact BK204.out) hb)
          have n5_ := Aside0.mk (below_step (by repeat (first | (with_reducible first | exact HB.out | apply below_alloc | apply pw_below_drewN | apply below_drew1 | refine below_set ?_ GE204.out) | exact HB.out)) hb)
          clear HO_205002
          clear HO217
          clear HO222
          clear BK204
          clear HB
          have HO_205002 := n0_
          have HO217 := n1_
          have HO222 := n2_
          have HO225 := n3_
          have BK204 := n4_
          have HB := n5_
          clear n0_ n1_ n2_ n3_ n4_ n5_
          clear hb ho29
          obtain ⟨Ao30, co30, eo30⟩ := Kd.N_slice HO225.out
          (first | subst eo30 | (injection eo30 with f1_ f2_ f3_; have f4_ := f1_.symm; have f5_ := f3_.symm; clear f1_ f2_ f3_; subst f4_; subst f5_))
          refine hK.out _ _ ⟨(blk_cell BK204.out 0).trans rfl, (blk_cell BK204.out 1).trans rfl, (blk_cell BK204.out 2).trans rfl⟩ (fun hHeld => ?_)
          clear hK K
          refine norm_ (a' := ?_) ?_ ?_
          rotate_left
          · show Act.put _ (some 27) _ = _
            simp only [Act.put, List.setIfInBounds_toArray, List.set_cons_zero, List.set_cons_succ, i64_w, i32_w, u8_w, u32_w]
            rfl
          refine one_ (i := 6) (N := some 28) #[true, true, true, true, true, true, true, false] rfl rfl (one_of HT_.out (by kernel_rfl)) (by decide) (fun K hK => ?_)
          refine goes_ Try.func18 (by kernel_rfl) rfl #[.int .i64 28, .slice Ao30 y223.length co30] (by rfl) rfl rfl (by (try simp only [List.map_toArray, List.map_cons, List.map_nil]); first | done | rfl | (simp only [List.length_drop, List.length_take]; rfl)) ?_
          with_reducible refine (thyrsusref4_T.calls 28 (fun k_ => k_ ≠ gb204) _ _ y223 t226 t227 t228 _ ?side1 A16.out).mono ?_
          (case side1 => exact Kd.N_V (HO225.out))
          rintro e w31 ⟨v229, rfl, ho0, hb⟩
          refine ⟨_, rfl, ?_⟩
          have n0_ := Aside0.mk (Kd.V_below (by (with_reducible repeat (first | apply Kd.V_alloc | apply Kd.V_drewN | apply Kd.V_drew)); exact HO_205002.out) hb)
          have n1_ := Aside0.mk (Kd.N_below (by (with_reducible repeat (first | apply Kd.N_alloc | apply Kd.N_drewN | apply Kd.N_drew)); exact HO217.out) hb)
          have n2_ := Aside0.mk (Kd.V_below (by (with_reducible repeat (first | apply Kd.V_alloc | apply Kd.V_drewN | apply Kd.V_drew)); exact HO222.out) hb)
          have n3_ := Aside0.mk (Kd.N_below (by (with_reducible repeat (first | apply Kd.N_alloc | apply Kd.N_drewN | apply Kd.N_drew)); exact HO225.out) hb)
          have n4_ := Aside0.mk (Kd.V_lower (Kd.V_mono (ok' := fun k_ => k_ ≠ gb204) ho0 (fun k_ hk_ => Or.elim hk_ (fun hs_ => hs_) (fun hn_ => (Kd.freshB (g := gb204) (o := .cells #[.int .i64 x205000_1, .int .i64 x205001_1, .slice Ao27 x205002_1.length co27] 29 (0, 0)) (by (with_reducible repeat (first | refine blk_drewN ?_ _ | refine blk_drew ?_ | refine blk_alloc ?_ _)); exact BK204.out) k_ hn_)))) (below_size (by repeat (first | (with_reducible first | exact HB.out | apply below_alloc | apply pw_below_drewN | apply below_drew1 | refine below_set ?_ GE204.out) | exact HB.out))))
          have n5_ := Aside0.mk (blk_below (g := gb204) (o := .cells #[.int .i64 x205000_1, .int .i64 x205001_1, .slice Ao27 x205002_1.length co27] 29 (0, 0)) (by (with_reducible repeat (first | refine blk_drewN ?_ _ | refine blk_drew ?_ | refine blk_alloc ?_ _)); exact BK204.out) hb)
          have n6_ := Aside0.mk (below_step (by repeat (first | (with_reducible first | exact HB.out | apply below_alloc | apply pw_below_drewN | apply below_drew1 | refine below_set ?_ GE204.out) | exact HB.out)) hb)
          clear HO_205002
          clear HO217
          clear HO222
          clear HO225
          clear BK204
          clear HB
          have HO_205002 := n0_
          have HO217 := n1_
          have HO222 := n2_
          have HO225 := n3_
          have HO230 := n4_
          have BK204 := n5_
          have HB := n6_
          clear n0_ n1_ n2_ n3_ n4_ n5_ n6_
          (try clear hb)
          (try clear hb2)
          (try clear hk)
          (try clear hi)
          (try clear ho0)
          obtain ⟨Ao34, co34, eo34⟩ := Kd.V_slice HO230.out
          (first | subst eo34 | (injection eo34 with f1_ f2_ f3_; have f4_ := f1_.symm; have f5_ := f3_.symm; clear f1_ f2_ f3_; subst f4_; subst f5_))
          refine hK.out _ _ ⟨(blk_cell BK204.out 0).trans rfl, (blk_cell BK204.out 1).trans rfl, (blk_cell BK204.out 2).trans rfl⟩ (fun hHeld => ?_)
          clear hK K
          refine norm_ (a' := ?_) ?_ ?_
          rotate_left
          · show Act.put _ (some 28) _ = _
            simp only [Act.put, List.setIfInBounds_toArray, List.set_cons_zero, List.set_cons_succ, i64_w, i32_w, u8_w, u32_w]
            rfl
          refine last_ (i := 7) (N := none) #[true, true, true, true, true, true, true, true] rfl rfl (one_of HT_.out (by kernel_rfl)) (by decide) (fun K hK => ?_)
          have hs32 : w31.cell? ⟨gb204, 0, none⟩ = some (.int .i64 x205000_1) := (blk_cell BK204.out 0).trans rfl
          have hfs32 := blk_frozen BK204.out 0
          have hs33 : w31.cell? ⟨gb204, 1, none⟩ = some (.int .i64 x205001_1) := (blk_cell BK204.out 1).trans rfl
          have hfs33 := blk_frozen BK204.out 1
          have hs35 : w31.cell? ⟨gb204, 2, none⟩ = some (.slice Ao27 x205002_1.length co27) := (blk_cell BK204.out 2).trans rfl
          have hfs35 := blk_frozen BK204.out 2
          refine skip_ (w1 := ?_) (by rfl) rfl ?_ ?_
          rotate_left
          · go_simp
            rfl
          refine hK.out _ _ ?_
          clear hK K
          refine done_ (done_of HT_.out (by kernel_rfl)) ?_
          try go_wp2
          go_roundg k1
          case measure => have := HK1.out; omega
          case rel => exact ⟨(wrap64 (x6_1 + 1)), (t226), (t227), (t228), (.slice Ao34 t228.length co34), (by first | rfl | (simp; done) | (simp [*]; done)), H', ⟨by have := HK1.out; omega⟩, ⟨by (with_reducible repeat (first | apply Kd.V_alloc | apply Kd.V_drewN | apply Kd.V_drew)); exact Kd.V_mono (Kd.V_far (p := ⟨gb204, 2, none⟩) (Kd.V_far (p := ⟨gb204, 1, none⟩) (Kd.V_far (p := ⟨gb204, 0, none⟩) (Kd.V_mono HO230.out (fun k_ hk => (⟨hk, hk⟩ : _ ∧ k_ ≠ gb204))) (fun _ hk => hk.2) (.int .i64 t226)) (fun _ hk => hk.2) (.int .i64 t227)) (fun _ hk => hk.2) (.slice Ao34 t228.length co34)) (fun _ hk => hk.1)⟩, ⟨by (with_reducible repeat (first | refine blk_drewN ?_ _ | refine blk_drew ?_ | refine blk_alloc ?_ _)); refine blk_put (cs := #[.int .i64 t226, .int .i64 t227, .slice Ao27 x205002_1.length co27]) ?_ 2 _ rfl; (with_reducible repeat (first | refine blk_drewN ?_ _ | refine blk_drew ?_ | refine blk_alloc ?_ _)); refine blk_put (cs := #[.int .i64 t226, .int .i64 x205001_1, .slice Ao27 x205002_1.length co27]) ?_ 1 _ rfl; (with_reducible repeat (first | refine blk_drewN ?_ _ | refine blk_drew ?_ | refine blk_alloc ?_ _)); refine blk_put (cs := #[.int .i64 x205000_1, .int .i64 x205001_1, .slice Ao27 x205002_1.length co27]) ?_ 0 _ rfl; (with_reducible repeat (first | refine blk_drewN ?_ _ | refine blk_drew ?_ | refine blk_alloc ?_ _)); exact BK204.out⟩, ⟨by repeat (first | (with_reducible first | exact HB.out | apply below_alloc | apply pw_below_drewN | apply below_drew1 | refine below_set ?_ GE204.out) | exact HB.out)⟩⟩
        · rw [if_neg c12] at H
          have c12b0 : decide (x6_1 < t198) = false := decide_eq_false c12
          clear c12
          replace H := Option.bind_eq_some_iff.mp H
          obtain ⟨⟨t231, t232, t233⟩, A360, H⟩ := H
          replace H : ((thyrsusref4_T.f 28 (([(⟨t231, t232, t233⟩ : S29), (⟨x205000_1, x205001_1, x205002_1⟩ : S29)] : List (S29)))).bind fun bt239 => ((run_Run.f k1 bt239.1 bt239.2.1 bt239.2.2 10).bind fun bt244 => (thyrsuslaw12_RunDeep.l1 k1 t198 bt244.2.2.2.1 bt244.2.2.2.2 0 bt244.1 bt244.2.1 bt244.2.2.1 1 a1 ([] : List (S34))))) = some r := H
          have A36 := Aside0.mk A360
          clear A360
          obtain ⟨y236, hy236⟩ : ∃ y_ : List (S29), y_ = (([(⟨t231, t232, t233⟩ : S29), (⟨x205000_1, x205001_1, x205002_1⟩ : S29)] : List (S29))) := ⟨_, rfl⟩
          replace H : ((thyrsusref4_T.f 28 y236).bind fun bt239 => ((run_Run.f k1 bt239.1 bt239.2.1 bt239.2.2 10).bind fun bt244 => (thyrsuslaw12_RunDeep.l1 k1 t198 bt244.2.2.2.1 bt244.2.2.2.2 0 bt244.1 bt244.2.1 bt244.2.2.1 1 a1 ([] : List (S34))))) = some r := by first | (rw [hy236]; with_reducible exact H) | (have H2_ := (Option.bind_some _ _).symm.trans H; rw [hy236]; with_reducible exact H2_) | (have H2_ := (Option.bind_some _ _).symm.trans H; with_reducible exact H2_) | with_reducible exact H | (rw [hy236]; exact H) | exact H
          have Ny236 := Aside0.mk hy236
          clear hy236
          replace H := Option.bind_eq_some_iff.mp H
          obtain ⟨⟨t239, t240, t241⟩, A370, H⟩ := H
          replace H : ((run_Run.f k1 t239 t240 t241 10).bind fun bt244 => (thyrsuslaw12_RunDeep.l1 k1 t198 bt244.2.2.2.1 bt244.2.2.2.2 0 bt244.1 bt244.2.1 bt244.2.2.1 1 a1 ([] : List (S34)))) = some r := H
          have A37 := Aside0.mk A370
          clear A370
          replace H := Option.bind_eq_some_iff.mp H
          obtain ⟨⟨t244, t245, t246, t249, t250⟩, A380, H⟩ := H
          replace H : (thyrsuslaw12_RunDeep.l1 k1 t198 t249 t250 0 t244 t245 t246 1 a1 ([] : List (S34))) = some r := H
          have A38 := Aside0.mk A380
          clear A380
          have H' := Aside0.mk H
          clear H
          try go_wp2
          have n0_ := Aside0.mk (Kd.V_drew HO_205002.out)
          have n1_ := Aside0.mk (blk_drew BK204.out)
          have n2_ := Aside0.mk (below_drew1 HB.out)
          clear HO_205002
          clear BK204
          clear HB
          have HO_205002 := n0_
          have BK204 := n1_
          have HB := n2_
          clear n0_ n1_ n2_
          refine start_ (n := 6) (S := fun w' => w'.cell? ⟨gb204, 0, none⟩ = some (.int .i64 x205000_1) ∧ w'.cell? ⟨gb204, 1, none⟩ = some (.int .i64 x205001_1) ∧ w'.cell? ⟨gb204, 2, none⟩ = some (u205002)) (ds := [5]) #[false, false, false, false, false, false] (by kernel_rfl) rfl rfl ⟨(blk_cell BK204.out 0).trans rfl, (blk_cell BK204.out 1).trans rfl, (blk_cell BK204.out 2).trans rfl⟩ (fun hHeld => ?_)
          generalize wr.drew = w39 at HO_205002 BK204 HB hHeld ⊢
          refine pure_ (i := 0) (N := some 29) (v := ?_) (a' := ?_) #[true, false, false, false, false, false] rfl rfl (by kernel_rfl) (fun _ _ _ h => h) (Or.inl ⟨by rfl, ?_⟩) ?_ ?_
          rotate_left
          · intro w'
            go_simp
            with_reducible rfl
          rotate_left
          · simp only [Act.put, List.setIfInBounds_toArray, List.set_cons_zero, List.set_cons_succ, i64_w, i32_w, u8_w, u32_w]
            rfl
          refine take_ (i := 2) (N := some 31) (v := ?_) (a' := ?_) #[true, false, true, false, false, false] rfl rfl (by kernel_rfl) (fun _ _ _ h => h) (Or.inl ⟨by rfl, ?_⟩) hHeld ?_ ?_
          rotate_left
          · rintro w' ⟨s0, s1, s2⟩
            go_simp
            with_reducible rfl
          rotate_left
          · simp only [Act.put, List.setIfInBounds_toArray, List.set_cons_zero, List.set_cons_succ, i64_w, i32_w, u8_w, u32_w]
            rfl
          refine one_ (i := 1) (N := some 30) #[true, true, true, false, false, false] rfl rfl (by kernel_rfl) (by decide) (fun K hK => ?_)
          refine goes_ Try.func16 (by kernel_rfl) rfl #[.int .i64 a1] (by rfl) rfl rfl (by (try simp only [List.map_toArray, List.map_cons, List.map_nil]); first | done | rfl | (simp only [List.length_drop, List.length_take]; rfl)) ?_
          with_reducible refine (thyrsusref4_Int.calls a1 t231 t232 t233 _ A36.out).mono ?_
          rintro e w40 ⟨v234, rfl, ho0, hb⟩
          refine ⟨_, rfl, ?_⟩
          have n0_ := Aside0.mk (Kd.V_elder' (by (with_reducible repeat (first | apply Kd.V_alloc | apply Kd.V_drewN | apply Kd.V_drew)); exact HO_205002.out) (by first | exact Kd.N_base ho0 | exact Kd.N_base (Kd.R_N ho0)) hb)
          have n1_ := Aside0.mk (Kd.N_lower (Kd.N_mono (ok' := fun k_ => k_ ≠ gb204) (Kd.R_N (Kd.R_bound ho0)) (fun k_ hk_ => (Kd.freshB (g := gb204) (o := .cells #[.int .i64 x205000_1, .int .i64 x205001_1, u205002] 29 (0, 0)) (by (with_reducible repeat (first | refine blk_drewN ?_ _ | refine blk_drew ?_ | refine blk_alloc ?_ _)); exact BK204.out) k_ hk_.2.1))) (below_size (by repeat (first | (with_reducible first | exact HB.out | apply below_alloc | apply pw_below_drewN | apply below_drew1 | refine below_set ?_ GE204.out) | exact HB.out))))
          have n2_ := Aside0.mk (blk_below (g := gb204) (o := .cells #[.int .i64 x205000_1, .int .i64 x205001_1, u205002] 29 (0, 0)) (by (with_reducible repeat (first | refine blk_drewN ?_ _ | refine blk_drew ?_ | refine blk_alloc ?_ _)); exact BK204.out) hb)
          have n3_ := Aside0.mk (below_step (by repeat (first | (with_reducible first | exact HB.out | apply below_alloc | apply pw_below_drewN | apply below_drew1 | refine below_set ?_ GE204.out) | exact HB.out)) hb)
          clear HO_205002
          clear BK204
          clear HB
          have HO_205002 := n0_
          have HO235 := n1_
          have BK204 := n2_
          have HB := n3_
          clear n0_ n1_ n2_ n3_
          (try clear hb)
          (try clear hb2)
          (try clear hk)
          (try clear hi)
          (try clear ho0)
          obtain ⟨Ao41, co41, eo41⟩ := Kd.N_slice HO235.out
          (first | subst eo41 | (injection eo41 with f1_ f2_ f3_; have f4_ := f1_.symm; have f5_ := f3_.symm; clear f1_ f2_ f3_; subst f4_; subst f5_))
          obtain ⟨Ao42, co42, eo42⟩ := Kd.V_slice HO_205002.out
          (first | subst eo42 | (injection eo42 with f1_ f2_ f3_; have f4_ := f1_.symm; have f5_ := f3_.symm; clear f1_ f2_ f3_; subst f4_; subst f5_))
          refine hK.out _ _ ⟨(blk_cell BK204.out 0).trans rfl, (blk_cell BK204.out 1).trans rfl, (blk_cell BK204.out 2).trans rfl⟩ (fun hHeld => ?_)
          clear hK K
          refine norm_ (a' := ?_) ?_ ?_
          rotate_left
          · show Act.put _ (some 30) _ = _
            simp only [Act.put, List.setIfInBounds_toArray, List.set_cons_zero, List.set_cons_succ, i64_w, i32_w, u8_w, u32_w]
            rfl
          refine one_ (i := 3) (N := some 32) #[true, true, true, true, false, false] rfl rfl (by kernel_rfl) (by decide) (fun K hK => ?_)
          refine Kd.N_lit_step k29 _ 29 ?hg (N' := 32) ?hd (xs := ([(⟨t231, t232, t233⟩ : S29), (⟨x205000_1, x205001_1, x205002_1⟩ : S29)] : List (S29))) (inner := [.int .i64 t231, .int .i64 t232, .slice Ao41 t233.length co41, .int .i64 x205000_1, .int .i64 x205001_1, .slice Ao42 x205002_1.length co42]) (ok := (fun k_ => k_ ≠ gb204)) (okp := (fun k_ => k_ ≠ gb204)) ?hr ?hp (fun _ hk => hk) ((show ∀ k_, w40.heap.size ≤ k_ → (fun k_ => k_ ≠ gb204) k_ from fun k_ hk => Kd.freshB (g := gb204) (o := .cells #[.int .i64 x205000_1, .int .i64 x205001_1, .slice Ao42 x205002_1.length co42] 29 (0, 0)) (by (with_reducible repeat (first | refine blk_drewN ?_ _ | refine blk_drew ?_ | refine blk_alloc ?_ _)); exact BK204.out) k_ hk) _ (Nat.le_refl _)) (Below.refl _ _) (Nat.le_refl _) (by simp) ?_; (case hd => rfl); (case hg => rfl); (case hr => first | (go_simp; done) | (go_simp; rfl)); (case hp => exact (Reps.c3 (show Kd.FK k29 _ _ (⟨t231, t232, t233⟩ : S29) [.int .i64 t231, .int .i64 t232, .slice Ao41 t233.length co41] from (k29_mkF _ _ (⟨t231, t232, t233⟩ : S29) (Kd.N_reads' (Kd.N_mono (ok' := (fun k_ => k_ ≠ gb204)) (HO235.out) (fun k_ hk => hk))).2.1 (Kd.N_F (Kd.N_mono (ok' := (fun k_ => k_ ≠ gb204)) (HO235.out) (fun k_ hk => hk))))) (Reps.c3 (show Kd.FK k29 _ _ (⟨x205000_1, x205001_1, x205002_1⟩ : S29) [.int .i64 x205000_1, .int .i64 x205001_1, .slice Ao42 x205002_1.length co42] from (k29_mkF _ _ (⟨x205000_1, x205001_1, x205002_1⟩ : S29) (Kd.V_reads' (Kd.V_mono (ok' := (fun k_ => k_ ≠ gb204)) (HO_205002.out) (fun k_ hk => hk.1))).2.1 (Kd.V_F (Kd.V_mono (ok' := (fun k_ => k_ ≠ gb204)) (HO_205002.out) (fun k_ hk => hk.1))))) (Reps.none _ _))))
          intro v237 w43 ho44 hb hg_ hnew_
          clear hg_ hnew_
          (first | rw [← Ny236.out] at ho44 | (simp only [Int.reduceToNat] at ho44; rw [← Ny236.out] at ho44))
          have n0_ := Aside0.mk (Kd.V_elder' (by (with_reducible repeat (first | apply Kd.V_alloc | apply Kd.V_drewN | apply Kd.V_drew)); exact HO_205002.out) (Kd.N_base ho44) hb)
          have n1_ := Aside0.mk (Kd.N_lower ho44 (below_size (by repeat (first | (with_reducible first | exact HB.out | apply below_alloc | apply pw_below_drewN | apply below_drew1 | refine below_set ?_ GE204.out) | exact HB.out))))
          have n2_ := Aside0.mk (blk_below (g := gb204) (o := .cells #[.int .i64 x205000_1, .int .i64 x205001_1, .slice Ao42 x205002_1.length co42] 29 (0, 0)) (by (with_reducible repeat (first | refine blk_drewN ?_ _ | refine blk_drew ?_ | refine blk_alloc ?_ _)); exact BK204.out) hb)
          have n3_ := Aside0.mk (below_step (by repeat (first | (with_reducible first | exact HB.out | apply below_alloc | apply pw_below_drewN | apply below_drew1 | refine below_set ?_ GE204.out) | exact HB.out)) hb)
          clear HO_205002
          clear BK204
          clear HB
          clear HO235
          have HO_205002 := n0_
          have HO238 := n1_
          have BK204 := n2_
          have HB := n3_
          clear n0_ n1_ n2_ n3_
          clear hb ho44
          obtain ⟨Ao45, co45, eo45⟩ := Kd.N_slice HO238.out
          (first | subst eo45 | (injection eo45 with f1_ f2_ f3_; have f4_ := f1_.symm; have f5_ := f3_.symm; clear f1_ f2_ f3_; subst f4_; subst f5_))
          refine hK.out _ _ ⟨(blk_cell BK204.out 0).trans rfl, (blk_cell BK204.out 1).trans rfl, (blk_cell BK204.out 2).trans rfl⟩ (fun hHeld => ?_)
          clear hK K
          refine norm_ (a' := ?_) ?_ ?_
          rotate_left
          · show Act.put _ (some 32) _ = _
            simp only [Act.put, List.setIfInBounds_toArray, List.set_cons_zero, List.set_cons_succ, i64_w, i32_w, u8_w, u32_w]
            rfl
          refine one_ (i := 4) (N := some 33) #[true, true, true, true, true, false] rfl rfl (by kernel_rfl) (by decide) (fun K hK => ?_)
          refine goes_ Try.func18 (by kernel_rfl) rfl #[.int .i64 28, .slice Ao45 y236.length co45] (by rfl) rfl rfl (by (try simp only [List.map_toArray, List.map_cons, List.map_nil]); first | done | rfl | (simp only [List.length_drop, List.length_take]; rfl)) ?_
          with_reducible refine (thyrsusref4_T.calls 28 (fun k_ => k_ ≠ gb204) _ _ y236 t239 t240 t241 _ ?side1 A37.out).mono ?_
          (case side1 => exact Kd.N_V (HO238.out))
          rintro e w46 ⟨v242, rfl, ho0, hb⟩
          refine ⟨_, rfl, ?_⟩
          have n0_ := Aside0.mk (Kd.V_below (by (with_reducible repeat (first | apply Kd.V_alloc | apply Kd.V_drewN | apply Kd.V_drew)); exact HO_205002.out) hb)
          have n1_ := Aside0.mk (Kd.N_below (by (with_reducible repeat (first | apply Kd.N_alloc | apply Kd.N_drewN | apply Kd.N_drew)); exact HO238.out) hb)
          have n2_ := Aside0.mk (Kd.V_lower (Kd.V_mono (ok' := fun k_ => k_ ≠ gb204) ho0 (fun k_ hk_ => Or.elim hk_ (fun hs_ => hs_) (fun hn_ => (Kd.freshB (g := gb204) (o := .cells #[.int .i64 x205000_1, .int .i64 x205001_1, .slice Ao42 x205002_1.length co42] 29 (0, 0)) (by (with_reducible repeat (first | refine blk_drewN ?_ _ | refine blk_drew ?_ | refine blk_alloc ?_ _)); exact BK204.out) k_ hn_)))) (below_size (by repeat (first | (with_reducible first | exact HB.out | apply below_alloc | apply pw_below_drewN | apply below_drew1 | refine below_set ?_ GE204.out) | exact HB.out))))
          have n3_ := Aside0.mk (blk_below (g := gb204) (o := .cells #[.int .i64 x205000_1, .int .i64 x205001_1, .slice Ao42 x205002_1.length co42] 29 (0, 0)) (by (with_reducible repeat (first | refine blk_drewN ?_ _ | refine blk_drew ?_ | refine blk_alloc ?_ _)); exact BK204.out) hb)
          have n4_ := Aside0.mk (below_step (by repeat (first | (with_reducible first | exact HB.out | apply below_alloc | apply pw_below_drewN | apply below_drew1 | refine below_set ?_ GE204.out) | exact HB.out)) hb)
          clear HO_205002
          clear HO238
          clear BK204
          clear HB
          have HO_205002 := n0_
          have HO238 := n1_
          have HO243 := n2_
          have BK204 := n3_
          have HB := n4_
          clear n0_ n1_ n2_ n3_ n4_
          (try clear hb)
          (try clear hb2)
          (try clear hk)
          (try clear hi)
          (try clear ho0)
          obtain ⟨Ao49, co49, eo49⟩ := Kd.V_slice HO243.out
          (first | subst eo49 | (injection eo49 with f1_ f2_ f3_; have f4_ := f1_.symm; have f5_ := f3_.symm; clear f1_ f2_ f3_; subst f4_; subst f5_))
          refine hK.out _ _ ⟨(blk_cell BK204.out 0).trans rfl, (blk_cell BK204.out 1).trans rfl, (blk_cell BK204.out 2).trans rfl⟩ (fun hHeld => ?_)
          clear hK K
          refine norm_ (a' := ?_) ?_ ?_
          rotate_left
          · show Act.put _ (some 33) _ = _
            simp only [Act.put, List.setIfInBounds_toArray, List.set_cons_zero, List.set_cons_succ, i64_w, i32_w, u8_w, u32_w]
            rfl
          refine last_ (i := 5) (N := none) #[true, true, true, true, true, true] rfl rfl (by kernel_rfl) (by decide) (fun K hK => ?_)
          have hs47 : w46.cell? ⟨gb204, 0, none⟩ = some (.int .i64 x205000_1) := (blk_cell BK204.out 0).trans rfl
          have hfs47 := blk_frozen BK204.out 0
          have hs48 : w46.cell? ⟨gb204, 1, none⟩ = some (.int .i64 x205001_1) := (blk_cell BK204.out 1).trans rfl
          have hfs48 := blk_frozen BK204.out 1
          have hs50 : w46.cell? ⟨gb204, 2, none⟩ = some (.slice Ao42 x205002_1.length co42) := (blk_cell BK204.out 2).trans rfl
          have hfs50 := blk_frozen BK204.out 2
          refine skip_ (w1 := ?_) (by rfl) rfl ?_ ?_
          rotate_left
          · go_simp
            rfl
          refine hK.out _ _ ?_
          clear hK K
          refine done_ (by kernel_rfl) ?_
          have hcz51_0 : w46.cell? ⟨gb204, 0, none⟩ = some (.int .i64 x205000_1) := (blk_cell BK204.out 0).trans rfl
          have hcz51_1 : w46.cell? ⟨gb204, 1, none⟩ = some (.int .i64 x205001_1) := (blk_cell BK204.out 1).trans rfl
          have hcz51_2 : w46.cell? ⟨gb204, 2, none⟩ = some (.slice Ao42 x205002_1.length co42) := (blk_cell BK204.out 2).trans rfl
          have hfz51_0 := blk_frozen BK204.out 0
          have hfz51_1 := blk_frozen BK204.out 1
          have hfz51_2 := blk_frozen BK204.out 2
          try go_wp2_with (first | ((with_reducible refine gate_callee (f := 12) rfl ?_); refine goesL_ (some 36) rfl rfl Try.func12 (by kernel_rfl) rfl #[.agg #[.int .i64 t239, .int .i64 t240, .slice Ao49 t241.length co49], .int .i64 10] rfl (by (try simp only [List.map_toArray, List.map_cons, List.map_nil]); first | done | rfl | (simp only [List.length_drop, List.length_take]; rfl)) ?_; (with_reducible refine (run_Run.calls k1 t239 t240 _ _ t241 10 t244 t245 t246 t249 t250 _ ?side1 ?side2 A38.out).mono ?_); (case side1 => refine (Kd.V_reads' (e := 29) (base := w.heap.size) (ok := fun k_ => k_ ≠ gb204) (n := t241.length) (c := co49) ?_).2.2; exact (by (with_reducible repeat (first | apply Kd.V_alloc | apply Kd.V_drewN | apply Kd.V_drew)); exact (Kd.V_mono (Kd.V_far (p := ⟨gb204, 2, none⟩) (Kd.V_far (p := ⟨gb204, 1, none⟩) (Kd.V_far (p := ⟨gb204, 0, none⟩) (Kd.V_mono HO243.out (fun k_ hk => (⟨hk, hk⟩ : _ ∧ k_ ≠ gb204))) (fun _ hk => hk.2) (.int .i64 t239)) (fun _ hk => hk.2) (.int .i64 t240)) (fun _ hk => hk.2) (.slice Ao49 t241.length co49)) (fun _ h_ => h_.1)))); (case side2 => exact (Kd.V_reads' HO243.out).2.1); rintro e w52 ⟨v247, rfl, ho0, hb⟩; refine ⟨_, rfl, ?_⟩; have n0_ := Aside0.mk (Kd.V_elder' (by (with_reducible repeat (first | apply Kd.V_alloc | apply Kd.V_drewN | apply Kd.V_drew)); exact (Kd.V_mono (Kd.V_far (p := ⟨gb204, 2, none⟩) (Kd.V_far (p := ⟨gb204, 1, none⟩) (Kd.V_far (p := ⟨gb204, 0, none⟩) (Kd.V_mono HO_205002.out (fun k_ hk => (⟨hk, hk.1.1⟩ : _ ∧ k_ ≠ gb204))) (fun _ hk => hk.2) (.int .i64 t239)) (fun _ hk => hk.2) (.int .i64 t240)) (fun _ hk => hk.2) (.slice Ao49 t241.length co49)) (fun _ h_ => h_.1))) (by first | exact Kd.N_base ho0 | exact Kd.N_base (Kd.R_N ho0)) hb); have n1_ := Aside0.mk (Kd.N_elder' (by (with_reducible repeat (first | apply Kd.N_alloc | apply Kd.N_drewN | apply Kd.N_drew)); exact (Kd.N_mono (Kd.N_far (p := ⟨gb204, 2, none⟩) (Kd.N_far (p := ⟨gb204, 1, none⟩) (Kd.N_far (p := ⟨gb204, 0, none⟩) (Kd.N_mono HO238.out (fun k_ hk => (⟨hk, hk⟩ : _ ∧ k_ ≠ gb204))) (fun _ hk => hk.2) (.int .i64 t239)) (fun _ hk => hk.2) (.int .i64 t240)) (fun _ hk => hk.2) (.slice Ao49 t241.length co49)) (fun _ h_ => h_.1))) (by first | exact Kd.N_base ho0 | exact Kd.N_base (Kd.R_N ho0)) hb); have n2_ := Aside0.mk (Kd.V_elder' (by (with_reducible repeat (first | apply Kd.V_alloc | apply Kd.V_drewN | apply Kd.V_drew)); exact (Kd.V_mono (Kd.V_far (p := ⟨gb204, 2, none⟩) (Kd.V_far (p := ⟨gb204, 1, none⟩) (Kd.V_far (p := ⟨gb204, 0, none⟩) (Kd.V_mono HO243.out (fun k_ hk => (⟨hk, hk⟩ : _ ∧ k_ ≠ gb204))) (fun _ hk => hk.2) (.int .i64 t239)) (fun _ hk => hk.2) (.int .i64 t240)) (fun _ hk => hk.2) (.slice Ao49 t241.length co49)) (fun _ h_ => h_.1))) (by first | exact Kd.N_base ho0 | exact Kd.N_base (Kd.R_N ho0)) hb); have n3_ := Aside0.mk (Kd.N_lower (Kd.N_mono (ok' := fun k_ => some k_ ≠ (.slice Ao45 y236.length co45 : Value).ownBlock ∧ k_ ≠ gb204) (Kd.R_N (Kd.R_bound ho0)) (fun k_ hk_ => ⟨(Kd.fresh' (Kd.N_lt (by (with_reducible repeat (first | apply Kd.N_alloc | apply Kd.N_drewN | apply Kd.N_drew)); exact (Kd.N_mono (Kd.N_far (p := ⟨gb204, 2, none⟩) (Kd.N_far (p := ⟨gb204, 1, none⟩) (Kd.N_far (p := ⟨gb204, 0, none⟩) (Kd.N_mono HO238.out (fun k_ hk => (⟨hk, hk⟩ : _ ∧ k_ ≠ gb204))) (fun _ hk => hk.2) (.int .i64 t239)) (fun _ hk => hk.2) (.int .i64 t240)) (fun _ hk => hk.2) (.slice Ao49 t241.length co49)) (fun _ h_ => h_.1)))) k_ hk_.2.1), (Kd.freshB (g := gb204) (o := .cells #[.int .i64 t239, .int .i64 t240, .slice Ao49 t241.length co49] 29 (0, 0)) (by (with_reducible repeat (first | refine blk_drewN ?_ _ | refine blk_drew ?_ | refine blk_alloc ?_ _)); refine blk_put (cs := #[.int .i64 t239, .int .i64 t240, .slice Ao42 x205002_1.length co42]) ?_ 2 _ rfl; (with_reducible repeat (first | refine blk_drewN ?_ _ | refine blk_drew ?_ | refine blk_alloc ?_ _)); refine blk_put (cs := #[.int .i64 t239, .int .i64 x205001_1, .slice Ao42 x205002_1.length co42]) ?_ 1 _ rfl; (with_reducible repeat (first | refine blk_drewN ?_ _ | refine blk_drew ?_ | refine blk_alloc ?_ _)); refine blk_put (cs := #[.int .i64 x205000_1, .int .i64 x205001_1, .slice Ao42 x205002_1.length co42]) ?_ 0 _ rfl; (with_reducible repeat (first | refine blk_drewN ?_ _ | refine blk_drew ?_ | refine blk_alloc ?_ _)); exact BK204.out) k_ hk_.2.1)⟩)) (below_size (by repeat (first | (with_reducible first | exact HB.out | apply below_alloc | apply pw_below_drewN | apply below_drew1 | refine below_set ?_ GE204.out) | exact HB.out)))); have n4_ := Aside0.mk (blk_below (g := gb204) (o := .cells #[.int .i64 t239, .int .i64 t240, .slice Ao49 t241.length co49] 29 (0, 0)) (by (with_reducible repeat (first | refine blk_drewN ?_ _ | refine blk_drew ?_ | refine blk_alloc ?_ _)); refine blk_put (cs := #[.int .i64 t239, .int .i64 t240, .slice Ao42 x205002_1.length co42]) ?_ 2 _ rfl; (with_reducible repeat (first | refine blk_drewN ?_ _ | refine blk_drew ?_ | refine blk_alloc ?_ _)); refine blk_put (cs := #[.int .i64 t239, .int .i64 x205001_1, .slice Ao42 x205002_1.length co42]) ?_ 1 _ rfl; (with_reducible repeat (first | refine blk_drewN ?_ _ | refine blk_drew ?_ | refine blk_alloc ?_ _)); refine blk_put (cs := #[.int .i64 x205000_1, .int .i64 x205001_1, .slice Ao42 x205002_1.length co42]) ?_ 0 _ rfl; (with_reducible repeat (first | refine blk_drewN ?_ _ | refine blk_drew ?_ | refine blk_alloc ?_ _)); exact BK204.out) hb); have n5_ := Aside0.mk (below_step (by repeat (first | (with_reducible first | exact HB.out | apply below_alloc | apply pw_below_drewN | apply below_drew1 | refine below_set ?_ GE204.out) | exact HB.out)) hb); clear HO_205002; clear HO238; clear HO243; clear BK204; clear HB; have HO_205002 := n0_; have HO238 := n1_; have HO243 := n2_; have HO248 := n3_; have BK204 := n4_; have HB := n5_; clear n0_ n1_ n2_ n3_ n4_ n5_; (try clear hb); (try clear hb2); (try clear hk); (try clear hi); (try clear ho0)) | ((with_reducible refine gate_dst (N := 7) rfl ?_); refine box_event ?hg (N := 7) ?hd (cs := #[.int .i64 0, .int .i64 0, .slice none 0 0]) (t := 34) ?hr ?_; (case hd => rfl); (case hg => rfl); (case hr => first | (go_simp; done) | (go_simp; rfl)); intro gb251 hg w53 hbox hb; have n0_ := Aside0.mk (Kd.V_below (Kd.V_elderB (by (with_reducible repeat (first | apply Kd.V_alloc | apply Kd.V_drewN | apply Kd.V_drew)); exact HO_205002.out) gb251 (Nat.le_of_eq hg.symm)) hb); have n1_ := Aside0.mk (Kd.N_below (Kd.N_elderB (by (with_reducible repeat (first | apply Kd.N_alloc | apply Kd.N_drewN | apply Kd.N_drew)); exact HO238.out) gb251 (Nat.le_of_eq hg.symm)) hb); have n2_ := Aside0.mk (Kd.V_below (Kd.V_elderB (by (with_reducible repeat (first | apply Kd.V_alloc | apply Kd.V_drewN | apply Kd.V_drew)); exact HO243.out) gb251 (Nat.le_of_eq hg.symm)) hb); have n3_ := Aside0.mk (Kd.N_below (Kd.N_elderB (by (with_reducible repeat (first | apply Kd.N_alloc | apply Kd.N_drewN | apply Kd.N_drew)); exact HO248.out) gb251 (Nat.le_of_eq hg.symm)) hb); have n4_ := Aside0.mk (blk_below (g := gb204) (o := .cells #[.int .i64 t239, .int .i64 t240, .slice Ao49 t241.length co49] 29 (0, 0)) (by (with_reducible repeat (first | refine blk_drewN ?_ _ | refine blk_drew ?_ | refine blk_alloc ?_ _)); exact BK204.out) hb); have n5_ := Aside0.mk (below_step (by repeat (first | (with_reducible first | exact HB.out | apply below_alloc | apply pw_below_drewN | apply below_drew1 | refine below_set ?_ GE204.out) | exact HB.out)) hb); have n6_ := Aside0.mk (hbox); have n7_ := Aside0.mk ((by rw [hg]; exact (below_size (by repeat (first | (with_reducible first | exact HB.out | apply below_alloc | apply pw_below_drewN | apply below_drew1 | refine below_set ?_ GE204.out) | exact HB.out))) : w.heap.size ≤ gb251)); have n8_ := Aside0.mk ((by rw [hg]; exact (below_size (by repeat (first | (with_reducible first | exact HB.out | apply below_alloc | apply pw_below_drewN | apply below_drew1 | refine below_set ?_ GE204.out) | exact HB.out))) : w.heap.size ≤ gb251)); have n9_ := Aside0.mk ((by rw [hg]; exact Nat.ne_of_lt (blk_lt (g := gb204) (o := .cells #[.int .i64 t239, .int .i64 t240, .slice Ao49 t241.length co49] 29 (0, 0)) (by (with_reducible repeat (first | refine blk_drewN ?_ _ | refine blk_drew ?_ | refine blk_alloc ?_ _)); exact BK204.out)) : gb204 ≠ gb251)); have n10_ := Aside0.mk ((by rw [hg]; exact Nat.ne_of_gt (blk_lt (g := gb204) (o := .cells #[.int .i64 t239, .int .i64 t240, .slice Ao49 t241.length co49] 29 (0, 0)) (by (with_reducible repeat (first | refine blk_drewN ?_ _ | refine blk_drew ?_ | refine blk_alloc ?_ _)); exact BK204.out)) : gb251 ≠ gb204)); clear HO_205002; clear HO238; clear HO243; clear HO248; clear BK204; clear HB; have HO_205002 := n0_; have HO238 := n1_; have HO243 := n2_; have HO248 := n3_; have BK204 := n4_; have HB := n5_; have BK251 := n6_; have GW251 := n7_; have GE251 := n8_; have NB204_251 := n9_; have NB251_204 := n10_; clear n0_ n1_ n2_ n3_ n4_ n5_ n6_ n7_ n8_ n9_ n10_; clear hb hbox hg; have hnb54 := NB251_204.out; have hnc54 := NB204_251.out; have hcz55_0 : w53.cell? ⟨gb251, 0, none⟩ = some (.int .i64 0) := (blk_cell BK251.out 0).trans rfl; have hcz55_1 : w53.cell? ⟨gb251, 1, none⟩ = some (.int .i64 0) := (blk_cell BK251.out 1).trans rfl; have hcz55_2 : w53.cell? ⟨gb251, 2, none⟩ = some (.slice none 0 0) := (blk_cell BK251.out 2).trans rfl; have hfz55_0 := blk_frozen BK251.out 0; have hfz55_1 := blk_frozen BK251.out 1; have hfz55_2 := blk_frozen BK251.out 2; obtain ⟨Ao56, co56, eo56⟩ := Kd.N_slice HO248.out; subst eo56) | ((with_reducible refine gate_dst (N := 10) rfl ?_); refine box_event ?hg (N := 10) ?hd (cs := #[.int .i64 0, .int .i64 0, .slice none 0 0]) (t := 34) ?hr ?_; (case hd => rfl); (case hg => rfl); (case hr => first | (go_simp; done) | (go_simp; rfl)); intro gb252 hg w57 hbox hb; have n0_ := Aside0.mk (Kd.V_below (Kd.V_elderB (by (with_reducible repeat (first | apply Kd.V_alloc | apply Kd.V_drewN | apply Kd.V_drew)); exact (Kd.V_mono (Kd.V_far (p := ⟨gb251, 2, none⟩) (Kd.V_far (p := ⟨gb251, 1, none⟩) (Kd.V_far (p := ⟨gb251, 0, none⟩) (Kd.V_mono HO_205002.out (fun k_ hk => (⟨hk, hk.2⟩ : _ ∧ k_ ≠ gb251))) (fun _ hk => hk.2) (.int .i64 t244)) (fun _ hk => hk.2) (.int .i64 t245)) (fun _ hk => hk.2) (.slice Ao56 t246.length co56)) (fun _ h_ => h_.1))) gb252 (Nat.le_of_eq hg.symm)) hb); have n1_ := Aside0.mk (Kd.N_below (Kd.N_elderB (by (with_reducible repeat (first | apply Kd.N_alloc | apply Kd.N_drewN | apply Kd.N_drew)); exact (Kd.N_mono (Kd.N_far (p := ⟨gb251, 2, none⟩) (Kd.N_far (p := ⟨gb251, 1, none⟩) (Kd.N_far (p := ⟨gb251, 0, none⟩) (Kd.N_mono HO238.out (fun k_ hk => (⟨hk, hk.2⟩ : _ ∧ k_ ≠ gb251))) (fun _ hk => hk.2) (.int .i64 t244)) (fun _ hk => hk.2) (.int .i64 t245)) (fun _ hk => hk.2) (.slice Ao56 t246.length co56)) (fun _ h_ => h_.1))) gb252 (Nat.le_of_eq hg.symm)) hb); have n2_ := Aside0.mk (Kd.V_below (Kd.V_elderB (by (with_reducible repeat (first | apply Kd.V_alloc | apply Kd.V_drewN | apply Kd.V_drew)); exact (Kd.V_mono (Kd.V_far (p := ⟨gb251, 2, none⟩) (Kd.V_far (p := ⟨gb251, 1, none⟩) (Kd.V_far (p := ⟨gb251, 0, none⟩) (Kd.V_mono HO243.out (fun k_ hk => (⟨hk, hk.2⟩ : _ ∧ k_ ≠ gb251))) (fun _ hk => hk.2) (.int .i64 t244)) (fun _ hk => hk.2) (.int .i64 t245)) (fun _ hk => hk.2) (.slice Ao56 t246.length co56)) (fun _ h_ => h_.1))) gb252 (Nat.le_of_eq hg.symm)) hb); have n3_ := Aside0.mk (Kd.N_below (Kd.N_elderB (by (with_reducible repeat (first | apply Kd.N_alloc | apply Kd.N_drewN | apply Kd.N_drew)); exact (Kd.N_mono (Kd.N_far (p := ⟨gb251, 2, none⟩) (Kd.N_far (p := ⟨gb251, 1, none⟩) (Kd.N_far (p := ⟨gb251, 0, none⟩) (Kd.N_mono HO248.out (fun k_ hk => (⟨hk, hk.2⟩ : _ ∧ k_ ≠ gb251))) (fun _ hk => hk.2) (.int .i64 t244)) (fun _ hk => hk.2) (.int .i64 t245)) (fun _ hk => hk.2) (.slice Ao56 t246.length co56)) (fun _ h_ => h_.1))) gb252 (Nat.le_of_eq hg.symm)) hb); have n4_ := Aside0.mk (blk_below (g := gb204) (o := .cells #[.int .i64 t239, .int .i64 t240, .slice Ao49 t241.length co49] 29 (0, 0)) (by (with_reducible repeat (first | refine blk_drewN ?_ _ | refine blk_drew ?_ | refine blk_alloc ?_ _)); refine blk_far ?_ NB204_251.out _; (with_reducible repeat (first | refine blk_drewN ?_ _ | refine blk_drew ?_ | refine blk_alloc ?_ _)); refine blk_far ?_ NB204_251.out _; (with_reducible repeat (first | refine blk_drewN ?_ _ | refine blk_drew ?_ | refine blk_alloc ?_ _)); refine blk_far ?_ NB204_251.out _; (with_reducible repeat (first | refine blk_drewN ?_ _ | refine blk_drew ?_ | refine blk_alloc ?_ _)); exact BK204.out) hb); have n5_ := Aside0.mk (blk_below (g := gb251) (o := .cells #[.int .i64 t244, .int .i64 t245, .slice Ao56 t246.length co56] 34 (0, 0)) (by (with_reducible repeat (first | refine blk_drewN ?_ _ | refine blk_drew ?_ | refine blk_alloc ?_ _)); refine blk_put (cs := #[.int .i64 t244, .int .i64 t245, .slice none 0 0]) ?_ 2 _ rfl; (with_reducible repeat (first | refine blk_drewN ?_ _ | refine blk_drew ?_ | refine blk_alloc ?_ _)); refine blk_put (cs := #[.int .i64 t244, .int .i64 0, .slice none 0 0]) ?_ 1 _ rfl; (with_reducible repeat (first | refine blk_drewN ?_ _ | refine blk_drew ?_ | refine blk_alloc ?_ _)); refine blk_put (cs := #[.int .i64 0, .int .i64 0, .slice none 0 0]) ?_ 0 _ rfl; (with_reducible repeat (first | refine blk_drewN ?_ _ | refine blk_drew ?_ | refine blk_alloc ?_ _)); exact BK251.out) hb); have n6_ := Aside0.mk (below_step (by repeat (first | (with_reducible first | exact HB.out | apply below_alloc | apply pw_below_drewN | apply below_drew1 | refine below_set ?_ GE204.out | refine below_set ?_ GE251.out) | exact HB.out)) hb); have n7_ := Aside0.mk (hbox); have n8_ := Aside0.mk ((by rw [hg]; exact (below_size (by repeat (first | (with_reducible first | exact HB.out | apply below_alloc | apply pw_below_drewN | apply below_drew1 | refine below_set ?_ GE204.out | refine below_set ?_ GE251.out) | exact HB.out))) : w.heap.size ≤ gb252)); have n9_ := Aside0.mk ((by rw [hg]; exact (below_size (by repeat (first | (with_reducible first | exact HB.out | apply below_alloc | apply pw_below_drewN | apply below_drew1 | refine below_set ?_ GE204.out | refine below_set ?_ GE251.out) | exact HB.out))) : w.heap.size ≤ gb252)); have n10_ := Aside0.mk ((by rw [hg]; exact Nat.ne_of_lt (blk_lt (g := gb204) (o := .cells #[.int .i64 t239, .int .i64 t240, .slice Ao49 t241.length co49] 29 (0, 0)) (by (with_reducible repeat (first | refine blk_drewN ?_ _ | refine blk_drew ?_ | refine blk_alloc ?_ _)); refine blk_far ?_ NB204_251.out _; (with_reducible repeat (first | refine blk_drewN ?_ _ | refine blk_drew ?_ | refine blk_alloc ?_ _)); refine blk_far ?_ NB204_251.out _; (with_reducible repeat (first | refine blk_drewN ?_ _ | refine blk_drew ?_ | refine blk_alloc ?_ _)); refine blk_far ?_ NB204_251.out _; (with_reducible repeat (first | refine blk_drewN ?_ _ | refine blk_drew ?_ | refine blk_alloc ?_ _)); exact BK204.out)) : gb204 ≠ gb252)); have n11_ := Aside0.mk ((by rw [hg]; exact Nat.ne_of_gt (blk_lt (g := gb204) (o := .cells #[.int .i64 t239, .int .i64 t240, .slice Ao49 t241.length co49] 29 (0, 0)) (by (with_reducible repeat (first | refine blk_drewN ?_ _ | refine blk_drew ?_ | refine blk_alloc ?_ _)); refine blk_far ?_ NB204_251.out _; (with_reducible repeat (first | refine blk_drewN ?_ _ | refine blk_drew ?_ | refine blk_alloc ?_ _)); refine blk_far ?_ NB204_251.out _; (with_reducible repeat (first | refine blk_drewN ?_ _ | refine blk_drew ?_ | refine blk_alloc ?_ _)); refine blk_far ?_ NB204_251.out _; (with_reducible repeat (first | refine blk_drewN ?_ _ | refine blk_drew ?_ | refine blk_alloc ?_ _)); exact BK204.out)) : gb252 ≠ gb204)); have n12_ := Aside0.mk ((by rw [hg]; exact Nat.ne_of_lt (blk_lt (g := gb251) (o := .cells #[.int .i64 t244, .int .i64 t245, .slice Ao56 t246.length co56] 34 (0, 0)) (by (with_reducible repeat (first | refine blk_drewN ?_ _ | refine blk_drew ?_ | refine blk_alloc ?_ _)); refine blk_put (cs := #[.int .i64 t244, .int .i64 t245, .slice none 0 0]) ?_ 2 _ rfl; (with_reducible repeat (first | refine blk_drewN ?_ _ | refine blk_drew ?_ | refine blk_alloc ?_ _)); refine blk_put (cs := #[.int .i64 t244, .int .i64 0, .slice none 0 0]) ?_ 1 _ rfl; (with_reducible repeat (first | refine blk_drewN ?_ _ | refine blk_drew ?_ | refine blk_alloc ?_ _)); refine blk_put (cs := #[.int .i64 0, .int .i64 0, .slice none 0 0]) ?_ 0 _ rfl; (with_reducible repeat (first | refine blk_drewN ?_ _ | refine blk_drew ?_ | refine blk_alloc ?_ _)); exact BK251.out)) : gb251 ≠ gb252)); have n13_ := Aside0.mk ((by rw [hg]; exact Nat.ne_of_gt (blk_lt (g := gb251) (o := .cells #[.int .i64 t244, .int .i64 t245, .slice Ao56 t246.length co56] 34 (0, 0)) (by (with_reducible repeat (first | refine blk_drewN ?_ _ | refine blk_drew ?_ | refine blk_alloc ?_ _)); refine blk_put (cs := #[.int .i64 t244, .int .i64 t245, .slice none 0 0]) ?_ 2 _ rfl; (with_reducible repeat (first | refine blk_drewN ?_ _ | refine blk_drew ?_ | refine blk_alloc ?_ _)); refine blk_put (cs := #[.int .i64 t244, .int .i64 0, .slice none 0 0]) ?_ 1 _ rfl; (with_reducible repeat (first | refine blk_drewN ?_ _ | refine blk_drew ?_ | refine blk_alloc ?_ _)); refine blk_put (cs := #[.int .i64 0, .int .i64 0, .slice none 0 0]) ?_ 0 _ rfl; (with_reducible repeat (first | refine blk_drewN ?_ _ | refine blk_drew ?_ | refine blk_alloc ?_ _)); exact BK251.out)) : gb252 ≠ gb251)); clear HO_205002; clear HO238; clear HO243; clear HO248; clear BK204; clear BK251; clear HB; have HO_205002 := n0_; have HO238 := n1_; have HO243 := n2_; have HO248 := n3_; have BK204 := n4_; have BK251 := n5_; have HB := n6_; have BK252 := n7_; have GW252 := n8_; have GE252 := n9_; have NB204_252 := n10_; have NB252_204 := n11_; have NB251_252 := n12_; have NB252_251 := n13_; clear n0_ n1_ n2_ n3_ n4_ n5_ n6_ n7_ n8_ n9_ n10_ n11_ n12_ n13_; clear hb hbox hg; have hnb58 := NB252_204.out; have hnc58 := NB204_252.out; have hnb59 := NB252_251.out; have hnc59 := NB251_252.out; have hcz60_0 : w57.cell? ⟨gb252, 0, none⟩ = some (.int .i64 0) := (blk_cell BK252.out 0).trans rfl; have hcz60_1 : w57.cell? ⟨gb252, 1, none⟩ = some (.int .i64 0) := (blk_cell BK252.out 1).trans rfl; have hcz60_2 : w57.cell? ⟨gb252, 2, none⟩ = some (.slice none 0 0) := (blk_cell BK252.out 2).trans rfl; have hfz60_0 := blk_frozen BK252.out 0; have hfz60_1 := blk_frozen BK252.out 1; have hfz60_2 := blk_frozen BK252.out 2))
          go_loopg [11] k1 (fun kq v11 w' => ∃ (x11_2 : Int) (x253000_2 : Int) (x253001_2 : Int) (x253002_2 : List (S34)) (u253002 : Value), v11 = .int .i64 x11_2 ∧ Aside0 (thyrsuslaw12_RunDeep.l1 kq t198 t249 t250 x11_2 t244 t245 t246 x253000_2 x253001_2 x253002_2 = some r) ∧ Aside0 (kq ≤ k1) ∧ Aside0 (Kd.V k29 29 w' w.heap.size (fun k_ => some k_ ≠ ((.slice Ao56 t246.length co56) : Value).ownBlock ∧ some k_ ≠ (u253002 : Value).ownBlock ∧ k_ ≠ gb204 ∧ k_ ≠ gb251 ∧ k_ ≠ gb252) (.slice Ao49 t241.length co49) t241) ∧ Aside0 (Kd.N k34 34 w' w.heap.size (fun k_ => some k_ ≠ (u253002 : Value).ownBlock ∧ k_ ≠ gb204 ∧ k_ ≠ gb251 ∧ k_ ≠ gb252) (.slice Ao56 t246.length co56) t246) ∧ Aside0 (Kd.N k34 34 w' w.heap.size (fun k_ => some k_ ≠ ((.slice Ao56 t246.length co56) : Value).ownBlock ∧ k_ ≠ gb204 ∧ k_ ≠ gb251 ∧ k_ ≠ gb252) u253002 x253002_2) ∧ Aside0 (w'.heap[gb204]? = some (.cells #[.int .i64 t239, .int .i64 t240, (.slice Ao49 t241.length co49)] 29 (0, 0))) ∧ Aside0 (w'.heap[gb251]? = some (.cells #[.int .i64 t244, .int .i64 t245, (.slice Ao56 t246.length co56)] 34 (0, 0))) ∧ Aside0 (w'.heap[gb252]? = some (.cells #[.int .i64 x253000_2, .int .i64 x253001_2, u253002] 34 (0, 0))) ∧ Aside0 (Below w.heap.size w w'))
          case atStart => exact ⟨(0), (1), (a1), (([] : List (S34))), (.slice none 0 0), (by first | rfl | (simp; done) | (simp [*]; done)), H', ⟨Nat.le_refl _⟩, ⟨by (with_reducible repeat (first | apply Kd.V_alloc | apply Kd.V_drewN | apply Kd.V_drew)); exact Kd.V_mono (Kd.V_far (p := ⟨gb252, 2, none⟩) (Kd.V_far (p := ⟨gb252, 1, none⟩) (Kd.V_far (p := ⟨gb252, 0, none⟩) (Kd.V_mono HO243.out (fun k_ hk => (⟨hk, hk.2⟩ : _ ∧ k_ ≠ gb252))) (fun _ hk => hk.2) (.int .i64 1)) (fun _ hk => hk.2) (.int .i64 a1)) (fun _ hk => hk.2) (.slice none 0 0)) (fun _ hk => ⟨hk.1.1.1.2, ⟨(by simp [Value.ownBlock]), ⟨hk.1.1.1.1, ⟨hk.1.1.2, hk.1.2⟩⟩⟩⟩)⟩, ⟨by (with_reducible repeat (first | apply Kd.N_alloc | apply Kd.N_drewN | apply Kd.N_drew)); exact Kd.N_mono (Kd.N_far (p := ⟨gb252, 2, none⟩) (Kd.N_far (p := ⟨gb252, 1, none⟩) (Kd.N_far (p := ⟨gb252, 0, none⟩) (Kd.N_mono HO248.out (fun k_ hk => (⟨hk, hk.2⟩ : _ ∧ k_ ≠ gb252))) (fun _ hk => hk.2) (.int .i64 1)) (fun _ hk => hk.2) (.int .i64 a1)) (fun _ hk => hk.2) (.slice none 0 0)) (fun _ hk => ⟨(by simp [Value.ownBlock]), ⟨hk.1.1.1.2, ⟨hk.1.1.2, hk.1.2⟩⟩⟩)⟩, ⟨by first | exact Kd.R_nil _ _ _ _ _ | exact Kd.N_nil _ _ _ _ _ | exact Kd.V_nil _ _ _ _ _ | exact Kd.Q_nil _ _ _ _ _ | exact Kd.S_nil _ _ _ _ _⟩, ⟨by (with_reducible repeat (first | refine blk_drewN ?_ _ | refine blk_drew ?_ | refine blk_alloc ?_ _)); refine blk_far ?_ NB204_252.out _; (with_reducible repeat (first | refine blk_drewN ?_ _ | refine blk_drew ?_ | refine blk_alloc ?_ _)); refine blk_far ?_ NB204_252.out _; (with_reducible repeat (first | refine blk_drewN ?_ _ | refine blk_drew ?_ | refine blk_alloc ?_ _)); refine blk_far ?_ NB204_252.out _; (with_reducible repeat (first | refine blk_drewN ?_ _ | refine blk_drew ?_ | refine blk_alloc ?_ _)); exact BK204.out⟩, ⟨by (with_reducible repeat (first | refine blk_drewN ?_ _ | refine blk_drew ?_ | refine blk_alloc ?_ _)); refine blk_far ?_ NB251_252.out _; (with_reducible repeat (first | refine blk_drewN ?_ _ | refine blk_drew ?_ | refine blk_alloc ?_ _)); refine blk_far ?_ NB251_252.out _; (with_reducible repeat (first | refine blk_drewN ?_ _ | refine blk_drew ?_ | refine blk_alloc ?_ _)); refine blk_far ?_ NB251_252.out _; (with_reducible repeat (first | refine blk_drewN ?_ _ | refine blk_drew ?_ | refine blk_alloc ?_ _)); exact BK251.out⟩, ⟨by (with_reducible repeat (first | refine blk_drewN ?_ _ | refine blk_drew ?_ | refine blk_alloc ?_ _)); refine blk_put (cs := #[.int .i64 1, .int .i64 a1, .slice none 0 0]) ?_ 2 _ rfl; (with_reducible repeat (first | refine blk_drewN ?_ _ | refine blk_drew ?_ | refine blk_alloc ?_ _)); refine blk_put (cs := #[.int .i64 1, .int .i64 0, .slice none 0 0]) ?_ 1 _ rfl; (with_reducible repeat (first | refine blk_drewN ?_ _ | refine blk_drew ?_ | refine blk_alloc ?_ _)); refine blk_put (cs := #[.int .i64 0, .int .i64 0, .slice none 0 0]) ?_ 0 _ rfl; (with_reducible repeat (first | refine blk_drewN ?_ _ | refine blk_drew ?_ | refine blk_alloc ?_ _)); exact BK252.out⟩, ⟨by repeat (first | (with_reducible first | exact HB.out | apply below_alloc | apply pw_below_drewN | apply below_drew1 | refine below_set ?_ GE204.out | refine below_set ?_ GE251.out | refine below_set ?_ GE252.out) | exact HB.out)⟩⟩
          case round =>
            clear H'
            try clear c1
            try clear p2
            try clear c3
            try clear c4
            try clear c5
            try clear p6
            try clear c9
            try clear c12
            try clear c12b0
            try clear c13
            try clear c16
            try clear c17
            try clear c18
            try clear c54
            try clear c58
            try clear c59
            try clear hcz10_0
            try clear hcz10_1
            try clear hcz10_2
            try clear hcz51_0
            try clear hcz51_1
            try clear hcz51_2
            try clear hcz55_0
            try clear hcz55_1
            try clear hcz55_2
            try clear hcz60_0
            try clear hcz60_1
            try clear hcz60_2
            try clear hfz10_0
            try clear hfz10_1
            try clear hfz10_2
            try clear hfz51_0
            try clear hfz51_1
            try clear hfz51_2
            try clear hfz55_0
            try clear hfz55_1
            try clear hfz55_2
            try clear hfz60_0
            try clear hfz60_1
            try clear hfz60_2
            try clear p2
            try clear HO_205002
            try clear HO_252002
            try clear HO_253002
            try clear BK204
            try clear BK251
            try clear BK252
            try clear HB
            obtain ⟨x11_2, x253000_2, x253001_2, x253002_2, u253002, rfl, HA, HK2, HO_205002, HO_252002, HO_253002, BK204, BK251, BK252, HB⟩ := hrel
            cases gk with
            | zero => exact absurd HA.out (by simp [thyrsuslaw12_RunDeep.l1])
            | succ k2 =>
              have H := HA.out
              clear HA
              simp only [thyrsuslaw12_RunDeep.l1] at H
              by_cases c61 : x11_2 < t198
              · rw [if_pos c61] at H
                have c61b0 : decide (x11_2 < t198) = true := decide_eq_true c61
                clear c61
                obtain ⟨y253, hy253⟩ : ∃ y_ : List (S34), y_ = (([(⟨x253000_2, x253001_2, x253002_2⟩ : S34), (⟨x253000_2, x253001_2, x253002_2⟩ : S34)] : List (S34))) := ⟨_, rfl⟩
                replace H : (thyrsuslaw12_RunDeep.l1 k2 t198 t249 t250 (wrap64 (x11_2 + 1)) t244 t245 t246 2 0 y253) = some r := by first | (rw [hy253]; with_reducible exact H) | (have H2_ := (Option.bind_some _ _).symm.trans H; rw [hy253]; with_reducible exact H2_) | (have H2_ := (Option.bind_some _ _).symm.trans H; with_reducible exact H2_) | with_reducible exact H | (rw [hy253]; exact H) | exact H
                have Ny253 := Aside0.mk hy253
                clear hy253
                have H' := Aside0.mk H
                clear H
                have hnb62 := NB252_204.out
                have hnc62 := NB204_252.out
                have hnb63 := NB252_251.out
                have hnc63 := NB251_252.out
                have hcz64_0 : wr.cell? ⟨gb252, 0, none⟩ = some (.int .i64 x253000_2) := (blk_cell BK252.out 0).trans rfl
                have hcz64_1 : wr.cell? ⟨gb252, 1, none⟩ = some (.int .i64 x253001_2) := (blk_cell BK252.out 1).trans rfl
                have hcz64_2 : wr.cell? ⟨gb252, 2, none⟩ = some (u253002) := (blk_cell BK252.out 2).trans rfl
                have hfz64_0 := blk_frozen BK252.out 0
                have hfz64_1 := blk_frozen BK252.out 1
                have hfz64_2 := blk_frozen BK252.out 2
                obtain ⟨Ao65, co65, eo65⟩ := Kd.N_slice HO_253002.out
                subst eo65
                go_wp2_with (first | ((with_reducible refine gate_dst (N := 49) rfl ?_); refine Kd.N_lit k34 _ 34 ?hg (N' := 49) ?hd (xs := ([(⟨x253000_2, x253001_2, x253002_2⟩ : S34), (⟨x253000_2, x253001_2, x253002_2⟩ : S34)] : List (S34))) (inner := [.int .i64 x253000_2, .int .i64 x253001_2, .slice Ao65 x253002_2.length co65, .int .i64 x253000_2, .int .i64 x253001_2, .slice Ao65 x253002_2.length co65]) (ok := (fun k_ => some k_ ≠ (.slice Ao56 t246.length co56 : Value).ownBlock ∧ k_ ≠ gb204 ∧ k_ ≠ gb251 ∧ k_ ≠ gb252)) (okp := (fun k_ => some k_ ≠ (.slice Ao56 t246.length co56 : Value).ownBlock ∧ k_ ≠ gb204 ∧ k_ ≠ gb251 ∧ k_ ≠ gb252)) ?hr ?hp (fun _ hk => hk) ((show ∀ k_, wr.heap.size ≤ k_ → (fun k_ => some k_ ≠ (.slice Ao56 t246.length co56 : Value).ownBlock ∧ k_ ≠ gb204 ∧ k_ ≠ gb251 ∧ k_ ≠ gb252) k_ from fun k_ hk => ⟨Kd.fresh' (Kd.N_lt (by (with_reducible repeat (first | apply Kd.N_alloc | apply Kd.N_drewN | apply Kd.N_drew)); exact HO_252002.out)) k_ hk, Kd.freshB (g := gb204) (o := .cells #[.int .i64 t239, .int .i64 t240, .slice Ao49 t241.length co49] 29 (0, 0)) (by (with_reducible repeat (first | refine blk_drewN ?_ _ | refine blk_drew ?_ | refine blk_alloc ?_ _)); exact BK204.out) k_ hk, Kd.freshB (g := gb251) (o := .cells #[.int .i64 t244, .int .i64 t245, .slice Ao56 t246.length co56] 34 (0, 0)) (by (with_reducible repeat (first | refine blk_drewN ?_ _ | refine blk_drew ?_ | refine blk_alloc ?_ _)); exact BK251.out) k_ hk, Kd.freshB (g := gb252) (o := .cells #[.int .i64 x253000_2, .int .i64 x253001_2, .slice Ao65 x253002_2.length co65] 34 (0, 0)) (by (with_reducible repeat (first | refine blk_drewN ?_ _ | refine blk_drew ?_ | refine blk_alloc ?_ _)); exact BK252.out) k_ hk⟩) _ (Nat.le_refl _)) (Below.refl _ _) (Nat.le_refl _) (by simp) ?_; (case hd => rfl); (case hg => rfl); (case hr => first | (go_simp; done) | (go_simp; rfl)); (case hp => exact (Reps.c3 (show Kd.FK k34 _ _ (⟨x253000_2, x253001_2, x253002_2⟩ : S34) [.int .i64 x253000_2, .int .i64 x253001_2, .slice Ao65 x253002_2.length co65] from (k34_mkF _ _ (⟨x253000_2, x253001_2, x253002_2⟩ : S34) (Kd.N_reads' (Kd.N_mono (ok' := (fun k_ => some k_ ≠ (.slice Ao56 t246.length co56 : Value).ownBlock ∧ k_ ≠ gb204 ∧ k_ ≠ gb251 ∧ k_ ≠ gb252)) (HO_253002.out) (fun k_ hk => ⟨hk.1, ⟨hk.2.1, ⟨hk.2.2.1, hk.2.2.2⟩⟩⟩))).2.1 (Kd.N_F (Kd.N_mono (ok' := (fun k_ => some k_ ≠ (.slice Ao56 t246.length co56 : Value).ownBlock ∧ k_ ≠ gb204 ∧ k_ ≠ gb251 ∧ k_ ≠ gb252)) (HO_253002.out) (fun k_ hk => ⟨hk.1, ⟨hk.2.1, ⟨hk.2.2.1, hk.2.2.2⟩⟩⟩))))) (Reps.c3 (show Kd.FK k34 _ _ (⟨x253000_2, x253001_2, x253002_2⟩ : S34) [.int .i64 x253000_2, .int .i64 x253001_2, .slice Ao65 x253002_2.length co65] from (k34_mkF _ _ (⟨x253000_2, x253001_2, x253002_2⟩ : S34) (Kd.N_reads' (Kd.N_mono (ok' := (fun k_ => some k_ ≠ (.slice Ao56 t246.length co56 : Value).ownBlock ∧ k_ ≠ gb204 ∧ k_ ≠ gb251 ∧ k_ ≠ gb252)) (HO_253002.out) (fun k_ hk => ⟨hk.1, ⟨hk.2.1, ⟨hk.2.2.1, hk.2.2.2⟩⟩⟩))).2.1 (Kd.N_F (Kd.N_mono (ok' := (fun k_ => some k_ ≠ (.slice Ao56 t246.length co56 : Value).ownBlock ∧ k_ ≠ gb204 ∧ k_ ≠ gb251 ∧ k_ ≠ gb252)) (HO_253002.out) (fun k_ hk => ⟨hk.1, ⟨hk.2.1, ⟨hk.2.2.1, hk.2.2.2⟩⟩⟩))))) (Reps.none _ _)))); intro v254 w66 ho67 hb hg_ hnew_; clear hg_ hnew_; (first | rw [← Ny253.out] at ho67 | (simp only [Int.reduceToNat] at ho67; rw [← Ny253.out] at ho67)); have n0_ := Aside0.mk (Kd.V_elder' (by (with_reducible repeat (first | apply Kd.V_alloc | apply Kd.V_drewN | apply Kd.V_drew)); exact HO_205002.out) (Kd.N_base ho67) hb); have n1_ := Aside0.mk (Kd.N_elder' (by (with_reducible repeat (first | apply Kd.N_alloc | apply Kd.N_drewN | apply Kd.N_drew)); exact HO_252002.out) (Kd.N_base ho67) hb); have n2_ := Aside0.mk (Kd.N_lower ho67 (below_size (by repeat (first | (with_reducible first | exact HB.out | apply below_alloc | apply pw_below_drewN | apply below_drew1 | refine below_set ?_ GE204.out | refine below_set ?_ GE251.out | refine below_set ?_ GE252.out) | exact HB.out)))); have n3_ := Aside0.mk (blk_below (g := gb204) (o := .cells #[.int .i64 t239, .int .i64 t240, .slice Ao49 t241.length co49] 29 (0, 0)) (by (with_reducible repeat (first | refine blk_drewN ?_ _ | refine blk_drew ?_ | refine blk_alloc ?_ _)); exact BK204.out) hb); have n4_ := Aside0.mk (blk_below (g := gb251) (o := .cells #[.int .i64 t244, .int .i64 t245, .slice Ao56 t246.length co56] 34 (0, 0)) (by (with_reducible repeat (first | refine blk_drewN ?_ _ | refine blk_drew ?_ | refine blk_alloc ?_ _)); exact BK251.out) hb); have n5_ := Aside0.mk (blk_below (g := gb252) (o := .cells #[.int .i64 x253000_2, .int .i64 x253001_2, .slice Ao65 x253002_2.length co65] 34 (0, 0)) (by (with_reducible repeat (first | refine blk_drewN ?_ _ | refine blk_drew ?_ | refine blk_alloc ?_ _)); exact BK252.out) hb); have n6_ := Aside0.mk (below_step (by repeat (first | (with_reducible first | exact HB.out | apply below_alloc | apply pw_below_drewN | apply below_drew1 | refine below_set ?_ GE204.out | refine below_set ?_ GE251.out | refine below_set ?_ GE252.out) | exact HB.out)) hb); clear HO_205002; clear HO_252002; clear BK204; clear BK251; clear BK252; clear HB; clear HO_253002; have HO_205002 := n0_; have HO_252002 := n1_; have HO255 := n2_; have BK204 := n3_; have BK251 := n4_; have BK252 := n5_; have HB := n6_; clear n0_ n1_ n2_ n3_ n4_ n5_ n6_; clear hb ho67; obtain ⟨Ao68, co68, eo68⟩ := Kd.N_slice HO255.out; subst eo68; have hcz69_0 : w66.cell? ⟨gb252, 0, none⟩ = some (.int .i64 x253000_2) := (blk_cell BK252.out 0).trans rfl; have hcz69_1 : w66.cell? ⟨gb252, 1, none⟩ = some (.int .i64 x253001_2) := (blk_cell BK252.out 1).trans rfl; have hcz69_2 : w66.cell? ⟨gb252, 2, none⟩ = some (.slice Ao65 x253002_2.length co65) := (blk_cell BK252.out 2).trans rfl; have hfz69_0 := blk_frozen BK252.out 0; have hfz69_1 := blk_frozen BK252.out 1; have hfz69_2 := blk_frozen BK252.out 2))
                go_roundg k2
                case measure => have := HK1.out; have := HK2.out; omega
                case rel => exact ⟨(wrap64 (x11_2 + 1)), (2), (0), (y253), (.slice Ao68 y253.length co68), (by first | rfl | (simp; done) | (simp [*]; done)), H', ⟨by have := HK1.out; have := HK2.out; omega⟩, ⟨by (with_reducible repeat (first | apply Kd.V_alloc | apply Kd.V_drewN | apply Kd.V_drew)); exact Kd.V_mono (Kd.V_far (p := ⟨gb252, 2, none⟩) (Kd.V_far (p := ⟨gb252, 1, none⟩) (Kd.V_far (p := ⟨gb252, 0, none⟩) (Kd.V_mono HO_205002.out (fun k_ hk => (⟨hk, hk.1.2.2.2.2⟩ : _ ∧ k_ ≠ gb252))) (fun _ hk => hk.2) (.int .i64 2)) (fun _ hk => hk.2) (.int .i64 0)) (fun _ hk => hk.2) (.slice Ao68 y253.length co68)) (fun _ hk => ⟨hk.1.1.1, ⟨hk.1.2, ⟨hk.1.1.2.2.1, ⟨hk.1.1.2.2.2.1, hk.1.1.2.2.2.2⟩⟩⟩⟩)⟩, ⟨by (with_reducible repeat (first | apply Kd.N_alloc | apply Kd.N_drewN | apply Kd.N_drew)); exact Kd.N_mono (Kd.N_far (p := ⟨gb252, 2, none⟩) (Kd.N_far (p := ⟨gb252, 1, none⟩) (Kd.N_far (p := ⟨gb252, 0, none⟩) (Kd.N_mono HO_252002.out (fun k_ hk => (⟨hk, hk.1.2.2.2⟩ : _ ∧ k_ ≠ gb252))) (fun _ hk => hk.2) (.int .i64 2)) (fun _ hk => hk.2) (.int .i64 0)) (fun _ hk => hk.2) (.slice Ao68 y253.length co68)) (fun _ hk => ⟨hk.1.2, ⟨hk.1.1.2.1, ⟨hk.1.1.2.2.1, hk.1.1.2.2.2⟩⟩⟩)⟩, ⟨by (with_reducible repeat (first | apply Kd.N_alloc | apply Kd.N_drewN | apply Kd.N_drew)); exact Kd.N_mono (Kd.N_far (p := ⟨gb252, 2, none⟩) (Kd.N_far (p := ⟨gb252, 1, none⟩) (Kd.N_far (p := ⟨gb252, 0, none⟩) (Kd.N_mono HO255.out (fun k_ hk => (⟨hk, hk.2.2.2⟩ : _ ∧ k_ ≠ gb252))) (fun _ hk => hk.2) (.int .i64 2)) (fun _ hk => hk.2) (.int .i64 0)) (fun _ hk => hk.2) (.slice Ao68 y253.length co68)) (fun _ hk => ⟨hk.1.1, ⟨hk.1.2.1, ⟨hk.1.2.2.1, hk.1.2.2.2⟩⟩⟩)⟩, ⟨by (with_reducible repeat (first | refine blk_drewN ?_ _ | refine blk_drew ?_ | refine blk_alloc ?_ _)); refine blk_far ?_ NB204_252.out _; (with_reducible repeat (first | refine blk_drewN ?_ _ | refine blk_drew ?_ | refine blk_alloc ?_ _)); refine blk_far ?_ NB204_252.out _; (with_reducible repeat (first | refine blk_drewN ?_ _ | refine blk_drew ?_ | refine blk_alloc ?_ _)); refine blk_far ?_ NB204_252.out _; (with_reducible repeat (first | refine blk_drewN ?_ _ | refine blk_drew ?_ | refine blk_alloc ?_ _)); exact BK204.out⟩, ⟨by (with_reducible repeat (first | refine blk_drewN ?_ _ | refine blk_drew ?_ | refine blk_alloc ?_ _)); refine blk_far ?_ NB251_252.out _; (with_reducible repeat (first | refine blk_drewN ?_ _ | refine blk_drew ?_ | refine blk_alloc ?_ _)); refine blk_far ?_ NB251_252.out _; (with_reducible repeat (first | refine blk_drewN ?_ _ | refine blk_drew ?_ | refine blk_alloc ?_ _)); refine blk_far ?_ NB251_252.out _; (with_reducible repeat (first | refine blk_drewN ?_ _ | refine blk_drew ?_ | refine blk_alloc ?_ _)); exact BK251.out⟩, ⟨by (with_reducible repeat (first | refine blk_drewN ?_ _ | refine blk_drew ?_ | refine blk_alloc ?_ _)); refine blk_put (cs := #[.int .i64 2, .int .i64 0, .slice Ao65 x253002_2.length co65]) ?_ 2 _ rfl; (with_reducible repeat (first | refine blk_drewN ?_ _ | refine blk_drew ?_ | refine blk_alloc ?_ _)); refine blk_put (cs := #[.int .i64 2, .int .i64 x253001_2, .slice Ao65 x253002_2.length co65]) ?_ 1 _ rfl; (with_reducible repeat (first | refine blk_drewN ?_ _ | refine blk_drew ?_ | refine blk_alloc ?_ _)); refine blk_put (cs := #[.int .i64 x253000_2, .int .i64 x253001_2, .slice Ao65 x253002_2.length co65]) ?_ 0 _ rfl; (with_reducible repeat (first | refine blk_drewN ?_ _ | refine blk_drew ?_ | refine blk_alloc ?_ _)); exact BK252.out⟩, ⟨by repeat (first | (with_reducible first | exact HB.out | apply below_alloc | apply pw_below_drewN | apply below_drew1 | refine below_set ?_ GE204.out | refine below_set ?_ GE251.out | refine below_set ?_ GE252.out) | exact HB.out)⟩⟩
              · rw [if_neg c61] at H
                have c61b0 : decide (x11_2 < t198) = false := decide_eq_false c61
                clear c61
                by_cases c70 : t250 = 0
                · rw [if_pos c70] at H
                  have c70b0 : (t250 == 0) = true := beq_iff_eq.mpr c70
                  have c70b1 : (t250 != 0) = false := bne_eq_false_iff_eq.mpr c70
                  clear c70
                  by_cases c71 : t249 = 0
                  · rw [if_pos c71] at H
                    have c71b0 : (t249 == 0) = true := beq_iff_eq.mpr c71
                    have c71b1 : (t249 != 0) = false := bne_eq_false_iff_eq.mpr c71
                    clear c71
                    replace H := Option.bind_eq_some_iff.mp H
                    obtain ⟨t256, A720, H⟩ := H
                    replace H : (some t256) = some r := H
                    have A72 := Aside0.mk A720
                    clear A720
                    obtain rfl := Option.some.inj H
                    have hnb73 := NB251_204.out
                    have hnc73 := NB204_251.out
                    have hnb74 := NB251_252.out
                    have hnc74 := NB252_251.out
                    have hcz75_0 : wr.cell? ⟨gb251, 0, none⟩ = some (.int .i64 t244) := (blk_cell BK251.out 0).trans rfl
                    have hcz75_1 : wr.cell? ⟨gb251, 1, none⟩ = some (.int .i64 t245) := (blk_cell BK251.out 1).trans rfl
                    have hcz75_2 : wr.cell? ⟨gb251, 2, none⟩ = some (.slice Ao56 t246.length co56) := (blk_cell BK251.out 2).trans rfl
                    have hfz75_0 := blk_frozen BK251.out 0
                    have hfz75_1 := blk_frozen BK251.out 1
                    have hfz75_2 := blk_frozen BK251.out 2
                    have hnb76 := NB252_204.out
                    have hnc76 := NB204_252.out
                    have hcz77_0 : wr.cell? ⟨gb252, 0, none⟩ = some (.int .i64 x253000_2) := (blk_cell BK252.out 0).trans rfl
                    have hcz77_1 : wr.cell? ⟨gb252, 1, none⟩ = some (.int .i64 x253001_2) := (blk_cell BK252.out 1).trans rfl
                    have hcz77_2 : wr.cell? ⟨gb252, 2, none⟩ = some (u253002) := (blk_cell BK252.out 2).trans rfl
                    have hfz77_0 := blk_frozen BK252.out 0
                    have hfz77_1 := blk_frozen BK252.out 1
                    have hfz77_2 := blk_frozen BK252.out 2
                    obtain ⟨Ao78, co78, eo78⟩ := Kd.N_slice HO_253002.out
                    subst eo78
                    go_wp2_with (first | (go_at_call 14; (with_reducible refine (thyrsusref11_Same.calls k2 t244 t245 _ _ t246 x253000_2 x253001_2 _ _ x253002_2 t256 _ ?side1 ?side2 ?side3 ?side4 A72.out).mono ?_); (case side1 => repeat (first | exact (Kd.N_reads' HO_252002.out).2.2 | (with_reducible refine Kd.C_alloc ?_ _) | (with_reducible refine Kd.C_drewN ?_ _) | (with_reducible refine Kd.C_drew ?_))); (case side2 => exact (Kd.N_reads' HO_252002.out).2.1); (case side3 => repeat (first | exact (Kd.N_reads' HO_253002.out).2.2 | (with_reducible refine Kd.C_alloc ?_ _) | (with_reducible refine Kd.C_drewN ?_ _) | (with_reducible refine Kd.C_drew ?_))); (case side4 => exact (Kd.N_reads' HO_253002.out).2.1); rintro e w79 ⟨rfl, hb⟩; have n0_ := Aside0.mk (Kd.V_below (by (with_reducible repeat (first | apply Kd.V_alloc | apply Kd.V_drewN | apply Kd.V_drew)); exact HO_205002.out) hb); have n1_ := Aside0.mk (Kd.N_below (by (with_reducible repeat (first | apply Kd.N_alloc | apply Kd.N_drewN | apply Kd.N_drew)); exact HO_252002.out) hb); have n2_ := Aside0.mk (Kd.N_below (by (with_reducible repeat (first | apply Kd.N_alloc | apply Kd.N_drewN | apply Kd.N_drew)); exact HO_253002.out) hb); have n3_ := Aside0.mk (blk_below (g := gb204) (o := .cells #[.int .i64 t239, .int .i64 t240, .slice Ao49 t241.length co49] 29 (0, 0)) (by (with_reducible repeat (first | refine blk_drewN ?_ _ | refine blk_drew ?_ | refine blk_alloc ?_ _)); exact BK204.out) hb); have n4_ := Aside0.mk (blk_below (g := gb251) (o := .cells #[.int .i64 t244, .int .i64 t245, .slice Ao56 t246.length co56] 34 (0, 0)) (by (with_reducible repeat (first | refine blk_drewN ?_ _ | refine blk_drew ?_ | refine blk_alloc ?_ _)); exact BK251.out) hb); have n5_ := Aside0.mk (blk_below (g := gb252) (o := .cells #[.int .i64 x253000_2, .int .i64 x253001_2, .slice Ao78 x253002_2.length co78] 34 (0, 0)) (by (with_reducible repeat (first | refine blk_drewN ?_ _ | refine blk_drew ?_ | refine blk_alloc ?_ _)); exact BK252.out) hb); have n6_ := Aside0.mk (below_step (by repeat (first | (with_reducible first | exact HB.out | apply below_alloc | apply pw_below_drewN | apply below_drew1 | refine below_set ?_ GE204.out | refine below_set ?_ GE251.out | refine below_set ?_ GE252.out) | exact HB.out)) hb); clear HO_205002; clear HO_252002; clear HO_253002; clear BK204; clear BK251; clear BK252; clear HB; have HO_205002 := n0_; have HO_252002 := n1_; have HO_253002 := n2_; have BK204 := n3_; have BK251 := n4_; have BK252 := n5_; have HB := n6_; clear n0_ n1_ n2_ n3_ n4_ n5_ n6_; (try clear hb); (try clear hb2); (try clear hk); (try clear hi)))
                    go_ret
                    exact ⟨by first | rfl | (simp [errW_none, errW_some] <;> rfl) | (simp [*, errW_none, errW_some] <;> rfl), by repeat (first | (with_reducible first | exact HB.out | apply below_alloc | apply pw_below_drewN | apply below_drew1 | refine below_set ?_ GE204.out | refine below_set ?_ GE251.out | refine below_set ?_ GE252.out) | exact HB.out)⟩
                  · rw [if_neg c71] at H
                    exact absurd H (by simp)
                · rw [if_neg c70] at H
                  exact absurd H (by simp)
  · replace c4 := Bool.eq_false_iff.mpr c4
    subst c4
    have H1 : (none) = some r := by rw [if_neg (show ¬ (false = true) by decide)] at H; exact H
    clear H
    have H := H1
    clear H1
    exact absurd H (by simp)

/-- THE ONE PURE STATEMENT of thyrsuslaw12_RunDeep: yours. -/
def thyrsuslaw12_RunDeep.Pure : Prop := ∀ (a0 : Int) (a1 : Int), (Lit.int .i64 a0).wf = true → (Lit.int .i64 a1).wf = true → ∃ k, thyrsuslaw12_RunDeep.f k a0 a1 = some true
theorem thyrsuslaw12_RunDeep.walk (P : thyrsuslaw12_RunDeep.Pure) (a0 : Int) (a1 : Int) (w : World) (w0 : (Lit.int .i64 a0).wf = true) (w1 : (Lit.int .i64 a1).wf = true) :
    Calls Try.prog 5 #[.int .i64 a0, .int .i64 a1] w fun e w' => e = .returned (.bool true) ∧ Below w.heap.size w w' := by
  obtain ⟨k, h⟩ := P a0 a1 w0 w1
  refine (thyrsuslaw12_RunDeep.calls k a0 a1 true w h).mono ?_
  rintro e w' ⟨rfl, hd⟩
  exact ⟨rfl, hd⟩

end Go.Proofs.Ytnecmclnokikoaa.P
