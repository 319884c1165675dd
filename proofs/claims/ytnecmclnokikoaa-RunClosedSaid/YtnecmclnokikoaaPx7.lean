-- Printed by mkprint.py (a program of this session, over the kit's print). Lean checks it.
import Derived.Test.YtnecmclnokikoaaPx0
import Derived.Test.YtnecmclnokikoaaPx1
import Derived.Test.YtnecmclnokikoaaPx3
import Derived.Test.YtnecmclnokikoaaHandRun
namespace Go.Proofs.Ytnecmclnokikoaa.P
open Go.RowKit Go.Proofs.YtnecmclnokikoaaW.PrintWords Go.Proofs.YtnecmclnokikoaaW.PrintLast Go.Proofs.YtnecmclnokikoaaW.PrintMore
attribute [local go_sem] max2_int min2_int max_two min_two max_three min_three max_four min_four   -- for this text's walks alone
set_option linter.unusedVariables false
set_option linter.unusedSimpArgs false

/-! ### thyrsuslaw12_RunClosed: function 7 -/
def thyrsuslaw12_RunClosed.l0 : Nat → Int → Int → Int → Int → Int → Int → List (S29) → Int → Int → List (S29) → Option (Bool)
  | 0, _, _, _, _, _, _, _, _, _, _ => none
  | k + 1, x0, x1, x2, x9, x407000, x407001, x407002, x426000, x426001, x426002 => if x9 < x2 then ((thyrsusref4_Int.f x1).bind fun bt426 => ((thyrsusref4_T.f 28 (([(⟨bt426.1, bt426.2.1, bt426.2.2⟩ : S29), (⟨x426000, x426001, x426002⟩ : S29)] : List (S29)))).bind fun bt434 => (thyrsuslaw12_RunClosed.l0 k x0 x1 x2 (wrap64 (x9 + 1)) x407000 x407001 x407002 bt434.1 bt434.2.1 bt434.2.2))) else ((thyrsusref4_Int.f x0).bind fun bt439 => ((thyrsusref4_V.f 1).bind fun bt444 => ((thyrsusref4_V.f 0).bind fun bt449 => ((thyrsuslaw12_prim.f 0 bt444.1 bt444.2.1 bt444.2.2 bt449.1 bt449.2.1 bt449.2.2).bind fun bt454 => ((thyrsusref4_T.f 20 (([(⟨x407000, x407001, x407002⟩ : S29), (⟨bt454.1, bt454.2.1, bt454.2.2⟩ : S29)] : List (S29)))).bind fun bt462 => ((thyrsusref4_T.f 28 (([(⟨bt462.1, bt462.2.1, bt462.2.2⟩ : S29), (⟨x426000, x426001, x426002⟩ : S29)] : List (S29)))).bind fun bt470 => ((thyrsusref4_T.f 28 (([(⟨bt439.1, bt439.2.1, bt439.2.2⟩ : S29), (⟨bt470.1, bt470.2.1, bt470.2.2⟩ : S29)] : List (S29)))).bind fun bt478 => ((run_Run.f k bt478.1 bt478.2.1 bt478.2.2 5).bind fun bt483 => (if bt483.2.2.2.2 = 0 then (if bt483.2.1 = (wrap64 (x0 + 1)) then (some (bt483.2.2.2.1 == 1)) else (none)) else (none))))))))))
def thyrsuslaw12_RunClosed.f (k : Nat) (a0 : Int) (a1 : Int) (a2 : Int) : Option (Bool) := (thyrsuslaw12_known.f k).bind fun t399 => (if t399 = true then ((thyrsuslaw12_within.f a2 10).bind fun t400 => ((thyrsusref4_T.f 15 ([] : List (S29))).bind fun bt401 => ((thyrsusref4_V.f t400).bind fun bt407 => ((thyrsusref4_Int.f 1).bind fun bt412 => ((thyrsusref4_T.f 21 (([(⟨bt407.1, bt407.2.1, bt407.2.2⟩ : S29), (⟨bt412.1, bt412.2.1, bt412.2.2⟩ : S29)] : List (S29)))).bind fun bt420 => (thyrsuslaw12_RunClosed.l0 k a0 a1 t400 0 bt401.1 bt401.2.1 bt401.2.2 bt420.1 bt420.2.1 bt420.2.2)))))) else (none))
theorem thyrsuslaw12_RunClosed.mono_l : ∀ k, (∀ y0 y1 y2 y3 y4 y5 y6 y7 y8 y9, LeO (thyrsuslaw12_RunClosed.l0 k y0 y1 y2 y3 y4 y5 y6 y7 y8 y9) (thyrsuslaw12_RunClosed.l0 (k + 1) y0 y1 y2 y3 y4 y5 y6 y7 y8 y9))
  | 0 => fun _ _ _ _ _ _ _ _ _ _ r h => by simp [thyrsuslaw12_RunClosed.l0] at h
  | k + 1 => by
    have ih0 := thyrsuslaw12_RunClosed.mono_l k
    · intro y0 y1 y2 y3 y4 y5 y6 y7 y8 y9
      unfold thyrsuslaw12_RunClosed.l0
      repeat' first
      | (with_reducible exact ih0 _ _ _ _ _ _ _ _ _ _)
      | (with_reducible exact run_Run.mono _ _ _ _ _)
      | (with_reducible exact thyrsuslaw12_known.mono _)
      | (with_reducible exact LeO.refl _)
      | (with_reducible exact LeO.none _)
      | (with_reducible refine LeO.ite ?_ ?_)
      | (with_reducible refine LeO.bind ?_ (fun _ => ?_))
      | exact ih0 _ _ _ _ _ _ _ _ _ _
      | exact run_Run.mono _ _ _ _ _
      | exact thyrsuslaw12_known.mono _
      | exact LeO.none _
      | refine LeO.ite ?_ ?_
      | refine LeO.bind ?_ (fun _ => ?_)
theorem thyrsuslaw12_RunClosed.mono : ∀ a0 a1 a2 k, LeO (thyrsuslaw12_RunClosed.f k a0 a1 a2) (thyrsuslaw12_RunClosed.f (k + 1) a0 a1 a2) := by
  intro a0 a1 a2 k
  have ih0 := thyrsuslaw12_RunClosed.mono_l k
  unfold thyrsuslaw12_RunClosed.f
  repeat' first
      | (with_reducible exact ih0 _ _ _ _ _ _ _ _ _ _)
      | (with_reducible exact run_Run.mono _ _ _ _ _)
      | (with_reducible exact thyrsuslaw12_known.mono _)
      | (with_reducible exact LeO.refl _)
      | (with_reducible exact LeO.none _)
      | (with_reducible refine LeO.ite ?_ ?_)
      | (with_reducible refine LeO.bind ?_ (fun _ => ?_))
      | exact ih0 _ _ _ _ _ _ _ _ _ _
      | exact run_Run.mono _ _ _ _ _
      | exact thyrsuslaw12_known.mono _
      | exact LeO.none _
      | refine LeO.ite ?_ ?_
      | refine LeO.bind ?_ (fun _ => ?_)
def thyrsuslaw12_RunClosed.T10 : Bool × List (List Nat × List Nat) := (true, [([], []), ([0], [0]), ([], []), ([1], []), ([3], []), ([3, 4, 4], [3, 4]), ([2, 5], [2, 5]), ([6, 5], [6]), ([], []), ([7, 8], [7, 8]), ([9, 7], [9]), ([1, 10], [1, 10]), ([11, 10], [11]), ([12, 12, 0, 1, 2, 3, 4, 5, 6, 7, 8, 9, 10, 11, 12], [12])])
def thyrsuslaw12_RunClosed.B10 : List Nat := [0, 1, 0, 3, 11, 27, 63, 127, 0, 511, 1023, 2047, 4095, 8191]
theorem thyrsuslaw12_RunClosed.tab10 : rtab .any (opsOf Try.f7 10) = thyrsuslaw12_RunClosed.T10 := by kernel_rfl
theorem thyrsuslaw12_RunClosed.bits10 : waitsOk thyrsuslaw12_RunClosed.T10.2 thyrsuslaw12_RunClosed.B10 = true := by kernel_rfl
set_option maxHeartbeats 8000000 in
set_option maxRecDepth 100000 in
theorem thyrsuslaw12_RunClosed.calls (k : Nat) (a0 : Int) (a1 : Int) (a2 : Int) (r : Bool) (w : World) (h : thyrsuslaw12_RunClosed.f k a0 a1 a2 = some r) :
    Calls Try.prog 7 #[.int .i64 a0, .int .i64 a1, .int .i64 a2] w fun e w' => e = .returned (.bool r) ∧ Below w.heap.size w w' := by
  have hu29 := Try.underlying29
  have hu34 := Try.underlying34
  have HB := Aside0.mk (Below.refl w.heap.size w)
  have H : ((thyrsuslaw12_known.f k).bind fun t399 => (if t399 = true then ((thyrsuslaw12_within.f a2 10).bind fun t400 => ((thyrsusref4_T.f 15 ([] : List (S29))).bind fun bt401 => ((thyrsusref4_V.f t400).bind fun bt407 => ((thyrsusref4_Int.f 1).bind fun bt412 => ((thyrsusref4_T.f 21 (([(⟨bt407.1, bt407.2.1, bt407.2.2⟩ : S29), (⟨bt412.1, bt412.2.1, bt412.2.2⟩ : S29)] : List (S29)))).bind fun bt420 => (thyrsuslaw12_RunClosed.l0 k a0 a1 t400 0 bt401.1 bt401.2.1 bt401.2.2 bt420.1 bt420.2.1 bt420.2.2)))))) else (none))) = some r := h
  clear h
  replace H := Option.bind_eq_some_iff.mp H
  obtain ⟨t399, A40, H⟩ := H
  replace H : (if t399 = true then ((thyrsuslaw12_within.f a2 10).bind fun t400 => ((thyrsusref4_T.f 15 ([] : List (S29))).bind fun bt401 => ((thyrsusref4_V.f t400).bind fun bt407 => ((thyrsusref4_Int.f 1).bind fun bt412 => ((thyrsusref4_T.f 21 (([(⟨bt407.1, bt407.2.1, bt407.2.2⟩ : S29), (⟨bt412.1, bt412.2.1, bt412.2.2⟩ : S29)] : List (S29)))).bind fun bt420 => (thyrsuslaw12_RunClosed.l0 k a0 a1 t400 0 bt401.1 bt401.2.1 bt401.2.2 bt420.1 bt420.2.1 bt420.2.2)))))) else (none)) = some r := H
  have A4 := Aside0.mk A40
  clear A40
  by_cases c5 : t399 = true
  · subst c5
    have H1 : ((thyrsuslaw12_within.f a2 10).bind fun t400 => ((thyrsusref4_T.f 15 ([] : List (S29))).bind fun bt401 => ((thyrsusref4_V.f t400).bind fun bt407 => ((thyrsusref4_Int.f 1).bind fun bt412 => ((thyrsusref4_T.f 21 (([(⟨bt407.1, bt407.2.1, bt407.2.2⟩ : S29), (⟨bt412.1, bt412.2.1, bt412.2.2⟩ : S29)] : List (S29)))).bind fun bt420 => (thyrsuslaw12_RunClosed.l0 k a0 a1 t400 0 bt401.1 bt401.2.1 bt401.2.2 bt420.1 bt420.2.1 bt420.2.2)))))) = some r := by rw [if_pos rfl] at H; exact H
    clear H
    have H := H1
    clear H1
    replace H := Option.bind_eq_some_iff.mp H
    obtain ⟨t400, A60, H⟩ := H
    replace H : ((thyrsusref4_T.f 15 ([] : List (S29))).bind fun bt401 => ((thyrsusref4_V.f t400).bind fun bt407 => ((thyrsusref4_Int.f 1).bind fun bt412 => ((thyrsusref4_T.f 21 (([(⟨bt407.1, bt407.2.1, bt407.2.2⟩ : S29), (⟨bt412.1, bt412.2.1, bt412.2.2⟩ : S29)] : List (S29)))).bind fun bt420 => (thyrsuslaw12_RunClosed.l0 k a0 a1 t400 0 bt401.1 bt401.2.1 bt401.2.2 bt420.1 bt420.2.1 bt420.2.2))))) = some r := H
    have A6 := Aside0.mk A60
    clear A60
    replace H := Option.bind_eq_some_iff.mp H
    obtain ⟨⟨t401, t402, t403⟩, A70, H⟩ := H
    replace H : ((thyrsusref4_V.f t400).bind fun bt407 => ((thyrsusref4_Int.f 1).bind fun bt412 => ((thyrsusref4_T.f 21 (([(⟨bt407.1, bt407.2.1, bt407.2.2⟩ : S29), (⟨bt412.1, bt412.2.1, bt412.2.2⟩ : S29)] : List (S29)))).bind fun bt420 => (thyrsuslaw12_RunClosed.l0 k a0 a1 t400 0 t401 t402 t403 bt420.1 bt420.2.1 bt420.2.2)))) = some r := H
    have A7 := Aside0.mk A70
    clear A70
    replace H := Option.bind_eq_some_iff.mp H
    obtain ⟨⟨t407, t408, t409⟩, A80, H⟩ := H
    replace H : ((thyrsusref4_Int.f 1).bind fun bt412 => ((thyrsusref4_T.f 21 (([(⟨t407, t408, t409⟩ : S29), (⟨bt412.1, bt412.2.1, bt412.2.2⟩ : S29)] : List (S29)))).bind fun bt420 => (thyrsuslaw12_RunClosed.l0 k a0 a1 t400 0 t401 t402 t403 bt420.1 bt420.2.1 bt420.2.2))) = some r := H
    have A8 := Aside0.mk A80
    clear A80
    replace H := Option.bind_eq_some_iff.mp H
    obtain ⟨⟨t412, t413, t414⟩, A90, H⟩ := H
    replace H : ((thyrsusref4_T.f 21 (([(⟨t407, t408, t409⟩ : S29), (⟨t412, t413, t414⟩ : S29)] : List (S29)))).bind fun bt420 => (thyrsuslaw12_RunClosed.l0 k a0 a1 t400 0 t401 t402 t403 bt420.1 bt420.2.1 bt420.2.2)) = some r := H
    have A9 := Aside0.mk A90
    clear A90
    obtain ⟨y417, hy417⟩ : ∃ y_ : List (S29), y_ = (([(⟨t407, t408, t409⟩ : S29), (⟨t412, t413, t414⟩ : S29)] : List (S29))) := ⟨_, rfl⟩
    replace H : ((thyrsusref4_T.f 21 y417).bind fun bt420 => (thyrsuslaw12_RunClosed.l0 k a0 a1 t400 0 t401 t402 t403 bt420.1 bt420.2.1 bt420.2.2)) = some r := by first | (rw [hy417]; with_reducible exact H) | (have H2_ := (Option.bind_some _ _).symm.trans H; rw [hy417]; with_reducible exact H2_) | (have H2_ := (Option.bind_some _ _).symm.trans H; with_reducible exact H2_) | with_reducible exact H | (rw [hy417]; exact H) | exact H
    have Ny417 := Aside0.mk hy417
    clear hy417
    replace H := Option.bind_eq_some_iff.mp H
    obtain ⟨⟨t420, t421, t422⟩, A100, H⟩ := H
    replace H : (thyrsuslaw12_RunClosed.l0 k a0 a1 t400 0 t401 t402 t403 t420 t421 t422) = some r := H
    have A10 := Aside0.mk A100
    clear A100
    have H' := Aside0.mk H
    clear H
    go_enter Try.func7, Try.ntmps7
    go_wp2_with (first | ((with_reducible refine gate_callee (f := 9) rfl ?_); refine goesL_ (some 13) rfl rfl Try.func9 (by kernel_rfl) rfl #[] rfl (by (try simp only [List.map_toArray, List.map_cons, List.map_nil]); first | done | rfl | (simp only [List.length_drop, List.length_take]; rfl)) ?_; (with_reducible refine (thyrsuslaw12_known.calls k  true _ A4.out).mono ?_); rintro e w11 ⟨rfl, hb⟩; refine ⟨_, rfl, ?_⟩; have n0_ := Aside0.mk (below_step (by repeat (first | (with_reducible first | exact HB.out | apply below_alloc | apply pw_below_drewN | apply below_drew1) | exact HB.out)) hb); clear HB; have HB := n0_; clear n0_; (try clear hb); (try clear hb2); (try clear hk); (try clear hi)) | ((with_reducible refine gate_callee (f := 13) rfl ?_); refine goesL_ (some 16) rfl rfl Try.func13 (by kernel_rfl) rfl #[.int .i64 a2, .int .i64 10] rfl (by (try simp only [List.map_toArray, List.map_cons, List.map_nil]); first | done | rfl | (simp only [List.length_drop, List.length_take]; rfl)) ?_; (with_reducible refine (thyrsuslaw12_within.calls a2 10 t400 _ A6.out).mono ?_); rintro e w' ⟨rfl, ⟨nd, rfl⟩⟩; refine ⟨_, rfl, ?_⟩; (try (rw [drewN_self w11]; generalize hq_ : World.drewN w11 _ = w11; have n0_ : Aside0 (Below w.heap.size w w11) := ⟨by rw [← hq_]; exact (by repeat (first | (with_reducible first | exact HB.out | apply below_alloc | apply pw_below_drewN | apply below_drew1) | exact HB.out))⟩; clear HB hq_; have HB := n0_; clear n0_))) | ((with_reducible refine gate_callee (f := 18) rfl ?_); refine goesL_ (some 17) rfl rfl Try.func18 (by kernel_rfl) rfl #[.int .i64 15, .slice none 0 0] rfl (by (try simp only [List.map_toArray, List.map_cons, List.map_nil]); first | done | rfl | (simp only [List.length_drop, List.length_take]; rfl)) ?_; (refine (thyrsusref4_T.calls 15 (fun k_ => False) _ _ ([] : List (S29)) t401 t402 t403 _ ?side1 A7.out).mono ?_); (case side1 => exact Kd.V_nil _ _ _ _ _); rintro e w12 ⟨v404, rfl, ho0, hb⟩; refine ⟨_, rfl, ?_⟩; have n0_ := Aside0.mk (Kd.V_lower (Kd.V_mono (ok' := fun k_ => True) ho0 (fun k_ hk_ => trivial)) (below_size (by repeat (first | (with_reducible first | exact HB.out | apply below_alloc | apply pw_below_drewN | apply below_drew1) | exact HB.out)))); have n1_ := Aside0.mk (below_step (by repeat (first | (with_reducible first | exact HB.out | apply below_alloc | apply pw_below_drewN | apply below_drew1) | exact HB.out)) hb); clear HB; have HO405 := n0_; have HB := n1_; clear n0_ n1_; (try clear hb); (try clear hb2); (try clear hk); (try clear hi); (try clear ho0)) | ((with_reducible refine gate_dst (N := 7) rfl ?_); refine box_event ?hg (N := 7) ?hd (cs := #[.int .i64 0, .int .i64 0, .slice none 0 0]) (t := 29) ?hr ?_; (case hd => rfl); (case hg => rfl); (case hr => first | (go_simp; done) | (go_simp; rfl)); intro gb406 hg w13 hbox hb; have n0_ := Aside0.mk (Kd.V_below (Kd.V_elderB (by (with_reducible repeat (first | apply Kd.V_alloc | apply Kd.V_drewN | apply Kd.V_drew)); exact HO405.out) gb406 (Nat.le_of_eq hg.symm)) hb); have n1_ := Aside0.mk (below_step (by repeat (first | (with_reducible first | exact HB.out | apply below_alloc | apply pw_below_drewN | apply below_drew1) | exact HB.out)) hb); have n2_ := Aside0.mk (hbox); have n3_ := Aside0.mk ((by rw [hg]; exact (below_size (by repeat (first | (with_reducible first | exact HB.out | apply below_alloc | apply pw_below_drewN | apply below_drew1) | exact HB.out))) : w.heap.size ≤ gb406)); have n4_ := Aside0.mk ((by rw [hg]; exact (below_size (by repeat (first | (with_reducible first | exact HB.out | apply below_alloc | apply pw_below_drewN | apply below_drew1) | exact HB.out))) : w.heap.size ≤ gb406)); clear HO405; clear HB; have HO405 := n0_; have HB := n1_; have BK406 := n2_; have GW406 := n3_; have GE406 := n4_; clear n0_ n1_ n2_ n3_ n4_; clear hb hbox hg; have hcz14_0 : w13.cell? ⟨gb406, 0, none⟩ = some (.int .i64 0) := (blk_cell BK406.out 0).trans rfl; have hcz14_1 : w13.cell? ⟨gb406, 1, none⟩ = some (.int .i64 0) := (blk_cell BK406.out 1).trans rfl; have hcz14_2 : w13.cell? ⟨gb406, 2, none⟩ = some (.slice none 0 0) := (blk_cell BK406.out 2).trans rfl; have hfz14_0 := blk_frozen BK406.out 0; have hfz14_1 := blk_frozen BK406.out 1; have hfz14_2 := blk_frozen BK406.out 2; obtain ⟨Ao15, co15, eo15⟩ := Kd.V_slice HO405.out; subst eo15) | ((with_reducible refine gate_callee (f := 17) rfl ?_); refine goesL_ (some 19) rfl rfl Try.func17 (by kernel_rfl) rfl #[.int .i64 t400] rfl (by (try simp only [List.map_toArray, List.map_cons, List.map_nil]); first | done | rfl | (simp only [List.length_drop, List.length_take]; rfl)) ?_; (with_reducible refine (thyrsusref4_V.calls t400 t407 t408 t409 _ A8.out).mono ?_); rintro e w16 ⟨v410, rfl, ho0, hb⟩; refine ⟨_, rfl, ?_⟩; have n0_ := Aside0.mk (Kd.V_elder' (by (with_reducible repeat (first | apply Kd.V_alloc | apply Kd.V_drewN | apply Kd.V_drew)); exact (Kd.V_mono (Kd.V_far (p := ⟨gb406, 2, none⟩) (Kd.V_far (p := ⟨gb406, 1, none⟩) (Kd.V_far (p := ⟨gb406, 0, none⟩) (Kd.V_mono HO405.out (fun k_ hk => (⟨hk, hk.2⟩ : _ ∧ k_ ≠ gb406))) (fun _ hk => hk.2) (.int .i64 t401)) (fun _ hk => hk.2) (.int .i64 t402)) (fun _ hk => hk.2) (.slice Ao15 t403.length co15)) (fun _ h_ => h_.1))) (by first | exact Kd.N_base ho0 | exact Kd.N_base (Kd.R_N ho0)) hb); have n1_ := Aside0.mk (Kd.N_lower (Kd.N_mono (ok' := fun k_ => k_ ≠ gb406) (Kd.R_N (Kd.R_bound ho0)) (fun k_ hk_ => (Kd.freshB (g := gb406) (o := .cells #[.int .i64 t401, .int .i64 t402, .slice Ao15 t403.length co15] 29 (0, 0)) (by (with_reducible repeat (first | refine blk_drewN ?_ _ | refine blk_drew ?_ | refine blk_alloc ?_ _)); refine blk_put (cs := #[.int .i64 t401, .int .i64 t402, .slice none 0 0]) ?_ 2 _ rfl; (with_reducible repeat (first | refine blk_drewN ?_ _ | refine blk_drew ?_ | refine blk_alloc ?_ _)); refine blk_put (cs := #[.int .i64 t401, .int .i64 0, .slice none 0 0]) ?_ 1 _ rfl; (with_reducible repeat (first | refine blk_drewN ?_ _ | refine blk_drew ?_ | refine blk_alloc ?_ _)); refine blk_put (cs := #[.int .i64 0, .int .i64 0, .slice none 0 0]) ?_ 0 _ rfl; (with_reducible repeat (first | refine blk_drewN ?_ _ | refine blk_drew ?_ | refine blk_alloc ?_ _)); exact BK406.out) k_ hk_.2.1))) (below_size (by repeat (first | (with_reducible first | exact HB.out | apply below_alloc | apply pw_below_drewN | apply below_drew1 | refine below_set ?_ GE406.out) | exact HB.out)))); have n2_ := Aside0.mk (blk_below (g := gb406) (o := .cells #[.int .i64 t401, .int .i64 t402, .slice Ao15 t403.length co15] 29 (0, 0)) (by (with_reducible repeat (first | refine blk_drewN ?_ _ | refine blk_drew ?_ | refine blk_alloc ?_ _)); refine blk_put (cs := #[.int .i64 t401, .int .i64 t402, .slice none 0 0]) ?_ 2 _ rfl; (with_reducible repeat (first | refine blk_drewN ?_ _ | refine blk_drew ?_ | refine blk_alloc ?_ _)); refine blk_put (cs := #[.int .i64 t401, .int .i64 0, .slice none 0 0]) ?_ 1 _ rfl; (with_reducible repeat (first | refine blk_drewN ?_ _ | refine blk_drew ?_ | refine blk_alloc ?_ _)); refine blk_put (cs := #[.int .i64 0, .int .i64 0, .slice none 0 0]) ?_ 0 _ rfl; (with_reducible repeat (first | refine blk_drewN ?_ _ | refine blk_drew ?_ | refine blk_alloc ?_ _)); exact BK406.out) hb); have n3_ := Aside0.mk (below_step (by repeat (first | (with_reducible first | exact HB.out | apply below_alloc | apply pw_below_drewN | apply below_drew1 | refine below_set ?_ GE406.out) | exact HB.out)) hb); clear HO405; clear BK406; clear HB; have HO405 := n0_; have HO411 := n1_; have BK406 := n2_; have HB := n3_; clear n0_ n1_ n2_ n3_; (try clear hb); (try clear hb2); (try clear hk); (try clear hi); (try clear ho0)) | ((with_reducible refine gate_callee (f := 16) rfl ?_); refine goesL_ (some 20) rfl rfl Try.func16 (by kernel_rfl) rfl #[.int .i64 1] rfl (by (try simp only [List.map_toArray, List.map_cons, List.map_nil]); first | done | rfl | (simp only [List.length_drop, List.length_take]; rfl)) ?_; (with_reducible refine (thyrsusref4_Int.calls 1 t412 t413 t414 _ A9.out).mono ?_); rintro e w17 ⟨v415, rfl, ho0, hb⟩; refine ⟨_, rfl, ?_⟩; have n0_ := Aside0.mk (Kd.V_elder' (by (with_reducible repeat (first | apply Kd.V_alloc | apply Kd.V_drewN | apply Kd.V_drew)); exact HO405.out) (by first | exact Kd.N_base ho0 | exact Kd.N_base (Kd.R_N ho0)) hb); have n1_ := Aside0.mk (Kd.N_elder' (by (with_reducible repeat (first | apply Kd.N_alloc | apply Kd.N_drewN | apply Kd.N_drew)); exact HO411.out) (by first | exact Kd.N_base ho0 | exact Kd.N_base (Kd.R_N ho0)) hb); have n2_ := Aside0.mk (Kd.N_lower (Kd.N_mono (ok' := fun k_ => some k_ ≠ (v410 : Value).ownBlock ∧ k_ ≠ gb406) (Kd.R_N (Kd.R_bound ho0)) (fun k_ hk_ => ⟨(Kd.fresh' (Kd.N_lt (by (with_reducible repeat (first | apply Kd.N_alloc | apply Kd.N_drewN | apply Kd.N_drew)); exact HO411.out)) k_ hk_.2.1), (Kd.freshB (g := gb406) (o := .cells #[.int .i64 t401, .int .i64 t402, .slice Ao15 t403.length co15] 29 (0, 0)) (by (with_reducible repeat (first | refine blk_drewN ?_ _ | refine blk_drew ?_ | refine blk_alloc ?_ _)); exact BK406.out) k_ hk_.2.1)⟩)) (below_size (by repeat (first | (with_reducible first | exact HB.out | apply below_alloc | apply pw_below_drewN | apply below_drew1 | refine below_set ?_ GE406.out) | exact HB.out)))); have n3_ := Aside0.mk (blk_below (g := gb406) (o := .cells #[.int .i64 t401, .int .i64 t402, .slice Ao15 t403.length co15] 29 (0, 0)) (by (with_reducible repeat (first | refine blk_drewN ?_ _ | refine blk_drew ?_ | refine blk_alloc ?_ _)); exact BK406.out) hb); have n4_ := Aside0.mk (below_step (by repeat (first | (with_reducible first | exact HB.out | apply below_alloc | apply pw_below_drewN | apply below_drew1 | refine below_set ?_ GE406.out) | exact HB.out)) hb); clear HO405; clear HO411; clear BK406; clear HB; have HO405 := n0_; have HO411 := n1_; have HO416 := n2_; have BK406 := n3_; have HB := n4_; clear n0_ n1_ n2_ n3_ n4_; (try clear hb); (try clear hb2); (try clear hk); (try clear hi); (try clear ho0); obtain ⟨Ao18, co18, eo18⟩ := Kd.N_slice HO411.out; subst eo18; obtain ⟨Ao19, co19, eo19⟩ := Kd.N_slice HO416.out; subst eo19) | ((with_reducible refine gate_dst (N := 21) rfl ?_); refine Kd.N_lit k29 _ 29 ?hg (N' := 21) ?hd (xs := ([(⟨t407, t408, t409⟩ : S29), (⟨t412, t413, t414⟩ : S29)] : List (S29))) (inner := [.int .i64 t407, .int .i64 t408, .slice Ao18 t409.length co18, .int .i64 t412, .int .i64 t413, .slice Ao19 t414.length co19]) (ok := (fun k_ => k_ ≠ gb406)) (okp := (fun k_ => k_ ≠ gb406)) ?hr ?hp (fun _ hk => hk) ((show ∀ k_, w17.heap.size ≤ k_ → (fun k_ => k_ ≠ gb406) k_ from fun k_ hk => Kd.freshB (g := gb406) (o := .cells #[.int .i64 t401, .int .i64 t402, .slice Ao15 t403.length co15] 29 (0, 0)) (by (with_reducible repeat (first | refine blk_drewN ?_ _ | refine blk_drew ?_ | refine blk_alloc ?_ _)); exact BK406.out) k_ hk) _ (Nat.le_refl _)) (Below.refl _ _) (Nat.le_refl _) (by simp) ?_; (case hd => rfl); (case hg => rfl); (case hr => first | (go_simp; done) | (go_simp; rfl)); (case hp => exact (Reps.c3 (show Kd.FK k29 _ _ (⟨t407, t408, t409⟩ : S29) [.int .i64 t407, .int .i64 t408, .slice Ao18 t409.length co18] from (k29_mkF _ _ (⟨t407, t408, t409⟩ : S29) (Kd.N_reads' (Kd.N_mono (ok' := (fun k_ => k_ ≠ gb406)) (HO411.out) (fun k_ hk => hk.1))).2.1 (Kd.N_F (Kd.N_mono (ok' := (fun k_ => k_ ≠ gb406)) (HO411.out) (fun k_ hk => hk.1))))) (Reps.c3 (show Kd.FK k29 _ _ (⟨t412, t413, t414⟩ : S29) [.int .i64 t412, .int .i64 t413, .slice Ao19 t414.length co19] from (k29_mkF _ _ (⟨t412, t413, t414⟩ : S29) (Kd.N_reads' (Kd.N_mono (ok' := (fun k_ => k_ ≠ gb406)) (HO416.out) (fun k_ hk => hk.2))).2.1 (Kd.N_F (Kd.N_mono (ok' := (fun k_ => k_ ≠ gb406)) (HO416.out) (fun k_ hk => hk.2))))) (Reps.none _ _)))); intro v418 w20 ho21 hb hg_ hnew_; clear hg_ hnew_; (first | rw [← Ny417.out] at ho21 | (simp only [Int.reduceToNat] at ho21; rw [← Ny417.out] at ho21)); have n0_ := Aside0.mk (Kd.V_elder' (by (with_reducible repeat (first | apply Kd.V_alloc | apply Kd.V_drewN | apply Kd.V_drew)); exact HO405.out) (Kd.N_base ho21) hb); have n1_ := Aside0.mk (Kd.N_lower ho21 (below_size (by repeat (first | (with_reducible first | exact HB.out | apply below_alloc | apply pw_below_drewN | apply below_drew1 | refine below_set ?_ GE406.out) | exact HB.out)))); have n2_ := Aside0.mk (blk_below (g := gb406) (o := .cells #[.int .i64 t401, .int .i64 t402, .slice Ao15 t403.length co15] 29 (0, 0)) (by (with_reducible repeat (first | refine blk_drewN ?_ _ | refine blk_drew ?_ | refine blk_alloc ?_ _)); exact BK406.out) hb); have n3_ := Aside0.mk (below_step (by repeat (first | (with_reducible first | exact HB.out | apply below_alloc | apply pw_below_drewN | apply below_drew1 | refine below_set ?_ GE406.out) | exact HB.out)) hb); clear HO405; clear BK406; clear HB; clear HO411; clear HO416; have HO405 := n0_; have HO419 := n1_; have BK406 := n2_; have HB := n3_; clear n0_ n1_ n2_ n3_; clear hb ho21; obtain ⟨Ao22, co22, eo22⟩ := Kd.N_slice HO419.out; subst eo22) | ((with_reducible refine gate_callee (f := 18) rfl ?_); refine goesL_ (some 22) rfl rfl Try.func18 (by kernel_rfl) rfl #[.int .i64 21, .slice Ao22 y417.length co22] rfl (by (try simp only [List.map_toArray, List.map_cons, List.map_nil]); first | done | rfl | (simp only [List.length_drop, List.length_take]; rfl)) ?_; (with_reducible refine (thyrsusref4_T.calls 21 (fun k_ => k_ ≠ gb406) _ _ y417 t420 t421 t422 _ ?side1 A10.out).mono ?_); (case side1 => exact Kd.N_V (HO419.out)); rintro e w23 ⟨v423, rfl, ho0, hb⟩; refine ⟨_, rfl, ?_⟩; have n0_ := Aside0.mk (Kd.V_below (by (with_reducible repeat (first | apply Kd.V_alloc | apply Kd.V_drewN | apply Kd.V_drew)); exact HO405.out) hb); have n1_ := Aside0.mk (Kd.N_below (by (with_reducible repeat (first | apply Kd.N_alloc | apply Kd.N_drewN | apply Kd.N_drew)); exact HO419.out) hb); have n2_ := Aside0.mk (Kd.V_lower (Kd.V_mono (ok' := fun k_ => k_ ≠ gb406) ho0 (fun k_ hk_ => Or.elim hk_ (fun hs_ => hs_) (fun hn_ => (Kd.freshB (g := gb406) (o := .cells #[.int .i64 t401, .int .i64 t402, .slice Ao15 t403.length co15] 29 (0, 0)) (by (with_reducible repeat (first | refine blk_drewN ?_ _ | refine blk_drew ?_ | refine blk_alloc ?_ _)); exact BK406.out) k_ hn_)))) (below_size (by repeat (first | (with_reducible first | exact HB.out | apply below_alloc | apply pw_below_drewN | apply below_drew1 | refine below_set ?_ GE406.out) | exact HB.out)))); have n3_ := Aside0.mk (blk_below (g := gb406) (o := .cells #[.int .i64 t401, .int .i64 t402, .slice Ao15 t403.length co15] 29 (0, 0)) (by (with_reducible repeat (first | refine blk_drewN ?_ _ | refine blk_drew ?_ | refine blk_alloc ?_ _)); exact BK406.out) hb); have n4_ := Aside0.mk (below_step (by repeat (first | (with_reducible first | exact HB.out | apply below_alloc | apply pw_below_drewN | apply below_drew1 | refine below_set ?_ GE406.out) | exact HB.out)) hb); clear HO405; clear HO419; clear BK406; clear HB; have HO405 := n0_; have HO419 := n1_; have HO424 := n2_; have BK406 := n3_; have HB := n4_; clear n0_ n1_ n2_ n3_ n4_; (try clear hb); (try clear hb2); (try clear hk); (try clear hi); (try clear ho0)) | ((with_reducible refine gate_dst (N := 8) rfl ?_); refine box_event ?hg (N := 8) ?hd (cs := #[.int .i64 0, .int .i64 0, .slice none 0 0]) (t := 29) ?hr ?_; (case hd => rfl); (case hg => rfl); (case hr => first | (go_simp; done) | (go_simp; rfl)); intro gb425 hg w24 hbox hb; have n0_ := Aside0.mk (Kd.V_below (Kd.V_elderB (by (with_reducible repeat (first | apply Kd.V_alloc | apply Kd.V_drewN | apply Kd.V_drew)); exact HO405.out) gb425 (Nat.le_of_eq hg.symm)) hb); have n1_ := Aside0.mk (Kd.N_below (Kd.N_elderB (by (with_reducible repeat (first | apply Kd.N_alloc | apply Kd.N_drewN | apply Kd.N_drew)); exact HO419.out) gb425 (Nat.le_of_eq hg.symm)) hb); have n2_ := Aside0.mk (Kd.V_below (Kd.V_elderB (by (with_reducible repeat (first | apply Kd.V_alloc | apply Kd.V_drewN | apply Kd.V_drew)); exact HO424.out) gb425 (Nat.le_of_eq hg.symm)) hb); have n3_ := Aside0.mk (blk_below (g := gb406) (o := .cells #[.int .i64 t401, .int .i64 t402, .slice Ao15 t403.length co15] 29 (0, 0)) (by (with_reducible repeat (first | refine blk_drewN ?_ _ | refine blk_drew ?_ | refine blk_alloc ?_ _)); exact BK406.out) hb); have n4_ := Aside0.mk (below_step (by repeat (first | (with_reducible first | exact HB.out | apply below_alloc | apply pw_below_drewN | apply below_drew1 | refine below_set ?_ GE406.out) | exact HB.out)) hb); have n5_ := Aside0.mk (hbox); have n6_ := Aside0.mk ((by rw [hg]; exact (below_size (by repeat (first | (with_reducible first | exact HB.out | apply below_alloc | apply pw_below_drewN | apply below_drew1 | refine below_set ?_ GE406.out) | exact HB.out))) : w.heap.size ≤ gb425)); have n7_ := Aside0.mk ((by rw [hg]; exact (below_size (by repeat (first | (with_reducible first | exact HB.out | apply below_alloc | apply pw_below_drewN | apply below_drew1 | refine below_set ?_ GE406.out) | exact HB.out))) : w.heap.size ≤ gb425)); have n8_ := Aside0.mk ((by rw [hg]; exact Nat.ne_of_lt (blk_lt (g := gb406) (o := .cells #[.int .i64 t401, .int .i64 t402, .slice Ao15 t403.length co15] 29 (0, 0)) (by (with_reducible repeat (first | refine blk_drewN ?_ _ | refine blk_drew ?_ | refine blk_alloc ?_ _)); exact BK406.out)) : gb406 ≠ gb425)); have n9_ := Aside0.mk ((by rw [hg]; exact Nat.ne_of_gt (blk_lt (g := gb406) (o := .cells #[.int .i64 t401, .int .i64 t402, .slice Ao15 t403.length co15] 29 (0, 0)) (by (with_reducible repeat (first | refine blk_drewN ?_ _ | refine blk_drew ?_ | refine blk_alloc ?_ _)); exact BK406.out)) : gb425 ≠ gb406)); clear HO405; clear HO419; clear HO424; clear BK406; clear HB; have HO405 := n0_; have HO419 := n1_; have HO424 := n2_; have BK406 := n3_; have HB := n4_; have BK425 := n5_; have GW425 := n6_; have GE425 := n7_; have NB406_425 := n8_; have NB425_406 := n9_; clear n0_ n1_ n2_ n3_ n4_ n5_ n6_ n7_ n8_ n9_; clear hb hbox hg; have hnb25 := NB425_406.out; have hnc25 := NB406_425.out; have hcz26_0 : w24.cell? ⟨gb425, 0, none⟩ = some (.int .i64 0) := (blk_cell BK425.out 0).trans rfl; have hcz26_1 : w24.cell? ⟨gb425, 1, none⟩ = some (.int .i64 0) := (blk_cell BK425.out 1).trans rfl; have hcz26_2 : w24.cell? ⟨gb425, 2, none⟩ = some (.slice none 0 0) := (blk_cell BK425.out 2).trans rfl; have hfz26_0 := blk_frozen BK425.out 0; have hfz26_1 := blk_frozen BK425.out 1; have hfz26_2 := blk_frozen BK425.out 2; obtain ⟨Ao27, co27, eo27⟩ := Kd.V_slice HO424.out; subst eo27))
    go_loopg [9] k (fun kq v9 w' => ∃ (x9_1 : Int) (x426000_1 : Int) (x426001_1 : Int) (x426002_1 : List (S29)) (u426002 : Value), v9 = .int .i64 x9_1 ∧ Aside0 (thyrsuslaw12_RunClosed.l0 kq a0 a1 t400 x9_1 t401 t402 t403 x426000_1 x426001_1 x426002_1 = some r) ∧ Aside0 (kq ≤ k) ∧ Aside0 (Kd.V k29 29 w' w.heap.size (fun k_ => k_ ≠ gb406 ∧ k_ ≠ gb425) (.slice Ao15 t403.length co15) t403) ∧ Aside0 (Kd.V k29 29 w' w.heap.size (fun k_ => k_ ≠ gb406 ∧ k_ ≠ gb425) u426002 x426002_1) ∧ Aside0 (w'.heap[gb406]? = some (.cells #[.int .i64 t401, .int .i64 t402, (.slice Ao15 t403.length co15)] 29 (0, 0))) ∧ Aside0 (w'.heap[gb425]? = some (.cells #[.int .i64 x426000_1, .int .i64 x426001_1, u426002] 29 (0, 0))) ∧ Aside0 (Below w.heap.size w w'))
    case atStart => exact ⟨(0), (t420), (t421), (t422), (.slice Ao27 t422.length co27), (by first | rfl | (simp; done) | (simp [*]; done)), H', ⟨Nat.le_refl _⟩, ⟨by (with_reducible repeat (first | apply Kd.V_alloc | apply Kd.V_drewN | apply Kd.V_drew)); exact Kd.V_mono (Kd.V_far (p := ⟨gb425, 2, none⟩) (Kd.V_far (p := ⟨gb425, 1, none⟩) (Kd.V_far (p := ⟨gb425, 0, none⟩) (Kd.V_mono HO405.out (fun k_ hk => (⟨hk, hk.2⟩ : _ ∧ k_ ≠ gb425))) (fun _ hk => hk.2) (.int .i64 t420)) (fun _ hk => hk.2) (.int .i64 t421)) (fun _ hk => hk.2) (.slice Ao27 t422.length co27)) (fun _ hk => ⟨hk.1.1.1.1.1.2, hk.1.2⟩)⟩, ⟨by (with_reducible repeat (first | apply Kd.V_alloc | apply Kd.V_drewN | apply Kd.V_drew)); exact Kd.V_mono (Kd.V_far (p := ⟨gb425, 2, none⟩) (Kd.V_far (p := ⟨gb425, 1, none⟩) (Kd.V_far (p := ⟨gb425, 0, none⟩) (Kd.V_mono HO424.out (fun k_ hk => (⟨hk, hk.2⟩ : _ ∧ k_ ≠ gb425))) (fun _ hk => hk.2) (.int .i64 t420)) (fun _ hk => hk.2) (.int .i64 t421)) (fun _ hk => hk.2) (.slice Ao27 t422.length co27)) (fun _ hk => ⟨hk.1.1, hk.1.2⟩)⟩, ⟨by (with_reducible repeat (first | refine blk_drewN ?_ _ | refine blk_drew ?_ | refine blk_alloc ?_ _)); refine blk_far ?_ NB406_425.out _; (with_reducible repeat (first | refine blk_drewN ?_ _ | refine blk_drew ?_ | refine blk_alloc ?_ _)); refine blk_far ?_ NB406_425.out _; (with_reducible repeat (first | refine blk_drewN ?_ _ | refine blk_drew ?_ | refine blk_alloc ?_ _)); refine blk_far ?_ NB406_425.out _; (with_reducible repeat (first | refine blk_drewN ?_ _ | refine blk_drew ?_ | refine blk_alloc ?_ _)); exact BK406.out⟩, ⟨by (with_reducible repeat (first | refine blk_drewN ?_ _ | refine blk_drew ?_ | refine blk_alloc ?_ _)); refine blk_put (cs := #[.int .i64 t420, .int .i64 t421, .slice none 0 0]) ?_ 2 _ rfl; (with_reducible repeat (first | refine blk_drewN ?_ _ | refine blk_drew ?_ | refine blk_alloc ?_ _)); refine blk_put (cs := #[.int .i64 t420, .int .i64 0, .slice none 0 0]) ?_ 1 _ rfl; (with_reducible repeat (first | refine blk_drewN ?_ _ | refine blk_drew ?_ | refine blk_alloc ?_ _)); refine blk_put (cs := #[.int .i64 0, .int .i64 0, .slice none 0 0]) ?_ 0 _ rfl; (with_reducible repeat (first | refine blk_drewN ?_ _ | refine blk_drew ?_ | refine blk_alloc ?_ _)); exact BK425.out⟩, ⟨by repeat (first | (with_reducible first | exact HB.out | apply below_alloc | apply pw_below_drewN | apply below_drew1 | refine below_set ?_ GE406.out | refine below_set ?_ GE425.out) | exact HB.out)⟩⟩
    case round =>
      clear H'
      try clear c1
      try clear c2
      try clear p2
      try clear c3
      try clear c5
      try clear c7
      try clear c9
      try clear c13
      try clear c16
      try clear c17
      try clear c18
      try clear c25
      try clear hcz14_0
      try clear hcz14_1
      try clear hcz14_2
      try clear hcz26_0
      try clear hcz26_1
      try clear hcz26_2
      try clear hfz14_0
      try clear hfz14_1
      try clear hfz14_2
      try clear hfz26_0
      try clear hfz26_1
      try clear hfz26_2
      try clear HO_407002
      try clear HO_426002
      try clear BK406
      try clear BK425
      try clear HB
      obtain ⟨x9_1, x426000_1, x426001_1, x426002_1, u426002, rfl, HA, HK1, HO_407002, HO_426002, BK406, BK425, HB⟩ := hrel
      cases gk with
      | zero => exact absurd HA.out (by simp [thyrsuslaw12_RunClosed.l0])
      | succ k1 =>
        have H := HA.out
        clear HA
        simp only [thyrsuslaw12_RunClosed.l0] at H
        by_cases c28 : x9_1 < t400
        · rw [if_pos c28] at H
          have c28b0 : decide (x9_1 < t400) = true := decide_eq_true c28
          clear c28
          replace H := Option.bind_eq_some_iff.mp H
          obtain ⟨⟨t426, t427, t428⟩, A290, H⟩ := H
          replace H : ((thyrsusref4_T.f 28 (([(⟨t426, t427, t428⟩ : S29), (⟨x426000_1, x426001_1, x426002_1⟩ : S29)] : List (S29)))).bind fun bt434 => (thyrsuslaw12_RunClosed.l0 k1 a0 a1 t400 (wrap64 (x9_1 + 1)) t401 t402 t403 bt434.1 bt434.2.1 bt434.2.2)) = some r := H
          have A29 := Aside0.mk A290
          clear A290
          obtain ⟨y431, hy431⟩ : ∃ y_ : List (S29), y_ = (([(⟨t426, t427, t428⟩ : S29), (⟨x426000_1, x426001_1, x426002_1⟩ : S29)] : List (S29))) := ⟨_, rfl⟩
          replace H : ((thyrsusref4_T.f 28 y431).bind fun bt434 => (thyrsuslaw12_RunClosed.l0 k1 a0 a1 t400 (wrap64 (x9_1 + 1)) t401 t402 t403 bt434.1 bt434.2.1 bt434.2.2)) = some r := by first | (rw [hy431]; with_reducible exact H) | (have H2_ := (Option.bind_some _ _).symm.trans H; rw [hy431]; with_reducible exact H2_) | (have H2_ := (Option.bind_some _ _).symm.trans H; with_reducible exact H2_) | with_reducible exact H | (rw [hy431]; exact H) | exact H
          have Ny431 := Aside0.mk hy431
          clear hy431
          replace H := Option.bind_eq_some_iff.mp H
          obtain ⟨⟨t434, t435, t436⟩, A300, H⟩ := H
          replace H : (thyrsuslaw12_RunClosed.l0 k1 a0 a1 t400 (wrap64 (x9_1 + 1)) t401 t402 t403 t434 t435 t436) = some r := H
          have A30 := Aside0.mk A300
          clear A300
          have H' := Aside0.mk H
          clear H
          try go_wp2
          have n0_ := Aside0.mk (Kd.V_drew HO_407002.out)
          have n1_ := Aside0.mk (Kd.V_drew HO_426002.out)
          have n2_ := Aside0.mk (blk_drew BK406.out)
          have n3_ := Aside0.mk (blk_drew BK425.out)
          have n4_ := Aside0.mk (below_drew1 HB.out)
          clear HO_407002
          clear HO_426002
          clear BK406
          clear BK425
          clear HB
          have HO_407002 := n0_
          have HO_426002 := n1_
          have BK406 := n2_
          have BK425 := n3_
          have HB := n4_
          clear n0_ n1_ n2_ n3_ n4_
          refine start_ (n := 6) (S := fun w' => w'.cell? ⟨gb425, 0, none⟩ = some (.int .i64 x426000_1) ∧ w'.cell? ⟨gb425, 1, none⟩ = some (.int .i64 x426001_1) ∧ w'.cell? ⟨gb425, 2, none⟩ = some (u426002)) (ds := [5]) #[false, false, false, false, false, false] (by kernel_rfl) rfl rfl ⟨(blk_cell BK425.out 0).trans rfl, (blk_cell BK425.out 1).trans rfl, (blk_cell BK425.out 2).trans rfl⟩ (fun hHeld => ?_)
          generalize wr.drew = w31 at HO_407002 HO_426002 BK406 BK425 HB hHeld ⊢
          refine pure_ (i := 0) (N := some 28) (v := ?_) (a' := ?_) #[true, false, false, false, false, false] rfl rfl (by kernel_rfl) (fun _ _ _ h => h) (Or.inl ⟨by rfl, ?_⟩) ?_ ?_
          rotate_left
          · intro w'
            go_simp
            with_reducible rfl
          rotate_left
          · simp only [Act.put, List.setIfInBounds_toArray, List.set_cons_zero, List.set_cons_succ, i64_w, i32_w, u8_w, u32_w]
            rfl
          refine take_ (i := 2) (N := some 30) (v := ?_) (a' := ?_) #[true, false, true, false, false, false] rfl rfl (by kernel_rfl) (fun _ _ _ h => h) (Or.inl ⟨by rfl, ?_⟩) hHeld ?_ ?_
          rotate_left
          · rintro w' ⟨s0, s1, s2⟩
            go_simp
            with_reducible rfl
          rotate_left
          · simp only [Act.put, List.setIfInBounds_toArray, List.set_cons_zero, List.set_cons_succ, i64_w, i32_w, u8_w, u32_w]
            rfl
          refine one_ (i := 1) (N := some 29) #[true, true, true, false, false, false] rfl rfl (by kernel_rfl) (by decide) (fun K hK => ?_)
          refine goes_ Try.func16 (by kernel_rfl) rfl #[.int .i64 a1] (by rfl) rfl rfl (by (try simp only [List.map_toArray, List.map_cons, List.map_nil]); first | done | rfl | (simp only [List.length_drop, List.length_take]; rfl)) ?_
          with_reducible refine (thyrsusref4_Int.calls a1 t426 t427 t428 _ A29.out).mono ?_
          rintro e w32 ⟨v429, rfl, ho0, hb⟩
          refine ⟨_, rfl, ?_⟩
          have n0_ := Aside0.mk (Kd.V_elder' (by (with_reducible repeat (first | apply Kd.V_alloc | apply Kd.V_drewN | apply Kd.V_drew)); exact HO_407002.out) (by first | exact Kd.N_base ho0 | exact Kd.N_base (Kd.R_N ho0)) hb)
          have n1_ := Aside0.mk (Kd.V_elder' (by (with_reducible repeat (first | apply Kd.V_alloc | apply Kd.V_drewN | apply Kd.V_drew)); exact HO_426002.out) (by first | exact Kd.N_base ho0 | exact Kd.N_base (Kd.R_N ho0)) hb)
          have n2_ := Aside0.mk (Kd.N_lower (Kd.N_mono (ok' := fun k_ => k_ ≠ gb406 ∧ k_ ≠ gb425) (Kd.R_N (Kd.R_bound ho0)) (fun k_ hk_ => ⟨(Kd.freshB (g := gb406) (o := .cells #[.int .i64 t401, .int .i64 t402, .slice Ao15 t403.length co15] 29 (0, 0)) (by (with_reducible repeat (first | refine blk_drewN ?_ _ | refine blk_drew ?_ | refine blk_alloc ?_ _)); exact BK406.out) k_ hk_.2.1), (Kd.freshB (g := gb425) (o := .cells #[.int .i64 x426000_1, .int .i64 x426001_1, u426002] 29 (0, 0)) (by (with_reducible repeat (first | refine blk_drewN ?_ _ | refine blk_drew ?_ | refine blk_alloc ?_ _)); exact BK425.out) k_ hk_.2.1)⟩)) (below_size (by repeat (first | (with_reducible first | exact HB.out | apply below_alloc | apply pw_below_drewN | apply below_drew1 | refine below_set ?_ GE406.out | refine below_set ?_ GE425.out) | exact HB.out))))
          have n3_ := Aside0.mk (blk_below (g := gb406) (o := .cells #[.int .i64 t401, .int .i64 t402, .slice Ao15 t403.length co15] 29 (0, 0)) (by (with_reducible repeat (first | refine blk_drewN ?_ _ | refine blk_drew ?_ | refine blk_alloc ?_ _)); exact BK406.out) hb)
          have n4_ := Aside0.mk (blk_below (g := gb425) (o := .cells #[.int .i64 x426000_1, .int .i64 x426001_1, u426002] 29 (0, 0)) (by (with_reducible repeat (first | refine blk_drewN ?_ _ | refine blk_drew ?_ | refine blk_alloc ?_ _)); exact BK425.out) hb)
          have n5_ := Aside0.mk (below_step (by repeat (first | (with_reducible first | exact HB.out | apply below_alloc | apply pw_below_drewN | apply below_drew1 | refine below_set ?_ GE406.out | refine below_set ?_ GE425.out) | exact HB.out)) hb)
          clear HO_407002
          clear HO_426002
          clear BK406
          clear BK425
          clear HB
          have HO_407002 := n0_
          have HO_426002 := n1_
          have HO430 := n2_
          have BK406 := n3_
          have BK425 := n4_
          have HB := n5_
          clear n0_ n1_ n2_ n3_ n4_ n5_
          (try clear hb)
          (try clear hb2)
          (try clear hk)
          (try clear hi)
          (try clear ho0)
          obtain ⟨Ao33, co33, eo33⟩ := Kd.N_slice HO430.out
          (first | subst eo33 | (injection eo33 with f1_ f2_ f3_; have f4_ := f1_.symm; have f5_ := f3_.symm; clear f1_ f2_ f3_; subst f4_; subst f5_))
          obtain ⟨Ao34, co34, eo34⟩ := Kd.V_slice HO_426002.out
          (first | subst eo34 | (injection eo34 with f1_ f2_ f3_; have f4_ := f1_.symm; have f5_ := f3_.symm; clear f1_ f2_ f3_; subst f4_; subst f5_))
          refine hK.out _ _ ⟨(blk_cell BK425.out 0).trans rfl, (blk_cell BK425.out 1).trans rfl, (blk_cell BK425.out 2).trans rfl⟩ (fun hHeld => ?_)
          clear hK K
          refine norm_ (a' := ?_) ?_ ?_
          rotate_left
          · show Act.put _ (some 29) _ = _
            simp only [Act.put, List.setIfInBounds_toArray, List.set_cons_zero, List.set_cons_succ, i64_w, i32_w, u8_w, u32_w]
            rfl
          refine one_ (i := 3) (N := some 31) #[true, true, true, true, false, false] rfl rfl (by kernel_rfl) (by decide) (fun K hK => ?_)
          refine Kd.N_lit_step k29 _ 29 ?hg (N' := 31) ?hd (xs := ([(⟨t426, t427, t428⟩ : S29), (⟨x426000_1, x426001_1, x426002_1⟩ : S29)] : List (S29))) (inner := [.int .i64 t426, .int .i64 t427, .slice Ao33 t428.length co33, .int .i64 x426000_1, .int .i64 x426001_1, .slice Ao34 x426002_1.length co34]) (ok := (fun k_ => k_ ≠ gb406 ∧ k_ ≠ gb425)) (okp := (fun k_ => k_ ≠ gb406 ∧ k_ ≠ gb425)) ?hr ?hp (fun _ hk => hk) ((show ∀ k_, w32.heap.size ≤ k_ → (fun k_ => k_ ≠ gb406 ∧ k_ ≠ gb425) k_ from fun k_ hk => ⟨Kd.freshB (g := gb406) (o := .cells #[.int .i64 t401, .int .i64 t402, .slice Ao15 t403.length co15] 29 (0, 0)) (by (with_reducible repeat (first | refine blk_drewN ?_ _ | refine blk_drew ?_ | refine blk_alloc ?_ _)); exact BK406.out) k_ hk, Kd.freshB (g := gb425) (o := .cells #[.int .i64 x426000_1, .int .i64 x426001_1, .slice Ao34 x426002_1.length co34] 29 (0, 0)) (by (with_reducible repeat (first | refine blk_drewN ?_ _ | refine blk_drew ?_ | refine blk_alloc ?_ _)); exact BK425.out) k_ hk⟩) _ (Nat.le_refl _)) (Below.refl _ _) (Nat.le_refl _) (by simp) ?_; (case hd => rfl); (case hg => rfl); (case hr => first | (go_simp; done) | (go_simp; rfl)); (case hp => exact (Reps.c3 (show Kd.FK k29 _ _ (⟨t426, t427, t428⟩ : S29) [.int .i64 t426, .int .i64 t427, .slice Ao33 t428.length co33] from (k29_mkF _ _ (⟨t426, t427, t428⟩ : S29) (Kd.N_reads' (Kd.N_mono (ok' := (fun k_ => k_ ≠ gb406 ∧ k_ ≠ gb425)) (HO430.out) (fun k_ hk => ⟨hk.1, hk.2⟩))).2.1 (Kd.N_F (Kd.N_mono (ok' := (fun k_ => k_ ≠ gb406 ∧ k_ ≠ gb425)) (HO430.out) (fun k_ hk => ⟨hk.1, hk.2⟩))))) (Reps.c3 (show Kd.FK k29 _ _ (⟨x426000_1, x426001_1, x426002_1⟩ : S29) [.int .i64 x426000_1, .int .i64 x426001_1, .slice Ao34 x426002_1.length co34] from (k29_mkF _ _ (⟨x426000_1, x426001_1, x426002_1⟩ : S29) (Kd.V_reads' (Kd.V_mono (ok' := (fun k_ => k_ ≠ gb406 ∧ k_ ≠ gb425)) (HO_426002.out) (fun k_ hk => ⟨hk.1.1, hk.1.2⟩))).2.1 (Kd.V_F (Kd.V_mono (ok' := (fun k_ => k_ ≠ gb406 ∧ k_ ≠ gb425)) (HO_426002.out) (fun k_ hk => ⟨hk.1.1, hk.1.2⟩))))) (Reps.none _ _))))
          intro v432 w35 ho36 hb hg_ hnew_
          clear hg_ hnew_
          (first | rw [← Ny431.out] at ho36 | (simp only [Int.reduceToNat] at ho36; rw [← Ny431.out] at ho36))
          have n0_ := Aside0.mk (Kd.V_elder' (by (with_reducible repeat (first | apply Kd.V_alloc | apply Kd.V_drewN | apply Kd.V_drew)); exact HO_407002.out) (Kd.N_base ho36) hb)
          have n1_ := Aside0.mk (Kd.V_elder' (by (with_reducible repeat (first | apply Kd.V_alloc | apply Kd.V_drewN | apply Kd.V_drew)); exact HO_426002.out) (Kd.N_base ho36) hb)
          have n2_ := Aside0.mk (Kd.N_lower ho36 (below_size (by repeat (first | (with_reducible first | exact HB.out | apply below_alloc | apply pw_below_drewN | apply below_drew1 | refine below_set ?_ GE406.out | refine below_set ?_ GE425.out) | exact HB.out))))
          have n3_ := Aside0.mk (blk_below (g := gb406) (o := .cells #[.int .i64 t401, .int .i64 t402, .slice Ao15 t403.length co15] 29 (0, 0)) (by (with_reducible repeat (first | refine blk_drewN ?_ _ | refine blk_drew ?_ | refine blk_alloc ?_ _)); exact BK406.out) hb)
          have n4_ := Aside0.mk (blk_below (g := gb425) (o := .cells #[.int .i64 x426000_1, .int .i64 x426001_1, .slice Ao34 x426002_1.length co34] 29 (0, 0)) (by (with_reducible repeat (first | refine blk_drewN ?_ _ | refine blk_drew ?_ | refine blk_alloc ?_ _)); exact BK425.out) hb)
          have n5_ := Aside0.mk (below_step (by repeat (first | (with_reducible first | exact HB.out | apply below_alloc | apply pw_below_drewN | apply below_drew1 | refine below_set ?_ GE406.out | refine below_set ?_ GE425.out) | exact HB.out)) hb)
          clear HO_407002
          clear HO_426002
          clear BK406
          clear BK425
          clear HB
          clear HO430
          have HO_407002 := n0_
          have HO_426002 := n1_
          have HO433 := n2_
          have BK406 := n3_
          have BK425 := n4_
          have HB := n5_
          clear n0_ n1_ n2_ n3_ n4_ n5_
          clear hb ho36
          obtain ⟨Ao37, co37, eo37⟩ := Kd.N_slice HO433.out
          (first | subst eo37 | (injection eo37 with f1_ f2_ f3_; have f4_ := f1_.symm; have f5_ := f3_.symm; clear f1_ f2_ f3_; subst f4_; subst f5_))
          refine hK.out _ _ ⟨(blk_cell BK425.out 0).trans rfl, (blk_cell BK425.out 1).trans rfl, (blk_cell BK425.out 2).trans rfl⟩ (fun hHeld => ?_)
          clear hK K
          refine norm_ (a' := ?_) ?_ ?_
          rotate_left
          · show Act.put _ (some 31) _ = _
            simp only [Act.put, List.setIfInBounds_toArray, List.set_cons_zero, List.set_cons_succ, i64_w, i32_w, u8_w, u32_w]
            rfl
          refine one_ (i := 4) (N := some 32) #[true, true, true, true, true, false] rfl rfl (by kernel_rfl) (by decide) (fun K hK => ?_)
          refine goes_ Try.func18 (by kernel_rfl) rfl #[.int .i64 28, .slice Ao37 y431.length co37] (by rfl) rfl rfl (by (try simp only [List.map_toArray, List.map_cons, List.map_nil]); first | done | rfl | (simp only [List.length_drop, List.length_take]; rfl)) ?_
          with_reducible refine (thyrsusref4_T.calls 28 (fun k_ => (k_ ≠ gb406 ∧ k_ ≠ gb425)) _ _ y431 t434 t435 t436 _ ?side1 A30.out).mono ?_
          (case side1 => exact Kd.N_V (HO433.out))
          rintro e w38 ⟨v437, rfl, ho0, hb⟩
          refine ⟨_, rfl, ?_⟩
          have n0_ := Aside0.mk (Kd.V_below (by (with_reducible repeat (first | apply Kd.V_alloc | apply Kd.V_drewN | apply Kd.V_drew)); exact HO_407002.out) hb)
          have n1_ := Aside0.mk (Kd.V_below (by (with_reducible repeat (first | apply Kd.V_alloc | apply Kd.V_drewN | apply Kd.V_drew)); exact HO_426002.out) hb)
          have n2_ := Aside0.mk (Kd.N_below (by (with_reducible repeat (first | apply Kd.N_alloc | apply Kd.N_drewN | apply Kd.N_drew)); exact HO433.out) hb)
          have n3_ := Aside0.mk (Kd.V_lower (Kd.V_mono (ok' := fun k_ => k_ ≠ gb406 ∧ k_ ≠ gb425) ho0 (fun k_ hk_ => ⟨Or.elim hk_ (fun hs_ => hs_.1) (fun hn_ => (Kd.freshB (g := gb406) (o := .cells #[.int .i64 t401, .int .i64 t402, .slice Ao15 t403.length co15] 29 (0, 0)) (by (with_reducible repeat (first | refine blk_drewN ?_ _ | refine blk_drew ?_ | refine blk_alloc ?_ _)); exact BK406.out) k_ hn_)), Or.elim hk_ (fun hs_ => hs_.2) (fun hn_ => (Kd.freshB (g := gb425) (o := .cells #[.int .i64 x426000_1, .int .i64 x426001_1, .slice Ao34 x426002_1.length co34] 29 (0, 0)) (by (with_reducible repeat (first | refine blk_drewN ?_ _ | refine blk_drew ?_ | refine blk_alloc ?_ _)); exact BK425.out) k_ hn_))⟩)) (below_size (by repeat (first | (with_reducible first | exact HB.out | apply below_alloc | apply pw_below_drewN | apply below_drew1 | refine below_set ?_ GE406.out | refine below_set ?_ GE425.out) | exact HB.out))))
          have n4_ := Aside0.mk (blk_below (g := gb406) (o := .cells #[.int .i64 t401, .int .i64 t402, .slice Ao15 t403.length co15] 29 (0, 0)) (by (with_reducible repeat (first | refine blk_drewN ?_ _ | refine blk_drew ?_ | refine blk_alloc ?_ _)); exact BK406.out) hb)
          have n5_ := Aside0.mk (blk_below (g := gb425) (o := .cells #[.int .i64 x426000_1, .int .i64 x426001_1, .slice Ao34 x426002_1.length co34] 29 (0, 0)) (by (with_reducible repeat (first | refine blk_drewN ?_ _ | refine blk_drew ?_ | refine blk_alloc ?_ _)); exact BK425.out) hb)
          have n6_ := Aside0.mk (below_step (by repeat (first | (with_reducible first | exact HB.out | apply below_alloc | apply pw_below_drewN | apply below_drew1 | refine below_set ?_ GE406.out | refine below_set ?_ GE425.out) | exact HB.out)) hb)
          clear HO_407002
          clear HO_426002
          clear HO433
          clear BK406
          clear BK425
          clear HB
          have HO_407002 := n0_
          have HO_426002 := n1_
          have HO433 := n2_
          have HO438 := n3_
          have BK406 := n4_
          have BK425 := n5_
          have HB := n6_
          clear n0_ n1_ n2_ n3_ n4_ n5_ n6_
          (try clear hb)
          (try clear hb2)
          (try clear hk)
          (try clear hi)
          (try clear ho0)
          obtain ⟨Ao41, co41, eo41⟩ := Kd.V_slice HO438.out
          (first | subst eo41 | (injection eo41 with f1_ f2_ f3_; have f4_ := f1_.symm; have f5_ := f3_.symm; clear f1_ f2_ f3_; subst f4_; subst f5_))
          refine hK.out _ _ ⟨(blk_cell BK425.out 0).trans rfl, (blk_cell BK425.out 1).trans rfl, (blk_cell BK425.out 2).trans rfl⟩ (fun hHeld => ?_)
          clear hK K
          refine norm_ (a' := ?_) ?_ ?_
          rotate_left
          · show Act.put _ (some 32) _ = _
            simp only [Act.put, List.setIfInBounds_toArray, List.set_cons_zero, List.set_cons_succ, i64_w, i32_w, u8_w, u32_w]
            rfl
          refine last_ (i := 5) (N := none) #[true, true, true, true, true, true] rfl rfl (by kernel_rfl) (by decide) (fun K hK => ?_)
          have hs39 : w38.cell? ⟨gb425, 0, none⟩ = some (.int .i64 x426000_1) := (blk_cell BK425.out 0).trans rfl
          have hfs39 := blk_frozen BK425.out 0
          have hns39_0 := NB406_425.out
          have hms39_0 := NB425_406.out
          have hs40 : w38.cell? ⟨gb425, 1, none⟩ = some (.int .i64 x426001_1) := (blk_cell BK425.out 1).trans rfl
          have hfs40 := blk_frozen BK425.out 1
          have hns40_0 := NB406_425.out
          have hms40_0 := NB425_406.out
          have hs42 : w38.cell? ⟨gb425, 2, none⟩ = some (.slice Ao34 x426002_1.length co34) := (blk_cell BK425.out 2).trans rfl
          have hfs42 := blk_frozen BK425.out 2
          have hns42_0 := NB406_425.out
          have hms42_0 := NB425_406.out
          refine skip_ (w1 := ?_) (by rfl) rfl ?_ ?_
          rotate_left
          · go_simp
            rfl
          refine hK.out _ _ ?_
          clear hK K
          refine done_ (by kernel_rfl) ?_
          try go_wp2
          go_roundg k1
          case measure => have := HK1.out; omega
          case rel => exact ⟨(wrap64 (x9_1 + 1)), (t434), (t435), (t436), (.slice Ao41 t436.length co41), (by first | rfl | (simp; done) | (simp [*]; done)), H', ⟨by have := HK1.out; omega⟩, ⟨by (with_reducible repeat (first | apply Kd.V_alloc | apply Kd.V_drewN | apply Kd.V_drew)); exact Kd.V_mono (Kd.V_far (p := ⟨gb425, 2, none⟩) (Kd.V_far (p := ⟨gb425, 1, none⟩) (Kd.V_far (p := ⟨gb425, 0, none⟩) (Kd.V_mono HO_407002.out (fun k_ hk => (⟨hk, hk.1.1.2⟩ : _ ∧ k_ ≠ gb425))) (fun _ hk => hk.2) (.int .i64 t434)) (fun _ hk => hk.2) (.int .i64 t435)) (fun _ hk => hk.2) (.slice Ao41 t436.length co41)) (fun _ hk => ⟨hk.1.1.1.1, hk.1.1.1.2⟩)⟩, ⟨by (with_reducible repeat (first | apply Kd.V_alloc | apply Kd.V_drewN | apply Kd.V_drew)); exact Kd.V_mono (Kd.V_far (p := ⟨gb425, 2, none⟩) (Kd.V_far (p := ⟨gb425, 1, none⟩) (Kd.V_far (p := ⟨gb425, 0, none⟩) (Kd.V_mono HO438.out (fun k_ hk => (⟨hk, hk.2⟩ : _ ∧ k_ ≠ gb425))) (fun _ hk => hk.2) (.int .i64 t434)) (fun _ hk => hk.2) (.int .i64 t435)) (fun _ hk => hk.2) (.slice Ao41 t436.length co41)) (fun _ hk => ⟨hk.1.1, hk.1.2⟩)⟩, ⟨by (with_reducible repeat (first | refine blk_drewN ?_ _ | refine blk_drew ?_ | refine blk_alloc ?_ _)); refine blk_far ?_ NB406_425.out _; (with_reducible repeat (first | refine blk_drewN ?_ _ | refine blk_drew ?_ | refine blk_alloc ?_ _)); refine blk_far ?_ NB406_425.out _; (with_reducible repeat (first | refine blk_drewN ?_ _ | refine blk_drew ?_ | refine blk_alloc ?_ _)); refine blk_far ?_ NB406_425.out _; (with_reducible repeat (first | refine blk_drewN ?_ _ | refine blk_drew ?_ | refine blk_alloc ?_ _)); exact BK406.out⟩, ⟨by (with_reducible repeat (first | refine blk_drewN ?_ _ | refine blk_drew ?_ | refine blk_alloc ?_ _)); refine blk_put (cs := #[.int .i64 t434, .int .i64 t435, .slice Ao34 x426002_1.length co34]) ?_ 2 _ rfl; (with_reducible repeat (first | refine blk_drewN ?_ _ | refine blk_drew ?_ | refine blk_alloc ?_ _)); refine blk_put (cs := #[.int .i64 t434, .int .i64 x426001_1, .slice Ao34 x426002_1.length co34]) ?_ 1 _ rfl; (with_reducible repeat (first | refine blk_drewN ?_ _ | refine blk_drew ?_ | refine blk_alloc ?_ _)); refine blk_put (cs := #[.int .i64 x426000_1, .int .i64 x426001_1, .slice Ao34 x426002_1.length co34]) ?_ 0 _ rfl; (with_reducible repeat (first | refine blk_drewN ?_ _ | refine blk_drew ?_ | refine blk_alloc ?_ _)); exact BK425.out⟩, ⟨by repeat (first | (with_reducible first | exact HB.out | apply below_alloc | apply pw_below_drewN | apply below_drew1 | refine below_set ?_ GE406.out | refine below_set ?_ GE425.out) | exact HB.out)⟩⟩
        · rw [if_neg c28] at H
          have c28b0 : decide (x9_1 < t400) = false := decide_eq_false c28
          clear c28
          replace H := Option.bind_eq_some_iff.mp H
          obtain ⟨⟨t439, t440, t441⟩, A430, H⟩ := H
          replace H : ((thyrsusref4_V.f 1).bind fun bt444 => ((thyrsusref4_V.f 0).bind fun bt449 => ((thyrsuslaw12_prim.f 0 bt444.1 bt444.2.1 bt444.2.2 bt449.1 bt449.2.1 bt449.2.2).bind fun bt454 => ((thyrsusref4_T.f 20 (([(⟨t401, t402, t403⟩ : S29), (⟨bt454.1, bt454.2.1, bt454.2.2⟩ : S29)] : List (S29)))).bind fun bt462 => ((thyrsusref4_T.f 28 (([(⟨bt462.1, bt462.2.1, bt462.2.2⟩ : S29), (⟨x426000_1, x426001_1, x426002_1⟩ : S29)] : List (S29)))).bind fun bt470 => ((thyrsusref4_T.f 28 (([(⟨t439, t440, t441⟩ : S29), (⟨bt470.1, bt470.2.1, bt470.2.2⟩ : S29)] : List (S29)))).bind fun bt478 => ((run_Run.f k1 bt478.1 bt478.2.1 bt478.2.2 5).bind fun bt483 => (if bt483.2.2.2.2 = 0 then (if bt483.2.1 = (wrap64 (a0 + 1)) then (some (bt483.2.2.2.1 == 1)) else (none)) else (none))))))))) = some r := H
          have A43 := Aside0.mk A430
          clear A430
          replace H := Option.bind_eq_some_iff.mp H
          obtain ⟨⟨t444, t445, t446⟩, A440, H⟩ := H
          replace H : ((thyrsusref4_V.f 0).bind fun bt449 => ((thyrsuslaw12_prim.f 0 t444 t445 t446 bt449.1 bt449.2.1 bt449.2.2).bind fun bt454 => ((thyrsusref4_T.f 20 (([(⟨t401, t402, t403⟩ : S29), (⟨bt454.1, bt454.2.1, bt454.2.2⟩ : S29)] : List (S29)))).bind fun bt462 => ((thyrsusref4_T.f 28 (([(⟨bt462.1, bt462.2.1, bt462.2.2⟩ : S29), (⟨x426000_1, x426001_1, x426002_1⟩ : S29)] : List (S29)))).bind fun bt470 => ((thyrsusref4_T.f 28 (([(⟨t439, t440, t441⟩ : S29), (⟨bt470.1, bt470.2.1, bt470.2.2⟩ : S29)] : List (S29)))).bind fun bt478 => ((run_Run.f k1 bt478.1 bt478.2.1 bt478.2.2 5).bind fun bt483 => (if bt483.2.2.2.2 = 0 then (if bt483.2.1 = (wrap64 (a0 + 1)) then (some (bt483.2.2.2.1 == 1)) else (none)) else (none)))))))) = some r := H
          have A44 := Aside0.mk A440
          clear A440
          replace H := Option.bind_eq_some_iff.mp H
          obtain ⟨⟨t449, t450, t451⟩, A450, H⟩ := H
          replace H : ((thyrsuslaw12_prim.f 0 t444 t445 t446 t449 t450 t451).bind fun bt454 => ((thyrsusref4_T.f 20 (([(⟨t401, t402, t403⟩ : S29), (⟨bt454.1, bt454.2.1, bt454.2.2⟩ : S29)] : List (S29)))).bind fun bt462 => ((thyrsusref4_T.f 28 (([(⟨bt462.1, bt462.2.1, bt462.2.2⟩ : S29), (⟨x426000_1, x426001_1, x426002_1⟩ : S29)] : List (S29)))).bind fun bt470 => ((thyrsusref4_T.f 28 (([(⟨t439, t440, t441⟩ : S29), (⟨bt470.1, bt470.2.1, bt470.2.2⟩ : S29)] : List (S29)))).bind fun bt478 => ((run_Run.f k1 bt478.1 bt478.2.1 bt478.2.2 5).bind fun bt483 => (if bt483.2.2.2.2 = 0 then (if bt483.2.1 = (wrap64 (a0 + 1)) then (some (bt483.2.2.2.1 == 1)) else (none)) else (none))))))) = some r := H
          have A45 := Aside0.mk A450
          clear A450
          replace H := Option.bind_eq_some_iff.mp H
          obtain ⟨⟨t454, t455, t456⟩, A460, H⟩ := H
          replace H : ((thyrsusref4_T.f 20 (([(⟨t401, t402, t403⟩ : S29), (⟨t454, t455, t456⟩ : S29)] : List (S29)))).bind fun bt462 => ((thyrsusref4_T.f 28 (([(⟨bt462.1, bt462.2.1, bt462.2.2⟩ : S29), (⟨x426000_1, x426001_1, x426002_1⟩ : S29)] : List (S29)))).bind fun bt470 => ((thyrsusref4_T.f 28 (([(⟨t439, t440, t441⟩ : S29), (⟨bt470.1, bt470.2.1, bt470.2.2⟩ : S29)] : List (S29)))).bind fun bt478 => ((run_Run.f k1 bt478.1 bt478.2.1 bt478.2.2 5).bind fun bt483 => (if bt483.2.2.2.2 = 0 then (if bt483.2.1 = (wrap64 (a0 + 1)) then (some (bt483.2.2.2.1 == 1)) else (none)) else (none)))))) = some r := H
          have A46 := Aside0.mk A460
          clear A460
          obtain ⟨y459, hy459⟩ : ∃ y_ : List (S29), y_ = (([(⟨t401, t402, t403⟩ : S29), (⟨t454, t455, t456⟩ : S29)] : List (S29))) := ⟨_, rfl⟩
          replace H : ((thyrsusref4_T.f 20 y459).bind fun bt462 => ((thyrsusref4_T.f 28 (([(⟨bt462.1, bt462.2.1, bt462.2.2⟩ : S29), (⟨x426000_1, x426001_1, x426002_1⟩ : S29)] : List (S29)))).bind fun bt470 => ((thyrsusref4_T.f 28 (([(⟨t439, t440, t441⟩ : S29), (⟨bt470.1, bt470.2.1, bt470.2.2⟩ : S29)] : List (S29)))).bind fun bt478 => ((run_Run.f k1 bt478.1 bt478.2.1 bt478.2.2 5).bind fun bt483 => (if bt483.2.2.2.2 = 0 then (if bt483.2.1 = (wrap64 (a0 + 1)) then (some (bt483.2.2.2.1 == 1)) else (none)) else (none)))))) = some r := by first | (rw [hy459]; with_reducible exact H) | (have H2_ := (Option.bind_some _ _).symm.trans H; rw [hy459]; with_reducible exact H2_) | (have H2_ := (Option.bind_some _ _).symm.trans H; with_reducible exact H2_) | with_reducible exact H | (rw [hy459]; exact H) | exact H
          have Ny459 := Aside0.mk hy459
          clear hy459
          replace H := Option.bind_eq_some_iff.mp H
          obtain ⟨⟨t462, t463, t464⟩, A470, H⟩ := H
          replace H : ((thyrsusref4_T.f 28 (([(⟨t462, t463, t464⟩ : S29), (⟨x426000_1, x426001_1, x426002_1⟩ : S29)] : List (S29)))).bind fun bt470 => ((thyrsusref4_T.f 28 (([(⟨t439, t440, t441⟩ : S29), (⟨bt470.1, bt470.2.1, bt470.2.2⟩ : S29)] : List (S29)))).bind fun bt478 => ((run_Run.f k1 bt478.1 bt478.2.1 bt478.2.2 5).bind fun bt483 => (if bt483.2.2.2.2 = 0 then (if bt483.2.1 = (wrap64 (a0 + 1)) then (some (bt483.2.2.2.1 == 1)) else (none)) else (none))))) = some r := H
          have A47 := Aside0.mk A470
          clear A470
          obtain ⟨y467, hy467⟩ : ∃ y_ : List (S29), y_ = (([(⟨t462, t463, t464⟩ : S29), (⟨x426000_1, x426001_1, x426002_1⟩ : S29)] : List (S29))) := ⟨_, rfl⟩
          replace H : ((thyrsusref4_T.f 28 y467).bind fun bt470 => ((thyrsusref4_T.f 28 (([(⟨t439, t440, t441⟩ : S29), (⟨bt470.1, bt470.2.1, bt470.2.2⟩ : S29)] : List (S29)))).bind fun bt478 => ((run_Run.f k1 bt478.1 bt478.2.1 bt478.2.2 5).bind fun bt483 => (if bt483.2.2.2.2 = 0 then (if bt483.2.1 = (wrap64 (a0 + 1)) then (some (bt483.2.2.2.1 == 1)) else (none)) else (none))))) = some r := by first | (rw [hy467]; with_reducible exact H) | (have H2_ := (Option.bind_some _ _).symm.trans H; rw [hy467]; with_reducible exact H2_) | (have H2_ := (Option.bind_some _ _).symm.trans H; with_reducible exact H2_) | with_reducible exact H | (rw [hy467]; exact H) | exact H
          have Ny467 := Aside0.mk hy467
          clear hy467
          replace H := Option.bind_eq_some_iff.mp H
          obtain ⟨⟨t470, t471, t472⟩, A480, H⟩ := H
          replace H : ((thyrsusref4_T.f 28 (([(⟨t439, t440, t441⟩ : S29), (⟨t470, t471, t472⟩ : S29)] : List (S29)))).bind fun bt478 => ((run_Run.f k1 bt478.1 bt478.2.1 bt478.2.2 5).bind fun bt483 => (if bt483.2.2.2.2 = 0 then (if bt483.2.1 = (wrap64 (a0 + 1)) then (some (bt483.2.2.2.1 == 1)) else (none)) else (none)))) = some r := H
          have A48 := Aside0.mk A480
          clear A480
          obtain ⟨y475, hy475⟩ : ∃ y_ : List (S29), y_ = (([(⟨t439, t440, t441⟩ : S29), (⟨t470, t471, t472⟩ : S29)] : List (S29))) := ⟨_, rfl⟩
          replace H : ((thyrsusref4_T.f 28 y475).bind fun bt478 => ((run_Run.f k1 bt478.1 bt478.2.1 bt478.2.2 5).bind fun bt483 => (if bt483.2.2.2.2 = 0 then (if bt483.2.1 = (wrap64 (a0 + 1)) then (some (bt483.2.2.2.1 == 1)) else (none)) else (none)))) = some r := by first | (rw [hy475]; with_reducible exact H) | (have H2_ := (Option.bind_some _ _).symm.trans H; rw [hy475]; with_reducible exact H2_) | (have H2_ := (Option.bind_some _ _).symm.trans H; with_reducible exact H2_) | with_reducible exact H | (rw [hy475]; exact H) | exact H
          have Ny475 := Aside0.mk hy475
          clear hy475
          replace H := Option.bind_eq_some_iff.mp H
          obtain ⟨⟨t478, t479, t480⟩, A490, H⟩ := H
          replace H : ((run_Run.f k1 t478 t479 t480 5).bind fun bt483 => (if bt483.2.2.2.2 = 0 then (if bt483.2.1 = (wrap64 (a0 + 1)) then (some (bt483.2.2.2.1 == 1)) else (none)) else (none))) = some r := H
          have A49 := Aside0.mk A490
          clear A490
          replace H := Option.bind_eq_some_iff.mp H
          obtain ⟨⟨t483, t484, t485, t488, t489⟩, A500, H⟩ := H
          replace H : (if t489 = 0 then (if t484 = (wrap64 (a0 + 1)) then (some (t488 == 1)) else (none)) else (none)) = some r := H
          have A50 := Aside0.mk A500
          clear A500
          by_cases c51 : t489 = 0
          · rw [if_pos c51] at H
            have c51b0 : (t489 == 0) = true := beq_iff_eq.mpr c51
            have c51b1 : (t489 != 0) = false := bne_eq_false_iff_eq.mpr c51
            clear c51
            by_cases c52 : t484 = (wrap64 (a0 + 1))
            · rw [if_pos c52] at H
              have c52b0 : (t484 == (wrap64 (a0 + 1))) = true := beq_iff_eq.mpr c52
              have c52b1 : (t484 != (wrap64 (a0 + 1))) = false := bne_eq_false_iff_eq.mpr c52
              clear c52
              obtain rfl := Option.some.inj H
              try go_wp2
              have n0_ := Aside0.mk (Kd.V_drew HO_407002.out)
              have n1_ := Aside0.mk (Kd.V_drew HO_426002.out)
              have n2_ := Aside0.mk (blk_drew BK406.out)
              have n3_ := Aside0.mk (blk_drew BK425.out)
              have n4_ := Aside0.mk (below_drew1 HB.out)
              clear HO_407002
              clear HO_426002
              clear BK406
              clear BK425
              clear HB
              have HO_407002 := n0_
              have HO_426002 := n1_
              have BK406 := n2_
              have BK425 := n3_
              have HB := n4_
              clear n0_ n1_ n2_ n3_ n4_
              refine start_ (n := 14) (S := fun w' => w'.cell? ⟨gb406, 0, none⟩ = some (.int .i64 t401) ∧ w'.cell? ⟨gb406, 1, none⟩ = some (.int .i64 t402) ∧ w'.cell? ⟨gb406, 2, none⟩ = some (.slice Ao15 t403.length co15) ∧ w'.cell? ⟨gb425, 0, none⟩ = some (.int .i64 x426000_1) ∧ w'.cell? ⟨gb425, 1, none⟩ = some (.int .i64 x426001_1) ∧ w'.cell? ⟨gb425, 2, none⟩ = some (u426002)) (ds := [13]) #[false, false, false, false, false, false, false, false, false, false, false, false, false, false] (by kernel_rfl) rfl rfl ⟨(blk_cell BK406.out 0).trans rfl, (blk_cell BK406.out 1).trans rfl, (blk_cell BK406.out 2).trans rfl, (blk_cell BK425.out 0).trans rfl, (blk_cell BK425.out 1).trans rfl, (blk_cell BK425.out 2).trans rfl⟩ (fun hHeld => ?_); refine with_tabW thyrsuslaw12_RunClosed.tab10 thyrsuslaw12_RunClosed.bits10 (fun HT_ HW_ => ?_)
              generalize wr.drew = w53 at HO_407002 HO_426002 BK406 BK425 HB hHeld ⊢
              refine pure_ (i := 0) (N := some 33) (v := ?_) (a' := ?_) #[true, false, false, false, false, false, false, false, false, false, false, false, false, false] rfl rfl (any_of HT_.out (by kernel_rfl)) (fun _ _ _ h => h) (Or.inl ⟨by rfl, ?_⟩) ?_ ?_
              rotate_left
              · intro w'
                go_simp
                with_reducible rfl
              rotate_left
              · simp only [Act.put, List.setIfInBounds_toArray, List.set_cons_zero, List.set_cons_succ, i64_w, i32_w, u8_w, u32_w]
                rfl
              refine take_ (i := 2) (N := some 35) (v := ?_) (a' := ?_) #[true, false, true, false, false, false, false, false, false, false, false, false, false, false] rfl rfl (take_ofW HT_.out HW_.out (by kernel_rfl)) (fun _ _ _ h => h) (Or.inl ⟨by rfl, ?_⟩) hHeld ?_ ?_
              rotate_left
              · rintro w' ⟨s0, s1, s2, s3, s4, s5⟩
                go_simp
                with_reducible rfl
              rotate_left
              · simp only [Act.put, List.setIfInBounds_toArray, List.set_cons_zero, List.set_cons_succ, i64_w, i32_w, u8_w, u32_w]
                rfl
              refine take_ (i := 8) (N := some 41) (v := ?_) (a' := ?_) #[true, false, true, false, false, false, false, false, true, false, false, false, false, false] rfl rfl (take_ofW HT_.out HW_.out (by kernel_rfl)) (fun _ _ _ h => h) (Or.inl ⟨by rfl, ?_⟩) hHeld ?_ ?_
              rotate_left
              · rintro w' ⟨s0, s1, s2, s3, s4, s5⟩
                go_simp
                with_reducible rfl
              rotate_left
              · simp only [Act.put, List.setIfInBounds_toArray, List.set_cons_zero, List.set_cons_succ, i64_w, i32_w, u8_w, u32_w]
                rfl
              refine one_ (i := 1) (N := some 34) #[true, true, true, false, false, false, false, false, true, false, false, false, false, false] rfl rfl (one_of HT_.out (by kernel_rfl)) (by decide) (fun K hK => ?_)
              refine goes_ Try.func16 (by kernel_rfl) rfl #[.int .i64 a0] (by rfl) rfl rfl (by (try simp only [List.map_toArray, List.map_cons, List.map_nil]); first | done | rfl | (simp only [List.length_drop, List.length_take]; rfl)) ?_
              with_reducible refine (thyrsusref4_Int.calls a0 t439 t440 t441 _ A43.out).mono ?_
              rintro e w54 ⟨v442, rfl, ho0, hb⟩
              refine ⟨_, rfl, ?_⟩
              have n0_ := Aside0.mk (Kd.V_elder' (by (with_reducible repeat (first | apply Kd.V_alloc | apply Kd.V_drewN | apply Kd.V_drew)); exact HO_407002.out) (by first | exact Kd.N_base ho0 | exact Kd.N_base (Kd.R_N ho0)) hb)
              have n1_ := Aside0.mk (Kd.V_elder' (by (with_reducible repeat (first | apply Kd.V_alloc | apply Kd.V_drewN | apply Kd.V_drew)); exact HO_426002.out) (by first | exact Kd.N_base ho0 | exact Kd.N_base (Kd.R_N ho0)) hb)
              have n2_ := Aside0.mk (Kd.N_lower (Kd.N_mono (ok' := fun k_ => k_ ≠ gb406 ∧ k_ ≠ gb425) (Kd.R_N (Kd.R_bound ho0)) (fun k_ hk_ => ⟨(Kd.freshB (g := gb406) (o := .cells #[.int .i64 t401, .int .i64 t402, .slice Ao15 t403.length co15] 29 (0, 0)) (by (with_reducible repeat (first | refine blk_drewN ?_ _ | refine blk_drew ?_ | refine blk_alloc ?_ _)); exact BK406.out) k_ hk_.2.1), (Kd.freshB (g := gb425) (o := .cells #[.int .i64 x426000_1, .int .i64 x426001_1, u426002] 29 (0, 0)) (by (with_reducible repeat (first | refine blk_drewN ?_ _ | refine blk_drew ?_ | refine blk_alloc ?_ _)); exact BK425.out) k_ hk_.2.1)⟩)) (below_size (by repeat (first | (with_reducible first | exact HB.out | apply below_alloc | apply pw_below_drewN | apply below_drew1 | refine below_set ?_ GE406.out | refine below_set ?_ GE425.out) | exact HB.out))))
              have n3_ := Aside0.mk (blk_below (g := gb406) (o := .cells #[.int .i64 t401, .int .i64 t402, .slice Ao15 t403.length co15] 29 (0, 0)) (by (with_reducible repeat (first | refine blk_drewN ?_ _ | refine blk_drew ?_ | refine blk_alloc ?_ _)); exact BK406.out) hb)
              have n4_ := Aside0.mk (blk_below (g := gb425) (o := .cells #[.int .i64 x426000_1, .int .i64 x426001_1, u426002] 29 (0, 0)) (by (with_reducible repeat (first | refine blk_drewN ?_ _ | refine blk_drew ?_ | refine blk_alloc ?_ _)); exact BK425.out) hb)
              have n5_ := Aside0.mk (below_step (by repeat (first | (with_reducible first | exact HB.out | apply below_alloc | apply pw_below_drewN | apply below_drew1 | refine below_set ?_ GE406.out | refine below_set ?_ GE425.out) | exact HB.out)) hb)
              clear HO_407002
              clear HO_426002
              clear BK406
              clear BK425
              clear HB
              have HO_407002 := n0_
              have HO_426002 := n1_
              have HO443 := n2_
              have BK406 := n3_
              have BK425 := n4_
              have HB := n5_
              clear n0_ n1_ n2_ n3_ n4_ n5_
              (try clear hb)
              (try clear hb2)
              (try clear hk)
              (try clear hi)
              (try clear ho0)
              refine hK.out _ _ ⟨(blk_cell BK406.out 0).trans rfl, (blk_cell BK406.out 1).trans rfl, (blk_cell BK406.out 2).trans rfl, (blk_cell BK425.out 0).trans rfl, (blk_cell BK425.out 1).trans rfl, (blk_cell BK425.out 2).trans rfl⟩ (fun hHeld => ?_)
              clear hK K
              refine norm_ (a' := ?_) ?_ ?_
              rotate_left
              · show Act.put _ (some 34) _ = _
                simp only [Act.put, List.setIfInBounds_toArray, List.set_cons_zero, List.set_cons_succ, i64_w, i32_w, u8_w, u32_w]
                rfl
              refine one_ (i := 3) (N := some 36) #[true, true, true, true, false, false, false, false, true, false, false, false, false, false] rfl rfl (one_of HT_.out (by kernel_rfl)) (by decide) (fun K hK => ?_)
              refine goes_ Try.func17 (by kernel_rfl) rfl #[.int .i64 1] (by rfl) rfl rfl (by (try simp only [List.map_toArray, List.map_cons, List.map_nil]); first | done | rfl | (simp only [List.length_drop, List.length_take]; rfl)) ?_
              with_reducible refine (thyrsusref4_V.calls 1 t444 t445 t446 _ A44.out).mono ?_
              rintro e w55 ⟨v447, rfl, ho0, hb⟩
              refine ⟨_, rfl, ?_⟩
              have n0_ := Aside0.mk (Kd.V_elder' (by (with_reducible repeat (first | apply Kd.V_alloc | apply Kd.V_drewN | apply Kd.V_drew)); exact HO_407002.out) (by first | exact Kd.N_base ho0 | exact Kd.N_base (Kd.R_N ho0)) hb)
              have n1_ := Aside0.mk (Kd.V_elder' (by (with_reducible repeat (first | apply Kd.V_alloc | apply Kd.V_drewN | apply Kd.V_drew)); exact HO_426002.out) (by first | exact Kd.N_base ho0 | exact Kd.N_base (Kd.R_N ho0)) hb)
              have n2_ := Aside0.mk (Kd.N_elder' (by (with_reducible repeat (first | apply Kd.N_alloc | apply Kd.N_drewN | apply Kd.N_drew)); exact HO443.out) (by first | exact Kd.N_base ho0 | exact Kd.N_base (Kd.R_N ho0)) hb)
              have n3_ := Aside0.mk (Kd.N_lower (Kd.N_mono (ok' := fun k_ => some k_ ≠ (v442 : Value).ownBlock ∧ k_ ≠ gb406 ∧ k_ ≠ gb425) (Kd.R_N (Kd.R_bound ho0)) (fun k_ hk_ => ⟨(Kd.fresh' (Kd.N_lt (by (with_reducible repeat (first | apply Kd.N_alloc | apply Kd.N_drewN | apply Kd.N_drew)); exact HO443.out)) k_ hk_.2.1), (Kd.freshB (g := gb406) (o := .cells #[.int .i64 t401, .int .i64 t402, .slice Ao15 t403.length co15] 29 (0, 0)) (by (with_reducible repeat (first | refine blk_drewN ?_ _ | refine blk_drew ?_ | refine blk_alloc ?_ _)); exact BK406.out) k_ hk_.2.1), (Kd.freshB (g := gb425) (o := .cells #[.int .i64 x426000_1, .int .i64 x426001_1, u426002] 29 (0, 0)) (by (with_reducible repeat (first | refine blk_drewN ?_ _ | refine blk_drew ?_ | refine blk_alloc ?_ _)); exact BK425.out) k_ hk_.2.1)⟩)) (below_size (by repeat (first | (with_reducible first | exact HB.out | apply below_alloc | apply pw_below_drewN | apply below_drew1 | refine below_set ?_ GE406.out | refine below_set ?_ GE425.out) | exact HB.out))))
              have n4_ := Aside0.mk (blk_below (g := gb406) (o := .cells #[.int .i64 t401, .int .i64 t402, .slice Ao15 t403.length co15] 29 (0, 0)) (by (with_reducible repeat (first | refine blk_drewN ?_ _ | refine blk_drew ?_ | refine blk_alloc ?_ _)); exact BK406.out) hb)
              have n5_ := Aside0.mk (blk_below (g := gb425) (o := .cells #[.int .i64 x426000_1, .int .i64 x426001_1, u426002] 29 (0, 0)) (by (with_reducible repeat (first | refine blk_drewN ?_ _ | refine blk_drew ?_ | refine blk_alloc ?_ _)); exact BK425.out) hb)
              have n6_ := Aside0.mk (below_step (by repeat (first | (with_reducible first | exact HB.out | apply below_alloc | apply pw_below_drewN | apply below_drew1 | refine below_set ?_ GE406.out | refine below_set ?_ GE425.out) | exact HB.out)) hb)
              clear HO_407002
              clear HO_426002
              clear HO443
              clear BK406
              clear BK425
              clear HB
              have HO_407002 := n0_
              have HO_426002 := n1_
              have HO443 := n2_
              have HO448 := n3_
              have BK406 := n4_
              have BK425 := n5_
              have HB := n6_
              clear n0_ n1_ n2_ n3_ n4_ n5_ n6_
              (try clear hb)
              (try clear hb2)
              (try clear hk)
              (try clear hi)
              (try clear ho0)
              refine hK.out _ _ ⟨(blk_cell BK406.out 0).trans rfl, (blk_cell BK406.out 1).trans rfl, (blk_cell BK406.out 2).trans rfl, (blk_cell BK425.out 0).trans rfl, (blk_cell BK425.out 1).trans rfl, (blk_cell BK425.out 2).trans rfl⟩ (fun hHeld => ?_)
              clear hK K
              refine norm_ (a' := ?_) ?_ ?_
              rotate_left
              · show Act.put _ (some 36) _ = _
                simp only [Act.put, List.setIfInBounds_toArray, List.set_cons_zero, List.set_cons_succ, i64_w, i32_w, u8_w, u32_w]
                rfl
              refine one_ (i := 4) (N := some 37) #[true, true, true, true, true, false, false, false, true, false, false, false, false, false] rfl rfl (one_of HT_.out (by kernel_rfl)) (by decide) (fun K hK => ?_)
              refine goes_ Try.func17 (by kernel_rfl) rfl #[.int .i64 0] (by rfl) rfl rfl (by (try simp only [List.map_toArray, List.map_cons, List.map_nil]); first | done | rfl | (simp only [List.length_drop, List.length_take]; rfl)) ?_
              with_reducible refine (thyrsusref4_V.calls 0 t449 t450 t451 _ A45.out).mono ?_
              rintro e w56 ⟨v452, rfl, ho0, hb⟩
              refine ⟨_, rfl, ?_⟩
              have n0_ := Aside0.mk (Kd.V_elder' (by (with_reducible repeat (first | apply Kd.V_alloc | apply Kd.V_drewN | apply Kd.V_drew)); exact HO_407002.out) (by first | exact Kd.N_base ho0 | exact Kd.N_base (Kd.R_N ho0)) hb)
              have n1_ := Aside0.mk (Kd.V_elder' (by (with_reducible repeat (first | apply Kd.V_alloc | apply Kd.V_drewN | apply Kd.V_drew)); exact HO_426002.out) (by first | exact Kd.N_base ho0 | exact Kd.N_base (Kd.R_N ho0)) hb)
              have n2_ := Aside0.mk (Kd.N_elder' (by (with_reducible repeat (first | apply Kd.N_alloc | apply Kd.N_drewN | apply Kd.N_drew)); exact HO443.out) (by first | exact Kd.N_base ho0 | exact Kd.N_base (Kd.R_N ho0)) hb)
              have n3_ := Aside0.mk (Kd.N_elder' (by (with_reducible repeat (first | apply Kd.N_alloc | apply Kd.N_drewN | apply Kd.N_drew)); exact HO448.out) (by first | exact Kd.N_base ho0 | exact Kd.N_base (Kd.R_N ho0)) hb)
              have n4_ := Aside0.mk (Kd.N_lower (Kd.N_mono (ok' := fun k_ => some k_ ≠ (v442 : Value).ownBlock ∧ some k_ ≠ (v447 : Value).ownBlock ∧ k_ ≠ gb406 ∧ k_ ≠ gb425) (Kd.R_N (Kd.R_bound ho0)) (fun k_ hk_ => ⟨(Kd.fresh' (Kd.N_lt (by (with_reducible repeat (first | apply Kd.N_alloc | apply Kd.N_drewN | apply Kd.N_drew)); exact HO443.out)) k_ hk_.2.1), (Kd.fresh' (Kd.N_lt (by (with_reducible repeat (first | apply Kd.N_alloc | apply Kd.N_drewN | apply Kd.N_drew)); exact HO448.out)) k_ hk_.2.1), (Kd.freshB (g := gb406) (o := .cells #[.int .i64 t401, .int .i64 t402, .slice Ao15 t403.length co15] 29 (0, 0)) (by (with_reducible repeat (first | refine blk_drewN ?_ _ | refine blk_drew ?_ | refine blk_alloc ?_ _)); exact BK406.out) k_ hk_.2.1), (Kd.freshB (g := gb425) (o := .cells #[.int .i64 x426000_1, .int .i64 x426001_1, u426002] 29 (0, 0)) (by (with_reducible repeat (first | refine blk_drewN ?_ _ | refine blk_drew ?_ | refine blk_alloc ?_ _)); exact BK425.out) k_ hk_.2.1)⟩)) (below_size (by repeat (first | (with_reducible first | exact HB.out | apply below_alloc | apply pw_below_drewN | apply below_drew1 | refine below_set ?_ GE406.out | refine below_set ?_ GE425.out) | exact HB.out))))
              have n5_ := Aside0.mk (blk_below (g := gb406) (o := .cells #[.int .i64 t401, .int .i64 t402, .slice Ao15 t403.length co15] 29 (0, 0)) (by (with_reducible repeat (first | refine blk_drewN ?_ _ | refine blk_drew ?_ | refine blk_alloc ?_ _)); exact BK406.out) hb)
              have n6_ := Aside0.mk (blk_below (g := gb425) (o := .cells #[.int .i64 x426000_1, .int .i64 x426001_1, u426002] 29 (0, 0)) (by (with_reducible repeat (first | refine blk_drewN ?_ _ | refine blk_drew ?_ | refine blk_alloc ?_ _)); exact BK425.out) hb)
              have n7_ := Aside0.mk (below_step (by repeat (first | (with_reducible first | exact HB.out | apply below_alloc | apply pw_below_drewN | apply below_drew1 | refine below_set ?_ GE406.out | refine below_set ?_ GE425.out) | exact HB.out)) hb)
              clear HO_407002
              clear HO_426002
              clear HO443
              clear HO448
              clear BK406
              clear BK425
              clear HB
              have HO_407002 := n0_
              have HO_426002 := n1_
              have HO443 := n2_
              have HO448 := n3_
              have HO453 := n4_
              have BK406 := n5_
              have BK425 := n6_
              have HB := n7_
              clear n0_ n1_ n2_ n3_ n4_ n5_ n6_ n7_
              (try clear hb)
              (try clear hb2)
              (try clear hk)
              (try clear hi)
              (try clear ho0)
              obtain ⟨Ao57, co57, eo57⟩ := Kd.N_slice HO448.out
              (first | subst eo57 | (injection eo57 with f1_ f2_ f3_; have f4_ := f1_.symm; have f5_ := f3_.symm; clear f1_ f2_ f3_; subst f4_; subst f5_))
              obtain ⟨Ao58, co58, eo58⟩ := Kd.N_slice HO453.out
              (first | subst eo58 | (injection eo58 with f1_ f2_ f3_; have f4_ := f1_.symm; have f5_ := f3_.symm; clear f1_ f2_ f3_; subst f4_; subst f5_))
              refine hK.out _ _ ⟨(blk_cell BK406.out 0).trans rfl, (blk_cell BK406.out 1).trans rfl, (blk_cell BK406.out 2).trans rfl, (blk_cell BK425.out 0).trans rfl, (blk_cell BK425.out 1).trans rfl, (blk_cell BK425.out 2).trans rfl⟩ (fun hHeld => ?_)
              clear hK K
              refine norm_ (a' := ?_) ?_ ?_
              rotate_left
              · show Act.put _ (some 37) _ = _
                simp only [Act.put, List.setIfInBounds_toArray, List.set_cons_zero, List.set_cons_succ, i64_w, i32_w, u8_w, u32_w]
                rfl
              refine one_ (i := 5) (N := some 38) #[true, true, true, true, true, true, false, false, true, false, false, false, false, false] rfl rfl (one_of HT_.out (by kernel_rfl)) (by decide) (fun K hK => ?_)
              refine goes_ Try.func15 (by kernel_rfl) rfl #[.int .i64 0, .agg #[.int .i64 t444, .int .i64 t445, .slice Ao57 t446.length co57], .agg #[.int .i64 t449, .int .i64 t450, .slice Ao58 t451.length co58]] (by rfl) rfl rfl (by (try simp only [List.map_toArray, List.map_cons, List.map_nil]); first | done | rfl | (simp only [List.length_drop, List.length_take]; rfl)) ?_
              with_reducible refine (thyrsuslaw12_prim.calls 0 t444 t445 (fun k_ => ((some k_ ≠ (v442 : Value).ownBlock ∧ (k_ ≠ gb406 ∧ k_ ≠ gb425)) ∧ some k_ ≠ (.slice Ao58 t451.length co58 : Value).ownBlock)) _ _ t446 t449 t450 (fun k_ => (some k_ ≠ (v442 : Value).ownBlock ∧ (some k_ ≠ (.slice Ao57 t446.length co57 : Value).ownBlock ∧ (k_ ≠ gb406 ∧ k_ ≠ gb425)))) _ _ t451 t454 t455 t456 _ ?side1 ?side2 A46.out).mono ?_
              (case side1 => exact Kd.N_V (HO448.out))
              (case side2 => exact Kd.N_V (HO453.out))
              rintro e w59 ⟨v457, rfl, ho0, hb⟩
              refine ⟨_, rfl, ?_⟩
              have n0_ := Aside0.mk (Kd.V_elder' (by (with_reducible repeat (first | apply Kd.V_alloc | apply Kd.V_drewN | apply Kd.V_drew)); exact HO_407002.out) (by first | exact Kd.N_base ho0 | exact Kd.N_base (Kd.R_N ho0)) hb)
              have n1_ := Aside0.mk (Kd.V_elder' (by (with_reducible repeat (first | apply Kd.V_alloc | apply Kd.V_drewN | apply Kd.V_drew)); exact HO_426002.out) (by first | exact Kd.N_base ho0 | exact Kd.N_base (Kd.R_N ho0)) hb)
              have n2_ := Aside0.mk (Kd.N_elder' (by (with_reducible repeat (first | apply Kd.N_alloc | apply Kd.N_drewN | apply Kd.N_drew)); exact HO443.out) (by first | exact Kd.N_base ho0 | exact Kd.N_base (Kd.R_N ho0)) hb)
              have n3_ := Aside0.mk (Kd.N_elder' (by (with_reducible repeat (first | apply Kd.N_alloc | apply Kd.N_drewN | apply Kd.N_drew)); exact HO448.out) (by first | exact Kd.N_base ho0 | exact Kd.N_base (Kd.R_N ho0)) hb)
              have n4_ := Aside0.mk (Kd.N_elder' (by (with_reducible repeat (first | apply Kd.N_alloc | apply Kd.N_drewN | apply Kd.N_drew)); exact HO453.out) (by first | exact Kd.N_base ho0 | exact Kd.N_base (Kd.R_N ho0)) hb)
              have n5_ := Aside0.mk (Kd.N_lower (Kd.N_mono (ok' := fun k_ => some k_ ≠ (v442 : Value).ownBlock ∧ k_ ≠ gb406 ∧ k_ ≠ gb425) ho0 (fun k_ hk_ => ⟨Or.elim hk_ (fun hs_ => Or.elim hs_ (fun hs_ => hs_.1.1) (fun hs_ => hs_.1)) (fun hn_ => (Kd.fresh' (Kd.N_lt (by (with_reducible repeat (first | apply Kd.N_alloc | apply Kd.N_drewN | apply Kd.N_drew)); exact HO443.out)) k_ hn_)), Or.elim hk_ (fun hs_ => Or.elim hs_ (fun hs_ => hs_.1.2.1) (fun hs_ => hs_.2.2.1)) (fun hn_ => (Kd.freshB (g := gb406) (o := .cells #[.int .i64 t401, .int .i64 t402, .slice Ao15 t403.length co15] 29 (0, 0)) (by (with_reducible repeat (first | refine blk_drewN ?_ _ | refine blk_drew ?_ | refine blk_alloc ?_ _)); exact BK406.out) k_ hn_)), Or.elim hk_ (fun hs_ => Or.elim hs_ (fun hs_ => hs_.1.2.2) (fun hs_ => hs_.2.2.2)) (fun hn_ => (Kd.freshB (g := gb425) (o := .cells #[.int .i64 x426000_1, .int .i64 x426001_1, u426002] 29 (0, 0)) (by (with_reducible repeat (first | refine blk_drewN ?_ _ | refine blk_drew ?_ | refine blk_alloc ?_ _)); exact BK425.out) k_ hn_))⟩)) (below_size (by repeat (first | (with_reducible first | exact HB.out | apply below_alloc | apply pw_below_drewN | apply below_drew1 | refine below_set ?_ GE406.out | refine below_set ?_ GE425.out) | exact HB.out))))
              have n6_ := Aside0.mk (blk_below (g := gb406) (o := .cells #[.int .i64 t401, .int .i64 t402, .slice Ao15 t403.length co15] 29 (0, 0)) (by (with_reducible repeat (first | refine blk_drewN ?_ _ | refine blk_drew ?_ | refine blk_alloc ?_ _)); exact BK406.out) hb)
              have n7_ := Aside0.mk (blk_below (g := gb425) (o := .cells #[.int .i64 x426000_1, .int .i64 x426001_1, u426002] 29 (0, 0)) (by (with_reducible repeat (first | refine blk_drewN ?_ _ | refine blk_drew ?_ | refine blk_alloc ?_ _)); exact BK425.out) hb)
              have n8_ := Aside0.mk (below_step (by repeat (first | (with_reducible first | exact HB.out | apply below_alloc | apply pw_below_drewN | apply below_drew1 | refine below_set ?_ GE406.out | refine below_set ?_ GE425.out) | exact HB.out)) hb)
              clear HO_407002
              clear HO_426002
              clear HO443
              clear HO448
              clear HO453
              clear BK406
              clear BK425
              clear HB
              have HO_407002 := n0_
              have HO_426002 := n1_
              have HO443 := n2_
              have HO448 := n3_
              have HO453 := n4_
              have HO458 := n5_
              have BK406 := n6_
              have BK425 := n7_
              have HB := n8_
              clear n0_ n1_ n2_ n3_ n4_ n5_ n6_ n7_ n8_
              (try clear hb)
              (try clear hb2)
              (try clear hk)
              (try clear hi)
              (try clear ho0)
              obtain ⟨Ao60, co60, eo60⟩ := Kd.N_slice HO458.out
              (first | subst eo60 | (injection eo60 with f1_ f2_ f3_; have f4_ := f1_.symm; have f5_ := f3_.symm; clear f1_ f2_ f3_; subst f4_; subst f5_))
              refine hK.out _ _ ⟨(blk_cell BK406.out 0).trans rfl, (blk_cell BK406.out 1).trans rfl, (blk_cell BK406.out 2).trans rfl, (blk_cell BK425.out 0).trans rfl, (blk_cell BK425.out 1).trans rfl, (blk_cell BK425.out 2).trans rfl⟩ (fun hHeld => ?_)
              clear hK K
              refine norm_ (a' := ?_) ?_ ?_
              rotate_left
              · show Act.put _ (some 38) _ = _
                simp only [Act.put, List.setIfInBounds_toArray, List.set_cons_zero, List.set_cons_succ, i64_w, i32_w, u8_w, u32_w]
                rfl
              refine one_ (i := 6) (N := some 39) #[true, true, true, true, true, true, true, false, true, false, false, false, false, false] rfl rfl (one_of HT_.out (by kernel_rfl)) (by decide) (fun K hK => ?_)
              refine Kd.N_lit_step k29 _ 29 ?hg (N' := 39) ?hd (xs := ([(⟨t401, t402, t403⟩ : S29), (⟨t454, t455, t456⟩ : S29)] : List (S29))) (inner := [.int .i64 t401, .int .i64 t402, .slice Ao15 t403.length co15, .int .i64 t454, .int .i64 t455, .slice Ao60 t456.length co60]) (ok := (fun k_ => some k_ ≠ (v442 : Value).ownBlock ∧ k_ ≠ gb406 ∧ k_ ≠ gb425)) (okp := (fun k_ => some k_ ≠ (v442 : Value).ownBlock ∧ k_ ≠ gb406 ∧ k_ ≠ gb425)) ?hr ?hp (fun _ hk => hk) ((show ∀ k_, w59.heap.size ≤ k_ → (fun k_ => some k_ ≠ (v442 : Value).ownBlock ∧ k_ ≠ gb406 ∧ k_ ≠ gb425) k_ from fun k_ hk => ⟨Kd.fresh' (Kd.N_lt (by (with_reducible repeat (first | apply Kd.N_alloc | apply Kd.N_drewN | apply Kd.N_drew)); exact HO443.out)) k_ hk, Kd.freshB (g := gb406) (o := .cells #[.int .i64 t401, .int .i64 t402, .slice Ao15 t403.length co15] 29 (0, 0)) (by (with_reducible repeat (first | refine blk_drewN ?_ _ | refine blk_drew ?_ | refine blk_alloc ?_ _)); exact BK406.out) k_ hk, Kd.freshB (g := gb425) (o := .cells #[.int .i64 x426000_1, .int .i64 x426001_1, u426002] 29 (0, 0)) (by (with_reducible repeat (first | refine blk_drewN ?_ _ | refine blk_drew ?_ | refine blk_alloc ?_ _)); exact BK425.out) k_ hk⟩) _ (Nat.le_refl _)) (Below.refl _ _) (Nat.le_refl _) (by simp) ?_; (case hd => rfl); (case hg => rfl); (case hr => first | (go_simp; done) | (go_simp; rfl)); (case hp => exact (Reps.c3 (show Kd.FK k29 _ _ (⟨t401, t402, t403⟩ : S29) [.int .i64 t401, .int .i64 t402, .slice Ao15 t403.length co15] from (k29_mkF _ _ (⟨t401, t402, t403⟩ : S29) (Kd.V_reads' (Kd.V_mono (ok' := (fun k_ => some k_ ≠ (v442 : Value).ownBlock ∧ k_ ≠ gb406 ∧ k_ ≠ gb425)) (HO_407002.out) (fun k_ hk => ⟨hk.1.1.1.2, ⟨hk.1.1.1.1.1, hk.1.1.1.1.2⟩⟩))).2.1 (Kd.V_F (Kd.V_mono (ok' := (fun k_ => some k_ ≠ (v442 : Value).ownBlock ∧ k_ ≠ gb406 ∧ k_ ≠ gb425)) (HO_407002.out) (fun k_ hk => ⟨hk.1.1.1.2, ⟨hk.1.1.1.1.1, hk.1.1.1.1.2⟩⟩))))) (Reps.c3 (show Kd.FK k29 _ _ (⟨t454, t455, t456⟩ : S29) [.int .i64 t454, .int .i64 t455, .slice Ao60 t456.length co60] from (k29_mkF _ _ (⟨t454, t455, t456⟩ : S29) (Kd.N_reads' (Kd.N_mono (ok' := (fun k_ => some k_ ≠ (v442 : Value).ownBlock ∧ k_ ≠ gb406 ∧ k_ ≠ gb425)) (HO458.out) (fun k_ hk => ⟨hk.1, ⟨hk.2.1, hk.2.2⟩⟩))).2.1 (Kd.N_F (Kd.N_mono (ok' := (fun k_ => some k_ ≠ (v442 : Value).ownBlock ∧ k_ ≠ gb406 ∧ k_ ≠ gb425)) (HO458.out) (fun k_ hk => ⟨hk.1, ⟨hk.2.1, hk.2.2⟩⟩))))) (Reps.none _ _))))
              intro v460 w61 ho62 hb hg_ hnew_
              clear hg_ hnew_
              (first | rw [← Ny459.out] at ho62 | (simp only [Int.reduceToNat] at ho62; rw [← Ny459.out] at ho62))
              have n0_ := Aside0.mk (Kd.V_elder' (by (with_reducible repeat (first | apply Kd.V_alloc | apply Kd.V_drewN | apply Kd.V_drew)); exact HO_407002.out) (Kd.N_base ho62) hb)
              have n1_ := Aside0.mk (Kd.V_elder' (by (with_reducible repeat (first | apply Kd.V_alloc | apply Kd.V_drewN | apply Kd.V_drew)); exact HO_426002.out) (Kd.N_base ho62) hb)
              have n2_ := Aside0.mk (Kd.N_elder' (by (with_reducible repeat (first | apply Kd.N_alloc | apply Kd.N_drewN | apply Kd.N_drew)); exact HO443.out) (Kd.N_base ho62) hb)
              have n3_ := Aside0.mk (Kd.N_elder' (by (with_reducible repeat (first | apply Kd.N_alloc | apply Kd.N_drewN | apply Kd.N_drew)); exact HO448.out) (Kd.N_base ho62) hb)
              have n4_ := Aside0.mk (Kd.N_elder' (by (with_reducible repeat (first | apply Kd.N_alloc | apply Kd.N_drewN | apply Kd.N_drew)); exact HO453.out) (Kd.N_base ho62) hb)
              have n5_ := Aside0.mk (Kd.N_lower ho62 (below_size (by repeat (first | (with_reducible first | exact HB.out | apply below_alloc | apply pw_below_drewN | apply below_drew1 | refine below_set ?_ GE406.out | refine below_set ?_ GE425.out) | exact HB.out))))
              have n6_ := Aside0.mk (blk_below (g := gb406) (o := .cells #[.int .i64 t401, .int .i64 t402, .slice Ao15 t403.length co15] 29 (0, 0)) (by (with_reducible repeat (first | refine blk_drewN ?_ _ | refine blk_drew ?_ | refine blk_alloc ?_ _)); exact BK406.out) hb)
              have n7_ := Aside0.mk (blk_below (g := gb425) (o := .cells #[.int .i64 x426000_1, .int .i64 x426001_1, u426002] 29 (0, 0)) (by (with_reducible repeat (first | refine blk_drewN ?_ _ | refine blk_drew ?_ | refine blk_alloc ?_ _)); exact BK425.out) hb)
              have n8_ := Aside0.mk (below_step (by repeat (first | (with_reducible first | exact HB.out | apply below_alloc | apply pw_below_drewN | apply below_drew1 | refine below_set ?_ GE406.out | refine below_set ?_ GE425.out) | exact HB.out)) hb)
              clear HO_407002
              clear HO_426002
              clear HO443
              clear HO448
              clear HO453
              clear BK406
              clear BK425
              clear HB
              clear HO458
              have HO_407002 := n0_
              have HO_426002 := n1_
              have HO443 := n2_
              have HO448 := n3_
              have HO453 := n4_
              have HO461 := n5_
              have BK406 := n6_
              have BK425 := n7_
              have HB := n8_
              clear n0_ n1_ n2_ n3_ n4_ n5_ n6_ n7_ n8_
              clear hb ho62
              obtain ⟨Ao63, co63, eo63⟩ := Kd.N_slice HO461.out
              (first | subst eo63 | (injection eo63 with f1_ f2_ f3_; have f4_ := f1_.symm; have f5_ := f3_.symm; clear f1_ f2_ f3_; subst f4_; subst f5_))
              refine hK.out _ _ ⟨(blk_cell BK406.out 0).trans rfl, (blk_cell BK406.out 1).trans rfl, (blk_cell BK406.out 2).trans rfl, (blk_cell BK425.out 0).trans rfl, (blk_cell BK425.out 1).trans rfl, (blk_cell BK425.out 2).trans rfl⟩ (fun hHeld => ?_)
              clear hK K
              refine norm_ (a' := ?_) ?_ ?_
              rotate_left
              · show Act.put _ (some 39) _ = _
                simp only [Act.put, List.setIfInBounds_toArray, List.set_cons_zero, List.set_cons_succ, i64_w, i32_w, u8_w, u32_w]
                rfl
              refine one_ (i := 7) (N := some 40) #[true, true, true, true, true, true, true, true, true, false, false, false, false, false] rfl rfl (one_of HT_.out (by kernel_rfl)) (by decide) (fun K hK => ?_)
              refine goes_ Try.func18 (by kernel_rfl) rfl #[.int .i64 20, .slice Ao63 y459.length co63] (by rfl) rfl rfl (by (try simp only [List.map_toArray, List.map_cons, List.map_nil]); first | done | rfl | (simp only [List.length_drop, List.length_take]; rfl)) ?_
              with_reducible refine (thyrsusref4_T.calls 20 (fun k_ => (some k_ ≠ (v442 : Value).ownBlock ∧ (k_ ≠ gb406 ∧ k_ ≠ gb425))) _ _ y459 t462 t463 t464 _ ?side1 A47.out).mono ?_
              (case side1 => exact Kd.N_V (HO461.out))
              rintro e w64 ⟨v465, rfl, ho0, hb⟩
              refine ⟨_, rfl, ?_⟩
              have n0_ := Aside0.mk (Kd.V_below (by (with_reducible repeat (first | apply Kd.V_alloc | apply Kd.V_drewN | apply Kd.V_drew)); exact HO_407002.out) hb)
              have n1_ := Aside0.mk (Kd.V_below (by (with_reducible repeat (first | apply Kd.V_alloc | apply Kd.V_drewN | apply Kd.V_drew)); exact HO_426002.out) hb)
              have n2_ := Aside0.mk (Kd.N_below (by (with_reducible repeat (first | apply Kd.N_alloc | apply Kd.N_drewN | apply Kd.N_drew)); exact HO443.out) hb)
              have n3_ := Aside0.mk (Kd.N_below (by (with_reducible repeat (first | apply Kd.N_alloc | apply Kd.N_drewN | apply Kd.N_drew)); exact HO448.out) hb)
              have n4_ := Aside0.mk (Kd.N_below (by (with_reducible repeat (first | apply Kd.N_alloc | apply Kd.N_drewN | apply Kd.N_drew)); exact HO453.out) hb)
              have n5_ := Aside0.mk (Kd.N_below (by (with_reducible repeat (first | apply Kd.N_alloc | apply Kd.N_drewN | apply Kd.N_drew)); exact HO461.out) hb)
              have n6_ := Aside0.mk (Kd.V_lower (Kd.V_mono (ok' := fun k_ => some k_ ≠ (v442 : Value).ownBlock ∧ k_ ≠ gb406 ∧ k_ ≠ gb425) ho0 (fun k_ hk_ => ⟨Or.elim hk_ (fun hs_ => hs_.1) (fun hn_ => (Kd.fresh' (Kd.N_lt (by (with_reducible repeat (first | apply Kd.N_alloc | apply Kd.N_drewN | apply Kd.N_drew)); exact HO443.out)) k_ hn_)), Or.elim hk_ (fun hs_ => hs_.2.1) (fun hn_ => (Kd.freshB (g := gb406) (o := .cells #[.int .i64 t401, .int .i64 t402, .slice Ao15 t403.length co15] 29 (0, 0)) (by (with_reducible repeat (first | refine blk_drewN ?_ _ | refine blk_drew ?_ | refine blk_alloc ?_ _)); exact BK406.out) k_ hn_)), Or.elim hk_ (fun hs_ => hs_.2.2) (fun hn_ => (Kd.freshB (g := gb425) (o := .cells #[.int .i64 x426000_1, .int .i64 x426001_1, u426002] 29 (0, 0)) (by (with_reducible repeat (first | refine blk_drewN ?_ _ | refine blk_drew ?_ | refine blk_alloc ?_ _)); exact BK425.out) k_ hn_))⟩)) (below_size (by repeat (first | (with_reducible first | exact HB.out | apply below_alloc | apply pw_below_drewN | apply below_drew1 | refine below_set ?_ GE406.out | refine below_set ?_ GE425.out) | exact HB.out))))
              have n7_ := Aside0.mk (blk_below (g := gb406) (o := .cells #[.int .i64 t401, .int .i64 t402, .slice Ao15 t403.length co15] 29 (0, 0)) (by (with_reducible repeat (first | refine blk_drewN ?_ _ | refine blk_drew ?_ | refine blk_alloc ?_ _)); exact BK406.out) hb)
              have n8_ := Aside0.mk (blk_below (g := gb425) (o := .cells #[.int .i64 x426000_1, .int .i64 x426001_1, u426002] 29 (0, 0)) (by (with_reducible repeat (first | refine blk_drewN ?_ _ | refine blk_drew ?_ | refine blk_alloc ?_ _)); exact BK425.out) hb)
              have n9_ := Aside0.mk (below_step (by repeat (first | (with_reducible first | exact HB.out | apply below_alloc | apply pw_below_drewN | apply below_drew1 | refine below_set ?_ GE406.out | refine below_set ?_ GE425.out) | exact HB.out)) hb)
              clear HO_407002
              clear HO_426002
              clear HO443
              clear HO448
              clear HO453
              clear HO461
              clear BK406
              clear BK425
              clear HB
              have HO_407002 := n0_
              have HO_426002 := n1_
              have HO443 := n2_
              have HO448 := n3_
              have HO453 := n4_
              have HO461 := n5_
              have HO466 := n6_
              have BK406 := n7_
              have BK425 := n8_
              have HB := n9_
              clear n0_ n1_ n2_ n3_ n4_ n5_ n6_ n7_ n8_ n9_
              (try clear hb)
              (try clear hb2)
              (try clear hk)
              (try clear hi)
              (try clear ho0)
              obtain ⟨Ao65, co65, eo65⟩ := Kd.V_slice HO466.out
              (first | subst eo65 | (injection eo65 with f1_ f2_ f3_; have f4_ := f1_.symm; have f5_ := f3_.symm; clear f1_ f2_ f3_; subst f4_; subst f5_))
              obtain ⟨Ao66, co66, eo66⟩ := Kd.V_slice HO_426002.out
              (first | subst eo66 | (injection eo66 with f1_ f2_ f3_; have f4_ := f1_.symm; have f5_ := f3_.symm; clear f1_ f2_ f3_; subst f4_; subst f5_))
              refine hK.out _ _ ⟨(blk_cell BK406.out 0).trans rfl, (blk_cell BK406.out 1).trans rfl, (blk_cell BK406.out 2).trans rfl, (blk_cell BK425.out 0).trans rfl, (blk_cell BK425.out 1).trans rfl, (blk_cell BK425.out 2).trans rfl⟩ (fun hHeld => ?_)
              clear hK K
              refine norm_ (a' := ?_) ?_ ?_
              rotate_left
              · show Act.put _ (some 40) _ = _
                simp only [Act.put, List.setIfInBounds_toArray, List.set_cons_zero, List.set_cons_succ, i64_w, i32_w, u8_w, u32_w]
                rfl
              refine one_ (i := 9) (N := some 42) #[true, true, true, true, true, true, true, true, true, true, false, false, false, false] rfl rfl (one_of HT_.out (by kernel_rfl)) (by decide) (fun K hK => ?_)
              refine Kd.N_lit_step k29 _ 29 ?hg (N' := 42) ?hd (xs := ([(⟨t462, t463, t464⟩ : S29), (⟨x426000_1, x426001_1, x426002_1⟩ : S29)] : List (S29))) (inner := [.int .i64 t462, .int .i64 t463, .slice Ao65 t464.length co65, .int .i64 x426000_1, .int .i64 x426001_1, .slice Ao66 x426002_1.length co66]) (ok := (fun k_ => some k_ ≠ (v442 : Value).ownBlock ∧ k_ ≠ gb406 ∧ k_ ≠ gb425)) (okp := (fun k_ => some k_ ≠ (v442 : Value).ownBlock ∧ k_ ≠ gb406 ∧ k_ ≠ gb425)) ?hr ?hp (fun _ hk => hk) ((show ∀ k_, w64.heap.size ≤ k_ → (fun k_ => some k_ ≠ (v442 : Value).ownBlock ∧ k_ ≠ gb406 ∧ k_ ≠ gb425) k_ from fun k_ hk => ⟨Kd.fresh' (Kd.N_lt (by (with_reducible repeat (first | apply Kd.N_alloc | apply Kd.N_drewN | apply Kd.N_drew)); exact HO443.out)) k_ hk, Kd.freshB (g := gb406) (o := .cells #[.int .i64 t401, .int .i64 t402, .slice Ao15 t403.length co15] 29 (0, 0)) (by (with_reducible repeat (first | refine blk_drewN ?_ _ | refine blk_drew ?_ | refine blk_alloc ?_ _)); exact BK406.out) k_ hk, Kd.freshB (g := gb425) (o := .cells #[.int .i64 x426000_1, .int .i64 x426001_1, .slice Ao66 x426002_1.length co66] 29 (0, 0)) (by (with_reducible repeat (first | refine blk_drewN ?_ _ | refine blk_drew ?_ | refine blk_alloc ?_ _)); exact BK425.out) k_ hk⟩) _ (Nat.le_refl _)) (Below.refl _ _) (Nat.le_refl _) (by simp) ?_; (case hd => rfl); (case hg => rfl); (case hr => first | (go_simp; done) | (go_simp; rfl)); (case hp => exact (Reps.c3 (show Kd.FK k29 _ _ (⟨t462, t463, t464⟩ : S29) [.int .i64 t462, .int .i64 t463, .slice Ao65 t464.length co65] from (k29_mkF _ _ (⟨t462, t463, t464⟩ : S29) (Kd.V_reads' (Kd.V_mono (ok' := (fun k_ => some k_ ≠ (v442 : Value).ownBlock ∧ k_ ≠ gb406 ∧ k_ ≠ gb425)) (HO466.out) (fun k_ hk => ⟨hk.1, ⟨hk.2.1, hk.2.2⟩⟩))).2.1 (Kd.V_F (Kd.V_mono (ok' := (fun k_ => some k_ ≠ (v442 : Value).ownBlock ∧ k_ ≠ gb406 ∧ k_ ≠ gb425)) (HO466.out) (fun k_ hk => ⟨hk.1, ⟨hk.2.1, hk.2.2⟩⟩))))) (Reps.c3 (show Kd.FK k29 _ _ (⟨x426000_1, x426001_1, x426002_1⟩ : S29) [.int .i64 x426000_1, .int .i64 x426001_1, .slice Ao66 x426002_1.length co66] from (k29_mkF _ _ (⟨x426000_1, x426001_1, x426002_1⟩ : S29) (Kd.V_reads' (Kd.V_mono (ok' := (fun k_ => some k_ ≠ (v442 : Value).ownBlock ∧ k_ ≠ gb406 ∧ k_ ≠ gb425)) (HO_426002.out) (fun k_ hk => ⟨hk.1.1.1.1.2, ⟨hk.1.1.1.1.1.1, hk.1.1.1.1.1.2⟩⟩))).2.1 (Kd.V_F (Kd.V_mono (ok' := (fun k_ => some k_ ≠ (v442 : Value).ownBlock ∧ k_ ≠ gb406 ∧ k_ ≠ gb425)) (HO_426002.out) (fun k_ hk => ⟨hk.1.1.1.1.2, ⟨hk.1.1.1.1.1.1, hk.1.1.1.1.1.2⟩⟩))))) (Reps.none _ _))))
              intro v468 w67 ho68 hb hg_ hnew_
              clear hg_ hnew_
              (first | rw [← Ny467.out] at ho68 | (simp only [Int.reduceToNat] at ho68; rw [← Ny467.out] at ho68))
              have n0_ := Aside0.mk (Kd.V_elder' (by (with_reducible repeat (first | apply Kd.V_alloc | apply Kd.V_drewN | apply Kd.V_drew)); exact HO_407002.out) (Kd.N_base ho68) hb)
              have n1_ := Aside0.mk (Kd.V_elder' (by (with_reducible repeat (first | apply Kd.V_alloc | apply Kd.V_drewN | apply Kd.V_drew)); exact HO_426002.out) (Kd.N_base ho68) hb)
              have n2_ := Aside0.mk (Kd.N_elder' (by (with_reducible repeat (first | apply Kd.N_alloc | apply Kd.N_drewN | apply Kd.N_drew)); exact HO443.out) (Kd.N_base ho68) hb)
              have n3_ := Aside0.mk (Kd.N_elder' (by (with_reducible repeat (first | apply Kd.N_alloc | apply Kd.N_drewN | apply Kd.N_drew)); exact HO448.out) (Kd.N_base ho68) hb)
              have n4_ := Aside0.mk (Kd.N_elder' (by (with_reducible repeat (first | apply Kd.N_alloc | apply Kd.N_drewN | apply Kd.N_drew)); exact HO453.out) (Kd.N_base ho68) hb)
              have n5_ := Aside0.mk (Kd.N_elder' (by (with_reducible repeat (first | apply Kd.N_alloc | apply Kd.N_drewN | apply Kd.N_drew)); exact HO461.out) (Kd.N_base ho68) hb)
              have n6_ := Aside0.mk (Kd.V_elder' (by (with_reducible repeat (first | apply Kd.V_alloc | apply Kd.V_drewN | apply Kd.V_drew)); exact HO466.out) (Kd.N_base ho68) hb)
              have n7_ := Aside0.mk (Kd.N_lower ho68 (below_size (by repeat (first | (with_reducible first | exact HB.out | apply below_alloc | apply pw_below_drewN | apply below_drew1 | refine below_set ?_ GE406.out | refine below_set ?_ GE425.out) | exact HB.out))))
              have n8_ := Aside0.mk (blk_below (g := gb406) (o := .cells #[.int .i64 t401, .int .i64 t402, .slice Ao15 t403.length co15] 29 (0, 0)) (by (with_reducible repeat (first | refine blk_drewN ?_ _ | refine blk_drew ?_ | refine blk_alloc ?_ _)); exact BK406.out) hb)
              have n9_ := Aside0.mk (blk_below (g := gb425) (o := .cells #[.int .i64 x426000_1, .int .i64 x426001_1, .slice Ao66 x426002_1.length co66] 29 (0, 0)) (by (with_reducible repeat (first | refine blk_drewN ?_ _ | refine blk_drew ?_ | refine blk_alloc ?_ _)); exact BK425.out) hb)
              have n10_ := Aside0.mk (below_step (by repeat (first | (with_reducible first | exact HB.out | apply below_alloc | apply pw_below_drewN | apply below_drew1 | refine below_set ?_ GE406.out | refine below_set ?_ GE425.out) | exact HB.out)) hb)
              clear HO_407002
              clear HO_426002
              clear HO443
              clear HO448
              clear HO453
              clear HO461
              clear HO466
              clear BK406
              clear BK425
              clear HB
              have HO_407002 := n0_
              have HO_426002 := n1_
              have HO443 := n2_
              have HO448 := n3_
              have HO453 := n4_
              have HO461 := n5_
              have HO466 := n6_
              have HO469 := n7_
              have BK406 := n8_
              have BK425 := n9_
              have HB := n10_
              clear n0_ n1_ n2_ n3_ n4_ n5_ n6_ n7_ n8_ n9_ n10_
              clear hb ho68
              obtain ⟨Ao69, co69, eo69⟩ := Kd.N_slice HO469.out
              (first | subst eo69 | (injection eo69 with f1_ f2_ f3_; have f4_ := f1_.symm; have f5_ := f3_.symm; clear f1_ f2_ f3_; subst f4_; subst f5_))
              refine hK.out _ _ ⟨(blk_cell BK406.out 0).trans rfl, (blk_cell BK406.out 1).trans rfl, (blk_cell BK406.out 2).trans rfl, (blk_cell BK425.out 0).trans rfl, (blk_cell BK425.out 1).trans rfl, (blk_cell BK425.out 2).trans rfl⟩ (fun hHeld => ?_)
              clear hK K
              refine norm_ (a' := ?_) ?_ ?_
              rotate_left
              · show Act.put _ (some 42) _ = _
                simp only [Act.put, List.setIfInBounds_toArray, List.set_cons_zero, List.set_cons_succ, i64_w, i32_w, u8_w, u32_w]
                rfl
              refine one_ (i := 10) (N := some 43) #[true, true, true, true, true, true, true, true, true, true, true, false, false, false] rfl rfl (one_of HT_.out (by kernel_rfl)) (by decide) (fun K hK => ?_)
              refine goes_ Try.func18 (by kernel_rfl) rfl #[.int .i64 28, .slice Ao69 y467.length co69] (by rfl) rfl rfl (by (try simp only [List.map_toArray, List.map_cons, List.map_nil]); first | done | rfl | (simp only [List.length_drop, List.length_take]; rfl)) ?_
              with_reducible refine (thyrsusref4_T.calls 28 (fun k_ => (some k_ ≠ (v442 : Value).ownBlock ∧ (k_ ≠ gb406 ∧ k_ ≠ gb425))) _ _ y467 t470 t471 t472 _ ?side1 A48.out).mono ?_
              (case side1 => exact Kd.N_V (HO469.out))
              rintro e w70 ⟨v473, rfl, ho0, hb⟩
              refine ⟨_, rfl, ?_⟩
              have n0_ := Aside0.mk (Kd.V_below (by (with_reducible repeat (first | apply Kd.V_alloc | apply Kd.V_drewN | apply Kd.V_drew)); exact HO_407002.out) hb)
              have n1_ := Aside0.mk (Kd.V_below (by (with_reducible repeat (first | apply Kd.V_alloc | apply Kd.V_drewN | apply Kd.V_drew)); exact HO_426002.out) hb)
              have n2_ := Aside0.mk (Kd.N_below (by (with_reducible repeat (first | apply Kd.N_alloc | apply Kd.N_drewN | apply Kd.N_drew)); exact HO443.out) hb)
              have n3_ := Aside0.mk (Kd.N_below (by (with_reducible repeat (first | apply Kd.N_alloc | apply Kd.N_drewN | apply Kd.N_drew)); exact HO448.out) hb)
              have n4_ := Aside0.mk (Kd.N_below (by (with_reducible repeat (first | apply Kd.N_alloc | apply Kd.N_drewN | apply Kd.N_drew)); exact HO453.out) hb)
              have n5_ := Aside0.mk (Kd.N_below (by (with_reducible repeat (first | apply Kd.N_alloc | apply Kd.N_drewN | apply Kd.N_drew)); exact HO461.out) hb)
              have n6_ := Aside0.mk (Kd.V_below (by (with_reducible repeat (first | apply Kd.V_alloc | apply Kd.V_drewN | apply Kd.V_drew)); exact HO466.out) hb)
              have n7_ := Aside0.mk (Kd.N_below (by (with_reducible repeat (first | apply Kd.N_alloc | apply Kd.N_drewN | apply Kd.N_drew)); exact HO469.out) hb)
              have n8_ := Aside0.mk (Kd.V_lower (Kd.V_mono (ok' := fun k_ => some k_ ≠ (v442 : Value).ownBlock ∧ k_ ≠ gb406 ∧ k_ ≠ gb425) ho0 (fun k_ hk_ => ⟨Or.elim hk_ (fun hs_ => hs_.1) (fun hn_ => (Kd.fresh' (Kd.N_lt (by (with_reducible repeat (first | apply Kd.N_alloc | apply Kd.N_drewN | apply Kd.N_drew)); exact HO443.out)) k_ hn_)), Or.elim hk_ (fun hs_ => hs_.2.1) (fun hn_ => (Kd.freshB (g := gb406) (o := .cells #[.int .i64 t401, .int .i64 t402, .slice Ao15 t403.length co15] 29 (0, 0)) (by (with_reducible repeat (first | refine blk_drewN ?_ _ | refine blk_drew ?_ | refine blk_alloc ?_ _)); exact BK406.out) k_ hn_)), Or.elim hk_ (fun hs_ => hs_.2.2) (fun hn_ => (Kd.freshB (g := gb425) (o := .cells #[.int .i64 x426000_1, .int .i64 x426001_1, .slice Ao66 x426002_1.length co66] 29 (0, 0)) (by (with_reducible repeat (first | refine blk_drewN ?_ _ | refine blk_drew ?_ | refine blk_alloc ?_ _)); exact BK425.out) k_ hn_))⟩)) (below_size (by repeat (first | (with_reducible first | exact HB.out | apply below_alloc | apply pw_below_drewN | apply below_drew1 | refine below_set ?_ GE406.out | refine below_set ?_ GE425.out) | exact HB.out))))
              have n9_ := Aside0.mk (blk_below (g := gb406) (o := .cells #[.int .i64 t401, .int .i64 t402, .slice Ao15 t403.length co15] 29 (0, 0)) (by (with_reducible repeat (first | refine blk_drewN ?_ _ | refine blk_drew ?_ | refine blk_alloc ?_ _)); exact BK406.out) hb)
              have n10_ := Aside0.mk (blk_below (g := gb425) (o := .cells #[.int .i64 x426000_1, .int .i64 x426001_1, .slice Ao66 x426002_1.length co66] 29 (0, 0)) (by (with_reducible repeat (first | refine blk_drewN ?_ _ | refine blk_drew ?_ | refine blk_alloc ?_ _)); exact BK425.out) hb)
              have n11_ := Aside0.mk (below_step (by repeat (first | (with_reducible first | exact HB.out | apply below_alloc | apply pw_below_drewN | apply below_drew1 | refine below_set ?_ GE406.out | refine below_set ?_ GE425.out) | exact HB.out)) hb)
              clear HO_407002
              clear HO_426002
              clear HO443
              clear HO448
              clear HO453
              clear HO461
              clear HO466
              clear HO469
              clear BK406
              clear BK425
              clear HB
              have HO_407002 := n0_
              have HO_426002 := n1_
              have HO443 := n2_
              have HO448 := n3_
              have HO453 := n4_
              have HO461 := n5_
              have HO466 := n6_
              have HO469 := n7_
              have HO474 := n8_
              have BK406 := n9_
              have BK425 := n10_
              have HB := n11_
              clear n0_ n1_ n2_ n3_ n4_ n5_ n6_ n7_ n8_ n9_ n10_ n11_
              (try clear hb)
              (try clear hb2)
              (try clear hk)
              (try clear hi)
              (try clear ho0)
              obtain ⟨Ao71, co71, eo71⟩ := Kd.N_slice HO443.out
              (first | subst eo71 | (injection eo71 with f1_ f2_ f3_; have f4_ := f1_.symm; have f5_ := f3_.symm; clear f1_ f2_ f3_; subst f4_; subst f5_))
              obtain ⟨Ao72, co72, eo72⟩ := Kd.V_slice HO474.out
              (first | subst eo72 | (injection eo72 with f1_ f2_ f3_; have f4_ := f1_.symm; have f5_ := f3_.symm; clear f1_ f2_ f3_; subst f4_; subst f5_))
              refine hK.out _ _ ⟨(blk_cell BK406.out 0).trans rfl, (blk_cell BK406.out 1).trans rfl, (blk_cell BK406.out 2).trans rfl, (blk_cell BK425.out 0).trans rfl, (blk_cell BK425.out 1).trans rfl, (blk_cell BK425.out 2).trans rfl⟩ (fun hHeld => ?_)
              clear hK K
              refine norm_ (a' := ?_) ?_ ?_
              rotate_left
              · show Act.put _ (some 43) _ = _
                simp only [Act.put, List.setIfInBounds_toArray, List.set_cons_zero, List.set_cons_succ, i64_w, i32_w, u8_w, u32_w]
                rfl
              refine one_ (i := 11) (N := some 44) #[true, true, true, true, true, true, true, true, true, true, true, true, false, false] rfl rfl (one_of HT_.out (by kernel_rfl)) (by decide) (fun K hK => ?_)
              refine Kd.N_lit_step k29 _ 29 ?hg (N' := 44) ?hd (xs := ([(⟨t439, t440, t441⟩ : S29), (⟨t470, t471, t472⟩ : S29)] : List (S29))) (inner := [.int .i64 t439, .int .i64 t440, .slice Ao71 t441.length co71, .int .i64 t470, .int .i64 t471, .slice Ao72 t472.length co72]) (ok := (fun k_ => k_ ≠ gb406 ∧ k_ ≠ gb425)) (okp := (fun k_ => k_ ≠ gb406 ∧ k_ ≠ gb425)) ?hr ?hp (fun _ hk => hk) ((show ∀ k_, w70.heap.size ≤ k_ → (fun k_ => k_ ≠ gb406 ∧ k_ ≠ gb425) k_ from fun k_ hk => ⟨Kd.freshB (g := gb406) (o := .cells #[.int .i64 t401, .int .i64 t402, .slice Ao15 t403.length co15] 29 (0, 0)) (by (with_reducible repeat (first | refine blk_drewN ?_ _ | refine blk_drew ?_ | refine blk_alloc ?_ _)); exact BK406.out) k_ hk, Kd.freshB (g := gb425) (o := .cells #[.int .i64 x426000_1, .int .i64 x426001_1, .slice Ao66 x426002_1.length co66] 29 (0, 0)) (by (with_reducible repeat (first | refine blk_drewN ?_ _ | refine blk_drew ?_ | refine blk_alloc ?_ _)); exact BK425.out) k_ hk⟩) _ (Nat.le_refl _)) (Below.refl _ _) (Nat.le_refl _) (by simp) ?_; (case hd => rfl); (case hg => rfl); (case hr => first | (go_simp; done) | (go_simp; rfl)); (case hp => exact (Reps.c3 (show Kd.FK k29 _ _ (⟨t439, t440, t441⟩ : S29) [.int .i64 t439, .int .i64 t440, .slice Ao71 t441.length co71] from (k29_mkF _ _ (⟨t439, t440, t441⟩ : S29) (Kd.N_reads' (Kd.N_mono (ok' := (fun k_ => k_ ≠ gb406 ∧ k_ ≠ gb425)) (HO443.out) (fun k_ hk => ⟨hk.1.1.1.1.1.1, hk.1.1.1.1.1.2⟩))).2.1 (Kd.N_F (Kd.N_mono (ok' := (fun k_ => k_ ≠ gb406 ∧ k_ ≠ gb425)) (HO443.out) (fun k_ hk => ⟨hk.1.1.1.1.1.1, hk.1.1.1.1.1.2⟩))))) (Reps.c3 (show Kd.FK k29 _ _ (⟨t470, t471, t472⟩ : S29) [.int .i64 t470, .int .i64 t471, .slice Ao72 t472.length co72] from (k29_mkF _ _ (⟨t470, t471, t472⟩ : S29) (Kd.V_reads' (Kd.V_mono (ok' := (fun k_ => k_ ≠ gb406 ∧ k_ ≠ gb425)) (HO474.out) (fun k_ hk => ⟨hk.2.1, hk.2.2⟩))).2.1 (Kd.V_F (Kd.V_mono (ok' := (fun k_ => k_ ≠ gb406 ∧ k_ ≠ gb425)) (HO474.out) (fun k_ hk => ⟨hk.2.1, hk.2.2⟩))))) (Reps.none _ _))))
              intro v476 w73 ho74 hb hg_ hnew_
              clear hg_ hnew_
              (first | rw [← Ny475.out] at ho74 | (simp only [Int.reduceToNat] at ho74; rw [← Ny475.out] at ho74))
              have n0_ := Aside0.mk (Kd.V_elder' (by (with_reducible repeat (first | apply Kd.V_alloc | apply Kd.V_drewN | apply Kd.V_drew)); exact HO_407002.out) (Kd.N_base ho74) hb)
              have n1_ := Aside0.mk (Kd.V_elder' (by (with_reducible repeat (first | apply Kd.V_alloc | apply Kd.V_drewN | apply Kd.V_drew)); exact HO_426002.out) (Kd.N_base ho74) hb)
              have n2_ := Aside0.mk (Kd.N_elder' (by (with_reducible repeat (first | apply Kd.N_alloc | apply Kd.N_drewN | apply Kd.N_drew)); exact HO448.out) (Kd.N_base ho74) hb)
              have n3_ := Aside0.mk (Kd.N_elder' (by (with_reducible repeat (first | apply Kd.N_alloc | apply Kd.N_drewN | apply Kd.N_drew)); exact HO453.out) (Kd.N_base ho74) hb)
              have n4_ := Aside0.mk (Kd.N_elder' (by (with_reducible repeat (first | apply Kd.N_alloc | apply Kd.N_drewN | apply Kd.N_drew)); exact HO461.out) (Kd.N_base ho74) hb)
              have n5_ := Aside0.mk (Kd.V_elder' (by (with_reducible repeat (first | apply Kd.V_alloc | apply Kd.V_drewN | apply Kd.V_drew)); exact HO466.out) (Kd.N_base ho74) hb)
              have n6_ := Aside0.mk (Kd.N_elder' (by (with_reducible repeat (first | apply Kd.N_alloc | apply Kd.N_drewN | apply Kd.N_drew)); exact HO469.out) (Kd.N_base ho74) hb)
              have n7_ := Aside0.mk (Kd.V_elder' (by (with_reducible repeat (first | apply Kd.V_alloc | apply Kd.V_drewN | apply Kd.V_drew)); exact HO474.out) (Kd.N_base ho74) hb)
              have n8_ := Aside0.mk (Kd.N_lower ho74 (below_size (by repeat (first | (with_reducible first | exact HB.out | apply below_alloc | apply pw_below_drewN | apply below_drew1 | refine below_set ?_ GE406.out | refine below_set ?_ GE425.out) | exact HB.out))))
              have n9_ := Aside0.mk (blk_below (g := gb406) (o := .cells #[.int .i64 t401, .int .i64 t402, .slice Ao15 t403.length co15] 29 (0, 0)) (by (with_reducible repeat (first | refine blk_drewN ?_ _ | refine blk_drew ?_ | refine blk_alloc ?_ _)); exact BK406.out) hb)
              have n10_ := Aside0.mk (blk_below (g := gb425) (o := .cells #[.int .i64 x426000_1, .int .i64 x426001_1, .slice Ao66 x426002_1.length co66] 29 (0, 0)) (by (with_reducible repeat (first | refine blk_drewN ?_ _ | refine blk_drew ?_ | refine blk_alloc ?_ _)); exact BK425.out) hb)
              have n11_ := Aside0.mk (below_step (by repeat (first | (with_reducible first | exact HB.out | apply below_alloc | apply pw_below_drewN | apply below_drew1 | refine below_set ?_ GE406.out | refine below_set ?_ GE425.out) | exact HB.out)) hb)
              clear HO_407002
              clear HO_426002
              clear HO448
              clear HO453
              clear HO461
              clear HO466
              clear HO469
              clear HO474
              clear BK406
              clear BK425
              clear HB
              clear HO443
              have HO_407002 := n0_
              have HO_426002 := n1_
              have HO448 := n2_
              have HO453 := n3_
              have HO461 := n4_
              have HO466 := n5_
              have HO469 := n6_
              have HO474 := n7_
              have HO477 := n8_
              have BK406 := n9_
              have BK425 := n10_
              have HB := n11_
              clear n0_ n1_ n2_ n3_ n4_ n5_ n6_ n7_ n8_ n9_ n10_ n11_
              clear hb ho74
              obtain ⟨Ao75, co75, eo75⟩ := Kd.N_slice HO477.out
              (first | subst eo75 | (injection eo75 with f1_ f2_ f3_; have f4_ := f1_.symm; have f5_ := f3_.symm; clear f1_ f2_ f3_; subst f4_; subst f5_))
              refine hK.out _ _ ⟨(blk_cell BK406.out 0).trans rfl, (blk_cell BK406.out 1).trans rfl, (blk_cell BK406.out 2).trans rfl, (blk_cell BK425.out 0).trans rfl, (blk_cell BK425.out 1).trans rfl, (blk_cell BK425.out 2).trans rfl⟩ (fun hHeld => ?_)
              clear hK K
              refine norm_ (a' := ?_) ?_ ?_
              rotate_left
              · show Act.put _ (some 44) _ = _
                simp only [Act.put, List.setIfInBounds_toArray, List.set_cons_zero, List.set_cons_succ, i64_w, i32_w, u8_w, u32_w]
                rfl
              refine one_ (i := 12) (N := some 45) #[true, true, true, true, true, true, true, true, true, true, true, true, true, false] rfl rfl (one_of HT_.out (by kernel_rfl)) (by decide) (fun K hK => ?_)
              refine goes_ Try.func18 (by kernel_rfl) rfl #[.int .i64 28, .slice Ao75 y475.length co75] (by rfl) rfl rfl (by (try simp only [List.map_toArray, List.map_cons, List.map_nil]); first | done | rfl | (simp only [List.length_drop, List.length_take]; rfl)) ?_
              with_reducible refine (thyrsusref4_T.calls 28 (fun k_ => (k_ ≠ gb406 ∧ k_ ≠ gb425)) _ _ y475 t478 t479 t480 _ ?side1 A49.out).mono ?_
              (case side1 => exact Kd.N_V (HO477.out))
              rintro e w76 ⟨v481, rfl, ho0, hb⟩
              refine ⟨_, rfl, ?_⟩
              have n0_ := Aside0.mk (Kd.V_below (by (with_reducible repeat (first | apply Kd.V_alloc | apply Kd.V_drewN | apply Kd.V_drew)); exact HO_407002.out) hb)
              have n1_ := Aside0.mk (Kd.V_below (by (with_reducible repeat (first | apply Kd.V_alloc | apply Kd.V_drewN | apply Kd.V_drew)); exact HO_426002.out) hb)
              have n2_ := Aside0.mk (Kd.N_below (by (with_reducible repeat (first | apply Kd.N_alloc | apply Kd.N_drewN | apply Kd.N_drew)); exact HO448.out) hb)
              have n3_ := Aside0.mk (Kd.N_below (by (with_reducible repeat (first | apply Kd.N_alloc | apply Kd.N_drewN | apply Kd.N_drew)); exact HO453.out) hb)
              have n4_ := Aside0.mk (Kd.N_below (by (with_reducible repeat (first | apply Kd.N_alloc | apply Kd.N_drewN | apply Kd.N_drew)); exact HO461.out) hb)
              have n5_ := Aside0.mk (Kd.V_below (by (with_reducible repeat (first | apply Kd.V_alloc | apply Kd.V_drewN | apply Kd.V_drew)); exact HO466.out) hb)
              have n6_ := Aside0.mk (Kd.N_below (by (with_reducible repeat (first | apply Kd.N_alloc | apply Kd.N_drewN | apply Kd.N_drew)); exact HO469.out) hb)
              have n7_ := Aside0.mk (Kd.V_below (by (with_reducible repeat (first | apply Kd.V_alloc | apply Kd.V_drewN | apply Kd.V_drew)); exact HO474.out) hb)
              have n8_ := Aside0.mk (Kd.N_below (by (with_reducible repeat (first | apply Kd.N_alloc | apply Kd.N_drewN | apply Kd.N_drew)); exact HO477.out) hb)
              have n9_ := Aside0.mk (Kd.V_lower (Kd.V_mono (ok' := fun k_ => k_ ≠ gb406 ∧ k_ ≠ gb425) ho0 (fun k_ hk_ => ⟨Or.elim hk_ (fun hs_ => hs_.1) (fun hn_ => (Kd.freshB (g := gb406) (o := .cells #[.int .i64 t401, .int .i64 t402, .slice Ao15 t403.length co15] 29 (0, 0)) (by (with_reducible repeat (first | refine blk_drewN ?_ _ | refine blk_drew ?_ | refine blk_alloc ?_ _)); exact BK406.out) k_ hn_)), Or.elim hk_ (fun hs_ => hs_.2) (fun hn_ => (Kd.freshB (g := gb425) (o := .cells #[.int .i64 x426000_1, .int .i64 x426001_1, .slice Ao66 x426002_1.length co66] 29 (0, 0)) (by (with_reducible repeat (first | refine blk_drewN ?_ _ | refine blk_drew ?_ | refine blk_alloc ?_ _)); exact BK425.out) k_ hn_))⟩)) (below_size (by repeat (first | (with_reducible first | exact HB.out | apply below_alloc | apply pw_below_drewN | apply below_drew1 | refine below_set ?_ GE406.out | refine below_set ?_ GE425.out) | exact HB.out))))
              have n10_ := Aside0.mk (blk_below (g := gb406) (o := .cells #[.int .i64 t401, .int .i64 t402, .slice Ao15 t403.length co15] 29 (0, 0)) (by (with_reducible repeat (first | refine blk_drewN ?_ _ | refine blk_drew ?_ | refine blk_alloc ?_ _)); exact BK406.out) hb)
              have n11_ := Aside0.mk (blk_below (g := gb425) (o := .cells #[.int .i64 x426000_1, .int .i64 x426001_1, .slice Ao66 x426002_1.length co66] 29 (0, 0)) (by (with_reducible repeat (first | refine blk_drewN ?_ _ | refine blk_drew ?_ | refine blk_alloc ?_ _)); exact BK425.out) hb)
              have n12_ := Aside0.mk (below_step (by repeat (first | (with_reducible first | exact HB.out | apply below_alloc | apply pw_below_drewN | apply below_drew1 | refine below_set ?_ GE406.out | refine below_set ?_ GE425.out) | exact HB.out)) hb)
              clear HO_407002
              clear HO_426002
              clear HO448
              clear HO453
              clear HO461
              clear HO466
              clear HO469
              clear HO474
              clear HO477
              clear BK406
              clear BK425
              clear HB
              have HO_407002 := n0_
              have HO_426002 := n1_
              have HO448 := n2_
              have HO453 := n3_
              have HO461 := n4_
              have HO466 := n5_
              have HO469 := n6_
              have HO474 := n7_
              have HO477 := n8_
              have HO482 := n9_
              have BK406 := n10_
              have BK425 := n11_
              have HB := n12_
              clear n0_ n1_ n2_ n3_ n4_ n5_ n6_ n7_ n8_ n9_ n10_ n11_ n12_
              (try clear hb)
              (try clear hb2)
              (try clear hk)
              (try clear hi)
              (try clear ho0)
              obtain ⟨Ao79, co79, eo79⟩ := Kd.V_slice HO482.out
              (first | subst eo79 | (injection eo79 with f1_ f2_ f3_; have f4_ := f1_.symm; have f5_ := f3_.symm; clear f1_ f2_ f3_; subst f4_; subst f5_))
              refine hK.out _ _ ⟨(blk_cell BK406.out 0).trans rfl, (blk_cell BK406.out 1).trans rfl, (blk_cell BK406.out 2).trans rfl, (blk_cell BK425.out 0).trans rfl, (blk_cell BK425.out 1).trans rfl, (blk_cell BK425.out 2).trans rfl⟩ (fun hHeld => ?_)
              clear hK K
              refine norm_ (a' := ?_) ?_ ?_
              rotate_left
              · show Act.put _ (some 45) _ = _
                simp only [Act.put, List.setIfInBounds_toArray, List.set_cons_zero, List.set_cons_succ, i64_w, i32_w, u8_w, u32_w]
                rfl
              refine last_ (i := 13) (N := none) #[true, true, true, true, true, true, true, true, true, true, true, true, true, true] rfl rfl (one_of HT_.out (by kernel_rfl)) (by decide) (fun K hK => ?_)
              have hs77 : w76.cell? ⟨gb425, 0, none⟩ = some (.int .i64 x426000_1) := (blk_cell BK425.out 0).trans rfl
              have hfs77 := blk_frozen BK425.out 0
              have hns77_0 := NB406_425.out
              have hms77_0 := NB425_406.out
              have hs78 : w76.cell? ⟨gb425, 1, none⟩ = some (.int .i64 x426001_1) := (blk_cell BK425.out 1).trans rfl
              have hfs78 := blk_frozen BK425.out 1
              have hns78_0 := NB406_425.out
              have hms78_0 := NB425_406.out
              have hs80 : w76.cell? ⟨gb425, 2, none⟩ = some (.slice Ao66 x426002_1.length co66) := (blk_cell BK425.out 2).trans rfl
              have hfs80 := blk_frozen BK425.out 2
              have hns80_0 := NB406_425.out
              have hms80_0 := NB425_406.out
              refine skip_ (w1 := ?_) (by rfl) rfl ?_ ?_
              rotate_left
              · go_simp
                rfl
              refine hK.out _ _ ?_
              clear hK K
              refine done_ (done_of HT_.out (by kernel_rfl)) ?_
              have hnb81 := NB425_406.out
              have hnc81 := NB406_425.out
              have hcz82_0 : w76.cell? ⟨gb425, 0, none⟩ = some (.int .i64 x426000_1) := (blk_cell BK425.out 0).trans rfl
              have hcz82_1 : w76.cell? ⟨gb425, 1, none⟩ = some (.int .i64 x426001_1) := (blk_cell BK425.out 1).trans rfl
              have hcz82_2 : w76.cell? ⟨gb425, 2, none⟩ = some (.slice Ao66 x426002_1.length co66) := (blk_cell BK425.out 2).trans rfl
              have hfz82_0 := blk_frozen BK425.out 0
              have hfz82_1 := blk_frozen BK425.out 1
              have hfz82_2 := blk_frozen BK425.out 2
              try go_wp2_with (first | ((with_reducible refine gate_callee (f := 12) rfl ?_); refine goesL_ (some 48) rfl rfl Try.func12 (by kernel_rfl) rfl #[.agg #[.int .i64 t478, .int .i64 t479, .slice Ao79 t480.length co79], .int .i64 5] rfl (by (try simp only [List.map_toArray, List.map_cons, List.map_nil]); first | done | rfl | (simp only [List.length_drop, List.length_take]; rfl)) ?_; (with_reducible refine (run_Run.calls k1 t478 t479 _ _ t480 5 t483 t484 t485 t488 t489 _ ?side1 ?side2 A50.out).mono ?_); (case side1 => refine (Kd.V_reads' (e := 29) (base := w.heap.size) (ok := fun k_ => (k_ ≠ gb406 ∧ k_ ≠ gb425)) (n := t480.length) (c := co79) ?_).2.2; exact (by (with_reducible repeat (first | apply Kd.V_alloc | apply Kd.V_drewN | apply Kd.V_drew)); exact (Kd.V_mono (Kd.V_far (p := ⟨gb425, 2, none⟩) (Kd.V_far (p := ⟨gb425, 1, none⟩) (Kd.V_far (p := ⟨gb425, 0, none⟩) (Kd.V_mono HO482.out (fun k_ hk => (⟨hk, hk.2⟩ : _ ∧ k_ ≠ gb425))) (fun _ hk => hk.2) (.int .i64 t478)) (fun _ hk => hk.2) (.int .i64 t479)) (fun _ hk => hk.2) (.slice Ao79 t480.length co79)) (fun _ h_ => h_.1)))); (case side2 => exact (Kd.V_reads' HO482.out).2.1); rintro e w83 ⟨v486, rfl, ho0, hb⟩; refine ⟨_, rfl, ?_⟩; have n0_ := Aside0.mk (Kd.V_elder' (by (with_reducible repeat (first | apply Kd.V_alloc | apply Kd.V_drewN | apply Kd.V_drew)); exact (Kd.V_mono (Kd.V_far (p := ⟨gb425, 2, none⟩) (Kd.V_far (p := ⟨gb425, 1, none⟩) (Kd.V_far (p := ⟨gb425, 0, none⟩) (Kd.V_mono HO_407002.out (fun k_ hk => (⟨hk, hk.1.1.1.1.1.1.1.2⟩ : _ ∧ k_ ≠ gb425))) (fun _ hk => hk.2) (.int .i64 t478)) (fun _ hk => hk.2) (.int .i64 t479)) (fun _ hk => hk.2) (.slice Ao79 t480.length co79)) (fun _ h_ => h_.1))) (by first | exact Kd.N_base ho0 | exact Kd.N_base (Kd.R_N ho0)) hb); have n1_ := Aside0.mk (Kd.V_elder' (by (with_reducible repeat (first | apply Kd.V_alloc | apply Kd.V_drewN | apply Kd.V_drew)); exact (Kd.V_mono (Kd.V_far (p := ⟨gb425, 2, none⟩) (Kd.V_far (p := ⟨gb425, 1, none⟩) (Kd.V_far (p := ⟨gb425, 0, none⟩) (Kd.V_mono HO_426002.out (fun k_ hk => (⟨hk, hk.1.1.1.1.1.1.1.2⟩ : _ ∧ k_ ≠ gb425))) (fun _ hk => hk.2) (.int .i64 t478)) (fun _ hk => hk.2) (.int .i64 t479)) (fun _ hk => hk.2) (.slice Ao79 t480.length co79)) (fun _ h_ => h_.1))) (by first | exact Kd.N_base ho0 | exact Kd.N_base (Kd.R_N ho0)) hb); have n2_ := Aside0.mk (Kd.N_elder' (by (with_reducible repeat (first | apply Kd.N_alloc | apply Kd.N_drewN | apply Kd.N_drew)); exact (Kd.N_mono (Kd.N_far (p := ⟨gb425, 2, none⟩) (Kd.N_far (p := ⟨gb425, 1, none⟩) (Kd.N_far (p := ⟨gb425, 0, none⟩) (Kd.N_mono HO448.out (fun k_ hk => (⟨hk, hk.1.1.1.1.1.2.2⟩ : _ ∧ k_ ≠ gb425))) (fun _ hk => hk.2) (.int .i64 t478)) (fun _ hk => hk.2) (.int .i64 t479)) (fun _ hk => hk.2) (.slice Ao79 t480.length co79)) (fun _ h_ => h_.1))) (by first | exact Kd.N_base ho0 | exact Kd.N_base (Kd.R_N ho0)) hb); have n3_ := Aside0.mk (Kd.N_elder' (by (with_reducible repeat (first | apply Kd.N_alloc | apply Kd.N_drewN | apply Kd.N_drew)); exact (Kd.N_mono (Kd.N_far (p := ⟨gb425, 2, none⟩) (Kd.N_far (p := ⟨gb425, 1, none⟩) (Kd.N_far (p := ⟨gb425, 0, none⟩) (Kd.N_mono HO453.out (fun k_ hk => (⟨hk, hk.1.1.1.1.2.2.2⟩ : _ ∧ k_ ≠ gb425))) (fun _ hk => hk.2) (.int .i64 t478)) (fun _ hk => hk.2) (.int .i64 t479)) (fun _ hk => hk.2) (.slice Ao79 t480.length co79)) (fun _ h_ => h_.1))) (by first | exact Kd.N_base ho0 | exact Kd.N_base (Kd.R_N ho0)) hb); have n4_ := Aside0.mk (Kd.N_elder' (by (with_reducible repeat (first | apply Kd.N_alloc | apply Kd.N_drewN | apply Kd.N_drew)); exact (Kd.N_mono (Kd.N_far (p := ⟨gb425, 2, none⟩) (Kd.N_far (p := ⟨gb425, 1, none⟩) (Kd.N_far (p := ⟨gb425, 0, none⟩) (Kd.N_mono HO461.out (fun k_ hk => (⟨hk, hk.1.1.2.2⟩ : _ ∧ k_ ≠ gb425))) (fun _ hk => hk.2) (.int .i64 t478)) (fun _ hk => hk.2) (.int .i64 t479)) (fun _ hk => hk.2) (.slice Ao79 t480.length co79)) (fun _ h_ => h_.1))) (by first | exact Kd.N_base ho0 | exact Kd.N_base (Kd.R_N ho0)) hb); have n5_ := Aside0.mk (Kd.V_elder' (by (with_reducible repeat (first | apply Kd.V_alloc | apply Kd.V_drewN | apply Kd.V_drew)); exact (Kd.V_mono (Kd.V_far (p := ⟨gb425, 2, none⟩) (Kd.V_far (p := ⟨gb425, 1, none⟩) (Kd.V_far (p := ⟨gb425, 0, none⟩) (Kd.V_mono HO466.out (fun k_ hk => (⟨hk, hk.1.1.2.2⟩ : _ ∧ k_ ≠ gb425))) (fun _ hk => hk.2) (.int .i64 t478)) (fun _ hk => hk.2) (.int .i64 t479)) (fun _ hk => hk.2) (.slice Ao79 t480.length co79)) (fun _ h_ => h_.1))) (by first | exact Kd.N_base ho0 | exact Kd.N_base (Kd.R_N ho0)) hb); have n6_ := Aside0.mk (Kd.N_elder' (by (with_reducible repeat (first | apply Kd.N_alloc | apply Kd.N_drewN | apply Kd.N_drew)); exact (Kd.N_mono (Kd.N_far (p := ⟨gb425, 2, none⟩) (Kd.N_far (p := ⟨gb425, 1, none⟩) (Kd.N_far (p := ⟨gb425, 0, none⟩) (Kd.N_mono HO469.out (fun k_ hk => (⟨hk, hk.1.2.2⟩ : _ ∧ k_ ≠ gb425))) (fun _ hk => hk.2) (.int .i64 t478)) (fun _ hk => hk.2) (.int .i64 t479)) (fun _ hk => hk.2) (.slice Ao79 t480.length co79)) (fun _ h_ => h_.1))) (by first | exact Kd.N_base ho0 | exact Kd.N_base (Kd.R_N ho0)) hb); have n7_ := Aside0.mk (Kd.V_elder' (by (with_reducible repeat (first | apply Kd.V_alloc | apply Kd.V_drewN | apply Kd.V_drew)); exact (Kd.V_mono (Kd.V_far (p := ⟨gb425, 2, none⟩) (Kd.V_far (p := ⟨gb425, 1, none⟩) (Kd.V_far (p := ⟨gb425, 0, none⟩) (Kd.V_mono HO474.out (fun k_ hk => (⟨hk, hk.1.2.2⟩ : _ ∧ k_ ≠ gb425))) (fun _ hk => hk.2) (.int .i64 t478)) (fun _ hk => hk.2) (.int .i64 t479)) (fun _ hk => hk.2) (.slice Ao79 t480.length co79)) (fun _ h_ => h_.1))) (by first | exact Kd.N_base ho0 | exact Kd.N_base (Kd.R_N ho0)) hb); have n8_ := Aside0.mk (Kd.N_elder' (by (with_reducible repeat (first | apply Kd.N_alloc | apply Kd.N_drewN | apply Kd.N_drew)); exact (Kd.N_mono (Kd.N_far (p := ⟨gb425, 2, none⟩) (Kd.N_far (p := ⟨gb425, 1, none⟩) (Kd.N_far (p := ⟨gb425, 0, none⟩) (Kd.N_mono HO477.out (fun k_ hk => (⟨hk, hk.2⟩ : _ ∧ k_ ≠ gb425))) (fun _ hk => hk.2) (.int .i64 t478)) (fun _ hk => hk.2) (.int .i64 t479)) (fun _ hk => hk.2) (.slice Ao79 t480.length co79)) (fun _ h_ => h_.1))) (by first | exact Kd.N_base ho0 | exact Kd.N_base (Kd.R_N ho0)) hb); have n9_ := Aside0.mk (Kd.V_elder' (by (with_reducible repeat (first | apply Kd.V_alloc | apply Kd.V_drewN | apply Kd.V_drew)); exact (Kd.V_mono (Kd.V_far (p := ⟨gb425, 2, none⟩) (Kd.V_far (p := ⟨gb425, 1, none⟩) (Kd.V_far (p := ⟨gb425, 0, none⟩) (Kd.V_mono HO482.out (fun k_ hk => (⟨hk, hk.2⟩ : _ ∧ k_ ≠ gb425))) (fun _ hk => hk.2) (.int .i64 t478)) (fun _ hk => hk.2) (.int .i64 t479)) (fun _ hk => hk.2) (.slice Ao79 t480.length co79)) (fun _ h_ => h_.1))) (by first | exact Kd.N_base ho0 | exact Kd.N_base (Kd.R_N ho0)) hb); have n10_ := Aside0.mk (Kd.N_lower (Kd.N_mono (ok' := fun k_ => some k_ ≠ (.slice Ao57 t446.length co57 : Value).ownBlock ∧ some k_ ≠ (.slice Ao58 t451.length co58 : Value).ownBlock ∧ some k_ ≠ (.slice Ao63 y459.length co63 : Value).ownBlock ∧ some k_ ≠ (.slice Ao69 y467.length co69 : Value).ownBlock ∧ some k_ ≠ (.slice Ao75 y475.length co75 : Value).ownBlock ∧ k_ ≠ gb406 ∧ k_ ≠ gb425) (Kd.R_N (Kd.R_bound ho0)) (fun k_ hk_ => ⟨(Kd.fresh' (Kd.N_lt (by (with_reducible repeat (first | apply Kd.N_alloc | apply Kd.N_drewN | apply Kd.N_drew)); exact (Kd.N_mono (Kd.N_far (p := ⟨gb425, 2, none⟩) (Kd.N_far (p := ⟨gb425, 1, none⟩) (Kd.N_far (p := ⟨gb425, 0, none⟩) (Kd.N_mono HO448.out (fun k_ hk => (⟨hk, hk.1.1.1.1.1.2.2⟩ : _ ∧ k_ ≠ gb425))) (fun _ hk => hk.2) (.int .i64 t478)) (fun _ hk => hk.2) (.int .i64 t479)) (fun _ hk => hk.2) (.slice Ao79 t480.length co79)) (fun _ h_ => h_.1)))) k_ hk_.2.1), (Kd.fresh' (Kd.N_lt (by (with_reducible repeat (first | apply Kd.N_alloc | apply Kd.N_drewN | apply Kd.N_drew)); exact (Kd.N_mono (Kd.N_far (p := ⟨gb425, 2, none⟩) (Kd.N_far (p := ⟨gb425, 1, none⟩) (Kd.N_far (p := ⟨gb425, 0, none⟩) (Kd.N_mono HO453.out (fun k_ hk => (⟨hk, hk.1.1.1.1.2.2.2⟩ : _ ∧ k_ ≠ gb425))) (fun _ hk => hk.2) (.int .i64 t478)) (fun _ hk => hk.2) (.int .i64 t479)) (fun _ hk => hk.2) (.slice Ao79 t480.length co79)) (fun _ h_ => h_.1)))) k_ hk_.2.1), (Kd.fresh' (Kd.N_lt (by (with_reducible repeat (first | apply Kd.N_alloc | apply Kd.N_drewN | apply Kd.N_drew)); exact (Kd.N_mono (Kd.N_far (p := ⟨gb425, 2, none⟩) (Kd.N_far (p := ⟨gb425, 1, none⟩) (Kd.N_far (p := ⟨gb425, 0, none⟩) (Kd.N_mono HO461.out (fun k_ hk => (⟨hk, hk.1.1.2.2⟩ : _ ∧ k_ ≠ gb425))) (fun _ hk => hk.2) (.int .i64 t478)) (fun _ hk => hk.2) (.int .i64 t479)) (fun _ hk => hk.2) (.slice Ao79 t480.length co79)) (fun _ h_ => h_.1)))) k_ hk_.2.1), (Kd.fresh' (Kd.N_lt (by (with_reducible repeat (first | apply Kd.N_alloc | apply Kd.N_drewN | apply Kd.N_drew)); exact (Kd.N_mono (Kd.N_far (p := ⟨gb425, 2, none⟩) (Kd.N_far (p := ⟨gb425, 1, none⟩) (Kd.N_far (p := ⟨gb425, 0, none⟩) (Kd.N_mono HO469.out (fun k_ hk => (⟨hk, hk.1.2.2⟩ : _ ∧ k_ ≠ gb425))) (fun _ hk => hk.2) (.int .i64 t478)) (fun _ hk => hk.2) (.int .i64 t479)) (fun _ hk => hk.2) (.slice Ao79 t480.length co79)) (fun _ h_ => h_.1)))) k_ hk_.2.1), (Kd.fresh' (Kd.N_lt (by (with_reducible repeat (first | apply Kd.N_alloc | apply Kd.N_drewN | apply Kd.N_drew)); exact (Kd.N_mono (Kd.N_far (p := ⟨gb425, 2, none⟩) (Kd.N_far (p := ⟨gb425, 1, none⟩) (Kd.N_far (p := ⟨gb425, 0, none⟩) (Kd.N_mono HO477.out (fun k_ hk => (⟨hk, hk.2⟩ : _ ∧ k_ ≠ gb425))) (fun _ hk => hk.2) (.int .i64 t478)) (fun _ hk => hk.2) (.int .i64 t479)) (fun _ hk => hk.2) (.slice Ao79 t480.length co79)) (fun _ h_ => h_.1)))) k_ hk_.2.1), (Kd.freshB (g := gb406) (o := .cells #[.int .i64 t401, .int .i64 t402, .slice Ao15 t403.length co15] 29 (0, 0)) (by (with_reducible repeat (first | refine blk_drewN ?_ _ | refine blk_drew ?_ | refine blk_alloc ?_ _)); refine blk_far ?_ NB406_425.out _; (with_reducible repeat (first | refine blk_drewN ?_ _ | refine blk_drew ?_ | refine blk_alloc ?_ _)); refine blk_far ?_ NB406_425.out _; (with_reducible repeat (first | refine blk_drewN ?_ _ | refine blk_drew ?_ | refine blk_alloc ?_ _)); refine blk_far ?_ NB406_425.out _; (with_reducible repeat (first | refine blk_drewN ?_ _ | refine blk_drew ?_ | refine blk_alloc ?_ _)); exact BK406.out) k_ hk_.2.1), (Kd.freshB (g := gb425) (o := .cells #[.int .i64 t478, .int .i64 t479, .slice Ao79 t480.length co79] 29 (0, 0)) (by (with_reducible repeat (first | refine blk_drewN ?_ _ | refine blk_drew ?_ | refine blk_alloc ?_ _)); refine blk_put (cs := #[.int .i64 t478, .int .i64 t479, .slice Ao66 x426002_1.length co66]) ?_ 2 _ rfl; (with_reducible repeat (first | refine blk_drewN ?_ _ | refine blk_drew ?_ | refine blk_alloc ?_ _)); refine blk_put (cs := #[.int .i64 t478, .int .i64 x426001_1, .slice Ao66 x426002_1.length co66]) ?_ 1 _ rfl; (with_reducible repeat (first | refine blk_drewN ?_ _ | refine blk_drew ?_ | refine blk_alloc ?_ _)); refine blk_put (cs := #[.int .i64 x426000_1, .int .i64 x426001_1, .slice Ao66 x426002_1.length co66]) ?_ 0 _ rfl; (with_reducible repeat (first | refine blk_drewN ?_ _ | refine blk_drew ?_ | refine blk_alloc ?_ _)); exact BK425.out) k_ hk_.2.1)⟩)) (below_size (by repeat (first | (with_reducible first | exact HB.out | apply below_alloc | apply pw_below_drewN | apply below_drew1 | refine below_set ?_ GE406.out | refine below_set ?_ GE425.out) | exact HB.out)))); have n11_ := Aside0.mk (blk_below (g := gb406) (o := .cells #[.int .i64 t401, .int .i64 t402, .slice Ao15 t403.length co15] 29 (0, 0)) (by (with_reducible repeat (first | refine blk_drewN ?_ _ | refine blk_drew ?_ | refine blk_alloc ?_ _)); refine blk_far ?_ NB406_425.out _; (with_reducible repeat (first | refine blk_drewN ?_ _ | refine blk_drew ?_ | refine blk_alloc ?_ _)); refine blk_far ?_ NB406_425.out _; (with_reducible repeat (first | refine blk_drewN ?_ _ | refine blk_drew ?_ | refine blk_alloc ?_ _)); refine blk_far ?_ NB406_425.out _; (with_reducible repeat (first | refine blk_drewN ?_ _ | refine blk_drew ?_ | refine blk_alloc ?_ _)); exact BK406.out) hb); have n12_ := Aside0.mk (blk_below (g := gb425) (o := .cells #[.int .i64 t478, .int .i64 t479, .slice Ao79 t480.length co79] 29 (0, 0)) (by (with_reducible repeat (first | refine blk_drewN ?_ _ | refine blk_drew ?_ | refine blk_alloc ?_ _)); refine blk_put (cs := #[.int .i64 t478, .int .i64 t479, .slice Ao66 x426002_1.length co66]) ?_ 2 _ rfl; (with_reducible repeat (first | refine blk_drewN ?_ _ | refine blk_drew ?_ | refine blk_alloc ?_ _)); refine blk_put (cs := #[.int .i64 t478, .int .i64 x426001_1, .slice Ao66 x426002_1.length co66]) ?_ 1 _ rfl; (with_reducible repeat (first | refine blk_drewN ?_ _ | refine blk_drew ?_ | refine blk_alloc ?_ _)); refine blk_put (cs := #[.int .i64 x426000_1, .int .i64 x426001_1, .slice Ao66 x426002_1.length co66]) ?_ 0 _ rfl; (with_reducible repeat (first | refine blk_drewN ?_ _ | refine blk_drew ?_ | refine blk_alloc ?_ _)); exact BK425.out) hb); have n13_ := Aside0.mk (below_step (by repeat (first | (with_reducible first | exact HB.out | apply below_alloc | apply pw_below_drewN | apply below_drew1 | refine below_set ?_ GE406.out | refine below_set ?_ GE425.out) | exact HB.out)) hb); clear HO_407002; clear HO_426002; clear HO448; clear HO453; clear HO461; clear HO466; clear HO469; clear HO474; clear HO477; clear HO482; clear BK406; clear BK425; clear HB; have HO_407002 := n0_; have HO_426002 := n1_; have HO448 := n2_; have HO453 := n3_; have HO461 := n4_; have HO466 := n5_; have HO469 := n6_; have HO474 := n7_; have HO477 := n8_; have HO482 := n9_; have HO487 := n10_; have BK406 := n11_; have BK425 := n12_; have HB := n13_; clear n0_ n1_ n2_ n3_ n4_ n5_ n6_ n7_ n8_ n9_ n10_ n11_ n12_ n13_; (try clear hb); (try clear hb2); (try clear hk); (try clear hi); (try clear ho0)) | ((with_reducible refine gate_dst (N := 10) rfl ?_); refine box_event ?hg (N := 10) ?hd (cs := #[.int .i64 0, .int .i64 0, .slice none 0 0]) (t := 34) ?hr ?_; (case hd => rfl); (case hg => rfl); (case hr => first | (go_simp; done) | (go_simp; rfl)); intro gb490 hg w84 hbox hb; have n0_ := Aside0.mk (Kd.V_below (Kd.V_elderB (by (with_reducible repeat (first | apply Kd.V_alloc | apply Kd.V_drewN | apply Kd.V_drew)); exact HO_407002.out) gb490 (Nat.le_of_eq hg.symm)) hb); have n1_ := Aside0.mk (Kd.V_below (Kd.V_elderB (by (with_reducible repeat (first | apply Kd.V_alloc | apply Kd.V_drewN | apply Kd.V_drew)); exact HO_426002.out) gb490 (Nat.le_of_eq hg.symm)) hb); have n2_ := Aside0.mk (Kd.N_below (Kd.N_elderB (by (with_reducible repeat (first | apply Kd.N_alloc | apply Kd.N_drewN | apply Kd.N_drew)); exact HO448.out) gb490 (Nat.le_of_eq hg.symm)) hb); have n3_ := Aside0.mk (Kd.N_below (Kd.N_elderB (by (with_reducible repeat (first | apply Kd.N_alloc | apply Kd.N_drewN | apply Kd.N_drew)); exact HO453.out) gb490 (Nat.le_of_eq hg.symm)) hb); have n4_ := Aside0.mk (Kd.N_below (Kd.N_elderB (by (with_reducible repeat (first | apply Kd.N_alloc | apply Kd.N_drewN | apply Kd.N_drew)); exact HO461.out) gb490 (Nat.le_of_eq hg.symm)) hb); have n5_ := Aside0.mk (Kd.V_below (Kd.V_elderB (by (with_reducible repeat (first | apply Kd.V_alloc | apply Kd.V_drewN | apply Kd.V_drew)); exact HO466.out) gb490 (Nat.le_of_eq hg.symm)) hb); have n6_ := Aside0.mk (Kd.N_below (Kd.N_elderB (by (with_reducible repeat (first | apply Kd.N_alloc | apply Kd.N_drewN | apply Kd.N_drew)); exact HO469.out) gb490 (Nat.le_of_eq hg.symm)) hb); have n7_ := Aside0.mk (Kd.V_below (Kd.V_elderB (by (with_reducible repeat (first | apply Kd.V_alloc | apply Kd.V_drewN | apply Kd.V_drew)); exact HO474.out) gb490 (Nat.le_of_eq hg.symm)) hb); have n8_ := Aside0.mk (Kd.N_below (Kd.N_elderB (by (with_reducible repeat (first | apply Kd.N_alloc | apply Kd.N_drewN | apply Kd.N_drew)); exact HO477.out) gb490 (Nat.le_of_eq hg.symm)) hb); have n9_ := Aside0.mk (Kd.V_below (Kd.V_elderB (by (with_reducible repeat (first | apply Kd.V_alloc | apply Kd.V_drewN | apply Kd.V_drew)); exact HO482.out) gb490 (Nat.le_of_eq hg.symm)) hb); have n10_ := Aside0.mk (Kd.N_below (Kd.N_elderB (by (with_reducible repeat (first | apply Kd.N_alloc | apply Kd.N_drewN | apply Kd.N_drew)); exact HO487.out) gb490 (Nat.le_of_eq hg.symm)) hb); have n11_ := Aside0.mk (blk_below (g := gb406) (o := .cells #[.int .i64 t401, .int .i64 t402, .slice Ao15 t403.length co15] 29 (0, 0)) (by (with_reducible repeat (first | refine blk_drewN ?_ _ | refine blk_drew ?_ | refine blk_alloc ?_ _)); exact BK406.out) hb); have n12_ := Aside0.mk (blk_below (g := gb425) (o := .cells #[.int .i64 t478, .int .i64 t479, .slice Ao79 t480.length co79] 29 (0, 0)) (by (with_reducible repeat (first | refine blk_drewN ?_ _ | refine blk_drew ?_ | refine blk_alloc ?_ _)); exact BK425.out) hb); have n13_ := Aside0.mk (below_step (by repeat (first | (with_reducible first | exact HB.out | apply below_alloc | apply pw_below_drewN | apply below_drew1 | refine below_set ?_ GE406.out | refine below_set ?_ GE425.out) | exact HB.out)) hb); have n14_ := Aside0.mk (hbox); have n15_ := Aside0.mk ((by rw [hg]; exact (below_size (by repeat (first | (with_reducible first | exact HB.out | apply below_alloc | apply pw_below_drewN | apply below_drew1 | refine below_set ?_ GE406.out | refine below_set ?_ GE425.out) | exact HB.out))) : w.heap.size ≤ gb490)); have n16_ := Aside0.mk ((by rw [hg]; exact (below_size (by repeat (first | (with_reducible first | exact HB.out | apply below_alloc | apply pw_below_drewN | apply below_drew1 | refine below_set ?_ GE406.out | refine below_set ?_ GE425.out) | exact HB.out))) : w.heap.size ≤ gb490)); have n17_ := Aside0.mk ((by rw [hg]; exact Nat.ne_of_lt (blk_lt (g := gb406) (o := .cells #[.int .i64 t401, .int .i64 t402, .slice Ao15 t403.length co15] 29 (0, 0)) (by (with_reducible repeat (first | refine blk_drewN ?_ _ | refine blk_drew ?_ | refine blk_alloc ?_ _)); exact BK406.out)) : gb406 ≠ gb490)); have n18_ := Aside0.mk ((by rw [hg]; exact Nat.ne_of_gt (blk_lt (g := gb406) (o := .cells #[.int .i64 t401, .int .i64 t402, .slice Ao15 t403.length co15] 29 (0, 0)) (by (with_reducible repeat (first | refine blk_drewN ?_ _ | refine blk_drew ?_ | refine blk_alloc ?_ _)); exact BK406.out)) : gb490 ≠ gb406)); have n19_ := Aside0.mk ((by rw [hg]; exact Nat.ne_of_lt (blk_lt (g := gb425) (o := .cells #[.int .i64 t478, .int .i64 t479, .slice Ao79 t480.length co79] 29 (0, 0)) (by (with_reducible repeat (first | refine blk_drewN ?_ _ | refine blk_drew ?_ | refine blk_alloc ?_ _)); exact BK425.out)) : gb425 ≠ gb490)); have n20_ := Aside0.mk ((by rw [hg]; exact Nat.ne_of_gt (blk_lt (g := gb425) (o := .cells #[.int .i64 t478, .int .i64 t479, .slice Ao79 t480.length co79] 29 (0, 0)) (by (with_reducible repeat (first | refine blk_drewN ?_ _ | refine blk_drew ?_ | refine blk_alloc ?_ _)); exact BK425.out)) : gb490 ≠ gb425)); clear HO_407002; clear HO_426002; clear HO448; clear HO453; clear HO461; clear HO466; clear HO469; clear HO474; clear HO477; clear HO482; clear HO487; clear BK406; clear BK425; clear HB; have HO_407002 := n0_; have HO_426002 := n1_; have HO448 := n2_; have HO453 := n3_; have HO461 := n4_; have HO466 := n5_; have HO469 := n6_; have HO474 := n7_; have HO477 := n8_; have HO482 := n9_; have HO487 := n10_; have BK406 := n11_; have BK425 := n12_; have HB := n13_; have BK490 := n14_; have GW490 := n15_; have GE490 := n16_; have NB406_490 := n17_; have NB490_406 := n18_; have NB425_490 := n19_; have NB490_425 := n20_; clear n0_ n1_ n2_ n3_ n4_ n5_ n6_ n7_ n8_ n9_ n10_ n11_ n12_ n13_ n14_ n15_ n16_ n17_ n18_ n19_ n20_; clear hb hbox hg; have hnb85 := NB490_406.out; have hnc85 := NB406_490.out; have hnb86 := NB490_425.out; have hnc86 := NB425_490.out; have hcz87_0 : w84.cell? ⟨gb490, 0, none⟩ = some (.int .i64 0) := (blk_cell BK490.out 0).trans rfl; have hcz87_1 : w84.cell? ⟨gb490, 1, none⟩ = some (.int .i64 0) := (blk_cell BK490.out 1).trans rfl; have hcz87_2 : w84.cell? ⟨gb490, 2, none⟩ = some (.slice none 0 0) := (blk_cell BK490.out 2).trans rfl; have hfz87_0 := blk_frozen BK490.out 0; have hfz87_1 := blk_frozen BK490.out 1; have hfz87_2 := blk_frozen BK490.out 2; obtain ⟨Ao88, co88, eo88⟩ := Kd.N_slice HO487.out; subst eo88))
              go_ret
              exact ⟨by first | rfl | (simp [errW_none, errW_some] <;> rfl) | (simp [*, errW_none, errW_some] <;> rfl), by repeat (first | (with_reducible first | exact HB.out | apply below_alloc | apply pw_below_drewN | apply below_drew1 | refine below_set ?_ GE406.out | refine below_set ?_ GE425.out | refine below_set ?_ GE490.out) | exact HB.out)⟩
            · rw [if_neg c52] at H
              exact absurd H (by simp)
          · rw [if_neg c51] at H
            exact absurd H (by simp)
  · replace c5 := Bool.eq_false_iff.mpr c5
    subst c5
    have H1 : (none) = some r := by rw [if_neg (show ¬ (false = true) by decide)] at H; exact H
    clear H
    have H := H1
    clear H1
    exact absurd H (by simp)

/-- THE ONE PURE STATEMENT of thyrsuslaw12_RunClosed: yours. -/
def thyrsuslaw12_RunClosed.Pure : Prop := ∀ (a0 : Int) (a1 : Int) (a2 : Int), (Lit.int .i64 a0).wf = true → (Lit.int .i64 a1).wf = true → (Lit.int .i64 a2).wf = true → ∃ k, thyrsuslaw12_RunClosed.f k a0 a1 a2 = some true
theorem thyrsuslaw12_RunClosed.walk (P : thyrsuslaw12_RunClosed.Pure) (a0 : Int) (a1 : Int) (a2 : Int) (w : World) (w0 : (Lit.int .i64 a0).wf = true) (w1 : (Lit.int .i64 a1).wf = true) (w2 : (Lit.int .i64 a2).wf = true) :
    Calls Try.prog 7 #[.int .i64 a0, .int .i64 a1, .int .i64 a2] w fun e w' => e = .returned (.bool true) ∧ Below w.heap.size w w' := by
  obtain ⟨k, h⟩ := P a0 a1 a2 w0 w1 w2
  refine (thyrsuslaw12_RunClosed.calls k a0 a1 a2 true w h).mono ?_
  rintro e w' ⟨rfl, hd⟩
  exact ⟨rfl, hd⟩

end Go.Proofs.Ytnecmclnokikoaa.P
