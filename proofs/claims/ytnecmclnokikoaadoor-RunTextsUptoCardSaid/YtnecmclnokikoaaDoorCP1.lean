/- Several texts in one. -/
import Derived.Test.YtnecmclnokikoaaDoorCP0
import Derived.Test.YtnecmclnokikoaaDoorCPx1
import Derived.Test.YtnecmclnokikoaaDoorCPx0
import Derived.Lib.SmallJoins
import Derived.ProofKit
import Derived.Test.YtnecmclnokikoaaDoorRows
import Derived.Lib.LaidTab
import Derived.KernelRfl
/- Package run: Run; its contract in the print's form. -/
namespace Go.Proofs.YtnecmclnokikoaaDoor.Run
open Go.RowKit Go.Proofs.YtnecmclnokikoaaDoor.P Go.Proofs.YtnecmclnokikoaaDoorW.PrintWords Go.Proofs.YtnecmclnokikoaaDoorW.PrintLast Go.Proofs.YtnecmclnokikoaaDoorW.PrintMore
set_option linter.unusedVariables false
set_option linter.unusedSimpArgs false
theorem at_two (w : World) (o o2 : Obj) : ((w.alloc o).alloc o2).heap[w.heap.size + 1]? = some o2 := by
  have h := blk_new (w.alloc o) o2
  rw [size_alloc] at h
  exact h
theorem at_one (w : World) (o o2 : Obj) : ((w.alloc o).alloc o2).heap[w.heap.size]? = some o := blk_alloc (blk_new w o) o2
theorem below_two (w : World) (o o2 : Obj) : Below w.heap.size w ((w.alloc o).alloc o2) := below_alloc (below_alloc (Below.refl _ _) _) _
set_option maxHeartbeats 16000000 in
set_option maxRecDepth 100000 in
theorem run_low {w : World} {t : S29} {A : Option Addr} {c : Nat} {fuel : Int} (hc : t.f2.length ≤ c) (hC : Kd.C k29 w A t.f2.length t.f2) (h : fuel < 0) :
    Calls Tryd.prog 10 #[.agg #[.int .i64 t.f0, .int .i64 t.f1, .slice A t.f2.length c], .int .i64 fuel] w fun e w' => ∃ vl, e = .returned (.tuple #[.agg #[.int .i64 (0), .int .i64 (0), vl], .int .i64 (0), .int .i64 (1)]) ∧ Kd.R k36 36 w' w.heap.size (fun _ => True) vl ([]) ∧ Below w.heap.size w w' := by
  have hu36 := Tryd.underlying36
  have g1 : (fuel < 0) = True := eq_true h
  have g2 : decide (fuel < 0) = true := decide_eq_true h
  clear h hc hC
  go_enter Tryd.func10, Tryd.ntmps10
  go_wp2
  have m0 := (blk_cell (at_two w (.cells #[.int .i64 t.f0, .int .i64 t.f1, .slice A t.f2.length c] 29) (.cells #[.int .i64 0, .int .i64 0, .slice none 0 0] 36)) 0).trans rfl
  have m1 := (blk_cell (at_two w (.cells #[.int .i64 t.f0, .int .i64 t.f1, .slice A t.f2.length c] 29) (.cells #[.int .i64 0, .int .i64 0, .slice none 0 0] 36)) 1).trans rfl
  have m2 := (blk_cell (at_two w (.cells #[.int .i64 t.f0, .int .i64 t.f1, .slice A t.f2.length c] 29) (.cells #[.int .i64 0, .int .i64 0, .slice none 0 0] 36)) 2).trans rfl
  refine bodyPost_ret (v := .tuple #[.agg #[.int .i64 0, .int .i64 0, .slice none 0 0], .int .i64 0, .int .i64 1]) (by simp [-World.alloc_eq, results, Tryd.results10, go_sem, hu36, m0, m1, m2]) rfl ?_
  exact ⟨_, rfl, Kd.R_nil _ _ _ _ _, below_two _ _ _⟩
set_option maxHeartbeats 16000000 in
set_option maxRecDepth 100000 in
theorem run_high {w : World} {t : S29} {A : Option Addr} {c : Nat} {fuel : Int} (hc : t.f2.length ≤ c) (hC : Kd.C k29 w A t.f2.length t.f2) (h : ¬ fuel < 0) (h2 : fuel > 65536) :
    Calls Tryd.prog 10 #[.agg #[.int .i64 t.f0, .int .i64 t.f1, .slice A t.f2.length c], .int .i64 fuel] w fun e w' => ∃ vl, e = .returned (.tuple #[.agg #[.int .i64 (0), .int .i64 (0), vl], .int .i64 (0), .int .i64 (1)]) ∧ Kd.R k36 36 w' w.heap.size (fun _ => True) vl ([]) ∧ Below w.heap.size w w' := by
  have hu36 := Tryd.underlying36
  have g1 : (fuel < 0) = False := eq_false h
  have g2 : decide (fuel < 0) = false := decide_eq_false h
  have g3 : (65536 < fuel) = True := eq_true h2
  have g4 : decide (65536 < fuel) = true := decide_eq_true h2
  clear h h2 hc hC
  go_enter Tryd.func10, Tryd.ntmps10
  go_wp2
  have m0 := (blk_cell (at_two w (.cells #[.int .i64 t.f0, .int .i64 t.f1, .slice A t.f2.length c] 29) (.cells #[.int .i64 0, .int .i64 0, .slice none 0 0] 36)) 0).trans rfl
  have m1 := (blk_cell (at_two w (.cells #[.int .i64 t.f0, .int .i64 t.f1, .slice A t.f2.length c] 29) (.cells #[.int .i64 0, .int .i64 0, .slice none 0 0] 36)) 1).trans rfl
  have m2 := (blk_cell (at_two w (.cells #[.int .i64 t.f0, .int .i64 t.f1, .slice A t.f2.length c] 29) (.cells #[.int .i64 0, .int .i64 0, .slice none 0 0] 36)) 2).trans rfl
  refine bodyPost_ret (v := .tuple #[.agg #[.int .i64 0, .int .i64 0, .slice none 0 0], .int .i64 0, .int .i64 1]) (by simp [-World.alloc_eq, results, Tryd.results10, go_sem, hu36, m0, m1, m2]) rfl ?_
  exact ⟨_, rfl, Kd.R_nil _ _ _ _ _, below_two _ _ _⟩
set_option maxHeartbeats 16000000 in
set_option maxRecDepth 100000 in
theorem run_check {w : World} {t : S29} {A : Option Addr} {c : Nat} {fuel : Int} (hc : t.f2.length ≤ c) (hC : Kd.C k29 w A t.f2.length t.f2) {d : Nat} (hd : Aside0 (d = 120)) (h : ¬ fuel < 0) (h2 : ¬ fuel > 65536) (h3 : (chk d t 0).2 ≠ 0) :
    Calls Tryd.prog 10 #[.agg #[.int .i64 t.f0, .int .i64 t.f1, .slice A t.f2.length c], .int .i64 fuel] w fun e w' => ∃ vl, e = .returned (.tuple #[.agg #[.int .i64 (0), .int .i64 (0), vl], .int .i64 (0), .int .i64 (1)]) ∧ Kd.R k36 36 w' w.heap.size (fun _ => True) vl ([]) ∧ Below w.heap.size w w' := by
  have hu36 := Tryd.underlying36
  have g1 : (fuel < 0) = False := eq_false h
  have g2 : decide (fuel < 0) = false := decide_eq_false h
  have g3 : (65536 < fuel) = False := eq_false h2
  have g4 : decide (65536 < fuel) = false := decide_eq_false h2
  have C25 := Aside0.mk (fun (w1 : World) (hb : Below w.heap.size w w1) => check25 (w := w1) hd hc (Kd.C_below hC hb))
  have y1 : ((chk d t 0).2 = 0) = False := eq_false h3
  have y2 : ((chk d t 0).2 == 0) = false := by simpa using h3
  have y3 : ((chk d t 0).2 != 0) = true := by simpa using h3
  have OK25 := Aside0.mk (rfl : (0 : Int) = 0)
  clear h h2 h3 hc hC
  go_enter Tryd.func10, Tryd.ntmps10
  go_wp2_with (first | (go_at_call 28; (with_reducible refine (C25.out _ (below_two _ _ _)).mono ?_); rintro en w2 ⟨rfl, hb2⟩; have T2 := Aside0.mk (blk_below (at_one w (.cells #[.int .i64 t.f0, .int .i64 t.f1, .slice A t.f2.length c] 29) (.cells #[.int .i64 0, .int .i64 0, .slice none 0 0] 36)) hb2); have Z2 := Aside0.mk (blk_below (at_two w (.cells #[.int .i64 t.f0, .int .i64 t.f1, .slice A t.f2.length c] 29) (.cells #[.int .i64 0, .int .i64 0, .slice none 0 0] 36)) hb2); have B2 := Aside0.mk (below_step (below_two w (.cells #[.int .i64 t.f0, .int .i64 t.f1, .slice A t.f2.length c] 29) (.cells #[.int .i64 0, .int .i64 0, .slice none 0 0] 36)) hb2); clear hb2; (try rw [OK25.out]); have z0 : w2.cell? ⟨w.heap.size + 1, 0, none⟩ = some (.int .i64 0) := (blk_cell Z2.out 0).trans rfl; have z1 : w2.cell? ⟨w.heap.size + 1, 1, none⟩ = some (.int .i64 0) := (blk_cell Z2.out 1).trans rfl; have z2 : w2.cell? ⟨w.heap.size + 1, 2, none⟩ = some (.slice none 0 0) := (blk_cell Z2.out 2).trans rfl; have x0 : w2.cell? ⟨w.heap.size, 0, none⟩ = some (.int .i64 t.f0) := (blk_cell T2.out 0).trans rfl; have x1 : w2.cell? ⟨w.heap.size, 1, none⟩ = some (.int .i64 t.f1) := (blk_cell T2.out 1).trans rfl; have x2 : w2.cell? ⟨w.heap.size, 2, none⟩ = some (.slice A t.f2.length c) := (blk_cell T2.out 2).trans rfl; have fz0 := blk_frozen Z2.out 0; have fz1 := blk_frozen Z2.out 1; have fz2 := blk_frozen Z2.out 2))
  have m0 := (blk_cell (put3_ (a' := .int .i64 0) (b' := .int .i64 0) (c' := .slice none 0 0) Z2.out) 0).trans rfl
  have m1 := (blk_cell (put3_ (a' := .int .i64 0) (b' := .int .i64 0) (c' := .slice none 0 0) Z2.out) 1).trans rfl
  have m2 := (blk_cell (put3_ (a' := .int .i64 0) (b' := .int .i64 0) (c' := .slice none 0 0) Z2.out) 2).trans rfl
  refine bodyPost_ret (v := .tuple #[.agg #[.int .i64 0, .int .i64 0, .slice none 0 0], .int .i64 0, .int .i64 1]) (by simp [results, Tryd.results10, go_sem, hu36, m0, m1, m2]) rfl ?_
  exact ⟨_, rfl, Kd.R_nil _ _ _ _ _, below_set (below_set (below_set B2.out (Nat.le_succ _)) (Nat.le_succ _)) (Nat.le_succ _)⟩
set_option maxHeartbeats 16000000 in
set_option maxRecDepth 100000 in
theorem run_err {w : World} {t : S29} {A : Option Addr} {c : Nat} {fuel : Int} (hc : t.f2.length ≤ c) (hC : Kd.C k29 w A t.f2.length t.f2) {d : Nat} (hd : Aside0 (d = 120)) (h : ¬ fuel < 0) (h2 : ¬ fuel > 65536) (h3 : (chk d t 0).2 = 0) {k : Nat} {v : V} {st : Int} {er : Int} (he : ev fuel k .nil t 0 0 = some (v, st, er)) (hz : er ≠ 0) :
    Calls Tryd.prog 10 #[.agg #[.int .i64 t.f0, .int .i64 t.f1, .slice A t.f2.length c], .int .i64 fuel] w fun e w' => ∃ vl, e = .returned (.tuple #[.agg #[.int .i64 (0), .int .i64 (0), vl], .int .i64 (st), .int .i64 (er)]) ∧ Kd.R k36 36 w' w.heap.size (fun _ => True) vl ([]) ∧ Below w.heap.size w w' := by
  have hu36 := Tryd.underlying36
  have g1 : (fuel < 0) = False := eq_false h
  have g2 : decide (fuel < 0) = false := decide_eq_false h
  have g3 : (65536 < fuel) = False := eq_false h2
  have g4 : decide (65536 < fuel) = false := decide_eq_false h2
  have C25 := Aside0.mk (fun (w1 : World) (hb : Below w.heap.size w w1) => check25 (w := w1) hd hc (Kd.C_below hC hb))
  have C26 := Aside0.mk (fun (w1 : World) (gm : Nat) (h1 : Inv w w1 gm 0 fuel 0) => eval26 fuel k (ok := fun _ => False) (e := .nil) (pe := .pointer none) h1 rfl (fun _ h => h.elim) hc hC he)
  have OK25 := Aside0.mk h3
  have y1 : (er = 0) = False := eq_false hz
  have y2 : (er == 0) = false := by simpa using hz
  have y3 : (er != 0) = true := by simpa using hz
  clear h h2 h3 hc hC hz he
  go_enter Tryd.func10, Tryd.ntmps10
  go_wp2_with (first | (go_at_call 28; (with_reducible refine (C25.out _ (below_two _ _ _)).mono ?_); rintro en w2 ⟨rfl, hb2⟩; have T2 := Aside0.mk (blk_below (at_one w (.cells #[.int .i64 t.f0, .int .i64 t.f1, .slice A t.f2.length c] 29) (.cells #[.int .i64 0, .int .i64 0, .slice none 0 0] 36)) hb2); have Z2 := Aside0.mk (blk_below (at_two w (.cells #[.int .i64 t.f0, .int .i64 t.f1, .slice A t.f2.length c] 29) (.cells #[.int .i64 0, .int .i64 0, .slice none 0 0] 36)) hb2); have B2 := Aside0.mk (below_step (below_two w (.cells #[.int .i64 t.f0, .int .i64 t.f1, .slice A t.f2.length c] 29) (.cells #[.int .i64 0, .int .i64 0, .slice none 0 0] 36)) hb2); clear hb2; (try rw [OK25.out]); have z0 : w2.cell? ⟨w.heap.size + 1, 0, none⟩ = some (.int .i64 0) := (blk_cell Z2.out 0).trans rfl; have z1 : w2.cell? ⟨w.heap.size + 1, 1, none⟩ = some (.int .i64 0) := (blk_cell Z2.out 1).trans rfl; have z2 : w2.cell? ⟨w.heap.size + 1, 2, none⟩ = some (.slice none 0 0) := (blk_cell Z2.out 2).trans rfl; have x0 : w2.cell? ⟨w.heap.size, 0, none⟩ = some (.int .i64 t.f0) := (blk_cell T2.out 0).trans rfl; have x1 : w2.cell? ⟨w.heap.size, 1, none⟩ = some (.int .i64 t.f1) := (blk_cell T2.out 1).trans rfl; have x2 : w2.cell? ⟨w.heap.size, 2, none⟩ = some (.slice A t.f2.length c) := (blk_cell T2.out 2).trans rfl; have fz0 := blk_frozen Z2.out 0; have fz1 := blk_frozen Z2.out 1; have fz2 := blk_frozen Z2.out 2) | ((with_reducible refine gate_dst (N := 22) rfl ?_); refine box_event ?hg (N := 22) ?hd (cs := #[.int .i64 0, .int .i64 fuel, .int .i64 0]) (t := 66) ?hr ?_; (case hd => rfl); (case hg => rfl); (case hr => first | (go_simp; done) | (go_simp; rfl)); intro gm hgm w3 hbox hb3; have GM := Aside0.mk hgm; have HI3 : Aside0 (Inv w w3 gm 0 fuel 0) := ⟨⟨hbox, below_step B2.out hb3, by rw [hgm]; exact B2.out.size⟩⟩; have T3 := Aside0.mk (blk_below T2.out hb3); have Z3 := Aside0.mk (blk_below Z2.out hb3); have NE : Aside0 (w.heap.size ≠ gm ∧ w.heap.size + 1 ≠ gm) := ⟨by have h1 := blk_lt T2.out; have h2 := blk_lt Z2.out; omega⟩; clear hbox hb3 z0 z1 z2 x0 x1 x2 fz0 fz1 fz2 hgm; have x0 : w3.cell? ⟨w.heap.size, 0, none⟩ = some (.int .i64 t.f0) := (blk_cell T3.out 0).trans rfl; have x1 : w3.cell? ⟨w.heap.size, 1, none⟩ = some (.int .i64 t.f1) := (blk_cell T3.out 1).trans rfl; have x2 : w3.cell? ⟨w.heap.size, 2, none⟩ = some (.slice A t.f2.length c) := (blk_cell T3.out 2).trans rfl) | (go_at_call 29; (with_reducible refine (C26.out _ _ HI3.out).mono ?_); rintro en w4 ⟨pv, rfl, hv, hi4, hk4⟩; have V4 := Aside0.mk hv; have I4 := Aside0.mk hi4; have Z4 := Aside0.mk (hk4.blk Z3.out NE.out.2 (by simp)); clear x0 x1 x2; have m0_ : w4.cell? ⟨gm, 0, none⟩ = some (.int .i64 st) := (blk_cell hi4.1 0).trans rfl; have m2_ : w4.cell? ⟨gm, 2, none⟩ = some (.int .i64 er) := (blk_cell hi4.1 2).trans rfl; clear hv hi4 hk4))
  have I5 := Aside0.mk (I4.out.below (below_drew (Below.refl _ _)))
  have Z5 := Aside0.mk (blk_drew Z4.out)
  clear m0_ m2_
  refine start_ (n := 12) (S := fun w' => w'.cell? ⟨gm, 0, none⟩ = some (.int .i64 st) ∧ w'.cell? ⟨gm, 2, none⟩ = some (.int .i64 er)) (ds := []) #[false, false, false, false, false, false, false, false, false, false, false, false] (by kernel_rfl) rfl rfl ⟨(blk_cell I5.out.1 0).trans rfl, (blk_cell I5.out.1 2).trans rfl⟩ (fun hHeld => ?_)
  generalize (World.drew w4) = w5 at I5 Z5 hHeld ⊢
  refine pure_ (i := 0) (N := some 31) (v := ?_) (a' := ?_) #[true, false, false, false, false, false, false, false, false, false, false, false] rfl rfl (by kernel_rfl) (fun _ _ _ h => h) (Or.inl ⟨by rfl, ?_⟩) ?_ ?_
  rotate_left
  · intro w'
    go_simp
    with_reducible rfl
  rotate_left
  · simp only [Act.put, List.setIfInBounds_toArray, List.set_cons_zero, List.set_cons_succ, i64_w, i32_w, u8_w, u32_w]
    rfl
  refine pure_ (i := 1) (N := some 32) (v := ?_) (a' := ?_) #[true, true, false, false, false, false, false, false, false, false, false, false] rfl rfl (by kernel_rfl) (fun _ _ _ h => h) (Or.inl ⟨by rfl, ?_⟩) ?_ ?_
  rotate_left
  · intro w'
    go_simp
    with_reducible rfl
  rotate_left
  · simp only [Act.put, List.setIfInBounds_toArray, List.set_cons_zero, List.set_cons_succ, i64_w, i32_w, u8_w, u32_w]
    rfl
  refine pure_ (i := 2) (N := some 33) (v := ?_) (a' := ?_) #[true, true, true, false, false, false, false, false, false, false, false, false] rfl rfl (by kernel_rfl) (fun _ _ _ h => h) (Or.inl ⟨by rfl, ?_⟩) ?_ ?_
  rotate_left
  · intro w'
    go_simp
    with_reducible rfl
  rotate_left
  · simp only [Act.put, List.setIfInBounds_toArray, List.set_cons_zero, List.set_cons_succ, i64_w, i32_w, u8_w, u32_w]
    rfl
  refine pure_ (i := 3) (N := some 34) (v := ?_) (a' := ?_) #[true, true, true, true, false, false, false, false, false, false, false, false] rfl rfl (by kernel_rfl) (fun _ _ _ h => h) (Or.inl ⟨by rfl, ?_⟩) ?_ ?_
  rotate_left
  · intro w'
    go_simp
    with_reducible rfl
  rotate_left
  · simp only [Act.put, List.setIfInBounds_toArray, List.set_cons_zero, List.set_cons_succ, i64_w, i32_w, u8_w, u32_w]
    rfl
  refine take_ (i := 4) (N := some 35) (v := ?_) (a' := ?_) #[true, true, true, true, true, false, false, false, false, false, false, false] rfl rfl (by kernel_rfl) (fun _ _ _ h => h) (Or.inl ⟨by rfl, ?_⟩) hHeld ?_ ?_
  rotate_left
  · rintro w' ⟨s0, s1⟩
    go_simp
    with_reducible rfl
  rotate_left
  · simp only [Act.put, List.setIfInBounds_toArray, List.set_cons_zero, List.set_cons_succ, i64_w, i32_w, u8_w, u32_w]
    rfl
  refine pure_ (i := 5) (N := some 36) (v := ?_) (a' := ?_) #[true, true, true, true, true, true, false, false, false, false, false, false] rfl rfl (by kernel_rfl) (fun _ _ _ h => h) (Or.inl ⟨by rfl, ?_⟩) ?_ ?_
  rotate_left
  · intro w'
    go_simp
    with_reducible rfl
  rotate_left
  · simp only [Act.put, List.setIfInBounds_toArray, List.set_cons_zero, List.set_cons_succ, i64_w, i32_w, u8_w, u32_w]
    rfl
  refine pure_ (i := 6) (N := some 37) (v := ?_) (a' := ?_) #[true, true, true, true, true, true, true, false, false, false, false, false] rfl rfl (by kernel_rfl) (fun _ _ _ h => h) (Or.inl ⟨by rfl, ?_⟩) ?_ ?_
  rotate_left
  · intro w'
    go_simp
    with_reducible rfl
  rotate_left
  · simp only [Act.put, List.setIfInBounds_toArray, List.set_cons_zero, List.set_cons_succ, i64_w, i32_w, u8_w, u32_w]
    rfl
  refine pure_ (i := 7) (N := some 38) (v := ?_) (a' := ?_) #[true, true, true, true, true, true, true, true, false, false, false, false] rfl rfl (by kernel_rfl) (fun _ _ _ h => h) (Or.inl ⟨by rfl, ?_⟩) ?_ ?_
  rotate_left
  · intro w'
    go_simp
    with_reducible rfl
  rotate_left
  · simp only [Act.put, List.setIfInBounds_toArray, List.set_cons_zero, List.set_cons_succ, i64_w, i32_w, u8_w, u32_w]
    rfl
  refine take_ (i := 8) (N := some 39) (v := ?_) (a' := ?_) #[true, true, true, true, true, true, true, true, true, false, false, false] rfl rfl (by kernel_rfl) (fun _ _ _ h => h) (Or.inl ⟨by rfl, ?_⟩) hHeld ?_ ?_
  rotate_left
  · rintro w' ⟨s0, s1⟩
    go_simp
    with_reducible rfl
  rotate_left
  · simp only [Act.put, List.setIfInBounds_toArray, List.set_cons_zero, List.set_cons_succ, i64_w, i32_w, u8_w, u32_w]
    rfl
  refine one_ (i := 9) (N := none) #[true, true, true, true, true, true, true, true, true, true, false, false] rfl rfl (by kernel_rfl) (by decide) (fun K hK => ?_)
  have z0 : w5.cell? ⟨w.heap.size + 1, 0, none⟩ = some (.int .i64 0) := (blk_cell Z5.out 0).trans rfl
  have z1 : w5.cell? ⟨w.heap.size + 1, 1, none⟩ = some (.int .i64 0) := (blk_cell Z5.out 1).trans rfl
  have z2 : w5.cell? ⟨w.heap.size + 1, 2, none⟩ = some (.slice none 0 0) := (blk_cell Z5.out 2).trans rfl
  have fz0 := blk_frozen Z5.out 0
  have fz1 := blk_frozen Z5.out 1
  have fz2 := blk_frozen Z5.out 2
  refine skip_ (w1 := ?_) (by rfl) rfl ?_ ?_
  rotate_left
  · go_simp
    rfl
  refine hK.out _ _ ⟨(blk_cell (blk_far (blk_far (blk_far I5.out.1 NE.out.2.symm _) NE.out.2.symm _) NE.out.2.symm _) 0).trans rfl, (blk_cell (blk_far (blk_far (blk_far I5.out.1 NE.out.2.symm _) NE.out.2.symm _) NE.out.2.symm _) 2).trans rfl⟩ (fun hHeld => ?_)
  clear hK K
  refine gen_any (fun w6 => w6.heap[w.heap.size + 1]? = some (.cells #[.int .i64 0, .int .i64 0, .slice none 0 0] 36 (0, 0)) ∧ Below w.heap.size w w6) ⟨put3_ Z5.out, below_set (below_set (below_set I5.out.2.1 (Nat.le_succ _)) (Nat.le_succ _)) (Nat.le_succ _)⟩ ?_
  rintro w6 ⟨hz6, hb6⟩
  clear z0 z1 z2 fz0 fz1 fz2 hHeld
  refine pure_ (i := 10) (N := some 5) (v := ?_) (a' := ?_) #[true, true, true, true, true, true, true, true, true, true, true, false] rfl rfl (by kernel_rfl) (fun _ _ _ h => h) (Or.inl ⟨by rfl, ?_⟩) ?_ ?_
  rotate_left
  · intro w'
    go_simp
    with_reducible rfl
  rotate_left
  · simp only [Act.put, List.setIfInBounds_toArray, List.set_cons_zero, List.set_cons_succ, i64_w, i32_w, u8_w, u32_w]
    rfl
  refine pure_ (i := 11) (N := some 6) (v := ?_) (a' := ?_) #[true, true, true, true, true, true, true, true, true, true, true, true] rfl rfl (by kernel_rfl) (fun _ _ _ h => h) (Or.inl ⟨by rfl, ?_⟩) ?_ ?_
  rotate_left
  · intro w'
    go_simp
    with_reducible rfl
  rotate_left
  · simp only [Act.put, List.setIfInBounds_toArray, List.set_cons_zero, List.set_cons_succ, i64_w, i32_w, u8_w, u32_w]
    rfl
  refine done_ (by kernel_rfl) ?_
  go_wp2
  have m0 := (blk_cell hz6 0).trans rfl
  have m1 := (blk_cell hz6 1).trans rfl
  have m2 := (blk_cell hz6 2).trans rfl
  refine bodyPost_ret (v := .tuple #[.agg #[.int .i64 0, .int .i64 0, .slice none 0 0], .int .i64 st, .int .i64 er]) (by simp [results, Tryd.results10, go_sem, hu36, m0, m1, m2]) rfl ?_
  exact ⟨_, rfl, Kd.R_nil _ _ _ _ _, hb6⟩
set_option maxHeartbeats 16000000 in
set_option maxRecDepth 100000 in
theorem run_ok {w : World} {t : S29} {A : Option Addr} {c : Nat} {fuel : Int} (hc : t.f2.length ≤ c) (hC : Kd.C k29 w A t.f2.length t.f2) {d : Nat} (hd : Aside0 (d = 120)) (h : ¬ fuel < 0) (h2 : ¬ fuel > 65536) (h3 : (chk d t 0).2 = 0) {k : Nat} {v : V} {st : Int} (he : ev fuel k .nil t 0 0 = some (v, st, 0)) :
    Calls Tryd.prog 10 #[.agg #[.int .i64 t.f0, .int .i64 t.f1, .slice A t.f2.length c], .int .i64 fuel] w fun e w' => ∃ vl, e = .returned (.tuple #[.agg #[.int .i64 ((told v).f0), .int .i64 ((told v).f1), vl], .int .i64 (st), .int .i64 (0)]) ∧ Kd.R k36 36 w' w.heap.size (fun _ => True) vl ((told v).f2) ∧ Below w.heap.size w w' := by
  have hu36 := Tryd.underlying36
  have g1 : (fuel < 0) = False := eq_false h
  have g2 : decide (fuel < 0) = false := decide_eq_false h
  have g3 : (65536 < fuel) = False := eq_false h2
  have g4 : decide (65536 < fuel) = false := decide_eq_false h2
  have C25 := Aside0.mk (fun (w1 : World) (hb : Below w.heap.size w w1) => check25 (w := w1) hd hc (Kd.C_below hC hb))
  have C26 := Aside0.mk (fun (w1 : World) (gm : Nat) (h1 : Inv w w1 gm 0 fuel 0) => eval26 fuel k (ok := fun _ => False) (e := .nil) (pe := .pointer none) h1 rfl (fun _ h => h.elim) hc hC he)
  have OK25 := Aside0.mk h3
  clear h h2 h3 hc hC he
  go_enter Tryd.func10, Tryd.ntmps10
  go_wp2_with (first | (go_at_call 28; (with_reducible refine (C25.out _ (below_two _ _ _)).mono ?_); rintro en w2 ⟨rfl, hb2⟩; have T2 := Aside0.mk (blk_below (at_one w (.cells #[.int .i64 t.f0, .int .i64 t.f1, .slice A t.f2.length c] 29) (.cells #[.int .i64 0, .int .i64 0, .slice none 0 0] 36)) hb2); have Z2 := Aside0.mk (blk_below (at_two w (.cells #[.int .i64 t.f0, .int .i64 t.f1, .slice A t.f2.length c] 29) (.cells #[.int .i64 0, .int .i64 0, .slice none 0 0] 36)) hb2); have B2 := Aside0.mk (below_step (below_two w (.cells #[.int .i64 t.f0, .int .i64 t.f1, .slice A t.f2.length c] 29) (.cells #[.int .i64 0, .int .i64 0, .slice none 0 0] 36)) hb2); clear hb2; (try rw [OK25.out]); have z0 : w2.cell? ⟨w.heap.size + 1, 0, none⟩ = some (.int .i64 0) := (blk_cell Z2.out 0).trans rfl; have z1 : w2.cell? ⟨w.heap.size + 1, 1, none⟩ = some (.int .i64 0) := (blk_cell Z2.out 1).trans rfl; have z2 : w2.cell? ⟨w.heap.size + 1, 2, none⟩ = some (.slice none 0 0) := (blk_cell Z2.out 2).trans rfl; have x0 : w2.cell? ⟨w.heap.size, 0, none⟩ = some (.int .i64 t.f0) := (blk_cell T2.out 0).trans rfl; have x1 : w2.cell? ⟨w.heap.size, 1, none⟩ = some (.int .i64 t.f1) := (blk_cell T2.out 1).trans rfl; have x2 : w2.cell? ⟨w.heap.size, 2, none⟩ = some (.slice A t.f2.length c) := (blk_cell T2.out 2).trans rfl; have fz0 := blk_frozen Z2.out 0; have fz1 := blk_frozen Z2.out 1; have fz2 := blk_frozen Z2.out 2) | ((with_reducible refine gate_dst (N := 22) rfl ?_); refine box_event ?hg (N := 22) ?hd (cs := #[.int .i64 0, .int .i64 fuel, .int .i64 0]) (t := 66) ?hr ?_; (case hd => rfl); (case hg => rfl); (case hr => first | (go_simp; done) | (go_simp; rfl)); intro gm hgm w3 hbox hb3; have GM := Aside0.mk hgm; have HI3 : Aside0 (Inv w w3 gm 0 fuel 0) := ⟨⟨hbox, below_step B2.out hb3, by rw [hgm]; exact B2.out.size⟩⟩; have T3 := Aside0.mk (blk_below T2.out hb3); have Z3 := Aside0.mk (blk_below Z2.out hb3); have NE : Aside0 (w.heap.size ≠ gm ∧ w.heap.size + 1 ≠ gm) := ⟨by have h1 := blk_lt T2.out; have h2 := blk_lt Z2.out; omega⟩; clear hbox hb3 z0 z1 z2 x0 x1 x2 fz0 fz1 fz2 hgm; have x0 : w3.cell? ⟨w.heap.size, 0, none⟩ = some (.int .i64 t.f0) := (blk_cell T3.out 0).trans rfl; have x1 : w3.cell? ⟨w.heap.size, 1, none⟩ = some (.int .i64 t.f1) := (blk_cell T3.out 1).trans rfl; have x2 : w3.cell? ⟨w.heap.size, 2, none⟩ = some (.slice A t.f2.length c) := (blk_cell T3.out 2).trans rfl) | (go_at_call 29; (with_reducible refine (C26.out _ _ HI3.out).mono ?_); rintro en w4 ⟨pv, rfl, hv, hi4, hk4⟩; have V4 := Aside0.mk hv; have I4 := Aside0.mk hi4; have Z4 := Aside0.mk (hk4.blk Z3.out NE.out.2 (by simp)); clear x0 x1 x2; have m0_ : w4.cell? ⟨gm, 0, none⟩ = some (.int .i64 st) := (blk_cell hi4.1 0).trans rfl; have m2_ : w4.cell? ⟨gm, 2, none⟩ = some (.int .i64 0) := (blk_cell hi4.1 2).trans rfl; clear hv hi4 hk4))
  have I5 := Aside0.mk (I4.out.below (below_drew (Below.refl _ _)))
  have Z5 := Aside0.mk (blk_drew Z4.out)
  have V5 := Aside0.mk (RV_below V4.out (below_drew (Below.refl _ _)) (fun _ h => h))
  clear m0_ m2_
  refine start_ (n := 9) (S := fun w' => w'.cell? ⟨gm, 0, none⟩ = some (.int .i64 st)) (ds := []) #[false, false, false, false, false, false, false, false, false] (by kernel_rfl) rfl rfl ((blk_cell I5.out.1 0).trans rfl) (fun hHeld => ?_)
  generalize (World.drew w4) = w5 at I5 Z5 V5 hHeld ⊢
  refine pure_ (i := 0) (N := some 40) (v := ?_) (a' := ?_) #[true, false, false, false, false, false, false, false, false] rfl rfl (by kernel_rfl) (fun _ _ _ h => h) (Or.inl ⟨by rfl, ?_⟩) ?_ ?_
  rotate_left
  · intro w'
    go_simp
    with_reducible rfl
  rotate_left
  · simp only [Act.put, List.setIfInBounds_toArray, List.set_cons_zero, List.set_cons_succ, i64_w, i32_w, u8_w, u32_w]
    rfl
  refine pure_ (i := 2) (N := some 42) (v := ?_) (a' := ?_) #[true, false, true, false, false, false, false, false, false] rfl rfl (by kernel_rfl) (fun _ _ _ h => h) (Or.inl ⟨by rfl, ?_⟩) ?_ ?_
  rotate_left
  · intro w'
    go_simp
    with_reducible rfl
  rotate_left
  · simp only [Act.put, List.setIfInBounds_toArray, List.set_cons_zero, List.set_cons_succ, i64_w, i32_w, u8_w, u32_w]
    rfl
  refine pure_ (i := 3) (N := some 43) (v := ?_) (a' := ?_) #[true, false, true, true, false, false, false, false, false] rfl rfl (by kernel_rfl) (fun _ _ _ h => h) (Or.inl ⟨by rfl, ?_⟩) ?_ ?_
  rotate_left
  · intro w'
    go_simp
    with_reducible rfl
  rotate_left
  · simp only [Act.put, List.setIfInBounds_toArray, List.set_cons_zero, List.set_cons_succ, i64_w, i32_w, u8_w, u32_w]
    rfl
  refine pure_ (i := 4) (N := some 44) (v := ?_) (a' := ?_) #[true, false, true, true, true, false, false, false, false] rfl rfl (by kernel_rfl) (fun _ _ _ h => h) (Or.inl ⟨by rfl, ?_⟩) ?_ ?_
  rotate_left
  · intro w'
    go_simp
    with_reducible rfl
  rotate_left
  · simp only [Act.put, List.setIfInBounds_toArray, List.set_cons_zero, List.set_cons_succ, i64_w, i32_w, u8_w, u32_w]
    rfl
  refine take_ (i := 5) (N := some 45) (v := ?_) (a' := ?_) #[true, false, true, true, true, true, false, false, false] rfl rfl (by kernel_rfl) (fun _ _ _ h => h) (Or.inl ⟨by rfl, ?_⟩) hHeld ?_ ?_
  rotate_left
  · rintro w' s0
    go_simp
    with_reducible rfl
  rotate_left
  · simp only [Act.put, List.setIfInBounds_toArray, List.set_cons_zero, List.set_cons_succ, i64_w, i32_w, u8_w, u32_w]
    rfl
  refine one_ (i := 1) (N := some 41) #[true, true, true, true, true, true, false, false, false] rfl rfl (by kernel_rfl) (by decide) (fun K hK => ?_)
  refine goes_ Tryd.func30 (by kernel_rfl) rfl #[pv] (by rfl) rfl rfl (by (try simp only [List.map_toArray, List.map_cons, List.map_nil]); rfl) ?_
  with_reducible refine ((told27 v).out V5.out).mono ?_
  rintro e w6 ⟨vl, rfl, hR, hb6⟩
  refine ⟨_, rfl, ?_⟩
  obtain ⟨Al, cl, rfl⟩ := Kd.R_slice hR
  have I6 := Aside0.mk (I5.out.below hb6)
  have Z6 := Aside0.mk (blk_below Z5.out hb6)
  have R6 : Aside0 (Kd.R k36 36 w6 w.heap.size (fun k => k ≠ w.heap.size + 1) (.slice Al (told v).f2.length cl) (told v).f2) := ⟨Kd.R_lower (Kd.R_mono (Kd.R_bound hR) (fun k hk => Nat.ne_of_gt (Nat.lt_of_lt_of_le (blk_lt Z5.out) hk.2.1))) I5.out.2.1.size⟩
  clear hR hb6
  refine hK.out _ _ ((blk_cell I6.out.1 0).trans rfl) (fun hHeld => ?_)
  clear hK K
  refine norm_ (a' := ?_) ?_ ?_
  rotate_left
  · show Act.put _ (some 41) _ = _
    simp only [Act.put, List.setIfInBounds_toArray, List.set_cons_zero, List.set_cons_succ, i64_w, i32_w, u8_w, u32_w]
    rfl
  refine one_ (i := 6) (N := none) #[true, true, true, true, true, true, true, false, false] rfl rfl (by kernel_rfl) (by decide) (fun K hK => ?_)
  have z0 : w6.cell? ⟨w.heap.size + 1, 0, none⟩ = some (.int .i64 0) := (blk_cell Z6.out 0).trans rfl
  have z1 : w6.cell? ⟨w.heap.size + 1, 1, none⟩ = some (.int .i64 0) := (blk_cell Z6.out 1).trans rfl
  have z2 : w6.cell? ⟨w.heap.size + 1, 2, none⟩ = some (.slice none 0 0) := (blk_cell Z6.out 2).trans rfl
  have fz0 := blk_frozen Z6.out 0
  have fz1 := blk_frozen Z6.out 1
  have fz2 := blk_frozen Z6.out 2
  refine skip_ (w1 := ?_) (by rfl) rfl ?_ ?_
  rotate_left
  · go_simp
    rfl
  refine hK.out _ _ ((blk_cell (blk_far (blk_far (blk_far I6.out.1 NE.out.2.symm _) NE.out.2.symm _) NE.out.2.symm _) 0).trans rfl) (fun hHeld => ?_)
  clear hK K
  refine gen_any (fun w7 => w7.heap[w.heap.size + 1]? = some (.cells #[.int .i64 (told v).f0, .int .i64 (told v).f1, .slice Al (told v).f2.length cl] 36 (0, 0)) ∧ Kd.R k36 36 w7 w.heap.size (fun k => k ≠ w.heap.size + 1) (.slice Al (told v).f2.length cl) (told v).f2 ∧ Below w.heap.size w w7) ⟨put3_ Z6.out, Kd.R_far (p := ⟨w.heap.size + 1, 2, none⟩) (Kd.R_far (p := ⟨w.heap.size + 1, 1, none⟩) (Kd.R_far (p := ⟨w.heap.size + 1, 0, none⟩) R6.out (fun k hk => hk) _) (fun k hk => hk) _) (fun k hk => hk) _, below_set (below_set (below_set I6.out.2.1 (Nat.le_succ _)) (Nat.le_succ _)) (Nat.le_succ _)⟩ ?_
  rintro w7 ⟨hz7, hr7, hb7⟩
  clear z0 z1 z2 fz0 fz1 fz2 hHeld
  have Z7 := Aside0.mk hz7
  have R7 := Aside0.mk hr7
  clear hz7 hr7
  refine pure_ (i := 7) (N := some 5) (v := ?_) (a' := ?_) #[true, true, true, true, true, true, true, true, false] rfl rfl (by kernel_rfl) (fun _ _ _ h => h) (Or.inl ⟨by rfl, ?_⟩) ?_ ?_
  rotate_left
  · intro w'
    go_simp
    with_reducible rfl
  rotate_left
  · simp only [Act.put, List.setIfInBounds_toArray, List.set_cons_zero, List.set_cons_succ, i64_w, i32_w, u8_w, u32_w]
    rfl
  refine pure_ (i := 8) (N := some 6) (v := ?_) (a' := ?_) #[true, true, true, true, true, true, true, true, true] rfl rfl (by kernel_rfl) (fun _ _ _ h => h) (Or.inl ⟨by rfl, ?_⟩) ?_ ?_
  rotate_left
  · intro w'
    go_simp
    with_reducible rfl
  rotate_left
  · simp only [Act.put, List.setIfInBounds_toArray, List.set_cons_zero, List.set_cons_succ, i64_w, i32_w, u8_w, u32_w]
    rfl
  refine done_ (by kernel_rfl) ?_
  go_wp2
  have m0 := (blk_cell Z7.out 0).trans rfl
  have m1 := (blk_cell Z7.out 1).trans rfl
  have m2 := (blk_cell Z7.out 2).trans rfl
  refine bodyPost_ret (v := .tuple #[.agg #[.int .i64 (told v).f0, .int .i64 (told v).f1, .slice Al (told v).f2.length cl], .int .i64 st, .int .i64 0]) (by simp [results, Tryd.results10, go_sem, hu36, m0, m1, m2]) rfl ?_
  exact ⟨_, rfl, Kd.R_mono R7.out (fun _ _ => trivial), hb7⟩
theorem run12 {w : World} {t : S29} {A : Option Addr} {c : Nat} {fuel : Int} {k : Nat} {r : S36 × Int × Int} (hc : t.f2.length ≤ c) (hC : Kd.C k29 w A t.f2.length t.f2) (h : run k t fuel = some r) :
    Calls Tryd.prog 10 #[.agg #[.int .i64 t.f0, .int .i64 t.f1, .slice A t.f2.length c], .int .i64 fuel] w fun e w' => ∃ vl, e = .returned (.tuple #[.agg #[.int .i64 (r.1.f0), .int .i64 (r.1.f1), vl], .int .i64 (r.2.1), .int .i64 (r.2.2)]) ∧ Kd.R k36 36 w' w.heap.size (fun _ => True) vl (r.1.f2) ∧ Below w.heap.size w w' := by
  obtain ⟨d, hd⟩ : ∃ d, d = 120 := ⟨_, rfl⟩
  unfold run at h
  rw [← hd] at h
  have hd := Aside0.mk hd
  by_cases h1 : fuel < 0 ∨ fuel > 65536
  · rw [if_pos h1] at h
    obtain rfl := Option.some.inj h
    by_cases h2 : fuel < 0
    · exact run_low hc hC h2
    · exact run_high hc hC h2 (h1.resolve_left h2)
  · rw [if_neg h1] at h
    have h2 : ¬ fuel < 0 := fun h => h1 (Or.inl h)
    have h3 : ¬ fuel > 65536 := fun h => h1 (Or.inr h)
    by_cases h4 : (chk d t 0).2 ≠ 0
    · rw [if_pos h4] at h
      obtain rfl := Option.some.inj h
      exact run_check hc hC hd h2 h3 h4
    · rw [if_neg h4] at h
      obtain ⟨⟨v, st, er⟩, he, h⟩ := Option.bind_eq_some_iff.mp h
      have h4 : (chk d t 0).2 = 0 := by simpa using h4
      by_cases hz : er ≠ 0
      · rw [if_pos hz] at h
        obtain rfl := Option.some.inj h
        exact run_err hc hC hd h2 h3 h4 he hz
      · rw [if_neg hz] at h
        have hz : er = 0 := by simpa using hz
        subst hz
        obtain rfl := Option.some.inj h
        exact run_ok hc hC hd h2 h3 h4 he
/-! More rounds: no other answer. -/
theorem LeO.bind_ {α β : Type} {a : Option α} {f f' : α → Option β} (k : ∀ x, LeO (f x) (f' x)) : LeO (a.bind f) (a.bind f') := LeO.bind (LeO.refl _) k
theorem twoOf_le {f g : S29 → Int → Int → Option (V × Int × Int)} (h : ∀ x s e, LeO (f x s e) (g x s e)) (t : S29) (st : Int) : LeO (twoOf f t st) (twoOf g t st) := by
  unfold twoOf
  exact LeO.bind_ fun x => LeO.bind (h _ _ _) fun a => LeO.ite (LeO.refl _) (LeO.bind_ fun y => LeO.bind (h _ _ _) fun b => LeO.refl _)
theorem stepped_le (F st : Int) {c c' : Option (V × Int × Int)} (h : LeO c c') : LeO (stepped F st c) (stepped F st c') := by
  unfold stepped
  exact LeO.ite (LeO.refl _) (LeO.ite h (LeO.refl _))
theorem plain_le {f g : S29 → Int → Int → Option (V × Int × Int)} (h : ∀ x s e, LeO (f x s e) (g x s e)) (e : E) (t : S29) (st : Int) : LeO (plain f e t st) (plain g e t st) := by
  unfold plain
  exact LeO.ite (LeO.refl _) (LeO.ite (LeO.refl _) (LeO.ite (LeO.bind_ fun x => LeO.bind (h _ _ _) fun p => LeO.refl _) (LeO.ite (LeO.refl _) (LeO.bind (twoOf_le h t st) fun r => LeO.refl _))))
theorem ev_le (F : Int) : ∀ (k : Nat) (e : E) (t : S29) (st er : Int), LeO (ev F k e t st er) (ev F (k + 1) e t st er)
  | 0, _, _, _, _ => LeO.none _
  | k + 1, e, t, st, er => by
    have ih := ev_le F k
    rw [ev, ev]
    refine LeO.ite (LeO.refl _) (LeO.ite (LeO.ite (LeO.refl _) ?_) (LeO.ite (LeO.bind_ fun c => ih _ _ _ _) (LeO.ite (LeO.bind_ fun x => LeO.bind (ih _ _ _ _) fun a => LeO.bind_ fun c => ih _ _ _ _) (LeO.ite (LeO.bind_ fun y => LeO.bind_ fun x => LeO.bind (ih _ _ _ _) fun a => LeO.ite (LeO.bind_ fun c => ih _ _ _ _) (ih _ _ _ _)) (LeO.ite (LeO.bind (twoOf_le (ih e) t st) fun r => ?_) (plain_le (ih e) e t st))))))
    · cases find e t.f1.toNat with
      | nil => exact LeO.refl _
      | val v up => exact LeO.refl _
      | loop b up => exact stepped_le _ _ (LeO.bind_ fun c => ih _ _ _ _)
    · obtain ⟨a, ob, s1, e1⟩ := r
      cases ob with
      | none => exact LeO.refl _
      | some x =>
        refine LeO.ite (LeO.refl _) ?_
        cases a with
        | int n => exact LeO.refl _
        | pair a b => exact LeO.refl _
        | fn b up => exact stepped_le _ _ (ih _ _ _ _)
theorem run_le (k : Nat) (t : S29) (fuel : Int) : LeO (run k t fuel) (run (k + 1) t fuel) := by
  unfold run
  exact LeO.ite (LeO.refl _) (LeO.ite (LeO.refl _) (LeO.bind (ev_le _ _ _ _ _ _) fun _ => LeO.refl _))
end Go.Proofs.YtnecmclnokikoaaDoor.Run
namespace Go.Proofs.YtnecmclnokikoaaDoor.P
open Go.RowKit Go.Proofs.YtnecmclnokikoaaDoorW.PrintWords Go.Proofs.YtnecmclnokikoaaDoorW.PrintLast Go.Proofs.YtnecmclnokikoaaDoorW.PrintMore
/-- What run.Run answers, of k rounds. -/
def run_Run.f (k : Nat) (op n : Int) (kids : List S29) (fuel : Int) : Option (Int × Int × List S36 × Int × Int) := (Run.run k ⟨op, n, kids⟩ fuel).bind fun r => some (r.1.f0, r.1.f1, r.1.f2, r.2.1, r.2.2)
theorem run_Run.mono : ∀ op n kids fuel k, LeO (run_Run.f k op n kids fuel) (run_Run.f (k + 1) op n kids fuel) := fun _ _ _ _ _ => LeO.bind (Run.run_le _ _ _) fun _ => LeO.refl _
theorem run_Run.calls (k : Nat) (op n : Int) (A : Option Addr) (c : Nat) (kids : List S29) (fuel : Int) (r1 r2 : Int) (r3 : List S36) (r4 r5 : Int) (w : World) (hC : Kd.C k29 w A kids.length kids) (hc : kids.length ≤ c) (h : run_Run.f k op n kids fuel = some (r1, r2, r3, r4, r5)) :
    Calls Tryd.prog 10 #[.agg #[.int .i64 op, .int .i64 n, .slice A kids.length c], .int .i64 fuel] w fun e w' => ∃ v0_ : Value, e = .returned (.tuple #[.agg #[.int .i64 r1, .int .i64 r2, v0_], .int .i64 r4, .int .i64 r5]) ∧ Kd.R k36 36 w' w.heap.size (fun _ => True) v0_ r3 ∧ Below w.heap.size w w' := by
  obtain ⟨⟨⟨x1, x2, x3⟩, x4, x5⟩, hr, h⟩ := Option.bind_eq_some_iff.mp h
  have h := Option.some.inj h
  simp only [Prod.mk.injEq] at h
  obtain ⟨rfl, rfl, rfl, rfl, rfl⟩ := h
  exact Run.run12 (t := ⟨op, n, kids⟩) hc hC hr
end Go.Proofs.YtnecmclnokikoaaDoor.P
-- Printed by mkprint.py (a program of this session, over the kit's print). Lean checks it.
namespace Go.Proofs.YtnecmclnokikoaaDoor.P
open Go.RowKit Go.Proofs.YtnecmclnokikoaaDoorW.PrintWords Go.Proofs.YtnecmclnokikoaaDoorW.PrintLast Go.Proofs.YtnecmclnokikoaaDoorW.PrintMore
attribute [local go_sem] max2_int min2_int max_two min_two max_three min_three max_four min_four   -- for this text's walks alone
set_option linter.unusedVariables false
set_option linter.unusedSimpArgs false


/-! ### thyrsuslaw12_prim: function 23 -/
def thyrsuslaw12_prim.f (a0 : Int) (a1_0 : Int) (a1_1 : Int) (l1_2 : List (S29)) (a2_0 : Int) (a2_1 : Int) (l2_2 : List (S29)) : Option (Int × Int × (List (S29))) := some (26, a0, (([(⟨a1_0, a1_1, l1_2⟩ : S29), (⟨a2_0, a2_1, l2_2⟩ : S29)] : List (S29))))
set_option maxHeartbeats 8000000 in
set_option maxRecDepth 100000 in
theorem thyrsuslaw12_prim.calls (a0 : Int) (a1_0 : Int) (a1_1 : Int) (P1_2_ : Nat → Prop) (A1_2 : Option Addr) (c1_2 : Nat) (l1_2 : List (S29)) (a2_0 : Int) (a2_1 : Int) (P2_2_ : Nat → Prop) (A2_2 : Option Addr) (c2_2 : Nat) (l2_2 : List (S29)) (r1 : Int) (r2 : Int) (r3 : List (S29)) (w : World) (hs1_2 : Kd.V k29 29 w w.heap.size (fun k_ => P1_2_ k_) (.slice A1_2 l1_2.length c1_2) l1_2) (hs2_2 : Kd.V k29 29 w w.heap.size (fun k_ => P2_2_ k_) (.slice A2_2 l2_2.length c2_2) l2_2) (h : thyrsuslaw12_prim.f a0 a1_0 a1_1 l1_2 a2_0 a2_1 l2_2 = some (r1, r2, r3)) :
    Calls Tryd.prog 23 #[.int .i64 a0, .agg #[.int .i64 a1_0, .int .i64 a1_1, .slice A1_2 l1_2.length c1_2], .agg #[.int .i64 a2_0, .int .i64 a2_1, .slice A2_2 l2_2.length c2_2]] w fun e w' => ∃ v2_ : Value, e = .returned (.agg #[.int .i64 r1, .int .i64 r2, v2_]) ∧ Kd.N k29 29 w' w.heap.size (fun k_ => ((P1_2_ k_ ∨ P2_2_ k_) ∨ w.heap.size ≤ k_)) v2_ r3 ∧ Below w.heap.size w w' := by
  have hu29 := Tryd.underlying29
  have HO1_2 := Aside0.mk (show Kd.V k29 29 w w.heap.size (fun k_ => ((P1_2_ k_ ∨ P2_2_ k_) ∨ w.heap.size ≤ k_)) (.slice A1_2 l1_2.length c1_2) l1_2 from Kd.V_mono hs1_2 (fun k_ hk => .inl (.inl hk)))
  have HO2_2 := Aside0.mk (show Kd.V k29 29 w w.heap.size (fun k_ => ((P1_2_ k_ ∨ P2_2_ k_) ∨ w.heap.size ≤ k_)) (.slice A2_2 l2_2.length c2_2) l2_2 from Kd.V_mono hs2_2 (fun k_ hk => .inl (.inr hk)))
  have HB := Aside0.mk (Below.refl w.heap.size w)
  have H : (some (26, a0, (([(⟨a1_0, a1_1, l1_2⟩ : S29), (⟨a2_0, a2_1, l2_2⟩ : S29)] : List (S29))))) = some (r1, r2, r3) := h
  clear h
  obtain ⟨y105, hy105⟩ : ∃ y_ : List (S29), y_ = (([(⟨a1_0, a1_1, l1_2⟩ : S29), (⟨a2_0, a2_1, l2_2⟩ : S29)] : List (S29))) := ⟨_, rfl⟩
  replace H : (some (26, a0, y105)) = some (r1, r2, r3) := by first | (rw [hy105]; with_reducible exact H) | (have H2_ := (Option.bind_some _ _).symm.trans H; rw [hy105]; with_reducible exact H2_) | (have H2_ := (Option.bind_some _ _).symm.trans H; with_reducible exact H2_) | with_reducible exact H | (rw [hy105]; exact H) | exact H
  have Ny105 := Aside0.mk hy105
  clear hy105
  simp only [Option.some.injEq, Prod.mk.injEq] at H
  obtain ⟨rfl, rfl, rfl⟩ := H
  go_enter Tryd.func23, Tryd.ntmps23
  go_wp2_with (first | ((with_reducible refine gate_dst (N := 4) rfl ?_); refine box_event ?hg (N := 4) ?hd (cs := #[.int .i64 a1_0, .int .i64 a1_1, .slice A1_2 l1_2.length c1_2]) (t := 29) ?hr ?_; (case hd => rfl); (case hg => rfl); (case hr => first | (go_simp; done) | (go_simp; rfl)); intro gb102 hg w4 hbox hb; have n0_ := Aside0.mk (Kd.V_below (Kd.V_elderB (by (with_reducible repeat (first | apply Kd.V_alloc | apply Kd.V_drewN | apply Kd.V_drew)); exact HO1_2.out) gb102 (Nat.le_of_eq hg.symm)) hb); have n1_ := Aside0.mk (Kd.V_below (Kd.V_elderB (by (with_reducible repeat (first | apply Kd.V_alloc | apply Kd.V_drewN | apply Kd.V_drew)); exact HO2_2.out) gb102 (Nat.le_of_eq hg.symm)) hb); have n2_ := Aside0.mk (below_step (by repeat (first | (with_reducible first | exact HB.out | apply below_alloc | apply pw_below_drewN | apply below_drew1) | exact HB.out)) hb); have n3_ := Aside0.mk (hbox); have n4_ := Aside0.mk ((by rw [hg]; exact (below_size (by repeat (first | (with_reducible first | exact HB.out | apply below_alloc | apply pw_below_drewN | apply below_drew1) | exact HB.out))) : w.heap.size ≤ gb102)); have n5_ := Aside0.mk ((by rw [hg]; exact (below_size (by repeat (first | (with_reducible first | exact HB.out | apply below_alloc | apply pw_below_drewN | apply below_drew1) | exact HB.out))) : w.heap.size ≤ gb102)); clear HO1_2; clear HO2_2; clear HB; have HO1_2 := n0_; have HO2_2 := n1_; have HB := n2_; have BK102 := n3_; have GW102 := n4_; have GE102 := n5_; clear n0_ n1_ n2_ n3_ n4_ n5_; clear hb hbox hg) | ((with_reducible refine gate_dst (N := 5) rfl ?_); refine box_event ?hg (N := 5) ?hd (cs := #[.int .i64 a2_0, .int .i64 a2_1, .slice A2_2 l2_2.length c2_2]) (t := 29) ?hr ?_; (case hd => rfl); (case hg => rfl); (case hr => first | (go_simp; done) | (go_simp; rfl)); intro gb103 hg w5 hbox hb; have n0_ := Aside0.mk (Kd.V_below (Kd.V_elderB (by (with_reducible repeat (first | apply Kd.V_alloc | apply Kd.V_drewN | apply Kd.V_drew)); exact HO1_2.out) gb103 (Nat.le_of_eq hg.symm)) hb); have n1_ := Aside0.mk (Kd.V_below (Kd.V_elderB (by (with_reducible repeat (first | apply Kd.V_alloc | apply Kd.V_drewN | apply Kd.V_drew)); exact HO2_2.out) gb103 (Nat.le_of_eq hg.symm)) hb); have n2_ := Aside0.mk (blk_below (g := gb102) (o := .cells #[.int .i64 a1_0, .int .i64 a1_1, .slice A1_2 l1_2.length c1_2] 29 (0, 0)) (by (with_reducible repeat (first | refine blk_drewN ?_ _ | refine blk_drew ?_ | refine blk_alloc ?_ _)); exact BK102.out) hb); have n3_ := Aside0.mk (below_step (by repeat (first | (with_reducible first | exact HB.out | apply below_alloc | apply pw_below_drewN | apply below_drew1 | refine below_set ?_ GE102.out) | exact HB.out)) hb); have n4_ := Aside0.mk (hbox); have n5_ := Aside0.mk ((by rw [hg]; exact (below_size (by repeat (first | (with_reducible first | exact HB.out | apply below_alloc | apply pw_below_drewN | apply below_drew1 | refine below_set ?_ GE102.out) | exact HB.out))) : w.heap.size ≤ gb103)); have n6_ := Aside0.mk ((by rw [hg]; exact (below_size (by repeat (first | (with_reducible first | exact HB.out | apply below_alloc | apply pw_below_drewN | apply below_drew1 | refine below_set ?_ GE102.out) | exact HB.out))) : w.heap.size ≤ gb103)); have n7_ := Aside0.mk ((by rw [hg]; exact Nat.ne_of_lt (blk_lt (g := gb102) (o := .cells #[.int .i64 a1_0, .int .i64 a1_1, .slice A1_2 l1_2.length c1_2] 29 (0, 0)) (by (with_reducible repeat (first | refine blk_drewN ?_ _ | refine blk_drew ?_ | refine blk_alloc ?_ _)); exact BK102.out)) : gb102 ≠ gb103)); have n8_ := Aside0.mk ((by rw [hg]; exact Nat.ne_of_gt (blk_lt (g := gb102) (o := .cells #[.int .i64 a1_0, .int .i64 a1_1, .slice A1_2 l1_2.length c1_2] 29 (0, 0)) (by (with_reducible repeat (first | refine blk_drewN ?_ _ | refine blk_drew ?_ | refine blk_alloc ?_ _)); exact BK102.out)) : gb103 ≠ gb102)); clear HO1_2; clear HO2_2; clear BK102; clear HB; have HO1_2 := n0_; have HO2_2 := n1_; have BK102 := n2_; have HB := n3_; have BK103 := n4_; have GW103 := n5_; have GE103 := n6_; have NB102_103 := n7_; have NB103_102 := n8_; clear n0_ n1_ n2_ n3_ n4_ n5_ n6_ n7_ n8_; clear hb hbox hg) | ((with_reducible refine gate_dst (N := 6) rfl ?_); refine box_event ?hg (N := 6) ?hd (cs := #[.int .i64 0, .int .i64 0, .slice none 0 0]) (t := 29) ?hr ?_; (case hd => rfl); (case hg => rfl); (case hr => first | (go_simp; done) | (go_simp; rfl)); intro gb104 hg w6 hbox hb; have n0_ := Aside0.mk (Kd.V_below (Kd.V_elderB (by (with_reducible repeat (first | apply Kd.V_alloc | apply Kd.V_drewN | apply Kd.V_drew)); exact HO1_2.out) gb104 (Nat.le_of_eq hg.symm)) hb); have n1_ := Aside0.mk (Kd.V_below (Kd.V_elderB (by (with_reducible repeat (first | apply Kd.V_alloc | apply Kd.V_drewN | apply Kd.V_drew)); exact HO2_2.out) gb104 (Nat.le_of_eq hg.symm)) hb); have n2_ := Aside0.mk (blk_below (g := gb102) (o := .cells #[.int .i64 a1_0, .int .i64 a1_1, .slice A1_2 l1_2.length c1_2] 29 (0, 0)) (by (with_reducible repeat (first | refine blk_drewN ?_ _ | refine blk_drew ?_ | refine blk_alloc ?_ _)); exact BK102.out) hb); have n3_ := Aside0.mk (blk_below (g := gb103) (o := .cells #[.int .i64 a2_0, .int .i64 a2_1, .slice A2_2 l2_2.length c2_2] 29 (0, 0)) (by (with_reducible repeat (first | refine blk_drewN ?_ _ | refine blk_drew ?_ | refine blk_alloc ?_ _)); exact BK103.out) hb); have n4_ := Aside0.mk (below_step (by repeat (first | (with_reducible first | exact HB.out | apply below_alloc | apply pw_below_drewN | apply below_drew1 | refine below_set ?_ GE102.out | refine below_set ?_ GE103.out) | exact HB.out)) hb); have n5_ := Aside0.mk (hbox); have n6_ := Aside0.mk ((by rw [hg]; exact (below_size (by repeat (first | (with_reducible first | exact HB.out | apply below_alloc | apply pw_below_drewN | apply below_drew1 | refine below_set ?_ GE102.out | refine below_set ?_ GE103.out) | exact HB.out))) : w.heap.size ≤ gb104)); have n7_ := Aside0.mk ((by rw [hg]; exact (below_size (by repeat (first | (with_reducible first | exact HB.out | apply below_alloc | apply pw_below_drewN | apply below_drew1 | refine below_set ?_ GE102.out | refine below_set ?_ GE103.out) | exact HB.out))) : w.heap.size ≤ gb104)); have n8_ := Aside0.mk ((by rw [hg]; exact Nat.ne_of_lt (blk_lt (g := gb102) (o := .cells #[.int .i64 a1_0, .int .i64 a1_1, .slice A1_2 l1_2.length c1_2] 29 (0, 0)) (by (with_reducible repeat (first | refine blk_drewN ?_ _ | refine blk_drew ?_ | refine blk_alloc ?_ _)); exact BK102.out)) : gb102 ≠ gb104)); have n9_ := Aside0.mk ((by rw [hg]; exact Nat.ne_of_gt (blk_lt (g := gb102) (o := .cells #[.int .i64 a1_0, .int .i64 a1_1, .slice A1_2 l1_2.length c1_2] 29 (0, 0)) (by (with_reducible repeat (first | refine blk_drewN ?_ _ | refine blk_drew ?_ | refine blk_alloc ?_ _)); exact BK102.out)) : gb104 ≠ gb102)); have n10_ := Aside0.mk ((by rw [hg]; exact Nat.ne_of_lt (blk_lt (g := gb103) (o := .cells #[.int .i64 a2_0, .int .i64 a2_1, .slice A2_2 l2_2.length c2_2] 29 (0, 0)) (by (with_reducible repeat (first | refine blk_drewN ?_ _ | refine blk_drew ?_ | refine blk_alloc ?_ _)); exact BK103.out)) : gb103 ≠ gb104)); have n11_ := Aside0.mk ((by rw [hg]; exact Nat.ne_of_gt (blk_lt (g := gb103) (o := .cells #[.int .i64 a2_0, .int .i64 a2_1, .slice A2_2 l2_2.length c2_2] 29 (0, 0)) (by (with_reducible repeat (first | refine blk_drewN ?_ _ | refine blk_drew ?_ | refine blk_alloc ?_ _)); exact BK103.out)) : gb104 ≠ gb103)); clear HO1_2; clear HO2_2; clear BK102; clear BK103; clear HB; have HO1_2 := n0_; have HO2_2 := n1_; have BK102 := n2_; have BK103 := n3_; have HB := n4_; have BK104 := n5_; have GW104 := n6_; have GE104 := n7_; have NB102_104 := n8_; have NB104_102 := n9_; have NB103_104 := n10_; have NB104_103 := n11_; clear n0_ n1_ n2_ n3_ n4_ n5_ n6_ n7_ n8_ n9_ n10_ n11_; clear hb hbox hg; have hnb7 := NB102_103.out; have hnc7 := NB103_102.out; have hnb8 := NB102_104.out; have hnc8 := NB104_102.out; have hcz9_0 : w6.cell? ⟨gb102, 0, none⟩ = some (.int .i64 a1_0) := (blk_cell BK102.out 0).trans rfl; have hcz9_1 : w6.cell? ⟨gb102, 1, none⟩ = some (.int .i64 a1_1) := (blk_cell BK102.out 1).trans rfl; have hcz9_2 : w6.cell? ⟨gb102, 2, none⟩ = some (.slice A1_2 l1_2.length c1_2) := (blk_cell BK102.out 2).trans rfl; have hfz9_0 := blk_frozen BK102.out 0; have hfz9_1 := blk_frozen BK102.out 1; have hfz9_2 := blk_frozen BK102.out 2; have hnb10 := NB103_104.out; have hnc10 := NB104_103.out; have hcz11_0 : w6.cell? ⟨gb103, 0, none⟩ = some (.int .i64 a2_0) := (blk_cell BK103.out 0).trans rfl; have hcz11_1 : w6.cell? ⟨gb103, 1, none⟩ = some (.int .i64 a2_1) := (blk_cell BK103.out 1).trans rfl; have hcz11_2 : w6.cell? ⟨gb103, 2, none⟩ = some (.slice A2_2 l2_2.length c2_2) := (blk_cell BK103.out 2).trans rfl; have hfz11_0 := blk_frozen BK103.out 0; have hfz11_1 := blk_frozen BK103.out 1; have hfz11_2 := blk_frozen BK103.out 2) | ((with_reducible refine gate_dst (N := 10) rfl ?_); refine Kd.N_lit k29 _ 29 ?hg (N' := 10) ?hd (xs := ([(⟨a1_0, a1_1, l1_2⟩ : S29), (⟨a2_0, a2_1, l2_2⟩ : S29)] : List (S29))) (inner := [.int .i64 a1_0, .int .i64 a1_1, .slice A1_2 l1_2.length c1_2, .int .i64 a2_0, .int .i64 a2_1, .slice A2_2 l2_2.length c2_2]) (ok := (fun k_ => ((P1_2_ k_ ∨ P2_2_ k_) ∨ w.heap.size ≤ k_) ∧ k_ ≠ gb102 ∧ k_ ≠ gb103 ∧ k_ ≠ gb104)) (okp := (fun k_ => ((P1_2_ k_ ∨ P2_2_ k_) ∨ w.heap.size ≤ k_) ∧ k_ ≠ gb102 ∧ k_ ≠ gb103 ∧ k_ ≠ gb104)) ?hr ?hp (fun _ hk => hk) ((show ∀ k_, w6.heap.size ≤ k_ → (fun k_ => ((P1_2_ k_ ∨ P2_2_ k_) ∨ w.heap.size ≤ k_) ∧ k_ ≠ gb102 ∧ k_ ≠ gb103 ∧ k_ ≠ gb104) k_ from fun k_ hk => ⟨(.inr (Nat.le_trans (below_size (by repeat (first | (with_reducible first | exact HB.out | apply below_alloc | apply pw_below_drewN | apply below_drew1 | refine below_set ?_ GE102.out | refine below_set ?_ GE103.out | refine below_set ?_ GE104.out) | exact HB.out))) hk)), Kd.freshB (g := gb102) (o := .cells #[.int .i64 a1_0, .int .i64 a1_1, .slice A1_2 l1_2.length c1_2] 29 (0, 0)) (by (with_reducible repeat (first | refine blk_drewN ?_ _ | refine blk_drew ?_ | refine blk_alloc ?_ _)); exact BK102.out) k_ hk, Kd.freshB (g := gb103) (o := .cells #[.int .i64 a2_0, .int .i64 a2_1, .slice A2_2 l2_2.length c2_2] 29 (0, 0)) (by (with_reducible repeat (first | refine blk_drewN ?_ _ | refine blk_drew ?_ | refine blk_alloc ?_ _)); exact BK103.out) k_ hk, Kd.freshB (g := gb104) (o := .cells #[.int .i64 0, .int .i64 0, .slice none 0 0] 29 (0, 0)) (by (with_reducible repeat (first | refine blk_drewN ?_ _ | refine blk_drew ?_ | refine blk_alloc ?_ _)); exact BK104.out) k_ hk⟩) _ (Nat.le_refl _)) (Below.refl _ _) (Nat.le_refl _) (by simp) ?_; (case hd => rfl); (case hg => rfl); (case hr => first | (go_simp; done) | (go_simp; rfl)); (case hp => exact (Reps.c3 (show Kd.FK k29 _ _ (⟨a1_0, a1_1, l1_2⟩ : S29) [.int .i64 a1_0, .int .i64 a1_1, .slice A1_2 l1_2.length c1_2] from (k29_mkF _ _ (⟨a1_0, a1_1, l1_2⟩ : S29) (Kd.V_reads' (Kd.V_mono (ok' := (fun k_ => ((P1_2_ k_ ∨ P2_2_ k_) ∨ w.heap.size ≤ k_) ∧ k_ ≠ gb102 ∧ k_ ≠ gb103 ∧ k_ ≠ gb104)) (HO1_2.out) (fun k_ hk => ⟨hk.1.1.1, ⟨hk.1.1.2, ⟨hk.1.2, hk.2⟩⟩⟩))).2.1 (Kd.V_F (Kd.V_mono (ok' := (fun k_ => ((P1_2_ k_ ∨ P2_2_ k_) ∨ w.heap.size ≤ k_) ∧ k_ ≠ gb102 ∧ k_ ≠ gb103 ∧ k_ ≠ gb104)) (HO1_2.out) (fun k_ hk => ⟨hk.1.1.1, ⟨hk.1.1.2, ⟨hk.1.2, hk.2⟩⟩⟩))))) (Reps.c3 (show Kd.FK k29 _ _ (⟨a2_0, a2_1, l2_2⟩ : S29) [.int .i64 a2_0, .int .i64 a2_1, .slice A2_2 l2_2.length c2_2] from (k29_mkF _ _ (⟨a2_0, a2_1, l2_2⟩ : S29) (Kd.V_reads' (Kd.V_mono (ok' := (fun k_ => ((P1_2_ k_ ∨ P2_2_ k_) ∨ w.heap.size ≤ k_) ∧ k_ ≠ gb102 ∧ k_ ≠ gb103 ∧ k_ ≠ gb104)) (HO2_2.out) (fun k_ hk => ⟨hk.1.1.1, ⟨hk.1.1.2, ⟨hk.1.2, hk.2⟩⟩⟩))).2.1 (Kd.V_F (Kd.V_mono (ok' := (fun k_ => ((P1_2_ k_ ∨ P2_2_ k_) ∨ w.heap.size ≤ k_) ∧ k_ ≠ gb102 ∧ k_ ≠ gb103 ∧ k_ ≠ gb104)) (HO2_2.out) (fun k_ hk => ⟨hk.1.1.1, ⟨hk.1.1.2, ⟨hk.1.2, hk.2⟩⟩⟩))))) (Reps.none _ _)))); intro v106 w12 ho13 hb hg_ hnew_; clear hg_ hnew_; (first | rw [← Ny105.out] at ho13 | (simp only [Int.reduceToNat] at ho13; rw [← Ny105.out] at ho13)); have n0_ := Aside0.mk (Kd.V_elder' (by (with_reducible repeat (first | apply Kd.V_alloc | apply Kd.V_drewN | apply Kd.V_drew)); exact HO1_2.out) (by first | exact Kd.N_base ho13 | exact Kd.R_base ho13) hb); have n1_ := Aside0.mk (Kd.V_elder' (by (with_reducible repeat (first | apply Kd.V_alloc | apply Kd.V_drewN | apply Kd.V_drew)); exact HO2_2.out) (by first | exact Kd.N_base ho13 | exact Kd.R_base ho13) hb); have n2_ := Aside0.mk (Kd.N_lower ho13 (below_size (by repeat (first | (with_reducible first | exact HB.out | apply below_alloc | apply pw_below_drewN | apply below_drew1 | refine below_set ?_ GE102.out | refine below_set ?_ GE103.out | refine below_set ?_ GE104.out) | exact HB.out)))); have n3_ := Aside0.mk (blk_below (g := gb102) (o := .cells #[.int .i64 a1_0, .int .i64 a1_1, .slice A1_2 l1_2.length c1_2] 29 (0, 0)) (by (with_reducible repeat (first | refine blk_drewN ?_ _ | refine blk_drew ?_ | refine blk_alloc ?_ _)); exact BK102.out) hb); have n4_ := Aside0.mk (blk_below (g := gb103) (o := .cells #[.int .i64 a2_0, .int .i64 a2_1, .slice A2_2 l2_2.length c2_2] 29 (0, 0)) (by (with_reducible repeat (first | refine blk_drewN ?_ _ | refine blk_drew ?_ | refine blk_alloc ?_ _)); exact BK103.out) hb); have n5_ := Aside0.mk (blk_below (g := gb104) (o := .cells #[.int .i64 0, .int .i64 0, .slice none 0 0] 29 (0, 0)) (by (with_reducible repeat (first | refine blk_drewN ?_ _ | refine blk_drew ?_ | refine blk_alloc ?_ _)); exact BK104.out) hb); have n6_ := Aside0.mk (below_step (by repeat (first | (with_reducible first | exact HB.out | apply below_alloc | apply pw_below_drewN | apply below_drew1 | refine below_set ?_ GE102.out | refine below_set ?_ GE103.out | refine below_set ?_ GE104.out) | exact HB.out)) hb); clear HO1_2; clear HO2_2; clear BK102; clear BK103; clear BK104; clear HB; have HO1_2 := n0_; have HO2_2 := n1_; have HO107 := n2_; have BK102 := n3_; have BK103 := n4_; have BK104 := n5_; have HB := n6_; clear n0_ n1_ n2_ n3_ n4_ n5_ n6_; clear hb ho13; obtain ⟨Ao14, co14, eo14⟩ := Kd.N_slice HO107.out; subst eo14; have hcz15_0 : w12.cell? ⟨gb104, 0, none⟩ = some (.int .i64 0) := (blk_cell BK104.out 0).trans rfl; have hcz15_1 : w12.cell? ⟨gb104, 1, none⟩ = some (.int .i64 0) := (blk_cell BK104.out 1).trans rfl; have hcz15_2 : w12.cell? ⟨gb104, 2, none⟩ = some (.slice none 0 0) := (blk_cell BK104.out 2).trans rfl; have hfz15_0 := blk_frozen BK104.out 0; have hfz15_1 := blk_frozen BK104.out 1; have hfz15_2 := blk_frozen BK104.out 2))
  refine bodyPost_ret (results_cell_row rfl _ _ gb104 29 #[.int .i64 26, .int .i64 a0, .slice Ao14 y105.length co14] (0, 0) _ rfl (by (with_reducible repeat (first | refine blk_drewN ?_ _ | refine blk_drew ?_ | refine blk_alloc ?_ _)); refine blk_put (cs := #[.int .i64 26, .int .i64 a0, .slice none 0 0]) ?_ 2 _ rfl; (with_reducible repeat (first | refine blk_drewN ?_ _ | refine blk_drew ?_ | refine blk_alloc ?_ _)); refine blk_put (cs := #[.int .i64 26, .int .i64 0, .slice none 0 0]) ?_ 1 _ rfl; (with_reducible repeat (first | refine blk_drewN ?_ _ | refine blk_drew ?_ | refine blk_alloc ?_ _)); refine blk_put (cs := #[.int .i64 0, .int .i64 0, .slice none 0 0]) ?_ 0 _ rfl; (with_reducible repeat (first | refine blk_drewN ?_ _ | refine blk_drew ?_ | refine blk_alloc ?_ _)); exact BK104.out) Tryd.underlying29 rfl (by kernel_rfl)) rfl ?_
  exact ⟨_, by first | rfl | (simp [errW_none, errW_some] <;> rfl) | (simp [*, errW_none, errW_some] <;> rfl), by (with_reducible repeat (first | apply Kd.N_alloc | apply Kd.N_drewN | apply Kd.N_drew)); exact Kd.N_mono (Kd.N_far (p := ⟨gb104, 2, none⟩) (Kd.N_far (p := ⟨gb104, 1, none⟩) (Kd.N_far (p := ⟨gb104, 0, none⟩) (Kd.N_mono HO107.out (fun k_ hk => (⟨hk, hk.2.2.2⟩ : _ ∧ k_ ≠ gb104))) (fun _ hk => hk.2) (.int .i64 26)) (fun _ hk => hk.2) (.int .i64 a0)) (fun _ hk => hk.2) (.slice Ao14 y105.length co14)) (fun _ hk => hk.1.1), by repeat (first | (with_reducible first | exact HB.out | apply below_alloc | apply pw_below_drewN | apply below_drew1 | refine below_set ?_ GE102.out | refine below_set ?_ GE103.out | refine below_set ?_ GE104.out) | exact HB.out)⟩

/-! ### thyrsuslaw12_known: function 6 -/
def thyrsuslaw12_known.f (k : Nat)  : Option (Bool) := (thyrsusref4_Int.f 1).bind fun bt108 => ((thyrsusref4_Int.f 0).bind fun bt113 => ((thyrsuslaw12_prim.f 3 bt108.1 bt108.2.1 bt108.2.2 bt113.1 bt113.2.1 bt113.2.2).bind fun bt118 => ((run_Run.f k bt118.1 bt118.2.1 bt118.2.2 5).bind fun bt123 => ((thyrsusref4_Int.f 1).bind fun bt131 => ((thyrsusref4_Int.f 2).bind fun bt136 => ((thyrsuslaw12_prim.f 0 bt131.1 bt131.2.1 bt131.2.2 bt136.1 bt136.2.1 bt136.2.2).bind fun bt141 => ((run_Run.f k bt141.1 bt141.2.1 bt141.2.2 5).bind fun bt146 => (if bt123.2.2.2.1 = 0 then (if bt123.2.2.2.2 = 18 then (if bt146.2.2.2.1 = 0 then (if bt146.2.2.2.2 = 0 then (if bt146.2.1 = 3 then (some (bt146.1 == 1)) else (none)) else (none)) else (none)) else (none)) else (none)))))))))
theorem thyrsuslaw12_known.mono : ∀ k, LeO (thyrsuslaw12_known.f k ) (thyrsuslaw12_known.f (k + 1) ) := by
  intro  k
  unfold thyrsuslaw12_known.f
  repeat' first
      | (with_reducible exact run_Run.mono _ _ _ _ _)
      | (with_reducible exact LeO.refl _)
      | (with_reducible exact LeO.none _)
      | (with_reducible refine LeO.ite ?_ ?_)
      | (with_reducible refine LeO.bind ?_ (fun _ => ?_))
      | exact run_Run.mono _ _ _ _ _
      | exact LeO.none _
      | refine LeO.ite ?_ ?_
      | refine LeO.bind ?_ (fun _ => ?_)
set_option maxHeartbeats 8000000 in
set_option maxRecDepth 100000 in
theorem thyrsuslaw12_known.calls (k : Nat)  (r : Bool) (w : World) (h : thyrsuslaw12_known.f k  = some r) :
    Calls Tryd.prog 6 #[] w fun e w' => e = .returned (.bool r) ∧ Below w.heap.size w w' := by
  have hu36 := Tryd.underlying36
  have HB := Aside0.mk (Below.refl w.heap.size w)
  have H : ((thyrsusref4_Int.f 1).bind fun bt108 => ((thyrsusref4_Int.f 0).bind fun bt113 => ((thyrsuslaw12_prim.f 3 bt108.1 bt108.2.1 bt108.2.2 bt113.1 bt113.2.1 bt113.2.2).bind fun bt118 => ((run_Run.f k bt118.1 bt118.2.1 bt118.2.2 5).bind fun bt123 => ((thyrsusref4_Int.f 1).bind fun bt131 => ((thyrsusref4_Int.f 2).bind fun bt136 => ((thyrsuslaw12_prim.f 0 bt131.1 bt131.2.1 bt131.2.2 bt136.1 bt136.2.1 bt136.2.2).bind fun bt141 => ((run_Run.f k bt141.1 bt141.2.1 bt141.2.2 5).bind fun bt146 => (if bt123.2.2.2.1 = 0 then (if bt123.2.2.2.2 = 18 then (if bt146.2.2.2.1 = 0 then (if bt146.2.2.2.2 = 0 then (if bt146.2.1 = 3 then (some (bt146.1 == 1)) else (none)) else (none)) else (none)) else (none)) else (none)))))))))) = some r := h
  clear h
  replace H := Option.bind_eq_some_iff.mp H
  obtain ⟨⟨t108, t109, t110⟩, A10, H⟩ := H
  replace H : ((thyrsusref4_Int.f 0).bind fun bt113 => ((thyrsuslaw12_prim.f 3 t108 t109 t110 bt113.1 bt113.2.1 bt113.2.2).bind fun bt118 => ((run_Run.f k bt118.1 bt118.2.1 bt118.2.2 5).bind fun bt123 => ((thyrsusref4_Int.f 1).bind fun bt131 => ((thyrsusref4_Int.f 2).bind fun bt136 => ((thyrsuslaw12_prim.f 0 bt131.1 bt131.2.1 bt131.2.2 bt136.1 bt136.2.1 bt136.2.2).bind fun bt141 => ((run_Run.f k bt141.1 bt141.2.1 bt141.2.2 5).bind fun bt146 => (if bt123.2.2.2.1 = 0 then (if bt123.2.2.2.2 = 18 then (if bt146.2.2.2.1 = 0 then (if bt146.2.2.2.2 = 0 then (if bt146.2.1 = 3 then (some (bt146.1 == 1)) else (none)) else (none)) else (none)) else (none)) else (none))))))))) = some r := H
  have A1 := Aside0.mk A10
  clear A10
  replace H := Option.bind_eq_some_iff.mp H
  obtain ⟨⟨t113, t114, t115⟩, A20, H⟩ := H
  replace H : ((thyrsuslaw12_prim.f 3 t108 t109 t110 t113 t114 t115).bind fun bt118 => ((run_Run.f k bt118.1 bt118.2.1 bt118.2.2 5).bind fun bt123 => ((thyrsusref4_Int.f 1).bind fun bt131 => ((thyrsusref4_Int.f 2).bind fun bt136 => ((thyrsuslaw12_prim.f 0 bt131.1 bt131.2.1 bt131.2.2 bt136.1 bt136.2.1 bt136.2.2).bind fun bt141 => ((run_Run.f k bt141.1 bt141.2.1 bt141.2.2 5).bind fun bt146 => (if bt123.2.2.2.1 = 0 then (if bt123.2.2.2.2 = 18 then (if bt146.2.2.2.1 = 0 then (if bt146.2.2.2.2 = 0 then (if bt146.2.1 = 3 then (some (bt146.1 == 1)) else (none)) else (none)) else (none)) else (none)) else (none)))))))) = some r := H
  have A2 := Aside0.mk A20
  clear A20
  replace H := Option.bind_eq_some_iff.mp H
  obtain ⟨⟨t118, t119, t120⟩, A30, H⟩ := H
  replace H : ((run_Run.f k t118 t119 t120 5).bind fun bt123 => ((thyrsusref4_Int.f 1).bind fun bt131 => ((thyrsusref4_Int.f 2).bind fun bt136 => ((thyrsuslaw12_prim.f 0 bt131.1 bt131.2.1 bt131.2.2 bt136.1 bt136.2.1 bt136.2.2).bind fun bt141 => ((run_Run.f k bt141.1 bt141.2.1 bt141.2.2 5).bind fun bt146 => (if bt123.2.2.2.1 = 0 then (if bt123.2.2.2.2 = 18 then (if bt146.2.2.2.1 = 0 then (if bt146.2.2.2.2 = 0 then (if bt146.2.1 = 3 then (some (bt146.1 == 1)) else (none)) else (none)) else (none)) else (none)) else (none))))))) = some r := H
  have A3 := Aside0.mk A30
  clear A30
  replace H := Option.bind_eq_some_iff.mp H
  obtain ⟨⟨t123, t124, t125, t128, t129⟩, A40, H⟩ := H
  replace H : ((thyrsusref4_Int.f 1).bind fun bt131 => ((thyrsusref4_Int.f 2).bind fun bt136 => ((thyrsuslaw12_prim.f 0 bt131.1 bt131.2.1 bt131.2.2 bt136.1 bt136.2.1 bt136.2.2).bind fun bt141 => ((run_Run.f k bt141.1 bt141.2.1 bt141.2.2 5).bind fun bt146 => (if t128 = 0 then (if t129 = 18 then (if bt146.2.2.2.1 = 0 then (if bt146.2.2.2.2 = 0 then (if bt146.2.1 = 3 then (some (bt146.1 == 1)) else (none)) else (none)) else (none)) else (none)) else (none)))))) = some r := H
  have A4 := Aside0.mk A40
  clear A40
  replace H := Option.bind_eq_some_iff.mp H
  obtain ⟨⟨t131, t132, t133⟩, A50, H⟩ := H
  replace H : ((thyrsusref4_Int.f 2).bind fun bt136 => ((thyrsuslaw12_prim.f 0 t131 t132 t133 bt136.1 bt136.2.1 bt136.2.2).bind fun bt141 => ((run_Run.f k bt141.1 bt141.2.1 bt141.2.2 5).bind fun bt146 => (if t128 = 0 then (if t129 = 18 then (if bt146.2.2.2.1 = 0 then (if bt146.2.2.2.2 = 0 then (if bt146.2.1 = 3 then (some (bt146.1 == 1)) else (none)) else (none)) else (none)) else (none)) else (none))))) = some r := H
  have A5 := Aside0.mk A50
  clear A50
  replace H := Option.bind_eq_some_iff.mp H
  obtain ⟨⟨t136, t137, t138⟩, A60, H⟩ := H
  replace H : ((thyrsuslaw12_prim.f 0 t131 t132 t133 t136 t137 t138).bind fun bt141 => ((run_Run.f k bt141.1 bt141.2.1 bt141.2.2 5).bind fun bt146 => (if t128 = 0 then (if t129 = 18 then (if bt146.2.2.2.1 = 0 then (if bt146.2.2.2.2 = 0 then (if bt146.2.1 = 3 then (some (bt146.1 == 1)) else (none)) else (none)) else (none)) else (none)) else (none)))) = some r := H
  have A6 := Aside0.mk A60
  clear A60
  replace H := Option.bind_eq_some_iff.mp H
  obtain ⟨⟨t141, t142, t143⟩, A70, H⟩ := H
  replace H : ((run_Run.f k t141 t142 t143 5).bind fun bt146 => (if t128 = 0 then (if t129 = 18 then (if bt146.2.2.2.1 = 0 then (if bt146.2.2.2.2 = 0 then (if bt146.2.1 = 3 then (some (bt146.1 == 1)) else (none)) else (none)) else (none)) else (none)) else (none))) = some r := H
  have A7 := Aside0.mk A70
  clear A70
  replace H := Option.bind_eq_some_iff.mp H
  obtain ⟨⟨t146, t147, t148, t151, t152⟩, A80, H⟩ := H
  replace H : (if t128 = 0 then (if t129 = 18 then (if t151 = 0 then (if t152 = 0 then (if t147 = 3 then (some (t146 == 1)) else (none)) else (none)) else (none)) else (none)) else (none)) = some r := H
  have A8 := Aside0.mk A80
  clear A80
  by_cases c9 : t128 = 0
  · rw [if_pos c9] at H
    have c9b0 : (t128 == 0) = true := beq_iff_eq.mpr c9
    have c9b1 : (t128 != 0) = false := bne_eq_false_iff_eq.mpr c9
    clear c9
    by_cases c10 : t129 = 18
    · rw [if_pos c10] at H
      have c10b0 : (t129 == 18) = true := beq_iff_eq.mpr c10
      have c10b1 : (t129 != 18) = false := bne_eq_false_iff_eq.mpr c10
      clear c10
      by_cases c11 : t151 = 0
      · rw [if_pos c11] at H
        have c11b0 : (t151 == 0) = true := beq_iff_eq.mpr c11
        have c11b1 : (t151 != 0) = false := bne_eq_false_iff_eq.mpr c11
        clear c11
        by_cases c12 : t152 = 0
        · rw [if_pos c12] at H
          have c12b0 : (t152 == 0) = true := beq_iff_eq.mpr c12
          have c12b1 : (t152 != 0) = false := bne_eq_false_iff_eq.mpr c12
          clear c12
          by_cases c13 : t147 = 3
          · rw [if_pos c13] at H
            have c13b0 : (t147 == 3) = true := beq_iff_eq.mpr c13
            have c13b1 : (t147 != 3) = false := bne_eq_false_iff_eq.mpr c13
            clear c13
            obtain rfl := Option.some.inj H
            go_enter Tryd.func6, Tryd.ntmps6
            go_wp2_with (first | ((with_reducible refine gate_callee (f := 22) rfl ?_); refine goesL_ (some 8) rfl rfl Tryd.func22 (by kernel_rfl) rfl #[.int .i64 1] rfl (by (try simp only [List.map_toArray, List.map_cons, List.map_nil]); first | done | rfl | (simp only [List.length_drop, List.length_take]; rfl)) ?_; (with_reducible refine (thyrsusref4_Int.calls 1 t108 t109 t110 _ A1.out).mono ?_); rintro e w14 ⟨v111, rfl, ho0, hb⟩; refine ⟨_, rfl, ?_⟩; have n0_ := Aside0.mk (Kd.N_lower (Kd.N_mono (ok' := fun k_ => True) (Kd.R_N (Kd.R_bound ho0)) (fun k_ hk_ => trivial)) (below_size (by repeat (first | (with_reducible first | exact HB.out | apply below_alloc | apply pw_below_drewN | apply below_drew1) | exact HB.out)))); have n1_ := Aside0.mk (below_step (by repeat (first | (with_reducible first | exact HB.out | apply below_alloc | apply pw_below_drewN | apply below_drew1) | exact HB.out)) hb); clear HB; have HO112 := n0_; have HB := n1_; clear n0_ n1_; (try clear hb); (try clear hb2); (try clear hk); (try clear hi); (try clear ho0)) | ((with_reducible refine gate_callee (f := 22) rfl ?_); refine goesL_ (some 9) rfl rfl Tryd.func22 (by kernel_rfl) rfl #[.int .i64 0] rfl (by (try simp only [List.map_toArray, List.map_cons, List.map_nil]); first | done | rfl | (simp only [List.length_drop, List.length_take]; rfl)) ?_; (with_reducible refine (thyrsusref4_Int.calls 0 t113 t114 t115 _ A2.out).mono ?_); rintro e w15 ⟨v116, rfl, ho0, hb⟩; refine ⟨_, rfl, ?_⟩; have n0_ := Aside0.mk (Kd.N_elder' (by (with_reducible repeat (first | apply Kd.N_alloc | apply Kd.N_drewN | apply Kd.N_drew)); exact HO112.out) (by first | exact Kd.N_base ho0 | exact Kd.R_base ho0) hb); have n1_ := Aside0.mk (Kd.N_lower (Kd.N_mono (ok' := fun k_ => some k_ ≠ (v111 : Value).ownBlock) (Kd.R_N (Kd.R_bound ho0)) (fun k_ hk_ => (Kd.fresh' (Kd.N_lt (by (with_reducible repeat (first | apply Kd.N_alloc | apply Kd.N_drewN | apply Kd.N_drew)); exact HO112.out)) k_ hk_.2.1))) (below_size (by repeat (first | (with_reducible first | exact HB.out | apply below_alloc | apply pw_below_drewN | apply below_drew1) | exact HB.out)))); have n2_ := Aside0.mk (below_step (by repeat (first | (with_reducible first | exact HB.out | apply below_alloc | apply pw_below_drewN | apply below_drew1) | exact HB.out)) hb); clear HO112; clear HB; have HO112 := n0_; have HO117 := n1_; have HB := n2_; clear n0_ n1_ n2_; (try clear hb); (try clear hb2); (try clear hk); (try clear hi); (try clear ho0); obtain ⟨Ao16, co16, eo16⟩ := Kd.N_slice HO112.out; subst eo16; obtain ⟨Ao17, co17, eo17⟩ := Kd.N_slice HO117.out; subst eo17) | ((with_reducible refine gate_callee (f := 23) rfl ?_); refine goesL_ (some 10) rfl rfl Tryd.func23 (by kernel_rfl) rfl #[.int .i64 3, .agg #[.int .i64 t108, .int .i64 t109, .slice Ao16 t110.length co16], .agg #[.int .i64 t113, .int .i64 t114, .slice Ao17 t115.length co17]] rfl (by (try simp only [List.map_toArray, List.map_cons, List.map_nil]); first | done | rfl | (simp only [List.length_drop, List.length_take]; rfl)) ?_; (with_reducible refine (thyrsuslaw12_prim.calls 3 t108 t109 (fun k_ => (True ∧ some k_ ≠ (.slice Ao17 t115.length co17 : Value).ownBlock)) _ _ t110 t113 t114 (fun k_ => some k_ ≠ (.slice Ao16 t110.length co16 : Value).ownBlock) _ _ t115 t118 t119 t120 _ ?side1 ?side2 A3.out).mono ?_); (case side1 => exact Kd.N_V (HO112.out)); (case side2 => exact Kd.N_V (HO117.out)); rintro e w18 ⟨v121, rfl, ho0, hb⟩; refine ⟨_, rfl, ?_⟩; have n0_ := Aside0.mk (Kd.N_elder' (by (with_reducible repeat (first | apply Kd.N_alloc | apply Kd.N_drewN | apply Kd.N_drew)); exact HO112.out) (by first | exact Kd.N_base ho0 | exact Kd.R_base ho0) hb); have n1_ := Aside0.mk (Kd.N_elder' (by (with_reducible repeat (first | apply Kd.N_alloc | apply Kd.N_drewN | apply Kd.N_drew)); exact HO117.out) (by first | exact Kd.N_base ho0 | exact Kd.R_base ho0) hb); have n2_ := Aside0.mk (Kd.N_lower (Kd.N_mono (ok' := fun k_ => True) ho0 (fun k_ hk_ => trivial)) (below_size (by repeat (first | (with_reducible first | exact HB.out | apply below_alloc | apply pw_below_drewN | apply below_drew1) | exact HB.out)))); have n3_ := Aside0.mk (below_step (by repeat (first | (with_reducible first | exact HB.out | apply below_alloc | apply pw_below_drewN | apply below_drew1) | exact HB.out)) hb); clear HO112; clear HO117; clear HB; have HO112 := n0_; have HO117 := n1_; have HO122 := n2_; have HB := n3_; clear n0_ n1_ n2_ n3_; (try clear hb); (try clear hb2); (try clear hk); (try clear hi); (try clear ho0); obtain ⟨Ao19, co19, eo19⟩ := Kd.N_slice HO122.out; subst eo19) | ((with_reducible refine gate_callee (f := 10) rfl ?_); refine goesL_ (some 11) rfl rfl Tryd.func10 (by kernel_rfl) rfl #[.agg #[.int .i64 t118, .int .i64 t119, .slice Ao19 t120.length co19], .int .i64 5] rfl (by (try simp only [List.map_toArray, List.map_cons, List.map_nil]); first | done | rfl | (simp only [List.length_drop, List.length_take]; rfl)) ?_; (with_reducible refine (run_Run.calls k t118 t119 _ _ t120 5 t123 t124 t125 t128 t129 _ ?side1 ?side2 A4.out).mono ?_); (case side1 => repeat (first | exact (Kd.N_reads' HO122.out).2.2 | (with_reducible refine Kd.C_alloc ?_ _) | (with_reducible refine Kd.C_drewN ?_ _) | (with_reducible refine Kd.C_drew ?_))); (case side2 => exact (Kd.N_reads' HO122.out).2.1); rintro e w20 ⟨v126, rfl, ho0, hb⟩; refine ⟨_, rfl, ?_⟩; have n0_ := Aside0.mk (Kd.N_elder' (by (with_reducible repeat (first | apply Kd.N_alloc | apply Kd.N_drewN | apply Kd.N_drew)); exact HO112.out) (by first | exact Kd.N_base ho0 | exact Kd.R_base ho0) hb); have n1_ := Aside0.mk (Kd.N_elder' (by (with_reducible repeat (first | apply Kd.N_alloc | apply Kd.N_drewN | apply Kd.N_drew)); exact HO117.out) (by first | exact Kd.N_base ho0 | exact Kd.R_base ho0) hb); have n2_ := Aside0.mk (Kd.N_elder' (by (with_reducible repeat (first | apply Kd.N_alloc | apply Kd.N_drewN | apply Kd.N_drew)); exact HO122.out) (by first | exact Kd.N_base ho0 | exact Kd.R_base ho0) hb); have n3_ := Aside0.mk (Kd.N_lower (Kd.N_mono (ok' := fun k_ => some k_ ≠ (.slice Ao16 t110.length co16 : Value).ownBlock ∧ some k_ ≠ (.slice Ao17 t115.length co17 : Value).ownBlock ∧ some k_ ≠ (.slice Ao19 t120.length co19 : Value).ownBlock) (Kd.R_N (Kd.R_bound ho0)) (fun k_ hk_ => ⟨(Kd.fresh' (Kd.N_lt (by (with_reducible repeat (first | apply Kd.N_alloc | apply Kd.N_drewN | apply Kd.N_drew)); exact HO112.out)) k_ hk_.2.1), (Kd.fresh' (Kd.N_lt (by (with_reducible repeat (first | apply Kd.N_alloc | apply Kd.N_drewN | apply Kd.N_drew)); exact HO117.out)) k_ hk_.2.1), (Kd.fresh' (Kd.N_lt (by (with_reducible repeat (first | apply Kd.N_alloc | apply Kd.N_drewN | apply Kd.N_drew)); exact HO122.out)) k_ hk_.2.1)⟩)) (below_size (by repeat (first | (with_reducible first | exact HB.out | apply below_alloc | apply pw_below_drewN | apply below_drew1) | exact HB.out)))); have n4_ := Aside0.mk (below_step (by repeat (first | (with_reducible first | exact HB.out | apply below_alloc | apply pw_below_drewN | apply below_drew1) | exact HB.out)) hb); clear HO112; clear HO117; clear HO122; clear HB; have HO112 := n0_; have HO117 := n1_; have HO122 := n2_; have HO127 := n3_; have HB := n4_; clear n0_ n1_ n2_ n3_ n4_; (try clear hb); (try clear hb2); (try clear hk); (try clear hi); (try clear ho0)) | ((with_reducible refine gate_dst (N := 1) rfl ?_); refine box_event ?hg (N := 1) ?hd (cs := #[.int .i64 0, .int .i64 0, .slice none 0 0]) (t := 36) ?hr ?_; (case hd => rfl); (case hg => rfl); (case hr => first | (go_simp; done) | (go_simp; rfl)); intro gb130 hg w21 hbox hb; have n0_ := Aside0.mk (Kd.N_below (Kd.N_elderB (by (with_reducible repeat (first | apply Kd.N_alloc | apply Kd.N_drewN | apply Kd.N_drew)); exact HO112.out) gb130 (Nat.le_of_eq hg.symm)) hb); have n1_ := Aside0.mk (Kd.N_below (Kd.N_elderB (by (with_reducible repeat (first | apply Kd.N_alloc | apply Kd.N_drewN | apply Kd.N_drew)); exact HO117.out) gb130 (Nat.le_of_eq hg.symm)) hb); have n2_ := Aside0.mk (Kd.N_below (Kd.N_elderB (by (with_reducible repeat (first | apply Kd.N_alloc | apply Kd.N_drewN | apply Kd.N_drew)); exact HO122.out) gb130 (Nat.le_of_eq hg.symm)) hb); have n3_ := Aside0.mk (Kd.N_below (Kd.N_elderB (by (with_reducible repeat (first | apply Kd.N_alloc | apply Kd.N_drewN | apply Kd.N_drew)); exact HO127.out) gb130 (Nat.le_of_eq hg.symm)) hb); have n4_ := Aside0.mk (below_step (by repeat (first | (with_reducible first | exact HB.out | apply below_alloc | apply pw_below_drewN | apply below_drew1) | exact HB.out)) hb); have n5_ := Aside0.mk (hbox); have n6_ := Aside0.mk ((by rw [hg]; exact (below_size (by repeat (first | (with_reducible first | exact HB.out | apply below_alloc | apply pw_below_drewN | apply below_drew1) | exact HB.out))) : w.heap.size ≤ gb130)); have n7_ := Aside0.mk ((by rw [hg]; exact (below_size (by repeat (first | (with_reducible first | exact HB.out | apply below_alloc | apply pw_below_drewN | apply below_drew1) | exact HB.out))) : w.heap.size ≤ gb130)); clear HO112; clear HO117; clear HO122; clear HO127; clear HB; have HO112 := n0_; have HO117 := n1_; have HO122 := n2_; have HO127 := n3_; have HB := n4_; have BK130 := n5_; have GW130 := n6_; have GE130 := n7_; clear n0_ n1_ n2_ n3_ n4_ n5_ n6_ n7_; clear hb hbox hg; have hcz22_0 : w21.cell? ⟨gb130, 0, none⟩ = some (.int .i64 0) := (blk_cell BK130.out 0).trans rfl; have hcz22_1 : w21.cell? ⟨gb130, 1, none⟩ = some (.int .i64 0) := (blk_cell BK130.out 1).trans rfl; have hcz22_2 : w21.cell? ⟨gb130, 2, none⟩ = some (.slice none 0 0) := (blk_cell BK130.out 2).trans rfl; have hfz22_0 := blk_frozen BK130.out 0; have hfz22_1 := blk_frozen BK130.out 1; have hfz22_2 := blk_frozen BK130.out 2; obtain ⟨Ao23, co23, eo23⟩ := Kd.N_slice HO127.out; subst eo23) | ((with_reducible refine gate_callee (f := 22) rfl ?_); refine goesL_ (some 16) rfl rfl Tryd.func22 (by kernel_rfl) rfl #[.int .i64 1] rfl (by (try simp only [List.map_toArray, List.map_cons, List.map_nil]); first | done | rfl | (simp only [List.length_drop, List.length_take]; rfl)) ?_; (with_reducible refine (thyrsusref4_Int.calls 1 t131 t132 t133 _ A5.out).mono ?_); rintro e w24 ⟨v134, rfl, ho0, hb⟩; refine ⟨_, rfl, ?_⟩; have n0_ := Aside0.mk (Kd.N_elder' (by (with_reducible repeat (first | apply Kd.N_alloc | apply Kd.N_drewN | apply Kd.N_drew)); exact (Kd.N_mono (Kd.N_far (p := ⟨gb130, 2, none⟩) (Kd.N_far (p := ⟨gb130, 1, none⟩) (Kd.N_far (p := ⟨gb130, 0, none⟩) (Kd.N_mono HO112.out (fun k_ hk => (⟨hk, hk.2⟩ : _ ∧ k_ ≠ gb130))) (fun _ hk => hk.2) (.int .i64 t123)) (fun _ hk => hk.2) (.int .i64 t124)) (fun _ hk => hk.2) (.slice Ao23 t125.length co23)) (fun _ h_ => h_.1))) (by first | exact Kd.N_base ho0 | exact Kd.R_base ho0) hb); have n1_ := Aside0.mk (Kd.N_elder' (by (with_reducible repeat (first | apply Kd.N_alloc | apply Kd.N_drewN | apply Kd.N_drew)); exact (Kd.N_mono (Kd.N_far (p := ⟨gb130, 2, none⟩) (Kd.N_far (p := ⟨gb130, 1, none⟩) (Kd.N_far (p := ⟨gb130, 0, none⟩) (Kd.N_mono HO117.out (fun k_ hk => (⟨hk, hk.2⟩ : _ ∧ k_ ≠ gb130))) (fun _ hk => hk.2) (.int .i64 t123)) (fun _ hk => hk.2) (.int .i64 t124)) (fun _ hk => hk.2) (.slice Ao23 t125.length co23)) (fun _ h_ => h_.1))) (by first | exact Kd.N_base ho0 | exact Kd.R_base ho0) hb); have n2_ := Aside0.mk (Kd.N_elder' (by (with_reducible repeat (first | apply Kd.N_alloc | apply Kd.N_drewN | apply Kd.N_drew)); exact (Kd.N_mono (Kd.N_far (p := ⟨gb130, 2, none⟩) (Kd.N_far (p := ⟨gb130, 1, none⟩) (Kd.N_far (p := ⟨gb130, 0, none⟩) (Kd.N_mono HO122.out (fun k_ hk => (⟨hk, hk.2⟩ : _ ∧ k_ ≠ gb130))) (fun _ hk => hk.2) (.int .i64 t123)) (fun _ hk => hk.2) (.int .i64 t124)) (fun _ hk => hk.2) (.slice Ao23 t125.length co23)) (fun _ h_ => h_.1))) (by first | exact Kd.N_base ho0 | exact Kd.R_base ho0) hb); have n3_ := Aside0.mk (Kd.N_elder' (by (with_reducible repeat (first | apply Kd.N_alloc | apply Kd.N_drewN | apply Kd.N_drew)); exact (Kd.N_mono (Kd.N_far (p := ⟨gb130, 2, none⟩) (Kd.N_far (p := ⟨gb130, 1, none⟩) (Kd.N_far (p := ⟨gb130, 0, none⟩) (Kd.N_mono HO127.out (fun k_ hk => (⟨hk, hk.2⟩ : _ ∧ k_ ≠ gb130))) (fun _ hk => hk.2) (.int .i64 t123)) (fun _ hk => hk.2) (.int .i64 t124)) (fun _ hk => hk.2) (.slice Ao23 t125.length co23)) (fun _ h_ => h_.1))) (by first | exact Kd.N_base ho0 | exact Kd.R_base ho0) hb); have n4_ := Aside0.mk (Kd.N_lower (Kd.N_mono (ok' := fun k_ => some k_ ≠ (.slice Ao16 t110.length co16 : Value).ownBlock ∧ some k_ ≠ (.slice Ao17 t115.length co17 : Value).ownBlock ∧ some k_ ≠ (.slice Ao19 t120.length co19 : Value).ownBlock ∧ some k_ ≠ (.slice Ao23 t125.length co23 : Value).ownBlock ∧ k_ ≠ gb130) (Kd.R_N (Kd.R_bound ho0)) (fun k_ hk_ => ⟨(Kd.fresh' (Kd.N_lt (by (with_reducible repeat (first | apply Kd.N_alloc | apply Kd.N_drewN | apply Kd.N_drew)); exact (Kd.N_mono (Kd.N_far (p := ⟨gb130, 2, none⟩) (Kd.N_far (p := ⟨gb130, 1, none⟩) (Kd.N_far (p := ⟨gb130, 0, none⟩) (Kd.N_mono HO112.out (fun k_ hk => (⟨hk, hk.2⟩ : _ ∧ k_ ≠ gb130))) (fun _ hk => hk.2) (.int .i64 t123)) (fun _ hk => hk.2) (.int .i64 t124)) (fun _ hk => hk.2) (.slice Ao23 t125.length co23)) (fun _ h_ => h_.1)))) k_ hk_.2.1), (Kd.fresh' (Kd.N_lt (by (with_reducible repeat (first | apply Kd.N_alloc | apply Kd.N_drewN | apply Kd.N_drew)); exact (Kd.N_mono (Kd.N_far (p := ⟨gb130, 2, none⟩) (Kd.N_far (p := ⟨gb130, 1, none⟩) (Kd.N_far (p := ⟨gb130, 0, none⟩) (Kd.N_mono HO117.out (fun k_ hk => (⟨hk, hk.2⟩ : _ ∧ k_ ≠ gb130))) (fun _ hk => hk.2) (.int .i64 t123)) (fun _ hk => hk.2) (.int .i64 t124)) (fun _ hk => hk.2) (.slice Ao23 t125.length co23)) (fun _ h_ => h_.1)))) k_ hk_.2.1), (Kd.fresh' (Kd.N_lt (by (with_reducible repeat (first | apply Kd.N_alloc | apply Kd.N_drewN | apply Kd.N_drew)); exact (Kd.N_mono (Kd.N_far (p := ⟨gb130, 2, none⟩) (Kd.N_far (p := ⟨gb130, 1, none⟩) (Kd.N_far (p := ⟨gb130, 0, none⟩) (Kd.N_mono HO122.out (fun k_ hk => (⟨hk, hk.2⟩ : _ ∧ k_ ≠ gb130))) (fun _ hk => hk.2) (.int .i64 t123)) (fun _ hk => hk.2) (.int .i64 t124)) (fun _ hk => hk.2) (.slice Ao23 t125.length co23)) (fun _ h_ => h_.1)))) k_ hk_.2.1), (Kd.fresh' (Kd.N_lt (by (with_reducible repeat (first | apply Kd.N_alloc | apply Kd.N_drewN | apply Kd.N_drew)); exact (Kd.N_mono (Kd.N_far (p := ⟨gb130, 2, none⟩) (Kd.N_far (p := ⟨gb130, 1, none⟩) (Kd.N_far (p := ⟨gb130, 0, none⟩) (Kd.N_mono HO127.out (fun k_ hk => (⟨hk, hk.2⟩ : _ ∧ k_ ≠ gb130))) (fun _ hk => hk.2) (.int .i64 t123)) (fun _ hk => hk.2) (.int .i64 t124)) (fun _ hk => hk.2) (.slice Ao23 t125.length co23)) (fun _ h_ => h_.1)))) k_ hk_.2.1), (Kd.freshB (g := gb130) (o := .cells #[.int .i64 t123, .int .i64 t124, .slice Ao23 t125.length co23] 36 (0, 0)) (by (with_reducible repeat (first | refine blk_drewN ?_ _ | refine blk_drew ?_ | refine blk_alloc ?_ _)); refine blk_put (cs := #[.int .i64 t123, .int .i64 t124, .slice none 0 0]) ?_ 2 _ rfl; (with_reducible repeat (first | refine blk_drewN ?_ _ | refine blk_drew ?_ | refine blk_alloc ?_ _)); refine blk_put (cs := #[.int .i64 t123, .int .i64 0, .slice none 0 0]) ?_ 1 _ rfl; (with_reducible repeat (first | refine blk_drewN ?_ _ | refine blk_drew ?_ | refine blk_alloc ?_ _)); refine blk_put (cs := #[.int .i64 0, .int .i64 0, .slice none 0 0]) ?_ 0 _ rfl; (with_reducible repeat (first | refine blk_drewN ?_ _ | refine blk_drew ?_ | refine blk_alloc ?_ _)); exact BK130.out) k_ hk_.2.1)⟩)) (below_size (by repeat (first | (with_reducible first | exact HB.out | apply below_alloc | apply pw_below_drewN | apply below_drew1 | refine below_set ?_ GE130.out) | exact HB.out)))); have n5_ := Aside0.mk (blk_below (g := gb130) (o := .cells #[.int .i64 t123, .int .i64 t124, .slice Ao23 t125.length co23] 36 (0, 0)) (by (with_reducible repeat (first | refine blk_drewN ?_ _ | refine blk_drew ?_ | refine blk_alloc ?_ _)); refine blk_put (cs := #[.int .i64 t123, .int .i64 t124, .slice none 0 0]) ?_ 2 _ rfl; (with_reducible repeat (first | refine blk_drewN ?_ _ | refine blk_drew ?_ | refine blk_alloc ?_ _)); refine blk_put (cs := #[.int .i64 t123, .int .i64 0, .slice none 0 0]) ?_ 1 _ rfl; (with_reducible repeat (first | refine blk_drewN ?_ _ | refine blk_drew ?_ | refine blk_alloc ?_ _)); refine blk_put (cs := #[.int .i64 0, .int .i64 0, .slice none 0 0]) ?_ 0 _ rfl; (with_reducible repeat (first | refine blk_drewN ?_ _ | refine blk_drew ?_ | refine blk_alloc ?_ _)); exact BK130.out) hb); have n6_ := Aside0.mk (below_step (by repeat (first | (with_reducible first | exact HB.out | apply below_alloc | apply pw_below_drewN | apply below_drew1 | refine below_set ?_ GE130.out) | exact HB.out)) hb); clear HO112; clear HO117; clear HO122; clear HO127; clear BK130; clear HB; have HO112 := n0_; have HO117 := n1_; have HO122 := n2_; have HO127 := n3_; have HO135 := n4_; have BK130 := n5_; have HB := n6_; clear n0_ n1_ n2_ n3_ n4_ n5_ n6_; (try clear hb); (try clear hb2); (try clear hk); (try clear hi); (try clear ho0)) | ((with_reducible refine gate_callee (f := 22) rfl ?_); refine goesL_ (some 17) rfl rfl Tryd.func22 (by kernel_rfl) rfl #[.int .i64 2] rfl (by (try simp only [List.map_toArray, List.map_cons, List.map_nil]); first | done | rfl | (simp only [List.length_drop, List.length_take]; rfl)) ?_; (with_reducible refine (thyrsusref4_Int.calls 2 t136 t137 t138 _ A6.out).mono ?_); rintro e w25 ⟨v139, rfl, ho0, hb⟩; refine ⟨_, rfl, ?_⟩; have n0_ := Aside0.mk (Kd.N_elder' (by (with_reducible repeat (first | apply Kd.N_alloc | apply Kd.N_drewN | apply Kd.N_drew)); exact HO112.out) (by first | exact Kd.N_base ho0 | exact Kd.R_base ho0) hb); have n1_ := Aside0.mk (Kd.N_elder' (by (with_reducible repeat (first | apply Kd.N_alloc | apply Kd.N_drewN | apply Kd.N_drew)); exact HO117.out) (by first | exact Kd.N_base ho0 | exact Kd.R_base ho0) hb); have n2_ := Aside0.mk (Kd.N_elder' (by (with_reducible repeat (first | apply Kd.N_alloc | apply Kd.N_drewN | apply Kd.N_drew)); exact HO122.out) (by first | exact Kd.N_base ho0 | exact Kd.R_base ho0) hb); have n3_ := Aside0.mk (Kd.N_elder' (by (with_reducible repeat (first | apply Kd.N_alloc | apply Kd.N_drewN | apply Kd.N_drew)); exact HO127.out) (by first | exact Kd.N_base ho0 | exact Kd.R_base ho0) hb); have n4_ := Aside0.mk (Kd.N_elder' (by (with_reducible repeat (first | apply Kd.N_alloc | apply Kd.N_drewN | apply Kd.N_drew)); exact HO135.out) (by first | exact Kd.N_base ho0 | exact Kd.R_base ho0) hb); have n5_ := Aside0.mk (Kd.N_lower (Kd.N_mono (ok' := fun k_ => some k_ ≠ (.slice Ao16 t110.length co16 : Value).ownBlock ∧ some k_ ≠ (.slice Ao17 t115.length co17 : Value).ownBlock ∧ some k_ ≠ (.slice Ao19 t120.length co19 : Value).ownBlock ∧ some k_ ≠ (.slice Ao23 t125.length co23 : Value).ownBlock ∧ some k_ ≠ (v134 : Value).ownBlock ∧ k_ ≠ gb130) (Kd.R_N (Kd.R_bound ho0)) (fun k_ hk_ => ⟨(Kd.fresh' (Kd.N_lt (by (with_reducible repeat (first | apply Kd.N_alloc | apply Kd.N_drewN | apply Kd.N_drew)); exact HO112.out)) k_ hk_.2.1), (Kd.fresh' (Kd.N_lt (by (with_reducible repeat (first | apply Kd.N_alloc | apply Kd.N_drewN | apply Kd.N_drew)); exact HO117.out)) k_ hk_.2.1), (Kd.fresh' (Kd.N_lt (by (with_reducible repeat (first | apply Kd.N_alloc | apply Kd.N_drewN | apply Kd.N_drew)); exact HO122.out)) k_ hk_.2.1), (Kd.fresh' (Kd.N_lt (by (with_reducible repeat (first | apply Kd.N_alloc | apply Kd.N_drewN | apply Kd.N_drew)); exact HO127.out)) k_ hk_.2.1), (Kd.fresh' (Kd.N_lt (by (with_reducible repeat (first | apply Kd.N_alloc | apply Kd.N_drewN | apply Kd.N_drew)); exact HO135.out)) k_ hk_.2.1), (Kd.freshB (g := gb130) (o := .cells #[.int .i64 t123, .int .i64 t124, .slice Ao23 t125.length co23] 36 (0, 0)) (by (with_reducible repeat (first | refine blk_drewN ?_ _ | refine blk_drew ?_ | refine blk_alloc ?_ _)); exact BK130.out) k_ hk_.2.1)⟩)) (below_size (by repeat (first | (with_reducible first | exact HB.out | apply below_alloc | apply pw_below_drewN | apply below_drew1 | refine below_set ?_ GE130.out) | exact HB.out)))); have n6_ := Aside0.mk (blk_below (g := gb130) (o := .cells #[.int .i64 t123, .int .i64 t124, .slice Ao23 t125.length co23] 36 (0, 0)) (by (with_reducible repeat (first | refine blk_drewN ?_ _ | refine blk_drew ?_ | refine blk_alloc ?_ _)); exact BK130.out) hb); have n7_ := Aside0.mk (below_step (by repeat (first | (with_reducible first | exact HB.out | apply below_alloc | apply pw_below_drewN | apply below_drew1 | refine below_set ?_ GE130.out) | exact HB.out)) hb); clear HO112; clear HO117; clear HO122; clear HO127; clear HO135; clear BK130; clear HB; have HO112 := n0_; have HO117 := n1_; have HO122 := n2_; have HO127 := n3_; have HO135 := n4_; have HO140 := n5_; have BK130 := n6_; have HB := n7_; clear n0_ n1_ n2_ n3_ n4_ n5_ n6_ n7_; (try clear hb); (try clear hb2); (try clear hk); (try clear hi); (try clear ho0); obtain ⟨Ao26, co26, eo26⟩ := Kd.N_slice HO135.out; subst eo26; obtain ⟨Ao27, co27, eo27⟩ := Kd.N_slice HO140.out; subst eo27) | ((with_reducible refine gate_callee (f := 23) rfl ?_); refine goesL_ (some 18) rfl rfl Tryd.func23 (by kernel_rfl) rfl #[.int .i64 0, .agg #[.int .i64 t131, .int .i64 t132, .slice Ao26 t133.length co26], .agg #[.int .i64 t136, .int .i64 t137, .slice Ao27 t138.length co27]] rfl (by (try simp only [List.map_toArray, List.map_cons, List.map_nil]); first | done | rfl | (simp only [List.length_drop, List.length_take]; rfl)) ?_; (with_reducible refine (thyrsuslaw12_prim.calls 0 t131 t132 (fun k_ => ((some k_ ≠ (.slice Ao16 t110.length co16 : Value).ownBlock ∧ (some k_ ≠ (.slice Ao17 t115.length co17 : Value).ownBlock ∧ (some k_ ≠ (.slice Ao19 t120.length co19 : Value).ownBlock ∧ (some k_ ≠ (.slice Ao23 t125.length co23 : Value).ownBlock ∧ k_ ≠ gb130)))) ∧ some k_ ≠ (.slice Ao27 t138.length co27 : Value).ownBlock)) _ _ t133 t136 t137 (fun k_ => (some k_ ≠ (.slice Ao16 t110.length co16 : Value).ownBlock ∧ (some k_ ≠ (.slice Ao17 t115.length co17 : Value).ownBlock ∧ (some k_ ≠ (.slice Ao19 t120.length co19 : Value).ownBlock ∧ (some k_ ≠ (.slice Ao23 t125.length co23 : Value).ownBlock ∧ (some k_ ≠ (.slice Ao26 t133.length co26 : Value).ownBlock ∧ k_ ≠ gb130)))))) _ _ t138 t141 t142 t143 _ ?side1 ?side2 A7.out).mono ?_); (case side1 => exact Kd.N_V (HO135.out)); (case side2 => exact Kd.N_V (HO140.out)); rintro e w28 ⟨v144, rfl, ho0, hb⟩; refine ⟨_, rfl, ?_⟩; have n0_ := Aside0.mk (Kd.N_elder' (by (with_reducible repeat (first | apply Kd.N_alloc | apply Kd.N_drewN | apply Kd.N_drew)); exact HO112.out) (by first | exact Kd.N_base ho0 | exact Kd.R_base ho0) hb); have n1_ := Aside0.mk (Kd.N_elder' (by (with_reducible repeat (first | apply Kd.N_alloc | apply Kd.N_drewN | apply Kd.N_drew)); exact HO117.out) (by first | exact Kd.N_base ho0 | exact Kd.R_base ho0) hb); have n2_ := Aside0.mk (Kd.N_elder' (by (with_reducible repeat (first | apply Kd.N_alloc | apply Kd.N_drewN | apply Kd.N_drew)); exact HO122.out) (by first | exact Kd.N_base ho0 | exact Kd.R_base ho0) hb); have n3_ := Aside0.mk (Kd.N_elder' (by (with_reducible repeat (first | apply Kd.N_alloc | apply Kd.N_drewN | apply Kd.N_drew)); exact HO127.out) (by first | exact Kd.N_base ho0 | exact Kd.R_base ho0) hb); have n4_ := Aside0.mk (Kd.N_elder' (by (with_reducible repeat (first | apply Kd.N_alloc | apply Kd.N_drewN | apply Kd.N_drew)); exact HO135.out) (by first | exact Kd.N_base ho0 | exact Kd.R_base ho0) hb); have n5_ := Aside0.mk (Kd.N_elder' (by (with_reducible repeat (first | apply Kd.N_alloc | apply Kd.N_drewN | apply Kd.N_drew)); exact HO140.out) (by first | exact Kd.N_base ho0 | exact Kd.R_base ho0) hb); have n6_ := Aside0.mk (Kd.N_lower (Kd.N_mono (ok' := fun k_ => some k_ ≠ (.slice Ao16 t110.length co16 : Value).ownBlock ∧ some k_ ≠ (.slice Ao17 t115.length co17 : Value).ownBlock ∧ some k_ ≠ (.slice Ao19 t120.length co19 : Value).ownBlock ∧ some k_ ≠ (.slice Ao23 t125.length co23 : Value).ownBlock ∧ k_ ≠ gb130) ho0 (fun k_ hk_ => ⟨Or.elim hk_ (fun hs_ => Or.elim hs_ (fun hs_ => hs_.1.1) (fun hs_ => hs_.1)) (fun hn_ => (Kd.fresh' (Kd.N_lt (by (with_reducible repeat (first | apply Kd.N_alloc | apply Kd.N_drewN | apply Kd.N_drew)); exact HO112.out)) k_ hn_)), Or.elim hk_ (fun hs_ => Or.elim hs_ (fun hs_ => hs_.1.2.1) (fun hs_ => hs_.2.1)) (fun hn_ => (Kd.fresh' (Kd.N_lt (by (with_reducible repeat (first | apply Kd.N_alloc | apply Kd.N_drewN | apply Kd.N_drew)); exact HO117.out)) k_ hn_)), Or.elim hk_ (fun hs_ => Or.elim hs_ (fun hs_ => hs_.1.2.2.1) (fun hs_ => hs_.2.2.1)) (fun hn_ => (Kd.fresh' (Kd.N_lt (by (with_reducible repeat (first | apply Kd.N_alloc | apply Kd.N_drewN | apply Kd.N_drew)); exact HO122.out)) k_ hn_)), Or.elim hk_ (fun hs_ => Or.elim hs_ (fun hs_ => hs_.1.2.2.2.1) (fun hs_ => hs_.2.2.2.1)) (fun hn_ => (Kd.fresh' (Kd.N_lt (by (with_reducible repeat (first | apply Kd.N_alloc | apply Kd.N_drewN | apply Kd.N_drew)); exact HO127.out)) k_ hn_)), Or.elim hk_ (fun hs_ => Or.elim hs_ (fun hs_ => hs_.1.2.2.2.2) (fun hs_ => hs_.2.2.2.2.2)) (fun hn_ => (Kd.freshB (g := gb130) (o := .cells #[.int .i64 t123, .int .i64 t124, .slice Ao23 t125.length co23] 36 (0, 0)) (by (with_reducible repeat (first | refine blk_drewN ?_ _ | refine blk_drew ?_ | refine blk_alloc ?_ _)); exact BK130.out) k_ hn_))⟩)) (below_size (by repeat (first | (with_reducible first | exact HB.out | apply below_alloc | apply pw_below_drewN | apply below_drew1 | refine below_set ?_ GE130.out) | exact HB.out)))); have n7_ := Aside0.mk (blk_below (g := gb130) (o := .cells #[.int .i64 t123, .int .i64 t124, .slice Ao23 t125.length co23] 36 (0, 0)) (by (with_reducible repeat (first | refine blk_drewN ?_ _ | refine blk_drew ?_ | refine blk_alloc ?_ _)); exact BK130.out) hb); have n8_ := Aside0.mk (below_step (by repeat (first | (with_reducible first | exact HB.out | apply below_alloc | apply pw_below_drewN | apply below_drew1 | refine below_set ?_ GE130.out) | exact HB.out)) hb); clear HO112; clear HO117; clear HO122; clear HO127; clear HO135; clear HO140; clear BK130; clear HB; have HO112 := n0_; have HO117 := n1_; have HO122 := n2_; have HO127 := n3_; have HO135 := n4_; have HO140 := n5_; have HO145 := n6_; have BK130 := n7_; have HB := n8_; clear n0_ n1_ n2_ n3_ n4_ n5_ n6_ n7_ n8_; (try clear hb); (try clear hb2); (try clear hk); (try clear hi); (try clear ho0); obtain ⟨Ao29, co29, eo29⟩ := Kd.N_slice HO145.out; subst eo29) | ((with_reducible refine gate_callee (f := 10) rfl ?_); refine goesL_ (some 19) rfl rfl Tryd.func10 (by kernel_rfl) rfl #[.agg #[.int .i64 t141, .int .i64 t142, .slice Ao29 t143.length co29], .int .i64 5] rfl (by (try simp only [List.map_toArray, List.map_cons, List.map_nil]); first | done | rfl | (simp only [List.length_drop, List.length_take]; rfl)) ?_; (with_reducible refine (run_Run.calls k t141 t142 _ _ t143 5 t146 t147 t148 t151 t152 _ ?side1 ?side2 A8.out).mono ?_); (case side1 => repeat (first | exact (Kd.N_reads' HO145.out).2.2 | (with_reducible refine Kd.C_alloc ?_ _) | (with_reducible refine Kd.C_drewN ?_ _) | (with_reducible refine Kd.C_drew ?_))); (case side2 => exact (Kd.N_reads' HO145.out).2.1); rintro e w30 ⟨v149, rfl, ho0, hb⟩; refine ⟨_, rfl, ?_⟩; have n0_ := Aside0.mk (Kd.N_elder' (by (with_reducible repeat (first | apply Kd.N_alloc | apply Kd.N_drewN | apply Kd.N_drew)); exact HO112.out) (by first | exact Kd.N_base ho0 | exact Kd.R_base ho0) hb); have n1_ := Aside0.mk (Kd.N_elder' (by (with_reducible repeat (first | apply Kd.N_alloc | apply Kd.N_drewN | apply Kd.N_drew)); exact HO117.out) (by first | exact Kd.N_base ho0 | exact Kd.R_base ho0) hb); have n2_ := Aside0.mk (Kd.N_elder' (by (with_reducible repeat (first | apply Kd.N_alloc | apply Kd.N_drewN | apply Kd.N_drew)); exact HO122.out) (by first | exact Kd.N_base ho0 | exact Kd.R_base ho0) hb); have n3_ := Aside0.mk (Kd.N_elder' (by (with_reducible repeat (first | apply Kd.N_alloc | apply Kd.N_drewN | apply Kd.N_drew)); exact HO127.out) (by first | exact Kd.N_base ho0 | exact Kd.R_base ho0) hb); have n4_ := Aside0.mk (Kd.N_elder' (by (with_reducible repeat (first | apply Kd.N_alloc | apply Kd.N_drewN | apply Kd.N_drew)); exact HO135.out) (by first | exact Kd.N_base ho0 | exact Kd.R_base ho0) hb); have n5_ := Aside0.mk (Kd.N_elder' (by (with_reducible repeat (first | apply Kd.N_alloc | apply Kd.N_drewN | apply Kd.N_drew)); exact HO140.out) (by first | exact Kd.N_base ho0 | exact Kd.R_base ho0) hb); have n6_ := Aside0.mk (Kd.N_elder' (by (with_reducible repeat (first | apply Kd.N_alloc | apply Kd.N_drewN | apply Kd.N_drew)); exact HO145.out) (by first | exact Kd.N_base ho0 | exact Kd.R_base ho0) hb); have n7_ := Aside0.mk (Kd.N_lower (Kd.N_mono (ok' := fun k_ => some k_ ≠ (.slice Ao16 t110.length co16 : Value).ownBlock ∧ some k_ ≠ (.slice Ao17 t115.length co17 : Value).ownBlock ∧ some k_ ≠ (.slice Ao19 t120.length co19 : Value).ownBlock ∧ some k_ ≠ (.slice Ao23 t125.length co23 : Value).ownBlock ∧ some k_ ≠ (.slice Ao26 t133.length co26 : Value).ownBlock ∧ some k_ ≠ (.slice Ao27 t138.length co27 : Value).ownBlock ∧ some k_ ≠ (.slice Ao29 t143.length co29 : Value).ownBlock ∧ k_ ≠ gb130) (Kd.R_N (Kd.R_bound ho0)) (fun k_ hk_ => ⟨(Kd.fresh' (Kd.N_lt (by (with_reducible repeat (first | apply Kd.N_alloc | apply Kd.N_drewN | apply Kd.N_drew)); exact HO112.out)) k_ hk_.2.1), (Kd.fresh' (Kd.N_lt (by (with_reducible repeat (first | apply Kd.N_alloc | apply Kd.N_drewN | apply Kd.N_drew)); exact HO117.out)) k_ hk_.2.1), (Kd.fresh' (Kd.N_lt (by (with_reducible repeat (first | apply Kd.N_alloc | apply Kd.N_drewN | apply Kd.N_drew)); exact HO122.out)) k_ hk_.2.1), (Kd.fresh' (Kd.N_lt (by (with_reducible repeat (first | apply Kd.N_alloc | apply Kd.N_drewN | apply Kd.N_drew)); exact HO127.out)) k_ hk_.2.1), (Kd.fresh' (Kd.N_lt (by (with_reducible repeat (first | apply Kd.N_alloc | apply Kd.N_drewN | apply Kd.N_drew)); exact HO135.out)) k_ hk_.2.1), (Kd.fresh' (Kd.N_lt (by (with_reducible repeat (first | apply Kd.N_alloc | apply Kd.N_drewN | apply Kd.N_drew)); exact HO140.out)) k_ hk_.2.1), (Kd.fresh' (Kd.N_lt (by (with_reducible repeat (first | apply Kd.N_alloc | apply Kd.N_drewN | apply Kd.N_drew)); exact HO145.out)) k_ hk_.2.1), (Kd.freshB (g := gb130) (o := .cells #[.int .i64 t123, .int .i64 t124, .slice Ao23 t125.length co23] 36 (0, 0)) (by (with_reducible repeat (first | refine blk_drewN ?_ _ | refine blk_drew ?_ | refine blk_alloc ?_ _)); exact BK130.out) k_ hk_.2.1)⟩)) (below_size (by repeat (first | (with_reducible first | exact HB.out | apply below_alloc | apply pw_below_drewN | apply below_drew1 | refine below_set ?_ GE130.out) | exact HB.out)))); have n8_ := Aside0.mk (blk_below (g := gb130) (o := .cells #[.int .i64 t123, .int .i64 t124, .slice Ao23 t125.length co23] 36 (0, 0)) (by (with_reducible repeat (first | refine blk_drewN ?_ _ | refine blk_drew ?_ | refine blk_alloc ?_ _)); exact BK130.out) hb); have n9_ := Aside0.mk (below_step (by repeat (first | (with_reducible first | exact HB.out | apply below_alloc | apply pw_below_drewN | apply below_drew1 | refine below_set ?_ GE130.out) | exact HB.out)) hb); clear HO112; clear HO117; clear HO122; clear HO127; clear HO135; clear HO140; clear HO145; clear BK130; clear HB; have HO112 := n0_; have HO117 := n1_; have HO122 := n2_; have HO127 := n3_; have HO135 := n4_; have HO140 := n5_; have HO145 := n6_; have HO150 := n7_; have BK130 := n8_; have HB := n9_; clear n0_ n1_ n2_ n3_ n4_ n5_ n6_ n7_ n8_ n9_; (try clear hb); (try clear hb2); (try clear hk); (try clear hi); (try clear ho0)) | ((with_reducible refine gate_dst (N := 4) rfl ?_); refine box_event ?hg (N := 4) ?hd (cs := #[.int .i64 0, .int .i64 0, .slice none 0 0]) (t := 36) ?hr ?_; (case hd => rfl); (case hg => rfl); (case hr => first | (go_simp; done) | (go_simp; rfl)); intro gb153 hg w31 hbox hb; have n0_ := Aside0.mk (Kd.N_below (Kd.N_elderB (by (with_reducible repeat (first | apply Kd.N_alloc | apply Kd.N_drewN | apply Kd.N_drew)); exact HO112.out) gb153 (Nat.le_of_eq hg.symm)) hb); have n1_ := Aside0.mk (Kd.N_below (Kd.N_elderB (by (with_reducible repeat (first | apply Kd.N_alloc | apply Kd.N_drewN | apply Kd.N_drew)); exact HO117.out) gb153 (Nat.le_of_eq hg.symm)) hb); have n2_ := Aside0.mk (Kd.N_below (Kd.N_elderB (by (with_reducible repeat (first | apply Kd.N_alloc | apply Kd.N_drewN | apply Kd.N_drew)); exact HO122.out) gb153 (Nat.le_of_eq hg.symm)) hb); have n3_ := Aside0.mk (Kd.N_below (Kd.N_elderB (by (with_reducible repeat (first | apply Kd.N_alloc | apply Kd.N_drewN | apply Kd.N_drew)); exact HO127.out) gb153 (Nat.le_of_eq hg.symm)) hb); have n4_ := Aside0.mk (Kd.N_below (Kd.N_elderB (by (with_reducible repeat (first | apply Kd.N_alloc | apply Kd.N_drewN | apply Kd.N_drew)); exact HO135.out) gb153 (Nat.le_of_eq hg.symm)) hb); have n5_ := Aside0.mk (Kd.N_below (Kd.N_elderB (by (with_reducible repeat (first | apply Kd.N_alloc | apply Kd.N_drewN | apply Kd.N_drew)); exact HO140.out) gb153 (Nat.le_of_eq hg.symm)) hb); have n6_ := Aside0.mk (Kd.N_below (Kd.N_elderB (by (with_reducible repeat (first | apply Kd.N_alloc | apply Kd.N_drewN | apply Kd.N_drew)); exact HO145.out) gb153 (Nat.le_of_eq hg.symm)) hb); have n7_ := Aside0.mk (Kd.N_below (Kd.N_elderB (by (with_reducible repeat (first | apply Kd.N_alloc | apply Kd.N_drewN | apply Kd.N_drew)); exact HO150.out) gb153 (Nat.le_of_eq hg.symm)) hb); have n8_ := Aside0.mk (blk_below (g := gb130) (o := .cells #[.int .i64 t123, .int .i64 t124, .slice Ao23 t125.length co23] 36 (0, 0)) (by (with_reducible repeat (first | refine blk_drewN ?_ _ | refine blk_drew ?_ | refine blk_alloc ?_ _)); exact BK130.out) hb); have n9_ := Aside0.mk (below_step (by repeat (first | (with_reducible first | exact HB.out | apply below_alloc | apply pw_below_drewN | apply below_drew1 | refine below_set ?_ GE130.out) | exact HB.out)) hb); have n10_ := Aside0.mk (hbox); have n11_ := Aside0.mk ((by rw [hg]; exact (below_size (by repeat (first | (with_reducible first | exact HB.out | apply below_alloc | apply pw_below_drewN | apply below_drew1 | refine below_set ?_ GE130.out) | exact HB.out))) : w.heap.size ≤ gb153)); have n12_ := Aside0.mk ((by rw [hg]; exact (below_size (by repeat (first | (with_reducible first | exact HB.out | apply below_alloc | apply pw_below_drewN | apply below_drew1 | refine below_set ?_ GE130.out) | exact HB.out))) : w.heap.size ≤ gb153)); have n13_ := Aside0.mk ((by rw [hg]; exact Nat.ne_of_lt (blk_lt (g := gb130) (o := .cells #[.int .i64 t123, .int .i64 t124, .slice Ao23 t125.length co23] 36 (0, 0)) (by (with_reducible repeat (first | refine blk_drewN ?_ _ | refine blk_drew ?_ | refine blk_alloc ?_ _)); exact BK130.out)) : gb130 ≠ gb153)); have n14_ := Aside0.mk ((by rw [hg]; exact Nat.ne_of_gt (blk_lt (g := gb130) (o := .cells #[.int .i64 t123, .int .i64 t124, .slice Ao23 t125.length co23] 36 (0, 0)) (by (with_reducible repeat (first | refine blk_drewN ?_ _ | refine blk_drew ?_ | refine blk_alloc ?_ _)); exact BK130.out)) : gb153 ≠ gb130)); clear HO112; clear HO117; clear HO122; clear HO127; clear HO135; clear HO140; clear HO145; clear HO150; clear BK130; clear HB; have HO112 := n0_; have HO117 := n1_; have HO122 := n2_; have HO127 := n3_; have HO135 := n4_; have HO140 := n5_; have HO145 := n6_; have HO150 := n7_; have BK130 := n8_; have HB := n9_; have BK153 := n10_; have GW153 := n11_; have GE153 := n12_; have NB130_153 := n13_; have NB153_130 := n14_; clear n0_ n1_ n2_ n3_ n4_ n5_ n6_ n7_ n8_ n9_ n10_ n11_ n12_ n13_ n14_; clear hb hbox hg; have hnb32 := NB153_130.out; have hnc32 := NB130_153.out; have hcz33_0 : w31.cell? ⟨gb153, 0, none⟩ = some (.int .i64 0) := (blk_cell BK153.out 0).trans rfl; have hcz33_1 : w31.cell? ⟨gb153, 1, none⟩ = some (.int .i64 0) := (blk_cell BK153.out 1).trans rfl; have hcz33_2 : w31.cell? ⟨gb153, 2, none⟩ = some (.slice none 0 0) := (blk_cell BK153.out 2).trans rfl; have hfz33_0 := blk_frozen BK153.out 0; have hfz33_1 := blk_frozen BK153.out 1; have hfz33_2 := blk_frozen BK153.out 2; obtain ⟨Ao34, co34, eo34⟩ := Kd.N_slice HO150.out; subst eo34))
            go_ret
            exact ⟨by first | rfl | (simp [errW_none, errW_some] <;> rfl) | (simp [*, errW_none, errW_some] <;> rfl), by repeat (first | (with_reducible first | exact HB.out | apply below_alloc | apply pw_below_drewN | apply below_drew1 | refine below_set ?_ GE130.out | refine below_set ?_ GE153.out) | exact HB.out)⟩
          · rw [if_neg c13] at H
            exact absurd H (by simp)
        · rw [if_neg c12] at H
          exact absurd H (by simp)
      · rw [if_neg c11] at H
        exact absurd H (by simp)
    · rw [if_neg c10] at H
      exact absurd H (by simp)
  · rw [if_neg c9] at H
    exact absurd H (by simp)

/-- THE ONE PURE STATEMENT of thyrsuslaw12_known: yours. -/
def thyrsuslaw12_known.Pure : Prop := ∃ k, thyrsuslaw12_known.f k  = some true
theorem thyrsuslaw12_known.walk (P : thyrsuslaw12_known.Pure)  (w : World)  :
    Calls Tryd.prog 6 #[] w fun e w' => e = .returned (.bool true) ∧ Below w.heap.size w w' := by
  obtain ⟨k, h⟩ := P  
  refine (thyrsuslaw12_known.calls k  true w h).mono ?_
  rintro e w' ⟨rfl, hd⟩
  exact ⟨rfl, hd⟩
end Go.Proofs.YtnecmclnokikoaaDoor.P
/- run.Text of any value: strconv.Itoa's table stands (TabP), and stands in every later world. Printed by mkprint.py, turned by gentextR.py. -/
namespace Go.Proofs.YtnecmclnokikoaaDoor.P
open Go.RowKit Go.Proofs.YtnecmclnokikoaaDoorW.PrintWords Go.Proofs.YtnecmclnokikoaaDoorW.PrintLast Go.Proofs.YtnecmclnokikoaaDoorW.PrintMore
attribute [local go_sem] max2_int min2_int max_two min_two max_three min_three max_four min_four
set_option linter.unusedVariables false
set_option linter.unusedSimpArgs false
/-! ### run_Text: function 13 -/
mutual
def run_Text.j0 : Nat → Bool → Int → Int → List (S36) → Option (ByteArray)
  | 0, _, _, _, _ => none
  | k + 1, x10, x102000, x102001, x102002 => if x10 = true then (if 0 < (x102002.length : Int) then ((run_Text.f k ((rd_T36 x102002 0).f0) ((rd_T36 x102002 0).f1) ((rd_T36 x102002 0).f2)).bind fun t104 => (if 1 + t104.size ≤ 9223372036854775807 then (if ((⟨#[40]⟩ : ByteArray) ++ t104).size + 2 ≤ 9223372036854775807 then (if 1 < (x102002.length : Int) then ((run_Text.f k ((rd_T36 x102002 1).f0) ((rd_T36 x102002 1).f1) ((rd_T36 x102002 1).f2)).bind fun t106 => (if (((⟨#[40]⟩ : ByteArray) ++ t104) ++ (⟨#[44, 32]⟩ : ByteArray)).size + t106.size ≤ 9223372036854775807 then (if ((((⟨#[40]⟩ : ByteArray) ++ t104) ++ (⟨#[44, 32]⟩ : ByteArray)) ++ t106).size + 1 ≤ 9223372036854775807 then (some (((((⟨#[40]⟩ : ByteArray) ++ t104) ++ (⟨#[44, 32]⟩ : ByteArray)) ++ t106) ++ (⟨#[41]⟩ : ByteArray))) else (none)) else (none))) else (none)) else (none)) else (none))) else (none)) else (some (⟨#[102, 110]⟩ : ByteArray))
def run_Text.f : Nat → Int → Int → List (S36) → Option (ByteArray)
  | 0, _, _, _ => none
  | k + 1, a0_0, a0_1, l0_2 => if a0_0 = 1 then ((strconv_Itoa.f a0_1).bind fun t102 => (some t102)) else (if a0_0 = 2 then (run_Text.j0 k ((l0_2.length : Int) == 2) a0_0 a0_1 l0_2) else (run_Text.j0 k false a0_0 a0_1 l0_2))
end
def run_Text.T4 : Bool × List (List Nat × List Nat) := (true, [([], []), ([0], [0]), ([1], [1]), ([2], [2]), ([3], [3]), ([4], [4]), ([5], [5]), ([], []), ([7], [7]), ([8], [8]), ([9], [9]), ([10, 4], [10]), ([6, 11], [6, 11]), ([12], [12]), ([13, 11, 0, 1, 2, 3, 4, 5, 6, 7, 8, 9, 10, 11, 12, 13], [13])])
def run_Text.B4 : List Nat := [0, 1, 3, 7, 15, 31, 63, 0, 128, 384, 896, 1951, 4095, 8191, 16383]
theorem run_Text.tab4 : rtab .any (opsOf Tryd.f13 4) = run_Text.T4 := by kernel_rfl
theorem run_Text.bits4 : waitsOk run_Text.T4.2 run_Text.B4 = true := by kernel_rfl
set_option maxHeartbeats 8000000 in
set_option maxRecDepth 100000 in
theorem run_Text.calls (k : Nat) : ∀ (a0_0 : Int) (a0_1 : Int) (A0_2 : Option Addr) (c0_2 : Nat) (l0_2 : List (S36)) (r : ByteArray) (w : World) (hT : TabP w) (hr0_2 : Kd.C k36 w A0_2 l0_2.length l0_2) (hc0_2 : l0_2.length ≤ c0_2) (h : run_Text.f k a0_0 a0_1 l0_2 = some r),
    Calls Tryd.prog 13 #[.agg #[.int .i64 a0_0, .int .i64 a0_1, .slice A0_2 l0_2.length c0_2]] w fun e w' => e = .returned (.string r) ∧ Below w.heap.size w w' := by
  induction k using Nat.strongRecOn with
  | _ k ih =>
  intro a0_0 a0_1 A0_2 c0_2 l0_2 r w hT hr0_2 hc0_2 h
  cases k with
  | zero => exact absurd h (by simp [run_Text.f])
  | succ k =>
  simp only [run_Text.f] at h
  have HTB := Aside0.mk hT
  clear hT
  have hu36 := Tryd.underlying36
  have HR0_2 := Aside0.mk hr0_2
  have HC0_2 := Aside0.mk hc0_2
  clear hr0_2 hc0_2
  have HB := Aside0.mk (Below.refl w.heap.size w)
  have H : (if a0_0 = 1 then ((strconv_Itoa.f a0_1).bind fun t102 => (some t102)) else (if a0_0 = 2 then (run_Text.j0 k ((l0_2.length : Int) == 2) a0_0 a0_1 l0_2) else (run_Text.j0 k false a0_0 a0_1 l0_2))) = some r := h
  clear h
  by_cases c2 : a0_0 = 1
  · rw [if_pos c2] at H
    have c2b0 : (a0_0 == 1) = true := beq_iff_eq.mpr c2
    have c2b1 : (a0_0 != 1) = false := bne_eq_false_iff_eq.mpr c2
    clear c2
    replace H := Option.bind_eq_some_iff.mp H
    obtain ⟨t102, A30, H⟩ := H
    replace H : (some t102) = some r := H
    have A3 := Aside0.mk A30
    clear A30
    obtain rfl := Option.some.inj H
    go_enter Tryd.func13, Tryd.ntmps13
    go_wp2_with (first | ((with_reducible refine gate_dst (N := 1) rfl ?_); (try (refine gate_guard (by rfl) ?_; dsimp only)); refine box_event ?hg (N := 1) ?hd (cs := #[.int .i64 a0_0, .int .i64 a0_1, .slice A0_2 l0_2.length c0_2]) (t := 36) ?hr ?_; (case hd => rfl); (case hg => rfl); (case hr => first | (go_simp; done) | (go_simp; rfl)); intro gb101 hg w4 hbox hb; have n0_ := Aside0.mk (below_step (by repeat (first | (with_reducible first | exact HB.out | apply below_alloc | apply pw_below_drewN | apply below_drew1) | exact HB.out)) hb); have n1_ := Aside0.mk (hbox); have n2_ := Aside0.mk ((by rw [hg]; exact (below_size (by repeat (first | (with_reducible first | exact HB.out | apply below_alloc | apply pw_below_drewN | apply below_drew1) | exact HB.out))) : w.heap.size ≤ gb101)); have n3_ := Aside0.mk ((by rw [hg]; exact (below_size (by repeat (first | (with_reducible first | exact HB.out | apply below_alloc | apply pw_below_drewN | apply below_drew1) | exact HB.out))) : w.heap.size ≤ gb101)); clear HB; have HB := n0_; have BK101 := n1_; have GW101 := n2_; have GE101 := n3_; clear n0_ n1_ n2_ n3_; clear hb hbox hg; have hcz5_0 : w4.cell? ⟨gb101, 0, none⟩ = some (.int .i64 a0_0) := (blk_cell BK101.out 0).trans rfl; have hcz5_1 : w4.cell? ⟨gb101, 1, none⟩ = some (.int .i64 a0_1) := (blk_cell BK101.out 1).trans rfl; have hcz5_2 : w4.cell? ⟨gb101, 2, none⟩ = some (.slice A0_2 l0_2.length c0_2) := (blk_cell BK101.out 2).trans rfl; have hfz5_0 := blk_frozen BK101.out 0; have hfz5_1 := blk_frozen BK101.out 1; have hfz5_2 := blk_frozen BK101.out 2) | ((with_reducible refine gate_callee (f := 33) rfl ?_); refine goesL_ (some 9) rfl rfl Tryd.func33 (by kernel_rfl) rfl #[.int .i64 a0_1] rfl (by (try simp only [List.map_toArray, List.map_cons, List.map_nil]); first | done | rfl | (simp only [List.length_drop, List.length_take]; rfl)) ?_; (with_reducible refine (strconv_Itoa.calls a0_1 t102 _ ?sideT A3.out).mono ?_); (case sideT => exact TabP.below HTB.out (by repeat (first | (with_reducible first | exact HB.out | apply below_alloc | apply pw_below_drewN | apply below_drew1 | refine below_set ?_ GE101.out) | exact HB.out))); rintro e w6 ⟨rfl, hb⟩; refine ⟨_, rfl, ?_⟩; have n0_ := Aside0.mk (blk_below (g := gb101) (o := .cells #[.int .i64 a0_0, .int .i64 a0_1, .slice A0_2 l0_2.length c0_2] 36 (0, 0)) (by (with_reducible repeat (first | refine blk_drewN ?_ _ | refine blk_drew ?_ | refine blk_alloc ?_ _)); exact BK101.out) hb); have n1_ := Aside0.mk (below_step (by repeat (first | (with_reducible first | exact HB.out | apply below_alloc | apply pw_below_drewN | apply below_drew1 | refine below_set ?_ GE101.out) | exact HB.out)) hb); clear BK101; clear HB; have BK101 := n0_; have HB := n1_; clear n0_ n1_; (try clear hb); (try clear hb2); (try clear hk); (try clear hi)))
    go_ret
    exact ⟨by first | rfl | (simp [errW_none, errW_some] <;> rfl) | (simp [*, errW_none, errW_some] <;> rfl), by repeat (first | (with_reducible first | exact HB.out | apply below_alloc | apply pw_below_drewN | apply below_drew1 | refine below_set ?_ GE101.out) | exact HB.out)⟩
  · rw [if_neg c2] at H
    have c2b0 : (a0_0 == 1) = false := beq_eq_false_iff_ne.mpr c2
    have c2b1 : (a0_0 != 1) = true := bne_iff_ne.mpr c2
    have HC7 := Aside0.mk H
    clear H
    go_enter Tryd.func13, Tryd.ntmps13
    go_upto_region 3 with (first | ((with_reducible refine gate_dst (N := 1) rfl ?_); (try (refine gate_guard (by rfl) ?_; dsimp only)); refine box_event ?hg (N := 1) ?hd (cs := #[.int .i64 a0_0, .int .i64 a0_1, .slice A0_2 l0_2.length c0_2]) (t := 36) ?hr ?_; (case hd => rfl); (case hg => rfl); (case hr => first | (go_simp; done) | (go_simp; rfl)); intro gb101 hg w8 hbox hb; have n0_ := Aside0.mk (below_step (by repeat (first | (with_reducible first | exact HB.out | apply below_alloc | apply pw_below_drewN | apply below_drew1) | exact HB.out)) hb); have n1_ := Aside0.mk (hbox); have n2_ := Aside0.mk ((by rw [hg]; exact (below_size (by repeat (first | (with_reducible first | exact HB.out | apply below_alloc | apply pw_below_drewN | apply below_drew1) | exact HB.out))) : w.heap.size ≤ gb101)); have n3_ := Aside0.mk ((by rw [hg]; exact (below_size (by repeat (first | (with_reducible first | exact HB.out | apply below_alloc | apply pw_below_drewN | apply below_drew1) | exact HB.out))) : w.heap.size ≤ gb101)); clear HB; have HB := n0_; have BK101 := n1_; have GW101 := n2_; have GE101 := n3_; clear n0_ n1_ n2_ n3_; clear hb hbox hg; have hcz9_0 : w8.cell? ⟨gb101, 0, none⟩ = some (.int .i64 a0_0) := (blk_cell BK101.out 0).trans rfl; have hcz9_1 : w8.cell? ⟨gb101, 1, none⟩ = some (.int .i64 a0_1) := (blk_cell BK101.out 1).trans rfl; have hcz9_2 : w8.cell? ⟨gb101, 2, none⟩ = some (.slice A0_2 l0_2.length c0_2) := (blk_cell BK101.out 2).trans rfl; have hfz9_0 := blk_frozen BK101.out 0; have hfz9_1 := blk_frozen BK101.out 1; have hfz9_2 := blk_frozen BK101.out 2))
    (try simp only [Act.put, List.setIfInBounds_toArray, List.set_cons_zero, List.set_cons_succ])
    go_cut [10] (fun v10 wc => ∃ (kq : Nat) (x10_6 : Bool), v10 = .bool x10_6 ∧ Aside0 (run_Text.j0 kq x10_6 a0_0 a0_1 l0_2 = some r) ∧ Aside0 (kq ≤ k) ∧ Aside0 (wc.heap[gb101]? = some (.cells #[.int .i64 a0_0, .int .i64 a0_1, (.slice A0_2 l0_2.length c0_2)] 36 (0, 0))) ∧ Aside0 (Below w.heap.size w wc))
    case first =>
      have H := HC7.out
      clear HC7
      by_cases c10 : a0_0 = 2
      · rw [if_pos c10] at H
        have c10b0 : (a0_0 == 2) = true := beq_iff_eq.mpr c10
        have c10b1 : (a0_0 != 2) = false := bne_eq_false_iff_eq.mpr c10
        clear c10
        (first | rw [c10b0] | (simp only [i64_w, i32_w, u8_w, u32_w]; rw [c10b0]) | skip)
        have H' := Aside0.mk H
        clear H
        have hcz11_0 : w8.cell? ⟨gb101, 0, none⟩ = some (.int .i64 a0_0) := (blk_cell BK101.out 0).trans rfl
        have hcz11_1 : w8.cell? ⟨gb101, 1, none⟩ = some (.int .i64 a0_1) := (blk_cell BK101.out 1).trans rfl
        have hcz11_2 : w8.cell? ⟨gb101, 2, none⟩ = some (.slice A0_2 l0_2.length c0_2) := (blk_cell BK101.out 2).trans rfl
        have hfz11_0 := blk_frozen BK101.out 0
        have hfz11_1 := blk_frozen BK101.out 1
        have hfz11_2 := blk_frozen BK101.out 2
        go_wp2
        go_meet
        case rel => exact ⟨_, (((l0_2.length : Int) == 2)), (by first | rfl | (simp; done) | (simp [*]; done)), H', ⟨by first | omega | exact Nat.le_refl _⟩, ⟨by (with_reducible repeat (first | refine blk_drewN ?_ _ | refine blk_drew ?_ | refine blk_alloc ?_ _)); exact BK101.out⟩, ⟨by repeat (first | (with_reducible first | exact HB.out | apply below_alloc | apply pw_below_drewN | apply below_drew1 | refine below_set ?_ GE101.out) | exact HB.out)⟩⟩
      · rw [if_neg c10] at H
        have c10b0 : (a0_0 == 2) = false := beq_eq_false_iff_ne.mpr c10
        have c10b1 : (a0_0 != 2) = true := bne_iff_ne.mpr c10
        (first | rw [c10b0] | (simp only [i64_w, i32_w, u8_w, u32_w]; rw [c10b0]) | skip)
        have H' := Aside0.mk H
        clear H
        have hcz12_0 : w8.cell? ⟨gb101, 0, none⟩ = some (.int .i64 a0_0) := (blk_cell BK101.out 0).trans rfl
        have hcz12_1 : w8.cell? ⟨gb101, 1, none⟩ = some (.int .i64 a0_1) := (blk_cell BK101.out 1).trans rfl
        have hcz12_2 : w8.cell? ⟨gb101, 2, none⟩ = some (.slice A0_2 l0_2.length c0_2) := (blk_cell BK101.out 2).trans rfl
        have hfz12_0 := blk_frozen BK101.out 0
        have hfz12_1 := blk_frozen BK101.out 1
        have hfz12_2 := blk_frozen BK101.out 2
        go_wp2
        go_meet
        case rel => exact ⟨_, (false), (by first | rfl | (simp; done) | (simp [*]; done)), H', ⟨by first | omega | exact Nat.le_refl _⟩, ⟨by (with_reducible repeat (first | refine blk_drewN ?_ _ | refine blk_drew ?_ | refine blk_alloc ?_ _)); exact BK101.out⟩, ⟨by repeat (first | (with_reducible first | exact HB.out | apply below_alloc | apply pw_below_drewN | apply below_drew1 | refine below_set ?_ GE101.out) | exact HB.out)⟩⟩
    case rest =>
      clear HC7
      try clear c1
      try clear c2
      try clear c2b0
      try clear c2b1
      try clear p2
      try clear c3
      try clear c10
      try clear c10b0
      try clear c10b1
      try clear hcz11_0
      try clear hcz11_1
      try clear hcz11_2
      try clear hcz12_0
      try clear hcz12_1
      try clear hcz12_2
      try clear hcz5_0
      try clear hcz5_1
      try clear hcz5_2
      try clear hcz9_0
      try clear hcz9_1
      try clear hcz9_2
      try clear hfz11_0
      try clear hfz11_1
      try clear hfz11_2
      try clear hfz12_0
      try clear hfz12_1
      try clear hfz12_2
      try clear hfz5_0
      try clear hfz5_1
      try clear hfz5_2
      try clear hfz9_0
      try clear hfz9_1
      try clear hfz9_2
      obtain ⟨kq, x10_6, rfl, HA, HJ6, BK101, HB⟩ := hcut
      cases kq with
      | zero => exact absurd HA.out (by simp [run_Text.j0])
      | succ kj6 =>
        have H := HA.out
        clear HA
        simp only [run_Text.j0] at H
        by_cases c13 : x10_6 = true
        · subst c13
          have H1 : (if 0 < (l0_2.length : Int) then ((run_Text.f kj6 ((rd_T36 l0_2 0).f0) ((rd_T36 l0_2 0).f1) ((rd_T36 l0_2 0).f2)).bind fun t104 => (if 1 + t104.size ≤ 9223372036854775807 then (if ((⟨#[40]⟩ : ByteArray) ++ t104).size + 2 ≤ 9223372036854775807 then (if 1 < (l0_2.length : Int) then ((run_Text.f kj6 ((rd_T36 l0_2 1).f0) ((rd_T36 l0_2 1).f1) ((rd_T36 l0_2 1).f2)).bind fun t106 => (if (((⟨#[40]⟩ : ByteArray) ++ t104) ++ (⟨#[44, 32]⟩ : ByteArray)).size + t106.size ≤ 9223372036854775807 then (if ((((⟨#[40]⟩ : ByteArray) ++ t104) ++ (⟨#[44, 32]⟩ : ByteArray)) ++ t106).size + 1 ≤ 9223372036854775807 then (some (((((⟨#[40]⟩ : ByteArray) ++ t104) ++ (⟨#[44, 32]⟩ : ByteArray)) ++ t106) ++ (⟨#[41]⟩ : ByteArray))) else (none)) else (none))) else (none)) else (none)) else (none))) else (none)) = some r := by rw [if_pos rfl] at H; exact H
          clear H
          have H := H1
          clear H1
          by_cases c14 : 0 < (l0_2.length : Int)
          · rw [if_pos c14] at H
            have c14b0 : decide (0 < (l0_2.length : Int)) = true := decide_eq_true c14
            have c14b1 : decide (0 < l0_2.length) = true := decide_eq_true (by omega)
            clear c14
            replace H := Option.bind_eq_some_iff.mp H
            obtain ⟨t104, A150, H⟩ := H
            replace H : (if 1 + t104.size ≤ 9223372036854775807 then (if ((⟨#[40]⟩ : ByteArray) ++ t104).size + 2 ≤ 9223372036854775807 then (if 1 < (l0_2.length : Int) then ((run_Text.f kj6 ((rd_T36 l0_2 1).f0) ((rd_T36 l0_2 1).f1) ((rd_T36 l0_2 1).f2)).bind fun t106 => (if (((⟨#[40]⟩ : ByteArray) ++ t104) ++ (⟨#[44, 32]⟩ : ByteArray)).size + t106.size ≤ 9223372036854775807 then (if ((((⟨#[40]⟩ : ByteArray) ++ t104) ++ (⟨#[44, 32]⟩ : ByteArray)) ++ t106).size + 1 ≤ 9223372036854775807 then (some (((((⟨#[40]⟩ : ByteArray) ++ t104) ++ (⟨#[44, 32]⟩ : ByteArray)) ++ t106) ++ (⟨#[41]⟩ : ByteArray))) else (none)) else (none))) else (none)) else (none)) else (none)) = some r := H
            have A15 := Aside0.mk A150
            clear A150
            by_cases c16 : 1 + t104.size ≤ 9223372036854775807
            · rw [if_pos c16] at H
              have c16b0 := eq_true c16
              have c16b1 : decide (1 + t104.size ≤ 9223372036854775807) = true := decide_eq_true c16
              try have c16b2 : (9223372036854775807 < 1 + t104.size) = False := eq_false (Nat.not_lt.2 c16)
              by_cases c17 : ((⟨#[40]⟩ : ByteArray) ++ t104).size + 2 ≤ 9223372036854775807
              · rw [if_pos c17] at H
                have c17b0 := eq_true c17
                have c17b1 : decide (((⟨#[40]⟩ : ByteArray) ++ t104).size + 2 ≤ 9223372036854775807) = true := decide_eq_true c17
                have c17b1x := c17b1
                try simp only [ByteArray.size_append, szA1, szA2] at c17b1x
                have c17b1y := c17b1x
                try simp only [Int.natCast_add, Int.cast_ofNat_Int] at c17b1y
                try have c17b2 : (9223372036854775807 < ((⟨#[40]⟩ : ByteArray) ++ t104).size + 2) = False := eq_false (Nat.not_lt.2 c17)
                have c17n := c17
                try simp only [ByteArray.size_append, szA1, szA2] at c17n
                have c17b3 := eq_false (Nat.not_lt.2 c17n)
                clear c17n
                by_cases c18 : 1 < (l0_2.length : Int)
                · rw [if_pos c18] at H
                  have c18b0 : decide (1 < (l0_2.length : Int)) = true := decide_eq_true c18
                  have c18b1 : decide (1 < l0_2.length) = true := decide_eq_true (by omega)
                  clear c18
                  replace H := Option.bind_eq_some_iff.mp H
                  obtain ⟨t106, A190, H⟩ := H
                  replace H : (if (((⟨#[40]⟩ : ByteArray) ++ t104) ++ (⟨#[44, 32]⟩ : ByteArray)).size + t106.size ≤ 9223372036854775807 then (if ((((⟨#[40]⟩ : ByteArray) ++ t104) ++ (⟨#[44, 32]⟩ : ByteArray)) ++ t106).size + 1 ≤ 9223372036854775807 then (some (((((⟨#[40]⟩ : ByteArray) ++ t104) ++ (⟨#[44, 32]⟩ : ByteArray)) ++ t106) ++ (⟨#[41]⟩ : ByteArray))) else (none)) else (none)) = some r := H
                  have A19 := Aside0.mk A190
                  clear A190
                  by_cases c20 : (((⟨#[40]⟩ : ByteArray) ++ t104) ++ (⟨#[44, 32]⟩ : ByteArray)).size + t106.size ≤ 9223372036854775807
                  · rw [if_pos c20] at H
                    have c20b0 := eq_true c20
                    have c20b1 : decide ((((⟨#[40]⟩ : ByteArray) ++ t104) ++ (⟨#[44, 32]⟩ : ByteArray)).size + t106.size ≤ 9223372036854775807) = true := decide_eq_true c20
                    have c20b1x := c20b1
                    try simp only [ByteArray.size_append, szA1, szA2] at c20b1x
                    have c20b1y := c20b1x
                    try simp only [Int.natCast_add, Int.cast_ofNat_Int] at c20b1y
                    try have c20b2 : (9223372036854775807 < (((⟨#[40]⟩ : ByteArray) ++ t104) ++ (⟨#[44, 32]⟩ : ByteArray)).size + t106.size) = False := eq_false (Nat.not_lt.2 c20)
                    have c20n := c20
                    try simp only [ByteArray.size_append, szA1, szA2] at c20n
                    have c20b3 := eq_false (Nat.not_lt.2 c20n)
                    clear c20n
                    by_cases c21 : ((((⟨#[40]⟩ : ByteArray) ++ t104) ++ (⟨#[44, 32]⟩ : ByteArray)) ++ t106).size + 1 ≤ 9223372036854775807
                    · rw [if_pos c21] at H
                      have c21b0 := eq_true c21
                      have c21b1 : decide (((((⟨#[40]⟩ : ByteArray) ++ t104) ++ (⟨#[44, 32]⟩ : ByteArray)) ++ t106).size + 1 ≤ 9223372036854775807) = true := decide_eq_true c21
                      have c21b1x := c21b1
                      try simp only [ByteArray.size_append, szA1, szA2] at c21b1x
                      have c21b1y := c21b1x
                      try simp only [Int.natCast_add, Int.cast_ofNat_Int] at c21b1y
                      try have c21b2 : (9223372036854775807 < ((((⟨#[40]⟩ : ByteArray) ++ t104) ++ (⟨#[44, 32]⟩ : ByteArray)) ++ t106).size + 1) = False := eq_false (Nat.not_lt.2 c21)
                      have c21n := c21
                      try simp only [ByteArray.size_append, szA1, szA2] at c21n
                      have c21b3 := eq_false (Nat.not_lt.2 c21n)
                      clear c21n
                      obtain rfl := Option.some.inj H
                      try go_wp2
                      have n0_ := Aside0.mk (blk_drew BK101.out)
                      have n1_ := Aside0.mk (below_drew1 HB.out)
                      clear BK101
                      clear HB
                      have BK101 := n0_
                      have HB := n1_
                      clear n0_ n1_
                      have p103 : 0 ≤ (0 : Int) := (by omega)
                      have q103 : 0 < (l0_2.length : Int) := of_decide_eq_true (by first | (with_reducible assumption) | assumption)
                      obtain ⟨ad103, A103_2, c103_2, e103, hx103_0, hx103_1, hx103_2, hl103_2, hi103_2⟩ := at_T36 HR0_2.out 0 p103 q103
                      have hw103_2 := hx103_2
                      (try rw [show ((0 : Int)).toNat = 0 from rfl] at hw103_2)
                      (try rw [show 0 * 3 = 0 from rfl] at hw103_2)
                      (try rw [Addr.add_zero'] at hw103_2)
                      have hw103_1 := hx103_1
                      (try rw [show ((0 : Int)).toNat = 0 from rfl] at hw103_1)
                      (try rw [show 0 * 3 = 0 from rfl] at hw103_1)
                      (try rw [Addr.add_zero'] at hw103_1)
                      have hw103_0 := hx103_0
                      (try rw [show ((0 : Int)).toNat = 0 from rfl] at hw103_0)
                      (try rw [show 0 * 3 = 0 from rfl] at hw103_0)
                      (try rw [Addr.add_zero'] at hw103_0)
                      cases e103
                      have qi103 : (0 < l0_2.length) = True := eq_true (by omega)
                      (try rw [show ((0 : Int)).toNat = 0 from rfl] at hx103_0)
                      (try rw [show 0 * 3 = 0 from rfl] at hx103_0)
                      (try rw [Addr.add_zero'] at hx103_0)
                      (try rw [show ((0 : Int)).toNat = 0 from rfl] at hx103_1)
                      (try rw [show 0 * 3 = 0 from rfl] at hx103_1)
                      (try rw [Addr.add_zero'] at hx103_1)
                      (try rw [show ((0 : Int)).toNat = 0 from rfl] at hx103_2)
                      (try rw [show 0 * 3 = 0 from rfl] at hx103_2)
                      (try rw [Addr.add_zero'] at hx103_2)
                      replace hx103_0 := (HB.out.cell (World.block_lt_of_cell? w _ hx103_0)).trans hx103_0
                      replace hx103_1 := (HB.out.cell (World.block_lt_of_cell? w _ hx103_1)).trans hx103_1
                      replace hx103_2 := (HB.out.cell (World.block_lt_of_cell? w _ hx103_2)).trans hx103_2
                      have HR103_2 := Aside0.mk hi103_2
                      have HC103_2 := Aside0.mk hl103_2
                      clear hi103_2 hl103_2
                      replace p103 := eq_true p103
                      replace q103 := eq_true q103
                      have p105 : 0 ≤ (1 : Int) := (by omega)
                      have q105 : 1 < (l0_2.length : Int) := of_decide_eq_true (by first | (with_reducible assumption) | assumption)
                      obtain ⟨ad105, A105_2, c105_2, e105, hx105_0, hx105_1, hx105_2, hl105_2, hi105_2⟩ := at_T36 HR0_2.out 1 p105 q105
                      have hw105_2 := hx105_2
                      (try rw [show ((1 : Int)).toNat = 1 from rfl] at hw105_2)
                      (try rw [show 1 * 3 = 3 from rfl] at hw105_2)
                      (try simp only [Nat.reduceMul, Nat.reduceEqDiff, Go.Addr.add, ↓reduceIte] at hw105_2)
                      have hw105_1 := hx105_1
                      (try rw [show ((1 : Int)).toNat = 1 from rfl] at hw105_1)
                      (try rw [show 1 * 3 = 3 from rfl] at hw105_1)
                      (try simp only [Nat.reduceMul, Nat.reduceEqDiff, Go.Addr.add, ↓reduceIte] at hw105_1)
                      have hw105_0 := hx105_0
                      (try rw [show ((1 : Int)).toNat = 1 from rfl] at hw105_0)
                      (try rw [show 1 * 3 = 3 from rfl] at hw105_0)
                      (try simp only [Nat.reduceMul, Nat.reduceEqDiff, Go.Addr.add, ↓reduceIte] at hw105_0)
                      obtain rfl : ad103 = ad105 := (by injection e105)
                      (try simp only [show (1 : Int).toNat = 1 from rfl, Nat.reduceMul, Nat.reduceEqDiff, Go.Addr.add, ↓reduceIte] at hx105_0)
                      (try simp only [show (1 : Int).toNat = 1 from rfl, Nat.reduceMul, Nat.reduceEqDiff, Go.Addr.add, ↓reduceIte] at hx105_1)
                      (try simp only [show (1 : Int).toNat = 1 from rfl, Nat.reduceMul, Nat.reduceEqDiff, Go.Addr.add, ↓reduceIte] at hx105_2)
                      have qi105 : (1 < l0_2.length) = True := eq_true (by omega)
                      (try rw [show ((1 : Int)).toNat = 1 from rfl] at hx105_0)
                      (try rw [show 1 * 3 = 3 from rfl] at hx105_0)
                      (try rw [show ((1 : Int)).toNat = 1 from rfl] at hx105_1)
                      (try rw [show 1 * 3 = 3 from rfl] at hx105_1)
                      (try rw [show ((1 : Int)).toNat = 1 from rfl] at hx105_2)
                      (try rw [show 1 * 3 = 3 from rfl] at hx105_2)
                      replace hx105_0 := (HB.out.cell (World.block_lt_of_cell? w _ hx105_0)).trans hx105_0
                      replace hx105_1 := (HB.out.cell (World.block_lt_of_cell? w _ hx105_1)).trans hx105_1
                      replace hx105_2 := (HB.out.cell (World.block_lt_of_cell? w _ hx105_2)).trans hx105_2
                      have HR105_2 := Aside0.mk hi105_2
                      have HC105_2 := Aside0.mk hl105_2
                      clear hi105_2 hl105_2
                      replace p105 := eq_true p105
                      replace q105 := eq_true q105
                      refine start_ (n := 15) (S := fun w' => w'.cell? ⟨gb101, 0, none⟩ = some (.int .i64 a0_0) ∧ w'.cell? ⟨gb101, 1, none⟩ = some (.int .i64 a0_1) ∧ w'.cell? ⟨gb101, 2, none⟩ = some (.slice (some ad103) l0_2.length c0_2) ∧ w'.cell? ad103 = some (.int .i64 ((rd_T36 l0_2 0).f0)) ∧ w'.cell? ⟨ad103.block, ad103.off + 1, none⟩ = some (.int .i64 ((rd_T36 l0_2 0).f1)) ∧ w'.cell? ⟨ad103.block, ad103.off + 2, none⟩ = some (.slice A103_2 ((rd_T36 l0_2 0).f2).length c103_2) ∧ w'.cell? ⟨ad103.block, ad103.off + 3, none⟩ = some (.int .i64 ((rd_T36 l0_2 1).f0)) ∧ w'.cell? ⟨ad103.block, ad103.off + 3 + 1, none⟩ = some (.int .i64 ((rd_T36 l0_2 1).f1)) ∧ w'.cell? ⟨ad103.block, ad103.off + 3 + 2, none⟩ = some (.slice A105_2 ((rd_T36 l0_2 1).f2).length c105_2)) (ds := []) #[false, false, false, false, false, false, false, false, false, false, false, false, false, false, false] (by kernel_rfl) rfl rfl ⟨(blk_cell BK101.out 0).trans rfl, (blk_cell BK101.out 1).trans rfl, (blk_cell BK101.out 2).trans rfl, ((HB.out.cell (World.block_lt_of_cell? w _ hw103_0)).trans hw103_0), ((HB.out.cell (World.block_lt_of_cell? w _ hw103_1)).trans hw103_1), ((HB.out.cell (World.block_lt_of_cell? w _ hw103_2)).trans hw103_2), ((HB.out.cell (World.block_lt_of_cell? w _ hw105_0)).trans hw105_0), ((HB.out.cell (World.block_lt_of_cell? w _ hw105_1)).trans hw105_1), ((HB.out.cell (World.block_lt_of_cell? w _ hw105_2)).trans hw105_2)⟩ (fun hHeld => ?_); refine with_tabW run_Text.tab4 run_Text.bits4 (fun HT_ HW_ => ?_)
                      generalize wc.drew = w22 at BK101 HB HR103_2 HR105_2 hx103_0 hx103_1 hx103_2 hx105_0 hx105_1 hx105_2 hHeld ⊢
                      refine pure_ (i := 0) (N := some 20) (v := ?_) (a' := ?_) #[true, false, false, false, false, false, false, false, false, false, false, false, false, false, false] rfl rfl (any_of HT_.out (by kernel_rfl)) (fun _ _ _ h => h) (Or.inl ⟨by rfl, ?_⟩) ?_ ?_
                      rotate_left
                      · intro w'
                        go_simp
                        with_reducible rfl
                      rotate_left
                      · simp only [Act.put, List.setIfInBounds_toArray, List.set_cons_zero, List.set_cons_succ, i64_w, i32_w, u8_w, u32_w]
                        rfl
                      refine pure_ (i := 7) (N := some 27) (v := ?_) (a' := ?_) #[true, false, false, false, false, false, false, true, false, false, false, false, false, false, false] rfl rfl (any_of HT_.out (by kernel_rfl)) (fun _ _ _ h => h) (Or.inl ⟨by rfl, ?_⟩) ?_ ?_
                      rotate_left
                      · intro w'
                        go_simp
                        with_reducible rfl
                      rotate_left
                      · simp only [Act.put, List.setIfInBounds_toArray, List.set_cons_zero, List.set_cons_succ, i64_w, i32_w, u8_w, u32_w]
                        rfl
                      refine take_ (i := 1) (N := some 21) (v := ?_) (a' := ?_) #[true, true, false, false, false, false, false, true, false, false, false, false, false, false, false] rfl rfl (take_ofW HT_.out HW_.out (by kernel_rfl)) (fun _ _ _ h => h) (Or.inl ⟨by rfl, ?_⟩) hHeld ?_ ?_
                      rotate_left
                      · rintro w' ⟨s0, s1, s2, s3, s4, s5, s6, s7, s8⟩
                        go_simp
                        with_reducible rfl
                      rotate_left
                      · simp only [Act.put, List.setIfInBounds_toArray, List.set_cons_zero, List.set_cons_succ, i64_w, i32_w, u8_w, u32_w]
                        rfl
                      refine pure_ (i := 2) (N := some 22) (v := ?_) (a' := ?_) #[true, true, true, false, false, false, false, true, false, false, false, false, false, false, false] rfl rfl (any_of HT_.out (by kernel_rfl)) (fun _ _ _ h => h) (Or.inl ⟨by rfl, ?_⟩) ?_ ?_
                      rotate_left
                      · intro w'
                        go_simp
                        with_reducible rfl
                      rotate_left
                      · simp only [Act.put, List.setIfInBounds_toArray, List.set_cons_zero, List.set_cons_succ, i64_w, i32_w, u8_w, u32_w]
                        rfl
                      refine take_ (i := 3) (N := some 23) (v := ?_) (a' := ?_) #[true, true, true, true, false, false, false, true, false, false, false, false, false, false, false] rfl rfl (take_ofW HT_.out HW_.out (by kernel_rfl)) (fun _ _ _ h => h) (Or.inl ⟨by rfl, ?_⟩) hHeld ?_ ?_
                      rotate_left
                      · rintro w' ⟨s0, s1, s2, s3, s4, s5, s6, s7, s8⟩
                        go_simp
                        with_reducible rfl
                      rotate_left
                      · simp only [Act.put, List.setIfInBounds_toArray, List.set_cons_zero, List.set_cons_succ, i64_w, i32_w, u8_w, u32_w]
                        rfl
                      refine take_ (i := 8) (N := some 28) (v := ?_) (a' := ?_) #[true, true, true, true, false, false, false, true, true, false, false, false, false, false, false] rfl rfl (take_ofW HT_.out HW_.out (by kernel_rfl)) (fun _ _ _ h => h) (Or.inl ⟨by rfl, ?_⟩) hHeld ?_ ?_
                      rotate_left
                      · rintro w' ⟨s0, s1, s2, s3, s4, s5, s6, s7, s8⟩
                        go_simp
                        with_reducible rfl
                      rotate_left
                      · simp only [Act.put, List.setIfInBounds_toArray, List.set_cons_zero, List.set_cons_succ, i64_w, i32_w, u8_w, u32_w]
                        rfl
                      refine pure_ (i := 9) (N := some 29) (v := ?_) (a' := ?_) #[true, true, true, true, false, false, false, true, true, true, false, false, false, false, false] rfl rfl (any_of HT_.out (by kernel_rfl)) (fun _ _ _ h => h) (Or.inl ⟨by rfl, ?_⟩) ?_ ?_
                      rotate_left
                      · intro w'
                        go_simp
                        with_reducible rfl
                      rotate_left
                      · simp only [Act.put, List.setIfInBounds_toArray, List.set_cons_zero, List.set_cons_succ, i64_w, i32_w, u8_w, u32_w]
                        rfl
                      refine take_ (i := 10) (N := some 30) (v := ?_) (a' := ?_) #[true, true, true, true, false, false, false, true, true, true, true, false, false, false, false] rfl rfl (take_ofW HT_.out HW_.out (by kernel_rfl)) (fun _ _ _ h => h) (Or.inl ⟨by rfl, ?_⟩) hHeld ?_ ?_
                      rotate_left
                      · rintro w' ⟨s0, s1, s2, s3, s4, s5, s6, s7, s8⟩
                        go_simp
                        with_reducible rfl
                      rotate_left
                      · simp only [Act.put, List.setIfInBounds_toArray, List.set_cons_zero, List.set_cons_succ, i64_w, i32_w, u8_w, u32_w]
                        rfl
                      refine one_ (i := 4) (N := some 24) #[true, true, true, true, true, false, false, true, true, true, true, false, false, false, false] rfl rfl (one_of HT_.out (by kernel_rfl)) (by decide) (fun K hK => ?_)
                      refine goes_ Tryd.func13 (by kernel_rfl) rfl #[.agg #[.int .i64 ((rd_T36 l0_2 0).f0), .int .i64 ((rd_T36 l0_2 0).f1), .slice A103_2 ((rd_T36 l0_2 0).f2).length c103_2]] (by rfl) rfl rfl (by (try simp only [List.map_toArray, List.map_cons, List.map_nil]); first | done | rfl | (simp only [List.length_drop, List.length_take]; rfl)) ?_
                      with_reducible refine (ih kj6 (by have := HJ6.out; omega) ((rd_T36 l0_2 0).f0) ((rd_T36 l0_2 0).f1) _ _ ((rd_T36 l0_2 0).f2) t104 _ ?sideT ?side1 ?side2 A15.out).mono ?_
                      (case sideT => exact TabP.below HTB.out (by repeat (first | (with_reducible first | exact HB.out | apply below_alloc | apply pw_below_drewN | apply below_drew1 | refine below_set ?_ GE101.out) | exact HB.out)))
                      (case side1 => repeat (first | exact (Kd.C_below HR103_2.out HB.out) | (with_reducible refine Kd.C_alloc ?_ _) | (with_reducible refine Kd.C_drewN ?_ _) | (with_reducible refine Kd.C_drew ?_)))
                      (case side2 => exact HC103_2.out)
                      rintro e w23 ⟨rfl, hb⟩
                      refine ⟨_, rfl, ?_⟩
                      have n0_ := Aside0.mk (blk_below (g := gb101) (o := .cells #[.int .i64 a0_0, .int .i64 a0_1, .slice (some ad103) l0_2.length c0_2] 36 (0, 0)) (by (with_reducible repeat (first | refine blk_drewN ?_ _ | refine blk_drew ?_ | refine blk_alloc ?_ _)); exact BK101.out) hb)
                      have n1_ := Aside0.mk (below_step (by repeat (first | (with_reducible first | exact HB.out | apply below_alloc | apply pw_below_drewN | apply below_drew1 | refine below_set ?_ GE101.out) | exact HB.out)) hb)
                      clear BK101
                      clear HB
                      have BK101 := n0_
                      have HB := n1_
                      clear n0_ n1_
                      (try clear hb)
                      (try clear hb2)
                      (try clear hk)
                      (try clear hi)
                      refine hK.out _ _ ⟨(blk_cell BK101.out 0).trans rfl, (blk_cell BK101.out 1).trans rfl, (blk_cell BK101.out 2).trans rfl, ((HB.out.cell (World.block_lt_of_cell? w _ hw103_0)).trans hw103_0), ((HB.out.cell (World.block_lt_of_cell? w _ hw103_1)).trans hw103_1), ((HB.out.cell (World.block_lt_of_cell? w _ hw103_2)).trans hw103_2), ((HB.out.cell (World.block_lt_of_cell? w _ hw105_0)).trans hw105_0), ((HB.out.cell (World.block_lt_of_cell? w _ hw105_1)).trans hw105_1), ((HB.out.cell (World.block_lt_of_cell? w _ hw105_2)).trans hw105_2)⟩ (fun hHeld => ?_)
                      clear hK K
                      refine norm_ (a' := ?_) ?_ ?_
                      rotate_left
                      · show Act.put _ (some 24) _ = _
                        simp only [Act.put, List.setIfInBounds_toArray, List.set_cons_zero, List.set_cons_succ, i64_w, i32_w, u8_w, u32_w]
                        rfl
                      refine pure_ (i := 5) (N := some 25) (v := ?_) (a' := ?_) #[true, true, true, true, true, true, false, true, true, true, true, false, false, false, false] rfl rfl (any_of HT_.out (by kernel_rfl)) (fun _ _ _ h => h) (Or.inl ⟨by rfl, ?_⟩) ?_ ?_
                      rotate_left
                      · intro w'
                        go_simp
                        with_reducible rfl
                      rotate_left
                      · simp only [Act.put, List.setIfInBounds_toArray, List.set_cons_zero, List.set_cons_succ, i64_w, i32_w, u8_w, u32_w]
                        rfl
                      refine pure_ (i := 6) (N := some 26) (v := ?_) (a' := ?_) #[true, true, true, true, true, true, true, true, true, true, true, false, false, false, false] rfl rfl (any_of HT_.out (by kernel_rfl)) (fun _ _ _ h => h) (Or.inl ⟨by rfl, ?_⟩) ?_ ?_
                      rotate_left
                      · intro w'
                        go_simp
                        with_reducible rfl
                      rotate_left
                      · simp only [Act.put, List.setIfInBounds_toArray, List.set_cons_zero, List.set_cons_succ, i64_w, i32_w, u8_w, u32_w]
                        rfl
                      refine one_ (i := 11) (N := some 31) #[true, true, true, true, true, true, true, true, true, true, true, true, false, false, false] rfl rfl (one_of HT_.out (by kernel_rfl)) (by decide) (fun K hK => ?_)
                      refine goes_ Tryd.func13 (by kernel_rfl) rfl #[.agg #[.int .i64 ((rd_T36 l0_2 1).f0), .int .i64 ((rd_T36 l0_2 1).f1), .slice A105_2 ((rd_T36 l0_2 1).f2).length c105_2]] (by rfl) rfl rfl (by (try simp only [List.map_toArray, List.map_cons, List.map_nil]); first | done | rfl | (simp only [List.length_drop, List.length_take]; rfl)) ?_
                      with_reducible refine (ih kj6 (by have := HJ6.out; omega) ((rd_T36 l0_2 1).f0) ((rd_T36 l0_2 1).f1) _ _ ((rd_T36 l0_2 1).f2) t106 _ ?sideT ?side1 ?side2 A19.out).mono ?_
                      (case sideT => exact TabP.below HTB.out (by repeat (first | (with_reducible first | exact HB.out | apply below_alloc | apply pw_below_drewN | apply below_drew1 | refine below_set ?_ GE101.out) | exact HB.out)))
                      (case side1 => repeat (first | exact (Kd.C_below HR105_2.out HB.out) | (with_reducible refine Kd.C_alloc ?_ _) | (with_reducible refine Kd.C_drewN ?_ _) | (with_reducible refine Kd.C_drew ?_)))
                      (case side2 => exact HC105_2.out)
                      rintro e w24 ⟨rfl, hb⟩
                      refine ⟨_, rfl, ?_⟩
                      have n0_ := Aside0.mk (blk_below (g := gb101) (o := .cells #[.int .i64 a0_0, .int .i64 a0_1, .slice (some ad103) l0_2.length c0_2] 36 (0, 0)) (by (with_reducible repeat (first | refine blk_drewN ?_ _ | refine blk_drew ?_ | refine blk_alloc ?_ _)); exact BK101.out) hb)
                      have n1_ := Aside0.mk (below_step (by repeat (first | (with_reducible first | exact HB.out | apply below_alloc | apply pw_below_drewN | apply below_drew1 | refine below_set ?_ GE101.out) | exact HB.out)) hb)
                      clear BK101
                      clear HB
                      have BK101 := n0_
                      have HB := n1_
                      clear n0_ n1_
                      (try clear hb)
                      (try clear hb2)
                      (try clear hk)
                      (try clear hi)
                      refine hK.out _ _ ⟨(blk_cell BK101.out 0).trans rfl, (blk_cell BK101.out 1).trans rfl, (blk_cell BK101.out 2).trans rfl, ((HB.out.cell (World.block_lt_of_cell? w _ hw103_0)).trans hw103_0), ((HB.out.cell (World.block_lt_of_cell? w _ hw103_1)).trans hw103_1), ((HB.out.cell (World.block_lt_of_cell? w _ hw103_2)).trans hw103_2), ((HB.out.cell (World.block_lt_of_cell? w _ hw105_0)).trans hw105_0), ((HB.out.cell (World.block_lt_of_cell? w _ hw105_1)).trans hw105_1), ((HB.out.cell (World.block_lt_of_cell? w _ hw105_2)).trans hw105_2)⟩ (fun hHeld => ?_)
                      clear hK K
                      refine norm_ (a' := ?_) ?_ ?_
                      rotate_left
                      · show Act.put _ (some 31) _ = _
                        simp only [Act.put, List.setIfInBounds_toArray, List.set_cons_zero, List.set_cons_succ, i64_w, i32_w, u8_w, u32_w]
                        rfl
                      refine pure_ (i := 12) (N := some 32) (v := ?_) (a' := ?_) #[true, true, true, true, true, true, true, true, true, true, true, true, true, false, false] rfl rfl (any_of HT_.out (by kernel_rfl)) (fun _ _ _ h => h) (Or.inl ⟨by rfl, ?_⟩) ?_ ?_
                      rotate_left
                      · intro w'
                        go_simp
                        with_reducible rfl
                      rotate_left
                      · simp only [Act.put, List.setIfInBounds_toArray, List.set_cons_zero, List.set_cons_succ, i64_w, i32_w, u8_w, u32_w]
                        rfl
                      refine pure_ (i := 13) (N := some 33) (v := ?_) (a' := ?_) #[true, true, true, true, true, true, true, true, true, true, true, true, true, true, false] rfl rfl (any_of HT_.out (by kernel_rfl)) (fun _ _ _ h => h) (Or.inl ⟨by rfl, ?_⟩) ?_ ?_
                      rotate_left
                      · intro w'
                        go_simp
                        with_reducible rfl
                      rotate_left
                      · simp only [Act.put, List.setIfInBounds_toArray, List.set_cons_zero, List.set_cons_succ, i64_w, i32_w, u8_w, u32_w]
                        rfl
                      refine pure_ (i := 14) (N := some 2) (v := ?_) (a' := ?_) #[true, true, true, true, true, true, true, true, true, true, true, true, true, true, true] rfl rfl (any_of HT_.out (by kernel_rfl)) (fun _ _ _ h => h) (Or.inl ⟨by rfl, ?_⟩) ?_ ?_
                      rotate_left
                      · intro w'
                        go_simp
                        with_reducible rfl
                      rotate_left
                      · simp only [Act.put, List.setIfInBounds_toArray, List.set_cons_zero, List.set_cons_succ, i64_w, i32_w, u8_w, u32_w]
                        rfl
                      refine done_ (done_of HT_.out (by kernel_rfl)) ?_
                      try go_wp2
                      go_ret
                      exact ⟨by first | rfl | (simp [errW_none, errW_some] <;> rfl) | (simp [*, errW_none, errW_some] <;> rfl), by repeat (first | (with_reducible first | exact HB.out | apply below_alloc | apply pw_below_drewN | apply below_drew1 | refine below_set ?_ GE101.out) | exact HB.out)⟩
                    · rw [if_neg c21] at H
                      exact absurd H (by simp)
                  · rw [if_neg c20] at H
                    exact absurd H (by simp)
                · rw [if_neg c18] at H
                  exact absurd H (by simp)
              · rw [if_neg c17] at H
                exact absurd H (by simp)
            · rw [if_neg c16] at H
              exact absurd H (by simp)
          · rw [if_neg c14] at H
            exact absurd H (by simp)
        · replace c13 := Bool.eq_false_iff.mpr c13
          subst c13
          have H1 : (some (⟨#[102, 110]⟩ : ByteArray)) = some r := by rw [if_neg (show ¬ (false = true) by decide)] at H; exact H
          clear H
          have H := H1
          clear H1
          obtain rfl := Option.some.inj H
          go_wp2
          go_ret
          exact ⟨by first | rfl | (simp [errW_none, errW_some] <;> rfl) | (simp [*, errW_none, errW_some] <;> rfl), by repeat (first | (with_reducible first | exact HB.out | apply below_alloc | apply pw_below_drewN | apply below_drew1 | refine below_set ?_ GE101.out) | exact HB.out)⟩
end Go.Proofs.YtnecmclnokikoaaDoor.P
/- RunTexts: its walk (by hand; genrt.py). -/
namespace Go.Proofs.YtnecmclnokikoaaDoor.P
open Go.RowKit Go.Proofs.YtnecmclnokikoaaDoorW.PrintWords Go.Proofs.YtnecmclnokikoaaDoorW.PrintLast Go.Proofs.YtnecmclnokikoaaDoorW.PrintMore
attribute [local go_sem] max2_int min2_int max_two min_two max_three min_three max_four min_four
set_option linter.unusedVariables false
set_option linter.unusedSimpArgs false
/-- Within RunTexts: the value's box, the raw term's. -/
structure RF (w0 w : World) (g4 g5 : Nat) (v0 v1 : Int) (A : Option Addr) (n c : Nat) (q0 q1 : Int) (Aq : Option Addr) (nq cq : Nat) : Prop where
  K4 : w.heap[g4]? = some (.cells #[.int .i64 v0, .int .i64 v1, .slice A n c] 36 (0, 0))
  K5 : w.heap[g5]? = some (.cells #[.int .i64 q0, .int .i64 q1, .slice Aq nq cq] 24 (0, 0))
  B : Below w0.heap.size w0 w
theorem RF.below {w0 w w' : World} {g4 g5 : Nat} {v0 v1 q0 q1 : Int} {A Aq : Option Addr} {n c nq cq : Nat} (h : RF w0 w g4 g5 v0 v1 A n c q0 q1 Aq nq cq) (hb : Below w.heap.size w w') : RF w0 w' g4 g5 v0 v1 A n c q0 q1 Aq nq cq :=
  ⟨blk_below h.K4 hb, blk_below h.K5 hb, below_step h.B hb⟩
set_option maxHeartbeats 8000000 in
set_option maxRecDepth 100000 in
theorem runTexts_few (kk : Nat) (v : S36) (A : Option Addr) (c : Nat) (q : S24) (Aq : Option Addr) (cq : Nat) (An : Option Addr) (cn : Nat) (ns : List Int) (n : Int) (w : World) (hT : TabP w)
    (hc : v.f2.length ≤ c) (hC : Kd.C k36 w A v.f2.length v.f2) (hcq : q.f2.length ≤ cq) (hCq : Kd.C k24 w Aq q.f2.length q.f2) (hcn : ns.length ≤ cn) (hCn : Kd.C (Kd.int .i64) w An ns.length ns) (hk : thyrsuslaw12_known.f kk = some true)
    (hf : thyrsuslaw1_Few.f kk q.f0 q.f1 q.f2 = some false) :
    Calls Tryd.prog 4 #[.agg #[.int .i64 v.f0, .int .i64 v.f1, .slice A v.f2.length c], .agg #[.int .i64 q.f0, .int .i64 q.f1, .slice Aq q.f2.length cq], .slice An ns.length cn, .int .i64 n] w fun e w' => e = .returned (.bool true) ∧ Below w.heap.size w w' := by
  have hu24 := Tryd.underlying24
  have hu36 := Tryd.underlying36
  have HTB := Aside0.mk hT
  have HCV := Aside0.mk hc
  have HCv := Aside0.mk hC
  have HCQ := Aside0.mk hcq
  have HCq := Aside0.mk hCq
  have HCN := Aside0.mk hcn
  have HCn := Aside0.mk hCn
  have HK := Aside0.mk hk
  clear hT hc hC hcq hCq hcn hCn hk
  have HF := Aside0.mk hf
  clear hf
  go_enter Tryd.func4, Tryd.ntmps4
  go_wp2_with (first | ((with_reducible refine gate_dst (N := 4) rfl ?_); refine box_event ?hg (N := 4) ?hd (cs := #[.int .i64 v.f0, .int .i64 v.f1, .slice A v.f2.length c]) (t := 36) ?hr ?_; (case hd => rfl); (case hg => rfl); (case hr => first | (go_simp; done) | (go_simp; rfl)); intro g4 hg4 w1 hbox hb; have KB := Aside0.mk hbox; have HB := Aside0.mk hb; clear hbox hb hg4) | ((with_reducible refine gate_dst (N := 5) rfl ?_); refine box_event ?hg (N := 5) ?hd (cs := #[.int .i64 q.f0, .int .i64 q.f1, .slice Aq q.f2.length cq]) (t := 24) ?hr ?_; (case hd => rfl); (case hg => rfl); (case hr => first | (go_simp; done) | (go_simp; rfl)); intro g5 hg5 w2 hbox hb; have J0 : Aside0 (RF w w2 g4 g5 v.f0 v.f1 A v.f2.length c q.f0 q.f1 Aq q.f2.length cq) := ⟨⟨blk_below KB.out hb, hbox, below_step HB.out hb⟩⟩; clear hbox hb hg5 HB KB) | ((with_reducible refine gate_callee (f := 6) rfl ?_); refine goesL_ (some 10) rfl rfl Tryd.func6 (by kernel_rfl) rfl #[] rfl (by (try simp only [List.map_toArray, List.map_cons, List.map_nil]); first | done | rfl | (simp only [List.length_drop, List.length_take]; rfl)) ?_; refine (thyrsuslaw12_known.calls kk true _ HK.out).mono ?_; rintro e w3 ⟨rfl, hb⟩; refine ⟨_, rfl, ?_⟩; have J1 := Aside0.mk (J0.out.below hb); clear hb J0; have hcg50 : w3.cell? ⟨g5, 0, none⟩ = some (.int .i64 q.f0) := (blk_cell J1.out.K5 0).trans rfl; have hcg51 : w3.cell? ⟨g5, 1, none⟩ = some (.int .i64 q.f1) := (blk_cell J1.out.K5 1).trans rfl; have hcg52 : w3.cell? ⟨g5, 2, none⟩ = some (.slice Aq q.f2.length cq) := (blk_cell J1.out.K5 2).trans rfl) | (go_at_call 7; refine (thyrsuslaw1_Few.calls kk q.f0 q.f1 Aq cq q.f2 false _ (Kd.C_below HCq.out J1.out.B) HCQ.out HF.out).mono ?_; rintro e w4 ⟨rfl, hb⟩; have J2 := Aside0.mk (J1.out.below hb); clear hb J1 hcg50 hcg51 hcg52; have hcg40 : w4.cell? ⟨g4, 0, none⟩ = some (.int .i64 v.f0) := (blk_cell J2.out.K4 0).trans rfl; have hcg41 : w4.cell? ⟨g4, 1, none⟩ = some (.int .i64 v.f1) := (blk_cell J2.out.K4 1).trans rfl; have hcg42 : w4.cell? ⟨g4, 2, none⟩ = some (.slice A v.f2.length c) := (blk_cell J2.out.K4 2).trans rfl))
  go_ret
  exact ⟨rfl, J2.out.B⟩
set_option maxHeartbeats 8000000 in
set_option maxRecDepth 100000 in
theorem runTexts_big (kk : Nat) (v : S36) (A : Option Addr) (c : Nat) (q : S24) (Aq : Option Addr) (cq : Nat) (An : Option Addr) (cn : Nat) (ns : List Int) (n : Int) (w : World) (hT : TabP w)
    (hc : v.f2.length ≤ c) (hC : Kd.C k36 w A v.f2.length v.f2) (hcq : q.f2.length ≤ cq) (hCq : Kd.C k24 w Aq q.f2.length q.f2) (hcn : ns.length ≤ cn) (hCn : Kd.C (Kd.int .i64) w An ns.length ns) (hk : thyrsuslaw12_known.f kk = some true)
    (sz : Int) (hf : thyrsuslaw1_Few.f kk q.f0 q.f1 q.f2 = some true) (hs : thyrsuslaw12_size.f kk v.f0 v.f1 v.f2 = some sz) (hz : sz > 300) :
    Calls Tryd.prog 4 #[.agg #[.int .i64 v.f0, .int .i64 v.f1, .slice A v.f2.length c], .agg #[.int .i64 q.f0, .int .i64 q.f1, .slice Aq q.f2.length cq], .slice An ns.length cn, .int .i64 n] w fun e w' => e = .returned (.bool true) ∧ Below w.heap.size w w' := by
  have hu24 := Tryd.underlying24
  have hu36 := Tryd.underlying36
  have HTB := Aside0.mk hT
  have HCV := Aside0.mk hc
  have HCv := Aside0.mk hC
  have HCQ := Aside0.mk hcq
  have HCq := Aside0.mk hCq
  have HCN := Aside0.mk hcn
  have HCn := Aside0.mk hCn
  have HK := Aside0.mk hk
  clear hT hc hC hcq hCq hcn hCn hk
  have HF := Aside0.mk hf
  have HS := Aside0.mk hs
  have g1 : (300 < sz) = True := eq_true hz
  have g2 : decide (300 < sz) = true := decide_eq_true hz
  clear hf hs hz
  go_enter Tryd.func4, Tryd.ntmps4
  go_wp2_with (first | ((with_reducible refine gate_dst (N := 4) rfl ?_); refine box_event ?hg (N := 4) ?hd (cs := #[.int .i64 v.f0, .int .i64 v.f1, .slice A v.f2.length c]) (t := 36) ?hr ?_; (case hd => rfl); (case hg => rfl); (case hr => first | (go_simp; done) | (go_simp; rfl)); intro g4 hg4 w1 hbox hb; have KB := Aside0.mk hbox; have HB := Aside0.mk hb; clear hbox hb hg4) | ((with_reducible refine gate_dst (N := 5) rfl ?_); refine box_event ?hg (N := 5) ?hd (cs := #[.int .i64 q.f0, .int .i64 q.f1, .slice Aq q.f2.length cq]) (t := 24) ?hr ?_; (case hd => rfl); (case hg => rfl); (case hr => first | (go_simp; done) | (go_simp; rfl)); intro g5 hg5 w2 hbox hb; have J0 : Aside0 (RF w w2 g4 g5 v.f0 v.f1 A v.f2.length c q.f0 q.f1 Aq q.f2.length cq) := ⟨⟨blk_below KB.out hb, hbox, below_step HB.out hb⟩⟩; clear hbox hb hg5 HB KB) | ((with_reducible refine gate_callee (f := 6) rfl ?_); refine goesL_ (some 10) rfl rfl Tryd.func6 (by kernel_rfl) rfl #[] rfl (by (try simp only [List.map_toArray, List.map_cons, List.map_nil]); first | done | rfl | (simp only [List.length_drop, List.length_take]; rfl)) ?_; refine (thyrsuslaw12_known.calls kk true _ HK.out).mono ?_; rintro e w3 ⟨rfl, hb⟩; refine ⟨_, rfl, ?_⟩; have J1 := Aside0.mk (J0.out.below hb); clear hb J0; have hcg50 : w3.cell? ⟨g5, 0, none⟩ = some (.int .i64 q.f0) := (blk_cell J1.out.K5 0).trans rfl; have hcg51 : w3.cell? ⟨g5, 1, none⟩ = some (.int .i64 q.f1) := (blk_cell J1.out.K5 1).trans rfl; have hcg52 : w3.cell? ⟨g5, 2, none⟩ = some (.slice Aq q.f2.length cq) := (blk_cell J1.out.K5 2).trans rfl) | (go_at_call 7; refine (thyrsuslaw1_Few.calls kk q.f0 q.f1 Aq cq q.f2 true _ (Kd.C_below HCq.out J1.out.B) HCQ.out HF.out).mono ?_; rintro e w4 ⟨rfl, hb⟩; have J2 := Aside0.mk (J1.out.below hb); clear hb J1 hcg50 hcg51 hcg52; have hcg40 : w4.cell? ⟨g4, 0, none⟩ = some (.int .i64 v.f0) := (blk_cell J2.out.K4 0).trans rfl; have hcg41 : w4.cell? ⟨g4, 1, none⟩ = some (.int .i64 v.f1) := (blk_cell J2.out.K4 1).trans rfl; have hcg42 : w4.cell? ⟨g4, 2, none⟩ = some (.slice A v.f2.length c) := (blk_cell J2.out.K4 2).trans rfl) | (go_at_call 16; refine (thyrsuslaw12_size.calls kk v.f0 v.f1 A c v.f2 sz _ (Kd.C_below HCv.out J2.out.B) HCV.out HS.out).mono ?_; rintro e w5 ⟨rfl, hb⟩; have J3 := Aside0.mk (J2.out.below hb); clear hb J2 hcg40 hcg41 hcg42))
  go_ret
  exact ⟨rfl, J3.out.B⟩
def runTexts6.T6 : Bool × List (List Nat × List Nat) := (true, [([], []), ([0], [0]), ([], []), ([2, 1], [2]), ([1, 3], [1, 3]), ([4, 3], [4]), ([5], [5]), ([6, 5, 5], [5, 6]), ([5], [5]), ([8, 7, 5], [5, 8]), ([7, 9, 5], [5, 7, 9]), ([5, 10], [5, 10]), ([11, 9], [11]), ([12], [12]), ([13, 12], [12, 13]), ([14, 12, 12], [12, 14]), ([12], [12]), ([16, 15, 12], [12, 16]), ([15, 17, 12], [12, 15, 17]), ([12, 18], [12, 18]), ([19, 17, 0, 1, 2, 3, 4, 5, 6, 7, 8, 9, 10, 11, 12, 13, 14, 15, 16, 17, 18, 19], [19])])
def runTexts6.B6 : List Nat := [0, 1, 0, 7, 15, 31, 63, 127, 63, 511, 1023, 2047, 4095, 8191, 16383, 32767, 8191, 131071, 262143, 524287, 1048575]
theorem runTexts6.tab6 : rtab .any (opsOf Tryd.f4 6) = runTexts6.T6 := by kernel_rfl
theorem runTexts6.bits6 : waitsOk runTexts6.T6.2 runTexts6.B6 = true := by kernel_rfl
set_option maxHeartbeats 8000000 in
set_option maxRecDepth 100000 in
theorem runTexts_main (kk : Nat) (v : S36) (A : Option Addr) (c : Nat) (q : S24) (Aq : Option Addr) (cq : Nat) (An : Option Addr) (cn : Nat) (ns : List Int) (n : Int) (w : World) (hT : TabP w)
    (hc : v.f2.length ≤ c) (hC : Kd.C k36 w A v.f2.length v.f2) (hcq : q.f2.length ≤ cq) (hCq : Kd.C k24 w Aq q.f2.length q.f2) (hcn : ns.length ≤ cn) (hCn : Kd.C (Kd.int .i64) w An ns.length ns) (hk : thyrsuslaw12_known.f kk = some true)
    (sz : Int) (hf : thyrsuslaw1_Few.f kk q.f0 q.f1 q.f2 = some true) (hs : thyrsuslaw12_size.f kk v.f0 v.f1 v.f2 = some sz) (hz : ¬ sz > 300) (bv bn : ByteArray) (hv1 : run_Text.f kk v.f0 v.f1 v.f2 = some bv) (hv2 : thyrsusref12_Text.f kk v.f0 v.f1 v.f2 = some bv) (hn1 : run_Text.f kk 1 n [] = some bn) (hn2 : thyrsusref3_Digits.f kk n = some bn)
    (hV : ∀ t, Ty 4 t → ∃ (kx : Nat) (x : S36), thyrsuslaw11_Val.f kx t.f0 t.f1 t.f2 ns 0 = some (x.f0, x.f1, x.f2) ∧ ∃ b, run_Text.f kx x.f0 x.f1 x.f2 = some b ∧ thyrsusref12_Text.f kx x.f0 x.f1 x.f2 = some b) :
    Calls Tryd.prog 4 #[.agg #[.int .i64 v.f0, .int .i64 v.f1, .slice A v.f2.length c], .agg #[.int .i64 q.f0, .int .i64 q.f1, .slice Aq q.f2.length cq], .slice An ns.length cn, .int .i64 n] w fun e w' => e = .returned (.bool true) ∧ Below w.heap.size w w' := by
  have hu24 := Tryd.underlying24
  have hu36 := Tryd.underlying36
  have HTB := Aside0.mk hT
  have HCV := Aside0.mk hc
  have HCv := Aside0.mk hC
  have HCQ := Aside0.mk hcq
  have HCq := Aside0.mk hCq
  have HCN := Aside0.mk hcn
  have HCn := Aside0.mk hCn
  have HK := Aside0.mk hk
  clear hT hc hC hcq hCq hcn hCn hk
  have HF := Aside0.mk hf
  have HS := Aside0.mk hs
  have g1 : (300 < sz) = False := eq_false hz
  have g2 : decide (300 < sz) = false := decide_eq_false hz
  have Y1 := Aside0.mk hv1
  have Y2 := Aside0.mk hv2
  have Y3 := Aside0.mk hn1
  have Y4 := Aside0.mk hn2
  have HV := Aside0.mk hV
  clear hf hs hz hv1 hv2 hn1 hn2 hV
  go_enter Tryd.func4, Tryd.ntmps4
  go_upto_region 6 with (first | ((with_reducible refine gate_dst (N := 4) rfl ?_); refine box_event ?hg (N := 4) ?hd (cs := #[.int .i64 v.f0, .int .i64 v.f1, .slice A v.f2.length c]) (t := 36) ?hr ?_; (case hd => rfl); (case hg => rfl); (case hr => first | (go_simp; done) | (go_simp; rfl)); intro g4 hg4 w1 hbox hb; have KB := Aside0.mk hbox; have HB := Aside0.mk hb; clear hbox hb hg4) | ((with_reducible refine gate_dst (N := 5) rfl ?_); refine box_event ?hg (N := 5) ?hd (cs := #[.int .i64 q.f0, .int .i64 q.f1, .slice Aq q.f2.length cq]) (t := 24) ?hr ?_; (case hd => rfl); (case hg => rfl); (case hr => first | (go_simp; done) | (go_simp; rfl)); intro g5 hg5 w2 hbox hb; have J0 : Aside0 (RF w w2 g4 g5 v.f0 v.f1 A v.f2.length c q.f0 q.f1 Aq q.f2.length cq) := ⟨⟨blk_below KB.out hb, hbox, below_step HB.out hb⟩⟩; clear hbox hb hg5 HB KB) | ((with_reducible refine gate_callee (f := 6) rfl ?_); refine goesL_ (some 10) rfl rfl Tryd.func6 (by kernel_rfl) rfl #[] rfl (by (try simp only [List.map_toArray, List.map_cons, List.map_nil]); first | done | rfl | (simp only [List.length_drop, List.length_take]; rfl)) ?_; refine (thyrsuslaw12_known.calls kk true _ HK.out).mono ?_; rintro e w3 ⟨rfl, hb⟩; refine ⟨_, rfl, ?_⟩; have J1 := Aside0.mk (J0.out.below hb); clear hb J0; have hcg50 : w3.cell? ⟨g5, 0, none⟩ = some (.int .i64 q.f0) := (blk_cell J1.out.K5 0).trans rfl; have hcg51 : w3.cell? ⟨g5, 1, none⟩ = some (.int .i64 q.f1) := (blk_cell J1.out.K5 1).trans rfl; have hcg52 : w3.cell? ⟨g5, 2, none⟩ = some (.slice Aq q.f2.length cq) := (blk_cell J1.out.K5 2).trans rfl) | (go_at_call 7; refine (thyrsuslaw1_Few.calls kk q.f0 q.f1 Aq cq q.f2 true _ (Kd.C_below HCq.out J1.out.B) HCQ.out HF.out).mono ?_; rintro e w4 ⟨rfl, hb⟩; have J2 := Aside0.mk (J1.out.below hb); clear hb J1 hcg50 hcg51 hcg52; have hcg40 : w4.cell? ⟨g4, 0, none⟩ = some (.int .i64 v.f0) := (blk_cell J2.out.K4 0).trans rfl; have hcg41 : w4.cell? ⟨g4, 1, none⟩ = some (.int .i64 v.f1) := (blk_cell J2.out.K4 1).trans rfl; have hcg42 : w4.cell? ⟨g4, 2, none⟩ = some (.slice A v.f2.length c) := (blk_cell J2.out.K4 2).trans rfl) | (go_at_call 16; refine (thyrsuslaw12_size.calls kk v.f0 v.f1 A c v.f2 sz _ (Kd.C_below HCv.out J2.out.B) HCV.out HS.out).mono ?_; rintro e w5 ⟨rfl, hb⟩; have J3 := Aside0.mk (J2.out.below hb); clear hb J2 hcg40 hcg41 hcg42; have hdg50 : w5.cell? ⟨g5, 0, none⟩ = some (.int .i64 q.f0) := (blk_cell J3.out.K5 0).trans rfl; have hdg51 : w5.cell? ⟨g5, 1, none⟩ = some (.int .i64 q.f1) := (blk_cell J3.out.K5 1).trans rfl; have hdg52 : w5.cell? ⟨g5, 2, none⟩ = some (.slice Aq q.f2.length cq) := (blk_cell J3.out.K5 2).trans rfl) | (go_at_call 18; refine (plain_go 4 (by decide) (fun _ => False) q.f0 q.f1 (.slice Aq q.f2.length cq) q.f2 _ (fun _ h => h.elim) (c24_V HCQ.out (Kd.C_below HCq.out J3.out.B) 0)).mono ?_; rintro e w6 ⟨t, vt, hty, rfl, htv, hb⟩; have J4 := Aside0.mk (J3.out.below hb); obtain ⟨At, ct, rfl⟩ := Kd.V_slice htv; have TT := Aside0.mk htv; obtain ⟨kx, x, hx, bx, hb1, hb2⟩ := HV.out t hty; have X1 := Aside0.mk hx; have X2 := Aside0.mk hb1; have X3 := Aside0.mk hb2; clear hb J3 hdg50 hdg51 hdg52 hty htv hx hb1 hb2) | (go_at_call 17; refine (thyrsuslaw11_Val.calls kx t.f0 t.f1 At ct t.f2 An cn ns 0 x.f0 x.f1 x.f2 _ (Kd.V_reads' TT.out).2.2 (Kd.V_reads' TT.out).2.1 (Kd.C_below HCn.out J4.out.B) HCN.out X1.out).mono ?_; rintro e w7 ⟨vx, rfl, hN, hb⟩; have J5 := Aside0.mk (J4.out.below hb); obtain ⟨Ax, cx, rfl⟩ := Kd.N_slice hN; have XR := Aside0.mk (Kd.V_reads' (Kd.N_V (base' := 0) hN)); clear hb J4 TT hN) | ((with_reducible refine gate_dst (N := 9) rfl ?_); refine box_event ?hg (N := 9) ?hd (cs := #[.int .i64 0, .int .i64 0, .slice none 0 0]) (t := 36) ?hr ?_; (case hd => rfl); (case hg => rfl); (case hr => first | (go_simp; done) | (go_simp; rfl)); intro g9 hg9 w8 hbox hb; have KB9 := Aside0.mk hbox; have J6 := Aside0.mk (J5.out.below hb); have B7 := Aside0.mk hb; have G9 := Aside0.mk hg9; have hs0 : w8.cell? ⟨g9, 0, none⟩ = some (.int .i64 0) := (blk_cell KB9.out 0).trans rfl; have hs1 : w8.cell? ⟨g9, 1, none⟩ = some (.int .i64 0) := (blk_cell KB9.out 1).trans rfl; have hs2 : w8.cell? ⟨g9, 2, none⟩ = some (.slice none 0 0) := (blk_cell KB9.out 2).trans rfl; have hf0 := blk_frozen KB9.out 0; have hf1 := blk_frozen KB9.out 1; have hf2 := blk_frozen KB9.out 2; clear hbox hb hg9) | ((with_reducible refine gate_store (t := 36) (p := 9) rfl ?_); refine store_event (t := 36) (p := 9) (v := ?vo) (w1 := (((w8.setCell ⟨g9, 0, none⟩ (.int .i64 x.f0)).setCell ⟨g9, 1, none⟩ (.int .i64 x.f1)).setCell ⟨g9, 2, none⟩ (.slice Ax x.f2.length cx))) ?hg ?ho ?hn ?hr ?_; (case ho => rfl); (case hg => rfl); (case hn => rfl); (case hr => first | (go_simp; done) | (go_simp; rfl)); intro w9 hw; have K9 : Aside0 (w9.heap[g9]? = some (.cells #[.int .i64 x.f0, .int .i64 x.f1, (.slice Ax x.f2.length cx)] 36 (0, 0))) := ⟨by rw [hw]; exact blk_set3 KB9.out rfl _ _ _⟩; have B9 : Aside0 (Below w7.heap.size w7 w9) := ⟨by rw [hw]; exact below_set3 B7.out (Nat.le_of_eq G9.out.symm) _ _ _⟩; have J7 := Aside0.mk (J5.out.below B9.out); clear hw hs0 hs1 hs2 hf0 hf1 hf2 J6 B7 G9 KB9 J5))
  (try simp only [Act.put, List.setIfInBounds_toArray, List.set_cons_zero, List.set_cons_succ])
  refine start_ (n := 21) (S := (fun w' => w'.cell? ⟨g4, 0, none⟩ = some (.int .i64 v.f0) ∧ w'.cell? ⟨g4, 1, none⟩ = some (.int .i64 v.f1) ∧ w'.cell? ⟨g4, 2, none⟩ = some (.slice A v.f2.length c) ∧ w'.cell? ⟨g9, 0, none⟩ = some (.int .i64 x.f0) ∧ w'.cell? ⟨g9, 1, none⟩ = some (.int .i64 x.f1) ∧ w'.cell? ⟨g9, 2, none⟩ = some (.slice Ax x.f2.length cx))) (ds := []) #[false, false, false, false, false, false, false, false, false, false, false, false, false, false, false, false, false, false, false, false, false] (by kernel_rfl) rfl rfl ⟨(blk_cell (J7.out.below (w' := w9.drew) (below_drew1 (Below.refl _ _))).K4 0).trans rfl, (blk_cell (J7.out.below (w' := w9.drew) (below_drew1 (Below.refl _ _))).K4 1).trans rfl, (blk_cell (J7.out.below (w' := w9.drew) (below_drew1 (Below.refl _ _))).K4 2).trans rfl, (blk_cell (blk_drew K9.out) 0).trans rfl, (blk_cell (blk_drew K9.out) 1).trans rfl, (blk_cell (blk_drew K9.out) 2).trans rfl⟩ (fun hHeld => ?_)
  refine with_tabW runTexts6.tab6 runTexts6.bits6 (fun HT_ HW_ => ?_)
  have L0 := Aside0.mk (J7.out.below (w' := w9.drew) (below_drew1 (Below.refl _ _)))
  have M0 := Aside0.mk (blk_drew K9.out)
  have B0 := Aside0.mk (below_drew1 B9.out)
  clear J7 K9 B9
  generalize w9.drew = v0 at L0 M0 B0 hHeld ⊢
  refine take_ (i := 0) (N := (some 24)) (v := ?_) (a' := ?_) #[true, false, false, false, false, false, false, false, false, false, false, false, false, false, false, false, false, false, false, false, false] rfl rfl (take_ofW HT_.out HW_.out (by kernel_rfl)) (fun _ _ _ h => h) (Or.inl ⟨by rfl, ?_⟩) hHeld ?_ ?_
  rotate_left
  · rintro w' ⟨s0, s1, s2, s3, s4, s5⟩
    go_simp
    try with_reducible rfl
  rotate_left
  · simp only [Act.put, List.setIfInBounds_toArray, List.set_cons_zero, List.set_cons_succ, i64_w, i32_w, u8_w, u32_w]
    rfl
  refine take_ (i := 2) (N := (some 26)) (v := ?_) (a' := ?_) #[true, false, true, false, false, false, false, false, false, false, false, false, false, false, false, false, false, false, false, false, false] rfl rfl (take_ofW HT_.out HW_.out (by kernel_rfl)) (fun _ _ _ h => h) (Or.inl ⟨by rfl, ?_⟩) hHeld ?_ ?_
  rotate_left
  · rintro w' ⟨s0, s1, s2, s3, s4, s5⟩
    go_simp
    try with_reducible rfl
  rotate_left
  · simp only [Act.put, List.setIfInBounds_toArray, List.set_cons_zero, List.set_cons_succ, i64_w, i32_w, u8_w, u32_w]
    rfl
  refine one_ (i := 1) (N := (some 25)) #[true, true, true, false, false, false, false, false, false, false, false, false, false, false, false, false, false, false, false, false, false] rfl rfl (one_of HT_.out (by kernel_rfl)) (by decide) (fun K hK => ?_)
  refine goes_ Tryd.func13 (by kernel_rfl) rfl #[.agg #[.int .i64 v.f0, .int .i64 v.f1, .slice A v.f2.length c]] (by rfl) rfl rfl (by (try simp only [List.map_toArray, List.map_cons, List.map_nil]); first | done | rfl | (simp only [List.length_drop, List.length_take]; rfl)) ?_
  refine (run_Text.calls kk v.f0 v.f1 A c v.f2 bv _ (HTB.out.below L0.out.B) (Kd.C_below HCv.out L0.out.B) HCV.out Y1.out).mono ?_
  rintro e v1 ⟨rfl, hb⟩
  refine ⟨_, rfl, ?_⟩
  have L1 := Aside0.mk (L0.out.below hb)
  have M1 := Aside0.mk (blk_below M0.out hb)
  have B1 := Aside0.mk (below_step B0.out hb)
  clear hb L0 M0 B0
  refine hK.out _ _ ⟨(blk_cell L1.out.K4 0).trans rfl, (blk_cell L1.out.K4 1).trans rfl, (blk_cell L1.out.K4 2).trans rfl, (blk_cell M1.out 0).trans rfl, (blk_cell M1.out 1).trans rfl, (blk_cell M1.out 2).trans rfl⟩ (fun hHeld => ?_)
  clear hK K
  refine norm_ (a' := ?_) ?_ ?_
  rotate_left
  · show Act.put _ (some 25) _ = _
    simp only [Act.put, List.setIfInBounds_toArray, List.set_cons_zero, List.set_cons_succ, i64_w, i32_w, u8_w, u32_w]
    rfl
  refine one_ (i := 3) (N := (some 27)) #[true, true, true, true, false, false, false, false, false, false, false, false, false, false, false, false, false, false, false, false, false] rfl rfl (one_of HT_.out (by kernel_rfl)) (by decide) (fun K hK => ?_)
  refine goes_ Tryd.func14 (by kernel_rfl) rfl #[.agg #[.int .i64 v.f0, .int .i64 v.f1, .slice A v.f2.length c]] (by rfl) rfl rfl (by (try simp only [List.map_toArray, List.map_cons, List.map_nil]); first | done | rfl | (simp only [List.length_drop, List.length_take]; rfl)) ?_
  refine (thyrsusref12_Text.calls kk v.f0 v.f1 A c v.f2 bv _ (Kd.C_below HCv.out L1.out.B) HCV.out Y2.out).mono ?_
  rintro e v2 ⟨rfl, hb⟩
  refine ⟨_, rfl, ?_⟩
  have L2 := Aside0.mk (L1.out.below hb)
  have M2 := Aside0.mk (blk_below M1.out hb)
  have B2 := Aside0.mk (below_step B1.out hb)
  clear hb L1 M1 B1
  refine hK.out _ _ ⟨(blk_cell L2.out.K4 0).trans rfl, (blk_cell L2.out.K4 1).trans rfl, (blk_cell L2.out.K4 2).trans rfl, (blk_cell M2.out 0).trans rfl, (blk_cell M2.out 1).trans rfl, (blk_cell M2.out 2).trans rfl⟩ (fun hHeld => ?_)
  clear hK K
  refine norm_ (a' := ?_) ?_ ?_
  rotate_left
  · show Act.put _ (some 27) _ = _
    simp only [Act.put, List.setIfInBounds_toArray, List.set_cons_zero, List.set_cons_succ, i64_w, i32_w, u8_w, u32_w]
    rfl
  refine pure_ (i := 4) (N := (some 28)) (v := ?_) (a' := ?_) #[true, true, true, true, true, false, false, false, false, false, false, false, false, false, false, false, false, false, false, false, false] rfl rfl (any_of HT_.out (by kernel_rfl)) (fun _ _ _ h => h) (Or.inl ⟨by rfl, ?_⟩) ?_ ?_
  rotate_left
  · intro w'
    go_simp
    try with_reducible rfl
  rotate_left
  · simp only [Act.put, List.setIfInBounds_toArray, List.set_cons_zero, List.set_cons_succ, i64_w, i32_w, u8_w, u32_w]
    rfl
  refine pure_ (i := 5) (N := (some 29)) (v := ?_) (a' := ?_) #[true, true, true, true, true, true, false, false, false, false, false, false, false, false, false, false, false, false, false, false, false] rfl rfl (any_of HT_.out (by kernel_rfl)) (fun _ _ _ h => h) (Or.inl ⟨by rfl, ?_⟩) ?_ ?_
  rotate_left
  · intro w'
    go_simp
    try with_reducible rfl
  rotate_left
  · simp only [Act.put, List.setIfInBounds_toArray, List.set_cons_zero, List.set_cons_succ, i64_w, i32_w, u8_w, u32_w]
    rfl
  refine take_ (i := 6) (N := (some 30)) (v := ?_) (a' := ?_) #[true, true, true, true, true, true, true, false, false, false, false, false, false, false, false, false, false, false, false, false, false] rfl rfl (take_ofW HT_.out HW_.out (by kernel_rfl)) (fun _ _ _ h => h) (Or.inl ⟨by rfl, ?_⟩) hHeld ?_ ?_
  rotate_left
  · rintro w' ⟨s0, s1, s2, s3, s4, s5⟩
    go_simp
    try with_reducible rfl
  rotate_left
  · simp only [Act.put, List.setIfInBounds_toArray, List.set_cons_zero, List.set_cons_succ, i64_w, i32_w, u8_w, u32_w]
    rfl
  refine take_ (i := 8) (N := (some 32)) (v := ?_) (a' := ?_) #[true, true, true, true, true, true, true, false, true, false, false, false, false, false, false, false, false, false, false, false, false] rfl rfl (take_ofW HT_.out HW_.out (by kernel_rfl)) (fun _ _ _ h => h) (Or.inl ⟨by rfl, ?_⟩) hHeld ?_ ?_
  rotate_left
  · rintro w' ⟨s0, s1, s2, s3, s4, s5⟩
    go_simp
    try with_reducible rfl
  rotate_left
  · simp only [Act.put, List.setIfInBounds_toArray, List.set_cons_zero, List.set_cons_succ, i64_w, i32_w, u8_w, u32_w]
    rfl
  refine one_ (i := 7) (N := (some 31)) #[true, true, true, true, true, true, true, true, true, false, false, false, false, false, false, false, false, false, false, false, false] rfl rfl (one_of HT_.out (by kernel_rfl)) (by decide) (fun K hK => ?_)
  refine goes_ Tryd.func13 (by kernel_rfl) rfl #[.agg #[.int .i64 x.f0, .int .i64 x.f1, (.slice Ax x.f2.length cx)]] (by rfl) rfl rfl (by (try simp only [List.map_toArray, List.map_cons, List.map_nil]); first | done | rfl | (simp only [List.length_drop, List.length_take]; rfl)) ?_
  refine (run_Text.calls kx x.f0 x.f1 Ax cx x.f2 bx _ (HTB.out.below L2.out.B) (Kd.C_below XR.out.2.2 B2.out) XR.out.2.1 X2.out).mono ?_
  rintro e v3 ⟨rfl, hb⟩
  refine ⟨_, rfl, ?_⟩
  have L3 := Aside0.mk (L2.out.below hb)
  have M3 := Aside0.mk (blk_below M2.out hb)
  have B3 := Aside0.mk (below_step B2.out hb)
  clear hb L2 M2 B2
  refine hK.out _ _ ⟨(blk_cell L3.out.K4 0).trans rfl, (blk_cell L3.out.K4 1).trans rfl, (blk_cell L3.out.K4 2).trans rfl, (blk_cell M3.out 0).trans rfl, (blk_cell M3.out 1).trans rfl, (blk_cell M3.out 2).trans rfl⟩ (fun hHeld => ?_)
  clear hK K
  refine norm_ (a' := ?_) ?_ ?_
  rotate_left
  · show Act.put _ (some 31) _ = _
    simp only [Act.put, List.setIfInBounds_toArray, List.set_cons_zero, List.set_cons_succ, i64_w, i32_w, u8_w, u32_w]
    rfl
  refine one_ (i := 9) (N := (some 33)) #[true, true, true, true, true, true, true, true, true, true, false, false, false, false, false, false, false, false, false, false, false] rfl rfl (one_of HT_.out (by kernel_rfl)) (by decide) (fun K hK => ?_)
  refine goes_ Tryd.func14 (by kernel_rfl) rfl #[.agg #[.int .i64 x.f0, .int .i64 x.f1, (.slice Ax x.f2.length cx)]] (by rfl) rfl rfl (by (try simp only [List.map_toArray, List.map_cons, List.map_nil]); first | done | rfl | (simp only [List.length_drop, List.length_take]; rfl)) ?_
  refine (thyrsusref12_Text.calls kx x.f0 x.f1 Ax cx x.f2 bx _ (Kd.C_below XR.out.2.2 B3.out) XR.out.2.1 X3.out).mono ?_
  rintro e v4 ⟨rfl, hb⟩
  refine ⟨_, rfl, ?_⟩
  have L4 := Aside0.mk (L3.out.below hb)
  have M4 := Aside0.mk (blk_below M3.out hb)
  have B4 := Aside0.mk (below_step B3.out hb)
  clear hb L3 M3 B3
  refine hK.out _ _ ⟨(blk_cell L4.out.K4 0).trans rfl, (blk_cell L4.out.K4 1).trans rfl, (blk_cell L4.out.K4 2).trans rfl, (blk_cell M4.out 0).trans rfl, (blk_cell M4.out 1).trans rfl, (blk_cell M4.out 2).trans rfl⟩ (fun hHeld => ?_)
  clear hK K
  refine norm_ (a' := ?_) ?_ ?_
  rotate_left
  · show Act.put _ (some 33) _ = _
    simp only [Act.put, List.setIfInBounds_toArray, List.set_cons_zero, List.set_cons_succ, i64_w, i32_w, u8_w, u32_w]
    rfl
  refine pure_ (i := 10) (N := (some 34)) (v := ?_) (a' := ?_) #[true, true, true, true, true, true, true, true, true, true, true, false, false, false, false, false, false, false, false, false, false] rfl rfl (any_of HT_.out (by kernel_rfl)) (fun _ _ _ h => h) (Or.inl ⟨by rfl, ?_⟩) ?_ ?_
  rotate_left
  · intro w'
    go_simp
    try with_reducible rfl
  rotate_left
  · simp only [Act.put, List.setIfInBounds_toArray, List.set_cons_zero, List.set_cons_succ, i64_w, i32_w, u8_w, u32_w]
    rfl
  refine pure_ (i := 11) (N := (some 35)) (v := ?_) (a' := ?_) #[true, true, true, true, true, true, true, true, true, true, true, true, false, false, false, false, false, false, false, false, false] rfl rfl (any_of HT_.out (by kernel_rfl)) (fun _ _ _ h => h) (Or.inl ⟨by rfl, ?_⟩) ?_ ?_
  rotate_left
  · intro w'
    go_simp
    try with_reducible rfl
  rotate_left
  · simp only [Act.put, List.setIfInBounds_toArray, List.set_cons_zero, List.set_cons_succ, i64_w, i32_w, u8_w, u32_w]
    rfl
  refine pure_ (i := 12) (N := (some 36)) (v := ?_) (a' := ?_) #[true, true, true, true, true, true, true, true, true, true, true, true, true, false, false, false, false, false, false, false, false] rfl rfl (any_of HT_.out (by kernel_rfl)) (fun _ _ _ h => h) (Or.inl ⟨by rfl, ?_⟩) ?_ ?_
  rotate_left
  · intro w'
    go_simp
    try with_reducible rfl
  rotate_left
  · simp only [Act.put, List.setIfInBounds_toArray, List.set_cons_zero, List.set_cons_succ, i64_w, i32_w, u8_w, u32_w]
    rfl
  refine pure_ (i := 13) (N := (some 37)) (v := ?_) (a' := ?_) #[true, true, true, true, true, true, true, true, true, true, true, true, true, true, false, false, false, false, false, false, false] rfl rfl (any_of HT_.out (by kernel_rfl)) (fun _ _ _ h => h) (Or.inl ⟨by rfl, ?_⟩) ?_ ?_
  rotate_left
  · intro w'
    go_simp
    try with_reducible rfl
  rotate_left
  · simp only [Act.put, List.setIfInBounds_toArray, List.set_cons_zero, List.set_cons_succ, i64_w, i32_w, u8_w, u32_w]
    rfl
  refine pure_ (i := 14) (N := (some 38)) (v := ?_) (a' := ?_) #[true, true, true, true, true, true, true, true, true, true, true, true, true, true, true, false, false, false, false, false, false] rfl rfl (any_of HT_.out (by kernel_rfl)) (fun _ _ _ h => h) (Or.inl ⟨by rfl, ?_⟩) ?_ ?_
  rotate_left
  · intro w'
    go_simp
    try with_reducible rfl
  rotate_left
  · simp only [Act.put, List.setIfInBounds_toArray, List.set_cons_zero, List.set_cons_succ, i64_w, i32_w, u8_w, u32_w]
    rfl
  refine pure_ (i := 16) (N := (some 40)) (v := ?_) (a' := ?_) #[true, true, true, true, true, true, true, true, true, true, true, true, true, true, true, false, true, false, false, false, false] rfl rfl (any_of HT_.out (by kernel_rfl)) (fun _ _ _ h => h) (Or.inl ⟨by rfl, ?_⟩) ?_ ?_
  rotate_left
  · intro w'
    go_simp
    try with_reducible rfl
  rotate_left
  · simp only [Act.put, List.setIfInBounds_toArray, List.set_cons_zero, List.set_cons_succ, i64_w, i32_w, u8_w, u32_w]
    rfl
  refine one_ (i := 15) (N := (some 39)) #[true, true, true, true, true, true, true, true, true, true, true, true, true, true, true, true, true, false, false, false, false] rfl rfl (one_of HT_.out (by kernel_rfl)) (by decide) (fun K hK => ?_)
  refine goes_ Tryd.func13 (by kernel_rfl) rfl #[.agg #[.int .i64 1, .int .i64 n, .slice none 0 0]] (by rfl) rfl rfl (by (try simp only [List.map_toArray, List.map_cons, List.map_nil]); first | done | rfl | (simp only [List.length_drop, List.length_take]; rfl)) ?_
  refine (run_Text.calls kk 1 n none 0 [] bn _ (HTB.out.below L4.out.B) (Kd.C_nil _ _) (Nat.le_refl _) Y3.out).mono ?_
  rintro e v5 ⟨rfl, hb⟩
  refine ⟨_, rfl, ?_⟩
  have L5 := Aside0.mk (L4.out.below hb)
  have M5 := Aside0.mk (blk_below M4.out hb)
  have B5 := Aside0.mk (below_step B4.out hb)
  clear hb L4 M4 B4
  refine hK.out _ _ ⟨(blk_cell L5.out.K4 0).trans rfl, (blk_cell L5.out.K4 1).trans rfl, (blk_cell L5.out.K4 2).trans rfl, (blk_cell M5.out 0).trans rfl, (blk_cell M5.out 1).trans rfl, (blk_cell M5.out 2).trans rfl⟩ (fun hHeld => ?_)
  clear hK K
  refine norm_ (a' := ?_) ?_ ?_
  rotate_left
  · show Act.put _ (some 39) _ = _
    simp only [Act.put, List.setIfInBounds_toArray, List.set_cons_zero, List.set_cons_succ, i64_w, i32_w, u8_w, u32_w]
    rfl
  refine one_ (i := 17) (N := (some 41)) #[true, true, true, true, true, true, true, true, true, true, true, true, true, true, true, true, true, true, false, false, false] rfl rfl (one_of HT_.out (by kernel_rfl)) (by decide) (fun K hK => ?_)
  refine goes_ Tryd.func19 (by kernel_rfl) rfl #[.int .i64 n] (by rfl) rfl rfl (by (try simp only [List.map_toArray, List.map_cons, List.map_nil]); first | done | rfl | (simp only [List.length_drop, List.length_take]; rfl)) ?_
  refine (thyrsusref3_Digits.calls kk n bn _ Y4.out).mono ?_
  rintro e v6 ⟨rfl, hb⟩
  refine ⟨_, rfl, ?_⟩
  have L6 := Aside0.mk (L5.out.below hb)
  have M6 := Aside0.mk (blk_below M5.out hb)
  have B6 := Aside0.mk (below_step B5.out hb)
  clear hb L5 M5 B5
  refine hK.out _ _ ⟨(blk_cell L6.out.K4 0).trans rfl, (blk_cell L6.out.K4 1).trans rfl, (blk_cell L6.out.K4 2).trans rfl, (blk_cell M6.out 0).trans rfl, (blk_cell M6.out 1).trans rfl, (blk_cell M6.out 2).trans rfl⟩ (fun hHeld => ?_)
  clear hK K
  refine norm_ (a' := ?_) ?_ ?_
  rotate_left
  · show Act.put _ (some 41) _ = _
    simp only [Act.put, List.setIfInBounds_toArray, List.set_cons_zero, List.set_cons_succ, i64_w, i32_w, u8_w, u32_w]
    rfl
  refine pure_ (i := 18) (N := (some 42)) (v := ?_) (a' := ?_) #[true, true, true, true, true, true, true, true, true, true, true, true, true, true, true, true, true, true, true, false, false] rfl rfl (any_of HT_.out (by kernel_rfl)) (fun _ _ _ h => h) (Or.inl ⟨by rfl, ?_⟩) ?_ ?_
  rotate_left
  · intro w'
    go_simp
    try with_reducible rfl
  rotate_left
  · simp only [Act.put, List.setIfInBounds_toArray, List.set_cons_zero, List.set_cons_succ, i64_w, i32_w, u8_w, u32_w]
    rfl
  refine pure_ (i := 19) (N := (some 43)) (v := ?_) (a' := ?_) #[true, true, true, true, true, true, true, true, true, true, true, true, true, true, true, true, true, true, true, true, false] rfl rfl (any_of HT_.out (by kernel_rfl)) (fun _ _ _ h => h) (Or.inl ⟨by rfl, ?_⟩) ?_ ?_
  rotate_left
  · intro w'
    go_simp
    try with_reducible rfl
  rotate_left
  · simp only [Act.put, List.setIfInBounds_toArray, List.set_cons_zero, List.set_cons_succ, i64_w, i32_w, u8_w, u32_w]
    rfl
  refine pure_ (i := 20) (N := (some 8)) (v := ?_) (a' := ?_) #[true, true, true, true, true, true, true, true, true, true, true, true, true, true, true, true, true, true, true, true, true] rfl rfl (any_of HT_.out (by kernel_rfl)) (fun _ _ _ h => h) (Or.inl ⟨by rfl, ?_⟩) ?_ ?_
  rotate_left
  · intro w'
    go_simp
    try with_reducible rfl
  rotate_left
  · simp only [Act.put, List.setIfInBounds_toArray, List.set_cons_zero, List.set_cons_succ, i64_w, i32_w, u8_w, u32_w]
    rfl
  refine done_ (done_of HT_.out (by kernel_rfl)) ?_
  try go_wp2
  go_ret
  exact ⟨by first | rfl | simp, L6.out.B⟩
end Go.Proofs.YtnecmclnokikoaaDoor.P
/- A tree that came in (struct type 24: two numbers, a slice of itself), opened: it reads as a Lean tree. -/
namespace Go.Proofs.YtnecmclnokikoaaDoor.P
open Go.RowKit Go.ChangeShapes Go.WideShapes Go.ChangeAt Go.Proofs.YtnecmclnokikoaaDoorW.PrintWords Go.Proofs.YtnecmclnokikoaaDoorW.PrintLast Go.Proofs.YtnecmclnokikoaaDoorW.PrintMore
set_option linter.unusedVariables false
set_option linter.unusedSimpArgs false

/-- Numbers of their kind, lists that memory can hold. -/
inductive WF24 : S24 → Prop
  | mk (a b : Int) (l : List S24) (ha : (Lit.int .i64 a).wf = true) (hb : (Lit.int .i64 b).wf = true) (hn : l.length ≤ 9223372036854775807) (hl : ∀ x ∈ l, WF24 x) : WF24 ⟨a, b, l⟩

theorem cells24 : Tryd.prog.cellsOf 24 = 3 := by kernel_rfl
theorem cells3 : Tryd.prog.cellsOf 3 = 1 := by kernel_rfl
theorem cells22 : Tryd.prog.cellsOf 22 = 1 := by kernel_rfl

theorem list_of {α : Type} (P : Nat → α → Prop) (n : Nat) (h : ∀ i, i < n → ∃ y, P i y) : ∃ l : List α, l.length = n ∧ ∀ i y, l[i]? = some y → P i y := by
  induction n with
  | zero => exact ⟨[], rfl, fun i y h => by simp at h⟩
  | succ n ih =>
    obtain ⟨l, h1, h2⟩ := ih (fun i hi => h i (by omega))
    obtain ⟨y, hy⟩ := h n (by omega)
    refine ⟨l ++ [y], by simp [h1], fun i z hz => ?_⟩
    rcases Nat.lt_or_ge i n with hi | hi
    · rw [List.getElem?_append_left (by omega)] at hz
      exact h2 i z hz
    · rw [List.getElem?_append_right (by omega)] at hz
      have : i = n := by
        have := (List.getElem?_eq_some_iff.1 hz).1
        simp at this
        omega
      subst this
      simp [h1] at hz
      rw [← hz]
      exact hy

set_option maxRecDepth 100000 in
theorem tree24 {H : Type} {enc : TypeId × Value → H} {W : World} {base : Nat} {spare : Nat → Bool} {held : Bool} : ∀ (fuel : Nat) (cs : List Value) (x : DataW H × List MemPlace), DataW.trod enc Tryd.prog W base spare held fuel 24 cs = some x → ∃ y : S24, k24.K W y cs ∧ WF24 y := by
  intro fuel
  induction fuel using Nat.strongRecOn with
  | _ fuel ih =>
  intro cs x h
  obtain ⟨xs, n, hn, _, hlen, hxs, hf⟩ := DataW.trod_struct Tryd.underlying24 h
  rw [cells24] at hlen
  obtain ⟨c0, c1, c2, rfl⟩ : ∃ a b c, cs = [a, b, c] := by
    match cs, hlen with
    | [a, b, c], _ => exact ⟨a, b, c, rfl⟩
  have f0 := hf 0 _ rfl
  have f1 := hf 1 _ rfl
  have f2 := hf 2 _ rfl
  change DataW.trod _ _ _ _ _ _ _ 3 (([c0, c1, c2].drop 0).take (Tryd.prog.cellsOf 3)) = _ at f0
  change DataW.trod _ _ _ _ _ _ _ 3 (([c0, c1, c2].drop 1).take (Tryd.prog.cellsOf 3)) = _ at f1
  change DataW.trod _ _ _ _ _ _ _ 22 (([c0, c1, c2].drop 2).take (Tryd.prog.cellsOf 22)) = _ at f2
  rw [cells3] at f0 f1
  rw [cells22] at f2
  simp only [List.drop_zero, List.drop_succ_cons, List.take_succ_cons, List.take_zero] at f0 f1 f2
  have hx : ∀ i, i < xs.length → ∃ y, xs[i]? = some y := fun i hi => ⟨xs[i], List.getElem?_eq_getElem hi⟩
  obtain ⟨y0, e0⟩ := hx 0 (by rw [hxs]; decide)
  obtain ⟨y1, e1⟩ := hx 1 (by rw [hxs]; decide)
  obtain ⟨y2, e2⟩ := hx 2 (by rw [hxs]; decide)
  rw [e0] at f0
  rw [e1] at f1
  rw [e2] at f2
  obtain ⟨a, ha, _, wa⟩ := DataW.trod_int Tryd.underlying3 f0
  obtain ⟨b, hb, _, wb⟩ := DataW.trod_int Tryd.underlying3 f1
  obtain rfl : c0 = .int .i64 a := by simpa using ha
  obtain rfl : c1 = .int .i64 b := by simpa using hb
  rcases DataW.trod_slice Tryd.underlying22 f2 with ⟨h2, _⟩ | ⟨ad, len, cap, elems, rest, m, hm, h2, _, _, hlc, hcm, hel, hcell, _, _⟩
  · obtain rfl : c2 = .slice none 0 0 := by simpa using h2
    exact ⟨⟨a, b, []⟩, k24_mk W ⟨a, b, []⟩ (by simp) ⟨rfl, by simp, fun h => by simp at h⟩, WF24.mk a b [] wa wb (by simp) (by simp)⟩
  · obtain rfl : c2 = .slice (some ad) len cap := by simpa using h2
    rw [cells24] at hcell
    have hall : ∀ i, i < len → ∃ y : S24, (∃ c : List Value, c.length = 3 ∧ k24.K W y c ∧ ∀ j u, c[j]? = some u → W.cell? (ad.add (i * 3 + j)) = some u) ∧ WF24 y := by
      intro i hi
      have h1 := hcell i hi
      have h3 : ∃ z, elems[i]? = some z := ⟨elems[i], List.getElem?_eq_getElem (by omega)⟩
      obtain ⟨z, hz⟩ := h3
      rw [hz, Option.bind_eq_some_iff] at h1
      obtain ⟨ci, hci, htr⟩ := h1
      obtain ⟨y, hy, wy⟩ := ih m (by omega) ci z htr
      obtain ⟨_, hl3, hcc⟩ := World.cells?_some hci
      refine ⟨y, ⟨ci, hl3, hy, fun j u hu => ?_⟩, wy⟩
      have hj : j < 3 := by
        have := (List.getElem?_eq_some_iff.1 hu).1
        omega
      have h4 := hcc j hj
      rw [← hu, ← h4, add_add]
    obtain ⟨l, hl, hP⟩ := list_of _ len hall
    subst hl
    have hmx : l.length ≤ 9223372036854775807 := by unfold maxLen at hcm; omega
    refine ⟨⟨a, b, l⟩, k24_mk W ⟨a, b, l⟩ hlc ⟨rfl, hmx, fun _ => ⟨ad, rfl, fun j p hj => (hP j p hj).1⟩⟩, WF24.mk a b l wa wb hmx (fun y hy => ?_)⟩
    obtain ⟨i, hi, e⟩ := List.mem_iff_getElem.1 hy
    exact (hP i y (by rw [← e]; exact List.getElem?_eq_getElem hi)).2

set_option maxRecDepth 100000 in
theorem open_T24 {H : Type} {enc : TypeId × Value → H} {W : World} {spare : Nat → Bool} {held : Bool} {r : Reach} {b0 base : Nat} {v : Value} {d : DataW H} {ps : List MemPlace} (hv : Value.okWide Tryd.prog W r b0 24 v)
    (h : DataW.Trod enc Tryd.prog W base spare held 24 v d ps) :
    ∃ (x : S24) (A : Option Addr) (c : Nat), v = .agg #[.int .i64 x.f0, .int .i64 x.f1, .slice A x.f2.length c] ∧ x.f2.length ≤ c ∧ Kd.C k24 W A x.f2.length x.f2 ∧ WF24 x := by
  obtain ⟨v0, v1, v2, y0, y1, y2, n, rfl, _, _, h0, h1, h2⟩ := Joins.open_agg3 Tryd.underlying24 (by kernel_rfl) cells24 hv h
  obtain ⟨fuel, hf⟩ := h
  obtain ⟨y, hy, wy⟩ := tree24 fuel _ _ hf
  obtain ⟨A, c, e, hl, hC⟩ := k24_open hy
  obtain ⟨a, ha, _, _⟩ := DataW.trod_int Tryd.underlying3 h0
  obtain ⟨b, hb, _, _⟩ := DataW.trod_int Tryd.underlying3 h1
  obtain rfl : v0 = .int .i64 a := by simpa using ha
  obtain rfl : v1 = .int .i64 b := by simpa using hb
  have e2 : ∃ A' n' c', v2 = .slice A' n' c' := by
    rcases DataW.trod_slice Tryd.underlying22 h2 with ⟨q, _⟩ | ⟨ad, len, cap, _, _, _, _, q, _⟩
    · exact ⟨_, _, _, by simpa using q⟩
    · exact ⟨_, _, _, by simpa using q⟩
  obtain ⟨A', n', c', rfl⟩ := e2
  simp [Value.cells] at e
  obtain ⟨rfl, rfl, rfl, rfl, rfl⟩ := e
  exact ⟨y, A', c', rfl, hl, hC, wy⟩
/-- Numbers of their kind, lists that memory can hold. -/
inductive WF36 : S36 → Prop
  | mk (a b : Int) (l : List S36) (ha : (Lit.int .i64 a).wf = true) (hb : (Lit.int .i64 b).wf = true) (hn : l.length ≤ 9223372036854775807) (hl : ∀ x ∈ l, WF36 x) : WF36 ⟨a, b, l⟩

mutual
/-- How many nodes a value has. -/
def cnt36 : S36 → Nat
  | ⟨_, _, l⟩ => 1 + cnts36 l
def cnts36 : List S36 → Nat
  | [] => 0
  | x :: r => cnt36 x + cnts36 r
end
theorem bulk_part {H : Type} {d : DataW H} {l : List (DataW H)} (h : d ∈ l) : Rows.uptoBulk d ≤ Rows.uptoBulkAll l := by
  induction l with
  | nil => cases h
  | cons x r ih =>
    simp only [Rows.uptoBulkAll]
    cases List.mem_cons.1 h with
    | inl e => subst e; omega
    | inr e => have := ih e; omega
theorem bulk_rows {H : Type} : ∀ (l : List S36) (es : List (DataW H × List MemPlace)), es.length = l.length → (∀ (i : Nat) (y : S36) (z : DataW H × List MemPlace), l[i]? = some y → es[i]? = some z → cnt36 y ≤ Rows.uptoBulk z.1) → cnts36 l ≤ Rows.uptoBulkAll (es.map (·.1))
  | [], es, _, _ => by simp [cnts36]
  | y :: l, [], h, _ => by simp at h
  | y :: l, z :: es, h, hp => by
    have h1 := hp 0 y z rfl rfl
    have h2 := bulk_rows l es (by simpa using h) (fun i y' z' hy hz => hp (i + 1) y' z' (by simpa using hy) (by simpa using hz))
    simp only [cnts36, List.map_cons, Rows.uptoBulkAll]
    omega
theorem cells36 : Tryd.prog.cellsOf 36 = 3 := by kernel_rfl
theorem cells34 : Tryd.prog.cellsOf 34 = 1 := by kernel_rfl
set_option maxRecDepth 100000 in
theorem tree36 {H : Type} {enc : TypeId × Value → H} {W : World} {base : Nat} {spare : Nat → Bool} {held : Bool} : ∀ (fuel : Nat) (cs : List Value) (x : DataW H × List MemPlace), DataW.trod enc Tryd.prog W base spare held fuel 36 cs = some x → ∃ y : S36, k36.K W y cs ∧ WF36 y ∧ cnt36 y ≤ Rows.uptoBulk x.1 := by
  intro fuel
  induction fuel using Nat.strongRecOn with
  | _ fuel ih =>
  intro cs x h
  obtain ⟨xs, n, hn, hx0, hlen, hxs, hf⟩ := DataW.trod_struct Tryd.underlying36 h
  rw [cells36] at hlen
  obtain ⟨c0, c1, c2, rfl⟩ : ∃ a b c, cs = [a, b, c] := by
    match cs, hlen with
    | [a, b, c], _ => exact ⟨a, b, c, rfl⟩
  have f0 := hf 0 _ rfl
  have f1 := hf 1 _ rfl
  have f2 := hf 2 _ rfl
  change DataW.trod _ _ _ _ _ _ _ 3 (([c0, c1, c2].drop 0).take (Tryd.prog.cellsOf 3)) = _ at f0
  change DataW.trod _ _ _ _ _ _ _ 3 (([c0, c1, c2].drop 1).take (Tryd.prog.cellsOf 3)) = _ at f1
  change DataW.trod _ _ _ _ _ _ _ 34 (([c0, c1, c2].drop 2).take (Tryd.prog.cellsOf 34)) = _ at f2
  rw [cells3] at f0 f1
  rw [cells34] at f2
  simp only [List.drop_zero, List.drop_succ_cons, List.take_succ_cons, List.take_zero] at f0 f1 f2
  have hx : ∀ i, i < xs.length → ∃ y, xs[i]? = some y := fun i hi => ⟨xs[i], List.getElem?_eq_getElem hi⟩
  obtain ⟨y0, e0⟩ := hx 0 (by rw [hxs]; decide)
  obtain ⟨y1, e1⟩ := hx 1 (by rw [hxs]; decide)
  obtain ⟨y2, e2⟩ := hx 2 (by rw [hxs]; decide)
  rw [e0] at f0
  rw [e1] at f1
  rw [e2] at f2
  obtain ⟨a, ha, _, wa⟩ := DataW.trod_int Tryd.underlying3 f0
  obtain ⟨b, hb, _, wb⟩ := DataW.trod_int Tryd.underlying3 f1
  obtain rfl : c0 = .int .i64 a := by simpa using ha
  obtain rfl : c1 = .int .i64 b := by simpa using hb
  rcases DataW.trod_slice Tryd.underlying34 f2 with ⟨h2, _⟩ | ⟨ad, len, cap, elems, rest, m, hm, h2, hy2, _, hlc, hcm, hel, hcell, _, _⟩
  · obtain rfl : c2 = .slice none 0 0 := by simpa using h2
    exact ⟨⟨a, b, []⟩, k36_mk W ⟨a, b, []⟩ (by simp) ⟨rfl, by simp, fun h => by simp at h⟩, WF36.mk a b [] wa wb (by simp) (by simp), by rw [hx0]; simp only [cnt36, cnts36, Rows.uptoBulk]; omega⟩
  · obtain rfl : c2 = .slice (some ad) len cap := by simpa using h2
    rw [cells36] at hcell
    have hall : ∀ i, i < len → ∃ y : S36, (∃ c : List Value, c.length = 3 ∧ k36.K W y c ∧ ∀ j u, c[j]? = some u → W.cell? (ad.add (i * 3 + j)) = some u) ∧ WF36 y ∧ ∀ z, elems[i]? = some z → cnt36 y ≤ Rows.uptoBulk z.1 := by
      intro i hi
      have h1 := hcell i hi
      have h3 : ∃ z, elems[i]? = some z := ⟨elems[i], List.getElem?_eq_getElem (by omega)⟩
      obtain ⟨z, hz⟩ := h3
      rw [hz, Option.bind_eq_some_iff] at h1
      obtain ⟨ci, hci, htr⟩ := h1
      obtain ⟨y, hy, wy, by_⟩ := ih m (by omega) ci z htr
      obtain ⟨_, hl3, hcc⟩ := World.cells?_some hci
      refine ⟨y, ⟨ci, hl3, hy, fun j u hu => ?_⟩, wy, fun z2 hz2 => by obtain rfl := Option.some.inj (hz.symm.trans hz2); exact by_⟩
      have hj : j < 3 := by
        have := (List.getElem?_eq_some_iff.1 hu).1
        omega
      have h4 := hcc j hj
      rw [← hu, ← h4, add_add]
    obtain ⟨l, hl, hP⟩ := list_of _ len hall
    subst hl
    have hmx : l.length ≤ 9223372036854775807 := by unfold maxLen at hcm; omega
    refine ⟨⟨a, b, l⟩, k36_mk W ⟨a, b, l⟩ hlc ⟨rfl, hmx, fun _ => ⟨ad, rfl, fun j p hj => (hP j p hj).1⟩⟩, WF36.mk a b l wa wb hmx (fun y hy => ?_), ?_⟩
    · obtain ⟨i, hi, e⟩ := List.mem_iff_getElem.1 hy
      exact (hP i y (by rw [← e]; exact List.getElem?_eq_getElem hi)).2.1
    · have h5 := bulk_rows l elems hel (fun i y z hy hz => (hP i y hy).2.2 z hz)
      have h6 : Rows.uptoBulk y2.1 ≤ Rows.uptoBulkAll (xs.map (·.1)) := bulk_part (List.mem_map_of_mem (List.mem_of_getElem? e2))
      rw [hy2] at h6
      rw [hx0]
      simp only [cnt36, Rows.uptoBulk] at h6 ⊢
      omega

set_option maxRecDepth 100000 in
theorem open_T36 {H : Type} {enc : TypeId × Value → H} {W : World} {spare : Nat → Bool} {held : Bool} {r : Reach} {b0 base : Nat} {v : Value} {d : DataW H} {ps : List MemPlace} (hv : Value.okWide Tryd.prog W r b0 36 v)
    (h : DataW.Trod enc Tryd.prog W base spare held 36 v d ps) :
    ∃ (x : S36) (A : Option Addr) (c : Nat), v = .agg #[.int .i64 x.f0, .int .i64 x.f1, .slice A x.f2.length c] ∧ x.f2.length ≤ c ∧ Kd.C k36 W A x.f2.length x.f2 ∧ WF36 x ∧ cnt36 x ≤ Rows.uptoBulk d := by
  obtain ⟨v0, v1, v2, y0, y1, y2, n, rfl, _, _, h0, h1, h2⟩ := Joins.open_agg3 Tryd.underlying36 (by kernel_rfl) cells36 hv h
  obtain ⟨fuel, hf⟩ := h
  obtain ⟨y, hy, wy, hbulk⟩ := tree36 fuel _ _ hf
  obtain ⟨A, c, e, hl, hC⟩ := k36_open hy
  obtain ⟨a, ha, _, _⟩ := DataW.trod_int Tryd.underlying3 h0
  obtain ⟨b, hb, _, _⟩ := DataW.trod_int Tryd.underlying3 h1
  obtain rfl : v0 = .int .i64 a := by simpa using ha
  obtain rfl : v1 = .int .i64 b := by simpa using hb
  have e2 : ∃ A' n' c', v2 = .slice A' n' c' := by
    rcases DataW.trod_slice Tryd.underlying34 h2 with ⟨q, _⟩ | ⟨ad, len, cap, _, _, _, _, q, _⟩
    · exact ⟨_, _, _, by simpa using q⟩
    · exact ⟨_, _, _, by simpa using q⟩
  obtain ⟨A', n', c', rfl⟩ := e2
  simp [Value.cells] at e
  obtain ⟨rfl, rfl, rfl, rfl, rfl⟩ := e
  exact ⟨y, A', c', rfl, hl, hC, wy, hbulk⟩
end Go.Proofs.YtnecmclnokikoaaDoor.P
/- RunTexts, the plain law: any value's text is the reference's; so is that of a value of a type. -/
namespace Go.Proofs.YtnecmclnokikoaaDoor.Pure
open Go.RowKit Go.Proofs.YtnecmclnokikoaaDoor.P Go.Proofs.YtnecmclnokikoaaDoorW.PrintWords Go.Proofs.YtnecmclnokikoaaDoorW.PrintLast Go.Proofs.YtnecmclnokikoaaDoorW.PrintMore
set_option linter.unusedVariables false
set_option linter.unusedSimpArgs false
def lst (s : ByteArray) : List UInt8 := s.data.toList
theorem lst_len (s : ByteArray) : (lst s).length = s.size := Array.length_toList
theorem lst_inj {s t : ByteArray} (h : lst s = lst t) : s = t := by
  apply ByteArray.ext
  exact Array.toList_inj.1 h
theorem lst_append (s t : ByteArray) : lst (s ++ t) = lst s ++ lst t := by
  simp [lst, ByteArray.data_append]

theorem i64_of {n : Int} (h : (Lit.int .i64 n).wf = true) : -9223372036854775808 ≤ n ∧ n ≤ 9223372036854775807 := by
  have h1 : IntKind.i64.min ≤ n ∧ n ≤ 9223372036854775807 := by simpa [Lit.wf] using h
  exact h1
theorem within_val {a n : Int} (ha : -9223372036854775808 ≤ a ∧ a ≤ 9223372036854775807) (h0 : 0 < n) (hn : n ≤ 4611686018427387904) : thyrsuslaw12_within.f a n = some (a % n) := by
  unfold thyrsuslaw12_within.f
  rw [if_neg (by omega)]
  have h1 := Int.emod_nonneg a (show n ≠ 0 by omega)
  have h2 := Int.emod_lt_of_pos a h0
  by_cases h : 0 ≤ a
  · rw [Int.tmod_eq_emod_of_nonneg h, if_neg (by omega)]
  · have e := Int.tmod_eq_emod (a := a) (b := n)
    by_cases hd : n ∣ a
    · rw [if_pos (.inr hd)] at e
      have h3 := Int.emod_eq_zero_of_dvd hd
      rw [if_neg (by omega)]
      simp only [Option.some.injEq]
      omega
    · rw [if_neg (by omega)] at e
      rw [if_pos (by omega)]
      simp only [Option.some.injEq]
      unfold wrap64
      omega
theorem within_ex {a n : Int} (ha : -9223372036854775808 ≤ a ∧ a ≤ 9223372036854775807) (h0 : 0 < n) (hn : n ≤ 4611686018427387904) : ∃ t : Nat, (t : Int) < n ∧ thyrsuslaw12_within.f a n = some (t : Int) := by
  have h1 := Int.emod_nonneg a (show n ≠ 0 by omega)
  have h2 := Int.emod_lt_of_pos a h0
  refine ⟨(a % n).toNat, by omega, ?_⟩
  rw [within_val ha h0 hn]
  congr 1
  omega
theorem le_rounds {α : Type} {f : Nat → Option α} (hm : ∀ k, LeO (f k) (f (k + 1))) {k : Nat} {r : α} (h : f k = some r) : ∀ d, f (k + d) = some r
  | 0 => h
  | d + 1 => hm (k + d) r (le_rounds hm h d)
theorem known_f (d : Nat) : thyrsuslaw12_known.f (20 + d) = some true :=
  le_rounds (f := fun k => thyrsuslaw12_known.f k) thyrsuslaw12_known.mono (by decide +kernel) d
mutual
def size24 : S24 → Nat
  | ⟨_, _, l⟩ => 1 + sizes24 l
def sizes24 : List S24 → Nat
  | [] => 0
  | x :: l => size24 x + sizes24 l
end
theorem rd24 {l : List S24} {i : Nat} (h : i < l.length) : rd_T24 l (i : Int) = l[i] := by simp [rd_T24, h]
theorem sizes24_drop {l : List S24} {i : Nat} (h : i < l.length) : sizes24 (l.drop i) = size24 l[i] + sizes24 (l.drop (i + 1)) := by
  rw [List.drop_eq_getElem_cons h]; rfl
theorem wrap_id {n : Int} (h : -9223372036854775808 ≤ n ∧ n ≤ 9223372036854775807) : wrap64 n = n := by unfold wrap64; omega

theorem count_ev {x : S24} (h : WF24 x) : ∀ m : Int, 1 ≤ m → m ≤ 1000000 → ∃ c : Int, Ev (fun k => thyrsuslaw1_Count.f k x.f0 x.f1 x.f2 m) c ∧ 1 ≤ c ∧ c ≤ m ∧ (c < m → c = size24 x) := by
  induction h with
  | mk a b l ha hb hn hl ih =>
    intro m hm hm2
    have loop : ∀ (d i : Nat) (n : Int), i + d = l.length → 1 ≤ n → n ≤ m → ∃ c : Int, Ev (fun k => thyrsuslaw1_Count.l0 k m n (i : Int) a b l) c ∧ n ≤ c ∧ c ≤ m ∧ (c < m → c = n + sizes24 (l.drop i)) := by
      intro d
      induction d with
      | zero =>
        intro i n hi h1 h2
        refine ⟨n, Ev.step (f := fun _ => some n) (fun k => ?_) (Ev.now n), by omega, h2, fun _ => ?_⟩
        · simp only [thyrsuslaw1_Count.l0]
          rw [if_neg (by omega)]
        · rw [List.drop_of_length_le (by omega)]
          simp [sizes24]
      | succ d ihd =>
        intro i n hi h1 h2
        have hil : i < l.length := by omega
        by_cases hnm : n < m
        · obtain ⟨c1, e1, g1, g2, g3⟩ := ih l[i] (List.getElem_mem hil) (m - n) (by omega) (by omega)
          obtain ⟨c, e2, q1, q2, q3⟩ := ihd (i + 1) (n + c1) (by omega) (by omega) (by omega)
          refine ⟨c, Ev.step (f := fun k => (thyrsuslaw1_Count.f k l[i].f0 l[i].f1 l[i].f2 (m - n)).bind fun t => thyrsuslaw1_Count.l0 k m (wrap64 (n + t)) (wrap64 ((i : Int) + 1)) a b l) (fun k => ?_) (Ev.bind e1 ?_), by omega, q2, fun hc => ?_⟩
          · simp only [thyrsuslaw1_Count.l0]
            rw [if_pos (by omega), if_pos hnm, if_pos (by omega), rd24 hil, wrap_id (n := m - n) (by omega)]
          · rw [wrap_id (n := n + c1) (by omega), wrap_id (n := (i : Int) + 1) (by omega)]
            exact e2
          · rw [q3 hc, sizes24_drop hil]
            have := g3 (by omega)
            omega
        · refine ⟨n, Ev.step (f := fun _ => some n) (fun k => ?_) (Ev.now n), by omega, h2, fun hc => by omega⟩
          simp only [thyrsuslaw1_Count.l0]
          rw [if_pos (by omega), if_neg hnm]
    obtain ⟨c, e, q1, q2, q3⟩ := loop l.length 0 1 (by omega) (by omega) (by omega)
    refine ⟨c, Ev.step (f := fun k => thyrsuslaw1_Count.l0 k m 1 0 a b l) (fun k => by simp only [thyrsuslaw1_Count.f]) e, q1, q2, fun hc => ?_⟩
    rw [q3 hc]
    simp [size24]

/-- Few raw nodes, or not; if few, that many there are. -/
theorem few_ev {x : S24} (h : WF24 x) : ∃ b : Bool, Ev (fun k => thyrsuslaw1_Few.f k x.f0 x.f1 x.f2) b ∧ (b = true → size24 x < 300) := by
  obtain ⟨c, e, _, h2, h3⟩ := count_ev h 300 (by omega) (by omega)
  refine ⟨decide (c < 300), ?_, fun hb => ?_⟩
  · unfold thyrsuslaw1_Few.f
    exact Ev.bind e (Ev.now _)
  · have hc : c < 300 := by simpa using hb
    have := h3 hc
    omega

theorem dec_len : ∀ (d n : Nat), n < 10 ^ (d + 1) → (Lib.decDigits n).length ≤ d + 1
  | 0, n, h => by
    rw [Lib.decDigits, dif_pos (by simpa using h)]
    simp
  | d + 1, n, h => by
    rw [Lib.decDigits]
    split
    · simp
    · rw [List.length_append, List.length_singleton]
      have := dec_len d (n / 10) (by rw [Nat.pow_succ] at h; omega)
      omega
theorem lst_one (n : Nat) (h : n < 10) : lst (strOfNums [(wrap64 (48 + (n : Int))) % 256]) = [UInt8.ofNat (48 + n)] := by
  have hc : n = 0 ∨ n = 1 ∨ n = 2 ∨ n = 3 ∨ n = 4 ∨ n = 5 ∨ n = 6 ∨ n = 7 ∨ n = 8 ∨ n = 9 := by omega
  rcases hc with rfl | rfl | rfl | rfl | rfl | rfl | rfl | rfl | rfl | rfl <;> (show _ = _; kernel_rfl)
theorem digits_nat : ∀ (n : Nat), n < 10 ^ 19 → ∃ b : ByteArray, Ev (fun k => thyrsusref3_Digits.f k (n : Int)) b ∧ lst b = Lib.decDigits n := by
  intro n
  induction n using Nat.strongRecOn with
  | _ n ih =>
    intro hn
    have hn2 : n < 10000000000000000000 := hn
    by_cases h : n < 10
    · refine ⟨strOfNums [(wrap64 (48 + (n : Int))) % 256], Ev.step (f := fun _ => some (strOfNums [(wrap64 (48 + (n : Int))) % 256])) (fun k => ?_) (Ev.now _), ?_⟩
      · simp only [thyrsusref3_Digits.f]
        rw [if_neg (by omega), if_neg (by omega)]
      · rw [lst_one n h, Lib.decDigits, dif_pos h]
    · obtain ⟨b1, e1, l1⟩ := ih (n / 10) (by omega) (by show n / 10 < 10000000000000000000; omega)
      obtain ⟨b2, e2, l2⟩ := ih (n % 10) (by omega) (by show n % 10 < 10000000000000000000; omega)
      have d1 : Int.tdiv (n : Int) 10 = ((n / 10 : Nat) : Int) := by
        rw [Int.tdiv_eq_ediv_of_nonneg (by omega)]
        omega
      have d2 : Int.tmod (n : Int) 10 = ((n % 10 : Nat) : Int) := by
        rw [Int.tmod_eq_emod_of_nonneg (by omega)]
        omega
      have z1 : b1.size ≤ 19 := by
        rw [← lst_len, l1]
        exact dec_len 18 (n / 10) (by show n / 10 < 10000000000000000000; omega)
      have z2 : b2.size ≤ 19 := by
        rw [← lst_len, l2]
        exact dec_len 18 (n % 10) (by show n % 10 < 10000000000000000000; omega)
      refine ⟨b1 ++ b2, Ev.step (f := fun k => (thyrsusref3_Digits.f k ((n / 10 : Nat) : Int)).bind fun t213 => ((thyrsusref3_Digits.f k ((n % 10 : Nat) : Int)).bind fun t214 => (if t213.size + t214.size ≤ 9223372036854775807 then (some (t213 ++ t214)) else (none)))) (fun k => ?_) (Ev.bind e1 (Ev.bind e2 ?_)), ?_⟩
      · simp only [thyrsusref3_Digits.f]
        rw [if_neg (by omega), if_pos (by omega), d1, d2, wrap_id (n := ((n / 10 : Nat) : Int)) (by omega)]
      · simp only [if_pos (show b1.size + b2.size ≤ 9223372036854775807 by omega)]
        exact Ev.now _
      · rw [lst_append, l1, l2]
        have e := Lib.decDigits.eq_1 n
        rw [dif_neg h] at e
        rw [e]
        congr 1
        rw [Lib.decDigits, dif_pos (by omega)]

theorem known_ev : Ev (fun k => thyrsuslaw12_known.f k) true := Ev.of (fun k => thyrsuslaw12_known.mono k) (k := 20) (known_f 0)
theorem itoa_len {z : Int} (h : -9223372036854775808 ≤ z ∧ z ≤ 9223372036854775807) : (Lib.itoa z).length ≤ 20 := by
  unfold Lib.itoa
  split
  · have := dec_len 18 z.natAbs (by show z.natAbs < 10000000000000000000; omega)
    rw [List.length_cons]
    omega
  · have := dec_len 18 z.toNat (by show z.toNat < 10000000000000000000; omega)
    omega
theorem digits_ev {z : Int} (hz : -9223372036854775808 ≤ z ∧ z ≤ 9223372036854775807) : ∃ b : ByteArray, Ev (fun k => thyrsusref3_Digits.f k z) b ∧ lst b = Lib.itoa z := by
  by_cases hm : z = -9223372036854775808
  · subst hm
    refine ⟨⟨#[45, 57, 50, 50, 51, 51, 55, 50, 48, 51, 54, 56, 53, 52, 55, 55, 53, 56, 48, 56]⟩, Ev.step (f := fun _ => some ⟨#[45, 57, 50, 50, 51, 51, 55, 50, 48, 51, 54, 56, 53, 52, 55, 55, 53, 56, 48, 56]⟩) (fun k => ?_) (Ev.now _), ?_⟩
    · simp only [thyrsusref3_Digits.f]
      rw [if_pos (by decide), if_pos trivial]
    · show _ = _
      kernel_rfl
  unfold Lib.itoa
  by_cases h : z < 0
  · rw [if_pos h]
    obtain ⟨b, e, l⟩ := digits_nat z.natAbs (by show z.natAbs < 10000000000000000000; omega)
    have zb : b.size ≤ 19 := by
      rw [← lst_len, l]
      exact dec_len 18 z.natAbs (by show z.natAbs < 10000000000000000000; omega)
    refine ⟨(⟨#[45]⟩ : ByteArray) ++ b, Ev.step (f := fun k => (thyrsusref3_Digits.f k ((z.natAbs : Nat) : Int)).bind fun t212 => (if 1 + t212.size ≤ 9223372036854775807 then (some ((⟨#[45]⟩ : ByteArray) ++ t212)) else (none))) (fun k => ?_) (Ev.bind e ?_), ?_⟩
    · simp only [thyrsusref3_Digits.f]
      rw [if_pos h, if_neg hm, wrap_id (n := -z) (by omega), show -z = ((z.natAbs : Nat) : Int) by omega]
    · simp only [if_pos (show 1 + b.size ≤ 9223372036854775807 by omega)]
      exact Ev.now _
    · rw [lst_append, l]
      rfl
  · rw [if_neg h]
    obtain ⟨n, rfl⟩ := Int.eq_ofNat_of_zero_le (show 0 ≤ z by omega)
    exact digits_nat n (by show n < 10000000000000000000; omega)
theorem rd36 {l : List S36} {i : Nat} (h : i < l.length) : rd_T36 l (i : Int) = l[i] := by simp [rd_T36, h]
theorem cnts_drop {l : List S36} {i : Nat} (h : i < l.length) : cnts36 (l.drop i) = cnt36 l[i] + cnts36 (l.drop (i + 1)) := by
  rw [List.drop_eq_getElem_cons h]; rfl
theorem cnts_mem : ∀ (l : List S36) (x : S36), x ∈ l → cnt36 x ≤ cnts36 l
  | y :: l, x, h => by
    rcases List.mem_cons.1 h with rfl | h
    · simp [cnts36]
    · have := cnts_mem l x h
      simp only [cnts36]
      omega
theorem size_ev {x : S36} (h : WF36 x) : cnt36 x ≤ 1048576 → Ev (fun k => thyrsuslaw12_size.f k x.f0 x.f1 x.f2) (cnt36 x : Int) := by
  induction h with
  | mk a b l ha hb hn hl ih =>
    intro hs
    simp only [cnt36] at hs
    have loop : ∀ (d i : Nat) (n : Int), i + d = l.length → 0 ≤ n → n + (cnts36 (l.drop i) : Int) = 1 + (cnts36 l : Int) → Ev (fun k => thyrsuslaw12_size.l0 k n (i : Int) a b l) (1 + (cnts36 l : Int)) := by
      intro d
      induction d with
      | zero =>
        intro i n hi h0 hc
        rw [List.drop_of_length_le (by omega)] at hc
        simp only [cnts36] at hc
        obtain rfl : n = 1 + (cnts36 l : Int) := by omega
        refine Ev.step (f := fun _ => some (1 + (cnts36 l : Int))) (fun k => ?_) (Ev.now _)
        simp only [thyrsuslaw12_size.l0]
        rw [if_neg (by omega)]
      | succ d ihd =>
        intro i n hi h0 hc
        have hil : i < l.length := by omega
        rw [cnts_drop hil] at hc
        have hm := cnts_mem l l[i] (List.getElem_mem hil)
        have e1 := ih l[i] (List.getElem_mem hil) (by omega)
        have e2 := ihd (i + 1) (n + (cnt36 l[i] : Int)) (by omega) (by omega) (by omega)
        refine Ev.step (f := fun k => (thyrsuslaw12_size.f k l[i].f0 l[i].f1 l[i].f2).bind fun t => thyrsuslaw12_size.l0 k (wrap64 (n + t)) (wrap64 ((i : Int) + 1)) a b l) (fun k => ?_) (Ev.bind e1 ?_)
        · simp only [thyrsuslaw12_size.l0]
          rw [if_pos (by omega), if_pos (by omega), rd36 hil]
        · rw [wrap_id (n := n + (cnt36 l[i] : Int)) (by omega), wrap_id (n := (i : Int) + 1) (by omega)]
          exact e2
    have := loop l.length 0 1 (by omega) (by omega) (by simp)
    refine Ev.step (f := fun k => thyrsuslaw12_size.l0 k 1 0 a b l) (fun k => by simp only [thyrsuslaw12_size.f]) ?_
    simp only [cnt36]
    rw [show ((1 + cnts36 l : Nat) : Int) = 1 + (cnts36 l : Int) by omega]
    exact this
theorem lst_mk (l : List UInt8) : lst ⟨l.toArray⟩ = l := by simp [lst]
theorem itoa_f {z : Int} (h : -9223372036854775808 ≤ z ∧ z ≤ 9223372036854775807) : strconv_Itoa.f z = some ⟨(Lib.itoa z).toArray⟩ := by
  unfold strconv_Itoa.f
  rw [if_pos h]
theorem texts_ev {x : S36} (h : WF36 x) : cnt36 x ≤ 1048576 → ∃ b : ByteArray, Ev (fun k => run_Text.f k x.f0 x.f1 x.f2) b ∧ Ev (fun k => thyrsusref12_Text.f k x.f0 x.f1 x.f2) b ∧ b.size ≤ 24 * cnt36 x := by
  induction h with
  | mk a b l ha hb hn hl ih =>
    intro hs
    simp only [cnt36] at hs ⊢
    by_cases h1 : a = 1
    · subst h1
      have hz := i64_of hb
      obtain ⟨s, e, hl_⟩ := digits_ev hz
      have es : s = ⟨(Lib.itoa b).toArray⟩ := lst_inj (by rw [hl_, lst_mk])
      refine ⟨s, Ev.step (f := fun _ => some s) (fun k => ?_) (Ev.now _), Ev.step (f := fun k => (thyrsusref3_Digits.f k b).bind fun t => some t) (fun k => ?_) (Ev.bind e (Ev.now _)), ?_⟩
      · simp only [run_Text.f, if_true]
        rw [itoa_f hz, es]
        rfl
      · simp only [thyrsusref12_Text.f, if_true]
      · have := itoa_len hz
        rw [← lst_len, hl_]
        omega
    · have fn : ∀ (k : Nat) (b_ : Bool), b_ = false → run_Text.j0 (k + 1) b_ a b l = some ⟨#[102, 110]⟩ ∧ thyrsusref12_Text.j0 (k + 1) b_ a b l = some ⟨#[102, 110]⟩ := by
        rintro k _ rfl
        simp only [run_Text.j0, thyrsusref12_Text.j0]
        exact ⟨rfl, rfl⟩
      by_cases h2 : a = 2
      · subst h2
        by_cases h3 : l.length = 2
        · match l, h3, hs, ih with
          | [y, z], _, hs, ih =>
            simp only [cnts36] at hs
            obtain ⟨s, e1, e2, e3⟩ := ih y (by simp) (by omega)
            obtain ⟨t, g1, g2, g3⟩ := ih z (by simp) (by omega)
            have z1 : (⟨#[40]⟩ : ByteArray).size = 1 := rfl
            have z2 : (⟨#[44, 32]⟩ : ByteArray).size = 2 := rfl
            have z3 : (⟨#[41]⟩ : ByteArray).size = 1 := rfl
            have q1 : 1 + s.size ≤ 9223372036854775807 := by omega
            have q2 : ((⟨#[40]⟩ : ByteArray) ++ s).size + 2 ≤ 9223372036854775807 := by rw [ByteArray.size_append]; omega
            have q3 : (((⟨#[40]⟩ : ByteArray) ++ s) ++ (⟨#[44, 32]⟩ : ByteArray)).size + t.size ≤ 9223372036854775807 := by rw [ByteArray.size_append, ByteArray.size_append]; omega
            have q4 : ((((⟨#[40]⟩ : ByteArray) ++ s) ++ (⟨#[44, 32]⟩ : ByteArray)) ++ t).size + 1 ≤ 9223372036854775807 := by rw [ByteArray.size_append, ByteArray.size_append, ByteArray.size_append]; omega
            refine ⟨((((⟨#[40]⟩ : ByteArray) ++ s) ++ (⟨#[44, 32]⟩ : ByteArray)) ++ t) ++ (⟨#[41]⟩ : ByteArray), ?_, ?_, ?_⟩
            · refine Ev.step (f := fun k => run_Text.j0 k true 2 b [y, z]) (fun k => by simp only [run_Text.f]; rfl) ?_
              refine Ev.step (f := fun k => (run_Text.f k y.f0 y.f1 y.f2).bind fun t104 => (if 1 + t104.size ≤ 9223372036854775807 then (if ((⟨#[40]⟩ : ByteArray) ++ t104).size + 2 ≤ 9223372036854775807 then ((run_Text.f k z.f0 z.f1 z.f2).bind fun t106 => (if (((⟨#[40]⟩ : ByteArray) ++ t104) ++ (⟨#[44, 32]⟩ : ByteArray)).size + t106.size ≤ 9223372036854775807 then (if ((((⟨#[40]⟩ : ByteArray) ++ t104) ++ (⟨#[44, 32]⟩ : ByteArray)) ++ t106).size + 1 ≤ 9223372036854775807 then (some (((((⟨#[40]⟩ : ByteArray) ++ t104) ++ (⟨#[44, 32]⟩ : ByteArray)) ++ t106) ++ (⟨#[41]⟩ : ByteArray))) else (none)) else (none))) else (none)) else (none))) (fun k => by simp only [run_Text.j0]; rfl) (Ev.bind e1 ?_)
              simp only [if_pos q1, if_pos q2]
              refine Ev.bind g1 ?_
              simp only [if_pos q3, if_pos q4]
              exact Ev.now _
            · refine Ev.step (f := fun k => thyrsusref12_Text.j0 k true 2 b [y, z]) (fun k => by simp only [thyrsusref12_Text.f]; rfl) ?_
              refine Ev.step (f := fun k => (thyrsusref12_Text.f k y.f0 y.f1 y.f2).bind fun t104 => (if 1 + t104.size ≤ 9223372036854775807 then (if ((⟨#[40]⟩ : ByteArray) ++ t104).size + 2 ≤ 9223372036854775807 then ((thyrsusref12_Text.f k z.f0 z.f1 z.f2).bind fun t106 => (if (((⟨#[40]⟩ : ByteArray) ++ t104) ++ (⟨#[44, 32]⟩ : ByteArray)).size + t106.size ≤ 9223372036854775807 then (if ((((⟨#[40]⟩ : ByteArray) ++ t104) ++ (⟨#[44, 32]⟩ : ByteArray)) ++ t106).size + 1 ≤ 9223372036854775807 then (some (((((⟨#[40]⟩ : ByteArray) ++ t104) ++ (⟨#[44, 32]⟩ : ByteArray)) ++ t106) ++ (⟨#[41]⟩ : ByteArray))) else (none)) else (none))) else (none)) else (none))) (fun k => by simp only [thyrsusref12_Text.j0]; rfl) (Ev.bind e2 ?_)
              simp only [if_pos q1, if_pos q2]
              refine Ev.bind g2 ?_
              simp only [if_pos q3, if_pos q4]
              exact Ev.now _
            · rw [ByteArray.size_append, ByteArray.size_append, ByteArray.size_append, ByteArray.size_append]
              simp only [cnts36]
              omega
        · have hb_ : ((l.length : Int) == 2) = false := by rw [beq_eq_false_iff_ne]; omega
          refine ⟨⟨#[102, 110]⟩, ⟨2, fun k hk => ?_⟩, ⟨2, fun k hk => ?_⟩, by show 2 ≤ _; omega⟩
          · obtain ⟨m, rfl⟩ : ∃ m, k = m + 1 + 1 := ⟨k - 2, by omega⟩
            simp only [run_Text.f, if_true]
            rw [if_neg (by decide)]
            exact (fn m _ hb_).1
          · obtain ⟨m, rfl⟩ : ∃ m, k = m + 1 + 1 := ⟨k - 2, by omega⟩
            simp only [thyrsusref12_Text.f, if_true]
            rw [if_neg (by decide)]
            exact (fn m _ hb_).2
      · refine ⟨⟨#[102, 110]⟩, ⟨2, fun k hk => ?_⟩, ⟨2, fun k hk => ?_⟩, by show 2 ≤ _; omega⟩
        · obtain ⟨m, rfl⟩ : ∃ m, k = m + 1 + 1 := ⟨k - 2, by omega⟩
          simp only [run_Text.f]
          rw [if_neg h1, if_neg h2]
          exact (fn m _ rfl).1
        · obtain ⟨m, rfl⟩ : ∃ m, k = m + 1 + 1 := ⟨k - 2, by omega⟩
          simp only [thyrsusref12_Text.f]
          rw [if_neg h1, if_neg h2]
          exact (fn m _ rfl).2
theorem within11_ex {a n : Int} (ha : -9223372036854775808 ≤ a ∧ a ≤ 9223372036854775807) (h0 : 0 < n) (hn : n ≤ 4611686018427387904) : ∃ t : Nat, (t : Int) < n ∧ thyrsuslaw11_within.f a n = some (t : Int) := within_ex ha h0 hn
theorem wf_of {n : Int} (h : -9223372036854775808 ≤ n ∧ n ≤ 9223372036854775807) : (Lit.int .i64 n).wf = true := by
  have h1 : IntKind.i64.min ≤ n ∧ n ≤ 9223372036854775807 := h
  simpa [Lit.wf] using h1
theorem wrap_range (n : Int) : -9223372036854775808 ≤ wrap64 n ∧ wrap64 n ≤ 9223372036854775807 := by
  unfold wrap64
  omega
theorem val_ev {ns : List Int} (hns : ∀ x ∈ ns, (Lit.int .i64 x).wf = true) (hl : ns.length ≤ 140737488351232) : ∀ (d : Nat) (t : S29), Ty d t → ∀ at_ : Int, -9223372036854775808 ≤ at_ ∧ at_ ≤ 9223372036854775807 →
    ∃ x : S36, Ev (fun k => thyrsuslaw11_Val.f k t.f0 t.f1 t.f2 ns at_) (x.f0, x.f1, x.f2) ∧ WF36 x ∧ cnt36 x + 1 ≤ 2 ^ (d + 1) := by
  have leaf : ∀ at_ : Int, -9223372036854775808 ≤ at_ ∧ at_ ≤ 9223372036854775807 → ∃ x : S36, Ev (fun k => thyrsuslaw11_Val.f k 15 0 [] ns at_) (x.f0, x.f1, x.f2) ∧ WF36 x ∧ cnt36 x = 1 := by
    intro at_ ha
    by_cases h : (ns.length : Int) = 0
    · refine ⟨⟨1, at_, []⟩, Ev.step (f := fun _ => some (1, at_, [])) (fun k => ?_) (Ev.now _), WF36.mk _ _ _ (by decide) (wf_of ha) (by simp) (by simp), by simp [cnt36, cnts36]⟩
      simp only [thyrsuslaw11_Val.f, if_true]
      rw [if_pos h]
    · obtain ⟨t, h1, h2⟩ := within11_ex ha (show 0 < (ns.length : Int) by omega) (by omega)
      have hlt : t < ns.length := by omega
      have hrd : rd ns (t : Int) = ns[t] := by simp [rd, hlt]
      refine ⟨⟨1, rd ns t, []⟩, Ev.step (f := fun _ => some (1, rd ns t, [])) (fun k => ?_) (Ev.now _), WF36.mk _ _ _ (by decide) (by rw [hrd]; exact hns _ (List.getElem_mem hlt)) (by simp) (by simp), by simp [cnt36, cnts36]⟩
      simp only [thyrsuslaw11_Val.f, if_true]
      rw [if_neg h, h2, Option.bind_some, if_pos (by omega), if_pos (by omega)]
  intro d
  induction d with
  | zero =>
    rintro t rfl at_ ha
    obtain ⟨x, e, h1, h2⟩ := leaf at_ ha
    exact ⟨x, e, h1, by omega⟩
  | succ d ih =>
    intro t ht at_ ha
    have hp : 2 ^ (d + 1 + 1) = 2 ^ (d + 1) + 2 ^ (d + 1) := by rw [Nat.pow_succ]; omega
    have hp1 : 2 ≤ 2 ^ (d + 1) := by
      have := Nat.pow_le_pow_right (show 0 < 2 by decide) (show 1 ≤ d + 1 by omega)
      omega
    rcases ht with rfl | ⟨o, a, b, ho, rfl, hta, htb⟩
    · obtain ⟨x, e, h1, h2⟩ := leaf at_ ha
      exact ⟨x, e, h1, by omega⟩
    · rcases ho with rfl | rfl
      · refine ⟨⟨3, 0, []⟩, Ev.step (f := fun _ => some (3, 0, [])) (fun k => ?_) (Ev.now _), WF36.mk _ _ _ (by decide) (by decide) (by simp) (by simp), by simp only [cnt36, cnts36]; omega⟩
        simp only [thyrsuslaw11_Val.f]
        rw [if_neg (by decide), if_pos trivial]
      · obtain ⟨x, e1, w1, z1⟩ := ih a hta (wrap64 (wrap64 (2 * at_) + 1)) (wrap_range _)
        obtain ⟨y, e2, w2, z2⟩ := ih b htb (wrap64 (wrap64 (2 * at_) + 2)) (wrap_range _)
        refine ⟨⟨2, 0, [x, y]⟩, Ev.step (f := fun k => (thyrsuslaw11_Val.f k a.f0 a.f1 a.f2 ns (wrap64 (wrap64 (2 * at_) + 1))).bind fun bt128 => (thyrsuslaw11_Val.f k b.f0 b.f1 b.f2 ns (wrap64 (wrap64 (2 * at_) + 2))).bind fun bt134 => (some (2, 0, [(⟨bt128.1, bt128.2.1, bt128.2.2⟩ : S36), (⟨bt134.1, bt134.2.1, bt134.2.2⟩ : S36)]))) (fun k => ?_) (Ev.bind e1 (Ev.bind e2 ?_)), WF36.mk _ _ _ (by decide) (by decide) (by simp) (by simp [w1, w2]), by simp only [cnt36, cnts36]; omega⟩
        · simp only [thyrsuslaw11_Val.f]
          rw [if_neg (by decide), if_neg (by decide), if_pos (by simp)]
          rfl
        · rw [show (⟨x.f0, x.f1, x.f2⟩ : S36) = x by cases x; rfl, show (⟨y.f0, y.f1, y.f2⟩ : S36) = y by cases y; rfl]
          exact Ev.now _
end Go.Proofs.YtnecmclnokikoaaDoor.Pure
namespace Go.Proofs.YtnecmclnokikoaaDoor.P
open Go.RowKit Go.Proofs.YtnecmclnokikoaaDoor.Pure Go.Proofs.YtnecmclnokikoaaDoorW.PrintWords Go.Proofs.YtnecmclnokikoaaDoorW.PrintLast Go.Proofs.YtnecmclnokikoaaDoorW.PrintMore
set_option linter.unusedVariables false
theorem row_Cp {k : IntKind} {w : World} {a : Option Addr} {len cap : Nat} {zs : List Int} (h : (a = none ∧ len = 0 ∧ cap = 0 ∧ zs = []) ∨ ∃ x, a = some x ∧ len ≤ cap ∧ cap ≤ maxLen ∧ zs.length = cap ∧ (∀ i, i < zs.length → w.cell? (x.add i) = some (.int k (zs.getD i 0))) ∧ ∀ n ∈ zs, (Lit.int k n).wf = true) :
    ∃ l : List Int, len = l.length ∧ l.length ≤ cap ∧ Kd.C (Kd.int k) w a l.length l ∧ ∀ x ∈ l, (Lit.int k x).wf = true := by
  obtain ⟨l, h1, h2, h3, h4⟩ := ReadsInt.ofRow h
  refine ⟨l, h1, ?_, Kd.C_of_reads (enc := Value.int k) (d := (0 : Int)) h2, h4⟩
  rcases h with ⟨_, h5, h6, _⟩ | ⟨_, _, h5, _⟩ <;> omega

theorem runTexts_walk {W : World} (v : S36) (A : Option Addr) (c : Nat) (hc : v.f2.length ≤ c) (hC : Kd.C k36 W A v.f2.length v.f2) (wv : WF36 v) (hb : cnt36 v ≤ 1048576)
    (q : S24) (Aq : Option Addr) (cq : Nat) (hcq : q.f2.length ≤ cq) (hCq : Kd.C k24 W Aq q.f2.length q.f2) (wq : WF24 q)
    (a2 : Option Addr) (len2 cap2 : Nat) (z2 : List Int) (h2 : (a2 = none ∧ len2 = 0 ∧ cap2 = 0 ∧ z2 = []) ∨ ∃ x, a2 = some x ∧ len2 ≤ cap2 ∧ cap2 ≤ maxLen ∧ z2.length = cap2 ∧ (∀ i, i < z2.length → W.cell? (x.add i) = some (.int .i64 (z2.getD i 0))) ∧ ∀ n ∈ z2, (Lit.int .i64 n).wf = true) (y2 : len2 * 8 ≤ 140737488351232)
    (n : Int) (wn : (Lit.int .i64 n).wf = true) (hT : TabP W) :
    Calls Tryd.prog 4 #[.agg #[.int .i64 v.f0, .int .i64 v.f1, .slice A v.f2.length c], .agg #[.int .i64 q.f0, .int .i64 q.f1, .slice Aq q.f2.length cq], .slice a2 len2 cap2, .int .i64 n] W fun e w' => e = .returned (.bool true) ∧ Below W.heap.size W w' := by
  obtain ⟨l, rfl, e2, C2, r2⟩ := row_Cp h2
  obtain ⟨K1, k1⟩ := known_ev
  obtain ⟨few, ⟨K2, k2⟩, _⟩ := few_ev wq
  obtain ⟨K3, k3⟩ := size_ev wv hb
  obtain ⟨bv, ⟨K4, k4⟩, ⟨K5, k5⟩, _⟩ := texts_ev wv hb
  obtain ⟨bn, ⟨K6, k6⟩, hbn⟩ := digits_ev (i64_of wn)
  have e6 : (⟨(Lib.itoa n).toArray⟩ : ByteArray) = bn := lst_inj (by rw [hbn, lst_mk])
  have hV : ∀ t, Ty 4 t → ∃ (kx : Nat) (x : S36), thyrsuslaw11_Val.f kx t.f0 t.f1 t.f2 l 0 = some (x.f0, x.f1, x.f2) ∧ ∃ b, run_Text.f kx x.f0 x.f1 x.f2 = some b ∧ thyrsusref12_Text.f kx x.f0 x.f1 x.f2 = some b := by
    intro t ht
    obtain ⟨x, ⟨K, k⟩, wx, cx⟩ := val_ev r2 (by omega) 4 t ht 0 (by decide)
    obtain ⟨b, ⟨J, j⟩, ⟨J', j'⟩, _⟩ := texts_ev wx (by simp at cx; omega)
    exact ⟨K + J + J', x, k _ (by omega), b, j _ (by omega), j' _ (by omega)⟩
  obtain ⟨kk, hkk⟩ : ∃ m, m = K1 + K2 + K3 + K4 + K5 + K6 + 1 := ⟨_, rfl⟩
  cases few with
  | false => exact runTexts_few kk v A c q Aq cq a2 cap2 l n W hT hc hC hcq hCq e2 C2 (k1 kk (by omega)) (k2 kk (by omega))
  | true =>
    by_cases hz : (cnt36 v : Int) > 300
    · exact runTexts_big kk v A c q Aq cq a2 cap2 l n W hT hc hC hcq hCq e2 C2 (k1 kk (by omega)) _ (k2 kk (by omega)) (k3 kk (by omega)) hz
    · refine runTexts_main kk v A c q Aq cq a2 cap2 l n W hT hc hC hcq hCq e2 C2 (k1 kk (by omega)) _ (k2 kk (by omega)) (k3 kk (by omega)) hz bv bn (k4 kk (by omega)) (k5 kk (by omega)) ?_ (k6 kk (by omega)) hV
      obtain ⟨m, rfl⟩ : ∃ m, kk = m + 1 := ⟨kk - 1, by omega⟩
      simp only [run_Text.f, if_true]
      rw [itoa_f (i64_of wn), e6]
      rfl
end Go.Proofs.YtnecmclnokikoaaDoor.P
/- The rows' condition on listed variables, for strconv's table of powers of ten. -/
namespace Go.Proofs.YtnecmclnokikoaaDoor.P
theorem tabP_of {W : World} (h : laidMetH Tryd.prog Rows.runTextsUptoRow.laid W) : TabP W := by
  have h' : laidMet Tryd.prog Rows.runTextsUptoRow.laid W := h
  obtain ⟨ps, ⟨g1, t1, c1, f1, p1, q1, _, _, _, _, ⟨g2, t2, c2, f2, p2, q2, _, _, _, _, ⟨g, t, cs, fuel, p, q, hg, ht, hvar, hd, _, _⟩, _⟩, _⟩, _⟩ := h'
  have hg1 : Tryd.prog.globalNamed "internal/strconv.uint64pow10" = some 0 := by kernel_rfl
  obtain rfl := Option.some.inj (hg1.symm.trans hg)
  have ht1 : (Tryd.prog.globals[0]?).map (·.type) = some 146 := by kernel_rfl
  obtain rfl := Option.some.inj (ht1.symm.trans ht)
  have e := Lib.cells_of_tab (n := 20) (k := .u64) (zs := Lib.pow10Tab) Tryd.underlying146 Tryd.underlying139 (by kernel_rfl) (by kernel_rfl) hd
  unfold TabP Lib.TabIs
  rw [hvar, ← e]
end Go.Proofs.YtnecmclnokikoaaDoor.P
