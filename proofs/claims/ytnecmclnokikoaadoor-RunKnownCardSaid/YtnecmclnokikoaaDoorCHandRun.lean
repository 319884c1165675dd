/- Package run: Run; its contract in the print's form. -/
import Derived.Test.YtnecmclnokikoaaDoorCHandI
import Derived.Test.YtnecmclnokikoaaDoorCHandC
import Derived.Test.YtnecmclnokikoaaDoorCHandJ
namespace Go.Proofs.YtnecmclnokikoaaDoor.Run
open Go.RowKit Go.Proofs.YtnecmclnokikoaaDoor.P Go.Proofs.YtnecmclnokikoaaDoorW.PrintWords Go.Proofs.YtnecmclnokikoaaDoorW.PrintLast Go.Proofs.YtnecmclnokikoaaDoorW.PrintMore
set_option linter.unusedVariables false
set_option linter.unusedSimpArgs false
theorem at_two (w : World) (o o2 : Obj) : ((w.alloc o).alloc o2).heap[w.heap.size + 1]? = some o2 := by
  have h := blk_new (w.alloc o) o2
  rw [size_alloc] at h
  exact h
theorem at_one (w : World) (o o2 : Obj) : ((w.alloc o).alloc o2).heap[w.heap.size]? = some o := blk_alloc (blk_new w o) o2
theorem below_two (w : World) (o o2 : Obj) : Below w.heap.size w ((w.alloc o).alloc o2) := below_alloc (below_alloc (Below.refl _ _) _) _
set_option maxHeartbeats 16000000 in
set_option maxRecDepth 100000 in
theorem run_low {w : World} {t : S29} {A : Option Addr} {c : Nat} {fuel : Int} (hc : t.f2.length ≤ c) (hC : Kd.C k29 w A t.f2.length t.f2) (h : fuel < 0) :
    Calls Tryd.prog 10 #[.agg #[.int .i64 t.f0, .int .i64 t.f1, .slice A t.f2.length c], .int .i64 fuel] w fun e w' => ∃ vl, e = .returned (.tuple #[.agg #[.int .i64 (0), .int .i64 (0), vl], .int .i64 (0), .int .i64 (1)]) ∧ Kd.R k36 36 w' w.heap.size (fun _ => True) vl ([]) ∧ Below w.heap.size w w' := by
  have hu36 := Tryd.underlying36
  have g1 : (fuel < 0) = True := eq_true h
  have g2 : decide (fuel < 0) = true := decide_eq_true h
  clear h hc hC
  go_enter Tryd.func10, Tryd.ntmps10
  go_wp2
  have m0 := (blk_cell (at_two w (.cells #[.int .i64 t.f0, .int .i64 t.f1, .slice A t.f2.length c] 29) (.cells #[.int .i64 0, .int .i64 0, .slice none 0 0] 36)) 0).trans rfl
  have m1 := (blk_cell (at_two w (.cells #[.int .i64 t.f0, .int .i64 t.f1, .slice A t.f2.length c] 29) (.cells #[.int .i64 0, .int .i64 0, .slice none 0 0] 36)) 1).trans rfl
  have m2 := (blk_cell (at_two w (.cells #[.int .i64 t.f0, .int .i64 t.f1, .slice A t.f2.length c] 29) (.cells #[.int .i64 0, .int .i64 0, .slice none 0 0] 36)) 2).trans rfl
  refine bodyPost_ret (v := .tuple #[.agg #[.int .i64 0, .int .i64 0, .slice none 0 0], .int .i64 0, .int .i64 1]) (by simp [-World.alloc_eq, results, Tryd.results10, go_sem, hu36, m0, m1, m2]) rfl ?_
  exact ⟨_, rfl, Kd.R_nil _ _ _ _ _, below_two _ _ _⟩
set_option maxHeartbeats 16000000 in
set_option maxRecDepth 100000 in
theorem run_high {w : World} {t : S29} {A : Option Addr} {c : Nat} {fuel : Int} (hc : t.f2.length ≤ c) (hC : Kd.C k29 w A t.f2.length t.f2) (h : ¬ fuel < 0) (h2 : fuel > 65536) :
    Calls Tryd.prog 10 #[.agg #[.int .i64 t.f0, .int .i64 t.f1, .slice A t.f2.length c], .int .i64 fuel] w fun e w' => ∃ vl, e = .returned (.tuple #[.agg #[.int .i64 (0), .int .i64 (0), vl], .int .i64 (0), .int .i64 (1)]) ∧ Kd.R k36 36 w' w.heap.size (fun _ => True) vl ([]) ∧ Below w.heap.size w w' := by
  have hu36 := Tryd.underlying36
  have g1 : (fuel < 0) = False := eq_false h
  have g2 : decide (fuel < 0) = false := decide_eq_false h
  have g3 : (65536 < fuel) = True := eq_true h2
  have g4 : decide (65536 < fuel) = true := decide_eq_true h2
  clear h h2 hc hC
  go_enter Tryd.func10, Tryd.ntmps10
  go_wp2
  have m0 := (blk_cell (at_two w (.cells #[.int .i64 t.f0, .int .i64 t.f1, .slice A t.f2.length c] 29) (.cells #[.int .i64 0, .int .i64 0, .slice none 0 0] 36)) 0).trans rfl
  have m1 := (blk_cell (at_two w (.cells #[.int .i64 t.f0, .int .i64 t.f1, .slice A t.f2.length c] 29) (.cells #[.int .i64 0, .int .i64 0, .slice none 0 0] 36)) 1).trans rfl
  have m2 := (blk_cell (at_two w (.cells #[.int .i64 t.f0, .int .i64 t.f1, .slice A t.f2.length c] 29) (.cells #[.int .i64 0, .int .i64 0, .slice none 0 0] 36)) 2).trans rfl
  refine bodyPost_ret (v := .tuple #[.agg #[.int .i64 0, .int .i64 0, .slice none 0 0], .int .i64 0, .int .i64 1]) (by simp [-World.alloc_eq, results, Tryd.results10, go_sem, hu36, m0, m1, m2]) rfl ?_
  exact ⟨_, rfl, Kd.R_nil _ _ _ _ _, below_two _ _ _⟩
set_option maxHeartbeats 16000000 in
set_option maxRecDepth 100000 in
theorem run_check {w : World} {t : S29} {A : Option Addr} {c : Nat} {fuel : Int} (hc : t.f2.length ≤ c) (hC : Kd.C k29 w A t.f2.length t.f2) {d : Nat} (hd : Aside0 (d = 120)) (h : ¬ fuel < 0) (h2 : ¬ fuel > 65536) (h3 : (chk d t 0).2 ≠ 0) :
    Calls Tryd.prog 10 #[.agg #[.int .i64 t.f0, .int .i64 t.f1, .slice A t.f2.length c], .int .i64 fuel] w fun e w' => ∃ vl, e = .returned (.tuple #[.agg #[.int .i64 (0), .int .i64 (0), vl], .int .i64 (0), .int .i64 (1)]) ∧ Kd.R k36 36 w' w.heap.size (fun _ => True) vl ([]) ∧ Below w.heap.size w w' := by
  have hu36 := Tryd.underlying36
  have g1 : (fuel < 0) = False := eq_false h
  have g2 : decide (fuel < 0) = false := decide_eq_false h
  have g3 : (65536 < fuel) = False := eq_false h2
  have g4 : decide (65536 < fuel) = false := decide_eq_false h2
  have C25 := Aside0.mk (fun (w1 : World) (hb : Below w.heap.size w w1) => check25 (w := w1) hd hc (Kd.C_below hC hb))
  have y1 : ((chk d t 0).2 = 0) = False := eq_false h3
  have y2 : ((chk d t 0).2 == 0) = false := by simpa using h3
  have y3 : ((chk d t 0).2 != 0) = true := by simpa using h3
  have OK25 := Aside0.mk (rfl : (0 : Int) = 0)
  clear h h2 h3 hc hC
  go_enter Tryd.func10, Tryd.ntmps10
  go_wp2_with (first | (go_at_call 28; (with_reducible refine (C25.out _ (below_two _ _ _)).mono ?_); rintro en w2 ⟨rfl, hb2⟩; have T2 := Aside0.mk (blk_below (at_one w (.cells #[.int .i64 t.f0, .int .i64 t.f1, .slice A t.f2.length c] 29) (.cells #[.int .i64 0, .int .i64 0, .slice none 0 0] 36)) hb2); have Z2 := Aside0.mk (blk_below (at_two w (.cells #[.int .i64 t.f0, .int .i64 t.f1, .slice A t.f2.length c] 29) (.cells #[.int .i64 0, .int .i64 0, .slice none 0 0] 36)) hb2); have B2 := Aside0.mk (below_step (below_two w (.cells #[.int .i64 t.f0, .int .i64 t.f1, .slice A t.f2.length c] 29) (.cells #[.int .i64 0, .int .i64 0, .slice none 0 0] 36)) hb2); clear hb2; (try rw [OK25.out]); have z0 : w2.cell? ⟨w.heap.size + 1, 0, none⟩ = some (.int .i64 0) := (blk_cell Z2.out 0).trans rfl; have z1 : w2.cell? ⟨w.heap.size + 1, 1, none⟩ = some (.int .i64 0) := (blk_cell Z2.out 1).trans rfl; have z2 : w2.cell? ⟨w.heap.size + 1, 2, none⟩ = some (.slice none 0 0) := (blk_cell Z2.out 2).trans rfl; have x0 : w2.cell? ⟨w.heap.size, 0, none⟩ = some (.int .i64 t.f0) := (blk_cell T2.out 0).trans rfl; have x1 : w2.cell? ⟨w.heap.size, 1, none⟩ = some (.int .i64 t.f1) := (blk_cell T2.out 1).trans rfl; have x2 : w2.cell? ⟨w.heap.size, 2, none⟩ = some (.slice A t.f2.length c) := (blk_cell T2.out 2).trans rfl; have fz0 := blk_frozen Z2.out 0; have fz1 := blk_frozen Z2.out 1; have fz2 := blk_frozen Z2.out 2))
  have m0 := (blk_cell (put3_ (a' := .int .i64 0) (b' := .int .i64 0) (c' := .slice none 0 0) Z2.out) 0).trans rfl
  have m1 := (blk_cell (put3_ (a' := .int .i64 0) (b' := .int .i64 0) (c' := .slice none 0 0) Z2.out) 1).trans rfl
  have m2 := (blk_cell (put3_ (a' := .int .i64 0) (b' := .int .i64 0) (c' := .slice none 0 0) Z2.out) 2).trans rfl
  refine bodyPost_ret (v := .tuple #[.agg #[.int .i64 0, .int .i64 0, .slice none 0 0], .int .i64 0, .int .i64 1]) (by simp [results, Tryd.results10, go_sem, hu36, m0, m1, m2]) rfl ?_
  exact ⟨_, rfl, Kd.R_nil _ _ _ _ _, below_set (below_set (below_set B2.out (Nat.le_succ _)) (Nat.le_succ _)) (Nat.le_succ _)⟩
set_option maxHeartbeats 16000000 in
set_option maxRecDepth 100000 in
theorem run_err {w : World} {t : S29} {A : Option Addr} {c : Nat} {fuel : Int} (hc : t.f2.length ≤ c) (hC : Kd.C k29 w A t.f2.length t.f2) {d : Nat} (hd : Aside0 (d = 120)) (h : ¬ fuel < 0) (h2 : ¬ fuel > 65536) (h3 : (chk d t 0).2 = 0) {k : Nat} {v : V} {st : Int} {er : Int} (he : ev fuel k .nil t 0 0 = some (v, st, er)) (hz : er ≠ 0) :
    Calls Tryd.prog 10 #[.agg #[.int .i64 t.f0, .int .i64 t.f1, .slice A t.f2.length c], .int .i64 fuel] w fun e w' => ∃ vl, e = .returned (.tuple #[.agg #[.int .i64 (0), .int .i64 (0), vl], .int .i64 (st), .int .i64 (er)]) ∧ Kd.R k36 36 w' w.heap.size (fun _ => True) vl ([]) ∧ Below w.heap.size w w' := by
  have hu36 := Tryd.underlying36
  have g1 : (fuel < 0) = False := eq_false h
  have g2 : decide (fuel < 0) = false := decide_eq_false h
  have g3 : (65536 < fuel) = False := eq_false h2
  have g4 : decide (65536 < fuel) = false := decide_eq_false h2
  have C25 := Aside0.mk (fun (w1 : World) (hb : Below w.heap.size w w1) => check25 (w := w1) hd hc (Kd.C_below hC hb))
  have C26 := Aside0.mk (fun (w1 : World) (gm : Nat) (h1 : Inv w w1 gm 0 fuel 0) => eval26 fuel k (ok := fun _ => False) (e := .nil) (pe := .pointer none) h1 rfl (fun _ h => h.elim) hc hC he)
  have OK25 := Aside0.mk h3
  have y1 : (er = 0) = False := eq_false hz
  have y2 : (er == 0) = false := by simpa using hz
  have y3 : (er != 0) = true := by simpa using hz
  clear h h2 h3 hc hC hz he
  go_enter Tryd.func10, Tryd.ntmps10
  go_wp2_with (first | (go_at_call 28; (with_reducible refine (C25.out _ (below_two _ _ _)).mono ?_); rintro en w2 ⟨rfl, hb2⟩; have T2 := Aside0.mk (blk_below (at_one w (.cells #[.int .i64 t.f0, .int .i64 t.f1, .slice A t.f2.length c] 29) (.cells #[.int .i64 0, .int .i64 0, .slice none 0 0] 36)) hb2); have Z2 := Aside0.mk (blk_below (at_two w (.cells #[.int .i64 t.f0, .int .i64 t.f1, .slice A t.f2.length c] 29) (.cells #[.int .i64 0, .int .i64 0, .slice none 0 0] 36)) hb2); have B2 := Aside0.mk (below_step (below_two w (.cells #[.int .i64 t.f0, .int .i64 t.f1, .slice A t.f2.length c] 29) (.cells #[.int .i64 0, .int .i64 0, .slice none 0 0] 36)) hb2); clear hb2; (try rw [OK25.out]); have z0 : w2.cell? ⟨w.heap.size + 1, 0, none⟩ = some (.int .i64 0) := (blk_cell Z2.out 0).trans rfl; have z1 : w2.cell? ⟨w.heap.size + 1, 1, none⟩ = some (.int .i64 0) := (blk_cell Z2.out 1).trans rfl; have z2 : w2.cell? ⟨w.heap.size + 1, 2, none⟩ = some (.slice none 0 0) := (blk_cell Z2.out 2).trans rfl; have x0 : w2.cell? ⟨w.heap.size, 0, none⟩ = some (.int .i64 t.f0) := (blk_cell T2.out 0).trans rfl; have x1 : w2.cell? ⟨w.heap.size, 1, none⟩ = some (.int .i64 t.f1) := (blk_cell T2.out 1).trans rfl; have x2 : w2.cell? ⟨w.heap.size, 2, none⟩ = some (.slice A t.f2.length c) := (blk_cell T2.out 2).trans rfl; have fz0 := blk_frozen Z2.out 0; have fz1 := blk_frozen Z2.out 1; have fz2 := blk_frozen Z2.out 2) | ((with_reducible refine gate_dst (N := 22) rfl ?_); refine box_event ?hg (N := 22) ?hd (cs := #[.int .i64 0, .int .i64 fuel, .int .i64 0]) (t := 66) ?hr ?_; (case hd => rfl); (case hg => rfl); (case hr => first | (go_simp; done) | (go_simp; rfl)); intro gm hgm w3 hbox hb3; have GM := Aside0.mk hgm; have HI3 : Aside0 (Inv w w3 gm 0 fuel 0) := ⟨⟨hbox, below_step B2.out hb3, by rw [hgm]; exact B2.out.size⟩⟩; have T3 := Aside0.mk (blk_below T2.out hb3); have Z3 := Aside0.mk (blk_below Z2.out hb3); have NE : Aside0 (w.heap.size ≠ gm ∧ w.heap.size + 1 ≠ gm) := ⟨by have h1 := blk_lt T2.out; have h2 := blk_lt Z2.out; omega⟩; clear hbox hb3 z0 z1 z2 x0 x1 x2 fz0 fz1 fz2 hgm; have x0 : w3.cell? ⟨w.heap.size, 0, none⟩ = some (.int .i64 t.f0) := (blk_cell T3.out 0).trans rfl; have x1 : w3.cell? ⟨w.heap.size, 1, none⟩ = some (.int .i64 t.f1) := (blk_cell T3.out 1).trans rfl; have x2 : w3.cell? ⟨w.heap.size, 2, none⟩ = some (.slice A t.f2.length c) := (blk_cell T3.out 2).trans rfl) | (go_at_call 29; (with_reducible refine (C26.out _ _ HI3.out).mono ?_); rintro en w4 ⟨pv, rfl, hv, hi4, hk4⟩; have V4 := Aside0.mk hv; have I4 := Aside0.mk hi4; have Z4 := Aside0.mk (hk4.blk Z3.out NE.out.2 (by simp)); clear x0 x1 x2; have m0_ : w4.cell? ⟨gm, 0, none⟩ = some (.int .i64 st) := (blk_cell hi4.1 0).trans rfl; have m2_ : w4.cell? ⟨gm, 2, none⟩ = some (.int .i64 er) := (blk_cell hi4.1 2).trans rfl; clear hv hi4 hk4))
  have I5 := Aside0.mk (I4.out.below (below_drew (Below.refl _ _)))
  have Z5 := Aside0.mk (blk_drew Z4.out)
  clear m0_ m2_
  refine start_ (n := 12) (S := fun w' => w'.cell? ⟨gm, 0, none⟩ = some (.int .i64 st) ∧ w'.cell? ⟨gm, 2, none⟩ = some (.int .i64 er)) (ds := []) #[false, false, false, false, false, false, false, false, false, false, false, false] (by kernel_rfl) rfl rfl ⟨(blk_cell I5.out.1 0).trans rfl, (blk_cell I5.out.1 2).trans rfl⟩ (fun hHeld => ?_)
  generalize (World.drew w4) = w5 at I5 Z5 hHeld ⊢
  refine pure_ (i := 0) (N := some 31) (v := ?_) (a' := ?_) #[true, false, false, false, false, false, false, false, false, false, false, false] rfl rfl (by kernel_rfl) (fun _ _ _ h => h) (Or.inl ⟨by rfl, ?_⟩) ?_ ?_
  rotate_left
  · intro w'
    go_simp
    with_reducible rfl
  rotate_left
  · simp only [Act.put, List.setIfInBounds_toArray, List.set_cons_zero, List.set_cons_succ, i64_w, i32_w, u8_w, u32_w]
    rfl
  refine pure_ (i := 1) (N := some 32) (v := ?_) (a' := ?_) #[true, true, false, false, false, false, false, false, false, false, false, false] rfl rfl (by kernel_rfl) (fun _ _ _ h => h) (Or.inl ⟨by rfl, ?_⟩) ?_ ?_
  rotate_left
  · intro w'
    go_simp
    with_reducible rfl
  rotate_left
  · simp only [Act.put, List.setIfInBounds_toArray, List.set_cons_zero, List.set_cons_succ, i64_w, i32_w, u8_w, u32_w]
    rfl
  refine pure_ (i := 2) (N := some 33) (v := ?_) (a' := ?_) #[true, true, true, false, false, false, false, false, false, false, false, false] rfl rfl (by kernel_rfl) (fun _ _ _ h => h) (Or.inl ⟨by rfl, ?_⟩) ?_ ?_
  rotate_left
  · intro w'
    go_simp
    with_reducible rfl
  rotate_left
  · simp only [Act.put, List.setIfInBounds_toArray, List.set_cons_zero, List.set_cons_succ, i64_w, i32_w, u8_w, u32_w]
    rfl
  refine pure_ (i := 3) (N := some 34) (v := ?_) (a' := ?_) #[true, true, true, true, false, false, false, false, false, false, false, false] rfl rfl (by kernel_rfl) (fun _ _ _ h => h) (Or.inl ⟨by rfl, ?_⟩) ?_ ?_
  rotate_left
  · intro w'
    go_simp
    with_reducible rfl
  rotate_left
  · simp only [Act.put, List.setIfInBounds_toArray, List.set_cons_zero, List.set_cons_succ, i64_w, i32_w, u8_w, u32_w]
    rfl
  refine take_ (i := 4) (N := some 35) (v := ?_) (a' := ?_) #[true, true, true, true, true, false, false, false, false, false, false, false] rfl rfl (by kernel_rfl) (fun _ _ _ h => h) (Or.inl ⟨by rfl, ?_⟩) hHeld ?_ ?_
  rotate_left
  · rintro w' ⟨s0, s1⟩
    go_simp
    with_reducible rfl
  rotate_left
  · simp only [Act.put, List.setIfInBounds_toArray, List.set_cons_zero, List.set_cons_succ, i64_w, i32_w, u8_w, u32_w]
    rfl
  refine pure_ (i := 5) (N := some 36) (v := ?_) (a' := ?_) #[true, true, true, true, true, true, false, false, false, false, false, false] rfl rfl (by kernel_rfl) (fun _ _ _ h => h) (Or.inl ⟨by rfl, ?_⟩) ?_ ?_
  rotate_left
  · intro w'
    go_simp
    with_reducible rfl
  rotate_left
  · simp only [Act.put, List.setIfInBounds_toArray, List.set_cons_zero, List.set_cons_succ, i64_w, i32_w, u8_w, u32_w]
    rfl
  refine pure_ (i := 6) (N := some 37) (v := ?_) (a' := ?_) #[true, true, true, true, true, true, true, false, false, false, false, false] rfl rfl (by kernel_rfl) (fun _ _ _ h => h) (Or.inl ⟨by rfl, ?_⟩) ?_ ?_
  rotate_left
  · intro w'
    go_simp
    with_reducible rfl
  rotate_left
  · simp only [Act.put, List.setIfInBounds_toArray, List.set_cons_zero, List.set_cons_succ, i64_w, i32_w, u8_w, u32_w]
    rfl
  refine pure_ (i := 7) (N := some 38) (v := ?_) (a' := ?_) #[true, true, true, true, true, true, true, true, false, false, false, false] rfl rfl (by kernel_rfl) (fun _ _ _ h => h) (Or.inl ⟨by rfl, ?_⟩) ?_ ?_
  rotate_left
  · intro w'
    go_simp
    with_reducible rfl
  rotate_left
  · simp only [Act.put, List.setIfInBounds_toArray, List.set_cons_zero, List.set_cons_succ, i64_w, i32_w, u8_w, u32_w]
    rfl
  refine take_ (i := 8) (N := some 39) (v := ?_) (a' := ?_) #[true, true, true, true, true, true, true, true, true, false, false, false] rfl rfl (by kernel_rfl) (fun _ _ _ h => h) (Or.inl ⟨by rfl, ?_⟩) hHeld ?_ ?_
  rotate_left
  · rintro w' ⟨s0, s1⟩
    go_simp
    with_reducible rfl
  rotate_left
  · simp only [Act.put, List.setIfInBounds_toArray, List.set_cons_zero, List.set_cons_succ, i64_w, i32_w, u8_w, u32_w]
    rfl
  refine one_ (i := 9) (N := none) #[true, true, true, true, true, true, true, true, true, true, false, false] rfl rfl (by kernel_rfl) (by decide) (fun K hK => ?_)
  have z0 : w5.cell? ⟨w.heap.size + 1, 0, none⟩ = some (.int .i64 0) := (blk_cell Z5.out 0).trans rfl
  have z1 : w5.cell? ⟨w.heap.size + 1, 1, none⟩ = some (.int .i64 0) := (blk_cell Z5.out 1).trans rfl
  have z2 : w5.cell? ⟨w.heap.size + 1, 2, none⟩ = some (.slice none 0 0) := (blk_cell Z5.out 2).trans rfl
  have fz0 := blk_frozen Z5.out 0
  have fz1 := blk_frozen Z5.out 1
  have fz2 := blk_frozen Z5.out 2
  refine skip_ (w1 := ?_) (by rfl) rfl ?_ ?_
  rotate_left
  · go_simp
    rfl
  refine hK.out _ _ ⟨(blk_cell (blk_far (blk_far (blk_far I5.out.1 NE.out.2.symm _) NE.out.2.symm _) NE.out.2.symm _) 0).trans rfl, (blk_cell (blk_far (blk_far (blk_far I5.out.1 NE.out.2.symm _) NE.out.2.symm _) NE.out.2.symm _) 2).trans rfl⟩ (fun hHeld => ?_)
  clear hK K
  refine gen_any (fun w6 => w6.heap[w.heap.size + 1]? = some (.cells #[.int .i64 0, .int .i64 0, .slice none 0 0] 36 (0, 0)) ∧ Below w.heap.size w w6) ⟨put3_ Z5.out, below_set (below_set (below_set I5.out.2.1 (Nat.le_succ _)) (Nat.le_succ _)) (Nat.le_succ _)⟩ ?_
  rintro w6 ⟨hz6, hb6⟩
  clear z0 z1 z2 fz0 fz1 fz2 hHeld
  refine pure_ (i := 10) (N := some 5) (v := ?_) (a' := ?_) #[true, true, true, true, true, true, true, true, true, true, true, false] rfl rfl (by kernel_rfl) (fun _ _ _ h => h) (Or.inl ⟨by rfl, ?_⟩) ?_ ?_
  rotate_left
  · intro w'
    go_simp
    with_reducible rfl
  rotate_left
  · simp only [Act.put, List.setIfInBounds_toArray, List.set_cons_zero, List.set_cons_succ, i64_w, i32_w, u8_w, u32_w]
    rfl
  refine pure_ (i := 11) (N := some 6) (v := ?_) (a' := ?_) #[true, true, true, true, true, true, true, true, true, true, true, true] rfl rfl (by kernel_rfl) (fun _ _ _ h => h) (Or.inl ⟨by rfl, ?_⟩) ?_ ?_
  rotate_left
  · intro w'
    go_simp
    with_reducible rfl
  rotate_left
  · simp only [Act.put, List.setIfInBounds_toArray, List.set_cons_zero, List.set_cons_succ, i64_w, i32_w, u8_w, u32_w]
    rfl
  refine done_ (by kernel_rfl) ?_
  go_wp2
  have m0 := (blk_cell hz6 0).trans rfl
  have m1 := (blk_cell hz6 1).trans rfl
  have m2 := (blk_cell hz6 2).trans rfl
  refine bodyPost_ret (v := .tuple #[.agg #[.int .i64 0, .int .i64 0, .slice none 0 0], .int .i64 st, .int .i64 er]) (by simp [results, Tryd.results10, go_sem, hu36, m0, m1, m2]) rfl ?_
  exact ⟨_, rfl, Kd.R_nil _ _ _ _ _, hb6⟩
set_option maxHeartbeats 16000000 in
set_option maxRecDepth 100000 in
theorem run_ok {w : World} {t : S29} {A : Option Addr} {c : Nat} {fuel : Int} (hc : t.f2.length ≤ c) (hC : Kd.C k29 w A t.f2.length t.f2) {d : Nat} (hd : Aside0 (d = 120)) (h : ¬ fuel < 0) (h2 : ¬ fuel > 65536) (h3 : (chk d t 0).2 = 0) {k : Nat} {v : V} {st : Int} (he : ev fuel k .nil t 0 0 = some (v, st, 0)) :
    Calls Tryd.prog 10 #[.agg #[.int .i64 t.f0, .int .i64 t.f1, .slice A t.f2.length c], .int .i64 fuel] w fun e w' => ∃ vl, e = .returned (.tuple #[.agg #[.int .i64 ((told v).f0), .int .i64 ((told v).f1), vl], .int .i64 (st), .int .i64 (0)]) ∧ Kd.R k36 36 w' w.heap.size (fun _ => True) vl ((told v).f2) ∧ Below w.heap.size w w' := by
  have hu36 := Tryd.underlying36
  have g1 : (fuel < 0) = False := eq_false h
  have g2 : decide (fuel < 0) = false := decide_eq_false h
  have g3 : (65536 < fuel) = False := eq_false h2
  have g4 : decide (65536 < fuel) = false := decide_eq_false h2
  have C25 := Aside0.mk (fun (w1 : World) (hb : Below w.heap.size w w1) => check25 (w := w1) hd hc (Kd.C_below hC hb))
  have C26 := Aside0.mk (fun (w1 : World) (gm : Nat) (h1 : Inv w w1 gm 0 fuel 0) => eval26 fuel k (ok := fun _ => False) (e := .nil) (pe := .pointer none) h1 rfl (fun _ h => h.elim) hc hC he)
  have OK25 := Aside0.mk h3
  clear h h2 h3 hc hC he
  go_enter Tryd.func10, Tryd.ntmps10
  go_wp2_with (first | (go_at_call 28; (with_reducible refine (C25.out _ (below_two _ _ _)).mono ?_); rintro en w2 ⟨rfl, hb2⟩; have T2 := Aside0.mk (blk_below (at_one w (.cells #[.int .i64 t.f0, .int .i64 t.f1, .slice A t.f2.length c] 29) (.cells #[.int .i64 0, .int .i64 0, .slice none 0 0] 36)) hb2); have Z2 := Aside0.mk (blk_below (at_two w (.cells #[.int .i64 t.f0, .int .i64 t.f1, .slice A t.f2.length c] 29) (.cells #[.int .i64 0, .int .i64 0, .slice none 0 0] 36)) hb2); have B2 := Aside0.mk (below_step (below_two w (.cells #[.int .i64 t.f0, .int .i64 t.f1, .slice A t.f2.length c] 29) (.cells #[.int .i64 0, .int .i64 0, .slice none 0 0] 36)) hb2); clear hb2; (try rw [OK25.out]); have z0 : w2.cell? ⟨w.heap.size + 1, 0, none⟩ = some (.int .i64 0) := (blk_cell Z2.out 0).trans rfl; have z1 : w2.cell? ⟨w.heap.size + 1, 1, none⟩ = some (.int .i64 0) := (blk_cell Z2.out 1).trans rfl; have z2 : w2.cell? ⟨w.heap.size + 1, 2, none⟩ = some (.slice none 0 0) := (blk_cell Z2.out 2).trans rfl; have x0 : w2.cell? ⟨w.heap.size, 0, none⟩ = some (.int .i64 t.f0) := (blk_cell T2.out 0).trans rfl; have x1 : w2.cell? ⟨w.heap.size, 1, none⟩ = some (.int .i64 t.f1) := (blk_cell T2.out 1).trans rfl; have x2 : w2.cell? ⟨w.heap.size, 2, none⟩ = some (.slice A t.f2.length c) := (blk_cell T2.out 2).trans rfl; have fz0 := blk_frozen Z2.out 0; have fz1 := blk_frozen Z2.out 1; have fz2 := blk_frozen Z2.out 2) | ((with_reducible refine gate_dst (N := 22) rfl ?_); refine box_event ?hg (N := 22) ?hd (cs := #[.int .i64 0, .int .i64 fuel, .int .i64 0]) (t := 66) ?hr ?_; (case hd => rfl); (case hg => rfl); (case hr => first | (go_simp; done) | (go_simp; rfl)); intro gm hgm w3 hbox hb3; have GM := Aside0.mk hgm; have HI3 : Aside0 (Inv w w3 gm 0 fuel 0) := ⟨⟨hbox, below_step B2.out hb3, by rw [hgm]; exact B2.out.size⟩⟩; have T3 := Aside0.mk (blk_below T2.out hb3); have Z3 := Aside0.mk (blk_below Z2.out hb3); have NE : Aside0 (w.heap.size ≠ gm ∧ w.heap.size + 1 ≠ gm) := ⟨by have h1 := blk_lt T2.out; have h2 := blk_lt Z2.out; omega⟩; clear hbox hb3 z0 z1 z2 x0 x1 x2 fz0 fz1 fz2 hgm; have x0 : w3.cell? ⟨w.heap.size, 0, none⟩ = some (.int .i64 t.f0) := (blk_cell T3.out 0).trans rfl; have x1 : w3.cell? ⟨w.heap.size, 1, none⟩ = some (.int .i64 t.f1) := (blk_cell T3.out 1).trans rfl; have x2 : w3.cell? ⟨w.heap.size, 2, none⟩ = some (.slice A t.f2.length c) := (blk_cell T3.out 2).trans rfl) | (go_at_call 29; (with_reducible refine (C26.out _ _ HI3.out).mono ?_); rintro en w4 ⟨pv, rfl, hv, hi4, hk4⟩; have V4 := Aside0.mk hv; have I4 := Aside0.mk hi4; have Z4 := Aside0.mk (hk4.blk Z3.out NE.out.2 (by simp)); clear x0 x1 x2; have m0_ : w4.cell? ⟨gm, 0, none⟩ = some (.int .i64 st) := (blk_cell hi4.1 0).trans rfl; have m2_ : w4.cell? ⟨gm, 2, none⟩ = some (.int .i64 0) := (blk_cell hi4.1 2).trans rfl; clear hv hi4 hk4))
  have I5 := Aside0.mk (I4.out.below (below_drew (Below.refl _ _)))
  have Z5 := Aside0.mk (blk_drew Z4.out)
  have V5 := Aside0.mk (RV_below V4.out (below_drew (Below.refl _ _)) (fun _ h => h))
  clear m0_ m2_
  refine start_ (n := 9) (S := fun w' => w'.cell? ⟨gm, 0, none⟩ = some (.int .i64 st)) (ds := []) #[false, false, false, false, false, false, false, false, false] (by kernel_rfl) rfl rfl ((blk_cell I5.out.1 0).trans rfl) (fun hHeld => ?_)
  generalize (World.drew w4) = w5 at I5 Z5 V5 hHeld ⊢
  refine pure_ (i := 0) (N := some 40) (v := ?_) (a' := ?_) #[true, false, false, false, false, false, false, false, false] rfl rfl (by kernel_rfl) (fun _ _ _ h => h) (Or.inl ⟨by rfl, ?_⟩) ?_ ?_
  rotate_left
  · intro w'
    go_simp
    with_reducible rfl
  rotate_left
  · simp only [Act.put, List.setIfInBounds_toArray, List.set_cons_zero, List.set_cons_succ, i64_w, i32_w, u8_w, u32_w]
    rfl
  refine pure_ (i := 2) (N := some 42) (v := ?_) (a' := ?_) #[true, false, true, false, false, false, false, false, false] rfl rfl (by kernel_rfl) (fun _ _ _ h => h) (Or.inl ⟨by rfl, ?_⟩) ?_ ?_
  rotate_left
  · intro w'
    go_simp
    with_reducible rfl
  rotate_left
  · simp only [Act.put, List.setIfInBounds_toArray, List.set_cons_zero, List.set_cons_succ, i64_w, i32_w, u8_w, u32_w]
    rfl
  refine pure_ (i := 3) (N := some 43) (v := ?_) (a' := ?_) #[true, false, true, true, false, false, false, false, false] rfl rfl (by kernel_rfl) (fun _ _ _ h => h) (Or.inl ⟨by rfl, ?_⟩) ?_ ?_
  rotate_left
  · intro w'
    go_simp
    with_reducible rfl
  rotate_left
  · simp only [Act.put, List.setIfInBounds_toArray, List.set_cons_zero, List.set_cons_succ, i64_w, i32_w, u8_w, u32_w]
    rfl
  refine pure_ (i := 4) (N := some 44) (v := ?_) (a' := ?_) #[true, false, true, true, true, false, false, false, false] rfl rfl (by kernel_rfl) (fun _ _ _ h => h) (Or.inl ⟨by rfl, ?_⟩) ?_ ?_
  rotate_left
  · intro w'
    go_simp
    with_reducible rfl
  rotate_left
  · simp only [Act.put, List.setIfInBounds_toArray, List.set_cons_zero, List.set_cons_succ, i64_w, i32_w, u8_w, u32_w]
    rfl
  refine take_ (i := 5) (N := some 45) (v := ?_) (a' := ?_) #[true, false, true, true, true, true, false, false, false] rfl rfl (by kernel_rfl) (fun _ _ _ h => h) (Or.inl ⟨by rfl, ?_⟩) hHeld ?_ ?_
  rotate_left
  · rintro w' s0
    go_simp
    with_reducible rfl
  rotate_left
  · simp only [Act.put, List.setIfInBounds_toArray, List.set_cons_zero, List.set_cons_succ, i64_w, i32_w, u8_w, u32_w]
    rfl
  refine one_ (i := 1) (N := some 41) #[true, true, true, true, true, true, false, false, false] rfl rfl (by kernel_rfl) (by decide) (fun K hK => ?_)
  refine goes_ Tryd.func30 (by kernel_rfl) rfl #[pv] (by rfl) rfl rfl (by (try simp only [List.map_toArray, List.map_cons, List.map_nil]); rfl) ?_
  with_reducible refine ((told27 v).out V5.out).mono ?_
  rintro e w6 ⟨vl, rfl, hR, hb6⟩
  refine ⟨_, rfl, ?_⟩
  obtain ⟨Al, cl, rfl⟩ := Kd.R_slice hR
  have I6 := Aside0.mk (I5.out.below hb6)
  have Z6 := Aside0.mk (blk_below Z5.out hb6)
  have R6 : Aside0 (Kd.R k36 36 w6 w.heap.size (fun k => k ≠ w.heap.size + 1) (.slice Al (told v).f2.length cl) (told v).f2) := ⟨Kd.R_lower (Kd.R_mono (Kd.R_bound hR) (fun k hk => Nat.ne_of_gt (Nat.lt_of_lt_of_le (blk_lt Z5.out) hk.2.1))) I5.out.2.1.size⟩
  clear hR hb6
  refine hK.out _ _ ((blk_cell I6.out.1 0).trans rfl) (fun hHeld => ?_)
  clear hK K
  refine norm_ (a' := ?_) ?_ ?_
  rotate_left
  · show Act.put _ (some 41) _ = _
    simp only [Act.put, List.setIfInBounds_toArray, List.set_cons_zero, List.set_cons_succ, i64_w, i32_w, u8_w, u32_w]
    rfl
  refine one_ (i := 6) (N := none) #[true, true, true, true, true, true, true, false, false] rfl rfl (by kernel_rfl) (by decide) (fun K hK => ?_)
  have z0 : w6.cell? ⟨w.heap.size + 1, 0, none⟩ = some (.int .i64 0) := (blk_cell Z6.out 0).trans rfl
  have z1 : w6.cell? ⟨w.heap.size + 1, 1, none⟩ = some (.int .i64 0) := (blk_cell Z6.out 1).trans rfl
  have z2 : w6.cell? ⟨w.heap.size + 1, 2, none⟩ = some (.slice none 0 0) := (blk_cell Z6.out 2).trans rfl
  have fz0 := blk_frozen Z6.out 0
  have fz1 := blk_frozen Z6.out 1
  have fz2 := blk_frozen Z6.out 2
  refine skip_ (w1 := ?_) (by rfl) rfl ?_ ?_
  rotate_left
  · go_simp
    rfl
  refine hK.out _ _ ((blk_cell (blk_far (blk_far (blk_far I6.out.1 NE.out.2.symm _) NE.out.2.symm _) NE.out.2.symm _) 0).trans rfl) (fun hHeld => ?_)
  clear hK K
  refine gen_any (fun w7 => w7.heap[w.heap.size + 1]? = some (.cells #[.int .i64 (told v).f0, .int .i64 (told v).f1, .slice Al (told v).f2.length cl] 36 (0, 0)) ∧ Kd.R k36 36 w7 w.heap.size (fun k => k ≠ w.heap.size + 1) (.slice Al (told v).f2.length cl) (told v).f2 ∧ Below w.heap.size w w7) ⟨put3_ Z6.out, Kd.R_far (p := ⟨w.heap.size + 1, 2, none⟩) (Kd.R_far (p := ⟨w.heap.size + 1, 1, none⟩) (Kd.R_far (p := ⟨w.heap.size + 1, 0, none⟩) R6.out (fun k hk => hk) _) (fun k hk => hk) _) (fun k hk => hk) _, below_set (below_set (below_set I6.out.2.1 (Nat.le_succ _)) (Nat.le_succ _)) (Nat.le_succ _)⟩ ?_
  rintro w7 ⟨hz7, hr7, hb7⟩
  clear z0 z1 z2 fz0 fz1 fz2 hHeld
  have Z7 := Aside0.mk hz7
  have R7 := Aside0.mk hr7
  clear hz7 hr7
  refine pure_ (i := 7) (N := some 5) (v := ?_) (a' := ?_) #[true, true, true, true, true, true, true, true, false] rfl rfl (by kernel_rfl) (fun _ _ _ h => h) (Or.inl ⟨by rfl, ?_⟩) ?_ ?_
  rotate_left
  · intro w'
    go_simp
    with_reducible rfl
  rotate_left
  · simp only [Act.put, List.setIfInBounds_toArray, List.set_cons_zero, List.set_cons_succ, i64_w, i32_w, u8_w, u32_w]
    rfl
  refine pure_ (i := 8) (N := some 6) (v := ?_) (a' := ?_) #[true, true, true, true, true, true, true, true, true] rfl rfl (by kernel_rfl) (fun _ _ _ h => h) (Or.inl ⟨by rfl, ?_⟩) ?_ ?_
  rotate_left
  · intro w'
    go_simp
    with_reducible rfl
  rotate_left
  · simp only [Act.put, List.setIfInBounds_toArray, List.set_cons_zero, List.set_cons_succ, i64_w, i32_w, u8_w, u32_w]
    rfl
  refine done_ (by kernel_rfl) ?_
  go_wp2
  have m0 := (blk_cell Z7.out 0).trans rfl
  have m1 := (blk_cell Z7.out 1).trans rfl
  have m2 := (blk_cell Z7.out 2).trans rfl
  refine bodyPost_ret (v := .tuple #[.agg #[.int .i64 (told v).f0, .int .i64 (told v).f1, .slice Al (told v).f2.length cl], .int .i64 st, .int .i64 0]) (by simp [results, Tryd.results10, go_sem, hu36, m0, m1, m2]) rfl ?_
  exact ⟨_, rfl, Kd.R_mono R7.out (fun _ _ => trivial), hb7⟩
theorem run12 {w : World} {t : S29} {A : Option Addr} {c : Nat} {fuel : Int} {k : Nat} {r : S36 × Int × Int} (hc : t.f2.length ≤ c) (hC : Kd.C k29 w A t.f2.length t.f2) (h : run k t fuel = some r) :
    Calls Tryd.prog 10 #[.agg #[.int .i64 t.f0, .int .i64 t.f1, .slice A t.f2.length c], .int .i64 fuel] w fun e w' => ∃ vl, e = .returned (.tuple #[.agg #[.int .i64 (r.1.f0), .int .i64 (r.1.f1), vl], .int .i64 (r.2.1), .int .i64 (r.2.2)]) ∧ Kd.R k36 36 w' w.heap.size (fun _ => True) vl (r.1.f2) ∧ Below w.heap.size w w' := by
  obtain ⟨d, hd⟩ : ∃ d, d = 120 := ⟨_, rfl⟩
  unfold run at h
  rw [← hd] at h
  have hd := Aside0.mk hd
  by_cases h1 : fuel < 0 ∨ fuel > 65536
  · rw [if_pos h1] at h
    obtain rfl := Option.some.inj h
    by_cases h2 : fuel < 0
    · exact run_low hc hC h2
    · exact run_high hc hC h2 (h1.resolve_left h2)
  · rw [if_neg h1] at h
    have h2 : ¬ fuel < 0 := fun h => h1 (Or.inl h)
    have h3 : ¬ fuel > 65536 := fun h => h1 (Or.inr h)
    by_cases h4 : (chk d t 0).2 ≠ 0
    · rw [if_pos h4] at h
      obtain rfl := Option.some.inj h
      exact run_check hc hC hd h2 h3 h4
    · rw [if_neg h4] at h
      obtain ⟨⟨v, st, er⟩, he, h⟩ := Option.bind_eq_some_iff.mp h
      have h4 : (chk d t 0).2 = 0 := by simpa using h4
      by_cases hz : er ≠ 0
      · rw [if_pos hz] at h
        obtain rfl := Option.some.inj h
        exact run_err hc hC hd h2 h3 h4 he hz
      · rw [if_neg hz] at h
        have hz : er = 0 := by simpa using hz
        subst hz
        obtain rfl := Option.some.inj h
        exact run_ok hc hC hd h2 h3 h4 he
/-! More rounds: no other answer. -/
end Go.Proofs.YtnecmclnokikoaaDoor.Run
namespace Go.Proofs.YtnecmclnokikoaaDoor.P
open Go.RowKit Go.Proofs.YtnecmclnokikoaaDoorW.PrintWords Go.Proofs.YtnecmclnokikoaaDoorW.PrintLast Go.Proofs.YtnecmclnokikoaaDoorW.PrintMore
/-- What run.Run answers, of k rounds. -/
def run_Run.f (k : Nat) (op n : Int) (kids : List S29) (fuel : Int) : Option (Int × Int × List S36 × Int × Int) := (Run.run k ⟨op, n, kids⟩ fuel).bind fun r => some (r.1.f0, r.1.f1, r.1.f2, r.2.1, r.2.2)
theorem run_Run.calls (k : Nat) (op n : Int) (A : Option Addr) (c : Nat) (kids : List S29) (fuel : Int) (r1 r2 : Int) (r3 : List S36) (r4 r5 : Int) (w : World) (hC : Kd.C k29 w A kids.length kids) (hc : kids.length ≤ c) (h : run_Run.f k op n kids fuel = some (r1, r2, r3, r4, r5)) :
    Calls Tryd.prog 10 #[.agg #[.int .i64 op, .int .i64 n, .slice A kids.length c], .int .i64 fuel] w fun e w' => ∃ v0_ : Value, e = .returned (.tuple #[.agg #[.int .i64 r1, .int .i64 r2, v0_], .int .i64 r4, .int .i64 r5]) ∧ Kd.R k36 36 w' w.heap.size (fun _ => True) v0_ r3 ∧ Below w.heap.size w w' := by
  obtain ⟨⟨⟨x1, x2, x3⟩, x4, x5⟩, hr, h⟩ := Option.bind_eq_some_iff.mp h
  have h := Option.some.inj h
  simp only [Prod.mk.injEq] at h
  obtain ⟨rfl, rfl, rfl, rfl, rfl⟩ := h
  exact Run.run12 (t := ⟨op, n, kids⟩) hc hC hr
end Go.Proofs.YtnecmclnokikoaaDoor.P
