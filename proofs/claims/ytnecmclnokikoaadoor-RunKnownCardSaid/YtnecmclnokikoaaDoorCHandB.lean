/- Package run: a pair's value, a variable's place, prims. -/
import Derived.Test.YtnecmclnokikoaaDoorCHandA
namespace Go.Proofs.YtnecmclnokikoaaDoor.Run
open Go.RowKit Go.Proofs.YtnecmclnokikoaaDoor.P Go.Proofs.YtnecmclnokikoaaDoorW.PrintWords Go.Proofs.YtnecmclnokikoaaDoorW.PrintLast Go.Proofs.YtnecmclnokikoaaDoorW.PrintMore
set_option linter.unusedVariables false
set_option linter.unusedSimpArgs false
set_option maxHeartbeats 8000000 in
set_option maxRecDepth 100000 in
theorem find40 {w0 w : World} {ok : Nat → Prop} {e : E} {pe : Value} {n : Int} (he : RE w0 w ok e pe) (hn : n ≤ 9223372036854775807) : Calls Tryd.prog 46 #[pe, .int .i64 n] w fun en w' => ∃ p, en = .returned p ∧ RE w0 w ok (find e n.toNat) p ∧ w' = w := by
  have HE := Aside0.mk he
  have HN := Aside0.mk hn
  clear he hn
  go_enter Tryd.func46, Tryd.ntmps46
  go_wp2
  go_loopw [0, 1] (fun v0 v1 w' => ∃ (e' : E) (n' : Int), n' ≤ 9223372036854775807 ∧ v1 = .int .i64 n' ∧ Aside0 (RE w0 w ok e' v0) ∧ Aside0 (find e' n'.toNat = find e n.toNat) ∧ w' = w) (fun _ v1 _ => (intOf v1).toNat)
  case atStart => exact ⟨e, n, HN.out, rfl, HE, ⟨rfl⟩, rfl⟩
  case round =>
    obtain ⟨e', n', hn', rfl, HR, HF, rfl⟩ := hrel
    by_cases hz : 0 < n'
    · have z1 : (n' > 0) = True := eq_true hz
      have z2 : decide (0 < n') = true := decide_eq_true hz
      obtain ⟨m, hm⟩ : ∃ m : Nat, n'.toNat = m + 1 := ⟨n'.toNat - 1, by omega⟩
      have W := Aside0.mk (show wrap64 (n' - 1) = n' - 1 by unfold wrap64; omega)
      have M := Aside0.mk (And.intro hm (show (n' - 1).toNat = m ∧ n' - 1 ≤ 9223372036854775807 by omega))
      clear hz hm hn'
      cases e' with
      | nil =>
        have hp := HR.out
        simp only [RE] at hp
        subst hp
        go_wp2
        go_ret
        have h2 := HF.out
        rw [M.out.1] at h2
        exact ⟨_, rfl, by rw [← h2]; simp only [find, RE]; rfl, rfl⟩
      | val v up =>
        obtain ⟨g, pv, pu, rfl, h2, h3, h4, h5⟩ := HR.out
        have c2 : wr.cell? ⟨g, 2, none⟩ = some pu := (blk_cell h3 2).trans rfl
        have H5 := Aside0.mk h5
        clear h2 h3 h4 h5 HR
        go_wp2
        go_roundw
        case measure =>
          have := M.out
          simp only [intOf]
          rw [W.out]
          omega
        case rel =>
          have h2 := HF.out
          rw [M.out.1] at h2
          exact ⟨up, n' - 1, M.out.2.2, by rw [W.out], H5, ⟨by rw [M.out.2.1, ← h2]; rfl⟩, trivial⟩
      | loop t up =>
        obtain ⟨g, h, A, c, pu, rfl, h2, h3, h4, h5, h6, h7, h8⟩ := HR.out
        have c2 : wr.cell? ⟨g, 2, none⟩ = some pu := (blk_cell h3 2).trans rfl
        have H8 := Aside0.mk h8
        clear h2 h3 h4 h5 h6 h7 h8 HR
        go_wp2
        go_roundw
        case measure =>
          have := M.out
          simp only [intOf]
          rw [W.out]
          omega
        case rel =>
          have h2 := HF.out
          rw [M.out.1] at h2
          exact ⟨up, n' - 1, M.out.2.2, by rw [W.out], H8, ⟨by rw [M.out.2.1, ← h2]; rfl⟩, trivial⟩
    · have z1 : (n' > 0) = False := eq_false hz
      have z2 : decide (0 < n') = false := decide_eq_false hz
      have z3 : (0 < n') = False := eq_false hz
      have h2 := HF.out
      rw [show n'.toNat = 0 by omega] at h2
      have FE : find e' 0 = e' := by cases e' <;> rfl
      rw [FE] at h2
      have H2 := Aside0.mk h2
      clear h2 FE hz hn'
      cases e' with
      | nil =>
        have hp := HR.out
        simp only [RE] at hp
        subst hp
        go_wp2
        go_ret
        exact ⟨_, rfl, by rw [← H2.out]; exact HR.out, rfl⟩
      | val v up =>
        obtain ⟨g, pv, pu, rfl, -⟩ := HR.out
        go_wp2
        go_ret
        exact ⟨_, rfl, by rw [← H2.out]; exact HR.out, rfl⟩
      | loop t up =>
        obtain ⟨g, h, A, c, pu, rfl, -⟩ := HR.out
        go_wp2
        go_ret
        exact ⟨_, rfl, by rw [← H2.out]; exact HR.out, rfl⟩
theorem size_alloc (w : World) (o : Obj) : (w.alloc o).heap.size = w.heap.size + 1 := by simp [World.alloc, -World.alloc_eq]
set_option maxHeartbeats 8000000 in
set_option maxRecDepth 100000 in
theorem pair65 (g1 g2 : Nat) (w : World) : Calls Tryd.prog 74 #[.pointer (some ⟨g1, 0, none⟩), .pointer (some ⟨g2, 0, none⟩)] w fun en w' => ∃ g r, en = .returned (.pointer (some ⟨g, 0, none⟩)) ∧ w.heap.size ≤ g ∧ w.heap.size ≤ r ∧ w'.heap[g]? = some (.cells #[.int .i64 2, .int .i64 0, .slice (some ⟨r, 0, none⟩) 2 2, .int .i64 0, .int .i64 0, .slice none 0 0, .pointer none] 95 (0, 0)) ∧ w'.heap[r]? = some (.cells #[.pointer (some ⟨g1, 0, none⟩), .pointer (some ⟨g2, 0, none⟩)] 67 (0, 0)) ∧ Below w.heap.size w w' := by
  go_enter Tryd.func74, Tryd.ntmps74
  go_wp2
  go_ret
  refine ⟨w.heap.size + 1, w.heap.size, rfl, by omega, Nat.le_refl _, ?_, ?_, below_alloc (below_alloc (Below.refl _ _) _) _⟩
  · have h := blk_new (w.alloc (.cells #[.pointer (some ⟨g1, 0, none⟩), .pointer (some ⟨g2, 0, none⟩)] 67)) (.cells #[.int .i64 2, .int .i64 0, .slice (some ⟨w.heap.size, 0, none⟩) 2 2, .int .i64 0, .int .i64 0, .slice none 0 0, .pointer none] 95)
    rw [size_alloc] at h
    exact h
  · exact blk_below (blk_new w _) (below_alloc (Below.refl _ _) _)
theorem pair_RV {w0 w w1 w' : World} {ok : Nat → Prop} {a b : V} {pa pb : Value} {g r : Nat} (ha : RV w0 w1 ok a pa) (hb : RV w0 w1 ok b pb) (h1 : w1.heap.size ≤ g) (h2 : w1.heap.size ≤ r)
    (h3 : w'.heap[g]? = some (.cells #[.int .i64 2, .int .i64 0, .slice (some ⟨r, 0, none⟩) 2 2, .int .i64 0, .int .i64 0, .slice none 0 0, .pointer none] 95 (0, 0))) (h4 : w'.heap[r]? = some (.cells #[pa, pb] 67 (0, 0))) (hB : Below w1.heap.size w1 w') :
    RV w0 w' (fun k => ok k ∨ w1.heap.size ≤ k) (.pair a b) (.pointer (some ⟨g, 0, none⟩)) :=
  ⟨g, r, pa, pb, rfl, Or.inr h1, h3, Or.inr h2, h4, RV_below ha hB (fun _ h => Or.inl h), RV_below hb hB (fun _ h => Or.inl h)⟩
/-- What prim answers. -/
def PrimAns (w0 w w' : World) (gm : Nat) (st F op x y : Int) (en : Ending) : Prop := ∃ p g, en = .returned p ∧ p = .pointer (some ⟨g, 0, none⟩) ∧ w.heap.size ≤ g ∧ w'.heap[g]? = some (.cells #[.int .i64 1, .int .i64 (prim op x y).1, .slice none 0 0, .int .i64 0, .int .i64 0, .slice none 0 0, .pointer none] 95 (0, 0)) ∧ Inv w0 w' gm st F (prim op x y).2 ∧ KeepBut w w' gm none
theorem primAns_of {w0 w w' : World} {gm : Nat} {st F op x y n : Int} {p : Value} (hi : Inv w0 w gm st F 0) (h : NV w w' n p) (e : prim op x y = (n, 0)) : PrimAns w0 w w' gm st F op x y (.returned p) := by
  obtain ⟨g, h1, h2, h3, h4⟩ := h
  refine ⟨p, g, rfl, h1, h2, ?_, ?_, KeepBut.of_below h4 gm none⟩
  · rw [e]
    exact h3
  · rw [e]
    exact hi.below h4
set_option maxHeartbeats 8000000 in
set_option maxRecDepth 100000 in
theorem prim_add {w0 w : World} {gm : Nat} {st F op x y : Int} (hi : Inv w0 w gm st F 0) (h : op = 0) : Calls Tryd.prog 75 #[.pointer (some ⟨gm, 0, none⟩), .int .i64 op, .int .i64 x, .int .i64 y] w fun en w' => PrimAns w0 w w' gm st F op x y en := by
  have HI := Aside0.mk hi
  have EQ : Aside0 (prim op x y = (wrap64 (x + y), 0)) := ⟨by subst h; rfl⟩
  subst h
  clear hi
  go_enter Tryd.func75, Tryd.ntmps75
  go_wp2_with (first | (go_at_call 45; (with_reducible refine (whole39 _ _).mono ?_); rintro e w2 ⟨p2, rfl, hv⟩; have HV := Aside0.mk hv; clear hv))
  go_ret
  exact primAns_of HI.out HV.out EQ.out
set_option maxHeartbeats 8000000 in
set_option maxRecDepth 100000 in
theorem prim_sub {w0 w : World} {gm : Nat} {st F op x y : Int} (hi : Inv w0 w gm st F 0) (h : op = 1) : Calls Tryd.prog 75 #[.pointer (some ⟨gm, 0, none⟩), .int .i64 op, .int .i64 x, .int .i64 y] w fun en w' => PrimAns w0 w w' gm st F op x y en := by
  have HI := Aside0.mk hi
  have EQ : Aside0 (prim op x y = (wrap64 (x - y), 0)) := ⟨by subst h; rfl⟩
  subst h
  clear hi
  go_enter Tryd.func75, Tryd.ntmps75
  go_wp2_with (first | (go_at_call 45; (with_reducible refine (whole39 _ _).mono ?_); rintro e w2 ⟨p2, rfl, hv⟩; have HV := Aside0.mk hv; clear hv))
  go_ret
  exact primAns_of HI.out HV.out EQ.out
set_option maxHeartbeats 8000000 in
set_option maxRecDepth 100000 in
theorem prim_mul {w0 w : World} {gm : Nat} {st F op x y : Int} (hi : Inv w0 w gm st F 0) (h : op = 2) : Calls Tryd.prog 75 #[.pointer (some ⟨gm, 0, none⟩), .int .i64 op, .int .i64 x, .int .i64 y] w fun en w' => PrimAns w0 w w' gm st F op x y en := by
  have HI := Aside0.mk hi
  have EQ : Aside0 (prim op x y = (wrap64 (x * y), 0)) := ⟨by subst h; rfl⟩
  subst h
  clear hi
  go_enter Tryd.func75, Tryd.ntmps75
  go_wp2_with (first | (go_at_call 45; (with_reducible refine (whole39 _ _).mono ?_); rintro e w2 ⟨p2, rfl, hv⟩; have HV := Aside0.mk hv; clear hv))
  go_ret
  exact primAns_of HI.out HV.out EQ.out
set_option maxHeartbeats 8000000 in
set_option maxRecDepth 100000 in
theorem prim_les1 {w0 w : World} {gm : Nat} {st F op x y : Int} (hi : Inv w0 w gm st F 0) (h : op = 4) (h2 : x < y) : Calls Tryd.prog 75 #[.pointer (some ⟨gm, 0, none⟩), .int .i64 op, .int .i64 x, .int .i64 y] w fun en w' => PrimAns w0 w w' gm st F op x y en := by
  have HI := Aside0.mk hi
  have EQ : Aside0 (prim op x y = (1, 0)) := ⟨by subst h; unfold prim; rw [if_neg (by decide), if_neg (by decide), if_neg (by decide), if_pos rfl, if_pos h2]⟩
  subst h
  have g1 : (x < y) = True := eq_true h2
  have g2 : decide (x < y) = true := decide_eq_true h2
  clear hi
  go_enter Tryd.func75, Tryd.ntmps75
  go_wp2_with (first | (go_at_call 45; (with_reducible refine (whole39 _ _).mono ?_); rintro e w2 ⟨p2, rfl, hv⟩; have HV := Aside0.mk hv; clear hv))
  go_ret
  exact primAns_of HI.out HV.out EQ.out
set_option maxHeartbeats 8000000 in
set_option maxRecDepth 100000 in
theorem prim_les0 {w0 w : World} {gm : Nat} {st F op x y : Int} (hi : Inv w0 w gm st F 0) (h : op = 4) (h2 : ¬ x < y) : Calls Tryd.prog 75 #[.pointer (some ⟨gm, 0, none⟩), .int .i64 op, .int .i64 x, .int .i64 y] w fun en w' => PrimAns w0 w w' gm st F op x y en := by
  have HI := Aside0.mk hi
  have EQ : Aside0 (prim op x y = (0, 0)) := ⟨by subst h; unfold prim; rw [if_neg (by decide), if_neg (by decide), if_neg (by decide), if_pos rfl, if_neg h2]⟩
  subst h
  have g1 : (x < y) = False := eq_false h2
  have g2 : decide (x < y) = false := decide_eq_false h2
  clear hi
  go_enter Tryd.func75, Tryd.ntmps75
  go_wp2_with (first | (go_at_call 45; (with_reducible refine (whole39 _ _).mono ?_); rintro e w2 ⟨p2, rfl, hv⟩; have HV := Aside0.mk hv; clear hv))
  go_ret
  exact primAns_of HI.out HV.out EQ.out
set_option maxHeartbeats 8000000 in
set_option maxRecDepth 100000 in
theorem prim_zero {w0 w : World} {gm : Nat} {st F op x y : Int} (hi : Inv w0 w gm st F 0) (h0 : op ≠ 0) (h1 : op ≠ 1) (h2 : op ≠ 2) (h4 : op ≠ 4) (hy : y = 0) : Calls Tryd.prog 75 #[.pointer (some ⟨gm, 0, none⟩), .int .i64 op, .int .i64 x, .int .i64 y] w fun en w' => PrimAns w0 w w' gm st F op x y en := by
  have HI := Aside0.mk hi
  have q0 : (op == 0) = false := by simpa using h0
  have q1 : (op == 1) = false := by simpa using h1
  have q2 : (op == 2) = false := by simpa using h2
  have q4 : (op == 4) = false := by simpa using h4
  have EQ : Aside0 (prim op x y = (0, 18)) := ⟨by unfold prim; rw [if_neg h0, if_neg h1, if_neg h2, if_neg h4]; subst hy; rfl⟩
  have c0 : w.cell? ⟨gm, 0, none⟩ = some (.int .i64 st) := (blk_cell hi.1 0).trans rfl
  have c1 : w.cell? ⟨gm, 1, none⟩ = some (.int .i64 F) := (blk_cell hi.1 1).trans rfl
  have c2 : w.cell? ⟨gm, 2, none⟩ = some (.int .i64 0) := (blk_cell hi.1 2).trans rfl
  have f0 := blk_frozen hi.1 0
  have f1 := blk_frozen hi.1 1
  have f2 := blk_frozen hi.1 2
  subst hy
  clear hi h0 h1 h2 h4
  go_enter Tryd.func75, Tryd.ntmps75
  go_wp2_with (first | (go_at_call 45; (with_reducible refine (whole39 _ _).mono ?_); rintro e w2 ⟨p2, rfl, hv⟩; have HV := Aside0.mk hv; clear hv))
  go_ret
  have HK := HI.out.set 2 18 (st' := st) (F' := F) (er' := 18) rfl
  obtain ⟨g, h1, h2, h3, h4⟩ := HV.out
  have hz : (w.setCell ⟨gm, 2, none⟩ (.int .i64 18)).heap.size = w.heap.size := by simp [World.setCell]
  rw [hz] at h2
  refine ⟨_, g, rfl, h1, h2, ?_, ?_, ?_⟩
  · rw [EQ.out]
    exact h3
  · rw [EQ.out]
    exact HK.below h4
  · exact (KeepBut.set_ (KeepBut.refl w gm none) 2 _).trans (KeepBut.of_below h4 gm none) (.inl rfl)
set_option maxHeartbeats 8000000 in
set_option maxRecDepth 100000 in
theorem prim_quo {w0 w : World} {gm : Nat} {st F op x y : Int} (hi : Inv w0 w gm st F 0) (h0 : op ≠ 0) (h1 : op ≠ 1) (h2 : op ≠ 2) (h4 : op ≠ 4) (hy : y ≠ 0) : Calls Tryd.prog 75 #[.pointer (some ⟨gm, 0, none⟩), .int .i64 op, .int .i64 x, .int .i64 y] w fun en w' => PrimAns w0 w w' gm st F op x y en := by
  have HI := Aside0.mk hi
  have q0 : (op == 0) = false := by simpa using h0
  have q1 : (op == 1) = false := by simpa using h1
  have q2 : (op == 2) = false := by simpa using h2
  have q4 : (op == 4) = false := by simpa using h4
  have EQ : Aside0 (prim op x y = (wrap64 (Int.tdiv x y), 0)) := ⟨by unfold prim; rw [if_neg h0, if_neg h1, if_neg h2, if_neg h4]; rw [if_neg hy]⟩
  have c0 : w.cell? ⟨gm, 0, none⟩ = some (.int .i64 st) := (blk_cell hi.1 0).trans rfl
  have c1 : w.cell? ⟨gm, 1, none⟩ = some (.int .i64 F) := (blk_cell hi.1 1).trans rfl
  have c2 : w.cell? ⟨gm, 2, none⟩ = some (.int .i64 0) := (blk_cell hi.1 2).trans rfl
  have f0 := blk_frozen hi.1 0
  have f1 := blk_frozen hi.1 1
  have f2 := blk_frozen hi.1 2
  have g1 : (y = 0) = False := eq_false hy
  have g2 : (y == 0) = false := by simpa using hy
  clear hi h0 h1 h2 h4
  go_enter Tryd.func75, Tryd.ntmps75
  go_wp2_with (first | (go_at_call 45; (with_reducible refine (whole39 _ _).mono ?_); rintro e w2 ⟨p2, rfl, hv⟩; have HV := Aside0.mk hv; clear hv))
  go_ret
  exact primAns_of HI.out HV.out EQ.out
theorem prim66 {w0 w : World} {gm : Nat} {st F op x y : Int} (hi : Inv w0 w gm st F 0) : Calls Tryd.prog 75 #[.pointer (some ⟨gm, 0, none⟩), .int .i64 op, .int .i64 x, .int .i64 y] w fun en w' => PrimAns w0 w w' gm st F op x y en := by
  by_cases h0 : op = 0
  · exact prim_add hi h0
  by_cases h1 : op = 1
  · exact prim_sub hi h1
  by_cases h2 : op = 2
  · exact prim_mul hi h2
  by_cases h4 : op = 4
  · by_cases h : x < y
    · exact prim_les1 hi h4 h
    · exact prim_les0 hi h4 h
  by_cases hy : y = 0
  · exact prim_zero hi h0 h1 h2 h4 hy
  · exact prim_quo hi h0 h1 h2 h4 hy
end Go.Proofs.YtnecmclnokikoaaDoor.Run
