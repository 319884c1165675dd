/- Package run: a number's value, a pair's, a variable's place, the machine's step and its must, prims. -/
import Derived.Test.YtnecmclnokikoaaDoorCMem
namespace Go.Proofs.YtnecmclnokikoaaDoor.Run
open Go.RowKit Go.Proofs.YtnecmclnokikoaaDoor.P Go.Proofs.YtnecmclnokikoaaDoorW.PrintWords Go.Proofs.YtnecmclnokikoaaDoorW.PrintLast Go.Proofs.YtnecmclnokikoaaDoorW.PrintMore
set_option linter.unusedVariables false
set_option linter.unusedSimpArgs false
/-- A new number's value. -/
def NV (w w' : World) (n : Int) (p : Value) : Prop := ∃ g, p = .pointer (some ⟨g, 0, none⟩) ∧ w.heap.size ≤ g ∧ w'.heap[g]? = some (.cells #[.int .i64 1, .int .i64 n, .slice none 0 0, .int .i64 0, .int .i64 0, .slice none 0 0, .pointer none] 95 (0, 0)) ∧ Below w.heap.size w w'
theorem NV_RV {w0 w w' : World} {n : Int} {p : Value} (h : NV w w' n p) (ok : Nat → Prop) : RV w0 w' (fun k => ok k ∨ w.heap.size ≤ k) (.int n) p := by
  obtain ⟨g, h1, h2, h3, h4⟩ := h
  exact ⟨g, h1, Or.inr h2, h3⟩
/-- The machine, and what was ahead of it. -/
def Inv (w0 w : World) (gm : Nat) (st F er : Int) : Prop := MC w gm st F er ∧ Below w0.heap.size w0 w ∧ w0.heap.size ≤ gm
theorem Inv.below {w0 w w' : World} {gm : Nat} {st F er : Int} (h : Inv w0 w gm st F er) (hb : Below w.heap.size w w') : Inv w0 w' gm st F er :=
  ⟨blk_below h.1 hb, h.2.1.trans (hb.mono h.2.1.size), h.2.2⟩
theorem Inv.drewN {w0 w : World} {gm : Nat} {st F er : Int} (h : Inv w0 w gm st F er) (n : Nat) : Inv w0 (w.drewN n) gm st F er :=
  h.below (pw_below_drewN (Below.refl _ _) n)
theorem Inv.set {w0 w : World} {gm : Nat} {st F er : Int} (h : Inv w0 w gm st F er) (i : Nat) (x : Int) {st' F' er' : Int}
    (e : (#[.int .i64 st, .int .i64 F, .int .i64 er] : Array Value).setIfInBounds i (.int .i64 x) = #[.int .i64 st', .int .i64 F', .int .i64 er']) : Inv w0 (w.setCell ⟨gm, i, none⟩ (.int .i64 x)) gm st' F' er' :=
  ⟨blk_put h.1 i _ e, below_set h.2.1 h.2.2, h.2.2⟩
theorem keep_drewN' {w w1 : World} {gm : Nat} (h : KeepBut w w1 gm none) (n : Nat) : KeepBut w (w1.drewN n) gm none := keep_drewN h n
set_option maxHeartbeats 8000000 in
set_option maxRecDepth 100000 in
theorem whole39 (n : Int) (w : World) : Calls Tryd.prog 45 #[.int .i64 n] w fun en w' => ∃ p, en = .returned p ∧ NV w w' n p := by
  go_enter Tryd.func45, Tryd.ntmps45
  go_wp2_with (first | ((with_reducible refine gate_dst (N := 5) rfl ?_); refine box_event ?hg (N := 5) ?hd (cs := #[.int .i64 1, .int .i64 n, .slice none 0 0, .int .i64 0, .int .i64 0, .slice none 0 0, .pointer none]) (t := 95) ?hr ?_; (case hd => rfl); (case hg => rfl); (case hr => first | (go_simp; done) | (go_simp; rfl)); intro g hg w2 hbox hb; have HG := Aside0.mk hg; clear hg))
  go_ret
  exact ⟨_, rfl, g, rfl, Nat.le_of_eq HG.out.symm, hbox, hb⟩
set_option maxHeartbeats 8000000 in
set_option maxRecDepth 100000 in
theorem step_ok {w0 w : World} {gm : Nat} {st F : Int} (hi : Inv w0 w gm st F 0) (h : st < F) (hs : 0 ≤ st) (hs2 : st < 65536) :
    Calls Tryd.prog 48 #[.pointer (some ⟨gm, 0, none⟩)] w fun en w' => en = .returned (.bool true) ∧ Inv w0 w' gm (st + 1) F 0 ∧ KeepBut w w' gm none := by
  have HI := Aside0.mk hi
  have c0 : w.cell? ⟨gm, 0, none⟩ = some (.int .i64 st) := (blk_cell hi.1 0).trans rfl
  have c1 : w.cell? ⟨gm, 1, none⟩ = some (.int .i64 F) := (blk_cell hi.1 1).trans rfl
  have c2 : w.cell? ⟨gm, 2, none⟩ = some (.int .i64 0) := (blk_cell hi.1 2).trans rfl
  have f0 := blk_frozen hi.1 0
  have f1 := blk_frozen hi.1 1
  have f2 := blk_frozen hi.1 2
  clear hi
  have g1 : (F ≤ st) = False := eq_false (by omega)
  have g2 : decide (F ≤ st) = false := decide_eq_false (by omega)
  have W := Aside0.mk (show wrap64 (st + 1) = st + 1 by unfold wrap64; omega)
  clear h hs hs2
  go_enter Tryd.func48, Tryd.ntmps48
  go_wp2
  go_quiet (fail)
  go_wp2
  go_ret
  refine ⟨rfl, ?_, ?_⟩
  · rw [W.out]
    exact (HI.out.drewN nq).set 0 (st + 1) rfl
  · exact KeepBut.set_ (keep_drewN' (KeepBut.refl w gm none) nq) 0 _
set_option maxHeartbeats 8000000 in
set_option maxRecDepth 100000 in
theorem step_no {w0 w : World} {gm : Nat} {st F : Int} (hi : Inv w0 w gm st F 0) (h : F ≤ st) :
    Calls Tryd.prog 48 #[.pointer (some ⟨gm, 0, none⟩)] w fun en w' => en = .returned (.bool false) ∧ Inv w0 w' gm st F 17 ∧ KeepBut w w' gm none := by
  have HI := Aside0.mk hi
  have c0 : w.cell? ⟨gm, 0, none⟩ = some (.int .i64 st) := (blk_cell hi.1 0).trans rfl
  have c1 : w.cell? ⟨gm, 1, none⟩ = some (.int .i64 F) := (blk_cell hi.1 1).trans rfl
  have c2 : w.cell? ⟨gm, 2, none⟩ = some (.int .i64 0) := (blk_cell hi.1 2).trans rfl
  have f0 := blk_frozen hi.1 0
  have f1 := blk_frozen hi.1 1
  have f2 := blk_frozen hi.1 2
  clear hi
  have g1 : (F ≤ st) = True := eq_true h
  have g2 : decide (F ≤ st) = true := decide_eq_true h
  clear h
  go_enter Tryd.func48, Tryd.ntmps48
  go_wp2
  go_quiet (fail)
  go_wp2
  go_ret
  refine ⟨rfl, ?_, ?_⟩
  · exact (HI.out.drewN nq).set 2 17 rfl
  · exact KeepBut.set_ (keep_drewN' (KeepBut.refl w gm none) nq) 2 _
set_option maxHeartbeats 8000000 in
set_option maxRecDepth 100000 in
theorem step_err {w0 w : World} {gm : Nat} {st F er : Int} (hi : Inv w0 w gm st F er) (h : er ≠ 0) :
    Calls Tryd.prog 48 #[.pointer (some ⟨gm, 0, none⟩)] w fun en w' => en = .returned (.bool false) ∧ Inv w0 w' gm st F er ∧ KeepBut w w' gm none := by
  have HI := Aside0.mk hi
  have c0 : w.cell? ⟨gm, 0, none⟩ = some (.int .i64 st) := (blk_cell hi.1 0).trans rfl
  have c1 : w.cell? ⟨gm, 1, none⟩ = some (.int .i64 F) := (blk_cell hi.1 1).trans rfl
  have c2 : w.cell? ⟨gm, 2, none⟩ = some (.int .i64 er) := (blk_cell hi.1 2).trans rfl
  have f0 := blk_frozen hi.1 0
  have f1 := blk_frozen hi.1 1
  have f2 := blk_frozen hi.1 2
  clear hi
  have g1 : (er = 0) = False := eq_false h
  have g2 : (er == 0) = false := by simpa using h
  have g3 : (er != 0) = true := by simpa using h
  clear h
  go_enter Tryd.func48, Tryd.ntmps48
  go_wp2
  go_quiet (fail)
  go_wp2
  go_ret
  exact ⟨rfl, HI.out.drewN nq, keep_drewN' (KeepBut.refl w gm none) nq⟩
set_option maxHeartbeats 8000000 in
set_option maxRecDepth 100000 in
theorem must_ok {w0 w : World} {gm : Nat} {st F : Int} (hi : Inv w0 w gm st F 0) :
    Calls Tryd.prog 47 #[.pointer (some ⟨gm, 0, none⟩), .bool true] w fun en w' => en = .returned (.bool true) ∧ Inv w0 w' gm st F 0 ∧ KeepBut w w' gm none := by
  have HI := Aside0.mk hi
  have c0 : w.cell? ⟨gm, 0, none⟩ = some (.int .i64 st) := (blk_cell hi.1 0).trans rfl
  have c1 : w.cell? ⟨gm, 1, none⟩ = some (.int .i64 F) := (blk_cell hi.1 1).trans rfl
  have c2 : w.cell? ⟨gm, 2, none⟩ = some (.int .i64 0) := (blk_cell hi.1 2).trans rfl
  have f0 := blk_frozen hi.1 0
  have f1 := blk_frozen hi.1 1
  have f2 := blk_frozen hi.1 2
  clear hi
  go_enter Tryd.func47, Tryd.ntmps47
  go_wp2
  go_ret
  exact ⟨rfl, HI.out, KeepBut.refl w gm none⟩
set_option maxHeartbeats 8000000 in
set_option maxRecDepth 100000 in
theorem must_no {w0 w : World} {gm : Nat} {st F : Int} (hi : Inv w0 w gm st F 0) :
    Calls Tryd.prog 47 #[.pointer (some ⟨gm, 0, none⟩), .bool false] w fun en w' => en = .returned (.bool false) ∧ Inv w0 w' gm st F 1 ∧ KeepBut w w' gm none := by
  have HI := Aside0.mk hi
  have c0 : w.cell? ⟨gm, 0, none⟩ = some (.int .i64 st) := (blk_cell hi.1 0).trans rfl
  have c1 : w.cell? ⟨gm, 1, none⟩ = some (.int .i64 F) := (blk_cell hi.1 1).trans rfl
  have c2 : w.cell? ⟨gm, 2, none⟩ = some (.int .i64 0) := (blk_cell hi.1 2).trans rfl
  have f0 := blk_frozen hi.1 0
  have f1 := blk_frozen hi.1 1
  have f2 := blk_frozen hi.1 2
  clear hi
  go_enter Tryd.func47, Tryd.ntmps47
  go_wp2
  go_ret
  exact ⟨rfl, HI.out.set 2 1 rfl, KeepBut.set_ (KeepBut.refl w gm none) 2 _⟩
set_option maxHeartbeats 8000000 in
set_option maxRecDepth 100000 in
theorem must_err {w0 w : World} {gm : Nat} {st F er : Int} (hi : Inv w0 w gm st F er) (b : Bool) (h : er ≠ 0) :
    Calls Tryd.prog 47 #[.pointer (some ⟨gm, 0, none⟩), .bool b] w fun en w' => en = .returned (.bool false) ∧ Inv w0 w' gm st F er ∧ KeepBut w w' gm none := by
  have HI := Aside0.mk hi
  have c0 : w.cell? ⟨gm, 0, none⟩ = some (.int .i64 st) := (blk_cell hi.1 0).trans rfl
  have c1 : w.cell? ⟨gm, 1, none⟩ = some (.int .i64 F) := (blk_cell hi.1 1).trans rfl
  have c2 : w.cell? ⟨gm, 2, none⟩ = some (.int .i64 er) := (blk_cell hi.1 2).trans rfl
  have f0 := blk_frozen hi.1 0
  have f1 := blk_frozen hi.1 1
  have f2 := blk_frozen hi.1 2
  clear hi
  have g1 : (er = 0) = False := eq_false h
  have g2 : (er == 0) = false := by simpa using h
  have g3 : (er != 0) = true := by simpa using h
  clear h
  cases b
  all_goals
    go_enter Tryd.func47, Tryd.ntmps47
    go_wp2
    go_ret
    exact ⟨rfl, HI.out, KeepBut.refl w gm none⟩
end Go.Proofs.YtnecmclnokikoaaDoor.Run
