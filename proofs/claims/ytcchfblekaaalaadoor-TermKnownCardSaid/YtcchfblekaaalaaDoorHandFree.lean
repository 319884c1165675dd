/- Package term: Free, Below, in the print's form. -/
import Derived.Test.YtcchfblekaaalaaDoorHandSome
namespace Go.Proofs.YtcchfblekaaalaaDoor.P
open Go.RowKit Go.Proofs.YtcchfblekaaalaaDoorW.PrintWords Go.Proofs.YtcchfblekaaalaaDoorW.PrintLast Go.Proofs.YtcchfblekaaalaaDoorW.PrintMore
set_option linter.unusedVariables false
set_option linter.unusedSimpArgs false
/-- What the closure of Free answers. -/
def freeDo (n : Int) (k a : Int) : Option Bool := some (decide (wrap64 (k - a) = n) && decide (a ≤ k))
/-- What the closure of Below answers. -/
def belowDo (n : Int) (k a : Int) : Option Bool := some (decide (a ≤ k) && decide (n ≤ wrap64 (k - a)))
theorem free56 (n x y : Int) (gq : Nat) (w : World) (h : w.heap[gq]? = some (.cells #[.int .i64 n] 3 (0, 0))) :
    Calls Tryd.prog 56 #[.int .i64 x, .int .i64 y, .pointer (some ⟨gq, 0, none⟩)] w fun e w' => e = .returned (.bool (decide (wrap64 (x - y) = n) && decide (y ≤ x))) ∧ w' = w := by
  have c0 : w.cell? ⟨gq, 0, none⟩ = some (.int .i64 n) := (blk_cell h 0).trans rfl
  have f0 := blk_frozen h 0
  clear h
  by_cases h1 : wrap64 (x - y) = n
  · have e1 : (wrap64 (x - y) == n) = true := by simpa using h1
    have e2 : decide (wrap64 (x - y) = n) = true := decide_eq_true h1
    have E2 := Aside0.mk e2
    clear h1 e2
    go_enter Tryd.func56, Tryd.ntmps56
    go_wp2
    go_ret
    exact ⟨by rw [E2.out]; simp, rfl⟩
  · have e1 : (wrap64 (x - y) == n) = false := by simpa using h1
    have e2 : decide (wrap64 (x - y) = n) = false := decide_eq_false h1
    have E2 := Aside0.mk e2
    clear h1 e2
    go_enter Tryd.func56, Tryd.ntmps56
    go_wp2
    go_ret
    exact ⟨by rw [E2.out]; simp, rfl⟩
theorem below57 (n x y : Int) (gq : Nat) (w : World) (h : w.heap[gq]? = some (.cells #[.int .i64 n] 3 (0, 0))) :
    Calls Tryd.prog 57 #[.int .i64 x, .int .i64 y, .pointer (some ⟨gq, 0, none⟩)] w fun e w' => e = .returned (.bool (decide (y ≤ x) && decide (n ≤ wrap64 (x - y)))) ∧ w' = w := by
  have c0 : w.cell? ⟨gq, 0, none⟩ = some (.int .i64 n) := (blk_cell h 0).trans rfl
  have f0 := blk_frozen h 0
  clear h
  by_cases h1 : y ≤ x
  · have e1 : (y ≤ x) = True := eq_true h1
    have e2 : decide (y ≤ x) = true := decide_eq_true h1
    have E2 := Aside0.mk e2
    clear h1
    go_enter Tryd.func57, Tryd.ntmps57
    go_wp2
    go_ret
    exact ⟨by rw [E2.out]; simp, rfl⟩
  · have e1 : (y ≤ x) = False := eq_false h1
    have e2 : decide (y ≤ x) = false := decide_eq_false h1
    have E2 := Aside0.mk e2
    clear h1
    go_enter Tryd.func57, Tryd.ntmps57
    go_wp2
    go_ret
    exact ⟨by rw [E2.out]; simp, rfl⟩
theorem freeClo (n : Int) (gq : Nat) (w : World) (h : w.heap[gq]? = some (.cells #[.int .i64 n] 3 (0, 0))) : CloB 56 (freeDo n) gq w := by
  intro w1 hb x y b hx
  cases Option.some.inj hx
  exact (free56 n x y gq w1 (blk_below h hb)).mono fun e w' ⟨h1, h2⟩ => ⟨h1, by subst h2; exact Drawn0.refl _⟩
theorem belowClo (n : Int) (gq : Nat) (w : World) (h : w.heap[gq]? = some (.cells #[.int .i64 n] 3 (0, 0))) : CloB 57 (belowDo n) gq w := by
  intro w1 hb x y b hx
  cases Option.some.inj hx
  exact (below57 n x y gq w1 (blk_below h hb)).mono fun e w' ⟨h1, h2⟩ => ⟨h1, by subst h2; exact Drawn0.refl _⟩
theorem box_two (w : World) (o : Obj) (n : Int) : ((w.alloc o).alloc (.cells #[.int .i64 n] 3)).heap[w.heap.size + 1]? = some (.cells #[.int .i64 n] 3 (0, 0)) := by
  have h := blk_new (w.alloc o) (.cells #[.int .i64 n] 3)
  rw [show (w.alloc o).heap.size = w.heap.size + 1 by simp [World.alloc, -World.alloc_eq]] at h
  exact h
def term_Free.f (k : Nat) (op n : Int) (kids : List S29) (a1 : Int) : Option Bool := someF.f (freeDo a1) k op n kids 0 0
theorem term_Free.mono : ∀ op n kids a1 k, LeO (term_Free.f k op n kids a1) (term_Free.f (k + 1) op n kids a1) := fun op n kids a1 k => someF.mono (freeDo a1) op n kids 0 0 k
set_option maxHeartbeats 8000000 in
set_option maxRecDepth 100000 in
theorem term_Free.calls (k : Nat) (op n : Int) (A : Option Addr) (c : Nat) (kids : List S29) (a1 : Int) (r : Bool) (w : World) (hC : Kd.C k29 w A kids.length kids) (hc : kids.length ≤ c) (h : term_Free.f k op n kids a1 = some r) :
    Calls Tryd.prog 34 #[.agg #[.int .i64 op, .int .i64 n, .slice A kids.length c], .int .i64 a1] w fun e w' => e = .returned (.bool r) ∧ Below w.heap.size w w' := by
  have HC := Aside0.mk hC
  have HCc := Aside0.mk hc
  have H := Aside0.mk h
  clear hC hc h
  go_enter Tryd.func34, Tryd.ntmps34
  go_wp2_with (first | (go_at_call 55; refine (someF.calls (freeDo a1) (w.heap.size + 1) k op n A c kids 0 0 r _ (Kd.C_below HC.out (below_alloc (below_alloc (Below.refl _ _) _) _)) HCc.out (freeClo a1 _ _ (box_two _ _ _)) H.out).mono ?_; rintro e w2 ⟨rfl, hB⟩; have B2 := Aside0.mk ((below_alloc (below_alloc (Below.refl _ _) _) _ : Below w.heap.size w _).trans (hB.mono (below_alloc (below_alloc (Below.refl _ _) _) _ : Below w.heap.size w _).size)); clear hB))
  go_ret
  exact ⟨rfl, B2.out⟩
def term_Below.f (k : Nat) (op n : Int) (kids : List S29) (a1 : Int) : Option Bool := (someB.f (belowDo a1) k op n kids 0 0).bind fun b => some (!b)
theorem term_Below.mono : ∀ op n kids a1 k, LeO (term_Below.f k op n kids a1) (term_Below.f (k + 1) op n kids a1) := fun op n kids a1 k => LeO.bind (someB.mono (belowDo a1) op n kids 0 0 k) fun _ => LeO.refl _
set_option maxHeartbeats 8000000 in
set_option maxRecDepth 100000 in
theorem term_Below.calls (k : Nat) (op n : Int) (A : Option Addr) (c : Nat) (kids : List S29) (a1 : Int) (r : Bool) (w : World) (hC : Kd.C k29 w A kids.length kids) (hc : kids.length ≤ c) (h : term_Below.f k op n kids a1 = some r) :
    Calls Tryd.prog 36 #[.agg #[.int .i64 op, .int .i64 n, .slice A kids.length c], .int .i64 a1] w fun e w' => e = .returned (.bool r) ∧ Below w.heap.size w w' := by
  obtain ⟨b, h1, h2⟩ := Option.bind_eq_some_iff.mp h
  cases Option.some.inj h2
  have HC := Aside0.mk hC
  have HCc := Aside0.mk hc
  have H := Aside0.mk h1
  clear hC hc h h1 h2
  go_enter Tryd.func36, Tryd.ntmps36
  go_wp2_with (first | (go_at_call 55; refine (someB.calls (belowDo a1) (w.heap.size + 1) k op n A c kids 0 0 b _ (Kd.C_below HC.out (below_alloc (below_alloc (Below.refl _ _) _) _)) HCc.out (belowClo a1 _ _ (box_two _ _ _)) H.out).mono ?_; rintro e w2 ⟨rfl, hB⟩; have B2 := Aside0.mk ((below_alloc (below_alloc (Below.refl _ _) _) _ : Below w.heap.size w _).trans (hB.mono (below_alloc (below_alloc (Below.refl _ _) _) _ : Below w.heap.size w _).size)); clear hB))
  go_ret
  exact ⟨rfl, B2.out⟩
end Go.Proofs.YtcchfblekaaalaaDoor.P
