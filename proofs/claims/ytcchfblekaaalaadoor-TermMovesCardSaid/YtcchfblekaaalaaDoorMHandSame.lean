/- Package term: Same, in the print's form. -/
import Derived.Test.YtcchfblekaaalaaDoorMHandEq
namespace Go.Proofs.YtcchfblekaaalaaDoor.P
open Go.RowKit Go.Proofs.YtcchfblekaaalaaDoorW.PrintWords Go.Proofs.YtcchfblekaaalaaDoorW.PrintLast Go.Proofs.YtcchfblekaaalaaDoorW.PrintMore
set_option linter.unusedVariables false
set_option linter.unusedSimpArgs false
theorem two_below (w : World) (o o2 : Obj) : Below w.heap.size w ((w.alloc o).alloc o2) := below_alloc (below_alloc (Below.refl _ _) _) _
set_option maxHeartbeats 8000000 in
set_option maxRecDepth 100000 in
theorem same19 (k : Nat) (ih : ∀ w, CloE (term_Same.f k) w) {o1 n1 : Int} {A1 : Option Addr} {c1 : Nat} {l1 : List S29} {o2 n2 : Int} {A2 : Option Addr} {c2 : Nat} {l2 : List S29} {b : Bool} {w : World}
    (hC1 : Kd.C k29 w A1 l1.length l1) (hc1 : l1.length ≤ c1) (hC2 : Kd.C k29 w A2 l2.length l2) (hc2 : l2.length ≤ c2) (h : term_Same.f (k + 1) o1 n1 l1 o2 n2 l2 = some b) :
    Calls Tryd.prog 19 #[.agg #[.int .i64 o1, .int .i64 n1, .slice A1 l1.length c1], .agg #[.int .i64 o2, .int .i64 n2, .slice A2 l2.length c2]] w fun e w' => e = .returned (.bool b) ∧ Below w.heap.size w w' := by
  have HC1 := Aside0.mk hC1
  have HC2 := Aside0.mk hC2
  have Hc1 := Aside0.mk hc1
  have Hc2 := Aside0.mk hc2
  have IH := Aside0.mk ih
  rw [term_Same.f] at h
  by_cases ho : o1 = o2
  · subst ho
    rw [if_pos rfl] at h
    by_cases hn : n1 = n2
    · subst hn
      rw [if_pos rfl] at h
      have H := Aside0.mk h
      clear h hC1 hC2 hc1 hc2 ih
      go_enter Tryd.func19, Tryd.ntmps19
      go_wp2_with (first | (go_at_call 47; refine (eqL.calls (term_Same.f k) k A1 c1 l1 A2 c2 l2 0 b _ (Kd.C_below HC1.out (two_below _ _ _)) Hc1.out (Kd.C_below HC2.out (two_below _ _ _)) Hc2.out (IH.out _) H.out).mono ?_; rintro e w2 ⟨rfl, hB⟩; have B2 := Aside0.mk ((two_below w _ _).trans (hB.mono (two_below w _ _).size)); clear hB))
      all_goals (go_ret; exact ⟨by simp, B2.out⟩)
    · rw [if_neg hn] at h
      cases Option.some.inj h
      have e1 : (n1 == n2) = false := by simpa using hn
      clear h hC1 hC2 hc1 hc2 ih hn
      go_enter Tryd.func19, Tryd.ntmps19
      go_wp2
      go_ret
      exact ⟨by simp, two_below _ _ _⟩
  · rw [if_neg ho] at h
    cases Option.some.inj h
    have e1 : (o1 == o2) = false := by simpa using ho
    clear h hC1 hC2 hc1 hc2 ih ho
    go_enter Tryd.func19, Tryd.ntmps19
    go_wp2
    go_ret
    exact ⟨by simp, two_below _ _ _⟩
theorem same_all : ∀ k w, CloE (term_Same.f k) w
  | 0, w => fun w1 hb o1 n1 A1 c1 l1 o2 n2 A2 c2 l2 b h1 h2 h3 h4 h => by simp [term_Same.f] at h
  | k + 1, w => fun w1 hb o1 n1 A1 c1 l1 o2 n2 A2 c2 l2 b h1 h2 h3 h4 h => same19 k (same_all k) h1 h2 h3 h4 h
theorem term_Same.calls (k : Nat) (o1 n1 : Int) (A1 : Option Addr) (c1 : Nat) (l1 : List S29) (o2 n2 : Int) (A2 : Option Addr) (c2 : Nat) (l2 : List S29) (b : Bool) (w : World)
    (hC1 : Kd.C k29 w A1 l1.length l1) (hc1 : l1.length ≤ c1) (hC2 : Kd.C k29 w A2 l2.length l2) (hc2 : l2.length ≤ c2) (h : term_Same.f k o1 n1 l1 o2 n2 l2 = some b) :
    Calls Tryd.prog 19 #[.agg #[.int .i64 o1, .int .i64 n1, .slice A1 l1.length c1], .agg #[.int .i64 o2, .int .i64 n2, .slice A2 l2.length c2]] w fun e w' => e = .returned (.bool b) ∧ Below w.heap.size w w' :=
  same_all k w w (Below.refl _ _) o1 n1 A1 c1 l1 o2 n2 A2 c2 l2 b hC1 hc1 hC2 hc2 h
end Go.Proofs.YtcchfblekaaalaaDoor.P
