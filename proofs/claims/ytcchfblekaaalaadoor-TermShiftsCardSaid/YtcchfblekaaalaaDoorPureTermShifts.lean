/- TermShifts, the plain law: shifted by none a term is as it was; by two numbers, one after the other, by both; what is put for a variable that a shift left out is not there. No conditions but that the raw terms are raw terms, and the numbers whole numbers of 64 bits. -/
import Derived.Test.YtcchfblekaaalaaDoorPureC
import Derived.Test.YtcchfblekaaalaaDoorMake
import Derived.Test.YtcchfblekaaalaaDoorShsB
namespace Go.Proofs.YtcchfblekaaalaaDoor.Pure
open Go.RowKit Go.Proofs.YtcchfblekaaalaaDoor.P Go.Proofs.YtcchfblekaaalaaDoorW.PrintWords Go.Proofs.YtcchfblekaaalaaDoorW.PrintLast Go.Proofs.YtcchfblekaaalaaDoorW.PrintMore
set_option linter.unusedVariables false
theorem known_ev : Ev thyrsuslaw4_known.f true := ⟨10, fun k hk => known_k hk⟩
theorem ev_at {α : Type} {g : Nat → Option α} {r : α} {n : Nat} (h : ∀ k, n ≤ k → g k = some r) : Ev g r := ⟨n, h⟩
/-- A term out of raw numbers: sound, small. -/
theorem make_ev {x : S24} (hx : WF24 x) (n : Nat) (vars : Int) (hn : n ≤ 10) (hv : 0 ≤ vars) (hv2 : vars ≤ 100) :
    ∃ t : S29, Ev (fun k => thyrsuslaw1_Make.f k x.f0 x.f1 x.f2 (n : Int) vars) (t.f0, t.f1, t.f2) ∧ good 1000 t ∧ deep29 t ≤ 11 := by
  obtain ⟨t, h1, h2, h3, _⟩ := make_all n x hx (n : Int) vars (Int.le_refl _) (by omega) hv (by omega) (by omega)
  exact ⟨t, h1, h2, by omega⟩
theorem TermShifts {x y : S24} (hx : WF24 x) (hy : WF24 y) {a b f : Int} (ha : (Lit.int .i64 a).wf = true) (hb : (Lit.int .i64 b).wf = true) (hf : (Lit.int .i64 f).wf = true) :
    Ev (fun k => thyrsuslaw4_TermShifts.f k x.f0 x.f1 x.f2 y.f0 y.f1 y.f2 a b f) true := by
  unfold thyrsuslaw4_TermShifts.f
  refine Ev.bind known_ev ?_
  simp only [if_true]
  obtain ⟨c1, e1, _⟩ := few_ev hx
  refine Ev.bind e1 ?_
  have out : ∀ x22 : Bool, Ev (fun k => thyrsuslaw4_TermShifts.j0 k a b f x22 x.f0 x.f1 x.f2 y.f0 y.f1 y.f2) true := by
    intro x22
    cases x22 with
    | true => exact Ev.step (f := fun k => some true) (fun k => by simp only [thyrsuslaw4_TermShifts.j0, if_true]) (Ev.now _)
    | false =>
      obtain ⟨t, m1, g1, d1⟩ := make_ev hx 6 4 (by omega) (by omega) (by omega)
      obtain ⟨u, m2, g2, d2⟩ := make_ev hy 4 4 (by omega) (by omega) (by omega)
      obtain ⟨na, la, ea_⟩ := within_ex (i64_of ha) (n := 5) (by decide) (by decide)
      obtain ⟨nb, lb, eb⟩ := within_ex (i64_of hb) (n := 5) (by decide) (by decide)
      obtain ⟨nf, lf, ef⟩ := within_ex (i64_of hf) (n := 6) (by decide) (by decide)
      refine Ev.step (fun k => by simp only [thyrsuslaw4_TermShifts.j0, Bool.false_eq_true, if_false]; rfl) ?_
      refine Ev.bind m1 (Ev.bind m2 ?_)
      simp only [ea_, eb, ef, Option.bind_some]
      have s0 : ∀ k, 3 * size29 t ≤ k → _ := shift_run (B := 1000) (by_ := 0) (fr := nf) (by omega) (by omega) (by omega) (by omega) (by omega) t g1 (by omega)
      refine Ev.bind (ev_at s0) ?_
      rw [sh_zero (nf : Int) t 0 g1]
      refine Ev.bind (ev_at (same_self t · g1)) ?_
      simp only [if_true]
      have s1 : ∀ k, 3 * size29 t ≤ k → _ := shift_run (B := 1000) (by_ := na) (fr := nf) (by omega) (by omega) (by omega) (by omega) (by omega) t g1 (by omega)
      refine Ev.bind (ev_at s1) ?_
      have ga : good (1000 + na) (sh na nf 0 t) := sh_good (by omega) (by omega) t 0 g1
      have da := sh_deep na nf t 0 g1
      have s2 : ∀ k, 3 * size29 (sh na nf 0 t) ≤ k → _ := shift_run (B := 1000 + na) (by_ := nb) (fr := nf) (by omega) (by omega) (by omega) (by omega) (by omega) (sh na nf 0 t) ga (by omega)
      refine Ev.bind (ev_at s2) ?_
      rw [wrap_in (n := (na : Int) + nb) (by omega) (by omega)]
      have s3 : ∀ k, 3 * size29 t ≤ k → _ := shift_run (B := 1000) (by_ := na + nb) (fr := nf) (by omega) (by omega) (by omega) (by omega) (by omega) t g1 (by omega)
      refine Ev.bind (ev_at s3) ?_
      rw [sh_sh (show (0 : Int) ≤ na by omega)]
      have gab : good (1000 + (na + nb)) (sh (na + nb) nf 0 t) := sh_good (by omega) (by omega) t 0 g1
      refine Ev.bind (ev_at (same_self (sh (na + nb) nf 0 t) · gab)) ?_
      simp only [if_true]
      have s4 : ∀ k, 3 * size29 t ≤ k → _ := shift_run (B := 1000) (by_ := 1) (fr := nf) (by omega) (by omega) (by omega) (by omega) (by omega) t g1 (by omega)
      refine Ev.bind (ev_at s4) ?_
      have g1' : good (1000 + 1) (sh 1 nf 0 t) := sh_good (by omega) (by omega) t 0 g1
      have d1' := sh_deep 1 nf t 0 g1
      have s5 : ∀ k, 3 * size29 (sh 1 nf 0 t) + 3 * size29 u ≤ k → _ := fun k hk => subst_run (B := 1000 + 1) (C := 1000) (m := nf) (by omega) (by omega) (by omega) (by omega) (sh 1 nf 0 t) u g1' g2 (by omega) (by omega) k (by omega) (by omega)
      refine Ev.bind (ev_at s5) ?_
      rw [sb_sh u t 0 g1]
      refine Ev.bind (ev_at (same_self t · g1)) ?_
      simp only [if_true]
      refine Ev.bind (ev_at s4) ?_
      have s6 : ∀ k, 3 * size29 (sh 1 nf 0 t) ≤ k → _ := free_run (B := 1000 + 1) (n := nf) (by omega) (sh 1 nf 0 t) g1' (by omega)
      refine Ev.bind (ev_at s6) ?_
      rw [free_sh t 0]
      exact Ev.now _
  cases c1 with
  | true =>
    simp only [if_true]
    obtain ⟨c2, e2, _⟩ := few_ev hy
    exact Ev.bind e2 (out (!c2))
  | false =>
    simp only [Bool.false_eq_true, if_false]
    exact out true
end Go.Proofs.YtcchfblekaaalaaDoor.Pure
namespace Go.Proofs.YtcchfblekaaalaaDoor.P
open Go.RowKit Go.Proofs.YtcchfblekaaalaaDoorW.PrintWords Go.Proofs.YtcchfblekaaalaaDoorW.PrintLast Go.Proofs.YtcchfblekaaalaaDoorW.PrintMore
theorem termShifts_walk (x0 : S24) (A0 : Option Addr) (c0 : Nat) {W : World} (hl0 : x0.f2.length ≤ c0) (hC0 : Kd.C k24 W A0 x0.f2.length x0.f2) (wf0 : WF24 x0) (x1 : S24) (A1 : Option Addr) (c1 : Nat) (hl1 : x1.f2.length ≤ c1) (hC1 : Kd.C k24 W A1 x1.f2.length x1.f2) (wf1 : WF24 x1) (a2 : Int) (w2 : (Lit.int .i64 a2).wf = true) (a3 : Int) (w3 : (Lit.int .i64 a3).wf = true) (a4 : Int) (w4 : (Lit.int .i64 a4).wf = true) :
    Calls Tryd.prog 10 #[.agg #[.int .i64 x0.f0, .int .i64 x0.f1, .slice A0 x0.f2.length c0], .agg #[.int .i64 x1.f0, .int .i64 x1.f1, .slice A1 x1.f2.length c1], .int .i64 a2, .int .i64 a3, .int .i64 a4] W fun e w' => e = .returned (.bool true) ∧ Below W.heap.size W w' := by
  obtain ⟨k, h⟩ := (Pure.TermShifts wf0 wf1 w2 w3 w4).rounds
  exact thyrsuslaw4_TermShifts.calls k x0.f0 x0.f1 A0 c0 x0.f2 x1.f0 x1.f1 A1 c1 x1.f2 a2 a3 a4 true W hC0 hl0 hC1 hl1 h
end Go.Proofs.YtcchfblekaaalaaDoor.P
