/- TermSizes, the plain law. -/
import Derived.Test.YtcchfblekaaalaaDoorPureD
import Derived.Test.YtcchfblekaaalaaDoorQx5
namespace Go.Proofs.YtcchfblekaaalaaDoor.Pure
open Go.RowKit Go.Proofs.YtcchfblekaaalaaDoor.P Go.Proofs.YtcchfblekaaalaaDoorW.PrintWords Go.Proofs.YtcchfblekaaalaaDoorW.PrintLast Go.Proofs.YtcchfblekaaalaaDoorW.PrintMore
set_option linter.unusedVariables false
theorem rd29' (l : List S29) (x : S29) (r : List S29) : rd_T29 (l ++ x :: r) (l.length : Int) = x := by simp [rd_T29]
/-- The law's loop over a term's kids. -/
theorem tsz_loop {B : Int} {a b : Int} {R : Bool} {u0 u1 : Int} {u2 : List S29} {tot : Nat} (l : List S29) (hgl : goods B l) (hlen : l.length ≤ 1000000) (htot : tot = 1 + sizes29 l) (hm : tot ≤ 1000000000000)
    (hfin : Ev (fun k => thyrsuslaw4_TermSizes.l0 k (tot : Int) (l.length : Int) a b l u0 u1 u2) R) : ∀ (r pre : List S29) (c : Nat), l = pre ++ r → goods B r → c + sizes29 r = tot → Ev (fun k => thyrsuslaw4_TermSizes.l0 k (c : Int) (pre.length : Int) a b l u0 u1 u2) R
  | [], pre, c, hl, hg, hc => by
    rw [sizes29] at hc
    rw [List.append_nil] at hl
    subst hl
    rw [show c = tot by omega]
    exact hfin
  | x :: r, pre, c, hl, hg, hc => by
    rw [sizes29] at hc
    have hp := size_pos x
    have hln : l.length = pre.length + (r.length + 1) := by rw [hl, List.length_append, List.length_cons]
    have hx : rd_T29 l (pre.length : Int) = x := by
      rw [rd29 (show pre.length < l.length by omega)]
      subst hl
      simp
    have ih := tsz_loop (B := B) (a := a) (b := b) l hgl hlen htot hm hfin r (pre ++ [x]) (c + size29 x) (by rw [hl, List.append_assoc]; rfl) hg.2 (by omega)
    rw [List.length_append, List.length_singleton] at ih
    refine Ev.step (f := fun k => (term_Size.f k x.f0 x.f1 x.f2).bind fun t184 => thyrsuslaw4_TermSizes.l0 k (wrap64 ((c : Int) + t184)) (wrap64 ((pre.length : Int) + 1)) a b l u0 u1 u2) (fun k => by rw [thyrsuslaw4_TermSizes.l0, if_pos (by omega), if_pos (by omega), hx]) ?_
    refine Ev.bind ⟨3 * size29 x, fun k hk => size_run x k hg.1 (by omega) hk⟩ ?_
    rw [wrap_in (by omega) (by omega), wrap_in (by omega) (by omega), show (pre.length : Int) + 1 = ((pre.length + 1 : Nat) : Int) by omega, show (c : Int) + (size29 x : Int) = ((c + size29 x : Nat) : Int) by omega]
    exact ih
theorem TermSizes {x y : S24} (hx : WF24 x) (hy : WF24 y) :
    Ev (fun k => thyrsuslaw4_TermSizes.f k x.f0 x.f1 x.f2 y.f0 y.f1 y.f2) true := by
  unfold thyrsuslaw4_TermSizes.f
  refine Ev.bind ⟨10, fun k hk => known_k hk⟩ ?_
  simp only [if_true]
  obtain ⟨c1, e1, _⟩ := few_ev hx
  refine Ev.bind e1 ?_
  have out : ∀ x18 : Bool, Ev (fun k => thyrsuslaw4_TermSizes.j0 k x18 x.f0 x.f1 x.f2 y.f0 y.f1 y.f2) true := by
    intro x18
    cases x18 with
    | true => exact Ev.step (f := fun k => some true) (fun k => by simp only [thyrsuslaw4_TermSizes.j0, if_true]) (Ev.now _)
    | false =>
      obtain ⟨t, m1, g1, d1, z1⟩ := make_evS hx 6 2 (by omega) (by omega) (by omega)
      obtain ⟨u, m2, g2, d2, z2⟩ := make_evS hy 4 2 (by omega) (by omega) (by omega)
      rw [cap6] at z1
      rw [cap4] at z2
      refine Ev.step (fun k => by simp only [thyrsuslaw4_TermSizes.j0, Bool.false_eq_true, if_false]; rfl) ?_
      refine Ev.bind m1 (Ev.bind m2 ?_)
      obtain ⟨a, b, l⟩ := t
      have hz : size29 ⟨a, b, l⟩ = 1 + sizes29 l := by rw [size29]
      have st : ∀ k, 3 * size29 (⟨a, b, l⟩ : S29) ≤ k → _ := fun k hk => size_run (B := 1000) (⟨a, b, l⟩ : S29) k g1 (by omega) hk
      have loop := tsz_loop (B := 1000) (a := a) (b := b) (R := true) (u0 := u.f0) (u1 := u.f1) (u2 := u.f2) (tot := size29 (⟨a, b, l⟩ : S29)) l g1.2.2.2 g1.2.2.1 hz (by omega) ?_ l [] 1 rfl g1.2.2.2 hz.symm
      · exact loop
      refine Ev.step (fun k => by rw [thyrsuslaw4_TermSizes.l0, if_neg (by omega)]) ?_
      refine Ev.bind ⟨_, st⟩ ?_
      simp only [if_true]
      have s1 : ∀ k, 3 * size29 (⟨a, b, l⟩ : S29) ≤ k → _ := shift_run (B := 1000) (by_ := 3) (fr := 0) (by omega) (by omega) (by omega) (by omega) (by omega) (⟨a, b, l⟩ : S29) g1 (by omega)
      refine Ev.bind ⟨_, s1⟩ ?_
      have zs : size29 (sh 3 0 0 (⟨a, b, l⟩ : S29)) = size29 (⟨a, b, l⟩ : S29) := sh_size 3 0 _ 0 g1
      have s2 : ∀ k, 3 * size29 (sh 3 0 0 (⟨a, b, l⟩ : S29)) ≤ k → _ := fun k hk => size_run (B := 1000 + 3) (sh 3 0 0 (⟨a, b, l⟩ : S29)) k (sh_good (by omega) (by omega) _ 0 g1) (by omega) hk
      refine Ev.bind ⟨_, s2⟩ ?_
      rw [zs]
      simp only [if_true]
      have s3 : ∀ k, 3 * size29 (⟨a, b, l⟩ : S29) + 3 * size29 u ≤ k → _ := fun k hk => subst_run (B := 1000) (C := 1000) (m := 0) (by omega) (by omega) (by omega) (by omega) (⟨a, b, l⟩ : S29) u g1 g2 (by omega) (by omega) k (by omega) (by omega)
      refine Ev.bind ⟨_, s3⟩ ?_
      have zb : size29 (sb 0 u 0 (⟨a, b, l⟩ : S29)) + pl 0 (⟨a, b, l⟩ : S29) = size29 (⟨a, b, l⟩ : S29) + pl 0 (⟨a, b, l⟩ : S29) * size29 u := sb_size (m := 0) u g2 (⟨a, b, l⟩ : S29) 0 g1
      have hple := pl_le (⟨a, b, l⟩ : S29) 0
      have hmul : pl 0 (⟨a, b, l⟩ : S29) * size29 u ≤ 5461 * 341 := Nat.mul_le_mul (by omega) z2
      have s4 : ∀ k, 3 * size29 (sb 0 u 0 (⟨a, b, l⟩ : S29)) ≤ k → _ := fun k hk => size_run (B := 2000) (sb 0 u 0 (⟨a, b, l⟩ : S29)) k (sb_good (B := 1000) (C := 1000) (by omega) (by omega) u g2 (⟨a, b, l⟩ : S29) 0 g1 (by omega) (by omega)) (by omega) hk
      refine Ev.bind ⟨_, s4⟩ ?_
      refine Ev.bind ⟨_, fun k hk => pl_run (B := 1000) (⟨a, b, l⟩ : S29) 0 k g1 (by omega) (by omega) (by omega) hk⟩ ?_
      refine Ev.bind ⟨_, fun k hk => size_run (B := 1000) u k g2 (by omega) hk⟩ ?_
      have hup := size_pos u
      have e1 : ((pl 0 (⟨a, b, l⟩ : S29) : Int) * ((size29 u : Int) - 1)) + (pl 0 (⟨a, b, l⟩ : S29) : Int) = ((pl 0 (⟨a, b, l⟩ : S29) * size29 u : Nat) : Int) := by
        rw [Int.mul_sub, Int.mul_one, Int.natCast_mul]
        omega
      generalize hA : (pl 0 (⟨a, b, l⟩ : S29) : Int) * ((size29 u : Int) - 1) = A at e1
      rw [wrap_in (n := (size29 u : Int) - 1) (by omega) (by omega), hA, wrap_in (n := A) (by omega) (by omega), wrap_in (by omega) (by omega)]
      have : ((size29 (sb 0 u 0 (⟨a, b, l⟩ : S29)) : Int) == (size29 (⟨a, b, l⟩ : S29) : Int) + A) = true := by
        rw [beq_iff_eq]
        omega
      rw [this]
      exact Ev.now _
  cases c1 with
  | true =>
    simp only [if_true]
    obtain ⟨c2, e2, _⟩ := few_ev hy
    exact Ev.bind e2 (out (!c2))
  | false =>
    simp only [Bool.false_eq_true, if_false]
    exact out true
end Go.Proofs.YtcchfblekaaalaaDoor.Pure
namespace Go.Proofs.YtcchfblekaaalaaDoor.P
open Go.RowKit Go.Proofs.YtcchfblekaaalaaDoorW.PrintWords Go.Proofs.YtcchfblekaaalaaDoorW.PrintLast Go.Proofs.YtcchfblekaaalaaDoorW.PrintMore
theorem termSizes_walk (x0 : S24) (A0 : Option Addr) (c0 : Nat) {W : World} (hl0 : x0.f2.length ≤ c0) (hC0 : Kd.C k24 W A0 x0.f2.length x0.f2) (wf0 : WF24 x0) (x1 : S24) (A1 : Option Addr) (c1 : Nat) (hl1 : x1.f2.length ≤ c1) (hC1 : Kd.C k24 W A1 x1.f2.length x1.f2) (wf1 : WF24 x1) :
    Calls Tryd.prog 9 #[.agg #[.int .i64 x0.f0, .int .i64 x0.f1, .slice A0 x0.f2.length c0], .agg #[.int .i64 x1.f0, .int .i64 x1.f1, .slice A1 x1.f2.length c1]] W fun e w' => e = .returned (.bool true) ∧ Below W.heap.size W w' := by
  obtain ⟨k, h⟩ := (Pure.TermSizes wf0 wf1).rounds
  exact thyrsuslaw4_TermSizes.calls k x0.f0 x0.f1 A0 c0 x0.f2 x1.f0 x1.f1 A1 c1 x1.f2 true W hC0 hl0 hC1 hl1 h
end Go.Proofs.YtcchfblekaaalaaDoor.P
