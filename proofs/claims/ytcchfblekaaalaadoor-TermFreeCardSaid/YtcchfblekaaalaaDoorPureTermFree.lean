/- TermFree, the plain law: all free variables are below a number just where none from it on is free; what is put in brings its own. -/
import Derived.Test.YtcchfblekaaalaaDoorMake2
import Derived.Test.YtcchfblekaaalaaDoorFrsB
namespace Go.Proofs.YtcchfblekaaalaaDoor.Pure
open Go.RowKit Go.Proofs.YtcchfblekaaalaaDoor.P Go.Proofs.YtcchfblekaaalaaDoorW.PrintWords Go.Proofs.YtcchfblekaaalaaDoorW.PrintLast Go.Proofs.YtcchfblekaaalaaDoorW.PrintMore
set_option linter.unusedVariables false
/- ref.Free -/
mutual
theorem rfree_run {B n : Int} (hn0 : 0 ≤ n) : ∀ (t : S29) (ah : Int) (k : Nat), good B t → 0 ≤ ah → n + ah + 2 * deep29 t ≤ 1000000000 → 4 * size29 t + 2 ≤ k → thyrsusref4_Free.f k t.f0 t.f1 t.f2 (n + ah) = some (free n ah t)
  | ⟨a, b, l⟩, ah, k, hg, h0, hd, hk => by
    rw [size29] at hk
    rw [deep29] at hd
    obtain ⟨k, rfl⟩ : ∃ k', k = k' + 1 := ⟨k - 1, by omega⟩
    show thyrsusref4_Free.f (k + 1) a b l (n + ah) = some (sa _ _ _)
    rw [thyrsusref4_Free.f, sa]
    by_cases h : a = 1
    · rw [if_pos h, if_pos h, frP]
      by_cases h' : b = n + ah
      · rw [decide_eq_true (show b - ah = n by omega), decide_eq_true (show ah ≤ b by omega), h', beq_self_eq_true]
        rfl
      · rw [decide_eq_false (show ¬ b - ah = n by omega), beq_eq_false_iff_ne.2 h']
        rfl
    · rw [if_neg h, if_neg h]
      exact rfree_loop (B := B) (a := a) (b := b) hn0 h0 l [] k l rfl hg.2.2.2 hg.2.2.1 (by omega) (by omega)
theorem rfree_loop {B a b n ah : Int} (hn0 : 0 ≤ n) (h0 : 0 ≤ ah) : ∀ (r pre : List S29) (k : Nat) (l : List S29), l = pre ++ r → goods B r → l.length ≤ 1000000 → n + ah + 2 * (1 + deeps29 r) ≤ 1000000000 → 3 + 4 * sizes29 r ≤ k →
    thyrsusref4_Free.l0 k (n + ah) (pre.length : Int) a b l = some (sas (frP n) ah a pre.length r)
  | [], pre, k, l, hl, hg, hn, hd, hk => by
    obtain ⟨k, rfl⟩ : ∃ k', k = k' + 1 := ⟨k - 1, by omega⟩
    subst hl
    rw [thyrsusref4_Free.l0, if_neg (by simp), sas]
  | x :: r, pre, k, l, hl, hg, hn, hd, hk => by
    rw [sizes29] at hk
    rw [deeps29] at hd
    have hp := size_pos x
    obtain ⟨k, rfl⟩ : ∃ k', k = k' + 1 := ⟨k - 1, by omega⟩
    have hlen : l.length = pre.length + (r.length + 1) := by rw [hl, List.length_append, List.length_cons]
    have hx : rd_T29 l (pre.length : Int) = x := by
      rw [rd29 (show pre.length < l.length by omega)]
      subst hl
      simp
    have hb := bnd_range a (pre.length : Int)
    have ih := rfree_loop (B := B) (a := a) (b := b) hn0 h0 r (pre ++ [x]) k l (by rw [hl, List.append_assoc]; rfl) hg.2 hn (by omega) (by omega)
    rw [List.length_append, List.length_singleton] at ih
    have hq : thyrsusref4_Free.f k x.f0 x.f1 x.f2 (n + (ah + bnd a (pre.length : Int))) = some (sa (frP n) (ah + bnd a (pre.length : Int)) x) := rfree_run hn0 x _ k hg.1 (by omega) (by omega) (by omega)
    rw [thyrsusref4_Free.l0, if_pos (by omega), if_pos (by omega), hx, bindersE _ _ _ (by omega), Option.bind_some, wrap_in (n := n + ah + bnd a (pre.length : Int)) (by omega) (by omega), Int.add_assoc n ah, hq, Option.bind_some, sas]
    cases sa (frP n) (ah + bnd a (pre.length : Int)) x
    · rw [if_neg (by decide), wrap_in (by omega) (by omega), show (pre.length : Int) + 1 = ((pre.length + 1 : Nat) : Int) by omega, ih]
      simp
    · rw [if_pos rfl]
      simp
end
/- free, of what is put in -/
mutual
theorem free_lift {i y : Int} (hy : 0 ≤ y) : ∀ (t : S29) (d : Int), free i (y + d) (sh y 0 d t) = free i d t
  | ⟨a, b, l⟩, d => by
    by_cases h : a = 1
    · subst h
      show sa _ _ (ea _ _ _) = sa _ _ _
      rw [ea_var, shQ, sa, if_pos rfl]
      by_cases hc : 0 ≤ b - d
      · rw [if_pos hc, sa, if_pos rfl, frP, frP]
        congr 1
        · exact decide_eq_decide.2 (by omega)
        · exact decide_eq_decide.2 (by omega)
      · rw [if_neg hc, sa, if_pos rfl, frP, frP, decide_eq_false (show ¬ y + d ≤ b by omega), decide_eq_false (show ¬ d ≤ b by omega), Bool.and_false, Bool.and_false]
    · show sa _ _ (ea _ _ _) = sa _ _ _
      rw [ea_node _ _ _ _ _ h, sa, if_neg h, sa, if_neg h, frees_lift hy l d a 0]
theorem frees_lift {i y : Int} (hy : 0 ≤ y) : ∀ (l : List S29) (d a : Int) (j : Nat), sas (frP i) (y + d) a j (eas (shQ y 0) d a j l) = sas (frP i) d a j l
  | [], d, a, j => by rw [eas, sas, sas]
  | t :: l, d, a, j => by
    have h1 : sa (frP i) (y + (d + bnd a j)) (ea (shQ y 0) (d + bnd a j) t) = sa (frP i) (d + bnd a j) t := free_lift hy t (d + bnd a j)
    rw [eas, sas, sas, Int.add_assoc, h1, frees_lift hy l d a (j + 1)]
end
mutual
theorem free_sb {i : Int} (hi : 0 ≤ i) (u : S29) : ∀ (t : S29) (ah : Int), 0 ≤ ah → free i ah (sb 0 u ah t) = (free (i + 1) ah t || free 0 ah t && free i 0 u)
  | ⟨a, b, l⟩, ah, h0 => by
    by_cases h : a = 1
    · subst h
      show sa _ _ (ea _ _ _) = (sa _ _ _ || sa _ _ _ && _)
      rw [ea_var, sbQ, sa, if_pos rfl, sa, if_pos rfl]
      by_cases h1 : 0 < b - ah
      · rw [if_pos h1, sa, if_pos rfl, frP, frP, frP, decide_eq_false (show ¬ b - ah = 0 by omega), Bool.false_and, Bool.false_and, Bool.or_false]
        congr 1
        · exact decide_eq_decide.2 (by omega)
        · exact decide_eq_decide.2 (by omega)
      · rw [if_neg h1]
        by_cases h2 : b - ah = 0
        · rw [if_pos h2, frP, frP, decide_eq_false (show ¬ b - ah = i + 1 by omega), decide_eq_true h2, decide_eq_true (show ah ≤ b by omega)]
          have := free_lift (i := i) h0 u 0
          rw [Int.add_zero] at this
          rw [Bool.false_and, Bool.false_or, Bool.true_and, Bool.true_and]
          exact this
        · rw [if_neg h2, sa, if_pos rfl, frP, frP, frP, decide_eq_false (show ¬ ah ≤ b by omega), Bool.and_false, Bool.and_false, Bool.and_false, Bool.false_and, Bool.or_false]
    · show sa _ _ (ea _ _ _) = (sa _ _ _ || sa _ _ _ && _)
      rw [ea_node _ _ _ _ _ h, sa, if_neg h, sa, if_neg h, sa, if_neg h, frees_sb hi u l ah a 0 h0]
theorem frees_sb {i : Int} (hi : 0 ≤ i) (u : S29) : ∀ (l : List S29) (ah a : Int) (j : Nat), 0 ≤ ah → sas (frP i) ah a j (eas (sbQ 0 u) ah a j l) = (sas (frP (i + 1)) ah a j l || sas (frP 0) ah a j l && free i 0 u)
  | [], ah, a, j, h0 => by rw [eas, sas, sas, sas]; rfl
  | t :: l, ah, a, j, h0 => by
    have hb := bnd_range a (j : Int)
    have h1 : sa (frP i) (ah + bnd a j) (ea (sbQ 0 u) (ah + bnd a j) t) = (sa (frP (i + 1)) (ah + bnd a j) t || sa (frP 0) (ah + bnd a j) t && free i 0 u) := free_sb hi u t (ah + bnd a j) (by omega)
    rw [eas, sas, sas, sas, h1, frees_sb hi u l ah a (j + 1) h0]
    generalize sa (frP (i + 1)) (ah + bnd a j) t = A1
    generalize sa (frP 0) (ah + bnd a j) t = B1
    generalize sas (frP (i + 1)) ah a (j + 1) l = A2
    generalize sas (frP 0) ah a (j + 1) l = B2
    generalize free i 0 u = X
    cases A1 <;> cases B1 <;> cases A2 <;> cases B2 <;> cases X <;> rfl
end
/- below -/
mutual
theorem sa_or (p q r : Int → Int → Bool) (h : ∀ b ah, r b ah = (p b ah || q b ah)) : ∀ (t : S29) (ah : Int), sa r ah t = (sa p ah t || sa q ah t)
  | ⟨a, b, l⟩, ah => by
    rw [sa, sa, sa]
    by_cases h' : a = 1
    · rw [if_pos h', if_pos h', if_pos h', h]
    · rw [if_neg h', if_neg h', if_neg h', sas_or p q r h l ah a 0]
theorem sas_or (p q r : Int → Int → Bool) (h : ∀ b ah, r b ah = (p b ah || q b ah)) : ∀ (l : List S29) (ah a : Int) (j : Nat), sas r ah a j l = (sas p ah a j l || sas q ah a j l)
  | [], ah, a, j => by rw [sas, sas, sas]; rfl
  | t :: l, ah, a, j => by
    rw [sas, sas, sas, sa_or p q r h t, sas_or p q r h l ah a (j + 1)]
    cases sa p (ah + bnd a j) t <;> cases sa q (ah + bnd a j) t <;> cases sas p ah a (j + 1) l <;> rfl
end
theorem below_step' (n : Int) (t : S29) (ah : Int) : sa (beP n) ah t = (free n ah t || sa (beP (n + 1)) ah t) :=
  sa_or _ _ _ (fun b ah => by
    unfold beP frP
    by_cases h1 : ah ≤ b
    · by_cases h2 : b - ah = n
      · rw [decide_eq_true h1, decide_eq_true h2, decide_eq_true (show n ≤ b - ah by omega)]
        rfl
      · rw [decide_eq_true h1, decide_eq_false h2, Bool.true_and, Bool.false_and, Bool.false_or, Bool.true_and]
        exact decide_eq_decide.2 (by omega)
    · rw [decide_eq_false h1, Bool.and_false]
      rfl) t ah
mutual
theorem mk_below {n v : Int} (hv : v < n) : ∀ (t : S29) (ah : Int), mk (v + ah) t → sa (beP n) ah t = false
  | ⟨a, b, l⟩, ah, ⟨h1, h2, h3, h4⟩ => by
    rw [sa]
    by_cases h : a = 1
    · subst h
      unfold numM at h3
      rw [if_pos rfl] at h3
      rw [if_pos rfl, beP, decide_eq_false (show ¬ n ≤ b - ah by omega), Bool.and_false]
    · rw [if_neg h, mks_below hv l ah a 0 h4]
theorem mks_below {n v : Int} (hv : v < n) : ∀ (l : List S29) (ah a : Int) (j : Nat), mks (v + ah) a j l → sas (beP n) ah a j l = false
  | [], ah, a, j, _ => by rw [sas]
  | t :: l, ah, a, j, ⟨h1, h2⟩ => by
    rw [sas, mk_below hv t (ah + bnd a j) (by rw [← Int.add_assoc]; exact h1), mks_below hv l ah a (j + 1) h2]
    rfl
end
theorem make_evM {x : S24} (hx : WF24 x) (n : Nat) (vars : Int) (hn : n ≤ 10) (hv : 0 ≤ vars) (hv2 : vars ≤ 100) :
    ∃ t : S29, Ev (fun k => thyrsuslaw1_Make.f k x.f0 x.f1 x.f2 (n : Int) vars) (t.f0, t.f1, t.f2) ∧ mk vars t ∧ good 1000 t ∧ deep29 t ≤ 11 ∧ size29 t ≤ cap n := by
  obtain ⟨t, h1, h2, h3, h4⟩ := make2_all n x hx (n : Int) vars (Int.le_refl _) (by omega) hv (by omega) (by omega)
  exact ⟨t, h1, h2, mk_good (by omega) t h2 (by omega), by omega, h4⟩
theorem free_l0 {t : S29} {x2 u0 u1 : Int} {u2 : List S29} (hg : good 1000 t) (hd : deep29 t ≤ 11) (hm : mk 3 t) {R : Bool} : ∀ (d : Nat) (i : Int) (x9 : Bool), i + d = 12 → 0 ≤ i → Ev (fun k => thyrsuslaw4_TermFree.l0 k x2 (x9 && !sa (beP i) 0 t) 12 t.f0 t.f1 t.f2 u0 u1 u2) R → Ev (fun k => thyrsuslaw4_TermFree.l0 k x2 x9 i t.f0 t.f1 t.f2 u0 u1 u2) R
  | 0, i, x9, hi, h0, h => by
    obtain rfl : i = 12 := by omega
    rw [mk_below (n := 12) (v := 3) (by omega) t 0 (by simpa using hm)] at h
    simpa using h
  | d + 1, i, x9, hi, h0, h => by
    rw [below_step' i t 0] at h
    have st : ∀ c : Bool, c = (x9 && !free i 0 t) → Ev (fun k => thyrsuslaw4_TermFree.l0 k x2 c (wrap64 (i + 1)) t.f0 t.f1 t.f2 u0 u1 u2) R := fun c hc => by
      rw [wrap_in (by omega) (by omega)]
      refine free_l0 hg hd hm d (i + 1) c (by omega) (by omega) ?_
      rw [hc]
      have e : (x9 && !free i 0 t && !sa (beP (i + 1)) 0 t) = (x9 && !(free i 0 t || sa (beP (i + 1)) 0 t)) := by
        cases x9 <;> cases free i 0 t <;> cases sa (beP (i + 1)) 0 t <;> rfl
      rw [e]
      exact h
    cases x9 with
    | true =>
      refine Ev.step (f := fun k => (term_Free.f k t.f0 t.f1 t.f2 i).bind fun t339 => thyrsuslaw4_TermFree.l0 k x2 (!t339) (wrap64 (i + 1)) t.f0 t.f1 t.f2 u0 u1 u2) (fun k => by rw [thyrsuslaw4_TermFree.l0, if_pos (by omega), if_pos rfl]) ?_
      refine Ev.bind ⟨_, fun k hk => free_run (B := 1000) (n := i) (by omega) t hg (by omega) k hk⟩ ?_
      exact st _ (by simp)
    | false =>
      refine Ev.step (f := fun k => thyrsuslaw4_TermFree.l0 k x2 false (wrap64 (i + 1)) t.f0 t.f1 t.f2 u0 u1 u2) (fun k => by rw [thyrsuslaw4_TermFree.l0, if_pos (by omega), if_neg (by decide)]) ?_
      exact st _ rfl
theorem free_l1 {t u : S29} {x2 : Int} {x9 : Bool} (hg : good 1000 t) (hd : deep29 t ≤ 11) (hu : good 1000 u) (hdu : deep29 u ≤ 11) (h9 : Ev (fun k => term_Below.f k t.f0 t.f1 t.f2 x2) x9) : ∀ (d : Nat) (i : Int), i + d = 8 → 0 ≤ i →
    Ev (fun k => thyrsuslaw4_TermFree.l1 k x2 x9 i t.f0 t.f1 t.f2 u.f0 u.f1 u.f2 (sb 0 u 0 t).f0 (sb 0 u 0 t).f1 (sb 0 u 0 t).f2) true
  | 0, i, hi, h0 => by
    obtain rfl : i = 8 := by omega
    refine Ev.step (fun k => by rw [thyrsuslaw4_TermFree.l1, if_neg (by omega)]) ?_
    refine Ev.bind h9 ?_
    rw [beq_self_eq_true]
    exact Ev.now _
  | d + 1, i, hi, h0 => by
    have ih := free_l1 hg hd hu hdu h9 d (i + 1) (by omega) (by omega)
    have gs : good 2000 (sb 0 u 0 t) := sb_good (B := 1000) (C := 1000) (by omega) (by omega) u hu t 0 hg (by omega) (by omega)
    have ds : deep29 (sb 0 u 0 t) ≤ deep29 t + deep29 u := sb_deep u hu t 0 hg
    have key : free i 0 (sb 0 u 0 t) = (free (i + 1) 0 t || free 0 0 t && free i 0 u) := free_sb h0 u t 0 (by omega)
    refine Ev.step (fun k => by rw [thyrsuslaw4_TermFree.l1, if_pos (by omega)]) ?_
    rw [wrap_in (n := i + 1) (by omega) (by omega)]
    refine Ev.bind ⟨_, fun k hk => free_run (B := 2000) (n := i) (by omega) _ gs (by omega) k hk⟩ ?_
    have r1 : ∀ k, 4 * size29 t + 2 ≤ k → thyrsusref4_Free.f k t.f0 t.f1 t.f2 (i + 1) = some (free (i + 1) 0 t) := fun k hk => by
      have := rfree_run (B := 1000) (n := i + 1) (by omega) t 0 k hg (by omega) (by omega) hk
      rw [Int.add_zero] at this
      exact this
    have r2 : ∀ k, 4 * size29 t + 2 ≤ k → thyrsusref4_Free.f k t.f0 t.f1 t.f2 0 = some (free 0 0 t) := fun k hk => by
      have := rfree_run (B := 1000) (n := 0) (by omega) t 0 k hg (by omega) (by omega) hk
      rw [Int.add_zero] at this
      exact this
    have r3 : ∀ k, 4 * size29 u + 2 ≤ k → thyrsusref4_Free.f k u.f0 u.f1 u.f2 i = some (free i 0 u) := fun k hk => by
      have := rfree_run (B := 1000) (n := i) (by omega) u 0 k hu (by omega) (by omega) hk
      rw [Int.add_zero] at this
      exact this
    refine Ev.bind ⟨_, r1⟩ ?_
    rw [key]
    cases hA : free (i + 1) 0 t with
    | true =>
      simp only [if_true, Bool.true_or, bne_self_eq_false, Bool.false_eq_true, if_false]
      exact ih
    | false =>
      simp only [Bool.false_eq_true, if_false]
      refine Ev.bind ⟨_, r2⟩ ?_
      cases hB : free 0 0 t with
      | true =>
        simp only [if_true]
        refine Ev.bind ⟨_, r3⟩ ?_
        simp only [Bool.false_or, Bool.true_and, bne_self_eq_false, Bool.false_eq_true, if_false]
        exact ih
      | false =>
        simp only [Bool.false_or, Bool.false_and, bne_self_eq_false, Bool.false_eq_true, if_false]
        exact ih
theorem TermFree {x y : S24} (hx : WF24 x) (hy : WF24 y) {n : Int} (hn : (Lit.int .i64 n).wf = true) :
    Ev (fun k => thyrsuslaw4_TermFree.f k x.f0 x.f1 x.f2 y.f0 y.f1 y.f2 n) true := by
  unfold thyrsuslaw4_TermFree.f
  refine Ev.bind ⟨10, fun k hk => known_k hk⟩ ?_
  simp only [if_true]
  obtain ⟨c1, e1, _⟩ := few_ev hx
  refine Ev.bind e1 ?_
  have out : ∀ c : Bool, Ev (fun k => thyrsuslaw4_TermFree.j0 k n c x.f0 x.f1 x.f2 y.f0 y.f1 y.f2) true := by
    intro c
    cases c with
    | true => exact Ev.step (f := fun k => some true) (fun k => by simp only [thyrsuslaw4_TermFree.j0, if_true]) (Ev.now _)
    | false =>
      obtain ⟨t, m1, k1, g1, d1, z1⟩ := make_evM hx 6 3 (by omega) (by omega) (by omega)
      obtain ⟨u, m2, k2, g2, d2, z2⟩ := make_evM hy 4 3 (by omega) (by omega) (by omega)
      obtain ⟨na, la, ea_⟩ := within_ex (i64_of hn) (n := 8) (by decide) (by decide)
      refine Ev.step (fun k => by simp only [thyrsuslaw4_TermFree.j0, Bool.false_eq_true, if_false]; rfl) ?_
      refine Ev.bind m1 (Ev.bind m2 ?_)
      simp only [ea_, Option.bind_some]
      refine free_l0 g1 d1 k1 (12 - na) (na : Int) true (by omega) (by omega) ?_
      refine Ev.step (fun k => by rw [thyrsuslaw4_TermFree.l0, if_neg (by omega)]) ?_
      refine Ev.bind ⟨3 * size29 t + 3 * size29 u, fun k hk => subst_run (B := 1000) (C := 1000) (m := 0) (by omega) (by omega) (by omega) (by omega) t u g1 g2 (by omega) (by omega) k (by omega) (by omega)⟩ ?_
      refine free_l1 g1 d1 g2 d2 ?_ 8 0 (by omega) (by omega)
      rw [Bool.true_and]
      exact ⟨_, fun k hk => below_run (B := 1000) (n := (na : Int)) (by omega) t g1 (by omega) k hk⟩
  cases c1 with
  | true =>
    simp only [if_true]
    obtain ⟨c2, e2, _⟩ := few_ev hy
    exact Ev.bind e2 (out (!c2))
  | false =>
    simp only [Bool.false_eq_true, if_false]
    exact out true
end Go.Proofs.YtcchfblekaaalaaDoor.Pure
namespace Go.Proofs.YtcchfblekaaalaaDoor.P
open Go.RowKit Go.Proofs.YtcchfblekaaalaaDoorW.PrintWords Go.Proofs.YtcchfblekaaalaaDoorW.PrintLast Go.Proofs.YtcchfblekaaalaaDoorW.PrintMore
theorem termFree_walk (x0 : S24) (A0 : Option Addr) (c0 : Nat) {W : World} (hl0 : x0.f2.length ≤ c0) (hC0 : Kd.C k24 W A0 x0.f2.length x0.f2) (wf0 : WF24 x0) (x1 : S24) (A1 : Option Addr) (c1 : Nat) (hl1 : x1.f2.length ≤ c1) (hC1 : Kd.C k24 W A1 x1.f2.length x1.f2) (wf1 : WF24 x1) (a2 : Int) (w2 : (Lit.int .i64 a2).wf = true) :
    Calls Tryd.prog 11 #[.agg #[.int .i64 x0.f0, .int .i64 x0.f1, .slice A0 x0.f2.length c0], .agg #[.int .i64 x1.f0, .int .i64 x1.f1, .slice A1 x1.f2.length c1], .int .i64 a2] W fun e w' => e = .returned (.bool true) ∧ Below W.heap.size W w' := by
  obtain ⟨k, h⟩ := (Pure.TermFree wf0 wf1 w2).rounds
  exact thyrsuslaw4_TermFree.calls k x0.f0 x0.f1 A0 c0 x0.f2 x1.f0 x1.f1 A1 c1 x1.f2 a2 true W hC0 hl0 hC1 hl1 h
end Go.Proofs.YtcchfblekaaalaaDoor.P
