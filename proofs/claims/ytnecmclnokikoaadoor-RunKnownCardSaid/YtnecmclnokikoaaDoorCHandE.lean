/- Package run: a part of a pair's value: from what eval does in fewer rounds. -/
import Derived.Test.YtnecmclnokikoaaDoorCHandD
import Derived.Deep.QuietTactic
import Derived.BigQuiet
namespace Go.Proofs.YtnecmclnokikoaaDoor.Run
open Go.RowKit Go.Proofs.YtnecmclnokikoaaDoor.P Go.Proofs.YtnecmclnokikoaaDoorW.PrintWords Go.Proofs.YtnecmclnokikoaaDoorW.PrintLast Go.Proofs.YtnecmclnokikoaaDoorW.PrintMore
set_option linter.unusedVariables false
set_option linter.unusedSimpArgs false
/-- What a method of the machine answers. -/
def Ans (w0 w : World) (ok : Nat → Prop) (gm : Nat) (F : Int) (r : V × Int × Int) (en : Ending) (w' : World) : Prop := ∃ pv, en = .returned pv ∧ RV w0 w' (fun k => ok k ∨ w.heap.size ≤ k) r.1 pv ∧ Inv w0 w' gm r.2.1 F r.2.2 ∧ KeepBut w w' gm none
theorem RV_up {w0 w w1 w' : World} {ok : Nat → Prop} {v : V} {p : Value} (h : RV w0 w' (fun k => ok k ∨ w1.heap.size ≤ k) v p) (hs : w.heap.size ≤ w1.heap.size) : RV w0 w' (fun k => ok k ∨ w.heap.size ≤ k) v p :=
  RV_step (w := w') (fun k hk => hk.elim Or.inl (fun h => Or.inr (Nat.le_trans hs h))) (fun _ _ _ => rfl) _ _ h
theorem RV_kept {w0 w w1 w2 : World} {ok : Nat → Prop} {gm : Nat} {v : V} {p : Value} (h : RV w0 w1 (fun k => ok k ∨ w.heap.size ≤ k) v p) (hk : KeepBut w1 w2 gm none) (hok : ∀ k, ok k → k ≠ gm) (hg : gm < w.heap.size) : RV w0 w2 (fun k => ok k ∨ w.heap.size ≤ k) v p :=
  RV_keep h hk (fun k hk => hk.elim (hok k) (fun h => by omega)) (fun _ h => h)
set_option maxHeartbeats 8000000 in
set_option maxRecDepth 100000 in
theorem part64 {F : Int} {k : Nat} (ih : CEV F k) {w0 w : World} {gm : Nat} {e : E} {t : S29} {pe : Value} {A : Option Addr} {c : Nat} {st : Int} {ok : Nat → Prop} {r : V × Int × Int}
    (hi : Inv w0 w gm st F 0) (he : RE w0 w ok e pe) (hok : ∀ k, ok k → k ≠ gm) (hc : t.f2.length ≤ c) (hC : Kd.C k29 w0 A t.f2.length t.f2) (hop : t.f0 = 23 ∨ t.f0 = 24) (hr : ((kid t 0).bind fun x => (ev F k e x st 0).bind fun p => partOf t.f0 p) = some r) :
    Calls Tryd.prog 73 #[.pointer (some ⟨gm, 0, none⟩), pe, .agg #[.int .i64 t.f0, .int .i64 t.f1, .slice A t.f2.length c]] w (Ans w0 w ok gm F r) := by
  obtain ⟨x, hx, hr⟩ := Option.bind_eq_some_iff.mp hr
  obtain ⟨a, ha, hr⟩ := Option.bind_eq_some_iff.mp hr
  obtain ⟨hlt, ad, A2, c2, hA, x0, x1, x2, hc2, hC2⟩ := kid_at hC hx
  replace x0 := pw_cell_below hi.2.1 x0
  replace x1 := pw_cell_below hi.2.1 x1
  replace x2 := pw_cell_below hi.2.1 x2
  have HI := Aside0.mk hi
  have HE := Aside0.mk he
  have HK := Aside0.mk hok
  have C1 := Aside0.mk (fun w1 (h1 : Inv w0 w1 gm st F 0) (h2 : RE w0 w1 ok e pe) => ih h1 h2 hok hc2 hC2 ha)
  have e1 : ((0 : Int) < (t.f2.length : Int)) = True := eq_true (by omega)
  have e2 : (0 < t.f2.length) = True := eq_true (by omega)
  have e3 : decide ((0 : Int) < (t.f2.length : Int)) = true := decide_eq_true (by omega)
  rw [Nat.zero_mul, show ad.add 0 = ad by cases ad; simp [Addr.add]] at x0 x1 x2
  replace x0 := fun o => pw_cell_below (below_alloc (Below.refl w.heap.size w) o) x0
  replace x1 := fun o => pw_cell_below (below_alloc (Below.refl w.heap.size w) o) x1
  replace x2 := fun o => pw_cell_below (below_alloc (Below.refl w.heap.size w) o) x2
  have GMlt := Aside0.mk (blk_lt hi.1)
  subst hA
  obtain ⟨va, s1, e1_⟩ := a
  clear hi he hok hc hC hc2 hC2 ha ih hx hlt
  by_cases hz : e1_ = 0
  · subst hz
    cases va with
    | int n =>
      have hr' : partOf t.f0 (.int n, s1, 0) = some (.int n, s1, 1) := rfl
      rw [hr'] at hr
      obtain rfl := Option.some.inj hr
      clear hr hr' hop
      go_enter Tryd.func73, Tryd.ntmps73
      go_wp2_with (first | (go_at_call 29; (with_reducible refine (C1.out _ (HI.out.below (below_alloc (Below.refl _ _) _)) (RE_below HE.out (below_alloc (Below.refl _ _) _) (fun _ h => h))).mono ?_); rintro en w2 ⟨pv, rfl, hv, hi2, hk2⟩; have V2 := Aside0.mk (RV_up hv (Nat.le_trans (Nat.le_succ _) (Nat.le_of_eq (size_alloc w _).symm))); have I2 := Aside0.mk hi2; have Q2 := Aside0.mk (KeepBut.trans (keep_alloc (KeepBut.refl w gm none) _) hk2 (.inl rfl)); have L2 := Aside0.mk (hk2.blk (blk_new w _) (Nat.ne_of_gt GMlt.out) (by simp)); obtain ⟨gv, l0, op_, n_, ks_, pe_, rfl, hokv, hv0⟩ := RV_ptr hv; have b0 : w2.cell? ⟨gv, 0, none⟩ = some (.int .i64 1) := (blk_cell hv0 0).trans rfl; clear hv hi2 hk2 hv0 hokv) | (go_at_call 47; (with_reducible refine (must_no I2.out).mono ?_); rintro en w3 ⟨rfl, hi3, hk3⟩; have I3 := Aside0.mk hi3; have Q3 := Aside0.mk hk3; clear hi3 hk3))
      go_ret
      exact ⟨_, rfl, RV_kept V2.out Q3.out HK.out GMlt.out, I3.out, KeepBut.trans Q2.out Q3.out (.inl rfl)⟩
    | fn b up =>
      have hr' : partOf t.f0 (.fn b up, s1, 0) = some (.fn b up, s1, 1) := rfl
      rw [hr'] at hr
      obtain rfl := Option.some.inj hr
      clear hr hr' hop
      go_enter Tryd.func73, Tryd.ntmps73
      go_wp2_with (first | (go_at_call 29; (with_reducible refine (C1.out _ (HI.out.below (below_alloc (Below.refl _ _) _)) (RE_below HE.out (below_alloc (Below.refl _ _) _) (fun _ h => h))).mono ?_); rintro en w2 ⟨pv, rfl, hv, hi2, hk2⟩; have V2 := Aside0.mk (RV_up hv (Nat.le_trans (Nat.le_succ _) (Nat.le_of_eq (size_alloc w _).symm))); have I2 := Aside0.mk hi2; have Q2 := Aside0.mk (KeepBut.trans (keep_alloc (KeepBut.refl w gm none) _) hk2 (.inl rfl)); have L2 := Aside0.mk (hk2.blk (blk_new w _) (Nat.ne_of_gt GMlt.out) (by simp)); obtain ⟨gv, l0, op_, n_, ks_, pe_, rfl, hokv, hv0⟩ := RV_ptr hv; have b0 : w2.cell? ⟨gv, 0, none⟩ = some (.int .i64 3) := (blk_cell hv0 0).trans rfl; clear hv hi2 hk2 hv0 hokv) | (go_at_call 47; (with_reducible refine (must_no I2.out).mono ?_); rintro en w3 ⟨rfl, hi3, hk3⟩; have I3 := Aside0.mk hi3; have Q3 := Aside0.mk hk3; clear hi3 hk3))
      go_ret
      exact ⟨_, rfl, RV_kept V2.out Q3.out HK.out GMlt.out, I3.out, KeepBut.trans Q2.out Q3.out (.inl rfl)⟩
    | pair a b =>
      have hr' : partOf t.f0 (.pair a b, s1, 0) = some (if t.f0 = 23 then a else b, s1, 0) := rfl
      rw [hr'] at hr
      obtain rfl := Option.some.inj hr
      clear hr hr'
      rcases hop with hf | hf
      · have HF := Aside0.mk hf
        go_enter Tryd.func73, Tryd.ntmps73
        go_wp2_with (first | (go_at_call 29; (with_reducible refine (C1.out _ (HI.out.below (below_alloc (Below.refl _ _) _)) (RE_below HE.out (below_alloc (Below.refl _ _) _) (fun _ h => h))).mono ?_); rintro en w2 ⟨pv, rfl, hv, hi2, hk2⟩; have V2 := Aside0.mk (RV_up hv (Nat.le_trans (Nat.le_succ _) (Nat.le_of_eq (size_alloc w _).symm))); have I2 := Aside0.mk hi2; have Q2 := Aside0.mk (KeepBut.trans (keep_alloc (KeepBut.refl w gm none) _) hk2 (.inl rfl)); have L2 := Aside0.mk (hk2.blk (blk_new w _) (Nat.ne_of_gt GMlt.out) (by simp)); obtain ⟨gv, gr, pa, pb, e_, o1, h1, o2, h2, ra, rb⟩ := V2.out; subst e_; have b0 : w2.cell? ⟨gv, 0, none⟩ = some (.int .i64 2) := (blk_cell h1 0).trans rfl; have G1 : Aside0 (gv ≠ gm ∧ gr ≠ gm) := ⟨⟨o1.elim (HK.out gv) (fun h => by have := GMlt.out; omega), o2.elim (HK.out gr) (fun h => by have := GMlt.out; omega)⟩⟩; have H1 := Aside0.mk h1; have H2 := Aside0.mk h2; have RA := Aside0.mk ra; have RB := Aside0.mk rb; clear hv hi2 hk2 h1 h2 ra rb o1 o2) | (go_at_call 47; (with_reducible refine (must_ok I2.out).mono ?_); rintro en w3 ⟨rfl, hi3, hk3⟩; have I3 := Aside0.mk hi3; have Q3 := Aside0.mk hk3; have h1 := hk3.blk H1.out G1.out.1 (by simp); have h2 := hk3.blk H2.out G1.out.2 (by simp); have b2 : w3.cell? ⟨gv, 2, none⟩ = some (.slice (some ⟨gr, 0, none⟩) 2 2) := (blk_cell h1 2).trans rfl; have r0 : w3.cell? ⟨gr, 0, none⟩ = some pa := (blk_cell h2 0).trans rfl; have r1 : w3.cell? ⟨gr, 1, none⟩ = some pb := (blk_cell h2 1).trans rfl; have q0 : w3.cell? ⟨w.heap.size, 0, none⟩ = some (.int .i64 23) := (blk_cell (hk3.blk L2.out (Nat.ne_of_gt GMlt.out) (by simp)) 0).trans rfl; clear hi3 hk3 h1 h2 b0))
        go_quiet (fail)
        go_wp2
        go_ret
        refine ⟨_, rfl, ?_, I3.out.drewN nq, keep_drewN (KeepBut.trans Q2.out Q3.out (.inl rfl)) nq⟩
        exact RV_below (RV_kept RA.out Q3.out HK.out GMlt.out) (pw_below_drewN (Below.refl _ _) nq) (fun _ h => h)
      · have HF := Aside0.mk hf
        go_enter Tryd.func73, Tryd.ntmps73
        go_wp2_with (first | (go_at_call 29; (with_reducible refine (C1.out _ (HI.out.below (below_alloc (Below.refl _ _) _)) (RE_below HE.out (below_alloc (Below.refl _ _) _) (fun _ h => h))).mono ?_); rintro en w2 ⟨pv, rfl, hv, hi2, hk2⟩; have V2 := Aside0.mk (RV_up hv (Nat.le_trans (Nat.le_succ _) (Nat.le_of_eq (size_alloc w _).symm))); have I2 := Aside0.mk hi2; have Q2 := Aside0.mk (KeepBut.trans (keep_alloc (KeepBut.refl w gm none) _) hk2 (.inl rfl)); have L2 := Aside0.mk (hk2.blk (blk_new w _) (Nat.ne_of_gt GMlt.out) (by simp)); obtain ⟨gv, gr, pa, pb, e_, o1, h1, o2, h2, ra, rb⟩ := V2.out; subst e_; have b0 : w2.cell? ⟨gv, 0, none⟩ = some (.int .i64 2) := (blk_cell h1 0).trans rfl; have G1 : Aside0 (gv ≠ gm ∧ gr ≠ gm) := ⟨⟨o1.elim (HK.out gv) (fun h => by have := GMlt.out; omega), o2.elim (HK.out gr) (fun h => by have := GMlt.out; omega)⟩⟩; have H1 := Aside0.mk h1; have H2 := Aside0.mk h2; have RA := Aside0.mk ra; have RB := Aside0.mk rb; clear hv hi2 hk2 h1 h2 ra rb o1 o2) | (go_at_call 47; (with_reducible refine (must_ok I2.out).mono ?_); rintro en w3 ⟨rfl, hi3, hk3⟩; have I3 := Aside0.mk hi3; have Q3 := Aside0.mk hk3; have h1 := hk3.blk H1.out G1.out.1 (by simp); have h2 := hk3.blk H2.out G1.out.2 (by simp); have b2 : w3.cell? ⟨gv, 2, none⟩ = some (.slice (some ⟨gr, 0, none⟩) 2 2) := (blk_cell h1 2).trans rfl; have r0 : w3.cell? ⟨gr, 0, none⟩ = some pa := (blk_cell h2 0).trans rfl; have r1 : w3.cell? ⟨gr, 1, none⟩ = some pb := (blk_cell h2 1).trans rfl; have q0 : w3.cell? ⟨w.heap.size, 0, none⟩ = some (.int .i64 24) := (blk_cell (hk3.blk L2.out (Nat.ne_of_gt GMlt.out) (by simp)) 0).trans rfl; clear hi3 hk3 h1 h2 b0))
        go_quiet (fail)
        go_wp2
        go_ret
        refine ⟨_, rfl, ?_, I3.out.drewN nq, keep_drewN (KeepBut.trans Q2.out Q3.out (.inl rfl)) nq⟩
        exact RV_below (RV_kept RB.out Q3.out HK.out GMlt.out) (pw_below_drewN (Below.refl _ _) nq) (fun _ h => h)
  · have hr' : partOf t.f0 (va, s1, e1_) = some (va, s1, e1_) := by unfold partOf; rw [if_pos hz]
    rw [hr'] at hr
    obtain rfl := Option.some.inj hr
    have HZ := Aside0.mk hz
    clear hr hr' hz hop
    go_enter Tryd.func73, Tryd.ntmps73
    go_wp2_with (first | (go_at_call 29; (with_reducible refine (C1.out _ (HI.out.below (below_alloc (Below.refl _ _) _)) (RE_below HE.out (below_alloc (Below.refl _ _) _) (fun _ h => h))).mono ?_); rintro en w2 ⟨pv, rfl, hv, hi2, hk2⟩; have V2 := Aside0.mk (RV_up hv (Nat.le_trans (Nat.le_succ _) (Nat.le_of_eq (size_alloc w _).symm))); have I2 := Aside0.mk hi2; have Q2 := Aside0.mk (KeepBut.trans (keep_alloc (KeepBut.refl w gm none) _) hk2 (.inl rfl)); have L2 := Aside0.mk (hk2.blk (blk_new w _) (Nat.ne_of_gt GMlt.out) (by simp)); obtain ⟨gv, l0, op_, n_, ks_, pe_, rfl, hokv, hv0⟩ := RV_ptr hv; have b0 : w2.cell? ⟨gv, 0, none⟩ = some (.int .i64 va.kind) := (blk_cell hv0 0).trans rfl; clear hv hi2 hk2 hv0 hokv) | (go_at_call 47; (with_reducible refine (must_err I2.out _ HZ.out).mono ?_); rintro en w3 ⟨rfl, hi3, hk3⟩; have I3 := Aside0.mk hi3; have Q3 := Aside0.mk hk3; clear hi3 hk3))
    go_ret
    exact ⟨_, rfl, RV_kept V2.out Q3.out HK.out GMlt.out, I3.out, KeepBut.trans Q2.out Q3.out (.inl rfl)⟩
end Go.Proofs.YtnecmclnokikoaaDoor.Run
