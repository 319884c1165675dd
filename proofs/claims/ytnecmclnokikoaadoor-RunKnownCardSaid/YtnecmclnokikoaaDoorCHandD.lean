/- Package run: the values of two terms; a part of a pair: from what eval does in fewer rounds. -/
import Derived.Test.YtnecmclnokikoaaDoorCHandB
namespace Go.Proofs.YtnecmclnokikoaaDoor.Run
open Go.RowKit Go.Proofs.YtnecmclnokikoaaDoor.P Go.Proofs.YtnecmclnokikoaaDoorW.PrintWords Go.Proofs.YtnecmclnokikoaaDoorW.PrintLast Go.Proofs.YtnecmclnokikoaaDoorW.PrintMore
set_option linter.unusedVariables false
set_option linter.unusedSimpArgs false
/-- What eval does, of so many rounds. -/
def CEV (F : Int) (k : Nat) : Prop := ∀ {w0 w : World} {gm : Nat} {e : E} {t : S29} {pe : Value} {A : Option Addr} {c : Nat} {st er : Int} {ok : Nat → Prop} {r : V × Int × Int},
  Inv w0 w gm st F er → RE w0 w ok e pe → (∀ k, ok k → k ≠ gm) → t.f2.length ≤ c → Kd.C k29 w0 A t.f2.length t.f2 → ev F k e t st er = some r →
  Calls Tryd.prog 29 #[.pointer (some ⟨gm, 0, none⟩), pe, .agg #[.int .i64 t.f0, .int .i64 t.f1, .slice A t.f2.length c]] w fun en w' => ∃ pv, en = .returned pv ∧ RV w0 w' (fun k => ok k ∨ w.heap.size ≤ k) r.1 pv ∧ Inv w0 w' gm r.2.1 F r.2.2 ∧ KeepBut w w' gm none
theorem add_pos (ad : Addr) (n : Nat) (h : n ≠ 0) : ad.add n = ⟨ad.block, ad.off + n, none⟩ := by simp [Addr.add, h]
/-- A kid lies where its row says. -/
theorem kid_at {w : World} {t x : S29} {A : Option Addr} {i : Nat} (hC : Kd.C k29 w A t.f2.length t.f2) (h : kid t i = some x) :
    i < t.f2.length ∧ ∃ ad A2 c2, A = some ad ∧ w.cell? (ad.add (i * 3)) = some (.int .i64 x.f0) ∧ w.cell? ⟨(ad.add (i * 3)).block, (ad.add (i * 3)).off + 1, none⟩ = some (.int .i64 x.f1) ∧ w.cell? ⟨(ad.add (i * 3)).block, (ad.add (i * 3)).off + 2, none⟩ = some (.slice A2 x.f2.length c2) ∧ x.f2.length ≤ c2 ∧ Kd.C k29 w A2 x.f2.length x.f2 := by
  unfold kid at h
  by_cases hlt : i < t.f2.length
  · rw [if_pos hlt] at h
    obtain ⟨ad, A2, c2, h1, h2, h3, h4, h5, h6⟩ := at_T29 hC (i : Int) (by omega) (by omega)
    have e : rd_T29 t.f2 (i : Int) = x := by
      unfold rd_T29
      rw [Int.toNat_natCast]
      exact Option.some.inj h
    rw [e] at h2 h3 h4 h5 h6
    rw [Int.toNat_natCast] at h2 h3 h4
    exact ⟨hlt, ad, A2, c2, h1, h2, h3, h4, h5, h6⟩
  · rw [if_neg hlt] at h
    cases h
set_option maxHeartbeats 8000000 in
set_option maxRecDepth 100000 in
theorem two43 {F : Int} {k : Nat} (ih : CEV F k) {w0 w : World} {gm : Nat} {e : E} {t : S29} {pe : Value} {A : Option Addr} {c : Nat} {st : Int} {ok : Nat → Prop} {r : V × Option V × Int × Int}
    (hi : Inv w0 w gm st F 0) (he : RE w0 w ok e pe) (hok : ∀ k, ok k → k ≠ gm) (hc : t.f2.length ≤ c) (hC : Kd.C k29 w0 A t.f2.length t.f2) (hr : twoOf (ev F k e) t st = some r) :
    Calls Tryd.prog 49 #[.pointer (some ⟨gm, 0, none⟩), pe, .slice A t.f2.length c] w fun en w' => ∃ pa pb, en = .returned (.tuple #[pa, pb]) ∧ RV w0 w' (fun k => ok k ∨ w.heap.size ≤ k) r.1 pa ∧ (match r.2.1 with | none => pb = .pointer none ∧ r.2.2.2 ≠ 0 | some b => RV w0 w' (fun k => ok k ∨ w.heap.size ≤ k) b pb) ∧ Inv w0 w' gm r.2.2.1 F r.2.2.2 ∧ KeepBut w w' gm none := by
  unfold twoOf at hr
  obtain ⟨x, hx, hr⟩ := Option.bind_eq_some_iff.mp hr
  obtain ⟨a, ha, hr⟩ := Option.bind_eq_some_iff.mp hr
  obtain ⟨hlt, ad, A2, c2, hA, x0, x1, x2, hc2, hC2⟩ := kid_at hC hx
  have x0 := pw_cell_below hi.2.1 x0
  have x1 := pw_cell_below hi.2.1 x1
  have x2 := pw_cell_below hi.2.1 x2
  have HI := Aside0.mk hi
  have HE := Aside0.mk he
  have HK := Aside0.mk hok
  have C1 := Aside0.mk (ih hi he hok hc2 hC2 ha)
  have e1 : ((0 : Int) < (t.f2.length : Int)) = True := eq_true (by omega)
  have e2 : (0 < t.f2.length) = True := eq_true (by omega)
  have e3 : decide ((0 : Int) < (t.f2.length : Int)) = true := decide_eq_true (by omega)
  rw [Nat.zero_mul, show ad.add 0 = ad by cases ad; simp [Addr.add]] at x0 x1 x2
  have GMlt := Aside0.mk (blk_lt hi.1)
  subst hA
  obtain ⟨va, s1, e1_⟩ := a
  by_cases hz : e1_ = 0
  · subst hz
    rw [if_neg (by simp)] at hr
    obtain ⟨y, hy, hr⟩ := Option.bind_eq_some_iff.mp hr
    obtain ⟨b, hb, hr⟩ := Option.bind_eq_some_iff.mp hr
    obtain rfl := Option.some.inj hr
    obtain ⟨hlt2, ad', A3, c3, hA3, y0, y1, y2, hc3, hC3⟩ := kid_at hC hy
    cases hA3
    rw [Nat.one_mul, add_pos _ 3 (by decide)] at y0 y1 y2
    have C2 := Aside0.mk (fun w2 (h1 : Inv w0 w2 gm s1 F 0) (h2 : RE w0 w2 ok e pe) => ih h1 h2 hok hc3 hC3 hb)
    have Y := Aside0.mk (And.intro y0 (And.intro y1 y2))
    have d1 : ((1 : Int) < (t.f2.length : Int)) = True := eq_true (by omega)
    have d2 : (1 < t.f2.length) = True := eq_true (by omega)
    have d3 : decide ((1 : Int) < (t.f2.length : Int)) = true := decide_eq_true (by omega)
    clear hr hy hb hlt hlt2 y0 y1 y2 hi he hok hc hC hc2 hC2 ha ih hx hc3 hC3
    go_enter Tryd.func49, Tryd.ntmps49
    go_wp2_with (first | (go_at_call 29; (with_reducible refine C1.out.mono ?_); rintro en w2 ⟨pv, rfl, hv, hi2, hk2⟩; have V2 := Aside0.mk hv; have I2 := Aside0.mk hi2; have Q2 := Aside0.mk hk2; have c2_ : w2.cell? ⟨gm, 2, none⟩ = some (.int .i64 0) := (blk_cell hi2.1 2).trans rfl; have y0 := pw_cell_below hi2.2.1 Y.out.1; have y1 := pw_cell_below hi2.2.1 Y.out.2.1; have y2 := pw_cell_below hi2.2.1 Y.out.2.2; clear hv hi2 hk2) | (go_at_call 29; (with_reducible refine (C2.out _ I2.out (RE_keep HE.out Q2.out HK.out (fun _ h => h))).mono ?_); rintro en w3 ⟨pv3, rfl, hv3, hi3, hk3⟩; have V3 := Aside0.mk hv3; have I3 := Aside0.mk hi3; have Q3 := Aside0.mk hk3; clear hv3 hi3 hk3))
    refine bodyPost_ret (v := .tuple #[pv, pv3]) (by simp [results, Tryd.results49, go_sem]) rfl ?_
    refine ⟨pv, pv3, rfl, ?_, ?_, I3.out, KeepBut.trans Q2.out Q3.out (.inl rfl)⟩
    · refine RV_keep V2.out Q3.out (fun k hk => ?_) (fun _ h => h)
      rcases hk with hk | hk
      · exact HK.out k hk
      · have := GMlt.out
        omega
    · refine RV_step (w := w3) (fun k hk => ?_) (fun _ _ _ => rfl) _ _ V3.out
      rcases hk with hk | hk
      · exact Or.inl hk
      · exact Or.inr (Nat.le_trans Q2.out.1 hk)
  · simp only [ne_eq, hz, not_false_iff, if_true] at hr
    obtain rfl := Option.some.inj hr
    have z1 : (e1_ = 0) = False := eq_false hz
    have z2 : (e1_ == 0) = false := by simpa using hz
    have HZ := Aside0.mk hz
    clear hr hz hlt hi he hok hc hC hc2 hC2 ha ih hx
    go_enter Tryd.func49, Tryd.ntmps49
    go_wp2_with (first | (go_at_call 29; (with_reducible refine C1.out.mono ?_); rintro en w2 ⟨pv, rfl, hv, hi2, hk2⟩; have V2 := Aside0.mk hv; have I2 := Aside0.mk hi2; have Q2 := Aside0.mk hk2; have c2_ : w2.cell? ⟨gm, 2, none⟩ = some (.int .i64 e1_) := (blk_cell hi2.1 2).trans rfl; clear hv hi2 hk2))
    refine bodyPost_ret (v := .tuple #[pv, .pointer none]) (by simp [results, Tryd.results49, go_sem]) rfl ?_
    exact ⟨pv, _, rfl, V2.out, ⟨rfl, HZ.out⟩, I2.out, Q2.out⟩
end Go.Proofs.YtnecmclnokikoaaDoor.Run
