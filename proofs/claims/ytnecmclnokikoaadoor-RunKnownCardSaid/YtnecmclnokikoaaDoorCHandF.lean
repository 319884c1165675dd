/- Package run: plain: from what eval does in fewer rounds. -/
import Derived.Test.YtnecmclnokikoaaDoorCHandE
import Derived.StillTailTactics
namespace Go.Proofs.YtnecmclnokikoaaDoor.Run
open Go.RowKit Go.Proofs.YtnecmclnokikoaaDoor.P Go.Proofs.YtnecmclnokikoaaDoorW.PrintWords Go.Proofs.YtnecmclnokikoaaDoorW.PrintLast Go.Proofs.YtnecmclnokikoaaDoorW.PrintMore
set_option linter.unusedVariables false
set_option linter.unusedSimpArgs false
theorem RE_ptr {w0 w : World} {ok : Nat → Prop} : ∀ {e : E} {p : Value}, RE w0 w ok e p → ∃ a, p = .pointer a
  | .nil, p, h => ⟨none, h⟩
  | .val v up, p, h => by
    obtain ⟨g, pv, pu, h1, -⟩ := h
    exact ⟨_, h1⟩
  | .loop t up, p, h => by
    obtain ⟨g, q, A, c, pu, h1, -⟩ := h
    exact ⟨_, h1⟩
theorem Ans_up {w0 w w1 w' : World} {ok : Nat → Prop} {gm : Nat} {F : Int} {r : V × Int × Int} {en : Ending} (h : Ans w0 w1 ok gm F r en w') (hk : KeepBut w w1 gm none) : Ans w0 w ok gm F r en w' := by
  obtain ⟨pv, h1, h2, h3, h4⟩ := h
  exact ⟨pv, h1, RV_up h2 hk.1, h3, KeepBut.trans hk h4 (.inl rfl)⟩
theorem Ans_NV {w0 w w' : World} {ok : Nat → Prop} {gm : Nat} {st F er n : Int} {p : Value} (hi : Inv w0 w gm st F er) (h : NV w w' n p) : Ans w0 w ok gm F (.int n, st, er) (.returned p) w' := by
  have hb : Below w.heap.size w w' := by obtain ⟨g, h1, h2, h3, h4⟩ := h; exact h4
  exact ⟨p, rfl, NV_RV h ok, hi.below hb, KeepBut.of_below hb gm none⟩
set_option maxHeartbeats 8000000 in
set_option maxRecDepth 100000 in
theorem plain_int {F : Int} {k : Nat} (ih : CEV F k) {w0 w : World} {gm : Nat} {e : E} {t : S29} {pe : Value} {A : Option Addr} {c : Nat} {st : Int} {ok : Nat → Prop} {r : V × Int × Int}
    (hi : Inv w0 w gm st F 0) (he : RE w0 w ok e pe) (hok : ∀ k, ok k → k ≠ gm) (hc : t.f2.length ≤ c) (hC : Kd.C k29 w0 A t.f2.length t.f2) (h : t.f0 = 25) (hr : plain (ev F k e) e t st = some r) :
    Calls Tryd.prog 50 #[.pointer (some ⟨gm, 0, none⟩), pe, .agg #[.int .i64 t.f0, .int .i64 t.f1, .slice A t.f2.length c]] w (Ans w0 w ok gm F r) := by
  have HI := Aside0.mk hi
  have HE := Aside0.mk he
  have HK := Aside0.mk hok
  have GMlt := Aside0.mk (blk_lt hi.1)
  have R : r = (.int t.f1, st, 0) := by
    unfold plain at hr
    rw [if_pos h] at hr
    exact (Option.some.inj hr).symm
  subst R
  have HF := Aside0.mk h
  have q1 : (t.f0 == 25) = true := by simpa using h
  clear hi he hok hc hC ih hr h
  go_enter Tryd.func50, Tryd.ntmps50
  go_wp2_with (first | (go_at_call 45; (with_reducible refine (whole39 _ _).mono ?_); rintro en w2 ⟨p2, rfl, hv⟩; have HV := Aside0.mk hv; clear hv))
  go_ret
  exact Ans_up (Ans_NV (HI.out.below (below_alloc (Below.refl _ _) _)) HV.out) (keep_alloc (KeepBut.refl w gm none) _)
set_option maxHeartbeats 8000000 in
set_option maxRecDepth 100000 in
theorem plain_part {F : Int} {k : Nat} (ih : CEV F k) {w0 w : World} {gm : Nat} {e : E} {t : S29} {pe : Value} {A : Option Addr} {c : Nat} {st : Int} {ok : Nat → Prop} {r : V × Int × Int}
    (hi : Inv w0 w gm st F 0) (he : RE w0 w ok e pe) (hok : ∀ k, ok k → k ≠ gm) (hc : t.f2.length ≤ c) (hC : Kd.C k29 w0 A t.f2.length t.f2) (h : t.f0 = 23 ∨ t.f0 = 24) (hr : plain (ev F k e) e t st = some r) :
    Calls Tryd.prog 50 #[.pointer (some ⟨gm, 0, none⟩), pe, .agg #[.int .i64 t.f0, .int .i64 t.f1, .slice A t.f2.length c]] w (Ans w0 w ok gm F r) := by
  have HI := Aside0.mk hi
  have HE := Aside0.mk he
  have HK := Aside0.mk hok
  have GMlt := Aside0.mk (blk_lt hi.1)
  have R : ((kid t 0).bind fun x => (ev F k e x st 0).bind fun p => partOf t.f0 p) = some r := by
    unfold plain at hr
    rw [if_neg (by omega), if_neg (by omega), if_pos h] at hr
    exact hr
  have C1 := Aside0.mk (fun w1 (h1 : Inv w0 w1 gm st F 0) (h2 : RE w0 w1 ok e pe) => part64 ih h1 h2 hok hc hC h R)
  have q1 : (t.f0 == 25) = false := by rw [beq_eq_false_iff_ne]; omega
  have q2 : (t.f0 == 20) = false := by rw [beq_eq_false_iff_ne]; omega
  have q5 : (t.f0 = 25) = False := eq_false (by omega)
  have q6 : (t.f0 = 20) = False := eq_false (by omega)
  clear hi he hok hc hC ih hr R
  by_cases h3 : t.f0 = 23
  · have q3 : (t.f0 == 23) = true := by simpa using h3
    have q7 : (t.f0 = 23) = True := eq_true h3
    clear h h3
    go_enter Tryd.func50, Tryd.ntmps50
    go_wp2_with (first | (go_at_call 73; (with_reducible refine (C1.out _ (HI.out.below (below_alloc (Below.refl _ _) _)) (RE_below HE.out (below_alloc (Below.refl _ _) _) (fun _ h => h))).mono ?_); rintro en w2 hans; obtain ⟨pv, rfl, hv, hi2, hk2⟩ := hans; have HA := Aside0.mk (show Ans w0 w ok gm F r (.returned pv) w2 from Ans_up ⟨pv, rfl, hv, hi2, hk2⟩ (keep_alloc (KeepBut.refl w gm none) _)); clear hv hi2 hk2))
    go_ret
    exact HA.out
  · have q3 : (t.f0 == 23) = false := by simpa using h3
    have q4 : (t.f0 == 24) = true := by rw [beq_iff_eq]; omega
    have q7 : (t.f0 = 23) = False := eq_false h3
    have q8 : (t.f0 = 24) = True := eq_true (by omega)
    clear h h3
    go_enter Tryd.func50, Tryd.ntmps50
    go_wp2_with (first | (go_at_call 73; (with_reducible refine (C1.out _ (HI.out.below (below_alloc (Below.refl _ _) _)) (RE_below HE.out (below_alloc (Below.refl _ _) _) (fun _ h => h))).mono ?_); rintro en w2 hans; obtain ⟨pv, rfl, hv, hi2, hk2⟩ := hans; have HA := Aside0.mk (show Ans w0 w ok gm F r (.returned pv) w2 from Ans_up ⟨pv, rfl, hv, hi2, hk2⟩ (keep_alloc (KeepBut.refl w gm none) _)); clear hv hi2 hk2))
    go_ret
    exact HA.out
set_option maxHeartbeats 8000000 in
set_option maxRecDepth 100000 in
theorem plain_lam {F : Int} {k : Nat} (ih : CEV F k) {w0 w : World} {gm : Nat} {e : E} {t : S29} {pe : Value} {A : Option Addr} {c : Nat} {st : Int} {ok : Nat → Prop} {r : V × Int × Int}
    (hi : Inv w0 w gm st F 0) (he : RE w0 w ok e pe) (hok : ∀ k, ok k → k ≠ gm) (hc : t.f2.length ≤ c) (hC : Kd.C k29 w0 A t.f2.length t.f2) (h : t.f0 = 20) (hr : plain (ev F k e) e t st = some r) :
    Calls Tryd.prog 50 #[.pointer (some ⟨gm, 0, none⟩), pe, .agg #[.int .i64 t.f0, .int .i64 t.f1, .slice A t.f2.length c]] w (Ans w0 w ok gm F r) := by
  have HI := Aside0.mk hi
  have HE := Aside0.mk he
  have HK := Aside0.mk hok
  have GMlt := Aside0.mk (blk_lt hi.1)
  have R : ((kid t 1).bind fun b => some (V.fn b e, st, (0 : Int))) = some r := by
    unfold plain at hr
    rw [if_neg (by omega), if_pos h] at hr
    exact hr
  obtain ⟨b, hb, hr2⟩ := Option.bind_eq_some_iff.mp R
  obtain rfl := Option.some.inj hr2
  obtain ⟨hlt, ad, A2, c2, hA, x0, x1, x2, hc2, hC2⟩ := kid_at hC hb
  rw [Nat.one_mul, add_pos _ 3 (by decide)] at x0 x1 x2
  replace x0 := pw_cell_below hi.2.1 x0
  replace x1 := pw_cell_below hi.2.1 x1
  replace x2 := pw_cell_below hi.2.1 x2
  replace x0 := fun o => pw_cell_below (below_alloc (Below.refl w.heap.size w) o) x0
  replace x1 := fun o => pw_cell_below (below_alloc (Below.refl w.heap.size w) o) x1
  replace x2 := fun o => pw_cell_below (below_alloc (Below.refl w.heap.size w) o) x2
  have d1 : ((1 : Int) < (t.f2.length : Int)) = True := eq_true (by omega)
  have d2 : (1 < t.f2.length) = True := eq_true (by omega)
  have d3 : decide ((1 : Int) < (t.f2.length : Int)) = true := decide_eq_true (by omega)
  have q1 : (t.f0 == 25) = false := by rw [beq_eq_false_iff_ne]; omega
  have q2 : (t.f0 == 20) = true := by simpa using h
  have q5 : (t.f0 = 25) = False := eq_false (by omega)
  have q6 : (t.f0 = 20) = True := eq_true h
  have XC := Aside0.mk (And.intro hc2 hC2)
  subst hA
  obtain ⟨pa, rfl⟩ := RE_ptr he
  clear hi he hok hc hC ih hr R hr2 hb h hlt hc2 hC2
  go_enter Tryd.func50, Tryd.ntmps50
  go_wp2
  go_ret
  have B2 := below_alloc (below_alloc (Below.refl w.heap.size w) (.cells #[.int .i64 t.f0, .int .i64 t.f1, .slice (some ad) t.f2.length c] 29)) (.cells #[.int .i64 3, .int .i64 0, .slice none 0 0, .int .i64 b.f0, .int .i64 b.f1, .slice A2 b.f2.length c2, .pointer pa] 95)
  refine ⟨_, rfl, ⟨w.heap.size + 1, A2, c2, .pointer pa, rfl, Or.inr (Nat.le_succ _), ?_, XC.out.1, XC.out.2, RE_below HE.out B2 (fun _ h => Or.inl h)⟩, HI.out.below B2, KeepBut.of_below B2 gm none⟩
  have h := blk_new (w.alloc (.cells #[.int .i64 t.f0, .int .i64 t.f1, .slice (some ad) t.f2.length c] 29)) (.cells #[.int .i64 3, .int .i64 0, .slice none 0 0, .int .i64 b.f0, .int .i64 b.f1, .slice A2 b.f2.length c2, .pointer pa] 95)
  rw [size_alloc] at h
  exact h
set_option maxHeartbeats 8000000 in
set_option maxRecDepth 100000 in
theorem plain_len {F : Int} {k : Nat} (ih : CEV F k) {w0 w : World} {gm : Nat} {e : E} {t : S29} {pe : Value} {A : Option Addr} {c : Nat} {st : Int} {ok : Nat → Prop} {r : V × Int × Int}
    (hi : Inv w0 w gm st F 0) (he : RE w0 w ok e pe) (hok : ∀ k, ok k → k ≠ gm) (hc : t.f2.length ≤ c) (hC : Kd.C k29 w0 A t.f2.length t.f2) (n1 : t.f0 ≠ 25) (n2 : t.f0 ≠ 20) (n3 : t.f0 ≠ 23) (n4 : t.f0 ≠ 24) (h : t.f2.length ≠ 2) (hr : plain (ev F k e) e t st = some r) :
    Calls Tryd.prog 50 #[.pointer (some ⟨gm, 0, none⟩), pe, .agg #[.int .i64 t.f0, .int .i64 t.f1, .slice A t.f2.length c]] w (Ans w0 w ok gm F r) := by
  have HI := Aside0.mk hi
  have HE := Aside0.mk he
  have HK := Aside0.mk hok
  have GMlt := Aside0.mk (blk_lt hi.1)
  have q1 : (t.f0 == 25) = false := by rw [beq_eq_false_iff_ne]; exact n1
  have q2 : (t.f0 == 20) = false := by rw [beq_eq_false_iff_ne]; exact n2
  have q3 : (t.f0 == 23) = false := by rw [beq_eq_false_iff_ne]; exact n3
  have q4 : (t.f0 == 24) = false := by rw [beq_eq_false_iff_ne]; exact n4
  have q5 : (t.f0 = 25) = False := eq_false n1
  have q6 : (t.f0 = 20) = False := eq_false n2
  have q7 : (t.f0 = 23) = False := eq_false n3
  have q8 : (t.f0 = 24) = False := eq_false n4
  have R : r = (.int 0, st, 1) := by
    unfold plain at hr
    rw [if_neg n1, if_neg n2, if_neg (by omega), if_pos h] at hr
    exact (Option.some.inj hr).symm
  subst R
  have z1 : ((t.f2.length : Int) == 2) = false := by rw [beq_eq_false_iff_ne]; omega
  have z2 : ((t.f2.length : Int) = 2) = False := eq_false (by omega)
  have z3 : (t.f2.length = 2) = False := eq_false h
  have z4 : (t.f2.length == 2) = false := by simpa using h
  obtain ⟨pa, rfl⟩ := RE_ptr he
  clear hi he hok hc hC ih hr h n1 n2 n3 n4
  go_enter Tryd.func50, Tryd.ntmps50
  go_wp2_with (first | (go_at_call 47; (with_reducible refine (must_no (HI.out.below (below_alloc (Below.refl _ _) _))).mono ?_); rintro en w3 ⟨rfl, hi3, hk3⟩; have I3 := Aside0.mk hi3; have Q3 := Aside0.mk (KeepBut.trans (keep_alloc (KeepBut.refl w gm none) _) hk3 (.inl rfl)); have L3 := Aside0.mk (hk3.blk (blk_new w _) (Nat.ne_of_gt GMlt.out) (by simp)); have k0 := (blk_cell L3.out 0).trans rfl; have k1 := (blk_cell L3.out 1).trans rfl; have k2 := (blk_cell L3.out 2).trans rfl; have E3 := Aside0.mk (RE_keep (RE_below HE.out (below_alloc (Below.refl _ _) _) (fun _ h => h)) hk3 HK.out (fun _ h => h)); clear hi3 hk3) | (go_at_call 45; (with_reducible refine (whole39 _ _).mono ?_); rintro en w2 ⟨p2, rfl, hv⟩; have HV := Aside0.mk hv; clear hv))
  go_ret
  exact Ans_up (Ans_NV I3.out HV.out) Q3.out
theorem two_none {rec : S29 → Int → Int → Option (V × Int × Int)} {t : S29} {st : Int} {a : V} {s1 e1 : Int} (h : twoOf rec t st = some (a, none, s1, e1)) : e1 ≠ 0 := by
  unfold twoOf at h
  obtain ⟨x, -, h⟩ := Option.bind_eq_some_iff.mp h
  obtain ⟨a', -, h⟩ := Option.bind_eq_some_iff.mp h
  by_cases hz : a'.2.2 ≠ 0
  · rw [if_pos hz] at h
    have h2 := Option.some.inj h
    simp only [Prod.mk.injEq] at h2
    rw [← h2.2.2.2]
    exact hz
  · rw [if_neg hz] at h
    obtain ⟨y, -, h⟩ := Option.bind_eq_some_iff.mp h
    obtain ⟨b, -, h⟩ := Option.bind_eq_some_iff.mp h
    have h2 := Option.some.inj h
    simp only [Prod.mk.injEq] at h2
    exact absurd h2.2.1 (by simp)
set_option maxHeartbeats 8000000 in
set_option maxRecDepth 100000 in
theorem plain_err {F : Int} {k : Nat} (ih : CEV F k) {w0 w : World} {gm : Nat} {e : E} {t : S29} {pe : Value} {A : Option Addr} {c : Nat} {st : Int} {ok : Nat → Prop}
    (hi : Inv w0 w gm st F 0) (he : RE w0 w ok e pe) (hok : ∀ k, ok k → k ≠ gm) (hc : t.f2.length ≤ c) (hC : Kd.C k29 w0 A t.f2.length t.f2) (n1 : t.f0 ≠ 25) (n2 : t.f0 ≠ 20) (n3 : t.f0 ≠ 23) (n4 : t.f0 ≠ 24) (h : t.f2.length = 2) {va : V} {ob : Option V} {s1 e1_ : Int} (ht : twoOf (ev F k e) t st = some (va, ob, s1, e1_)) (hz : e1_ ≠ 0) :
    Calls Tryd.prog 50 #[.pointer (some ⟨gm, 0, none⟩), pe, .agg #[.int .i64 t.f0, .int .i64 t.f1, .slice A t.f2.length c]] w (Ans w0 w ok gm F (va, s1, e1_)) := by
  have HI := Aside0.mk hi
  have HE := Aside0.mk he
  have HK := Aside0.mk hok
  have GMlt := Aside0.mk (blk_lt hi.1)
  have q1 : (t.f0 == 25) = false := by rw [beq_eq_false_iff_ne]; exact n1
  have q2 : (t.f0 == 20) = false := by rw [beq_eq_false_iff_ne]; exact n2
  have q3 : (t.f0 == 23) = false := by rw [beq_eq_false_iff_ne]; exact n3
  have q4 : (t.f0 == 24) = false := by rw [beq_eq_false_iff_ne]; exact n4
  have q5 : (t.f0 = 25) = False := eq_false n1
  have q6 : (t.f0 = 20) = False := eq_false n2
  have q7 : (t.f0 = 23) = False := eq_false n3
  have q8 : (t.f0 = 24) = False := eq_false n4
  have z1 : ((t.f2.length : Int) == 2) = true := by rw [h]; rfl
  have z2 : ((t.f2.length : Int) = 2) = True := eq_true (by omega)
  have z3 : (t.f2.length = 2) = True := eq_true h
  have z4 : (t.f2.length == 2) = true := by simpa using h
  have C2 := Aside0.mk (fun w1 (h1 : Inv w0 w1 gm st F 0) (h2 : RE w0 w1 ok e pe) => two43 ih h1 h2 hok hc hC ht)
  obtain ⟨pa, rfl⟩ := RE_ptr he
  have y1 : (e1_ = 0) = False := eq_false hz
  have y2 : (e1_ == 0) = false := by simpa using hz
  have y3 : (e1_ != 0) = true := by simpa using hz
  clear hz
  clear hi he hok hc hC ih h n1 n2 n3 n4 ht
  go_enter Tryd.func50, Tryd.ntmps50
  go_wp2_with (first | (go_at_call 47; (with_reducible refine (must_ok (HI.out.below (below_alloc (Below.refl _ _) _))).mono ?_); rintro en w3 ⟨rfl, hi3, hk3⟩; have I3 := Aside0.mk hi3; have Q3 := Aside0.mk (KeepBut.trans (keep_alloc (KeepBut.refl w gm none) _) hk3 (.inl rfl)); have L3 := Aside0.mk (hk3.blk (blk_new w _) (Nat.ne_of_gt GMlt.out) (by simp)); have k0 := (blk_cell L3.out 0).trans rfl; have k1 := (blk_cell L3.out 1).trans rfl; have k2 := (blk_cell L3.out 2).trans rfl; have E3 := Aside0.mk (RE_keep (RE_below HE.out (below_alloc (Below.refl _ _) _) (fun _ h => h)) hk3 HK.out (fun _ h => h)); clear hi3 hk3) | (go_at_call 49; (with_reducible refine (C2.out _ I3.out E3.out).mono ?_); rintro en w4 ⟨pa4, pb4, rfl, hva, hvb, hi4, hk4⟩; have I4 := Aside0.mk hi4; have Q4 := Aside0.mk (KeepBut.trans Q3.out hk4 (.inl rfl)); have L4 := Aside0.mk (hk4.blk L3.out (Nat.ne_of_gt GMlt.out) (by simp)); have VA := Aside0.mk (RV_up hva Q3.out.1); have VB := Aside0.mk hvb; obtain ⟨ga, la0, la1, la2, la3, la4, rfl, oka, ha0⟩ := RV_ptr hva; have b0 : w4.cell? ⟨ga, 0, none⟩ = some (.int .i64 va.kind) := (blk_cell ha0 0).trans rfl; have b1 : w4.cell? ⟨ga, 1, none⟩ = some (.int .i64 va.num) := (blk_cell ha0 1).trans rfl; clear k0 k1 k2; have k0 : w4.cell? ⟨w.heap.size, 0, none⟩ = some (.int .i64 t.f0) := (blk_cell L4.out 0).trans rfl; have k1 : w4.cell? ⟨w.heap.size, 1, none⟩ = some (.int .i64 t.f1) := (blk_cell L4.out 1).trans rfl; have m2 : w4.cell? ⟨gm, 2, none⟩ = some (.int .i64 e1_) := (blk_cell hi4.1 2).trans rfl; clear hva hvb hi4 hk4 ha0 oka))
  go_ret
  exact ⟨_, rfl, VA.out, I4.out, Q4.out⟩
end Go.Proofs.YtnecmclnokikoaaDoor.Run
