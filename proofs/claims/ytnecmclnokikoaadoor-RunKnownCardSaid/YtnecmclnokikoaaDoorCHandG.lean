/- Package run: plain, the rest: pairs, prims, what is no value of these. -/
import Derived.Test.YtnecmclnokikoaaDoorCHandF
import Derived.StillTailTactics
namespace Go.Proofs.YtnecmclnokikoaaDoor.Run
open Go.RowKit Go.Proofs.YtnecmclnokikoaaDoor.P Go.Proofs.YtnecmclnokikoaaDoorW.PrintWords Go.Proofs.YtnecmclnokikoaaDoorW.PrintLast Go.Proofs.YtnecmclnokikoaaDoorW.PrintMore
set_option linter.unusedVariables false
set_option linter.unusedSimpArgs false
theorem RV_flat {w0 w w1 w' : World} {ok : Nat → Prop} {v : V} {p : Value} (h : RV w0 w' (fun k => (ok k ∨ w.heap.size ≤ k) ∨ w1.heap.size ≤ k) v p) (hs : w.heap.size ≤ w1.heap.size) : RV w0 w' (fun k => ok k ∨ w.heap.size ≤ k) v p :=
  RV_step (w := w') (fun k hk => hk.elim id (fun h => Or.inr (Nat.le_trans hs h))) (fun _ _ _ => rfl) _ _ h
set_option maxHeartbeats 8000000 in
set_option maxRecDepth 100000 in
theorem plain_pair {F : Int} {k : Nat} (ih : CEV F k) {w0 w : World} {gm : Nat} {e : E} {t : S29} {pe : Value} {A : Option Addr} {c : Nat} {st : Int} {ok : Nat → Prop}
    (hi : Inv w0 w gm st F 0) (he : RE w0 w ok e pe) (hok : ∀ k, ok k → k ≠ gm) (hc : t.f2.length ≤ c) (hC : Kd.C k29 w0 A t.f2.length t.f2) (n1 : t.f0 ≠ 25) (n2 : t.f0 ≠ 20) (n3 : t.f0 ≠ 23) (n4 : t.f0 ≠ 24) (h : t.f2.length = 2) {va vb : V} {s1 : Int} (hp : t.f0 = 22) (ht : twoOf (ev F k e) t st = some (va, some vb, s1, 0)) :
    Calls Tryd.prog 50 #[.pointer (some ⟨gm, 0, none⟩), pe, .agg #[.int .i64 t.f0, .int .i64 t.f1, .slice A t.f2.length c]] w (Ans w0 w ok gm F (.pair va vb, s1, 0)) := by
  have HI := Aside0.mk hi
  have HE := Aside0.mk he
  have HK := Aside0.mk hok
  have GMlt := Aside0.mk (blk_lt hi.1)
  have q1 : (t.f0 == 25) = false := by rw [beq_eq_false_iff_ne]; exact n1
  have q2 : (t.f0 == 20) = false := by rw [beq_eq_false_iff_ne]; exact n2
  have q3 : (t.f0 == 23) = false := by rw [beq_eq_false_iff_ne]; exact n3
  have q4 : (t.f0 == 24) = false := by rw [beq_eq_false_iff_ne]; exact n4
  have q5 : (t.f0 = 25) = False := eq_false n1
  have q6 : (t.f0 = 20) = False := eq_false n2
  have q7 : (t.f0 = 23) = False := eq_false n3
  have q8 : (t.f0 = 24) = False := eq_false n4
  have z1 : ((t.f2.length : Int) == 2) = true := by rw [h]; rfl
  have z2 : ((t.f2.length : Int) = 2) = True := eq_true (by omega)
  have z3 : (t.f2.length = 2) = True := eq_true h
  have z4 : (t.f2.length == 2) = true := by simpa using h
  have C2 := Aside0.mk (fun w1 (h1 : Inv w0 w1 gm st F 0) (h2 : RE w0 w1 ok e pe) => two43 ih h1 h2 hok hc hC ht)
  obtain ⟨pa, rfl⟩ := RE_ptr he
  have y1 : (t.f0 == 22) = true := by simpa using hp
  have y2 : (t.f0 = 22) = True := eq_true hp
  clear hp
  clear hi he hok hc hC ih h n1 n2 n3 n4 ht
  go_enter Tryd.func50, Tryd.ntmps50
  go_wp2_with (first | (go_at_call 47; (with_reducible refine (must_ok (HI.out.below (below_alloc (Below.refl _ _) _))).mono ?_); rintro en w3 ⟨rfl, hi3, hk3⟩; have I3 := Aside0.mk hi3; have Q3 := Aside0.mk (KeepBut.trans (keep_alloc (KeepBut.refl w gm none) _) hk3 (.inl rfl)); have L3 := Aside0.mk (hk3.blk (blk_new w _) (Nat.ne_of_gt GMlt.out) (by simp)); have k0 := (blk_cell L3.out 0).trans rfl; have k1 := (blk_cell L3.out 1).trans rfl; have k2 := (blk_cell L3.out 2).trans rfl; have E3 := Aside0.mk (RE_keep (RE_below HE.out (below_alloc (Below.refl _ _) _) (fun _ h => h)) hk3 HK.out (fun _ h => h)); clear hi3 hk3) | (go_at_call 49; (with_reducible refine (C2.out _ I3.out E3.out).mono ?_); rintro en w4 ⟨pa4, pb4, rfl, hva, hvb, hi4, hk4⟩; have I4 := Aside0.mk hi4; have Q4 := Aside0.mk (KeepBut.trans Q3.out hk4 (.inl rfl)); have L4 := Aside0.mk (hk4.blk L3.out (Nat.ne_of_gt GMlt.out) (by simp)); have VA := Aside0.mk (RV_up hva Q3.out.1); have VB := Aside0.mk (RV_up (v := vb) hvb Q3.out.1); obtain ⟨ga, la0, la1, la2, la3, la4, rfl, oka, ha0⟩ := RV_ptr VA.out; obtain ⟨gb, lb0, lb1, lb2, lb3, lb4, rfl, okb, hb0⟩ := RV_ptr VB.out; have NA : Aside0 (ga ≠ gm) := ⟨oka.elim (HK.out ga) (fun h => by have := GMlt.out; omega)⟩; have NB : Aside0 (gb ≠ gm) := ⟨okb.elim (HK.out gb) (fun h => by have := GMlt.out; omega)⟩; have HA0 := Aside0.mk ha0; have HB0 := Aside0.mk hb0; have b0 : w4.cell? ⟨ga, 0, none⟩ = some (.int .i64 va.kind) := (blk_cell ha0 0).trans rfl; have b1 : w4.cell? ⟨ga, 1, none⟩ = some (.int .i64 va.num) := (blk_cell ha0 1).trans rfl; have d0 : w4.cell? ⟨gb, 0, none⟩ = some (.int .i64 vb.kind) := (blk_cell hb0 0).trans rfl; have d1 : w4.cell? ⟨gb, 1, none⟩ = some (.int .i64 vb.num) := (blk_cell hb0 1).trans rfl; clear k0 k1 k2; have k0 : w4.cell? ⟨w.heap.size, 0, none⟩ = some (.int .i64 t.f0) := (blk_cell L4.out 0).trans rfl; have k1 : w4.cell? ⟨w.heap.size, 1, none⟩ = some (.int .i64 t.f1) := (blk_cell L4.out 1).trans rfl; have m2 : w4.cell? ⟨gm, 2, none⟩ = some (.int .i64 0) := (blk_cell hi4.1 2).trans rfl; clear hva hvb hi4 hk4 ha0 hb0 oka okb) | (go_at_call 74; (with_reducible refine (pair65 ga gb w4).mono ?_); rintro en w5 ⟨g5, r5, rfl, hg5, hr5, h5, h6, hb5⟩; have H5 := Aside0.mk (And.intro hg5 (And.intro hr5 (And.intro h5 (And.intro h6 hb5)))); clear hg5 hr5 h5 h6 hb5))
  go_ret
  obtain ⟨hg5, hr5, h5, h6, hb5⟩ := H5.out
  refine ⟨_, rfl, RV_flat (pair_RV (w := w) VA.out VB.out hg5 hr5 h5 h6 hb5) Q4.out.1, I4.out.below hb5, KeepBut.trans Q4.out (KeepBut.of_below hb5 gm none) (.inl rfl)⟩
set_option maxHeartbeats 8000000 in
set_option maxRecDepth 100000 in
theorem plain_op {F : Int} {k : Nat} (ih : CEV F k) {w0 w : World} {gm : Nat} {e : E} {t : S29} {pe : Value} {A : Option Addr} {c : Nat} {st : Int} {ok : Nat → Prop}
    (hi : Inv w0 w gm st F 0) (he : RE w0 w ok e pe) (hok : ∀ k, ok k → k ≠ gm) (hc : t.f2.length ≤ c) (hC : Kd.C k29 w0 A t.f2.length t.f2) (n1 : t.f0 ≠ 25) (n2 : t.f0 ≠ 20) (n3 : t.f0 ≠ 23) (n4 : t.f0 ≠ 24) (h : t.f2.length = 2) {va vb : V} {s1 : Int} (hp : t.f0 ≠ 22) (hq : t.f0 ≠ 26) (ht : twoOf (ev F k e) t st = some (va, some vb, s1, 0)) :
    Calls Tryd.prog 50 #[.pointer (some ⟨gm, 0, none⟩), pe, .agg #[.int .i64 t.f0, .int .i64 t.f1, .slice A t.f2.length c]] w (Ans w0 w ok gm F (va, s1, 1)) := by
  have HI := Aside0.mk hi
  have HE := Aside0.mk he
  have HK := Aside0.mk hok
  have GMlt := Aside0.mk (blk_lt hi.1)
  have q1 : (t.f0 == 25) = false := by rw [beq_eq_false_iff_ne]; exact n1
  have q2 : (t.f0 == 20) = false := by rw [beq_eq_false_iff_ne]; exact n2
  have q3 : (t.f0 == 23) = false := by rw [beq_eq_false_iff_ne]; exact n3
  have q4 : (t.f0 == 24) = false := by rw [beq_eq_false_iff_ne]; exact n4
  have q5 : (t.f0 = 25) = False := eq_false n1
  have q6 : (t.f0 = 20) = False := eq_false n2
  have q7 : (t.f0 = 23) = False := eq_false n3
  have q8 : (t.f0 = 24) = False := eq_false n4
  have z1 : ((t.f2.length : Int) == 2) = true := by rw [h]; rfl
  have z2 : ((t.f2.length : Int) = 2) = True := eq_true (by omega)
  have z3 : (t.f2.length = 2) = True := eq_true h
  have z4 : (t.f2.length == 2) = true := by simpa using h
  have C2 := Aside0.mk (fun w1 (h1 : Inv w0 w1 gm st F 0) (h2 : RE w0 w1 ok e pe) => two43 ih h1 h2 hok hc hC ht)
  obtain ⟨pa, rfl⟩ := RE_ptr he
  have y1 : (t.f0 == 22) = false := by simpa using hp
  have y2 : (t.f0 = 22) = False := eq_false hp
  have y3 : (t.f0 == 26) = false := by simpa using hq
  have y4 : (t.f0 = 26) = False := eq_false hq
  clear hp hq
  clear hi he hok hc hC ih h n1 n2 n3 n4 ht
  go_enter Tryd.func50, Tryd.ntmps50
  go_wp2_with (first | (go_at_call 47; (with_reducible refine (must_ok (HI.out.below (below_alloc (Below.refl _ _) _))).mono ?_); rintro en w3 ⟨rfl, hi3, hk3⟩; have I3 := Aside0.mk hi3; have Q3 := Aside0.mk (KeepBut.trans (keep_alloc (KeepBut.refl w gm none) _) hk3 (.inl rfl)); have L3 := Aside0.mk (hk3.blk (blk_new w _) (Nat.ne_of_gt GMlt.out) (by simp)); have k0 := (blk_cell L3.out 0).trans rfl; have k1 := (blk_cell L3.out 1).trans rfl; have k2 := (blk_cell L3.out 2).trans rfl; have E3 := Aside0.mk (RE_keep (RE_below HE.out (below_alloc (Below.refl _ _) _) (fun _ h => h)) hk3 HK.out (fun _ h => h)); clear hi3 hk3) | (go_at_call 49; (with_reducible refine (C2.out _ I3.out E3.out).mono ?_); rintro en w4 ⟨pa4, pb4, rfl, hva, hvb, hi4, hk4⟩; have I4 := Aside0.mk hi4; have Q4 := Aside0.mk (KeepBut.trans Q3.out hk4 (.inl rfl)); have L4 := Aside0.mk (hk4.blk L3.out (Nat.ne_of_gt GMlt.out) (by simp)); have VA := Aside0.mk (RV_up hva Q3.out.1); have VB := Aside0.mk (RV_up (v := vb) hvb Q3.out.1); obtain ⟨ga, la0, la1, la2, la3, la4, rfl, oka, ha0⟩ := RV_ptr VA.out; obtain ⟨gb, lb0, lb1, lb2, lb3, lb4, rfl, okb, hb0⟩ := RV_ptr VB.out; have NA : Aside0 (ga ≠ gm) := ⟨oka.elim (HK.out ga) (fun h => by have := GMlt.out; omega)⟩; have NB : Aside0 (gb ≠ gm) := ⟨okb.elim (HK.out gb) (fun h => by have := GMlt.out; omega)⟩; have HA0 := Aside0.mk ha0; have HB0 := Aside0.mk hb0; have b0 : w4.cell? ⟨ga, 0, none⟩ = some (.int .i64 va.kind) := (blk_cell ha0 0).trans rfl; have b1 : w4.cell? ⟨ga, 1, none⟩ = some (.int .i64 va.num) := (blk_cell ha0 1).trans rfl; have d0 : w4.cell? ⟨gb, 0, none⟩ = some (.int .i64 vb.kind) := (blk_cell hb0 0).trans rfl; have d1 : w4.cell? ⟨gb, 1, none⟩ = some (.int .i64 vb.num) := (blk_cell hb0 1).trans rfl; clear k0 k1 k2; have k0 : w4.cell? ⟨w.heap.size, 0, none⟩ = some (.int .i64 t.f0) := (blk_cell L4.out 0).trans rfl; have k1 : w4.cell? ⟨w.heap.size, 1, none⟩ = some (.int .i64 t.f1) := (blk_cell L4.out 1).trans rfl; have m2 : w4.cell? ⟨gm, 2, none⟩ = some (.int .i64 0) := (blk_cell hi4.1 2).trans rfl; clear hva hvb hi4 hk4 ha0 hb0 oka okb) | (go_at_call 47; (with_reducible refine (must_no I4.out).mono ?_); rintro en w5 ⟨rfl, hi5, hk5⟩; have I5 := Aside0.mk hi5; have Q5 := Aside0.mk hk5; clear hi5 hk5))
  go_ret
  exact ⟨_, rfl, RV_kept VA.out Q5.out HK.out GMlt.out, I5.out, KeepBut.trans Q4.out Q5.out (.inl rfl)⟩
set_option maxHeartbeats 8000000 in
set_option maxRecDepth 100000 in
theorem plain_left {F : Int} {k : Nat} (ih : CEV F k) {w0 w : World} {gm : Nat} {e : E} {t : S29} {pe : Value} {A : Option Addr} {c : Nat} {st : Int} {ok : Nat → Prop}
    (hi : Inv w0 w gm st F 0) (he : RE w0 w ok e pe) (hok : ∀ k, ok k → k ≠ gm) (hc : t.f2.length ≤ c) (hC : Kd.C k29 w0 A t.f2.length t.f2) (n1 : t.f0 ≠ 25) (n2 : t.f0 ≠ 20) (n3 : t.f0 ≠ 23) (n4 : t.f0 ≠ 24) (h : t.f2.length = 2) {va vb : V} {s1 : Int} (hp : t.f0 ≠ 22) (hq : t.f0 = 26) (hv : va.kind ≠ 1) (ht : twoOf (ev F k e) t st = some (va, some vb, s1, 0)) :
    Calls Tryd.prog 50 #[.pointer (some ⟨gm, 0, none⟩), pe, .agg #[.int .i64 t.f0, .int .i64 t.f1, .slice A t.f2.length c]] w (Ans w0 w ok gm F (va, s1, 1)) := by
  have HI := Aside0.mk hi
  have HE := Aside0.mk he
  have HK := Aside0.mk hok
  have GMlt := Aside0.mk (blk_lt hi.1)
  have q1 : (t.f0 == 25) = false := by rw [beq_eq_false_iff_ne]; exact n1
  have q2 : (t.f0 == 20) = false := by rw [beq_eq_false_iff_ne]; exact n2
  have q3 : (t.f0 == 23) = false := by rw [beq_eq_false_iff_ne]; exact n3
  have q4 : (t.f0 == 24) = false := by rw [beq_eq_false_iff_ne]; exact n4
  have q5 : (t.f0 = 25) = False := eq_false n1
  have q6 : (t.f0 = 20) = False := eq_false n2
  have q7 : (t.f0 = 23) = False := eq_false n3
  have q8 : (t.f0 = 24) = False := eq_false n4
  have z1 : ((t.f2.length : Int) == 2) = true := by rw [h]; rfl
  have z2 : ((t.f2.length : Int) = 2) = True := eq_true (by omega)
  have z3 : (t.f2.length = 2) = True := eq_true h
  have z4 : (t.f2.length == 2) = true := by simpa using h
  have C2 := Aside0.mk (fun w1 (h1 : Inv w0 w1 gm st F 0) (h2 : RE w0 w1 ok e pe) => two43 ih h1 h2 hok hc hC ht)
  obtain ⟨pa, rfl⟩ := RE_ptr he
  have y1 : (t.f0 == 22) = false := by simpa using hp
  have y2 : (t.f0 = 22) = False := eq_false hp
  have y3 : (t.f0 == 26) = true := by simpa using hq
  have y4 : (t.f0 = 26) = True := eq_true hq
  have y5 : (va.kind == 1) = false := by simpa using hv
  have y6 : (va.kind = 1) = False := eq_false hv
  clear hp hq hv
  clear hi he hok hc hC ih h n1 n2 n3 n4 ht
  go_enter Tryd.func50, Tryd.ntmps50
  go_wp2_with (first | (go_at_call 47; (with_reducible refine (must_ok (HI.out.below (below_alloc (Below.refl _ _) _))).mono ?_); rintro en w3 ⟨rfl, hi3, hk3⟩; have I3 := Aside0.mk hi3; have Q3 := Aside0.mk (KeepBut.trans (keep_alloc (KeepBut.refl w gm none) _) hk3 (.inl rfl)); have L3 := Aside0.mk (hk3.blk (blk_new w _) (Nat.ne_of_gt GMlt.out) (by simp)); have k0 := (blk_cell L3.out 0).trans rfl; have k1 := (blk_cell L3.out 1).trans rfl; have k2 := (blk_cell L3.out 2).trans rfl; have E3 := Aside0.mk (RE_keep (RE_below HE.out (below_alloc (Below.refl _ _) _) (fun _ h => h)) hk3 HK.out (fun _ h => h)); clear hi3 hk3) | (go_at_call 49; (with_reducible refine (C2.out _ I3.out E3.out).mono ?_); rintro en w4 ⟨pa4, pb4, rfl, hva, hvb, hi4, hk4⟩; have I4 := Aside0.mk hi4; have Q4 := Aside0.mk (KeepBut.trans Q3.out hk4 (.inl rfl)); have L4 := Aside0.mk (hk4.blk L3.out (Nat.ne_of_gt GMlt.out) (by simp)); have VA := Aside0.mk (RV_up hva Q3.out.1); have VB := Aside0.mk (RV_up (v := vb) hvb Q3.out.1); obtain ⟨ga, la0, la1, la2, la3, la4, rfl, oka, ha0⟩ := RV_ptr VA.out; obtain ⟨gb, lb0, lb1, lb2, lb3, lb4, rfl, okb, hb0⟩ := RV_ptr VB.out; have NA : Aside0 (ga ≠ gm) := ⟨oka.elim (HK.out ga) (fun h => by have := GMlt.out; omega)⟩; have NB : Aside0 (gb ≠ gm) := ⟨okb.elim (HK.out gb) (fun h => by have := GMlt.out; omega)⟩; have HA0 := Aside0.mk ha0; have HB0 := Aside0.mk hb0; have b0 : w4.cell? ⟨ga, 0, none⟩ = some (.int .i64 va.kind) := (blk_cell ha0 0).trans rfl; have b1 : w4.cell? ⟨ga, 1, none⟩ = some (.int .i64 va.num) := (blk_cell ha0 1).trans rfl; have d0 : w4.cell? ⟨gb, 0, none⟩ = some (.int .i64 vb.kind) := (blk_cell hb0 0).trans rfl; have d1 : w4.cell? ⟨gb, 1, none⟩ = some (.int .i64 vb.num) := (blk_cell hb0 1).trans rfl; clear k0 k1 k2; have k0 : w4.cell? ⟨w.heap.size, 0, none⟩ = some (.int .i64 t.f0) := (blk_cell L4.out 0).trans rfl; have k1 : w4.cell? ⟨w.heap.size, 1, none⟩ = some (.int .i64 t.f1) := (blk_cell L4.out 1).trans rfl; have m2 : w4.cell? ⟨gm, 2, none⟩ = some (.int .i64 0) := (blk_cell hi4.1 2).trans rfl; clear hva hvb hi4 hk4 ha0 hb0 oka okb) | (go_at_call 47; (with_reducible refine (must_no I4.out).mono ?_); rintro en w5 ⟨rfl, hi5, hk5⟩; have I5 := Aside0.mk hi5; have Q5 := Aside0.mk hk5; clear hi5 hk5))
  go_ret
  exact ⟨_, rfl, RV_kept VA.out Q5.out HK.out GMlt.out, I5.out, KeepBut.trans Q4.out Q5.out (.inl rfl)⟩
set_option maxHeartbeats 8000000 in
set_option maxRecDepth 100000 in
theorem plain_right {F : Int} {k : Nat} (ih : CEV F k) {w0 w : World} {gm : Nat} {e : E} {t : S29} {pe : Value} {A : Option Addr} {c : Nat} {st : Int} {ok : Nat → Prop}
    (hi : Inv w0 w gm st F 0) (he : RE w0 w ok e pe) (hok : ∀ k, ok k → k ≠ gm) (hc : t.f2.length ≤ c) (hC : Kd.C k29 w0 A t.f2.length t.f2) (n1 : t.f0 ≠ 25) (n2 : t.f0 ≠ 20) (n3 : t.f0 ≠ 23) (n4 : t.f0 ≠ 24) (h : t.f2.length = 2) {x : Int} {vb : V} {s1 : Int} (hp : t.f0 ≠ 22) (hq : t.f0 = 26) (hv : vb.kind ≠ 1) (ht : twoOf (ev F k e) t st = some ((.int x), some vb, s1, 0)) :
    Calls Tryd.prog 50 #[.pointer (some ⟨gm, 0, none⟩), pe, .agg #[.int .i64 t.f0, .int .i64 t.f1, .slice A t.f2.length c]] w (Ans w0 w ok gm F (.int x, s1, 1)) := by
  have HI := Aside0.mk hi
  have HE := Aside0.mk he
  have HK := Aside0.mk hok
  have GMlt := Aside0.mk (blk_lt hi.1)
  have q1 : (t.f0 == 25) = false := by rw [beq_eq_false_iff_ne]; exact n1
  have q2 : (t.f0 == 20) = false := by rw [beq_eq_false_iff_ne]; exact n2
  have q3 : (t.f0 == 23) = false := by rw [beq_eq_false_iff_ne]; exact n3
  have q4 : (t.f0 == 24) = false := by rw [beq_eq_false_iff_ne]; exact n4
  have q5 : (t.f0 = 25) = False := eq_false n1
  have q6 : (t.f0 = 20) = False := eq_false n2
  have q7 : (t.f0 = 23) = False := eq_false n3
  have q8 : (t.f0 = 24) = False := eq_false n4
  have z1 : ((t.f2.length : Int) == 2) = true := by rw [h]; rfl
  have z2 : ((t.f2.length : Int) = 2) = True := eq_true (by omega)
  have z3 : (t.f2.length = 2) = True := eq_true h
  have z4 : (t.f2.length == 2) = true := by simpa using h
  have C2 := Aside0.mk (fun w1 (h1 : Inv w0 w1 gm st F 0) (h2 : RE w0 w1 ok e pe) => two43 ih h1 h2 hok hc hC ht)
  obtain ⟨pa, rfl⟩ := RE_ptr he
  have y1 : (t.f0 == 22) = false := by simpa using hp
  have y2 : (t.f0 = 22) = False := eq_false hp
  have y3 : (t.f0 == 26) = true := by simpa using hq
  have y4 : (t.f0 = 26) = True := eq_true hq
  have y5 : (vb.kind == 1) = false := by simpa using hv
  have y6 : (vb.kind = 1) = False := eq_false hv
  clear hp hq hv
  clear hi he hok hc hC ih h n1 n2 n3 n4 ht
  go_enter Tryd.func50, Tryd.ntmps50
  go_wp2_with (first | (go_at_call 47; (with_reducible refine (must_ok (HI.out.below (below_alloc (Below.refl _ _) _))).mono ?_); rintro en w3 ⟨rfl, hi3, hk3⟩; have I3 := Aside0.mk hi3; have Q3 := Aside0.mk (KeepBut.trans (keep_alloc (KeepBut.refl w gm none) _) hk3 (.inl rfl)); have L3 := Aside0.mk (hk3.blk (blk_new w _) (Nat.ne_of_gt GMlt.out) (by simp)); have k0 := (blk_cell L3.out 0).trans rfl; have k1 := (blk_cell L3.out 1).trans rfl; have k2 := (blk_cell L3.out 2).trans rfl; have E3 := Aside0.mk (RE_keep (RE_below HE.out (below_alloc (Below.refl _ _) _) (fun _ h => h)) hk3 HK.out (fun _ h => h)); clear hi3 hk3) | (go_at_call 49; (with_reducible refine (C2.out _ I3.out E3.out).mono ?_); rintro en w4 ⟨pa4, pb4, rfl, hva, hvb, hi4, hk4⟩; have I4 := Aside0.mk hi4; have Q4 := Aside0.mk (KeepBut.trans Q3.out hk4 (.inl rfl)); have L4 := Aside0.mk (hk4.blk L3.out (Nat.ne_of_gt GMlt.out) (by simp)); have VA := Aside0.mk (RV_up hva Q3.out.1); have VB := Aside0.mk (RV_up (v := vb) hvb Q3.out.1); obtain ⟨ga, la0, la1, la2, la3, la4, rfl, oka, ha0⟩ := RV_ptr VA.out; obtain ⟨gb, lb0, lb1, lb2, lb3, lb4, rfl, okb, hb0⟩ := RV_ptr VB.out; have NA : Aside0 (ga ≠ gm) := ⟨oka.elim (HK.out ga) (fun h => by have := GMlt.out; omega)⟩; have NB : Aside0 (gb ≠ gm) := ⟨okb.elim (HK.out gb) (fun h => by have := GMlt.out; omega)⟩; have HA0 := Aside0.mk ha0; have HB0 := Aside0.mk hb0; have b0 : w4.cell? ⟨ga, 0, none⟩ = some (.int .i64 1) := (blk_cell ha0 0).trans rfl; have b1 : w4.cell? ⟨ga, 1, none⟩ = some (.int .i64 x) := (blk_cell ha0 1).trans rfl; have d0 : w4.cell? ⟨gb, 0, none⟩ = some (.int .i64 vb.kind) := (blk_cell hb0 0).trans rfl; have d1 : w4.cell? ⟨gb, 1, none⟩ = some (.int .i64 vb.num) := (blk_cell hb0 1).trans rfl; clear k0 k1 k2; have k0 : w4.cell? ⟨w.heap.size, 0, none⟩ = some (.int .i64 t.f0) := (blk_cell L4.out 0).trans rfl; have k1 : w4.cell? ⟨w.heap.size, 1, none⟩ = some (.int .i64 t.f1) := (blk_cell L4.out 1).trans rfl; have m2 : w4.cell? ⟨gm, 2, none⟩ = some (.int .i64 0) := (blk_cell hi4.1 2).trans rfl; clear hva hvb hi4 hk4 ha0 hb0 oka okb) | (go_at_call 47; (with_reducible refine (must_no I4.out).mono ?_); rintro en w5 ⟨rfl, hi5, hk5⟩; have I5 := Aside0.mk hi5; have Q5 := Aside0.mk hk5; clear hi5 hk5))
  go_ret
  exact ⟨_, rfl, RV_kept VA.out Q5.out HK.out GMlt.out, I5.out, KeepBut.trans Q4.out Q5.out (.inl rfl)⟩
set_option maxHeartbeats 8000000 in
set_option maxRecDepth 100000 in
theorem plain_prim {F : Int} {k : Nat} (ih : CEV F k) {w0 w : World} {gm : Nat} {e : E} {t : S29} {pe : Value} {A : Option Addr} {c : Nat} {st : Int} {ok : Nat → Prop}
    (hi : Inv w0 w gm st F 0) (he : RE w0 w ok e pe) (hok : ∀ k, ok k → k ≠ gm) (hc : t.f2.length ≤ c) (hC : Kd.C k29 w0 A t.f2.length t.f2) (n1 : t.f0 ≠ 25) (n2 : t.f0 ≠ 20) (n3 : t.f0 ≠ 23) (n4 : t.f0 ≠ 24) (h : t.f2.length = 2) {x y : Int} {s1 : Int} (hp : t.f0 ≠ 22) (hq : t.f0 = 26) (ht : twoOf (ev F k e) t st = some ((.int x), some (.int y), s1, 0)) :
    Calls Tryd.prog 50 #[.pointer (some ⟨gm, 0, none⟩), pe, .agg #[.int .i64 t.f0, .int .i64 t.f1, .slice A t.f2.length c]] w (Ans w0 w ok gm F (.int (prim t.f1 x y).1, s1, (prim t.f1 x y).2)) := by
  have HI := Aside0.mk hi
  have HE := Aside0.mk he
  have HK := Aside0.mk hok
  have GMlt := Aside0.mk (blk_lt hi.1)
  have q1 : (t.f0 == 25) = false := by rw [beq_eq_false_iff_ne]; exact n1
  have q2 : (t.f0 == 20) = false := by rw [beq_eq_false_iff_ne]; exact n2
  have q3 : (t.f0 == 23) = false := by rw [beq_eq_false_iff_ne]; exact n3
  have q4 : (t.f0 == 24) = false := by rw [beq_eq_false_iff_ne]; exact n4
  have q5 : (t.f0 = 25) = False := eq_false n1
  have q6 : (t.f0 = 20) = False := eq_false n2
  have q7 : (t.f0 = 23) = False := eq_false n3
  have q8 : (t.f0 = 24) = False := eq_false n4
  have z1 : ((t.f2.length : Int) == 2) = true := by rw [h]; rfl
  have z2 : ((t.f2.length : Int) = 2) = True := eq_true (by omega)
  have z3 : (t.f2.length = 2) = True := eq_true h
  have z4 : (t.f2.length == 2) = true := by simpa using h
  have C2 := Aside0.mk (fun w1 (h1 : Inv w0 w1 gm st F 0) (h2 : RE w0 w1 ok e pe) => two43 ih h1 h2 hok hc hC ht)
  obtain ⟨pa, rfl⟩ := RE_ptr he
  have y1 : (t.f0 == 22) = false := by simpa using hp
  have y2 : (t.f0 = 22) = False := eq_false hp
  have y3 : (t.f0 == 26) = true := by simpa using hq
  have y4 : (t.f0 = 26) = True := eq_true hq
  clear hp hq
  clear hi he hok hc hC ih h n1 n2 n3 n4 ht
  go_enter Tryd.func50, Tryd.ntmps50
  go_wp2_with (first | (go_at_call 47; (with_reducible refine (must_ok (HI.out.below (below_alloc (Below.refl _ _) _))).mono ?_); rintro en w3 ⟨rfl, hi3, hk3⟩; have I3 := Aside0.mk hi3; have Q3 := Aside0.mk (KeepBut.trans (keep_alloc (KeepBut.refl w gm none) _) hk3 (.inl rfl)); have L3 := Aside0.mk (hk3.blk (blk_new w _) (Nat.ne_of_gt GMlt.out) (by simp)); have k0 := (blk_cell L3.out 0).trans rfl; have k1 := (blk_cell L3.out 1).trans rfl; have k2 := (blk_cell L3.out 2).trans rfl; have E3 := Aside0.mk (RE_keep (RE_below HE.out (below_alloc (Below.refl _ _) _) (fun _ h => h)) hk3 HK.out (fun _ h => h)); clear hi3 hk3) | (go_at_call 49; (with_reducible refine (C2.out _ I3.out E3.out).mono ?_); rintro en w4 ⟨pa4, pb4, rfl, hva, hvb, hi4, hk4⟩; have I4 := Aside0.mk hi4; have Q4 := Aside0.mk (KeepBut.trans Q3.out hk4 (.inl rfl)); have L4 := Aside0.mk (hk4.blk L3.out (Nat.ne_of_gt GMlt.out) (by simp)); have VA := Aside0.mk (RV_up hva Q3.out.1); have VB := Aside0.mk (RV_up (v := (.int y)) hvb Q3.out.1); obtain ⟨ga, la0, la1, la2, la3, la4, rfl, oka, ha0⟩ := RV_ptr VA.out; obtain ⟨gb, lb0, lb1, lb2, lb3, lb4, rfl, okb, hb0⟩ := RV_ptr VB.out; have NA : Aside0 (ga ≠ gm) := ⟨oka.elim (HK.out ga) (fun h => by have := GMlt.out; omega)⟩; have NB : Aside0 (gb ≠ gm) := ⟨okb.elim (HK.out gb) (fun h => by have := GMlt.out; omega)⟩; have HA0 := Aside0.mk ha0; have HB0 := Aside0.mk hb0; have b0 : w4.cell? ⟨ga, 0, none⟩ = some (.int .i64 1) := (blk_cell ha0 0).trans rfl; have b1 : w4.cell? ⟨ga, 1, none⟩ = some (.int .i64 x) := (blk_cell ha0 1).trans rfl; have d0 : w4.cell? ⟨gb, 0, none⟩ = some (.int .i64 1) := (blk_cell hb0 0).trans rfl; have d1 : w4.cell? ⟨gb, 1, none⟩ = some (.int .i64 y) := (blk_cell hb0 1).trans rfl; clear k0 k1 k2; have k0 : w4.cell? ⟨w.heap.size, 0, none⟩ = some (.int .i64 t.f0) := (blk_cell L4.out 0).trans rfl; have k1 : w4.cell? ⟨w.heap.size, 1, none⟩ = some (.int .i64 t.f1) := (blk_cell L4.out 1).trans rfl; have m2 : w4.cell? ⟨gm, 2, none⟩ = some (.int .i64 0) := (blk_cell hi4.1 2).trans rfl; clear hva hvb hi4 hk4 ha0 hb0 oka okb) | (go_at_call 47; (with_reducible refine (must_ok I4.out).mono ?_); rintro en w5 ⟨rfl, hi5, hk5⟩; have I5 := Aside0.mk hi5; have Q5 := Aside0.mk (KeepBut.trans Q4.out hk5 (.inl rfl)); clear k0 k1 b0 b1 d0 d1 m2; have k1 : w5.cell? ⟨w.heap.size, 1, none⟩ = some (.int .i64 t.f1) := (blk_cell (hk5.blk L4.out (Nat.ne_of_gt GMlt.out) (by simp)) 1).trans rfl; have b1 : w5.cell? ⟨ga, 1, none⟩ = some (.int .i64 x) := (blk_cell (hk5.blk HA0.out NA.out (by simp)) 1).trans rfl; have d1 : w5.cell? ⟨gb, 1, none⟩ = some (.int .i64 y) := (blk_cell (hk5.blk HB0.out NB.out (by simp)) 1).trans rfl; clear hi5 hk5))
  go_still_tail 11, (by kernel_rfl)
  change wpList _ _ _ _ _ w5.drew
  have I6 := Aside0.mk (I5.out.below (below_drew (Below.refl _ _)))
  have Q6 := Aside0.mk (keep_drew Q5.out)
  generalize w5.drew = w6 at I6 Q6 ⊢
  go_wp2_with (first | (go_at_call 75; (with_reducible refine (prim66 I6.out).mono ?_); rintro en w7 ⟨p7, g7, rfl, rfl, hg7, h7, hi7, hk7⟩; have H7 := Aside0.mk (And.intro hg7 (And.intro h7 (And.intro hi7 hk7))); clear hg7 h7 hi7 hk7))
  go_ret
  obtain ⟨hg7, h7, hi7, hk7⟩ := H7.out
  exact ⟨_, rfl, ⟨g7, rfl, Or.inr (Nat.le_trans Q6.out.1 hg7), h7⟩, hi7, KeepBut.trans Q6.out hk7 (.inl rfl)⟩
theorem plain44 {F : Int} {k : Nat} (ih : CEV F k) {w0 w : World} {gm : Nat} {e : E} {t : S29} {pe : Value} {A : Option Addr} {c : Nat} {st : Int} {ok : Nat → Prop} {r : V × Int × Int}
    (hi : Inv w0 w gm st F 0) (he : RE w0 w ok e pe) (hok : ∀ k, ok k → k ≠ gm) (hc : t.f2.length ≤ c) (hC : Kd.C k29 w0 A t.f2.length t.f2) (hr : plain (ev F k e) e t st = some r) :
    Calls Tryd.prog 50 #[.pointer (some ⟨gm, 0, none⟩), pe, .agg #[.int .i64 t.f0, .int .i64 t.f1, .slice A t.f2.length c]] w (Ans w0 w ok gm F r) := by
  by_cases n1 : t.f0 = 25
  · exact plain_int ih hi he hok hc hC n1 hr
  by_cases n2 : t.f0 = 20
  · exact plain_lam ih hi he hok hc hC n2 hr
  by_cases n34 : t.f0 = 23 ∨ t.f0 = 24
  · exact plain_part ih hi he hok hc hC n34 hr
  have n3 : t.f0 ≠ 23 := fun h => n34 (Or.inl h)
  have n4 : t.f0 ≠ 24 := fun h => n34 (Or.inr h)
  by_cases h : t.f2.length = 2
  · have hr0 := hr
    unfold plain at hr
    rw [if_neg n1, if_neg n2, if_neg n34, if_neg (by simpa using h)] at hr
    obtain ⟨⟨va, ob, s1, e1⟩, ht, hr⟩ := Option.bind_eq_some_iff.mp hr
    by_cases hz : e1 = 0
    · subst hz
      cases ob with
      | none => exact absurd rfl (two_none ht)
      | some vb =>
        obtain rfl := Option.some.inj hr
        by_cases hp : t.f0 = 22
        · have := plain_pair ih hi he hok hc hC n1 n2 n3 n4 h hp ht
          unfold both
          rw [if_neg (by simp), if_pos hp]
          exact this
        by_cases hq : t.f0 = 26
        · unfold both
          rw [if_neg (by simp), if_neg hp, if_pos hq]
          cases va with
          | int x =>
            cases vb with
            | int y => exact plain_prim ih hi he hok hc hC n1 n2 n3 n4 h hp hq ht
            | pair a b => exact plain_right ih hi he hok hc hC n1 n2 n3 n4 h hp hq (by show (2 : Int) ≠ 1; decide) ht
            | fn a b => exact plain_right ih hi he hok hc hC n1 n2 n3 n4 h hp hq (by show (3 : Int) ≠ 1; decide) ht
          | pair a b => exact plain_left ih hi he hok hc hC n1 n2 n3 n4 h hp hq (by show (2 : Int) ≠ 1; decide) ht
          | fn a b => exact plain_left ih hi he hok hc hC n1 n2 n3 n4 h hp hq (by show (3 : Int) ≠ 1; decide) ht
        · have := plain_op ih hi he hok hc hC n1 n2 n3 n4 h hp hq ht
          unfold both
          rw [if_neg (by simp), if_neg hp, if_neg hq]
          exact this
    · have R : r = (va, s1, e1) := by
        cases ob with
        | none => exact (Option.some.inj hr).symm
        | some vb =>
          refine (Option.some.inj hr).symm.trans ?_
          show both t.f0 t.f1 va (vb, s1, e1) = (va, s1, e1)
          unfold both
          rw [if_pos (show e1 ≠ 0 from hz)]
      subst R
      exact plain_err ih hi he hok hc hC n1 n2 n3 n4 h ht hz
  · exact plain_len ih hi he hok hc hC n1 n2 n3 n4 h hr
end Go.Proofs.YtnecmclnokikoaaDoor.Run
