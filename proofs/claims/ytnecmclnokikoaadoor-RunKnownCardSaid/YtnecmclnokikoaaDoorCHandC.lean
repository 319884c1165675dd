/- Package term: check, Check: what is wrong with a term. -/
import Derived.Test.YtnecmclnokikoaaDoorCHandB
import Derived.Test.YtnecmclnokikoaaDoorCHandK
import Derived.Test.YtnecmclnokikoaaDoorCHandX
namespace Go.Proofs.YtnecmclnokikoaaDoor.Run
open Go.RowKit Go.Proofs.YtnecmclnokikoaaDoor.P Go.Proofs.YtnecmclnokikoaaDoorW.PrintWords Go.Proofs.YtnecmclnokikoaaDoorW.PrintLast Go.Proofs.YtnecmclnokikoaaDoorW.PrintMore
set_option linter.unusedVariables false
set_option linter.unusedSimpArgs false
theorem number_f (o n : Int) : X.term_number.f o n = some (numOk o n) := by
  unfold X.term_number.f numOk
  by_cases h1 : o = 1
  · rw [if_pos h1, if_pos h1]
    by_cases h : n ≥ 0
    · rw [if_pos h, decide_eq_true (show 0 ≤ n from h), Bool.true_and]
    · rw [if_neg h, decide_eq_false (show ¬ 0 ≤ n from h), Bool.false_and]
  rw [if_neg h1, if_neg h1]
  by_cases h2 : o = 2
  · rw [if_pos h2, if_pos h2]
    by_cases h : n ≥ 0
    · rw [if_pos h, decide_eq_true (show 0 ≤ n from h), Bool.true_and]
    · rw [if_neg h, decide_eq_false (show ¬ 0 ≤ n from h), Bool.false_and]
  rw [if_neg h2, if_neg h2]
  by_cases h3 : o = 26
  · rw [if_pos h3, if_pos h3]
    by_cases h : n ≥ 0
    · rw [if_pos h, decide_eq_true (show 0 ≤ n from h), Bool.true_and]
    · rw [if_neg h, decide_eq_false (show ¬ 0 ≤ n from h), Bool.false_and]
  rw [if_neg h3, if_neg h3]
  by_cases h4 : o = 25
  · rw [if_pos h4, if_pos h4]
  · rw [if_neg h4, if_neg h4]
theorem number63 (o n : Int) (w : World) : Calls Tryd.prog 72 #[.int .i64 o, .int .i64 n] w fun e w' => e = .returned (.bool (numOk o n)) ∧ w' = w := X.term_number.calls o n _ w (number_f o n)
/-- The count's block. -/
def NC (w : World) (gn : Nat) (n : Int) : Prop := w.heap[gn]? = some (.cells #[.int .i64 n] 3 (0, 0))
/-- What check does. -/
def Chk (d : Nat) : Prop := ∀ {w0 w : World} {t : S29} {A : Option Addr} {c gn : Nat} {n deep : Int}, NC w gn n → Below w0.heap.size w0 w → w0.heap.size ≤ gn → t.f2.length ≤ c → Kd.C k29 w0 A t.f2.length t.f2 → deep + d = 121 → 0 ≤ deep → 0 ≤ n → n ≤ 3000 →
  Calls Tryd.prog 44 #[.agg #[.int .i64 t.f0, .int .i64 t.f1, .slice A t.f2.length c], .pointer (some ⟨gn, 0, none⟩), .int .i64 deep] w fun en w' => en = .returned (.int .i64 (chk d t n).2) ∧ NC w' gn (chk d t n).1 ∧ KeepBut w w' gn none ∧ Below w0.heap.size w0 w'
set_option maxHeartbeats 8000000 in
set_option maxRecDepth 100000 in
theorem chk_zero : Chk 0 := by
  intro w0 w t A c gn n deep hN hB hg hc hC hd hd0 hn0 hn
  have HN := Aside0.mk hN
  have HB := Aside0.mk hB
  have HG := Aside0.mk hg
  have HC := Aside0.mk hC
  have HCc := Aside0.mk hc
  have c0 : w.cell? ⟨gn, 0, none⟩ = some (.int .i64 n) := (blk_cell hN 0).trans rfl
  have f0 := blk_frozen hN 0
  have W1 := Aside0.mk (show wrap64 (n + 1) = n + 1 by unfold wrap64; omega)
  have g1 : (120 < deep) = True := eq_true (by omega)
  have g2 : decide (120 < deep) = true := decide_eq_true (by omega)
  have EQ : Aside0 (chk 0 t n = (n + 1, 5)) := ⟨rfl⟩
  by_cases h3 : 3000 < n + 1
  · have g3 : (3000 < n + 1) = True := eq_true h3
    have g4 : decide (3000 < n + 1) = true := decide_eq_true h3
    clear h3 hN hB hg hc hC hd hd0 hn0 hn
    go_enter Tryd.func44, Tryd.ntmps44
    go_wp2_with (first | ((with_reducible refine gate_dst (N := 3) rfl ?_); refine box_event ?hg (N := 3) ?hd (cs := #[.int .i64 t.f0, .int .i64 t.f1, .slice A t.f2.length c]) (t := 29) ?hr ?_; (case hd => rfl); (case hg => rfl); (case hr => first | (go_simp; done) | (go_simp; rfl)); intro g3 hg3 w3 hbox hb3; have G3 := Aside0.mk hg3; have K3 := Aside0.mk hbox; have N3 := Aside0.mk (blk_below HN.out hb3); have B3 := Aside0.mk (HB.out.trans (hb3.mono HB.out.size)); have Q3 : Aside0 (KeepBut w w3 gn none) := ⟨KeepBut.of_below hb3 gn none⟩; clear hg3 hbox hb3 c0 f0; have c0 : w3.cell? ⟨gn, 0, none⟩ = some (.int .i64 n) := (blk_cell N3.out 0).trans rfl; have f0 := blk_frozen N3.out 0) | (rw [W1.out]))
    go_ret
    rw [EQ.out]
    exact ⟨rfl, blk_put N3.out 0 _ rfl, KeepBut.set_ Q3.out 0 _, below_set B3.out HG.out⟩
  · have g3 : (3000 < n + 1) = False := eq_false h3
    have g4 : decide (3000 < n + 1) = false := decide_eq_false h3
    clear h3 hN hB hg hc hC hd hd0 hn0 hn
    go_enter Tryd.func44, Tryd.ntmps44
    go_wp2_with (first | ((with_reducible refine gate_dst (N := 3) rfl ?_); refine box_event ?hg (N := 3) ?hd (cs := #[.int .i64 t.f0, .int .i64 t.f1, .slice A t.f2.length c]) (t := 29) ?hr ?_; (case hd => rfl); (case hg => rfl); (case hr => first | (go_simp; done) | (go_simp; rfl)); intro g3 hg3 w3 hbox hb3; have G3 := Aside0.mk hg3; have K3 := Aside0.mk hbox; have N3 := Aside0.mk (blk_below HN.out hb3); have B3 := Aside0.mk (HB.out.trans (hb3.mono HB.out.size)); have Q3 : Aside0 (KeepBut w w3 gn none) := ⟨KeepBut.of_below hb3 gn none⟩; clear hg3 hbox hb3 c0 f0; have c0 : w3.cell? ⟨gn, 0, none⟩ = some (.int .i64 n) := (blk_cell N3.out 0).trans rfl; have f0 := blk_frozen N3.out 0) | (rw [W1.out]))
    go_ret
    rw [EQ.out]
    exact ⟨rfl, blk_put N3.out 0 _ rfl, KeepBut.set_ Q3.out 0 _, below_set B3.out HG.out⟩
theorem N_new (w : World) (o : Obj) (n : Int) : NC ((w.alloc o).alloc (.cells #[.int .i64 n] 3)) (w.heap.size + 1) n := by
  have h := blk_new (w.alloc o) (.cells #[.int .i64 n] 3)
  rw [size_alloc] at h
  exact h
theorem meas {n i : Nat} (h : i < n) (hw : wrap64 ((i : Int) + 1) = ((i + 1 : Nat) : Int)) : n - (intOf (.int .i64 (wrap64 ((i : Int) + 1)))).toNat < n - (intOf (.int .i64 (i : Int))).toNat := by
  rw [hw]
  show n - (((i + 1 : Nat) : Int)).toNat < n - ((i : Int)).toNat
  omega
theorem keep_below' {w w' w2 : World} {g : Nat} (h : KeepBut w w' g none) (hb : Below w'.heap.size w' w2) : KeepBut w w2 g none :=
  ⟨Nat.le_trans h.1 hb.size, fun i hi hne hr => (hb.block i (Nat.lt_of_lt_of_le hi h.1)).trans (h.2 i hi hne hr)⟩
set_option maxHeartbeats 8000000 in
set_option maxRecDepth 100000 in
theorem chk_succ (d : Nat) (ih : Chk d) : Chk (d + 1) := by
  intro w0 w t A c gn n deep hN hB hg hc hC hd hd0 hn0 hn
  have HN := Aside0.mk hN
  have HB := Aside0.mk hB
  have HG := Aside0.mk hg
  have HC := Aside0.mk hC
  have HCc := Aside0.mk hc
  have c0 : w.cell? ⟨gn, 0, none⟩ = some (.int .i64 n) := (blk_cell hN 0).trans rfl
  have f0 := blk_frozen hN 0
  have W1 := Aside0.mk (show wrap64 (n + 1) = n + 1 by unfold wrap64; omega)
  have g1 : (120 < deep) = False := eq_false (by omega)
  have g2 : decide (120 < deep) = false := decide_eq_false (by omega)
  by_cases h3 : 3000 < n + 1
  · have g3 : (3000 < n + 1) = True := eq_true h3
    have g4 : decide (3000 < n + 1) = true := decide_eq_true h3
    have EQ : Aside0 (chk (d + 1) t n = (n + 1, 5)) := ⟨by rw [chk, if_pos h3]⟩
    clear h3 hN hB hg hc hC hd hd0 hn0 hn
    go_enter Tryd.func44, Tryd.ntmps44
    go_wp2_with (first | ((with_reducible refine gate_dst (N := 3) rfl ?_); refine box_event ?hg (N := 3) ?hd (cs := #[.int .i64 t.f0, .int .i64 t.f1, .slice A t.f2.length c]) (t := 29) ?hr ?_; (case hd => rfl); (case hg => rfl); (case hr => first | (go_simp; done) | (go_simp; rfl)); intro g3 hg3 w3 hbox hb3; have G3 := Aside0.mk hg3; have K3 := Aside0.mk hbox; have N3 := Aside0.mk (blk_below HN.out hb3); have B3 := Aside0.mk (HB.out.trans (hb3.mono HB.out.size)); have Q3 : Aside0 (KeepBut w w3 gn none) := ⟨KeepBut.of_below hb3 gn none⟩; clear hg3 hbox hb3 c0 f0; have c0 : w3.cell? ⟨gn, 0, none⟩ = some (.int .i64 n) := (blk_cell N3.out 0).trans rfl; have f0 := blk_frozen N3.out 0) | (rw [W1.out]))
    go_ret
    rw [EQ.out]
    exact ⟨rfl, blk_put N3.out 0 _ rfl, KeepBut.set_ Q3.out 0 _, below_set B3.out HG.out⟩
  have g3 : (3000 < n + 1) = False := eq_false h3
  have g4 : decide (3000 < n + 1) = false := decide_eq_false h3
  by_cases hk : kidsOf t.f0 = (t.f2.length : Int)
  · have q1 : (kidsOf t.f0 != (t.f2.length : Int)) = false := by rw [hk]; simp
    cases hm : numOk t.f0 t.f1 with
    | false =>
      have EQ : Aside0 (chk (d + 1) t n = (n + 1, 1)) := ⟨by rw [chk, if_neg h3, if_pos (Or.inr hm)]⟩
      clear h3 hN hB hg hc hC hd hd0 hn0 hn hk
      go_enter Tryd.func44, Tryd.ntmps44
      go_wp2_with (first | ((with_reducible refine gate_dst (N := 3) rfl ?_); refine box_event ?hg (N := 3) ?hd (cs := #[.int .i64 t.f0, .int .i64 t.f1, .slice A t.f2.length c]) (t := 29) ?hr ?_; (case hd => rfl); (case hg => rfl); (case hr => first | (go_simp; done) | (go_simp; rfl)); intro g3 hg3 w3 hbox hb3; have G3 := Aside0.mk hg3; have K3 := Aside0.mk hbox; have N3 := Aside0.mk (blk_below HN.out hb3); have B3 := Aside0.mk (HB.out.trans (hb3.mono HB.out.size)); have Q3 : Aside0 (KeepBut w w3 gn none) := ⟨KeepBut.of_below hb3 gn none⟩; clear hg3 hbox hb3 c0 f0; have c0 : w3.cell? ⟨gn, 0, none⟩ = some (.int .i64 n) := (blk_cell N3.out 0).trans rfl; have f0 := blk_frozen N3.out 0) | (rw [W1.out]))
      generalize hw4 : (World.setCell w3 ⟨gn, 0, none⟩ _) = w4
      have N4 : Aside0 (NC w4 gn (n + 1)) := ⟨by rw [← hw4]; exact blk_put N3.out 0 _ rfl⟩
      have NE : Aside0 (g3 ≠ gn) := ⟨by have h1 := blk_lt HN.out; have h2 := G3.out; omega⟩
      have K4 : Aside0 (w4.heap[g3]? = some (.cells #[.int .i64 t.f0, .int .i64 t.f1, .slice A t.f2.length c] 29 (0, 0))) := ⟨by rw [← hw4]; exact blk_far K3.out NE.out _⟩
      have Q4 : Aside0 (KeepBut w w4 gn none) := ⟨by rw [← hw4]; exact KeepBut.set_ Q3.out 0 _⟩
      have B4 : Aside0 (Below w0.heap.size w0 w4) := ⟨by rw [← hw4]; exact below_set B3.out HG.out⟩
      clear hw4 N3 K3 Q3 B3 c0 f0
      have N5 := Aside0.mk (blk_drew N4.out)
      have K5 := Aside0.mk (blk_drew K4.out)
      have Q5 := Aside0.mk (keep_drew Q4.out)
      have B5 := Aside0.mk (below_drew1 B4.out)
      clear N4 K4 Q4 B4
      refine start_ (n := 15) (S := fun w' => w'.cell? ⟨g3, 0, none⟩ = some (.int .i64 t.f0) ∧ w'.cell? ⟨g3, 1, none⟩ = some (.int .i64 t.f1) ∧ w'.cell? ⟨g3, 2, none⟩ = some (.slice A t.f2.length c)) (ds := []) #[false, false, false, false, false, false, false, false, false, false, false, false, false, false, false] (by kernel_rfl) rfl rfl ⟨(blk_cell K5.out 0).trans rfl, (blk_cell K5.out 1).trans rfl, (blk_cell K5.out 2).trans rfl⟩ (fun hHeld => ?_)
      generalize w4.drew = w5 at N5 K5 Q5 B5 hHeld ⊢
      refine pure_ (i := 0) (N := some 23) (v := ?_) (a' := ?_) #[true, false, false, false, false, false, false, false, false, false, false, false, false, false, false] rfl rfl (by kernel_rfl) (fun _ _ _ h => h) (Or.inl ⟨by rfl, ?_⟩) ?_ ?_
      rotate_left
      · intro w'
        go_simp
        with_reducible rfl
      rotate_left
      · simp only [Act.put, List.setIfInBounds_toArray, List.set_cons_zero, List.set_cons_succ, i64_w, i32_w, u8_w, u32_w, q1, hm]
        rfl
      refine take_ (i := 1) (N := some 24) (v := ?_) (a' := ?_) #[true, true, false, false, false, false, false, false, false, false, false, false, false, false, false] rfl rfl (by kernel_rfl) (fun _ _ _ h => h) (Or.inl ⟨by rfl, ?_⟩) hHeld ?_ ?_
      rotate_left
      · rintro w' ⟨s0, s1, s2⟩
        go_simp
        with_reducible rfl
      rotate_left
      · simp only [Act.put, List.setIfInBounds_toArray, List.set_cons_zero, List.set_cons_succ, i64_w, i32_w, u8_w, u32_w, q1, hm]
        rfl
      refine pure_ (i := 3) (N := some 26) (v := ?_) (a' := ?_) #[true, true, false, true, false, false, false, false, false, false, false, false, false, false, false] rfl rfl (by kernel_rfl) (fun _ _ _ h => h) (Or.inl ⟨by rfl, ?_⟩) ?_ ?_
      rotate_left
      · intro w'
        go_simp
        with_reducible rfl
      rotate_left
      · simp only [Act.put, List.setIfInBounds_toArray, List.set_cons_zero, List.set_cons_succ, i64_w, i32_w, u8_w, u32_w, q1, hm]
        rfl
      refine take_ (i := 4) (N := some 27) (v := ?_) (a' := ?_) #[true, true, false, true, true, false, false, false, false, false, false, false, false, false, false] rfl rfl (by kernel_rfl) (fun _ _ _ h => h) (Or.inl ⟨by rfl, ?_⟩) hHeld ?_ ?_
      rotate_left
      · rintro w' ⟨s0, s1, s2⟩
        go_simp
        with_reducible rfl
      rotate_left
      · simp only [Act.put, List.setIfInBounds_toArray, List.set_cons_zero, List.set_cons_succ, i64_w, i32_w, u8_w, u32_w, q1, hm]
        rfl
      refine pure_ (i := 5) (N := some 28) (v := ?_) (a' := ?_) #[true, true, false, true, true, true, false, false, false, false, false, false, false, false, false] rfl rfl (by kernel_rfl) (fun _ _ _ h => h) (Or.inl ⟨by rfl, ?_⟩) ?_ ?_
      rotate_left
      · intro w'
        go_simp
        with_reducible rfl
      rotate_left
      · simp only [Act.put, List.setIfInBounds_toArray, List.set_cons_zero, List.set_cons_succ, i64_w, i32_w, u8_w, u32_w, q1, hm]
        rfl
      refine one_ (i := 2) (N := some 25) #[true, true, true, true, true, true, false, false, false, false, false, false, false, false, false] rfl rfl (by kernel_rfl) (by decide) (fun K hK => ?_)
      refine goes_ Tryd.func71 (by kernel_rfl) rfl #[.int .i64 t.f0] (by rfl) rfl rfl (by (try simp only [List.map_toArray, List.map_cons, List.map_nil]); rfl) ?_
      with_reducible refine (kids_any t.f0 _).mono ?_
      rintro e w6 ⟨rfl, hb⟩
      refine ⟨_, rfl, ?_⟩
      have N6 := Aside0.mk (blk_below N5.out hb)
      have K6 := Aside0.mk (blk_below K5.out hb)
      have Q6 := Aside0.mk (keep_below' Q5.out hb)
      have B6 := Aside0.mk (B5.out.trans (hb.mono B5.out.size))
      clear N5 K5 Q5 B5 hb
      refine hK.out _ _ ⟨(blk_cell K6.out 0).trans rfl, (blk_cell K6.out 1).trans rfl, (blk_cell K6.out 2).trans rfl⟩ (fun hHeld => ?_)
      clear hK K
      refine norm_ (a' := ?_) ?_ ?_
      rotate_left
      · show Act.put _ (some 25) _ = _
        simp only [Act.put, List.setIfInBounds_toArray, List.set_cons_zero, List.set_cons_succ, i64_w, i32_w, u8_w, u32_w]
        rfl
      refine pure_ (i := 6) (N := some 29) (v := ?_) (a' := ?_) #[true, true, true, true, true, true, true, false, false, false, false, false, false, false, false] rfl rfl (by kernel_rfl) (fun _ _ _ h => h) (Or.inl ⟨by rfl, ?_⟩) ?_ ?_
      rotate_left
      · intro w'
        go_simp
        with_reducible rfl
      rotate_left
      · simp only [Act.put, List.setIfInBounds_toArray, List.set_cons_zero, List.set_cons_succ, i64_w, i32_w, u8_w, u32_w, q1, hm]
        rfl
      refine pure_ (i := 7) (N := some 30) (v := ?_) (a' := ?_) #[true, true, true, true, true, true, true, true, false, false, false, false, false, false, false] rfl rfl (by kernel_rfl) (fun _ _ _ h => h) (Or.inl ⟨by rfl, ?_⟩) ?_ ?_
      rotate_left
      · intro w'
        go_simp
        with_reducible rfl
      rotate_left
      · simp only [Act.put, List.setIfInBounds_toArray, List.set_cons_zero, List.set_cons_succ, i64_w, i32_w, u8_w, u32_w, q1, hm]
        rfl
      refine pure_ (i := 8) (N := some 31) (v := ?_) (a' := ?_) #[true, true, true, true, true, true, true, true, true, false, false, false, false, false, false] rfl rfl (by kernel_rfl) (fun _ _ _ h => h) (Or.inl ⟨by rfl, ?_⟩) ?_ ?_
      rotate_left
      · intro w'
        go_simp
        with_reducible rfl
      rotate_left
      · simp only [Act.put, List.setIfInBounds_toArray, List.set_cons_zero, List.set_cons_succ, i64_w, i32_w, u8_w, u32_w, q1, hm]
        rfl
      refine take_ (i := 9) (N := some 32) (v := ?_) (a' := ?_) #[true, true, true, true, true, true, true, true, true, true, false, false, false, false, false] rfl rfl (by kernel_rfl) (fun _ _ _ h => h) (Or.inl ⟨by rfl, ?_⟩) hHeld ?_ ?_
      rotate_left
      · rintro w' ⟨s0, s1, s2⟩
        go_simp
        with_reducible rfl
      rotate_left
      · simp only [Act.put, List.setIfInBounds_toArray, List.set_cons_zero, List.set_cons_succ, i64_w, i32_w, u8_w, u32_w, q1, hm]
        rfl
      refine pure_ (i := 10) (N := some 33) (v := ?_) (a' := ?_) #[true, true, true, true, true, true, true, true, true, true, true, false, false, false, false] rfl rfl (by kernel_rfl) (fun _ _ _ h => h) (Or.inl ⟨by rfl, ?_⟩) ?_ ?_
      rotate_left
      · intro w'
        go_simp
        with_reducible rfl
      rotate_left
      · simp only [Act.put, List.setIfInBounds_toArray, List.set_cons_zero, List.set_cons_succ, i64_w, i32_w, u8_w, u32_w, q1, hm]
        rfl
      refine take_ (i := 11) (N := some 34) (v := ?_) (a' := ?_) #[true, true, true, true, true, true, true, true, true, true, true, true, false, false, false] rfl rfl (by kernel_rfl) (fun _ _ _ h => h) (Or.inl ⟨by rfl, ?_⟩) hHeld ?_ ?_
      rotate_left
      · rintro w' ⟨s0, s1, s2⟩
        go_simp
        with_reducible rfl
      rotate_left
      · simp only [Act.put, List.setIfInBounds_toArray, List.set_cons_zero, List.set_cons_succ, i64_w, i32_w, u8_w, u32_w, q1, hm]
        rfl
      refine one_ (i := 12) (N := some 35) #[true, true, true, true, true, true, true, true, true, true, true, true, true, false, false] rfl rfl (by kernel_rfl) (by decide) (fun K hK => ?_)
      refine goes_ Tryd.func72 (by kernel_rfl) rfl #[.int .i64 t.f0, .int .i64 t.f1] (by rfl) rfl rfl (by (try simp only [List.map_toArray, List.map_cons, List.map_nil]); rfl) ?_
      with_reducible refine (number63 t.f0 t.f1 _).mono ?_
      rintro e w7 ⟨rfl, rfl⟩
      refine ⟨_, rfl, ?_⟩
      refine hK.out _ _ ⟨(blk_cell K6.out 0).trans rfl, (blk_cell K6.out 1).trans rfl, (blk_cell K6.out 2).trans rfl⟩ (fun hHeld => ?_)
      clear hK K
      refine norm_ (a' := ?_) ?_ ?_
      rotate_left
      · show Act.put _ (some 35) _ = _
        simp only [Act.put, List.setIfInBounds_toArray, List.set_cons_zero, List.set_cons_succ, i64_w, i32_w, u8_w, u32_w]
        rfl
      refine pure_ (i := 13) (N := some 36) (v := ?_) (a' := ?_) #[true, true, true, true, true, true, true, true, true, true, true, true, true, true, false] rfl rfl (by kernel_rfl) (fun _ _ _ h => h) (Or.inl ⟨by rfl, ?_⟩) ?_ ?_
      rotate_left
      · intro w'
        go_simp
        with_reducible rfl
      rotate_left
      · simp only [Act.put, List.setIfInBounds_toArray, List.set_cons_zero, List.set_cons_succ, i64_w, i32_w, u8_w, u32_w, q1, hm]
        rfl
      refine pure_ (i := 14) (N := some 37) (v := ?_) (a' := ?_) #[true, true, true, true, true, true, true, true, true, true, true, true, true, true, true] rfl rfl (by kernel_rfl) (fun _ _ _ h => h) (Or.inl ⟨by rfl, ?_⟩) ?_ ?_
      rotate_left
      · intro w'
        go_simp
        with_reducible rfl
      rotate_left
      · simp only [Act.put, List.setIfInBounds_toArray, List.set_cons_zero, List.set_cons_succ, i64_w, i32_w, u8_w, u32_w, q1, hm]
        rfl
      refine done_ (by kernel_rfl) ?_
      go_wp2
      go_ret
      rw [EQ.out]
      exact ⟨rfl, N6.out, Q6.out, B6.out⟩
    | true =>
      have EQ : Aside0 (chk (d + 1) t n = chkAll (chk d) t.f2 (n + 1)) := ⟨by rw [chk, if_neg h3, if_neg (by rintro (h | h); exact h hk; rw [hm] at h; exact absurd h (by decide))]⟩
      have M0 := Aside0.mk (show 0 ≤ n + 1 ∧ n + 1 ≤ 3000 by omega)
      have W2 := Aside0.mk (show wrap64 (deep + 1) = deep + 1 by unfold wrap64; omega)
      have DD := Aside0.mk (show deep + 1 + (d : Int) = 121 ∧ 0 ≤ deep + 1 by omega)
      have IH := Aside0.mk @ih
      clear h3 hN hB hg hc hC hd hd0 hn0 hn hk ih
      go_enter Tryd.func44, Tryd.ntmps44
      go_wp2_with (first | ((with_reducible refine gate_dst (N := 3) rfl ?_); refine box_event ?hg (N := 3) ?hd (cs := #[.int .i64 t.f0, .int .i64 t.f1, .slice A t.f2.length c]) (t := 29) ?hr ?_; (case hd => rfl); (case hg => rfl); (case hr => first | (go_simp; done) | (go_simp; rfl)); intro g3 hg3 w3 hbox hb3; have G3 := Aside0.mk hg3; have K3 := Aside0.mk hbox; have N3 := Aside0.mk (blk_below HN.out hb3); have B3 := Aside0.mk (HB.out.trans (hb3.mono HB.out.size)); have Q3 : Aside0 (KeepBut w w3 gn none) := ⟨KeepBut.of_below hb3 gn none⟩; clear hg3 hbox hb3 c0 f0; have c0 : w3.cell? ⟨gn, 0, none⟩ = some (.int .i64 n) := (blk_cell N3.out 0).trans rfl; have f0 := blk_frozen N3.out 0) | (rw [W1.out]))
      generalize hw4 : (World.setCell w3 ⟨gn, 0, none⟩ _) = w4
      have N4 : Aside0 (NC w4 gn (n + 1)) := ⟨by rw [← hw4]; exact blk_put N3.out 0 _ rfl⟩
      have NE : Aside0 (g3 ≠ gn) := ⟨by have h1 := blk_lt HN.out; have h2 := G3.out; omega⟩
      have K4 : Aside0 (w4.heap[g3]? = some (.cells #[.int .i64 t.f0, .int .i64 t.f1, .slice A t.f2.length c] 29 (0, 0))) := ⟨by rw [← hw4]; exact blk_far K3.out NE.out _⟩
      have Q4 : Aside0 (KeepBut w w4 gn none) := ⟨by rw [← hw4]; exact KeepBut.set_ Q3.out 0 _⟩
      have B4 : Aside0 (Below w0.heap.size w0 w4) := ⟨by rw [← hw4]; exact below_set B3.out HG.out⟩
      clear hw4 N3 K3 Q3 B3 c0 f0
      have N5 := Aside0.mk (blk_drew N4.out)
      have K5 := Aside0.mk (blk_drew K4.out)
      have Q5 := Aside0.mk (keep_drew Q4.out)
      have B5 := Aside0.mk (below_drew1 B4.out)
      clear N4 K4 Q4 B4
      refine start_ (n := 15) (S := fun w' => w'.cell? ⟨g3, 0, none⟩ = some (.int .i64 t.f0) ∧ w'.cell? ⟨g3, 1, none⟩ = some (.int .i64 t.f1) ∧ w'.cell? ⟨g3, 2, none⟩ = some (.slice A t.f2.length c)) (ds := []) #[false, false, false, false, false, false, false, false, false, false, false, false, false, false, false] (by kernel_rfl) rfl rfl ⟨(blk_cell K5.out 0).trans rfl, (blk_cell K5.out 1).trans rfl, (blk_cell K5.out 2).trans rfl⟩ (fun hHeld => ?_)
      generalize w4.drew = w5 at N5 K5 Q5 B5 hHeld ⊢
      refine pure_ (i := 0) (N := some 23) (v := ?_) (a' := ?_) #[true, false, false, false, false, false, false, false, false, false, false, false, false, false, false] rfl rfl (by kernel_rfl) (fun _ _ _ h => h) (Or.inl ⟨by rfl, ?_⟩) ?_ ?_
      rotate_left
      · intro w'
        go_simp
        with_reducible rfl
      rotate_left
      · simp only [Act.put, List.setIfInBounds_toArray, List.set_cons_zero, List.set_cons_succ, i64_w, i32_w, u8_w, u32_w, q1, hm]
        rfl
      refine take_ (i := 1) (N := some 24) (v := ?_) (a' := ?_) #[true, true, false, false, false, false, false, false, false, false, false, false, false, false, false] rfl rfl (by kernel_rfl) (fun _ _ _ h => h) (Or.inl ⟨by rfl, ?_⟩) hHeld ?_ ?_
      rotate_left
      · rintro w' ⟨s0, s1, s2⟩
        go_simp
        with_reducible rfl
      rotate_left
      · simp only [Act.put, List.setIfInBounds_toArray, List.set_cons_zero, List.set_cons_succ, i64_w, i32_w, u8_w, u32_w, q1, hm]
        rfl
      refine pure_ (i := 3) (N := some 26) (v := ?_) (a' := ?_) #[true, true, false, true, false, false, false, false, false, false, false, false, false, false, false] rfl rfl (by kernel_rfl) (fun _ _ _ h => h) (Or.inl ⟨by rfl, ?_⟩) ?_ ?_
      rotate_left
      · intro w'
        go_simp
        with_reducible rfl
      rotate_left
      · simp only [Act.put, List.setIfInBounds_toArray, List.set_cons_zero, List.set_cons_succ, i64_w, i32_w, u8_w, u32_w, q1, hm]
        rfl
      refine take_ (i := 4) (N := some 27) (v := ?_) (a' := ?_) #[true, true, false, true, true, false, false, false, false, false, false, false, false, false, false] rfl rfl (by kernel_rfl) (fun _ _ _ h => h) (Or.inl ⟨by rfl, ?_⟩) hHeld ?_ ?_
      rotate_left
      · rintro w' ⟨s0, s1, s2⟩
        go_simp
        with_reducible rfl
      rotate_left
      · simp only [Act.put, List.setIfInBounds_toArray, List.set_cons_zero, List.set_cons_succ, i64_w, i32_w, u8_w, u32_w, q1, hm]
        rfl
      refine pure_ (i := 5) (N := some 28) (v := ?_) (a' := ?_) #[true, true, false, true, true, true, false, false, false, false, false, false, false, false, false] rfl rfl (by kernel_rfl) (fun _ _ _ h => h) (Or.inl ⟨by rfl, ?_⟩) ?_ ?_
      rotate_left
      · intro w'
        go_simp
        with_reducible rfl
      rotate_left
      · simp only [Act.put, List.setIfInBounds_toArray, List.set_cons_zero, List.set_cons_succ, i64_w, i32_w, u8_w, u32_w, q1, hm]
        rfl
      refine one_ (i := 2) (N := some 25) #[true, true, true, true, true, true, false, false, false, false, false, false, false, false, false] rfl rfl (by kernel_rfl) (by decide) (fun K hK => ?_)
      refine goes_ Tryd.func71 (by kernel_rfl) rfl #[.int .i64 t.f0] (by rfl) rfl rfl (by (try simp only [List.map_toArray, List.map_cons, List.map_nil]); rfl) ?_
      with_reducible refine (kids_any t.f0 _).mono ?_
      rintro e w6 ⟨rfl, hb⟩
      refine ⟨_, rfl, ?_⟩
      have N6 := Aside0.mk (blk_below N5.out hb)
      have K6 := Aside0.mk (blk_below K5.out hb)
      have Q6 := Aside0.mk (keep_below' Q5.out hb)
      have B6 := Aside0.mk (B5.out.trans (hb.mono B5.out.size))
      clear N5 K5 Q5 B5 hb
      refine hK.out _ _ ⟨(blk_cell K6.out 0).trans rfl, (blk_cell K6.out 1).trans rfl, (blk_cell K6.out 2).trans rfl⟩ (fun hHeld => ?_)
      clear hK K
      refine norm_ (a' := ?_) ?_ ?_
      rotate_left
      · show Act.put _ (some 25) _ = _
        simp only [Act.put, List.setIfInBounds_toArray, List.set_cons_zero, List.set_cons_succ, i64_w, i32_w, u8_w, u32_w]
        rfl
      refine pure_ (i := 6) (N := some 29) (v := ?_) (a' := ?_) #[true, true, true, true, true, true, true, false, false, false, false, false, false, false, false] rfl rfl (by kernel_rfl) (fun _ _ _ h => h) (Or.inl ⟨by rfl, ?_⟩) ?_ ?_
      rotate_left
      · intro w'
        go_simp
        with_reducible rfl
      rotate_left
      · simp only [Act.put, List.setIfInBounds_toArray, List.set_cons_zero, List.set_cons_succ, i64_w, i32_w, u8_w, u32_w, q1, hm]
        rfl
      refine pure_ (i := 7) (N := some 30) (v := ?_) (a' := ?_) #[true, true, true, true, true, true, true, true, false, false, false, false, false, false, false] rfl rfl (by kernel_rfl) (fun _ _ _ h => h) (Or.inl ⟨by rfl, ?_⟩) ?_ ?_
      rotate_left
      · intro w'
        go_simp
        with_reducible rfl
      rotate_left
      · simp only [Act.put, List.setIfInBounds_toArray, List.set_cons_zero, List.set_cons_succ, i64_w, i32_w, u8_w, u32_w, q1, hm]
        rfl
      refine pure_ (i := 8) (N := some 31) (v := ?_) (a' := ?_) #[true, true, true, true, true, true, true, true, true, false, false, false, false, false, false] rfl rfl (by kernel_rfl) (fun _ _ _ h => h) (Or.inl ⟨by rfl, ?_⟩) ?_ ?_
      rotate_left
      · intro w'
        go_simp
        with_reducible rfl
      rotate_left
      · simp only [Act.put, List.setIfInBounds_toArray, List.set_cons_zero, List.set_cons_succ, i64_w, i32_w, u8_w, u32_w, q1, hm]
        rfl
      refine take_ (i := 9) (N := some 32) (v := ?_) (a' := ?_) #[true, true, true, true, true, true, true, true, true, true, false, false, false, false, false] rfl rfl (by kernel_rfl) (fun _ _ _ h => h) (Or.inl ⟨by rfl, ?_⟩) hHeld ?_ ?_
      rotate_left
      · rintro w' ⟨s0, s1, s2⟩
        go_simp
        with_reducible rfl
      rotate_left
      · simp only [Act.put, List.setIfInBounds_toArray, List.set_cons_zero, List.set_cons_succ, i64_w, i32_w, u8_w, u32_w, q1, hm]
        rfl
      refine pure_ (i := 10) (N := some 33) (v := ?_) (a' := ?_) #[true, true, true, true, true, true, true, true, true, true, true, false, false, false, false] rfl rfl (by kernel_rfl) (fun _ _ _ h => h) (Or.inl ⟨by rfl, ?_⟩) ?_ ?_
      rotate_left
      · intro w'
        go_simp
        with_reducible rfl
      rotate_left
      · simp only [Act.put, List.setIfInBounds_toArray, List.set_cons_zero, List.set_cons_succ, i64_w, i32_w, u8_w, u32_w, q1, hm]
        rfl
      refine take_ (i := 11) (N := some 34) (v := ?_) (a' := ?_) #[true, true, true, true, true, true, true, true, true, true, true, true, false, false, false] rfl rfl (by kernel_rfl) (fun _ _ _ h => h) (Or.inl ⟨by rfl, ?_⟩) hHeld ?_ ?_
      rotate_left
      · rintro w' ⟨s0, s1, s2⟩
        go_simp
        with_reducible rfl
      rotate_left
      · simp only [Act.put, List.setIfInBounds_toArray, List.set_cons_zero, List.set_cons_succ, i64_w, i32_w, u8_w, u32_w, q1, hm]
        rfl
      refine one_ (i := 12) (N := some 35) #[true, true, true, true, true, true, true, true, true, true, true, true, true, false, false] rfl rfl (by kernel_rfl) (by decide) (fun K hK => ?_)
      refine goes_ Tryd.func72 (by kernel_rfl) rfl #[.int .i64 t.f0, .int .i64 t.f1] (by rfl) rfl rfl (by (try simp only [List.map_toArray, List.map_cons, List.map_nil]); rfl) ?_
      with_reducible refine (number63 t.f0 t.f1 _).mono ?_
      rintro e w7 ⟨rfl, rfl⟩
      refine ⟨_, rfl, ?_⟩
      refine hK.out _ _ ⟨(blk_cell K6.out 0).trans rfl, (blk_cell K6.out 1).trans rfl, (blk_cell K6.out 2).trans rfl⟩ (fun hHeld => ?_)
      clear hK K
      refine norm_ (a' := ?_) ?_ ?_
      rotate_left
      · show Act.put _ (some 35) _ = _
        simp only [Act.put, List.setIfInBounds_toArray, List.set_cons_zero, List.set_cons_succ, i64_w, i32_w, u8_w, u32_w]
        rfl
      refine pure_ (i := 13) (N := some 36) (v := ?_) (a' := ?_) #[true, true, true, true, true, true, true, true, true, true, true, true, true, true, false] rfl rfl (by kernel_rfl) (fun _ _ _ h => h) (Or.inl ⟨by rfl, ?_⟩) ?_ ?_
      rotate_left
      · intro w'
        go_simp
        with_reducible rfl
      rotate_left
      · simp only [Act.put, List.setIfInBounds_toArray, List.set_cons_zero, List.set_cons_succ, i64_w, i32_w, u8_w, u32_w, q1, hm]
        rfl
      refine pure_ (i := 14) (N := some 37) (v := ?_) (a' := ?_) #[true, true, true, true, true, true, true, true, true, true, true, true, true, true, true] rfl rfl (by kernel_rfl) (fun _ _ _ h => h) (Or.inl ⟨by rfl, ?_⟩) ?_ ?_
      rotate_left
      · intro w'
        go_simp
        with_reducible rfl
      rotate_left
      · simp only [Act.put, List.setIfInBounds_toArray, List.set_cons_zero, List.set_cons_succ, i64_w, i32_w, u8_w, u32_w, q1, hm]
        rfl
      refine done_ (by kernel_rfl) ?_
      go_wp2
      go_loopw [41] (fun v41 w_ => ∃ (i : Nat) (m : Int), i ≤ t.f2.length ∧ v41 = .int .i64 i ∧ Aside0 (0 ≤ m ∧ m ≤ 3000 ∧ chkAll (chk d) (t.f2.drop i) m = chk (d + 1) t n) ∧ Aside0 (NC w_ gn m) ∧ Aside0 (KeepBut w w_ gn none) ∧ Aside0 (Below w0.heap.size w0 w_)) (fun v41 _ => t.f2.length - (intOf v41).toNat)
      case atStart => exact ⟨0, n + 1, Nat.zero_le _, rfl, ⟨M0.out.1, M0.out.2, by rw [EQ.out]; rfl⟩, N6, Q6, B6⟩
      case round =>
        obtain ⟨i, m, hi, rfl, HM, NR, QR, BR⟩ := hrel
        by_cases hlt : i < t.f2.length
        · have e1 : ((i : Int) < (t.f2.length : Int)) = True := eq_true (by omega)
          have e2 : (i < t.f2.length) = True := eq_true hlt
          have e3 : decide ((i : Int) < (t.f2.length : Int)) = true := decide_eq_true (by omega)
          have e4 : (0 ≤ (i : Int)) = True := eq_true (by omega)
          obtain ⟨ad, A2, c2, hA, hx0, hx1, hx2, hc2, hC2⟩ := at_T29 HC.out (i : Int) (by omega) (by omega)
          obtain ⟨x, hx⟩ : ∃ x, x = rd_T29 t.f2 (i : Int) := ⟨_, rfl⟩
          rw [← hx] at hx0 hx1 hx2 hc2 hC2
          rw [Int.toNat_natCast] at hx0 hx1 hx2
          replace hx0 := pw_cell_below BR.out hx0
          replace hx1 := pw_cell_below BR.out hx1
          replace hx2 := pw_cell_below BR.out hx2
          have XC := Aside0.mk (And.intro hc2 hC2)
          have MM := Aside0.mk (And.intro HM.out.1 HM.out.2.1)
          have hdr : t.f2.drop i = x :: t.f2.drop (i + 1) := by
            rw [List.drop_eq_getElem_cons hlt, hx]
            unfold rd_T29
            rw [Int.toNat_natCast, List.getD_eq_getElem?_getD, List.getElem?_eq_getElem hlt]
            rfl
          have h4 := HM.out.2.2
          rw [hdr, chkAll] at h4
          have hrng := chk_range d x m HM.out.1 HM.out.2.1
          obtain ⟨⟨r1, r2⟩, hr⟩ : ∃ r, r = chk d x m := ⟨_, rfl⟩
          rw [← hr] at h4 hrng
          have RR := Aside0.mk hr.symm
          have W3 := Aside0.mk (show wrap64 ((i : Int) + 1) = ((i + 1 : Nat) : Int) from (show wrap64 ((i : Int) + 1) = ((i + 1 : Nat) : Int) by have := HC.out.2.1; unfold wrap64; omega))
          subst hA
          by_cases hz : r2 = 0
          · subst hz
            rw [if_neg (by simp)] at h4
            have HM2 := Aside0.mk (And.intro hrng.1 (And.intro (hrng.2.2 rfl) h4))
            have HI := Aside0.mk (And.intro hi hlt)
            clear h4 hrng hr hdr hx hc2 hC2 hlt hi
            go_wp2_with (first | (go_at_call 44; rw [W2.out]; refine (IH.out (t := x) (blk_below NR.out (below_alloc (Below.refl _ _) _)) (below_alloc BR.out _) HG.out XC.out.1 XC.out.2 DD.out.1 DD.out.2 MM.out.1 MM.out.2).mono ?_; rintro e w10 ⟨rfl, hN10, hK10, hB10⟩; rw [RR.out] at hN10 ⊢; have N10 := Aside0.mk hN10; have Q10 := Aside0.mk (KeepBut.trans (keep_alloc QR.out _) hK10 (.inl rfl)); have B10 := Aside0.mk hB10; clear hN10 hK10 hB10 NR QR BR))
            go_roundw
            case measure => exact meas HI.out.2 W3.out
            case rel => exact ⟨i + 1, r1, HI.out.2, by rw [W3.out], ⟨HM2.out.1, HM2.out.2.1, HM2.out.2.2⟩, N10, Q10, B10⟩
          · have z1 : (r2 = 0) = False := eq_false hz
            have z2 : (r2 == 0) = false := by simpa using hz
            have z3 : (r2 != 0) = true := by simpa using hz
            rw [if_pos hz] at h4
            have H4 := Aside0.mk h4
            clear h4 hrng hr hdr hx hc2 hC2 hlt hi hz
            go_wp2_with (first | (go_at_call 44; rw [W2.out]; refine (IH.out (t := x) (blk_below NR.out (below_alloc (Below.refl _ _) _)) (below_alloc BR.out _) HG.out XC.out.1 XC.out.2 DD.out.1 DD.out.2 MM.out.1 MM.out.2).mono ?_; rintro e w10 ⟨rfl, hN10, hK10, hB10⟩; rw [RR.out] at hN10 ⊢; have N10 := Aside0.mk hN10; have Q10 := Aside0.mk (KeepBut.trans (keep_alloc QR.out _) hK10 (.inl rfl)); have B10 := Aside0.mk hB10; clear hN10 hK10 hB10 NR QR BR))
            go_ret
            rw [← H4.out]
            exact ⟨rfl, N10.out, Q10.out, B10.out⟩
        · obtain rfl : i = t.f2.length := by omega
          have e1 : ((t.f2.length : Int) < (t.f2.length : Int)) = False := eq_false (by omega)
          have h4 := HM.out.2.2
          rw [List.drop_length, chkAll] at h4
          have H4 := Aside0.mk h4
          clear h4 hi hlt
          go_wp2
          go_ret
          rw [← H4.out]
          exact ⟨rfl, NR.out, QR.out, BR.out⟩
  · have q1 : (kidsOf t.f0 != (t.f2.length : Int)) = true := by simpa using hk
    have EQ : Aside0 (chk (d + 1) t n = (n + 1, 1)) := ⟨by rw [chk, if_neg h3, if_pos (Or.inl hk)]⟩
    clear h3 hN hB hg hc hC hd hd0 hn0 hn hk
    go_enter Tryd.func44, Tryd.ntmps44
    go_wp2_with (first | ((with_reducible refine gate_dst (N := 3) rfl ?_); refine box_event ?hg (N := 3) ?hd (cs := #[.int .i64 t.f0, .int .i64 t.f1, .slice A t.f2.length c]) (t := 29) ?hr ?_; (case hd => rfl); (case hg => rfl); (case hr => first | (go_simp; done) | (go_simp; rfl)); intro g3 hg3 w3 hbox hb3; have G3 := Aside0.mk hg3; have K3 := Aside0.mk hbox; have N3 := Aside0.mk (blk_below HN.out hb3); have B3 := Aside0.mk (HB.out.trans (hb3.mono HB.out.size)); have Q3 : Aside0 (KeepBut w w3 gn none) := ⟨KeepBut.of_below hb3 gn none⟩; clear hg3 hbox hb3 c0 f0; have c0 : w3.cell? ⟨gn, 0, none⟩ = some (.int .i64 n) := (blk_cell N3.out 0).trans rfl; have f0 := blk_frozen N3.out 0) | (rw [W1.out]))
    generalize hw4 : (World.setCell w3 ⟨gn, 0, none⟩ _) = w4
    have N4 : Aside0 (NC w4 gn (n + 1)) := ⟨by rw [← hw4]; exact blk_put N3.out 0 _ rfl⟩
    have NE : Aside0 (g3 ≠ gn) := ⟨by have h1 := blk_lt HN.out; have h2 := G3.out; omega⟩
    have K4 : Aside0 (w4.heap[g3]? = some (.cells #[.int .i64 t.f0, .int .i64 t.f1, .slice A t.f2.length c] 29 (0, 0))) := ⟨by rw [← hw4]; exact blk_far K3.out NE.out _⟩
    have Q4 : Aside0 (KeepBut w w4 gn none) := ⟨by rw [← hw4]; exact KeepBut.set_ Q3.out 0 _⟩
    have B4 : Aside0 (Below w0.heap.size w0 w4) := ⟨by rw [← hw4]; exact below_set B3.out HG.out⟩
    clear hw4 N3 K3 Q3 B3 c0 f0
    have N5 := Aside0.mk (blk_drew N4.out)
    have K5 := Aside0.mk (blk_drew K4.out)
    have Q5 := Aside0.mk (keep_drew Q4.out)
    have B5 := Aside0.mk (below_drew1 B4.out)
    clear N4 K4 Q4 B4
    refine start_ (n := 15) (S := fun w' => w'.cell? ⟨g3, 0, none⟩ = some (.int .i64 t.f0) ∧ w'.cell? ⟨g3, 1, none⟩ = some (.int .i64 t.f1) ∧ w'.cell? ⟨g3, 2, none⟩ = some (.slice A t.f2.length c)) (ds := []) #[false, false, false, false, false, false, false, false, false, false, false, false, false, false, false] (by kernel_rfl) rfl rfl ⟨(blk_cell K5.out 0).trans rfl, (blk_cell K5.out 1).trans rfl, (blk_cell K5.out 2).trans rfl⟩ (fun hHeld => ?_)
    generalize w4.drew = w5 at N5 K5 Q5 B5 hHeld ⊢
    refine pure_ (i := 0) (N := some 23) (v := ?_) (a' := ?_) #[true, false, false, false, false, false, false, false, false, false, false, false, false, false, false] rfl rfl (by kernel_rfl) (fun _ _ _ h => h) (Or.inl ⟨by rfl, ?_⟩) ?_ ?_
    rotate_left
    · intro w'
      go_simp
      with_reducible rfl
    rotate_left
    · simp only [Act.put, List.setIfInBounds_toArray, List.set_cons_zero, List.set_cons_succ, i64_w, i32_w, u8_w, u32_w, q1]
      rfl
    refine take_ (i := 1) (N := some 24) (v := ?_) (a' := ?_) #[true, true, false, false, false, false, false, false, false, false, false, false, false, false, false] rfl rfl (by kernel_rfl) (fun _ _ _ h => h) (Or.inl ⟨by rfl, ?_⟩) hHeld ?_ ?_
    rotate_left
    · rintro w' ⟨s0, s1, s2⟩
      go_simp
      with_reducible rfl
    rotate_left
    · simp only [Act.put, List.setIfInBounds_toArray, List.set_cons_zero, List.set_cons_succ, i64_w, i32_w, u8_w, u32_w, q1]
      rfl
    refine pure_ (i := 3) (N := some 26) (v := ?_) (a' := ?_) #[true, true, false, true, false, false, false, false, false, false, false, false, false, false, false] rfl rfl (by kernel_rfl) (fun _ _ _ h => h) (Or.inl ⟨by rfl, ?_⟩) ?_ ?_
    rotate_left
    · intro w'
      go_simp
      with_reducible rfl
    rotate_left
    · simp only [Act.put, List.setIfInBounds_toArray, List.set_cons_zero, List.set_cons_succ, i64_w, i32_w, u8_w, u32_w, q1]
      rfl
    refine take_ (i := 4) (N := some 27) (v := ?_) (a' := ?_) #[true, true, false, true, true, false, false, false, false, false, false, false, false, false, false] rfl rfl (by kernel_rfl) (fun _ _ _ h => h) (Or.inl ⟨by rfl, ?_⟩) hHeld ?_ ?_
    rotate_left
    · rintro w' ⟨s0, s1, s2⟩
      go_simp
      with_reducible rfl
    rotate_left
    · simp only [Act.put, List.setIfInBounds_toArray, List.set_cons_zero, List.set_cons_succ, i64_w, i32_w, u8_w, u32_w, q1]
      rfl
    refine pure_ (i := 5) (N := some 28) (v := ?_) (a' := ?_) #[true, true, false, true, true, true, false, false, false, false, false, false, false, false, false] rfl rfl (by kernel_rfl) (fun _ _ _ h => h) (Or.inl ⟨by rfl, ?_⟩) ?_ ?_
    rotate_left
    · intro w'
      go_simp
      with_reducible rfl
    rotate_left
    · simp only [Act.put, List.setIfInBounds_toArray, List.set_cons_zero, List.set_cons_succ, i64_w, i32_w, u8_w, u32_w, q1]
      rfl
    refine one_ (i := 2) (N := some 25) #[true, true, true, true, true, true, false, false, false, false, false, false, false, false, false] rfl rfl (by kernel_rfl) (by decide) (fun K hK => ?_)
    refine goes_ Tryd.func71 (by kernel_rfl) rfl #[.int .i64 t.f0] (by rfl) rfl rfl (by (try simp only [List.map_toArray, List.map_cons, List.map_nil]); rfl) ?_
    with_reducible refine (kids_any t.f0 _).mono ?_
    rintro e w6 ⟨rfl, hb⟩
    refine ⟨_, rfl, ?_⟩
    have N6 := Aside0.mk (blk_below N5.out hb)
    have K6 := Aside0.mk (blk_below K5.out hb)
    have Q6 := Aside0.mk (keep_below' Q5.out hb)
    have B6 := Aside0.mk (B5.out.trans (hb.mono B5.out.size))
    clear N5 K5 Q5 B5 hb
    refine hK.out _ _ ⟨(blk_cell K6.out 0).trans rfl, (blk_cell K6.out 1).trans rfl, (blk_cell K6.out 2).trans rfl⟩ (fun hHeld => ?_)
    clear hK K
    refine norm_ (a' := ?_) ?_ ?_
    rotate_left
    · show Act.put _ (some 25) _ = _
      simp only [Act.put, List.setIfInBounds_toArray, List.set_cons_zero, List.set_cons_succ, i64_w, i32_w, u8_w, u32_w]
      rfl
    refine pure_ (i := 6) (N := some 29) (v := ?_) (a' := ?_) #[true, true, true, true, true, true, true, false, false, false, false, false, false, false, false] rfl rfl (by kernel_rfl) (fun _ _ _ h => h) (Or.inl ⟨by rfl, ?_⟩) ?_ ?_
    rotate_left
    · intro w'
      go_simp
      with_reducible rfl
    rotate_left
    · simp only [Act.put, List.setIfInBounds_toArray, List.set_cons_zero, List.set_cons_succ, i64_w, i32_w, u8_w, u32_w, q1]
      rfl
    refine pure_ (i := 7) (N := some 30) (v := ?_) (a' := ?_) #[true, true, true, true, true, true, true, true, false, false, false, false, false, false, false] rfl rfl (by kernel_rfl) (fun _ _ _ h => h) (Or.inl ⟨by rfl, ?_⟩) ?_ ?_
    rotate_left
    · intro w'
      go_simp
      with_reducible rfl
    rotate_left
    · simp only [Act.put, List.setIfInBounds_toArray, List.set_cons_zero, List.set_cons_succ, i64_w, i32_w, u8_w, u32_w, q1]
      rfl
    refine pure_ (i := 8) (N := some 31) (v := undef) (a' := ?_) #[true, true, true, true, true, true, true, true, true, false, false, false, false, false, false] rfl rfl (by kernel_rfl) (fun _ _ _ h => h) (Or.inr ⟨by rfl, rfl⟩) ?_ ?_
    rotate_left
    · simp only [Act.put, List.setIfInBounds_toArray, List.set_cons_zero, List.set_cons_succ, i64_w, i32_w, u8_w, u32_w, q1]
      rfl
    refine pure_ (i := 9) (N := some 32) (v := undef) (a' := ?_) #[true, true, true, true, true, true, true, true, true, true, false, false, false, false, false] rfl rfl (by kernel_rfl) (fun _ _ _ h => h) (Or.inr ⟨by rfl, rfl⟩) ?_ ?_
    rotate_left
    · simp only [Act.put, List.setIfInBounds_toArray, List.set_cons_zero, List.set_cons_succ, i64_w, i32_w, u8_w, u32_w, q1]
      rfl
    refine pure_ (i := 10) (N := some 33) (v := undef) (a' := ?_) #[true, true, true, true, true, true, true, true, true, true, true, false, false, false, false] rfl rfl (by kernel_rfl) (fun _ _ _ h => h) (Or.inr ⟨by rfl, rfl⟩) ?_ ?_
    rotate_left
    · simp only [Act.put, List.setIfInBounds_toArray, List.set_cons_zero, List.set_cons_succ, i64_w, i32_w, u8_w, u32_w, q1]
      rfl
    refine pure_ (i := 11) (N := some 34) (v := undef) (a' := ?_) #[true, true, true, true, true, true, true, true, true, true, true, true, false, false, false] rfl rfl (by kernel_rfl) (fun _ _ _ h => h) (Or.inr ⟨by rfl, rfl⟩) ?_ ?_
    rotate_left
    · simp only [Act.put, List.setIfInBounds_toArray, List.set_cons_zero, List.set_cons_succ, i64_w, i32_w, u8_w, u32_w, q1]
      rfl
    refine pure_ (i := 12) (N := some 35) (v := undef) (a' := ?_) #[true, true, true, true, true, true, true, true, true, true, true, true, true, false, false] rfl rfl (by kernel_rfl) (fun _ _ _ h => h) (Or.inr ⟨by rfl, rfl⟩) ?_ ?_
    rotate_left
    · simp only [Act.put, List.setIfInBounds_toArray, List.set_cons_zero, List.set_cons_succ, i64_w, i32_w, u8_w, u32_w, q1]
      rfl
    refine pure_ (i := 13) (N := some 36) (v := undef) (a' := ?_) #[true, true, true, true, true, true, true, true, true, true, true, true, true, true, false] rfl rfl (by kernel_rfl) (fun _ _ _ h => h) (Or.inr ⟨by rfl, rfl⟩) ?_ ?_
    rotate_left
    · simp only [Act.put, List.setIfInBounds_toArray, List.set_cons_zero, List.set_cons_succ, i64_w, i32_w, u8_w, u32_w, q1]
      rfl
    refine pure_ (i := 14) (N := some 37) (v := ?_) (a' := ?_) #[true, true, true, true, true, true, true, true, true, true, true, true, true, true, true] rfl rfl (by kernel_rfl) (fun _ _ _ h => h) (Or.inl ⟨by rfl, ?_⟩) ?_ ?_
    rotate_left
    · intro w'
      go_simp
      with_reducible rfl
    rotate_left
    · simp only [Act.put, List.setIfInBounds_toArray, List.set_cons_zero, List.set_cons_succ, i64_w, i32_w, u8_w, u32_w, q1]
      rfl
    refine done_ (by kernel_rfl) ?_
    go_wp2
    go_ret
    rw [EQ.out]
    exact ⟨rfl, N6.out, Q6.out, B6.out⟩
theorem chk_all : ∀ d, Chk d
  | 0 => chk_zero
  | d + 1 => chk_succ d (chk_all d)
set_option maxHeartbeats 8000000 in
set_option maxRecDepth 100000 in
theorem check25 {w : World} {t : S29} {A : Option Addr} {c d : Nat} (hd : Aside0 (d = 120)) (hc : t.f2.length ≤ c) (hC : Kd.C k29 w A t.f2.length t.f2) :
    Calls Tryd.prog 28 #[.agg #[.int .i64 t.f0, .int .i64 t.f1, .slice A t.f2.length c]] w fun en w' => en = .returned (.int .i64 (chk d t 0).2) ∧ Below w.heap.size w w' := by
  have HC := Aside0.mk hC
  have HCc := Aside0.mk hc
  have DD : Aside0 ((1 : Int) + (d : Int) = 121) := ⟨by have := hd.out; omega⟩
  clear hc hC
  go_enter Tryd.func28, Tryd.ntmps28
  go_wp2_with (first | (go_at_call 44; refine (chk_all d (t := t) (w0 := w) (gn := w.heap.size + 1) (n := 0) (deep := 1) ?aN ?aB ?aG HCc.out HC.out DD.out (by decide) (by decide) (by decide)).mono ?_; (case aN => exact N_new _ _ _); (case aB => exact below_alloc (below_alloc (Below.refl _ _) _) _); (case aG => exact Nat.le_succ _); rintro e w2 ⟨rfl, -, hK, hB⟩; have B2 := Aside0.mk hB; clear hK hB))
  go_ret
  exact ⟨rfl, B2.out⟩
end Go.Proofs.YtnecmclnokikoaaDoor.Run
