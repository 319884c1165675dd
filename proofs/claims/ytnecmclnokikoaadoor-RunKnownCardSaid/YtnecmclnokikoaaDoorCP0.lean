/- Several texts in one. -/
import Derived.Test.YtnecmclnokikoaaDoorCPx0
import Derived.Test.YtnecmclnokikoaaDoorCHandStr
import Derived.Test.YtnecmclnokikoaaDoorCPx1
import Derived.Test.YtnecmclnokikoaaDoorCHandRun
import Derived.Test.YtnecmclnokikoaaDoorCPx3
-- Printed by mkprint.py (a program of this session, over the kit's print). Lean checks it.
namespace Go.Proofs.YtnecmclnokikoaaDoor.P
open Go.RowKit Go.Proofs.YtnecmclnokikoaaDoorW.PrintWords Go.Proofs.YtnecmclnokikoaaDoorW.PrintLast Go.Proofs.YtnecmclnokikoaaDoorW.PrintMore
attribute [local go_sem] max2_int min2_int max_two min_two max_three min_three max_four min_four   -- for this text's walks alone
set_option linter.unusedVariables false
set_option linter.unusedSimpArgs false

/-! ### thyrsuslaw4_within: function 35 -/
/-! ### thyrsuslaw4_pick: function 36 -/
-- NOT PRINTED: function 18 (thyrsuslaw4_Plain)

/-! ### thyrsusref3_Digits: function 19 -/
/-! ### thyrsusref12_Text: function 14 -/
/-! ### thyrsusref4_V: function 20 -/
def thyrsusref4_V.f (a0 : Int) : Option (Int × Int × (List (S29))) := some (1, a0, ([] : List (S29)))
set_option maxHeartbeats 8000000 in
set_option maxRecDepth 100000 in
theorem thyrsusref4_V.calls (a0 : Int) (r1 : Int) (r2 : Int) (r3 : List (S29)) (w : World) (h : thyrsusref4_V.f a0 = some (r1, r2, r3)) :
    Calls Tryd.prog 20 #[.int .i64 a0] w fun e w' => ∃ v2_ : Value, e = .returned (.agg #[.int .i64 r1, .int .i64 r2, v2_]) ∧ Kd.R k29 29 w' w.heap.size (fun _ => True) v2_ r3 ∧ Below w.heap.size w w' := by
  have hu29 := Tryd.underlying29
  have HB := Aside0.mk (Below.refl w.heap.size w)
  have H : (some (1, a0, ([] : List (S29)))) = some (r1, r2, r3) := h
  clear h
  simp only [Option.some.injEq, Prod.mk.injEq] at H
  obtain ⟨rfl, rfl, rfl⟩ := H
  go_enter Tryd.func20, Tryd.ntmps20
  go_wp2_with (first | ((with_reducible refine gate_dst (N := 2) rfl ?_); refine box_event ?hg (N := 2) ?hd (cs := #[.int .i64 0, .int .i64 0, .slice none 0 0]) (t := 29) ?hr ?_; (case hd => rfl); (case hg => rfl); (case hr => first | (go_simp; done) | (go_simp; rfl)); intro gb194 hg w2 hbox hb; have n0_ := Aside0.mk (below_step (by repeat (first | (with_reducible first | exact HB.out | apply below_alloc | apply pw_below_drewN | apply below_drew1) | exact HB.out)) hb); have n1_ := Aside0.mk (hbox); have n2_ := Aside0.mk ((by rw [hg]; exact (below_size (by repeat (first | (with_reducible first | exact HB.out | apply below_alloc | apply pw_below_drewN | apply below_drew1) | exact HB.out))) : w.heap.size ≤ gb194)); have n3_ := Aside0.mk ((by rw [hg]; exact (below_size (by repeat (first | (with_reducible first | exact HB.out | apply below_alloc | apply pw_below_drewN | apply below_drew1) | exact HB.out))) : w.heap.size ≤ gb194)); clear HB; have HB := n0_; have BK194 := n1_; have GW194 := n2_; have GE194 := n3_; clear n0_ n1_ n2_ n3_; clear hb hbox hg; have hcz3_0 : w2.cell? ⟨gb194, 0, none⟩ = some (.int .i64 0) := (blk_cell BK194.out 0).trans rfl; have hcz3_1 : w2.cell? ⟨gb194, 1, none⟩ = some (.int .i64 0) := (blk_cell BK194.out 1).trans rfl; have hcz3_2 : w2.cell? ⟨gb194, 2, none⟩ = some (.slice none 0 0) := (blk_cell BK194.out 2).trans rfl; have hfz3_0 := blk_frozen BK194.out 0; have hfz3_1 := blk_frozen BK194.out 1; have hfz3_2 := blk_frozen BK194.out 2))
  refine bodyPost_ret (results_cell_row rfl _ _ gb194 29 #[.int .i64 1, .int .i64 a0, .slice none 0 0] (0, 0) _ rfl (by (with_reducible repeat (first | refine blk_drewN ?_ _ | refine blk_drew ?_ | refine blk_alloc ?_ _)); refine blk_put (cs := #[.int .i64 1, .int .i64 a0, .slice none 0 0]) ?_ 2 _ rfl; (with_reducible repeat (first | refine blk_drewN ?_ _ | refine blk_drew ?_ | refine blk_alloc ?_ _)); refine blk_put (cs := #[.int .i64 1, .int .i64 0, .slice none 0 0]) ?_ 1 _ rfl; (with_reducible repeat (first | refine blk_drewN ?_ _ | refine blk_drew ?_ | refine blk_alloc ?_ _)); refine blk_put (cs := #[.int .i64 0, .int .i64 0, .slice none 0 0]) ?_ 0 _ rfl; (with_reducible repeat (first | refine blk_drewN ?_ _ | refine blk_drew ?_ | refine blk_alloc ?_ _)); exact BK194.out) Tryd.underlying29 rfl (by kernel_rfl)) rfl ?_
  exact ⟨_, by first | rfl | (simp [errW_none, errW_some] <;> rfl) | (simp [*, errW_none, errW_some] <;> rfl), by first | exact Kd.R_nil _ _ _ _ _ | exact Kd.N_nil _ _ _ _ _ | exact Kd.V_nil _ _ _ _ _ | exact Kd.Q_nil _ _ _ _ _ | exact Kd.S_nil _ _ _ _ _, by repeat (first | (with_reducible first | exact HB.out | apply below_alloc | apply pw_below_drewN | apply below_drew1 | refine below_set ?_ GE194.out) | exact HB.out)⟩

end Go.Proofs.YtnecmclnokikoaaDoor.P
/- Rows of terms that are read (TV); ref.V, ref.T over them; rows of terms built. -/
namespace Go.Proofs.YtnecmclnokikoaaDoor.P
open Go.RowKit Go.Proofs.YtnecmclnokikoaaDoorW.PrintWords Go.Proofs.YtnecmclnokikoaaDoorW.PrintLast Go.Proofs.YtnecmclnokikoaaDoorW.PrintMore
attribute [local go_sem] max2_int min2_int max_two min_two max_three min_three max_four min_four
set_option linter.unusedVariables false
set_option linter.unusedSimpArgs false
def TV (w : World) (G : Nat → Prop) (v : Value) (ks : List S29) : Prop := Kd.V k29 29 w 0 (fun k_ => ¬ G k_) v ks
section
variable {w w' W : World} {G G' ok : Nat → Prop} {v : Value} {ks : List S29} {g j n : Nat}
theorem TV.below (h : TV w G v ks) (hb : Below w.heap.size w w') (hG : ∀ k, G' k → G k ∨ w.heap.size ≤ k) : TV w' G' v ks :=
  Kd.V_mono (Kd.V_below (Kd.V_bound h) hb) (fun k hk h' => (hG k h').elim hk.1 (fun hle => by have := hk.2; omega))
theorem TV.old (h : TV W (fun _ => False) v ks) (hb : Below W.heap.size W w') (hG : ∀ k, G k → W.heap.size ≤ k) : TV w' G v ks := h.below hb (fun k hk => .inr (hG k hk))
theorem TV.step (h : TV w G v ks) (hb : Below w.heap.size w w') : TV w' G v ks := h.below hb (fun _ hk => .inl hk)
theorem TV.set (h : TV w G v ks) (hg : G g) (u : Value) : TV (w.setCell ⟨g, j, none⟩ u) G v ks := Kd.V_far h (fun k hk e => hk (by rw [e]; exact hg)) u
theorem TV.set3 (h : TV w G v ks) (hg : G g) (x y z : Value) : TV (((w.setCell ⟨g, 0, none⟩ x).setCell ⟨g, 1, none⟩ y).setCell ⟨g, 2, none⟩ z) G v ks := ((h.set hg x).set hg y).set hg z
theorem TV.free (h : TV w G v ks) : TV w (fun _ => False) v ks := Kd.V_mono h (fun _ _ h => h)
theorem TV.ofN (h : Kd.N k29 29 w' n ok v ks) (hok : ∀ k, ok k → ¬ G k) : TV w' G v ks := Kd.V_mono (Kd.N_V h) hok
theorem TV.ofR (h : Kd.R k29 29 w' n ok v ks) (hG : ∀ k, G k → k < n) : TV w' G v ks := Kd.V_mono (Kd.R_V (Kd.R_bound h)) (fun k hk hg => by have := hG k hg; have := hk.2.1; omega)
theorem TV.ofV (h : Kd.V k29 29 w' n ok v ks) (hok : ∀ k, ok k → ¬ G k) : TV w' G v ks := Kd.V_mono (Kd.V_map h (fun _ h => h)) hok
theorem TV.reads (h : TV w G v ks) : ∃ A c, v = .slice A ks.length c ∧ ks.length ≤ c ∧ Kd.C k29 w A ks.length ks := by
  obtain ⟨A, c, rfl⟩ := Kd.V_slice h
  exact ⟨A, c, rfl, (Kd.V_reads' h).2⟩
theorem blk_set3 {cs : Array Value} {t : TypeId} (h : w.heap[g]? = some (.cells cs t (0, 0))) (hs : cs.size = 3) (x y z : Value) : (((w.setCell ⟨g, 0, none⟩ x).setCell ⟨g, 1, none⟩ y).setCell ⟨g, 2, none⟩ z).heap[g]? = some (.cells #[x, y, z] t (0, 0)) := by
  refine blk_put (blk_put (blk_put h 0 x rfl) 1 y rfl) 2 z ?_
  obtain ⟨l⟩ := cs
  match l, hs with
  | [_, _, _], _ => rfl
theorem blk_far3 {cs : Array Value} {t : TypeId} {g' : Nat} (h : w.heap[g]? = some (.cells cs t (0, 0))) (hne : g ≠ g') (x y z : Value) : (((w.setCell ⟨g', 0, none⟩ x).setCell ⟨g', 1, none⟩ y).setCell ⟨g', 2, none⟩ z).heap[g]? = some (.cells cs t (0, 0)) :=
  blk_far (p := ⟨g', 2, none⟩) (blk_far (p := ⟨g', 1, none⟩) (blk_far (p := ⟨g', 0, none⟩) h hne x) hne y) hne z
theorem below_set3 (h : Below W.heap.size W w) (hg : W.heap.size ≤ g) (x y z : Value) : Below W.heap.size W (((w.setCell ⟨g, 0, none⟩ x).setCell ⟨g, 1, none⟩ y).setCell ⟨g, 2, none⟩ z) := below_set (below_set (below_set h hg) hg) hg
end
theorem T_go (o : Int) (v : Value) (ks : List S29) (w : World) (hv : TV w (fun _ => False) v ks) : Calls Tryd.prog 21 #[.int .i64 o, v] w fun e w' => ∃ v2 : Value, e = .returned (.agg #[.int .i64 o, .int .i64 0, v2]) ∧ TV w' (fun _ => False) v2 ks ∧ Below w.heap.size w w' := by
  obtain ⟨A, c, rfl⟩ := Kd.V_slice hv
  exact (thyrsusref4_T.calls o (fun _ => ¬ False) A c ks o 0 ks w (Kd.V_map hv (fun _ h => h)) rfl).mono fun e w' ⟨v, he, hV, hb⟩ => ⟨v, he, TV.ofV hV (fun _ _ h => h), hb⟩
/-- Rows of terms that are read, many at once. -/
def ALL (w : World) (l : List (Value × List S29)) : Prop := ∀ p ∈ l, TV w (fun _ => False) p.1 p.2
theorem all_step {w w' : World} {l : List (Value × List S29)} {v : Value} {ks : List S29} (h : ALL w l) (hb : Below w.heap.size w w') (hv : TV w' (fun _ => False) v ks) : ALL w' ((v, ks) :: l) := by
  intro p hp
  rcases List.mem_cons.mp hp with rfl | hp
  · exact hv
  · exact (h p hp).step hb
theorem all_on {w w' : World} {l : List (Value × List S29)} (h : ALL w l) (hb : Below w.heap.size w w') : ALL w' l := fun p hp => (h p hp).step hb
theorem TV.fk {w : World} {v : Value} {x : S29} (h : TV w (fun _ => False) v x.f2) : Kd.FK k29 w (fun _ => ¬ False) x [.int .i64 x.f0, .int .i64 x.f1, v] := by
  obtain ⟨A, c, rfl⟩ := Kd.V_slice h
  exact k29_mkF w (fun _ => ¬ False) x (Kd.V_at h).2.1 (Kd.V_F h)
section
variable {P : Program} {ops : Array Oper} {Q : Exit → Act → World → Prop} {o : Oper} {rest : List Oper} {a : Act}
theorem lit_go {W : World} (hgd : o.guard = none) {N' : Tmp} (hd : o.dst = some N') {xs : List S29} {inner : List Value}
    (hrun : (execOp a.eval o).run P W = .ok (.value (.slice (some ⟨W.heap.size, 0, none⟩) xs.length xs.length)) (W.alloc (.cells inner.toArray 29)))
    (hrep : Reps (fun x c => ∃ v, c = [.int .i64 x.f0, .int .i64 x.f1, v] ∧ TV W (fun _ => False) v x.f2) 3 xs inner) (hm : xs.length ≤ 9223372036854775807)
    (h : ∀ v1 w1, TV w1 (fun _ => False) v1 xs → Below W.heap.size W w1 → wpList P ops Q rest (a.put o.dst v1) w1) : wpList P ops Q (o :: rest) a W := by
  refine Kd.N_lit k29 (w0 := W) W.heap.size 29 hgd hd (xs := xs) (inner := inner) (ok := fun _ => ¬ False) (okp := fun _ => ¬ False) hrun ?_ (fun _ hk => hk) (fun h => h) (Below.refl _ _) (Nat.le_refl _) hm (fun v1 w1 hN hb _ _ => h v1 w1 (TV.ofN hN (fun _ _ h => h)) hb)
  exact hrep.imp_ fun p c ⟨v, hc, hv⟩ => by rw [hc]; exact hv.fk
theorem lit_ev {W : World} (hgd : o.guard = none) {N' : Tmp} (hd : o.dst = some N') {n : Nat} {inner : Array Value} {t : TypeId}
    (hrun : (execOp a.eval o).run P W = .ok (.value (.slice (some ⟨W.heap.size, 0, none⟩) n n)) (W.alloc (.cells inner t)))
    (h : ∀ g w1, w1.heap[g]? = some (.cells inner t (0, 0)) → Below W.heap.size W w1 → wpList P ops Q rest (a.put o.dst (.slice (some ⟨g, 0, none⟩) n n)) w1) : wpList P ops Q (o :: rest) a W :=
  Kd.event_run hgd hrun (h W.heap.size _ (blk_new W _) (below_alloc (Below.refl _ _) _))
end
theorem T_goG (o : Int) (v : Value) (ks : List S29) (w : World) (G : Nat → Prop) (hG : ∀ k, G k → k < w.heap.size) (hv : TV w G v ks) : Calls Tryd.prog 21 #[.int .i64 o, v] w fun e w' => ∃ v2 : Value, e = .returned (.agg #[.int .i64 o, .int .i64 0, v2]) ∧ TV w' G v2 ks ∧ Below w.heap.size w w' := by
  obtain ⟨A, c, rfl⟩ := Kd.V_slice hv
  exact (thyrsusref4_T.calls o (fun k => ¬ G k) A c ks o 0 ks w (Kd.V_map hv (fun _ h => h)) rfl).mono fun e w' ⟨v, he, hV, hb⟩ => ⟨v, he, TV.ofV hV (fun k hk hg => hk.elim (fun h => h hg) (fun h => by have := hG k hg; omega)), hb⟩
theorem TV.fkG {w : World} {G : Nat → Prop} {v : Value} {x : S29} (h : TV w G v x.f2) : Kd.FK k29 w (fun k => ¬ G k) x [.int .i64 x.f0, .int .i64 x.f1, v] := by
  obtain ⟨A, c, rfl⟩ := Kd.V_slice h
  exact k29_mkF w (fun k => ¬ G k) x (Kd.V_at h).2.1 (Kd.V_F h)
end Go.Proofs.YtnecmclnokikoaaDoor.P
/- run.Text of any value: strconv.Itoa's table stands (TabP), and stands in every later world. Printed by mkprint.py, turned by gentextR.py. -/
namespace Go.Proofs.YtnecmclnokikoaaDoor.P
open Go.RowKit Go.Proofs.YtnecmclnokikoaaDoorW.PrintWords Go.Proofs.YtnecmclnokikoaaDoorW.PrintLast Go.Proofs.YtnecmclnokikoaaDoorW.PrintMore
attribute [local go_sem] max2_int min2_int max_two min_two max_three min_three max_four min_four
set_option linter.unusedVariables false
set_option linter.unusedSimpArgs false
/-! ### run_Text: function 13 -/
mutual
def run_Text.j0 : Nat → Bool → Int → Int → List (S36) → Option (ByteArray)
  | 0, _, _, _, _ => none
  | k + 1, x10, x102000, x102001, x102002 => if x10 = true then (if 0 < (x102002.length : Int) then ((run_Text.f k ((rd_T36 x102002 0).f0) ((rd_T36 x102002 0).f1) ((rd_T36 x102002 0).f2)).bind fun t104 => (if 1 + t104.size ≤ 9223372036854775807 then (if ((⟨#[40]⟩ : ByteArray) ++ t104).size + 2 ≤ 9223372036854775807 then (if 1 < (x102002.length : Int) then ((run_Text.f k ((rd_T36 x102002 1).f0) ((rd_T36 x102002 1).f1) ((rd_T36 x102002 1).f2)).bind fun t106 => (if (((⟨#[40]⟩ : ByteArray) ++ t104) ++ (⟨#[44, 32]⟩ : ByteArray)).size + t106.size ≤ 9223372036854775807 then (if ((((⟨#[40]⟩ : ByteArray) ++ t104) ++ (⟨#[44, 32]⟩ : ByteArray)) ++ t106).size + 1 ≤ 9223372036854775807 then (some (((((⟨#[40]⟩ : ByteArray) ++ t104) ++ (⟨#[44, 32]⟩ : ByteArray)) ++ t106) ++ (⟨#[41]⟩ : ByteArray))) else (none)) else (none))) else (none)) else (none)) else (none))) else (none)) else (some (⟨#[102, 110]⟩ : ByteArray))
def run_Text.f : Nat → Int → Int → List (S36) → Option (ByteArray)
  | 0, _, _, _ => none
  | k + 1, a0_0, a0_1, l0_2 => if a0_0 = 1 then ((strconv_Itoa.f a0_1).bind fun t102 => (some t102)) else (if a0_0 = 2 then (run_Text.j0 k ((l0_2.length : Int) == 2) a0_0 a0_1 l0_2) else (run_Text.j0 k false a0_0 a0_1 l0_2))
end
def run_Text.T4 : Bool × List (List Nat × List Nat) := (true, [([], []), ([0], [0]), ([1], [1]), ([2], [2]), ([3], [3]), ([4], [4]), ([5], [5]), ([], []), ([7], [7]), ([8], [8]), ([9], [9]), ([10, 4], [10]), ([6, 11], [6, 11]), ([12], [12]), ([13, 11, 0, 1, 2, 3, 4, 5, 6, 7, 8, 9, 10, 11, 12, 13], [13])])
def run_Text.B4 : List Nat := [0, 1, 3, 7, 15, 31, 63, 0, 128, 384, 896, 1951, 4095, 8191, 16383]
theorem run_Text.tab4 : rtab .any (opsOf Tryd.f13 4) = run_Text.T4 := by kernel_rfl
theorem run_Text.bits4 : waitsOk run_Text.T4.2 run_Text.B4 = true := by kernel_rfl
set_option maxHeartbeats 8000000 in
set_option maxRecDepth 100000 in
theorem run_Text.calls (k : Nat) : ∀ (a0_0 : Int) (a0_1 : Int) (A0_2 : Option Addr) (c0_2 : Nat) (l0_2 : List (S36)) (r : ByteArray) (w : World) (hT : TabP w) (hr0_2 : Kd.C k36 w A0_2 l0_2.length l0_2) (hc0_2 : l0_2.length ≤ c0_2) (h : run_Text.f k a0_0 a0_1 l0_2 = some r),
    Calls Tryd.prog 13 #[.agg #[.int .i64 a0_0, .int .i64 a0_1, .slice A0_2 l0_2.length c0_2]] w fun e w' => e = .returned (.string r) ∧ Below w.heap.size w w' := by
  induction k using Nat.strongRecOn with
  | _ k ih =>
  intro a0_0 a0_1 A0_2 c0_2 l0_2 r w hT hr0_2 hc0_2 h
  cases k with
  | zero => exact absurd h (by simp [run_Text.f])
  | succ k =>
  simp only [run_Text.f] at h
  have HTB := Aside0.mk hT
  clear hT
  have hu36 := Tryd.underlying36
  have HR0_2 := Aside0.mk hr0_2
  have HC0_2 := Aside0.mk hc0_2
  clear hr0_2 hc0_2
  have HB := Aside0.mk (Below.refl w.heap.size w)
  have H : (if a0_0 = 1 then ((strconv_Itoa.f a0_1).bind fun t102 => (some t102)) else (if a0_0 = 2 then (run_Text.j0 k ((l0_2.length : Int) == 2) a0_0 a0_1 l0_2) else (run_Text.j0 k false a0_0 a0_1 l0_2))) = some r := h
  clear h
  by_cases c2 : a0_0 = 1
  · rw [if_pos c2] at H
    have c2b0 : (a0_0 == 1) = true := beq_iff_eq.mpr c2
    have c2b1 : (a0_0 != 1) = false := bne_eq_false_iff_eq.mpr c2
    clear c2
    replace H := Option.bind_eq_some_iff.mp H
    obtain ⟨t102, A30, H⟩ := H
    replace H : (some t102) = some r := H
    have A3 := Aside0.mk A30
    clear A30
    obtain rfl := Option.some.inj H
    go_enter Tryd.func13, Tryd.ntmps13
    go_wp2_with (first | ((with_reducible refine gate_dst (N := 1) rfl ?_); (try (refine gate_guard (by rfl) ?_; dsimp only)); refine box_event ?hg (N := 1) ?hd (cs := #[.int .i64 a0_0, .int .i64 a0_1, .slice A0_2 l0_2.length c0_2]) (t := 36) ?hr ?_; (case hd => rfl); (case hg => rfl); (case hr => first | (go_simp; done) | (go_simp; rfl)); intro gb101 hg w4 hbox hb; have n0_ := Aside0.mk (below_step (by repeat (first | (with_reducible first | exact HB.out | apply below_alloc | apply pw_below_drewN | apply below_drew1) | exact HB.out)) hb); have n1_ := Aside0.mk (hbox); have n2_ := Aside0.mk ((by rw [hg]; exact (below_size (by repeat (first | (with_reducible first | exact HB.out | apply below_alloc | apply pw_below_drewN | apply below_drew1) | exact HB.out))) : w.heap.size ≤ gb101)); have n3_ := Aside0.mk ((by rw [hg]; exact (below_size (by repeat (first | (with_reducible first | exact HB.out | apply below_alloc | apply pw_below_drewN | apply below_drew1) | exact HB.out))) : w.heap.size ≤ gb101)); clear HB; have HB := n0_; have BK101 := n1_; have GW101 := n2_; have GE101 := n3_; clear n0_ n1_ n2_ n3_; clear hb hbox hg; have hcz5_0 : w4.cell? ⟨gb101, 0, none⟩ = some (.int .i64 a0_0) := (blk_cell BK101.out 0).trans rfl; have hcz5_1 : w4.cell? ⟨gb101, 1, none⟩ = some (.int .i64 a0_1) := (blk_cell BK101.out 1).trans rfl; have hcz5_2 : w4.cell? ⟨gb101, 2, none⟩ = some (.slice A0_2 l0_2.length c0_2) := (blk_cell BK101.out 2).trans rfl; have hfz5_0 := blk_frozen BK101.out 0; have hfz5_1 := blk_frozen BK101.out 1; have hfz5_2 := blk_frozen BK101.out 2) | ((with_reducible refine gate_callee (f := 33) rfl ?_); refine goesL_ (some 9) rfl rfl Tryd.func33 (by kernel_rfl) rfl #[.int .i64 a0_1] rfl (by (try simp only [List.map_toArray, List.map_cons, List.map_nil]); first | done | rfl | (simp only [List.length_drop, List.length_take]; rfl)) ?_; (with_reducible refine (strconv_Itoa.calls a0_1 t102 _ ?sideT A3.out).mono ?_); (case sideT => exact TabP.below HTB.out (by repeat (first | (with_reducible first | exact HB.out | apply below_alloc | apply pw_below_drewN | apply below_drew1 | refine below_set ?_ GE101.out) | exact HB.out))); rintro e w6 ⟨rfl, hb⟩; refine ⟨_, rfl, ?_⟩; have n0_ := Aside0.mk (blk_below (g := gb101) (o := .cells #[.int .i64 a0_0, .int .i64 a0_1, .slice A0_2 l0_2.length c0_2] 36 (0, 0)) (by (with_reducible repeat (first | refine blk_drewN ?_ _ | refine blk_drew ?_ | refine blk_alloc ?_ _)); exact BK101.out) hb); have n1_ := Aside0.mk (below_step (by repeat (first | (with_reducible first | exact HB.out | apply below_alloc | apply pw_below_drewN | apply below_drew1 | refine below_set ?_ GE101.out) | exact HB.out)) hb); clear BK101; clear HB; have BK101 := n0_; have HB := n1_; clear n0_ n1_; (try clear hb); (try clear hb2); (try clear hk); (try clear hi)))
    go_ret
    exact ⟨by first | rfl | (simp [errW_none, errW_some] <;> rfl) | (simp [*, errW_none, errW_some] <;> rfl), by repeat (first | (with_reducible first | exact HB.out | apply below_alloc | apply pw_below_drewN | apply below_drew1 | refine below_set ?_ GE101.out) | exact HB.out)⟩
  · rw [if_neg c2] at H
    have c2b0 : (a0_0 == 1) = false := beq_eq_false_iff_ne.mpr c2
    have c2b1 : (a0_0 != 1) = true := bne_iff_ne.mpr c2
    have HC7 := Aside0.mk H
    clear H
    go_enter Tryd.func13, Tryd.ntmps13
    go_upto_region 3 with (first | ((with_reducible refine gate_dst (N := 1) rfl ?_); (try (refine gate_guard (by rfl) ?_; dsimp only)); refine box_event ?hg (N := 1) ?hd (cs := #[.int .i64 a0_0, .int .i64 a0_1, .slice A0_2 l0_2.length c0_2]) (t := 36) ?hr ?_; (case hd => rfl); (case hg => rfl); (case hr => first | (go_simp; done) | (go_simp; rfl)); intro gb101 hg w8 hbox hb; have n0_ := Aside0.mk (below_step (by repeat (first | (with_reducible first | exact HB.out | apply below_alloc | apply pw_below_drewN | apply below_drew1) | exact HB.out)) hb); have n1_ := Aside0.mk (hbox); have n2_ := Aside0.mk ((by rw [hg]; exact (below_size (by repeat (first | (with_reducible first | exact HB.out | apply below_alloc | apply pw_below_drewN | apply below_drew1) | exact HB.out))) : w.heap.size ≤ gb101)); have n3_ := Aside0.mk ((by rw [hg]; exact (below_size (by repeat (first | (with_reducible first | exact HB.out | apply below_alloc | apply pw_below_drewN | apply below_drew1) | exact HB.out))) : w.heap.size ≤ gb101)); clear HB; have HB := n0_; have BK101 := n1_; have GW101 := n2_; have GE101 := n3_; clear n0_ n1_ n2_ n3_; clear hb hbox hg; have hcz9_0 : w8.cell? ⟨gb101, 0, none⟩ = some (.int .i64 a0_0) := (blk_cell BK101.out 0).trans rfl; have hcz9_1 : w8.cell? ⟨gb101, 1, none⟩ = some (.int .i64 a0_1) := (blk_cell BK101.out 1).trans rfl; have hcz9_2 : w8.cell? ⟨gb101, 2, none⟩ = some (.slice A0_2 l0_2.length c0_2) := (blk_cell BK101.out 2).trans rfl; have hfz9_0 := blk_frozen BK101.out 0; have hfz9_1 := blk_frozen BK101.out 1; have hfz9_2 := blk_frozen BK101.out 2))
    (try simp only [Act.put, List.setIfInBounds_toArray, List.set_cons_zero, List.set_cons_succ])
    go_cut [10] (fun v10 wc => ∃ (kq : Nat) (x10_6 : Bool), v10 = .bool x10_6 ∧ Aside0 (run_Text.j0 kq x10_6 a0_0 a0_1 l0_2 = some r) ∧ Aside0 (kq ≤ k) ∧ Aside0 (wc.heap[gb101]? = some (.cells #[.int .i64 a0_0, .int .i64 a0_1, (.slice A0_2 l0_2.length c0_2)] 36 (0, 0))) ∧ Aside0 (Below w.heap.size w wc))
    case first =>
      have H := HC7.out
      clear HC7
      by_cases c10 : a0_0 = 2
      · rw [if_pos c10] at H
        have c10b0 : (a0_0 == 2) = true := beq_iff_eq.mpr c10
        have c10b1 : (a0_0 != 2) = false := bne_eq_false_iff_eq.mpr c10
        clear c10
        (first | rw [c10b0] | (simp only [i64_w, i32_w, u8_w, u32_w]; rw [c10b0]) | skip)
        have H' := Aside0.mk H
        clear H
        have hcz11_0 : w8.cell? ⟨gb101, 0, none⟩ = some (.int .i64 a0_0) := (blk_cell BK101.out 0).trans rfl
        have hcz11_1 : w8.cell? ⟨gb101, 1, none⟩ = some (.int .i64 a0_1) := (blk_cell BK101.out 1).trans rfl
        have hcz11_2 : w8.cell? ⟨gb101, 2, none⟩ = some (.slice A0_2 l0_2.length c0_2) := (blk_cell BK101.out 2).trans rfl
        have hfz11_0 := blk_frozen BK101.out 0
        have hfz11_1 := blk_frozen BK101.out 1
        have hfz11_2 := blk_frozen BK101.out 2
        go_wp2
        go_meet
        case rel => exact ⟨_, (((l0_2.length : Int) == 2)), (by first | rfl | (simp; done) | (simp [*]; done)), H', ⟨by first | omega | exact Nat.le_refl _⟩, ⟨by (with_reducible repeat (first | refine blk_drewN ?_ _ | refine blk_drew ?_ | refine blk_alloc ?_ _)); exact BK101.out⟩, ⟨by repeat (first | (with_reducible first | exact HB.out | apply below_alloc | apply pw_below_drewN | apply below_drew1 | refine below_set ?_ GE101.out) | exact HB.out)⟩⟩
      · rw [if_neg c10] at H
        have c10b0 : (a0_0 == 2) = false := beq_eq_false_iff_ne.mpr c10
        have c10b1 : (a0_0 != 2) = true := bne_iff_ne.mpr c10
        (first | rw [c10b0] | (simp only [i64_w, i32_w, u8_w, u32_w]; rw [c10b0]) | skip)
        have H' := Aside0.mk H
        clear H
        have hcz12_0 : w8.cell? ⟨gb101, 0, none⟩ = some (.int .i64 a0_0) := (blk_cell BK101.out 0).trans rfl
        have hcz12_1 : w8.cell? ⟨gb101, 1, none⟩ = some (.int .i64 a0_1) := (blk_cell BK101.out 1).trans rfl
        have hcz12_2 : w8.cell? ⟨gb101, 2, none⟩ = some (.slice A0_2 l0_2.length c0_2) := (blk_cell BK101.out 2).trans rfl
        have hfz12_0 := blk_frozen BK101.out 0
        have hfz12_1 := blk_frozen BK101.out 1
        have hfz12_2 := blk_frozen BK101.out 2
        go_wp2
        go_meet
        case rel => exact ⟨_, (false), (by first | rfl | (simp; done) | (simp [*]; done)), H', ⟨by first | omega | exact Nat.le_refl _⟩, ⟨by (with_reducible repeat (first | refine blk_drewN ?_ _ | refine blk_drew ?_ | refine blk_alloc ?_ _)); exact BK101.out⟩, ⟨by repeat (first | (with_reducible first | exact HB.out | apply below_alloc | apply pw_below_drewN | apply below_drew1 | refine below_set ?_ GE101.out) | exact HB.out)⟩⟩
    case rest =>
      clear HC7
      try clear c1
      try clear c2
      try clear c2b0
      try clear c2b1
      try clear p2
      try clear c3
      try clear c10
      try clear c10b0
      try clear c10b1
      try clear hcz11_0
      try clear hcz11_1
      try clear hcz11_2
      try clear hcz12_0
      try clear hcz12_1
      try clear hcz12_2
      try clear hcz5_0
      try clear hcz5_1
      try clear hcz5_2
      try clear hcz9_0
      try clear hcz9_1
      try clear hcz9_2
      try clear hfz11_0
      try clear hfz11_1
      try clear hfz11_2
      try clear hfz12_0
      try clear hfz12_1
      try clear hfz12_2
      try clear hfz5_0
      try clear hfz5_1
      try clear hfz5_2
      try clear hfz9_0
      try clear hfz9_1
      try clear hfz9_2
      obtain ⟨kq, x10_6, rfl, HA, HJ6, BK101, HB⟩ := hcut
      cases kq with
      | zero => exact absurd HA.out (by simp [run_Text.j0])
      | succ kj6 =>
        have H := HA.out
        clear HA
        simp only [run_Text.j0] at H
        by_cases c13 : x10_6 = true
        · subst c13
          have H1 : (if 0 < (l0_2.length : Int) then ((run_Text.f kj6 ((rd_T36 l0_2 0).f0) ((rd_T36 l0_2 0).f1) ((rd_T36 l0_2 0).f2)).bind fun t104 => (if 1 + t104.size ≤ 9223372036854775807 then (if ((⟨#[40]⟩ : ByteArray) ++ t104).size + 2 ≤ 9223372036854775807 then (if 1 < (l0_2.length : Int) then ((run_Text.f kj6 ((rd_T36 l0_2 1).f0) ((rd_T36 l0_2 1).f1) ((rd_T36 l0_2 1).f2)).bind fun t106 => (if (((⟨#[40]⟩ : ByteArray) ++ t104) ++ (⟨#[44, 32]⟩ : ByteArray)).size + t106.size ≤ 9223372036854775807 then (if ((((⟨#[40]⟩ : ByteArray) ++ t104) ++ (⟨#[44, 32]⟩ : ByteArray)) ++ t106).size + 1 ≤ 9223372036854775807 then (some (((((⟨#[40]⟩ : ByteArray) ++ t104) ++ (⟨#[44, 32]⟩ : ByteArray)) ++ t106) ++ (⟨#[41]⟩ : ByteArray))) else (none)) else (none))) else (none)) else (none)) else (none))) else (none)) = some r := by rw [if_pos rfl] at H; exact H
          clear H
          have H := H1
          clear H1
          by_cases c14 : 0 < (l0_2.length : Int)
          · rw [if_pos c14] at H
            have c14b0 : decide (0 < (l0_2.length : Int)) = true := decide_eq_true c14
            have c14b1 : decide (0 < l0_2.length) = true := decide_eq_true (by omega)
            clear c14
            replace H := Option.bind_eq_some_iff.mp H
            obtain ⟨t104, A150, H⟩ := H
            replace H : (if 1 + t104.size ≤ 9223372036854775807 then (if ((⟨#[40]⟩ : ByteArray) ++ t104).size + 2 ≤ 9223372036854775807 then (if 1 < (l0_2.length : Int) then ((run_Text.f kj6 ((rd_T36 l0_2 1).f0) ((rd_T36 l0_2 1).f1) ((rd_T36 l0_2 1).f2)).bind fun t106 => (if (((⟨#[40]⟩ : ByteArray) ++ t104) ++ (⟨#[44, 32]⟩ : ByteArray)).size + t106.size ≤ 9223372036854775807 then (if ((((⟨#[40]⟩ : ByteArray) ++ t104) ++ (⟨#[44, 32]⟩ : ByteArray)) ++ t106).size + 1 ≤ 9223372036854775807 then (some (((((⟨#[40]⟩ : ByteArray) ++ t104) ++ (⟨#[44, 32]⟩ : ByteArray)) ++ t106) ++ (⟨#[41]⟩ : ByteArray))) else (none)) else (none))) else (none)) else (none)) else (none)) = some r := H
            have A15 := Aside0.mk A150
            clear A150
            by_cases c16 : 1 + t104.size ≤ 9223372036854775807
            · rw [if_pos c16] at H
              have c16b0 := eq_true c16
              have c16b1 : decide (1 + t104.size ≤ 9223372036854775807) = true := decide_eq_true c16
              try have c16b2 : (9223372036854775807 < 1 + t104.size) = False := eq_false (Nat.not_lt.2 c16)
              by_cases c17 : ((⟨#[40]⟩ : ByteArray) ++ t104).size + 2 ≤ 9223372036854775807
              · rw [if_pos c17] at H
                have c17b0 := eq_true c17
                have c17b1 : decide (((⟨#[40]⟩ : ByteArray) ++ t104).size + 2 ≤ 9223372036854775807) = true := decide_eq_true c17
                have c17b1x := c17b1
                try simp only [ByteArray.size_append, szA1, szA2] at c17b1x
                have c17b1y := c17b1x
                try simp only [Int.natCast_add, Int.cast_ofNat_Int] at c17b1y
                try have c17b2 : (9223372036854775807 < ((⟨#[40]⟩ : ByteArray) ++ t104).size + 2) = False := eq_false (Nat.not_lt.2 c17)
                have c17n := c17
                try simp only [ByteArray.size_append, szA1, szA2] at c17n
                have c17b3 := eq_false (Nat.not_lt.2 c17n)
                clear c17n
                by_cases c18 : 1 < (l0_2.length : Int)
                · rw [if_pos c18] at H
                  have c18b0 : decide (1 < (l0_2.length : Int)) = true := decide_eq_true c18
                  have c18b1 : decide (1 < l0_2.length) = true := decide_eq_true (by omega)
                  clear c18
                  replace H := Option.bind_eq_some_iff.mp H
                  obtain ⟨t106, A190, H⟩ := H
                  replace H : (if (((⟨#[40]⟩ : ByteArray) ++ t104) ++ (⟨#[44, 32]⟩ : ByteArray)).size + t106.size ≤ 9223372036854775807 then (if ((((⟨#[40]⟩ : ByteArray) ++ t104) ++ (⟨#[44, 32]⟩ : ByteArray)) ++ t106).size + 1 ≤ 9223372036854775807 then (some (((((⟨#[40]⟩ : ByteArray) ++ t104) ++ (⟨#[44, 32]⟩ : ByteArray)) ++ t106) ++ (⟨#[41]⟩ : ByteArray))) else (none)) else (none)) = some r := H
                  have A19 := Aside0.mk A190
                  clear A190
                  by_cases c20 : (((⟨#[40]⟩ : ByteArray) ++ t104) ++ (⟨#[44, 32]⟩ : ByteArray)).size + t106.size ≤ 9223372036854775807
                  · rw [if_pos c20] at H
                    have c20b0 := eq_true c20
                    have c20b1 : decide ((((⟨#[40]⟩ : ByteArray) ++ t104) ++ (⟨#[44, 32]⟩ : ByteArray)).size + t106.size ≤ 9223372036854775807) = true := decide_eq_true c20
                    have c20b1x := c20b1
                    try simp only [ByteArray.size_append, szA1, szA2] at c20b1x
                    have c20b1y := c20b1x
                    try simp only [Int.natCast_add, Int.cast_ofNat_Int] at c20b1y
                    try have c20b2 : (9223372036854775807 < (((⟨#[40]⟩ : ByteArray) ++ t104) ++ (⟨#[44, 32]⟩ : ByteArray)).size + t106.size) = False := eq_false (Nat.not_lt.2 c20)
                    have c20n := c20
                    try simp only [ByteArray.size_append, szA1, szA2] at c20n
                    have c20b3 := eq_false (Nat.not_lt.2 c20n)
                    clear c20n
                    by_cases c21 : ((((⟨#[40]⟩ : ByteArray) ++ t104) ++ (⟨#[44, 32]⟩ : ByteArray)) ++ t106).size + 1 ≤ 9223372036854775807
                    · rw [if_pos c21] at H
                      have c21b0 := eq_true c21
                      have c21b1 : decide (((((⟨#[40]⟩ : ByteArray) ++ t104) ++ (⟨#[44, 32]⟩ : ByteArray)) ++ t106).size + 1 ≤ 9223372036854775807) = true := decide_eq_true c21
                      have c21b1x := c21b1
                      try simp only [ByteArray.size_append, szA1, szA2] at c21b1x
                      have c21b1y := c21b1x
                      try simp only [Int.natCast_add, Int.cast_ofNat_Int] at c21b1y
                      try have c21b2 : (9223372036854775807 < ((((⟨#[40]⟩ : ByteArray) ++ t104) ++ (⟨#[44, 32]⟩ : ByteArray)) ++ t106).size + 1) = False := eq_false (Nat.not_lt.2 c21)
                      have c21n := c21
                      try simp only [ByteArray.size_append, szA1, szA2] at c21n
                      have c21b3 := eq_false (Nat.not_lt.2 c21n)
                      clear c21n
                      obtain rfl := Option.some.inj H
                      try go_wp2
                      have n0_ := Aside0.mk (blk_drew BK101.out)
                      have n1_ := Aside0.mk (below_drew1 HB.out)
                      clear BK101
                      clear HB
                      have BK101 := n0_
                      have HB := n1_
                      clear n0_ n1_
                      have p103 : 0 ≤ (0 : Int) := (by omega)
                      have q103 : 0 < (l0_2.length : Int) := of_decide_eq_true (by first | (with_reducible assumption) | assumption)
                      obtain ⟨ad103, A103_2, c103_2, e103, hx103_0, hx103_1, hx103_2, hl103_2, hi103_2⟩ := at_T36 HR0_2.out 0 p103 q103
                      have hw103_2 := hx103_2
                      (try rw [show ((0 : Int)).toNat = 0 from rfl] at hw103_2)
                      (try rw [show 0 * 3 = 0 from rfl] at hw103_2)
                      (try rw [Addr.add_zero'] at hw103_2)
                      have hw103_1 := hx103_1
                      (try rw [show ((0 : Int)).toNat = 0 from rfl] at hw103_1)
                      (try rw [show 0 * 3 = 0 from rfl] at hw103_1)
                      (try rw [Addr.add_zero'] at hw103_1)
                      have hw103_0 := hx103_0
                      (try rw [show ((0 : Int)).toNat = 0 from rfl] at hw103_0)
                      (try rw [show 0 * 3 = 0 from rfl] at hw103_0)
                      (try rw [Addr.add_zero'] at hw103_0)
                      cases e103
                      have qi103 : (0 < l0_2.length) = True := eq_true (by omega)
                      (try rw [show ((0 : Int)).toNat = 0 from rfl] at hx103_0)
                      (try rw [show 0 * 3 = 0 from rfl] at hx103_0)
                      (try rw [Addr.add_zero'] at hx103_0)
                      (try rw [show ((0 : Int)).toNat = 0 from rfl] at hx103_1)
                      (try rw [show 0 * 3 = 0 from rfl] at hx103_1)
                      (try rw [Addr.add_zero'] at hx103_1)
                      (try rw [show ((0 : Int)).toNat = 0 from rfl] at hx103_2)
                      (try rw [show 0 * 3 = 0 from rfl] at hx103_2)
                      (try rw [Addr.add_zero'] at hx103_2)
                      replace hx103_0 := (HB.out.cell (World.block_lt_of_cell? w _ hx103_0)).trans hx103_0
                      replace hx103_1 := (HB.out.cell (World.block_lt_of_cell? w _ hx103_1)).trans hx103_1
                      replace hx103_2 := (HB.out.cell (World.block_lt_of_cell? w _ hx103_2)).trans hx103_2
                      have HR103_2 := Aside0.mk hi103_2
                      have HC103_2 := Aside0.mk hl103_2
                      clear hi103_2 hl103_2
                      replace p103 := eq_true p103
                      replace q103 := eq_true q103
                      have p105 : 0 ≤ (1 : Int) := (by omega)
                      have q105 : 1 < (l0_2.length : Int) := of_decide_eq_true (by first | (with_reducible assumption) | assumption)
                      obtain ⟨ad105, A105_2, c105_2, e105, hx105_0, hx105_1, hx105_2, hl105_2, hi105_2⟩ := at_T36 HR0_2.out 1 p105 q105
                      have hw105_2 := hx105_2
                      (try rw [show ((1 : Int)).toNat = 1 from rfl] at hw105_2)
                      (try rw [show 1 * 3 = 3 from rfl] at hw105_2)
                      (try simp only [Nat.reduceMul, Nat.reduceEqDiff, Go.Addr.add, ↓reduceIte] at hw105_2)
                      have hw105_1 := hx105_1
                      (try rw [show ((1 : Int)).toNat = 1 from rfl] at hw105_1)
                      (try rw [show 1 * 3 = 3 from rfl] at hw105_1)
                      (try simp only [Nat.reduceMul, Nat.reduceEqDiff, Go.Addr.add, ↓reduceIte] at hw105_1)
                      have hw105_0 := hx105_0
                      (try rw [show ((1 : Int)).toNat = 1 from rfl] at hw105_0)
                      (try rw [show 1 * 3 = 3 from rfl] at hw105_0)
                      (try simp only [Nat.reduceMul, Nat.reduceEqDiff, Go.Addr.add, ↓reduceIte] at hw105_0)
                      obtain rfl : ad103 = ad105 := (by injection e105)
                      (try simp only [show (1 : Int).toNat = 1 from rfl, Nat.reduceMul, Nat.reduceEqDiff, Go.Addr.add, ↓reduceIte] at hx105_0)
                      (try simp only [show (1 : Int).toNat = 1 from rfl, Nat.reduceMul, Nat.reduceEqDiff, Go.Addr.add, ↓reduceIte] at hx105_1)
                      (try simp only [show (1 : Int).toNat = 1 from rfl, Nat.reduceMul, Nat.reduceEqDiff, Go.Addr.add, ↓reduceIte] at hx105_2)
                      have qi105 : (1 < l0_2.length) = True := eq_true (by omega)
                      (try rw [show ((1 : Int)).toNat = 1 from rfl] at hx105_0)
                      (try rw [show 1 * 3 = 3 from rfl] at hx105_0)
                      (try rw [show ((1 : Int)).toNat = 1 from rfl] at hx105_1)
                      (try rw [show 1 * 3 = 3 from rfl] at hx105_1)
                      (try rw [show ((1 : Int)).toNat = 1 from rfl] at hx105_2)
                      (try rw [show 1 * 3 = 3 from rfl] at hx105_2)
                      replace hx105_0 := (HB.out.cell (World.block_lt_of_cell? w _ hx105_0)).trans hx105_0
                      replace hx105_1 := (HB.out.cell (World.block_lt_of_cell? w _ hx105_1)).trans hx105_1
                      replace hx105_2 := (HB.out.cell (World.block_lt_of_cell? w _ hx105_2)).trans hx105_2
                      have HR105_2 := Aside0.mk hi105_2
                      have HC105_2 := Aside0.mk hl105_2
                      clear hi105_2 hl105_2
                      replace p105 := eq_true p105
                      replace q105 := eq_true q105
                      refine start_ (n := 15) (S := fun w' => w'.cell? ⟨gb101, 0, none⟩ = some (.int .i64 a0_0) ∧ w'.cell? ⟨gb101, 1, none⟩ = some (.int .i64 a0_1) ∧ w'.cell? ⟨gb101, 2, none⟩ = some (.slice (some ad103) l0_2.length c0_2) ∧ w'.cell? ad103 = some (.int .i64 ((rd_T36 l0_2 0).f0)) ∧ w'.cell? ⟨ad103.block, ad103.off + 1, none⟩ = some (.int .i64 ((rd_T36 l0_2 0).f1)) ∧ w'.cell? ⟨ad103.block, ad103.off + 2, none⟩ = some (.slice A103_2 ((rd_T36 l0_2 0).f2).length c103_2) ∧ w'.cell? ⟨ad103.block, ad103.off + 3, none⟩ = some (.int .i64 ((rd_T36 l0_2 1).f0)) ∧ w'.cell? ⟨ad103.block, ad103.off + 3 + 1, none⟩ = some (.int .i64 ((rd_T36 l0_2 1).f1)) ∧ w'.cell? ⟨ad103.block, ad103.off + 3 + 2, none⟩ = some (.slice A105_2 ((rd_T36 l0_2 1).f2).length c105_2)) (ds := []) #[false, false, false, false, false, false, false, false, false, false, false, false, false, false, false] (by kernel_rfl) rfl rfl ⟨(blk_cell BK101.out 0).trans rfl, (blk_cell BK101.out 1).trans rfl, (blk_cell BK101.out 2).trans rfl, ((HB.out.cell (World.block_lt_of_cell? w _ hw103_0)).trans hw103_0), ((HB.out.cell (World.block_lt_of_cell? w _ hw103_1)).trans hw103_1), ((HB.out.cell (World.block_lt_of_cell? w _ hw103_2)).trans hw103_2), ((HB.out.cell (World.block_lt_of_cell? w _ hw105_0)).trans hw105_0), ((HB.out.cell (World.block_lt_of_cell? w _ hw105_1)).trans hw105_1), ((HB.out.cell (World.block_lt_of_cell? w _ hw105_2)).trans hw105_2)⟩ (fun hHeld => ?_); refine with_tabW run_Text.tab4 run_Text.bits4 (fun HT_ HW_ => ?_)
                      generalize wc.drew = w22 at BK101 HB HR103_2 HR105_2 hx103_0 hx103_1 hx103_2 hx105_0 hx105_1 hx105_2 hHeld ⊢
                      refine pure_ (i := 0) (N := some 20) (v := ?_) (a' := ?_) #[true, false, false, false, false, false, false, false, false, false, false, false, false, false, false] rfl rfl (any_of HT_.out (by kernel_rfl)) (fun _ _ _ h => h) (Or.inl ⟨by rfl, ?_⟩) ?_ ?_
                      rotate_left
                      · intro w'
                        go_simp
                        with_reducible rfl
                      rotate_left
                      · simp only [Act.put, List.setIfInBounds_toArray, List.set_cons_zero, List.set_cons_succ, i64_w, i32_w, u8_w, u32_w]
                        rfl
                      refine pure_ (i := 7) (N := some 27) (v := ?_) (a' := ?_) #[true, false, false, false, false, false, false, true, false, false, false, false, false, false, false] rfl rfl (any_of HT_.out (by kernel_rfl)) (fun _ _ _ h => h) (Or.inl ⟨by rfl, ?_⟩) ?_ ?_
                      rotate_left
                      · intro w'
                        go_simp
                        with_reducible rfl
                      rotate_left
                      · simp only [Act.put, List.setIfInBounds_toArray, List.set_cons_zero, List.set_cons_succ, i64_w, i32_w, u8_w, u32_w]
                        rfl
                      refine take_ (i := 1) (N := some 21) (v := ?_) (a' := ?_) #[true, true, false, false, false, false, false, true, false, false, false, false, false, false, false] rfl rfl (take_ofW HT_.out HW_.out (by kernel_rfl)) (fun _ _ _ h => h) (Or.inl ⟨by rfl, ?_⟩) hHeld ?_ ?_
                      rotate_left
                      · rintro w' ⟨s0, s1, s2, s3, s4, s5, s6, s7, s8⟩
                        go_simp
                        with_reducible rfl
                      rotate_left
                      · simp only [Act.put, List.setIfInBounds_toArray, List.set_cons_zero, List.set_cons_succ, i64_w, i32_w, u8_w, u32_w]
                        rfl
                      refine pure_ (i := 2) (N := some 22) (v := ?_) (a' := ?_) #[true, true, true, false, false, false, false, true, false, false, false, false, false, false, false] rfl rfl (any_of HT_.out (by kernel_rfl)) (fun _ _ _ h => h) (Or.inl ⟨by rfl, ?_⟩) ?_ ?_
                      rotate_left
                      · intro w'
                        go_simp
                        with_reducible rfl
                      rotate_left
                      · simp only [Act.put, List.setIfInBounds_toArray, List.set_cons_zero, List.set_cons_succ, i64_w, i32_w, u8_w, u32_w]
                        rfl
                      refine take_ (i := 3) (N := some 23) (v := ?_) (a' := ?_) #[true, true, true, true, false, false, false, true, false, false, false, false, false, false, false] rfl rfl (take_ofW HT_.out HW_.out (by kernel_rfl)) (fun _ _ _ h => h) (Or.inl ⟨by rfl, ?_⟩) hHeld ?_ ?_
                      rotate_left
                      · rintro w' ⟨s0, s1, s2, s3, s4, s5, s6, s7, s8⟩
                        go_simp
                        with_reducible rfl
                      rotate_left
                      · simp only [Act.put, List.setIfInBounds_toArray, List.set_cons_zero, List.set_cons_succ, i64_w, i32_w, u8_w, u32_w]
                        rfl
                      refine take_ (i := 8) (N := some 28) (v := ?_) (a' := ?_) #[true, true, true, true, false, false, false, true, true, false, false, false, false, false, false] rfl rfl (take_ofW HT_.out HW_.out (by kernel_rfl)) (fun _ _ _ h => h) (Or.inl ⟨by rfl, ?_⟩) hHeld ?_ ?_
                      rotate_left
                      · rintro w' ⟨s0, s1, s2, s3, s4, s5, s6, s7, s8⟩
                        go_simp
                        with_reducible rfl
                      rotate_left
                      · simp only [Act.put, List.setIfInBounds_toArray, List.set_cons_zero, List.set_cons_succ, i64_w, i32_w, u8_w, u32_w]
                        rfl
                      refine pure_ (i := 9) (N := some 29) (v := ?_) (a' := ?_) #[true, true, true, true, false, false, false, true, true, true, false, false, false, false, false] rfl rfl (any_of HT_.out (by kernel_rfl)) (fun _ _ _ h => h) (Or.inl ⟨by rfl, ?_⟩) ?_ ?_
                      rotate_left
                      · intro w'
                        go_simp
                        with_reducible rfl
                      rotate_left
                      · simp only [Act.put, List.setIfInBounds_toArray, List.set_cons_zero, List.set_cons_succ, i64_w, i32_w, u8_w, u32_w]
                        rfl
                      refine take_ (i := 10) (N := some 30) (v := ?_) (a' := ?_) #[true, true, true, true, false, false, false, true, true, true, true, false, false, false, false] rfl rfl (take_ofW HT_.out HW_.out (by kernel_rfl)) (fun _ _ _ h => h) (Or.inl ⟨by rfl, ?_⟩) hHeld ?_ ?_
                      rotate_left
                      · rintro w' ⟨s0, s1, s2, s3, s4, s5, s6, s7, s8⟩
                        go_simp
                        with_reducible rfl
                      rotate_left
                      · simp only [Act.put, List.setIfInBounds_toArray, List.set_cons_zero, List.set_cons_succ, i64_w, i32_w, u8_w, u32_w]
                        rfl
                      refine one_ (i := 4) (N := some 24) #[true, true, true, true, true, false, false, true, true, true, true, false, false, false, false] rfl rfl (one_of HT_.out (by kernel_rfl)) (by decide) (fun K hK => ?_)
                      refine goes_ Tryd.func13 (by kernel_rfl) rfl #[.agg #[.int .i64 ((rd_T36 l0_2 0).f0), .int .i64 ((rd_T36 l0_2 0).f1), .slice A103_2 ((rd_T36 l0_2 0).f2).length c103_2]] (by rfl) rfl rfl (by (try simp only [List.map_toArray, List.map_cons, List.map_nil]); first | done | rfl | (simp only [List.length_drop, List.length_take]; rfl)) ?_
                      with_reducible refine (ih kj6 (by have := HJ6.out; omega) ((rd_T36 l0_2 0).f0) ((rd_T36 l0_2 0).f1) _ _ ((rd_T36 l0_2 0).f2) t104 _ ?sideT ?side1 ?side2 A15.out).mono ?_
                      (case sideT => exact TabP.below HTB.out (by repeat (first | (with_reducible first | exact HB.out | apply below_alloc | apply pw_below_drewN | apply below_drew1 | refine below_set ?_ GE101.out) | exact HB.out)))
                      (case side1 => repeat (first | exact (Kd.C_below HR103_2.out HB.out) | (with_reducible refine Kd.C_alloc ?_ _) | (with_reducible refine Kd.C_drewN ?_ _) | (with_reducible refine Kd.C_drew ?_)))
                      (case side2 => exact HC103_2.out)
                      rintro e w23 ⟨rfl, hb⟩
                      refine ⟨_, rfl, ?_⟩
                      have n0_ := Aside0.mk (blk_below (g := gb101) (o := .cells #[.int .i64 a0_0, .int .i64 a0_1, .slice (some ad103) l0_2.length c0_2] 36 (0, 0)) (by (with_reducible repeat (first | refine blk_drewN ?_ _ | refine blk_drew ?_ | refine blk_alloc ?_ _)); exact BK101.out) hb)
                      have n1_ := Aside0.mk (below_step (by repeat (first | (with_reducible first | exact HB.out | apply below_alloc | apply pw_below_drewN | apply below_drew1 | refine below_set ?_ GE101.out) | exact HB.out)) hb)
                      clear BK101
                      clear HB
                      have BK101 := n0_
                      have HB := n1_
                      clear n0_ n1_
                      (try clear hb)
                      (try clear hb2)
                      (try clear hk)
                      (try clear hi)
                      refine hK.out _ _ ⟨(blk_cell BK101.out 0).trans rfl, (blk_cell BK101.out 1).trans rfl, (blk_cell BK101.out 2).trans rfl, ((HB.out.cell (World.block_lt_of_cell? w _ hw103_0)).trans hw103_0), ((HB.out.cell (World.block_lt_of_cell? w _ hw103_1)).trans hw103_1), ((HB.out.cell (World.block_lt_of_cell? w _ hw103_2)).trans hw103_2), ((HB.out.cell (World.block_lt_of_cell? w _ hw105_0)).trans hw105_0), ((HB.out.cell (World.block_lt_of_cell? w _ hw105_1)).trans hw105_1), ((HB.out.cell (World.block_lt_of_cell? w _ hw105_2)).trans hw105_2)⟩ (fun hHeld => ?_)
                      clear hK K
                      refine norm_ (a' := ?_) ?_ ?_
                      rotate_left
                      · show Act.put _ (some 24) _ = _
                        simp only [Act.put, List.setIfInBounds_toArray, List.set_cons_zero, List.set_cons_succ, i64_w, i32_w, u8_w, u32_w]
                        rfl
                      refine pure_ (i := 5) (N := some 25) (v := ?_) (a' := ?_) #[true, true, true, true, true, true, false, true, true, true, true, false, false, false, false] rfl rfl (any_of HT_.out (by kernel_rfl)) (fun _ _ _ h => h) (Or.inl ⟨by rfl, ?_⟩) ?_ ?_
                      rotate_left
                      · intro w'
                        go_simp
                        with_reducible rfl
                      rotate_left
                      · simp only [Act.put, List.setIfInBounds_toArray, List.set_cons_zero, List.set_cons_succ, i64_w, i32_w, u8_w, u32_w]
                        rfl
                      refine pure_ (i := 6) (N := some 26) (v := ?_) (a' := ?_) #[true, true, true, true, true, true, true, true, true, true, true, false, false, false, false] rfl rfl (any_of HT_.out (by kernel_rfl)) (fun _ _ _ h => h) (Or.inl ⟨by rfl, ?_⟩) ?_ ?_
                      rotate_left
                      · intro w'
                        go_simp
                        with_reducible rfl
                      rotate_left
                      · simp only [Act.put, List.setIfInBounds_toArray, List.set_cons_zero, List.set_cons_succ, i64_w, i32_w, u8_w, u32_w]
                        rfl
                      refine one_ (i := 11) (N := some 31) #[true, true, true, true, true, true, true, true, true, true, true, true, false, false, false] rfl rfl (one_of HT_.out (by kernel_rfl)) (by decide) (fun K hK => ?_)
                      refine goes_ Tryd.func13 (by kernel_rfl) rfl #[.agg #[.int .i64 ((rd_T36 l0_2 1).f0), .int .i64 ((rd_T36 l0_2 1).f1), .slice A105_2 ((rd_T36 l0_2 1).f2).length c105_2]] (by rfl) rfl rfl (by (try simp only [List.map_toArray, List.map_cons, List.map_nil]); first | done | rfl | (simp only [List.length_drop, List.length_take]; rfl)) ?_
                      with_reducible refine (ih kj6 (by have := HJ6.out; omega) ((rd_T36 l0_2 1).f0) ((rd_T36 l0_2 1).f1) _ _ ((rd_T36 l0_2 1).f2) t106 _ ?sideT ?side1 ?side2 A19.out).mono ?_
                      (case sideT => exact TabP.below HTB.out (by repeat (first | (with_reducible first | exact HB.out | apply below_alloc | apply pw_below_drewN | apply below_drew1 | refine below_set ?_ GE101.out) | exact HB.out)))
                      (case side1 => repeat (first | exact (Kd.C_below HR105_2.out HB.out) | (with_reducible refine Kd.C_alloc ?_ _) | (with_reducible refine Kd.C_drewN ?_ _) | (with_reducible refine Kd.C_drew ?_)))
                      (case side2 => exact HC105_2.out)
                      rintro e w24 ⟨rfl, hb⟩
                      refine ⟨_, rfl, ?_⟩
                      have n0_ := Aside0.mk (blk_below (g := gb101) (o := .cells #[.int .i64 a0_0, .int .i64 a0_1, .slice (some ad103) l0_2.length c0_2] 36 (0, 0)) (by (with_reducible repeat (first | refine blk_drewN ?_ _ | refine blk_drew ?_ | refine blk_alloc ?_ _)); exact BK101.out) hb)
                      have n1_ := Aside0.mk (below_step (by repeat (first | (with_reducible first | exact HB.out | apply below_alloc | apply pw_below_drewN | apply below_drew1 | refine below_set ?_ GE101.out) | exact HB.out)) hb)
                      clear BK101
                      clear HB
                      have BK101 := n0_
                      have HB := n1_
                      clear n0_ n1_
                      (try clear hb)
                      (try clear hb2)
                      (try clear hk)
                      (try clear hi)
                      refine hK.out _ _ ⟨(blk_cell BK101.out 0).trans rfl, (blk_cell BK101.out 1).trans rfl, (blk_cell BK101.out 2).trans rfl, ((HB.out.cell (World.block_lt_of_cell? w _ hw103_0)).trans hw103_0), ((HB.out.cell (World.block_lt_of_cell? w _ hw103_1)).trans hw103_1), ((HB.out.cell (World.block_lt_of_cell? w _ hw103_2)).trans hw103_2), ((HB.out.cell (World.block_lt_of_cell? w _ hw105_0)).trans hw105_0), ((HB.out.cell (World.block_lt_of_cell? w _ hw105_1)).trans hw105_1), ((HB.out.cell (World.block_lt_of_cell? w _ hw105_2)).trans hw105_2)⟩ (fun hHeld => ?_)
                      clear hK K
                      refine norm_ (a' := ?_) ?_ ?_
                      rotate_left
                      · show Act.put _ (some 31) _ = _
                        simp only [Act.put, List.setIfInBounds_toArray, List.set_cons_zero, List.set_cons_succ, i64_w, i32_w, u8_w, u32_w]
                        rfl
                      refine pure_ (i := 12) (N := some 32) (v := ?_) (a' := ?_) #[true, true, true, true, true, true, true, true, true, true, true, true, true, false, false] rfl rfl (any_of HT_.out (by kernel_rfl)) (fun _ _ _ h => h) (Or.inl ⟨by rfl, ?_⟩) ?_ ?_
                      rotate_left
                      · intro w'
                        go_simp
                        with_reducible rfl
                      rotate_left
                      · simp only [Act.put, List.setIfInBounds_toArray, List.set_cons_zero, List.set_cons_succ, i64_w, i32_w, u8_w, u32_w]
                        rfl
                      refine pure_ (i := 13) (N := some 33) (v := ?_) (a' := ?_) #[true, true, true, true, true, true, true, true, true, true, true, true, true, true, false] rfl rfl (any_of HT_.out (by kernel_rfl)) (fun _ _ _ h => h) (Or.inl ⟨by rfl, ?_⟩) ?_ ?_
                      rotate_left
                      · intro w'
                        go_simp
                        with_reducible rfl
                      rotate_left
                      · simp only [Act.put, List.setIfInBounds_toArray, List.set_cons_zero, List.set_cons_succ, i64_w, i32_w, u8_w, u32_w]
                        rfl
                      refine pure_ (i := 14) (N := some 2) (v := ?_) (a' := ?_) #[true, true, true, true, true, true, true, true, true, true, true, true, true, true, true] rfl rfl (any_of HT_.out (by kernel_rfl)) (fun _ _ _ h => h) (Or.inl ⟨by rfl, ?_⟩) ?_ ?_
                      rotate_left
                      · intro w'
                        go_simp
                        with_reducible rfl
                      rotate_left
                      · simp only [Act.put, List.setIfInBounds_toArray, List.set_cons_zero, List.set_cons_succ, i64_w, i32_w, u8_w, u32_w]
                        rfl
                      refine done_ (done_of HT_.out (by kernel_rfl)) ?_
                      try go_wp2
                      go_ret
                      exact ⟨by first | rfl | (simp [errW_none, errW_some] <;> rfl) | (simp [*, errW_none, errW_some] <;> rfl), by repeat (first | (with_reducible first | exact HB.out | apply below_alloc | apply pw_below_drewN | apply below_drew1 | refine below_set ?_ GE101.out) | exact HB.out)⟩
                    · rw [if_neg c21] at H
                      exact absurd H (by simp)
                  · rw [if_neg c20] at H
                    exact absurd H (by simp)
                · rw [if_neg c18] at H
                  exact absurd H (by simp)
              · rw [if_neg c17] at H
                exact absurd H (by simp)
            · rw [if_neg c16] at H
              exact absurd H (by simp)
          · rw [if_neg c14] at H
            exact absurd H (by simp)
        · replace c13 := Bool.eq_false_iff.mpr c13
          subst c13
          have H1 : (some (⟨#[102, 110]⟩ : ByteArray)) = some r := by rw [if_neg (show ¬ (false = true) by decide)] at H; exact H
          clear H
          have H := H1
          clear H1
          obtain rfl := Option.some.inj H
          go_wp2
          go_ret
          exact ⟨by first | rfl | (simp [errW_none, errW_some] <;> rfl) | (simp [*, errW_none, errW_some] <;> rfl), by repeat (first | (with_reducible first | exact HB.out | apply below_alloc | apply pw_below_drewN | apply below_drew1 | refine below_set ?_ GE101.out) | exact HB.out)⟩
end Go.Proofs.YtnecmclnokikoaaDoor.P
/- The words of errors. Printed by mkprint.py. -/
namespace Go.Proofs.YtnecmclnokikoaaDoor.P
open Go.RowKit Go.Proofs.YtnecmclnokikoaaDoorW.PrintWords Go.Proofs.YtnecmclnokikoaaDoorW.PrintLast Go.Proofs.YtnecmclnokikoaaDoorW.PrintMore
attribute [local go_sem] max2_int min2_int max_two min_two max_three min_three max_four min_four
set_option linter.unusedVariables false
set_option linter.unusedSimpArgs false
/-! ### api_early: function 56 -/
def api_early.f (a0 : Int) : Option (ByteArray) := if a0 = 0 then (some (⟨#[111, 107]⟩ : ByteArray)) else (if a0 = 1 then (some (⟨#[97, 114, 103]⟩ : ByteArray)) else (if a0 = 2 then (some (⟨#[99, 117, 116]⟩ : ByteArray)) else (if a0 = 3 then (some (⟨#[109, 111, 114, 101]⟩ : ByteArray)) else (if a0 = 4 then (some (⟨#[108, 111, 110, 103]⟩ : ByteArray)) else (if a0 = 5 then (some (⟨#[100, 101, 101, 112]⟩ : ByteArray)) else (some (⟨#[101, 114, 114, 111, 114]⟩ : ByteArray)))))))
set_option maxHeartbeats 8000000 in
set_option maxRecDepth 100000 in
theorem api_early.calls (a0 : Int) (r : ByteArray) (w : World) (h : api_early.f a0 = some r) :
    Calls Tryd.prog 56 #[.int .i64 a0] w fun e w' => e = .returned (.string r) ∧ Drawn0 w w' := by
  have H : (if a0 = 0 then (some (⟨#[111, 107]⟩ : ByteArray)) else (if a0 = 1 then (some (⟨#[97, 114, 103]⟩ : ByteArray)) else (if a0 = 2 then (some (⟨#[99, 117, 116]⟩ : ByteArray)) else (if a0 = 3 then (some (⟨#[109, 111, 114, 101]⟩ : ByteArray)) else (if a0 = 4 then (some (⟨#[108, 111, 110, 103]⟩ : ByteArray)) else (if a0 = 5 then (some (⟨#[100, 101, 101, 112]⟩ : ByteArray)) else (some (⟨#[101, 114, 114, 111, 114]⟩ : ByteArray)))))))) = some r := h
  clear h
  by_cases c2 : a0 = 0
  · rw [if_pos c2] at H
    have c2b0 : (a0 == 0) = true := beq_iff_eq.mpr c2
    have c2b1 : (a0 != 0) = false := bne_eq_false_iff_eq.mpr c2
    clear c2
    obtain rfl := Option.some.inj H
    go_enter Tryd.func56, Tryd.ntmps56
    go_wp2
    go_ret
    exact ⟨by first | rfl | (simp; done) | (simp [*]; done), by repeat (first | exact Drawn0.refl _ | apply Drawn0.step)⟩
  · rw [if_neg c2] at H
    have c2b0 : (a0 == 0) = false := beq_eq_false_iff_ne.mpr c2
    have c2b1 : (a0 != 0) = true := bne_iff_ne.mpr c2
    by_cases c3 : a0 = 1
    · rw [if_pos c3] at H
      have c3b0 : (a0 == 1) = true := beq_iff_eq.mpr c3
      have c3b1 : (a0 != 1) = false := bne_eq_false_iff_eq.mpr c3
      clear c3
      obtain rfl := Option.some.inj H
      go_enter Tryd.func56, Tryd.ntmps56
      go_wp2
      go_ret
      exact ⟨by first | rfl | (simp; done) | (simp [*]; done), by repeat (first | exact Drawn0.refl _ | apply Drawn0.step)⟩
    · rw [if_neg c3] at H
      have c3b0 : (a0 == 1) = false := beq_eq_false_iff_ne.mpr c3
      have c3b1 : (a0 != 1) = true := bne_iff_ne.mpr c3
      by_cases c4 : a0 = 2
      · rw [if_pos c4] at H
        have c4b0 : (a0 == 2) = true := beq_iff_eq.mpr c4
        have c4b1 : (a0 != 2) = false := bne_eq_false_iff_eq.mpr c4
        clear c4
        obtain rfl := Option.some.inj H
        go_enter Tryd.func56, Tryd.ntmps56
        go_wp2
        go_ret
        exact ⟨by first | rfl | (simp; done) | (simp [*]; done), by repeat (first | exact Drawn0.refl _ | apply Drawn0.step)⟩
      · rw [if_neg c4] at H
        have c4b0 : (a0 == 2) = false := beq_eq_false_iff_ne.mpr c4
        have c4b1 : (a0 != 2) = true := bne_iff_ne.mpr c4
        by_cases c5 : a0 = 3
        · rw [if_pos c5] at H
          have c5b0 : (a0 == 3) = true := beq_iff_eq.mpr c5
          have c5b1 : (a0 != 3) = false := bne_eq_false_iff_eq.mpr c5
          clear c5
          obtain rfl := Option.some.inj H
          go_enter Tryd.func56, Tryd.ntmps56
          go_wp2
          go_ret
          exact ⟨by first | rfl | (simp; done) | (simp [*]; done), by repeat (first | exact Drawn0.refl _ | apply Drawn0.step)⟩
        · rw [if_neg c5] at H
          have c5b0 : (a0 == 3) = false := beq_eq_false_iff_ne.mpr c5
          have c5b1 : (a0 != 3) = true := bne_iff_ne.mpr c5
          by_cases c6 : a0 = 4
          · rw [if_pos c6] at H
            have c6b0 : (a0 == 4) = true := beq_iff_eq.mpr c6
            have c6b1 : (a0 != 4) = false := bne_eq_false_iff_eq.mpr c6
            clear c6
            obtain rfl := Option.some.inj H
            go_enter Tryd.func56, Tryd.ntmps56
            go_wp2
            go_ret
            exact ⟨by first | rfl | (simp; done) | (simp [*]; done), by repeat (first | exact Drawn0.refl _ | apply Drawn0.step)⟩
          · rw [if_neg c6] at H
            have c6b0 : (a0 == 4) = false := beq_eq_false_iff_ne.mpr c6
            have c6b1 : (a0 != 4) = true := bne_iff_ne.mpr c6
            by_cases c7 : a0 = 5
            · rw [if_pos c7] at H
              have c7b0 : (a0 == 5) = true := beq_iff_eq.mpr c7
              have c7b1 : (a0 != 5) = false := bne_eq_false_iff_eq.mpr c7
              clear c7
              obtain rfl := Option.some.inj H
              go_enter Tryd.func56, Tryd.ntmps56
              go_wp2
              go_ret
              exact ⟨by first | rfl | (simp; done) | (simp [*]; done), by repeat (first | exact Drawn0.refl _ | apply Drawn0.step)⟩
            · rw [if_neg c7] at H
              have c7b0 : (a0 == 5) = false := beq_eq_false_iff_ne.mpr c7
              have c7b1 : (a0 != 5) = true := bne_iff_ne.mpr c7
              obtain rfl := Option.some.inj H
              go_enter Tryd.func56, Tryd.ntmps56
              go_wp2
              go_ret
              exact ⟨by first | rfl | (simp; done) | (simp [*]; done), by repeat (first | exact Drawn0.refl _ | apply Drawn0.step)⟩

/-! ### api_middle: function 57 -/
def api_middle.f (a0 : Int) : Option (ByteArray) := if a0 = 6 then (some (⟨#[116, 111, 107, 101, 110]⟩ : ByteArray)) else (if a0 = 7 then (some (⟨#[102, 111, 114, 109]⟩ : ByteArray)) else (if a0 = 8 then (some (⟨#[110, 97, 109, 101]⟩ : ByteArray)) else (if a0 = 9 then (some (⟨#[116, 119, 105, 99, 101]⟩ : ByteArray)) else (if a0 = 10 then (some (⟨#[115, 116, 97, 103, 101]⟩ : ByteArray)) else (if a0 = 11 then (some (⟨#[116, 121, 112, 101]⟩ : ByteArray)) else (if a0 = 12 then (some (⟨#[115, 104, 97, 112, 101]⟩ : ByteArray)) else (if a0 = 13 then (some (⟨#[108, 101, 118, 101, 108]⟩ : ByteArray)) else (some (⟨#[101, 114, 114, 111, 114]⟩ : ByteArray)))))))))
set_option maxHeartbeats 8000000 in
set_option maxRecDepth 100000 in
theorem api_middle.calls (a0 : Int) (r : ByteArray) (w : World) (h : api_middle.f a0 = some r) :
    Calls Tryd.prog 57 #[.int .i64 a0] w fun e w' => e = .returned (.string r) ∧ Drawn0 w w' := by
  have H : (if a0 = 6 then (some (⟨#[116, 111, 107, 101, 110]⟩ : ByteArray)) else (if a0 = 7 then (some (⟨#[102, 111, 114, 109]⟩ : ByteArray)) else (if a0 = 8 then (some (⟨#[110, 97, 109, 101]⟩ : ByteArray)) else (if a0 = 9 then (some (⟨#[116, 119, 105, 99, 101]⟩ : ByteArray)) else (if a0 = 10 then (some (⟨#[115, 116, 97, 103, 101]⟩ : ByteArray)) else (if a0 = 11 then (some (⟨#[116, 121, 112, 101]⟩ : ByteArray)) else (if a0 = 12 then (some (⟨#[115, 104, 97, 112, 101]⟩ : ByteArray)) else (if a0 = 13 then (some (⟨#[108, 101, 118, 101, 108]⟩ : ByteArray)) else (some (⟨#[101, 114, 114, 111, 114]⟩ : ByteArray)))))))))) = some r := h
  clear h
  by_cases c2 : a0 = 6
  · rw [if_pos c2] at H
    have c2b0 : (a0 == 6) = true := beq_iff_eq.mpr c2
    have c2b1 : (a0 != 6) = false := bne_eq_false_iff_eq.mpr c2
    clear c2
    obtain rfl := Option.some.inj H
    go_enter Tryd.func57, Tryd.ntmps57
    go_wp2
    go_ret
    exact ⟨by first | rfl | (simp; done) | (simp [*]; done), by repeat (first | exact Drawn0.refl _ | apply Drawn0.step)⟩
  · rw [if_neg c2] at H
    have c2b0 : (a0 == 6) = false := beq_eq_false_iff_ne.mpr c2
    have c2b1 : (a0 != 6) = true := bne_iff_ne.mpr c2
    by_cases c3 : a0 = 7
    · rw [if_pos c3] at H
      have c3b0 : (a0 == 7) = true := beq_iff_eq.mpr c3
      have c3b1 : (a0 != 7) = false := bne_eq_false_iff_eq.mpr c3
      clear c3
      obtain rfl := Option.some.inj H
      go_enter Tryd.func57, Tryd.ntmps57
      go_wp2
      go_ret
      exact ⟨by first | rfl | (simp; done) | (simp [*]; done), by repeat (first | exact Drawn0.refl _ | apply Drawn0.step)⟩
    · rw [if_neg c3] at H
      have c3b0 : (a0 == 7) = false := beq_eq_false_iff_ne.mpr c3
      have c3b1 : (a0 != 7) = true := bne_iff_ne.mpr c3
      by_cases c4 : a0 = 8
      · rw [if_pos c4] at H
        have c4b0 : (a0 == 8) = true := beq_iff_eq.mpr c4
        have c4b1 : (a0 != 8) = false := bne_eq_false_iff_eq.mpr c4
        clear c4
        obtain rfl := Option.some.inj H
        go_enter Tryd.func57, Tryd.ntmps57
        go_wp2
        go_ret
        exact ⟨by first | rfl | (simp; done) | (simp [*]; done), by repeat (first | exact Drawn0.refl _ | apply Drawn0.step)⟩
      · rw [if_neg c4] at H
        have c4b0 : (a0 == 8) = false := beq_eq_false_iff_ne.mpr c4
        have c4b1 : (a0 != 8) = true := bne_iff_ne.mpr c4
        by_cases c5 : a0 = 9
        · rw [if_pos c5] at H
          have c5b0 : (a0 == 9) = true := beq_iff_eq.mpr c5
          have c5b1 : (a0 != 9) = false := bne_eq_false_iff_eq.mpr c5
          clear c5
          obtain rfl := Option.some.inj H
          go_enter Tryd.func57, Tryd.ntmps57
          go_wp2
          go_ret
          exact ⟨by first | rfl | (simp; done) | (simp [*]; done), by repeat (first | exact Drawn0.refl _ | apply Drawn0.step)⟩
        · rw [if_neg c5] at H
          have c5b0 : (a0 == 9) = false := beq_eq_false_iff_ne.mpr c5
          have c5b1 : (a0 != 9) = true := bne_iff_ne.mpr c5
          by_cases c6 : a0 = 10
          · rw [if_pos c6] at H
            have c6b0 : (a0 == 10) = true := beq_iff_eq.mpr c6
            have c6b1 : (a0 != 10) = false := bne_eq_false_iff_eq.mpr c6
            clear c6
            obtain rfl := Option.some.inj H
            go_enter Tryd.func57, Tryd.ntmps57
            go_wp2
            go_ret
            exact ⟨by first | rfl | (simp; done) | (simp [*]; done), by repeat (first | exact Drawn0.refl _ | apply Drawn0.step)⟩
          · rw [if_neg c6] at H
            have c6b0 : (a0 == 10) = false := beq_eq_false_iff_ne.mpr c6
            have c6b1 : (a0 != 10) = true := bne_iff_ne.mpr c6
            by_cases c7 : a0 = 11
            · rw [if_pos c7] at H
              have c7b0 : (a0 == 11) = true := beq_iff_eq.mpr c7
              have c7b1 : (a0 != 11) = false := bne_eq_false_iff_eq.mpr c7
              clear c7
              obtain rfl := Option.some.inj H
              go_enter Tryd.func57, Tryd.ntmps57
              go_wp2
              go_ret
              exact ⟨by first | rfl | (simp; done) | (simp [*]; done), by repeat (first | exact Drawn0.refl _ | apply Drawn0.step)⟩
            · rw [if_neg c7] at H
              have c7b0 : (a0 == 11) = false := beq_eq_false_iff_ne.mpr c7
              have c7b1 : (a0 != 11) = true := bne_iff_ne.mpr c7
              by_cases c8 : a0 = 12
              · rw [if_pos c8] at H
                have c8b0 : (a0 == 12) = true := beq_iff_eq.mpr c8
                have c8b1 : (a0 != 12) = false := bne_eq_false_iff_eq.mpr c8
                clear c8
                obtain rfl := Option.some.inj H
                go_enter Tryd.func57, Tryd.ntmps57
                go_wp2
                go_ret
                exact ⟨by first | rfl | (simp; done) | (simp [*]; done), by repeat (first | exact Drawn0.refl _ | apply Drawn0.step)⟩
              · rw [if_neg c8] at H
                have c8b0 : (a0 == 12) = false := beq_eq_false_iff_ne.mpr c8
                have c8b1 : (a0 != 12) = true := bne_iff_ne.mpr c8
                by_cases c9 : a0 = 13
                · rw [if_pos c9] at H
                  have c9b0 : (a0 == 13) = true := beq_iff_eq.mpr c9
                  have c9b1 : (a0 != 13) = false := bne_eq_false_iff_eq.mpr c9
                  clear c9
                  obtain rfl := Option.some.inj H
                  go_enter Tryd.func57, Tryd.ntmps57
                  go_wp2
                  go_ret
                  exact ⟨by first | rfl | (simp; done) | (simp [*]; done), by repeat (first | exact Drawn0.refl _ | apply Drawn0.step)⟩
                · rw [if_neg c9] at H
                  have c9b0 : (a0 == 13) = false := beq_eq_false_iff_ne.mpr c9
                  have c9b1 : (a0 != 13) = true := bne_iff_ne.mpr c9
                  obtain rfl := Option.some.inj H
                  go_enter Tryd.func57, Tryd.ntmps57
                  go_wp2
                  go_ret
                  exact ⟨by first | rfl | (simp; done) | (simp [*]; done), by repeat (first | exact Drawn0.refl _ | apply Drawn0.step)⟩

/-! ### api_late: function 58 -/
def api_late.f (a0 : Int) : Option (ByteArray) := if a0 = 14 then (some (⟨#[115, 99, 111, 112, 101]⟩ : ByteArray)) else (if a0 = 15 then (some (⟨#[103, 117, 101, 115, 115]⟩ : ByteArray)) else (if a0 = 16 then (some (⟨#[108, 111, 111, 112]⟩ : ByteArray)) else (if a0 = 17 then (some (⟨#[102, 117, 101, 108]⟩ : ByteArray)) else (if a0 = 18 then (some (⟨#[122, 101, 114, 111]⟩ : ByteArray)) else (if a0 = 19 then (some (⟨#[119, 111, 114, 100]⟩ : ByteArray)) else (some (⟨#[101, 114, 114, 111, 114]⟩ : ByteArray)))))))
set_option maxHeartbeats 8000000 in
set_option maxRecDepth 100000 in
theorem api_late.calls (a0 : Int) (r : ByteArray) (w : World) (h : api_late.f a0 = some r) :
    Calls Tryd.prog 58 #[.int .i64 a0] w fun e w' => e = .returned (.string r) ∧ Drawn0 w w' := by
  have H : (if a0 = 14 then (some (⟨#[115, 99, 111, 112, 101]⟩ : ByteArray)) else (if a0 = 15 then (some (⟨#[103, 117, 101, 115, 115]⟩ : ByteArray)) else (if a0 = 16 then (some (⟨#[108, 111, 111, 112]⟩ : ByteArray)) else (if a0 = 17 then (some (⟨#[102, 117, 101, 108]⟩ : ByteArray)) else (if a0 = 18 then (some (⟨#[122, 101, 114, 111]⟩ : ByteArray)) else (if a0 = 19 then (some (⟨#[119, 111, 114, 100]⟩ : ByteArray)) else (some (⟨#[101, 114, 114, 111, 114]⟩ : ByteArray)))))))) = some r := h
  clear h
  by_cases c2 : a0 = 14
  · rw [if_pos c2] at H
    have c2b0 : (a0 == 14) = true := beq_iff_eq.mpr c2
    have c2b1 : (a0 != 14) = false := bne_eq_false_iff_eq.mpr c2
    clear c2
    obtain rfl := Option.some.inj H
    go_enter Tryd.func58, Tryd.ntmps58
    go_wp2
    go_ret
    exact ⟨by first | rfl | (simp; done) | (simp [*]; done), by repeat (first | exact Drawn0.refl _ | apply Drawn0.step)⟩
  · rw [if_neg c2] at H
    have c2b0 : (a0 == 14) = false := beq_eq_false_iff_ne.mpr c2
    have c2b1 : (a0 != 14) = true := bne_iff_ne.mpr c2
    by_cases c3 : a0 = 15
    · rw [if_pos c3] at H
      have c3b0 : (a0 == 15) = true := beq_iff_eq.mpr c3
      have c3b1 : (a0 != 15) = false := bne_eq_false_iff_eq.mpr c3
      clear c3
      obtain rfl := Option.some.inj H
      go_enter Tryd.func58, Tryd.ntmps58
      go_wp2
      go_ret
      exact ⟨by first | rfl | (simp; done) | (simp [*]; done), by repeat (first | exact Drawn0.refl _ | apply Drawn0.step)⟩
    · rw [if_neg c3] at H
      have c3b0 : (a0 == 15) = false := beq_eq_false_iff_ne.mpr c3
      have c3b1 : (a0 != 15) = true := bne_iff_ne.mpr c3
      by_cases c4 : a0 = 16
      · rw [if_pos c4] at H
        have c4b0 : (a0 == 16) = true := beq_iff_eq.mpr c4
        have c4b1 : (a0 != 16) = false := bne_eq_false_iff_eq.mpr c4
        clear c4
        obtain rfl := Option.some.inj H
        go_enter Tryd.func58, Tryd.ntmps58
        go_wp2
        go_ret
        exact ⟨by first | rfl | (simp; done) | (simp [*]; done), by repeat (first | exact Drawn0.refl _ | apply Drawn0.step)⟩
      · rw [if_neg c4] at H
        have c4b0 : (a0 == 16) = false := beq_eq_false_iff_ne.mpr c4
        have c4b1 : (a0 != 16) = true := bne_iff_ne.mpr c4
        by_cases c5 : a0 = 17
        · rw [if_pos c5] at H
          have c5b0 : (a0 == 17) = true := beq_iff_eq.mpr c5
          have c5b1 : (a0 != 17) = false := bne_eq_false_iff_eq.mpr c5
          clear c5
          obtain rfl := Option.some.inj H
          go_enter Tryd.func58, Tryd.ntmps58
          go_wp2
          go_ret
          exact ⟨by first | rfl | (simp; done) | (simp [*]; done), by repeat (first | exact Drawn0.refl _ | apply Drawn0.step)⟩
        · rw [if_neg c5] at H
          have c5b0 : (a0 == 17) = false := beq_eq_false_iff_ne.mpr c5
          have c5b1 : (a0 != 17) = true := bne_iff_ne.mpr c5
          by_cases c6 : a0 = 18
          · rw [if_pos c6] at H
            have c6b0 : (a0 == 18) = true := beq_iff_eq.mpr c6
            have c6b1 : (a0 != 18) = false := bne_eq_false_iff_eq.mpr c6
            clear c6
            obtain rfl := Option.some.inj H
            go_enter Tryd.func58, Tryd.ntmps58
            go_wp2
            go_ret
            exact ⟨by first | rfl | (simp; done) | (simp [*]; done), by repeat (first | exact Drawn0.refl _ | apply Drawn0.step)⟩
          · rw [if_neg c6] at H
            have c6b0 : (a0 == 18) = false := beq_eq_false_iff_ne.mpr c6
            have c6b1 : (a0 != 18) = true := bne_iff_ne.mpr c6
            by_cases c7 : a0 = 19
            · rw [if_pos c7] at H
              have c7b0 : (a0 == 19) = true := beq_iff_eq.mpr c7
              have c7b1 : (a0 != 19) = false := bne_eq_false_iff_eq.mpr c7
              clear c7
              obtain rfl := Option.some.inj H
              go_enter Tryd.func58, Tryd.ntmps58
              go_wp2
              go_ret
              exact ⟨by first | rfl | (simp; done) | (simp [*]; done), by repeat (first | exact Drawn0.refl _ | apply Drawn0.step)⟩
            · rw [if_neg c7] at H
              have c7b0 : (a0 == 19) = false := beq_eq_false_iff_ne.mpr c7
              have c7b1 : (a0 != 19) = true := bne_iff_ne.mpr c7
              obtain rfl := Option.some.inj H
              go_enter Tryd.func58, Tryd.ntmps58
              go_wp2
              go_ret
              exact ⟨by first | rfl | (simp; done) | (simp [*]; done), by repeat (first | exact Drawn0.refl _ | apply Drawn0.step)⟩

/-! ### api_Errno_Error: function 37 -/
def api_Errno_Error.f (a0 : Int) : Option (ByteArray) := if a0 ≤ 5 then ((api_early.f a0).bind fun t107 => (some t107)) else (if a0 ≤ 13 then ((api_middle.f a0).bind fun t108 => (some t108)) else ((api_late.f a0).bind fun t109 => (some t109)))
set_option maxHeartbeats 8000000 in
set_option maxRecDepth 100000 in
theorem api_Errno_Error.calls (a0 : Int) (r : ByteArray) (w : World) (h : api_Errno_Error.f a0 = some r) :
    Calls Tryd.prog 37 #[.int .i64 a0] w fun e w' => e = .returned (.string r) ∧ Drawn0 w w' := by
  have H : (if a0 ≤ 5 then ((api_early.f a0).bind fun t107 => (some t107)) else (if a0 ≤ 13 then ((api_middle.f a0).bind fun t108 => (some t108)) else ((api_late.f a0).bind fun t109 => (some t109)))) = some r := h
  clear h
  by_cases c2 : a0 ≤ 5
  · rw [if_pos c2] at H
    have c2b0 : decide (a0 ≤ 5) = true := decide_eq_true c2
    clear c2
    replace H := Option.bind_eq_some_iff.mp H
    obtain ⟨t107, A30, H⟩ := H
    replace H : (some t107) = some r := H
    have A3 := Aside0.mk A30
    clear A30
    obtain rfl := Option.some.inj H
    go_enter Tryd.func37, Tryd.ntmps37
    go_wp2_with (first | ((with_reducible refine gate_callee (f := 56) rfl ?_); refine goesL_ (some 7) rfl rfl Tryd.func56 (by kernel_rfl) rfl #[.int .i64 a0] rfl (by (try simp only [List.map_toArray, List.map_cons, List.map_nil]); first | done | rfl | (simp only [List.length_drop, List.length_take]; rfl)) ?_; (with_reducible refine (api_early.calls a0 t107 _ A3.out).mono ?_); rintro e w' ⟨rfl, ⟨nd, rfl⟩⟩; refine ⟨_, rfl, ?_⟩))
    go_ret
    exact ⟨by first | rfl | (simp; done) | (simp [*]; done), by repeat (first | exact Drawn0.refl _ | apply Drawn0.step)⟩
  · rw [if_neg c2] at H
    have c2b0 : decide (a0 ≤ 5) = false := decide_eq_false c2
    clear c2
    by_cases c4 : a0 ≤ 13
    · rw [if_pos c4] at H
      have c4b0 : decide (a0 ≤ 13) = true := decide_eq_true c4
      clear c4
      replace H := Option.bind_eq_some_iff.mp H
      obtain ⟨t108, A50, H⟩ := H
      replace H : (some t108) = some r := H
      have A5 := Aside0.mk A50
      clear A50
      obtain rfl := Option.some.inj H
      go_enter Tryd.func37, Tryd.ntmps37
      go_wp2_with (first | ((with_reducible refine gate_callee (f := 57) rfl ?_); refine goesL_ (some 12) rfl rfl Tryd.func57 (by kernel_rfl) rfl #[.int .i64 a0] rfl (by (try simp only [List.map_toArray, List.map_cons, List.map_nil]); first | done | rfl | (simp only [List.length_drop, List.length_take]; rfl)) ?_; (with_reducible refine (api_middle.calls a0 t108 _ A5.out).mono ?_); rintro e w' ⟨rfl, ⟨nd, rfl⟩⟩; refine ⟨_, rfl, ?_⟩))
      go_ret
      exact ⟨by first | rfl | (simp; done) | (simp [*]; done), by repeat (first | exact Drawn0.refl _ | apply Drawn0.step)⟩
    · rw [if_neg c4] at H
      have c4b0 : decide (a0 ≤ 13) = false := decide_eq_false c4
      clear c4
      replace H := Option.bind_eq_some_iff.mp H
      obtain ⟨t109, A60, H⟩ := H
      replace H : (some t109) = some r := H
      have A6 := Aside0.mk A60
      clear A60
      obtain rfl := Option.some.inj H
      go_enter Tryd.func37, Tryd.ntmps37
      go_wp2_with (first | ((with_reducible refine gate_callee (f := 58) rfl ?_); refine goesL_ (some 14) rfl rfl Tryd.func58 (by kernel_rfl) rfl #[.int .i64 a0] rfl (by (try simp only [List.map_toArray, List.map_cons, List.map_nil]); first | done | rfl | (simp only [List.length_drop, List.length_take]; rfl)) ?_; (with_reducible refine (api_late.calls a0 t109 _ A6.out).mono ?_); rintro e w' ⟨rfl, ⟨nd, rfl⟩⟩; refine ⟨_, rfl, ?_⟩))
      go_ret
      exact ⟨by first | rfl | (simp; done) | (simp [*]; done), by repeat (first | exact Drawn0.refl _ | apply Drawn0.step)⟩
end Go.Proofs.YtnecmclnokikoaaDoor.P
/- thyrsuslaw12.told: what a term runs to, as a text: strconv.Itoa's table stands (TabP). Printed by mkprint.py, turned by gentold.py. -/
namespace Go.Proofs.YtnecmclnokikoaaDoor.P
open Go.RowKit Go.Proofs.YtnecmclnokikoaaDoorW.PrintWords Go.Proofs.YtnecmclnokikoaaDoorW.PrintLast Go.Proofs.YtnecmclnokikoaaDoorW.PrintMore
attribute [local go_sem] max2_int min2_int max_two min_two max_three min_three max_four min_four
set_option linter.unusedVariables false
set_option linter.unusedSimpArgs false
/-! ### thyrsuslaw12_told: function 24 -/
def thyrsuslaw12_told.f (k : Nat) (a0_0 : Int) (a0_1 : Int) (l0_2 : List (S29)) (a1 : Int) : Option (ByteArray) := (run_Run.f k a0_0 a0_1 l0_2 a1).bind fun bt111 => (if bt111.2.2.2.2 = 0 then ((run_Text.f k bt111.1 bt111.2.1 bt111.2.2.1).bind fun t119 => (some t119)) else ((api_Errno_Error.f bt111.2.2.2.2).bind fun t120 => (some t120)))
set_option maxHeartbeats 8000000 in
set_option maxRecDepth 100000 in
theorem thyrsuslaw12_told.calls (k : Nat) (a0_0 : Int) (a0_1 : Int) (A0_2 : Option Addr) (c0_2 : Nat) (l0_2 : List (S29)) (a1 : Int) (r : ByteArray) (w : World) (hT : TabP w) (hr0_2 : Kd.C k29 w A0_2 l0_2.length l0_2) (hc0_2 : l0_2.length ≤ c0_2) (h : thyrsuslaw12_told.f k a0_0 a0_1 l0_2 a1 = some r) :
    Calls Tryd.prog 24 #[.agg #[.int .i64 a0_0, .int .i64 a0_1, .slice A0_2 l0_2.length c0_2], .int .i64 a1] w fun e w' => e = .returned (.string r) ∧ Below w.heap.size w w' := by
  have HTB := Aside0.mk hT
  clear hT
  have hu29 := Tryd.underlying29
  have hu36 := Tryd.underlying36
  have HR0_2 := Aside0.mk hr0_2
  have HC0_2 := Aside0.mk hc0_2
  clear hr0_2 hc0_2
  have HB := Aside0.mk (Below.refl w.heap.size w)
  have H : ((run_Run.f k a0_0 a0_1 l0_2 a1).bind fun bt111 => (if bt111.2.2.2.2 = 0 then ((run_Text.f k bt111.1 bt111.2.1 bt111.2.2.1).bind fun t119 => (some t119)) else ((api_Errno_Error.f bt111.2.2.2.2).bind fun t120 => (some t120)))) = some r := h
  clear h
  replace H := Option.bind_eq_some_iff.mp H
  obtain ⟨⟨t111, t112, t113, t116, t117⟩, A30, H⟩ := H
  replace H : (if t117 = 0 then ((run_Text.f k t111 t112 t113).bind fun t119 => (some t119)) else ((api_Errno_Error.f t117).bind fun t120 => (some t120))) = some r := H
  have A3 := Aside0.mk A30
  clear A30
  by_cases c4 : t117 = 0
  · rw [if_pos c4] at H
    have c4b0 : (t117 == 0) = true := beq_iff_eq.mpr c4
    have c4b1 : (t117 != 0) = false := bne_eq_false_iff_eq.mpr c4
    clear c4
    replace H := Option.bind_eq_some_iff.mp H
    obtain ⟨t119, A50, H⟩ := H
    replace H : (some t119) = some r := H
    have A5 := Aside0.mk A50
    clear A50
    obtain rfl := Option.some.inj H
    go_enter Tryd.func24, Tryd.ntmps24
    go_wp2_with (first | ((with_reducible refine gate_dst (N := 2) rfl ?_); refine box_event ?hg (N := 2) ?hd (cs := #[.int .i64 a0_0, .int .i64 a0_1, .slice A0_2 l0_2.length c0_2]) (t := 29) ?hr ?_; (case hd => rfl); (case hg => rfl); (case hr => first | (go_simp; done) | (go_simp; rfl)); intro gb110 hg w6 hbox hb; have n0_ := Aside0.mk (below_step (by repeat (first | (with_reducible first | exact HB.out | apply below_alloc | apply pw_below_drewN | apply below_drew1) | exact HB.out)) hb); have n1_ := Aside0.mk (hbox); have n2_ := Aside0.mk ((by rw [hg]; exact (below_size (by repeat (first | (with_reducible first | exact HB.out | apply below_alloc | apply pw_below_drewN | apply below_drew1) | exact HB.out))) : w.heap.size ≤ gb110)); have n3_ := Aside0.mk ((by rw [hg]; exact (below_size (by repeat (first | (with_reducible first | exact HB.out | apply below_alloc | apply pw_below_drewN | apply below_drew1) | exact HB.out))) : w.heap.size ≤ gb110)); clear HB; have HB := n0_; have BK110 := n1_; have GW110 := n2_; have GE110 := n3_; clear n0_ n1_ n2_ n3_; clear hb hbox hg; have hcz7_0 : w6.cell? ⟨gb110, 0, none⟩ = some (.int .i64 a0_0) := (blk_cell BK110.out 0).trans rfl; have hcz7_1 : w6.cell? ⟨gb110, 1, none⟩ = some (.int .i64 a0_1) := (blk_cell BK110.out 1).trans rfl; have hcz7_2 : w6.cell? ⟨gb110, 2, none⟩ = some (.slice A0_2 l0_2.length c0_2) := (blk_cell BK110.out 2).trans rfl; have hfz7_0 := blk_frozen BK110.out 0; have hfz7_1 := blk_frozen BK110.out 1; have hfz7_2 := blk_frozen BK110.out 2) | ((with_reducible refine gate_callee (f := 10) rfl ?_); refine goesL_ (some 11) rfl rfl Tryd.func10 (by kernel_rfl) rfl #[.agg #[.int .i64 a0_0, .int .i64 a0_1, .slice A0_2 l0_2.length c0_2], .int .i64 a1] rfl (by (try simp only [List.map_toArray, List.map_cons, List.map_nil]); first | done | rfl | (simp only [List.length_drop, List.length_take]; rfl)) ?_; (with_reducible refine (run_Run.calls k a0_0 a0_1 _ _ l0_2 a1 t111 t112 t113 t116 t117 _ ?side1 ?side2 A3.out).mono ?_); (case side1 => repeat (first | exact (Kd.C_below HR0_2.out HB.out) | (with_reducible refine Kd.C_alloc ?_ _) | (with_reducible refine Kd.C_drewN ?_ _) | (with_reducible refine Kd.C_drew ?_))); (case side2 => exact HC0_2.out); rintro e w8 ⟨v114, rfl, ho0, hb⟩; refine ⟨_, rfl, ?_⟩; have n0_ := Aside0.mk (Kd.R_lower ho0 (below_size (by repeat (first | (with_reducible first | exact HB.out | apply below_alloc | apply pw_below_drewN | apply below_drew1 | refine below_set ?_ GE110.out) | exact HB.out)))); have n1_ := Aside0.mk (blk_below (g := gb110) (o := .cells #[.int .i64 a0_0, .int .i64 a0_1, .slice A0_2 l0_2.length c0_2] 29 (0, 0)) (by (with_reducible repeat (first | refine blk_drewN ?_ _ | refine blk_drew ?_ | refine blk_alloc ?_ _)); exact BK110.out) hb); have n2_ := Aside0.mk (below_step (by repeat (first | (with_reducible first | exact HB.out | apply below_alloc | apply pw_below_drewN | apply below_drew1 | refine below_set ?_ GE110.out) | exact HB.out)) hb); clear BK110; clear HB; have HO115 := n0_; have BK110 := n1_; have HB := n2_; clear n0_ n1_ n2_; (try clear hb); (try clear hb2); (try clear hk); (try clear hi); (try clear ho0)) | ((with_reducible refine gate_dst (N := 5) rfl ?_); refine box_event ?hg (N := 5) ?hd (cs := #[.int .i64 0, .int .i64 0, .slice none 0 0]) (t := 36) ?hr ?_; (case hd => rfl); (case hg => rfl); (case hr => first | (go_simp; done) | (go_simp; rfl)); intro gb118 hg w9 hbox hb; have n0_ := Aside0.mk (Kd.R_below (Kd.R_elderB (by (with_reducible repeat (first | apply Kd.R_alloc | apply Kd.R_drewN | apply Kd.R_drew)); exact HO115.out) gb118 (Nat.le_of_eq hg.symm)) hb); have n1_ := Aside0.mk (blk_below (g := gb110) (o := .cells #[.int .i64 a0_0, .int .i64 a0_1, .slice A0_2 l0_2.length c0_2] 29 (0, 0)) (by (with_reducible repeat (first | refine blk_drewN ?_ _ | refine blk_drew ?_ | refine blk_alloc ?_ _)); exact BK110.out) hb); have n2_ := Aside0.mk (below_step (by repeat (first | (with_reducible first | exact HB.out | apply below_alloc | apply pw_below_drewN | apply below_drew1 | refine below_set ?_ GE110.out) | exact HB.out)) hb); have n3_ := Aside0.mk (hbox); have n4_ := Aside0.mk ((by rw [hg]; exact (below_size (by repeat (first | (with_reducible first | exact HB.out | apply below_alloc | apply pw_below_drewN | apply below_drew1 | refine below_set ?_ GE110.out) | exact HB.out))) : w.heap.size ≤ gb118)); have n5_ := Aside0.mk ((by rw [hg]; exact (below_size (by repeat (first | (with_reducible first | exact HB.out | apply below_alloc | apply pw_below_drewN | apply below_drew1 | refine below_set ?_ GE110.out) | exact HB.out))) : w.heap.size ≤ gb118)); have n6_ := Aside0.mk ((by rw [hg]; exact Nat.ne_of_lt (blk_lt (g := gb110) (o := .cells #[.int .i64 a0_0, .int .i64 a0_1, .slice A0_2 l0_2.length c0_2] 29 (0, 0)) (by (with_reducible repeat (first | refine blk_drewN ?_ _ | refine blk_drew ?_ | refine blk_alloc ?_ _)); exact BK110.out)) : gb110 ≠ gb118)); have n7_ := Aside0.mk ((by rw [hg]; exact Nat.ne_of_gt (blk_lt (g := gb110) (o := .cells #[.int .i64 a0_0, .int .i64 a0_1, .slice A0_2 l0_2.length c0_2] 29 (0, 0)) (by (with_reducible repeat (first | refine blk_drewN ?_ _ | refine blk_drew ?_ | refine blk_alloc ?_ _)); exact BK110.out)) : gb118 ≠ gb110)); clear HO115; clear BK110; clear HB; have HO115 := n0_; have BK110 := n1_; have HB := n2_; have BK118 := n3_; have GW118 := n4_; have GE118 := n5_; have NB110_118 := n6_; have NB118_110 := n7_; clear n0_ n1_ n2_ n3_ n4_ n5_ n6_ n7_; clear hb hbox hg; have hnb10 := NB118_110.out; have hnc10 := NB110_118.out; have hcz11_0 : w9.cell? ⟨gb118, 0, none⟩ = some (.int .i64 0) := (blk_cell BK118.out 0).trans rfl; have hcz11_1 : w9.cell? ⟨gb118, 1, none⟩ = some (.int .i64 0) := (blk_cell BK118.out 1).trans rfl; have hcz11_2 : w9.cell? ⟨gb118, 2, none⟩ = some (.slice none 0 0) := (blk_cell BK118.out 2).trans rfl; have hfz11_0 := blk_frozen BK118.out 0; have hfz11_1 := blk_frozen BK118.out 1; have hfz11_2 := blk_frozen BK118.out 2; obtain ⟨Ao12, co12, eo12⟩ := Kd.R_slice HO115.out; subst eo12) | ((with_reducible refine gate_callee (f := 13) rfl ?_); refine goesL_ (some 20) rfl rfl Tryd.func13 (by kernel_rfl) rfl #[.agg #[.int .i64 t111, .int .i64 t112, .slice Ao12 t113.length co12]] rfl (by (try simp only [List.map_toArray, List.map_cons, List.map_nil]); first | done | rfl | (simp only [List.length_drop, List.length_take]; rfl)) ?_; (with_reducible refine (run_Text.calls k t111 t112 _ _ t113 t119 _ ?sideT ?side1 ?side2 A5.out).mono ?_); (case sideT => exact TabP.below HTB.out (by repeat (first | (with_reducible first | exact HB.out | apply below_alloc | apply pw_below_drewN | apply below_drew1 | refine below_set ?_ GE110.out | refine below_set ?_ GE118.out) | exact HB.out))); (case side1 => refine (Kd.R_reads' (e := 36) (base := w.heap.size) (ok := fun k_ => (True ∧ k_ ≠ gb118)) (n := t113.length) (c := co12) ?_).2.2; exact (by (with_reducible repeat (first | apply Kd.R_alloc | apply Kd.R_drewN | apply Kd.R_drew)); exact (Kd.R_mono (Kd.R_far (p := ⟨gb118, 2, none⟩) (Kd.R_far (p := ⟨gb118, 1, none⟩) (Kd.R_far (p := ⟨gb118, 0, none⟩) (Kd.R_mono HO115.out (fun k_ hk => (⟨hk, hk.2⟩ : _ ∧ k_ ≠ gb118))) (fun _ hk => hk.2) (.int .i64 t111)) (fun _ hk => hk.2) (.int .i64 t112)) (fun _ hk => hk.2) (.slice Ao12 t113.length co12)) (fun _ h_ => h_.1)))); (case side2 => exact (Kd.R_reads' HO115.out).2.1); rintro e w13 ⟨rfl, hb⟩; refine ⟨_, rfl, ?_⟩; have n0_ := Aside0.mk (Kd.R_below (by (with_reducible repeat (first | apply Kd.R_alloc | apply Kd.R_drewN | apply Kd.R_drew)); exact (Kd.R_mono (Kd.R_far (p := ⟨gb118, 2, none⟩) (Kd.R_far (p := ⟨gb118, 1, none⟩) (Kd.R_far (p := ⟨gb118, 0, none⟩) (Kd.R_mono HO115.out (fun k_ hk => (⟨hk, hk.2⟩ : _ ∧ k_ ≠ gb118))) (fun _ hk => hk.2) (.int .i64 t111)) (fun _ hk => hk.2) (.int .i64 t112)) (fun _ hk => hk.2) (.slice Ao12 t113.length co12)) (fun _ h_ => h_.1))) hb); have n1_ := Aside0.mk (blk_below (g := gb110) (o := .cells #[.int .i64 a0_0, .int .i64 a0_1, .slice A0_2 l0_2.length c0_2] 29 (0, 0)) (by (with_reducible repeat (first | refine blk_drewN ?_ _ | refine blk_drew ?_ | refine blk_alloc ?_ _)); refine blk_far ?_ NB110_118.out _; (with_reducible repeat (first | refine blk_drewN ?_ _ | refine blk_drew ?_ | refine blk_alloc ?_ _)); refine blk_far ?_ NB110_118.out _; (with_reducible repeat (first | refine blk_drewN ?_ _ | refine blk_drew ?_ | refine blk_alloc ?_ _)); refine blk_far ?_ NB110_118.out _; (with_reducible repeat (first | refine blk_drewN ?_ _ | refine blk_drew ?_ | refine blk_alloc ?_ _)); exact BK110.out) hb); have n2_ := Aside0.mk (blk_below (g := gb118) (o := .cells #[.int .i64 t111, .int .i64 t112, .slice Ao12 t113.length co12] 36 (0, 0)) (by (with_reducible repeat (first | refine blk_drewN ?_ _ | refine blk_drew ?_ | refine blk_alloc ?_ _)); refine blk_put (cs := #[.int .i64 t111, .int .i64 t112, .slice none 0 0]) ?_ 2 _ rfl; (with_reducible repeat (first | refine blk_drewN ?_ _ | refine blk_drew ?_ | refine blk_alloc ?_ _)); refine blk_put (cs := #[.int .i64 t111, .int .i64 0, .slice none 0 0]) ?_ 1 _ rfl; (with_reducible repeat (first | refine blk_drewN ?_ _ | refine blk_drew ?_ | refine blk_alloc ?_ _)); refine blk_put (cs := #[.int .i64 0, .int .i64 0, .slice none 0 0]) ?_ 0 _ rfl; (with_reducible repeat (first | refine blk_drewN ?_ _ | refine blk_drew ?_ | refine blk_alloc ?_ _)); exact BK118.out) hb); have n3_ := Aside0.mk (below_step (by repeat (first | (with_reducible first | exact HB.out | apply below_alloc | apply pw_below_drewN | apply below_drew1 | refine below_set ?_ GE110.out | refine below_set ?_ GE118.out) | exact HB.out)) hb); clear HO115; clear BK110; clear BK118; clear HB; have HO115 := n0_; have BK110 := n1_; have BK118 := n2_; have HB := n3_; clear n0_ n1_ n2_ n3_; (try clear hb); (try clear hb2); (try clear hk); (try clear hi)))
    go_ret
    exact ⟨by first | rfl | (simp [errW_none, errW_some] <;> rfl) | (simp [*, errW_none, errW_some] <;> rfl), by repeat (first | (with_reducible first | exact HB.out | apply below_alloc | apply pw_below_drewN | apply below_drew1 | refine below_set ?_ GE110.out | refine below_set ?_ GE118.out) | exact HB.out)⟩
  · rw [if_neg c4] at H
    have c4b0 : (t117 == 0) = false := beq_eq_false_iff_ne.mpr c4
    have c4b1 : (t117 != 0) = true := bne_iff_ne.mpr c4
    replace H := Option.bind_eq_some_iff.mp H
    obtain ⟨t120, A140, H⟩ := H
    replace H : (some t120) = some r := H
    have A14 := Aside0.mk A140
    clear A140
    obtain rfl := Option.some.inj H
    go_enter Tryd.func24, Tryd.ntmps24
    go_wp2_with (first | ((with_reducible refine gate_dst (N := 2) rfl ?_); refine box_event ?hg (N := 2) ?hd (cs := #[.int .i64 a0_0, .int .i64 a0_1, .slice A0_2 l0_2.length c0_2]) (t := 29) ?hr ?_; (case hd => rfl); (case hg => rfl); (case hr => first | (go_simp; done) | (go_simp; rfl)); intro gb110 hg w15 hbox hb; have n0_ := Aside0.mk (below_step (by repeat (first | (with_reducible first | exact HB.out | apply below_alloc | apply pw_below_drewN | apply below_drew1) | exact HB.out)) hb); have n1_ := Aside0.mk (hbox); have n2_ := Aside0.mk ((by rw [hg]; exact (below_size (by repeat (first | (with_reducible first | exact HB.out | apply below_alloc | apply pw_below_drewN | apply below_drew1) | exact HB.out))) : w.heap.size ≤ gb110)); have n3_ := Aside0.mk ((by rw [hg]; exact (below_size (by repeat (first | (with_reducible first | exact HB.out | apply below_alloc | apply pw_below_drewN | apply below_drew1) | exact HB.out))) : w.heap.size ≤ gb110)); clear HB; have HB := n0_; have BK110 := n1_; have GW110 := n2_; have GE110 := n3_; clear n0_ n1_ n2_ n3_; clear hb hbox hg; have hcz16_0 : w15.cell? ⟨gb110, 0, none⟩ = some (.int .i64 a0_0) := (blk_cell BK110.out 0).trans rfl; have hcz16_1 : w15.cell? ⟨gb110, 1, none⟩ = some (.int .i64 a0_1) := (blk_cell BK110.out 1).trans rfl; have hcz16_2 : w15.cell? ⟨gb110, 2, none⟩ = some (.slice A0_2 l0_2.length c0_2) := (blk_cell BK110.out 2).trans rfl; have hfz16_0 := blk_frozen BK110.out 0; have hfz16_1 := blk_frozen BK110.out 1; have hfz16_2 := blk_frozen BK110.out 2) | ((with_reducible refine gate_callee (f := 10) rfl ?_); refine goesL_ (some 11) rfl rfl Tryd.func10 (by kernel_rfl) rfl #[.agg #[.int .i64 a0_0, .int .i64 a0_1, .slice A0_2 l0_2.length c0_2], .int .i64 a1] rfl (by (try simp only [List.map_toArray, List.map_cons, List.map_nil]); first | done | rfl | (simp only [List.length_drop, List.length_take]; rfl)) ?_; (with_reducible refine (run_Run.calls k a0_0 a0_1 _ _ l0_2 a1 t111 t112 t113 t116 t117 _ ?side1 ?side2 A3.out).mono ?_); (case side1 => repeat (first | exact (Kd.C_below HR0_2.out HB.out) | (with_reducible refine Kd.C_alloc ?_ _) | (with_reducible refine Kd.C_drewN ?_ _) | (with_reducible refine Kd.C_drew ?_))); (case side2 => exact HC0_2.out); rintro e w17 ⟨v114, rfl, ho0, hb⟩; refine ⟨_, rfl, ?_⟩; have n0_ := Aside0.mk (Kd.R_lower ho0 (below_size (by repeat (first | (with_reducible first | exact HB.out | apply below_alloc | apply pw_below_drewN | apply below_drew1 | refine below_set ?_ GE110.out) | exact HB.out)))); have n1_ := Aside0.mk (blk_below (g := gb110) (o := .cells #[.int .i64 a0_0, .int .i64 a0_1, .slice A0_2 l0_2.length c0_2] 29 (0, 0)) (by (with_reducible repeat (first | refine blk_drewN ?_ _ | refine blk_drew ?_ | refine blk_alloc ?_ _)); exact BK110.out) hb); have n2_ := Aside0.mk (below_step (by repeat (first | (with_reducible first | exact HB.out | apply below_alloc | apply pw_below_drewN | apply below_drew1 | refine below_set ?_ GE110.out) | exact HB.out)) hb); clear BK110; clear HB; have HO115 := n0_; have BK110 := n1_; have HB := n2_; clear n0_ n1_ n2_; (try clear hb); (try clear hb2); (try clear hk); (try clear hi); (try clear ho0)) | ((with_reducible refine gate_dst (N := 5) rfl ?_); refine box_event ?hg (N := 5) ?hd (cs := #[.int .i64 0, .int .i64 0, .slice none 0 0]) (t := 36) ?hr ?_; (case hd => rfl); (case hg => rfl); (case hr => first | (go_simp; done) | (go_simp; rfl)); intro gb118 hg w18 hbox hb; have n0_ := Aside0.mk (Kd.R_below (Kd.R_elderB (by (with_reducible repeat (first | apply Kd.R_alloc | apply Kd.R_drewN | apply Kd.R_drew)); exact HO115.out) gb118 (Nat.le_of_eq hg.symm)) hb); have n1_ := Aside0.mk (blk_below (g := gb110) (o := .cells #[.int .i64 a0_0, .int .i64 a0_1, .slice A0_2 l0_2.length c0_2] 29 (0, 0)) (by (with_reducible repeat (first | refine blk_drewN ?_ _ | refine blk_drew ?_ | refine blk_alloc ?_ _)); exact BK110.out) hb); have n2_ := Aside0.mk (below_step (by repeat (first | (with_reducible first | exact HB.out | apply below_alloc | apply pw_below_drewN | apply below_drew1 | refine below_set ?_ GE110.out) | exact HB.out)) hb); have n3_ := Aside0.mk (hbox); have n4_ := Aside0.mk ((by rw [hg]; exact (below_size (by repeat (first | (with_reducible first | exact HB.out | apply below_alloc | apply pw_below_drewN | apply below_drew1 | refine below_set ?_ GE110.out) | exact HB.out))) : w.heap.size ≤ gb118)); have n5_ := Aside0.mk ((by rw [hg]; exact (below_size (by repeat (first | (with_reducible first | exact HB.out | apply below_alloc | apply pw_below_drewN | apply below_drew1 | refine below_set ?_ GE110.out) | exact HB.out))) : w.heap.size ≤ gb118)); have n6_ := Aside0.mk ((by rw [hg]; exact Nat.ne_of_lt (blk_lt (g := gb110) (o := .cells #[.int .i64 a0_0, .int .i64 a0_1, .slice A0_2 l0_2.length c0_2] 29 (0, 0)) (by (with_reducible repeat (first | refine blk_drewN ?_ _ | refine blk_drew ?_ | refine blk_alloc ?_ _)); exact BK110.out)) : gb110 ≠ gb118)); have n7_ := Aside0.mk ((by rw [hg]; exact Nat.ne_of_gt (blk_lt (g := gb110) (o := .cells #[.int .i64 a0_0, .int .i64 a0_1, .slice A0_2 l0_2.length c0_2] 29 (0, 0)) (by (with_reducible repeat (first | refine blk_drewN ?_ _ | refine blk_drew ?_ | refine blk_alloc ?_ _)); exact BK110.out)) : gb118 ≠ gb110)); clear HO115; clear BK110; clear HB; have HO115 := n0_; have BK110 := n1_; have HB := n2_; have BK118 := n3_; have GW118 := n4_; have GE118 := n5_; have NB110_118 := n6_; have NB118_110 := n7_; clear n0_ n1_ n2_ n3_ n4_ n5_ n6_ n7_; clear hb hbox hg; have hnb19 := NB118_110.out; have hnc19 := NB110_118.out; have hcz20_0 : w18.cell? ⟨gb118, 0, none⟩ = some (.int .i64 0) := (blk_cell BK118.out 0).trans rfl; have hcz20_1 : w18.cell? ⟨gb118, 1, none⟩ = some (.int .i64 0) := (blk_cell BK118.out 1).trans rfl; have hcz20_2 : w18.cell? ⟨gb118, 2, none⟩ = some (.slice none 0 0) := (blk_cell BK118.out 2).trans rfl; have hfz20_0 := blk_frozen BK118.out 0; have hfz20_1 := blk_frozen BK118.out 1; have hfz20_2 := blk_frozen BK118.out 2; obtain ⟨Ao21, co21, eo21⟩ := Kd.R_slice HO115.out; subst eo21) | ((with_reducible refine gate_callee (f := 37) rfl ?_); refine goesL_ (some 18) rfl rfl Tryd.func37 (by kernel_rfl) rfl #[.int .i64 t117] rfl (by (try simp only [List.map_toArray, List.map_cons, List.map_nil]); first | done | rfl | (simp only [List.length_drop, List.length_take]; rfl)) ?_; (with_reducible refine (api_Errno_Error.calls t117 t120 _ A14.out).mono ?_); rintro e w' ⟨rfl, ⟨nd, rfl⟩⟩; refine ⟨_, rfl, ?_⟩))
    go_ret
    exact ⟨by first | rfl | (simp [errW_none, errW_some] <;> rfl) | (simp [*, errW_none, errW_some] <;> rfl), by repeat (first | (with_reducible first | exact HB.out | apply below_alloc | apply pw_below_drewN | apply below_drew1 | refine below_set ?_ GE110.out | refine below_set ?_ GE118.out) | exact HB.out)⟩
end Go.Proofs.YtnecmclnokikoaaDoor.P
/- RunKnown: words, its terms and texts (genrk.py). -/
namespace Go.Proofs.YtnecmclnokikoaaDoor.P
open Go.RowKit Go.Proofs.YtnecmclnokikoaaDoorW.PrintWords Go.Proofs.YtnecmclnokikoaaDoorW.PrintLast Go.Proofs.YtnecmclnokikoaaDoorW.PrintMore
attribute [local go_sem] max2_int min2_int max_two min_two max_three min_three max_four min_four
set_option linter.unusedVariables false
set_option linter.unusedSimpArgs false
theorem mem_x {α : Type} {x : α} {l : List α} (h : x ∈ l := by repeat (first | exact List.Mem.head _ | apply List.Mem.tail)) : x ∈ l := h
/-- Which of n operations have come up, by a number's bits. -/
def bl (n m : Nat) : Array Bool := ((List.range n).map fun i => m.testBit i).toArray
def ALLG (w : World) (G : Nat → Prop) (l : List (Value × List S29)) : Prop := ∀ p ∈ l, TV w G p.1 p.2
theorem allg_step {w w' : World} {G : Nat → Prop} {l : List (Value × List S29)} {v : Value} {ks : List S29} (h : ALLG w G l) (hb : Below w.heap.size w w') (hv : TV w' G v ks) : ALLG w' G ((v, ks) :: l) := by
  intro p hp
  rcases List.mem_cons.mp hp with rfl | hp
  · exact hv
  · exact (h p hp).step hb
theorem allg_on {w w' : World} {G : Nat → Prop} {l : List (Value × List S29)} (h : ALLG w G l) (hb : Below w.heap.size w w') : ALLG w' G l := fun p hp => (h p hp).step hb
theorem allg_old {w w' : World} {G : Nat → Prop} {l : List (Value × List S29)} (h : ALLG w (fun _ => False) l) (hb : Below w.heap.size w w') (hG : ∀ k, G k → w.heap.size ≤ k) : ALLG w' G l := fun p hp => (h p hp).old hb hG
theorem allg_put {w : World} {g : Nat} {l : List (Value × List S29)} (h : ALLG w (fun k => k = g) l) (x y z : Value) : ALLG (((w.setCell ⟨g, 0, none⟩ x).setCell ⟨g, 1, none⟩ y).setCell ⟨g, 2, none⟩ z) (fun _ => False) l := fun p hp => ((h p hp).set3 (g := g) rfl x y z).free
theorem allg_nil (w : World) (G : Nat → Prop) : ALLG w G [] := fun p hp => by cases hp
theorem allg_cons {w : World} {G : Nat → Prop} {l : List (Value × List S29)} {v : Value} {ks : List S29} (hv : TV w G v ks) (h : ALLG w G l) : ALLG w G ((v, ks) :: l) := by
  intro p hp
  rcases List.mem_cons.mp hp with rfl | hp
  · exact hv
  · exact h p hp
section
variable {P : Program} {ops : Array Oper} {Q : Exit → Act → World → Prop}
/-- A call of a function value that captures nothing. -/
theorem goesV_ {oi : Oper} {N : Option Tmp} {a : Act} {w : World} {K : Act → World → Prop} {f : FuncId} {fn : Func} {x : Operand} {as_ : Array Operand} {ts : Array TypeId} (hf : P.funcs[f]? = some fn) (hname : (fn.name == "runtime.NumGoroutine") = false) (hb : fn.body.isSome = true) (args : Array Value)
    (hw : Region.wanted oi (yielded ops a.tmps) = true) (hN : oi.dst = N) (hop : oi.op = .call { callee := .value x, args := as_, argTypes := ts }) (hx : a.eval x = .func (.func f) #[] #[]) (hargs : as_.map a.eval = args)
    (h : Calls P f args w fun e w' => ∃ v, e = .returned v ∧ K (a.put N v) w') : if Region.wanted oi (yielded ops a.tmps) = true then Oper.wp P oi a w K Q else K (a.put N undef) w := by
  refine call_ f args hw hN ?_ h
  have he := enters_ hf hname hb args w
  unfold execOp
  simp [hop, resolve, Deferred.ofValue, invoke, hx, hargs, he]
theorem lit_step_goG {o : Oper} {a : Act} {Kc : Act → World → Prop} {W : World} (G : Nat → Prop) (hG : ∀ k, G k → k < W.heap.size) (hw : Region.wanted o (yielded ops a.tmps) = true) {N' : Tmp} (hd : o.dst = some N') {xs : List S29} {inner : List Value}
    (hrun : (execOp a.eval o).run P W = .ok (.value (.slice (some ⟨W.heap.size, 0, none⟩) xs.length xs.length)) (W.alloc (.cells inner.toArray 29)))
    (hrep : Reps (fun x c => ∃ v, c = [.int .i64 x.f0, .int .i64 x.f1, v] ∧ TV W G v x.f2) 3 xs inner) (hm : xs.length ≤ 9223372036854775807)
    (h : ∀ v1 w1, TV w1 G v1 xs → Below W.heap.size W w1 → Kc (a.put o.dst v1) w1) : if Region.wanted o (yielded ops a.tmps) = true then Oper.wp P o a W Kc Q else Kc (a.put o.dst undef) W := by
  refine Kd.N_lit_step k29 (w0 := W) W.heap.size 29 hw hd (xs := xs) (inner := inner) (ok := fun k => ¬ G k) (okp := fun k => ¬ G k) hrun ?_ (fun _ hk => hk) (fun hk => by have := hG _ hk; omega) (Below.refl _ _) (Nat.le_refl _) hm (fun v1 w1 hN hb _ _ => h v1 w1 (TV.ofN hN (fun _ h => h)) hb)
  exact hrep.imp_ fun p c ⟨v, hc, hv⟩ => by rw [hc]; exact hv.fkG
end
theorem V_goG (n : Int) (w : World) (G : Nat → Prop) (hG : ∀ k, G k → k < w.heap.size) : Calls Tryd.prog 20 #[.int .i64 n] w fun e w' => ∃ v : Value, e = .returned (.agg #[.int .i64 1, .int .i64 n, v]) ∧ TV w' G v [] ∧ Below w.heap.size w w' :=
  (thyrsusref4_V.calls n 1 n [] w rfl).mono fun e w' ⟨v, he, hR, hb⟩ => ⟨v, he, TV.ofR hR hG, hb⟩
theorem Int_goG (n : Int) (w : World) (G : Nat → Prop) (hG : ∀ k, G k → k < w.heap.size) : Calls Tryd.prog 22 #[.int .i64 n] w fun e w' => ∃ v : Value, e = .returned (.agg #[.int .i64 25, .int .i64 n, v]) ∧ TV w' G v [] ∧ Below w.heap.size w w' :=
  (thyrsusref4_Int.calls n 25 n [] w rfl).mono fun e w' ⟨v, he, hR, hb⟩ => ⟨v, he, TV.ofR hR hG, hb⟩
theorem prim_goG (p : Int) (x y : S29) (vx vy : Value) (w : World) (G : Nat → Prop) (hG : ∀ k, G k → k < w.heap.size) (hx : TV w G vx x.f2) (hy : TV w G vy y.f2) : Calls Tryd.prog 23 #[.int .i64 p, .agg #[.int .i64 x.f0, .int .i64 x.f1, vx], .agg #[.int .i64 y.f0, .int .i64 y.f1, vy]] w fun e w' => ∃ v : Value, e = .returned (.agg #[.int .i64 26, .int .i64 p, v]) ∧ TV w' G v [x, y] ∧ Below w.heap.size w w' := by
  obtain ⟨A, c, rfl⟩ := Kd.V_slice hx
  obtain ⟨B, d, rfl⟩ := Kd.V_slice hy
  obtain ⟨x0, x1, x2⟩ := x
  obtain ⟨y0, y1, y2⟩ := y
  refine (thyrsuslaw12_prim.calls p x0 x1 (fun k => ¬ G k) A c x2 y0 y1 (fun k => ¬ G k) B d y2 26 p _ w (Kd.V_map hx (fun _ h => h)) (Kd.V_map hy (fun _ h => h)) rfl).mono fun e w' ⟨v, he, hN, hb⟩ => ⟨v, he, TV.ofN hN ?_, hb⟩
  rintro k ((h | h) | h) hk
  · exact h hk
  · exact h hk
  · have := hG k hk
    omega
/-- Boxes of terms; all that is elder is as it was. -/
def KB (w0 w : World) (l : List (Nat × Int × Int × Value)) : Prop := Below w0.heap.size w0 w ∧ ∀ p ∈ l, w.heap[p.1]? = some (.cells #[.int .i64 p.2.1, .int .i64 p.2.2.1, p.2.2.2] 29 (0, 0))
theorem KB.below {w0 w w' : World} {l : List (Nat × Int × Int × Value)} (h : KB w0 w l) (hb : Below w.heap.size w w') : KB w0 w' l := ⟨below_step h.1 hb, fun p hp => blk_below (h.2 p hp) hb⟩
theorem KB.more {w0 w : World} {l : List (Nat × Int × Int × Value)} {g : Nat} {o n : Int} {v : Value} (h : KB w0 w l) (hg : w.heap[g]? = some (.cells #[.int .i64 o, .int .i64 n, v] 29 (0, 0))) : KB w0 w ((g, o, n, v) :: l) := by
  refine ⟨h.1, fun p hp => ?_⟩
  rcases List.mem_cons.mp hp with rfl | hp
  · exact hg
  · exact h.2 p hp
theorem KB.put {w0 w : World} {l : List (Nat × Int × Int × Value)} {g : Nat} (h : KB w0 w l) (hg : w0.heap.size ≤ g) (hn : ∀ p ∈ l, p.1 ≠ g) (x y z : Value) : KB w0 (((w.setCell ⟨g, 0, none⟩ x).setCell ⟨g, 1, none⟩ y).setCell ⟨g, 2, none⟩ z) l :=
  ⟨below_set3 h.1 hg x y z, fun p hp => blk_far3 (h.2 p hp) (hn p hp) x y z⟩
theorem KB.ne {w0 w : World} {l : List (Nat × Int × Int × Value)} {g : Nat} (h : KB w0 w l) (hg : g = w.heap.size) : ∀ p ∈ l, p.1 ≠ g := fun p hp he => by
  have := blk_lt (h.2 p hp)
  omega
theorem KB.c {w0 w : World} {l : List (Nat × Int × Int × Value)} (h : KB w0 w l) {g : Nat} {o n : Int} {v : Value} (hm : (g, o, n, v) ∈ l) : w.cell? ⟨g, 0, none⟩ = some (.int .i64 o) ∧ w.cell? ⟨g, 1, none⟩ = some (.int .i64 n) ∧ w.cell? ⟨g, 2, none⟩ = some v :=
  ⟨(blk_cell (h.2 _ hm) 0).trans rfl, (blk_cell (h.2 _ hm) 1).trans rfl, (blk_cell (h.2 _ hm) 2).trans rfl⟩
theorem KB.four {w0 w : World} {g4 g6 g7 g8 : Nat} {a4 b4 a6 b6 a7 b7 a8 b8 : Int} {v4 v6 v7 v8 : Value} (h : KB w0 w [(g8, a8, b8, v8), (g7, a7, b7, v7), (g6, a6, b6, v6), (g4, a4, b4, v4)]) :
    w.cell? ⟨g4, 0, none⟩ = some (.int .i64 a4) ∧ w.cell? ⟨g4, 1, none⟩ = some (.int .i64 b4) ∧ w.cell? ⟨g4, 2, none⟩ = some v4 ∧ w.cell? ⟨g6, 0, none⟩ = some (.int .i64 a6) ∧ w.cell? ⟨g6, 1, none⟩ = some (.int .i64 b6) ∧ w.cell? ⟨g6, 2, none⟩ = some v6 ∧ w.cell? ⟨g7, 0, none⟩ = some (.int .i64 a7) ∧ w.cell? ⟨g7, 1, none⟩ = some (.int .i64 b7) ∧ w.cell? ⟨g7, 2, none⟩ = some v7 ∧ w.cell? ⟨g8, 0, none⟩ = some (.int .i64 a8) ∧ w.cell? ⟨g8, 1, none⟩ = some (.int .i64 b8) ∧ w.cell? ⟨g8, 2, none⟩ = some v8 := by
  obtain ⟨x0, x1, x2⟩ := h.c (.tail _ (.tail _ (.tail _ (.head _))))
  obtain ⟨y0, y1, y2⟩ := h.c (.tail _ (.tail _ (.head _)))
  obtain ⟨z0, z1, z2⟩ := h.c (.tail _ (.head _))
  obtain ⟨t0, t1, t2⟩ := h.c (.head _)
  exact ⟨x0, x1, x2, y0, y1, y2, z0, z1, z2, t0, t1, t2⟩
theorem all_nil (w : World) : ALL w [(.slice none 0 0, [])] := by
  intro p hp
  obtain rfl : p = (.slice none 0 0, []) := by simpa using hp
  exact Kd.V_nil _ _ _ _ _
theorem within_go (a n t : Int) (w : World) (h : thyrsuslaw12_within.f a n = some t) : Calls Tryd.prog 9 #[.int .i64 a, .int .i64 n] w fun e w' => e = .returned (.int .i64 t) ∧ Below w.heap.size w w' :=
  (thyrsuslaw12_within.calls a n t w h).mono fun e w' ⟨he, nd, hd⟩ => ⟨he, hd ▸ pw_below_drewN (Below.refl _ _) nd⟩
def rdB (l : List ByteArray) (i : Int) : ByteArray := l.getD i.toNat ⟨#[]⟩
theorem TV.elem {W : World} {v : Value} {ks : List S29} (h : TV W (fun _ => False) v ks) (i : Int) (h0 : 0 ≤ i) (h1 : i < (ks.length : Int)) :
    ∃ ad c ve, v = .slice (some ad) ks.length c ∧ ks.length ≤ c ∧ TV W (fun _ => False) ve (rd_T29 ks i).f2 ∧ ∀ w', Below W.heap.size W w' → w'.cell? (ad.add (i.toNat * 3)) = some (.int .i64 (rd_T29 ks i).f0) ∧ w'.cell? ⟨(ad.add (i.toNat * 3)).block, (ad.add (i.toNat * 3)).off + 1, none⟩ = some (.int .i64 (rd_T29 ks i).f1) ∧ w'.cell? ⟨(ad.add (i.toNat * 3)).block, (ad.add (i.toNat * 3)).off + 2, none⟩ = some ve := by
  obtain ⟨A, c, rfl⟩ := Kd.V_slice h
  obtain ⟨_, hc, hC⟩ := Kd.V_reads' h
  obtain ⟨ad, A2, c2, rfl, x0, x1, x2, l2, i2⟩ := at_T29 hC i h0 h1
  obtain ⟨ce, hce, hMe, hcc⟩ := Kd.V_get h z29 i h0 h1
  obtain ⟨ua, uc, rfl, ul, ge⟩ := k29_openF hMe
  have hv := hcc 2 _ rfl
  rw [add_field _ _ 2 (by omega)] at hv
  replace hv := Option.some.inj (hv.symm.trans x2)
  injection hv with hva hvn hvc
  rw [hva] at ge
  rw [hvc] at ul
  have at_ : ∀ {p u} {w' : World}, W.cell? p = some u → Below W.heap.size W w' → w'.cell? p = some u := fun hp hb => (hb.cell (World.block_lt_of_cell? W _ hp)).trans hp
  exact ⟨ad, c, .slice A2 (rd_T29 ks i).f2.length c2, rfl, hc, Kd.V_mk ul ge, fun w' hb => ⟨at_ x0 hb, at_ x1 hb, at_ x2 hb⟩⟩
def terms : List S29 := [⟨25, 7, []⟩, ⟨20, 0, [⟨15, 0, []⟩, ⟨26, 0, [⟨1, 0, []⟩, ⟨25, 1, []⟩]⟩]⟩, ⟨21, 0, [⟨20, 0, [⟨15, 0, []⟩, ⟨26, 0, [⟨1, 0, []⟩, ⟨25, 1, []⟩]⟩]⟩, ⟨25, 4, []⟩]⟩, ⟨22, 0, [⟨25, 1, []⟩, ⟨20, 0, [⟨15, 0, []⟩, ⟨26, 0, [⟨1, 0, []⟩, ⟨25, 1, []⟩]⟩]⟩]⟩, ⟨23, 0, [⟨22, 0, [⟨25, 1, []⟩, ⟨25, 2, []⟩]⟩]⟩, ⟨24, 0, [⟨22, 0, [⟨25, 1, []⟩, ⟨22, 0, [⟨25, 2, []⟩, ⟨25, 3, []⟩]⟩]⟩]⟩, ⟨27, 0, [⟨25, -3, []⟩, ⟨25, 1, []⟩, ⟨25, 2, []⟩]⟩, ⟨27, 0, [⟨26, 4, [⟨25, 2, []⟩, ⟨25, 2, []⟩]⟩, ⟨25, 1, []⟩, ⟨25, 2, []⟩]⟩, ⟨28, 0, [⟨25, 5, []⟩, ⟨26, 2, [⟨1, 0, []⟩, ⟨1, 0, []⟩]⟩]⟩, ⟨21, 0, [⟨21, 0, [⟨20, 0, [⟨15, 0, []⟩, ⟨20, 0, [⟨15, 0, []⟩, ⟨26, 0, [⟨1, 0, []⟩, ⟨1, 1, []⟩]⟩]⟩]⟩, ⟨25, 3, []⟩]⟩, ⟨25, 4, []⟩]⟩, ⟨28, 0, [⟨25, 1, []⟩, ⟨28, 0, [⟨20, 0, [⟨15, 0, []⟩, ⟨1, 1, []⟩]⟩, ⟨28, 0, [⟨25, 2, []⟩, ⟨21, 0, [⟨1, 1, []⟩, ⟨25, 9, []⟩]⟩]⟩]⟩]⟩, ⟨26, 3, [⟨25, -7, []⟩, ⟨25, 2, []⟩]⟩, ⟨26, 3, [⟨25, 7, []⟩, ⟨25, 0, []⟩]⟩, ⟨27, 0, [⟨25, 0, []⟩, ⟨26, 3, [⟨25, 1, []⟩, ⟨25, 0, []⟩]⟩, ⟨25, 3, []⟩]⟩, ⟨22, 0, [⟨26, 3, [⟨25, 1, []⟩, ⟨25, 0, []⟩]⟩, ⟨25, 3, []⟩]⟩, ⟨28, 0, [⟨26, 3, [⟨25, 1, []⟩, ⟨25, 0, []⟩]⟩, ⟨25, 3, []⟩]⟩, ⟨21, 0, [⟨20, 0, [⟨16, 0, [⟨15, 0, []⟩, ⟨15, 0, []⟩]⟩, ⟨21, 0, [⟨1, 0, []⟩, ⟨21, 0, [⟨1, 0, []⟩, ⟨25, 1, []⟩]⟩]⟩]⟩, ⟨20, 0, [⟨15, 0, []⟩, ⟨26, 0, [⟨1, 0, []⟩, ⟨25, 1, []⟩]⟩]⟩]⟩, ⟨26, 1, [⟨25, -9223372036854775808, []⟩, ⟨25, 1, []⟩]⟩]
def texts : List ByteArray := [(⟨#[55]⟩ : ByteArray), (⟨#[102, 110]⟩ : ByteArray), (⟨#[53]⟩ : ByteArray), (⟨#[40, 49, 44, 32, 102, 110, 41]⟩ : ByteArray), (⟨#[49]⟩ : ByteArray), (⟨#[40, 50, 44, 32, 51, 41]⟩ : ByteArray), (⟨#[49]⟩ : ByteArray), (⟨#[50]⟩ : ByteArray), (⟨#[50, 53]⟩ : ByteArray), (⟨#[55]⟩ : ByteArray), (⟨#[49]⟩ : ByteArray), (⟨#[45, 51]⟩ : ByteArray), (⟨#[122, 101, 114, 111]⟩ : ByteArray), (⟨#[51]⟩ : ByteArray), (⟨#[122, 101, 114, 111]⟩ : ByteArray), (⟨#[122, 101, 114, 111]⟩ : ByteArray), (⟨#[51]⟩ : ByteArray), (⟨#[57, 50, 50, 51, 51, 55, 50, 48, 51, 54, 56, 53, 52, 55, 55, 53, 56, 48, 55]⟩ : ByteArray)]
end Go.Proofs.YtnecmclnokikoaaDoor.P
/- RunKnown: its drawn region 5 (genrk.py). -/
namespace Go.Proofs.YtnecmclnokikoaaDoor.P
open Go.RowKit Go.Proofs.YtnecmclnokikoaaDoorW.PrintWords Go.Proofs.YtnecmclnokikoaaDoorW.PrintLast Go.Proofs.YtnecmclnokikoaaDoorW.PrintMore
attribute [local go_sem] max2_int min2_int max_two min_two max_three min_three max_four min_four
set_option linter.unusedVariables false
set_option linter.unusedSimpArgs false
def rk5.T5 : Bool × List (List Nat × List Nat) := (true, [([], []), ([], []), ([1], [1]), ([], []), ([3, 2], [3]), ([2, 4, 4], [2, 4]), ([0, 5], [0, 5]), ([6, 5], [6]), ([], []), ([8, 7, 7, 0, 1, 2, 3, 4, 5, 6, 7, 8], [7, 8])])
def rk5.B5 : List Nat := [0, 0, 2, 0, 14, 30, 63, 127, 0, 511]
theorem rk5.tab5 : rtab .any (opsOf Tryd.f5 5) = rk5.T5 := by kernel_rfl
theorem rk5.bits5 : waitsOk rk5.T5.2 rk5.B5 = true := by kernel_rfl
set_option maxHeartbeats 32000000 in
set_option maxRecDepth 100000 in
theorem rk5 (a0 : Int) (g4 : Nat) (A14 : Option Addr) (c14 : Nat) (v17 : Value) (A18 : Option Addr) (c18 : Nat) (g6 : Nat) (w x : World) {ops : Array Oper} {K : Act → World → Prop} {R : Ending → World → Prop} (hops : ops = opsOf Tryd.f5 5) (hF : ALLG x (fun _ => False) [((.slice A14 0 c14), ([] : List S29)), ((.slice A18 2 c18), ([⟨15, 0, []⟩, ⟨15, 0, []⟩] : List S29))]) (hJ : KB w x [(g6, 16, 0, (.slice A18 2 c18)), (g4, 15, 0, (.slice A14 0 c14))])
    (hQ : ∀ (v21 : Value) (v23 : Value) (v24 : Value) (v25 : Value) (A26 : Option Addr) (c26 : Nat) (g7 : Nat) (x' : World), ALLG x' (fun _ => False) [((.slice A26 2 c26), ([⟨15, 0, []⟩, ⟨26, 0, [⟨1, 0, []⟩, ⟨25, 1, []⟩]⟩] : List S29)), (v25, ([⟨15, 0, []⟩, ⟨26, 0, [⟨1, 0, []⟩, ⟨25, 1, []⟩]⟩] : List S29)), (v24, ([⟨1, 0, []⟩, ⟨25, 1, []⟩] : List S29)), (v23, ([] : List S29)), (v21, ([] : List S29)), ((.slice A14 0 c14), ([] : List S29)), ((.slice A18 2 c18), ([⟨15, 0, []⟩, ⟨15, 0, []⟩] : List S29))] → KB w x' [(g7, 20, 0, (.slice A26 2 c26)), (g6, 16, 0, (.slice A18 2 c18)), (g4, 15, 0, (.slice A14 0 c14))] → K ({ tmps := #[.int .i64 a0, undef, .bool false, .func (.func 20) #[] #[], .pointer (some ⟨g4, 0, none⟩), .func (.func 22) #[] #[], .pointer (some ⟨g6, 0, none⟩), .pointer (some ⟨g7, 0, none⟩), undef, undef, undef, undef, .bool true, .bool false, .agg #[.int .i64 (15), .int .i64 (0), (.slice A14 0 c14)], .agg #[.int .i64 (15), .int .i64 (0), (.slice A14 0 c14)], .agg #[.int .i64 (15), .int .i64 (0), (.slice A14 0 c14)], v17, .agg #[.int .i64 (16), .int .i64 (0), (.slice A18 2 c18)], .agg #[.int .i64 (15), .int .i64 (0), (.slice A14 0 c14)], .func (.func 20) #[] #[], .agg #[.int .i64 (1), .int .i64 (0), v21], .func (.func 22) #[] #[], .agg #[.int .i64 (25), .int .i64 (1), v23], .agg #[.int .i64 (26), .int .i64 (0), v24], v25, .agg #[.int .i64 (20), .int .i64 (0), (.slice A26 2 c26)], undef, undef, undef, undef, undef, undef, undef, undef, undef, undef, undef, undef, undef, undef, undef, undef, undef, undef, undef, undef, undef, undef, undef, undef, undef, undef, undef, undef, undef, undef, undef, undef, undef, undef, undef, undef, undef, undef, undef, undef, undef, undef, undef, undef, undef, undef, undef, undef, undef, undef, undef, undef, undef, undef, undef, undef, undef, undef, undef, undef, undef, undef, undef, undef, undef, undef, undef, undef, undef, undef, undef, undef, undef, undef, undef, undef, undef, undef, undef, undef, undef, undef, undef, undef, undef, undef, undef, undef, undef, undef, undef, undef, undef, undef, undef, undef, undef, undef, undef, undef, undef, undef, undef, undef, undef, undef, undef, undef, undef, undef, undef, undef, undef, undef, undef, undef, undef, undef, undef, undef, undef, undef, undef, undef, undef, undef, undef, undef, undef, undef, undef, undef, undef, undef, undef, undef, undef, undef, undef, undef, undef, undef, undef, undef, undef, undef, undef, undef, undef, undef, undef, undef, undef, undef, undef, undef, undef, undef, undef, undef, undef, undef, undef, undef, undef, undef, undef, undef, undef, undef, undef, undef, undef, undef, undef, undef, undef, undef], defers := [] } : Act) x') :
    (Code.region 5 ops true).wp Tryd.prog (Exit.then K (bodyPost Tryd.prog Tryd.f5 R)) ({ tmps := #[.int .i64 a0, undef, .bool false, .func (.func 20) #[] #[], .pointer (some ⟨g4, 0, none⟩), .func (.func 22) #[] #[], .pointer (some ⟨g6, 0, none⟩), undef, undef, undef, undef, undef, .bool true, .bool false, .agg #[.int .i64 (15), .int .i64 (0), (.slice A14 0 c14)], .agg #[.int .i64 (15), .int .i64 (0), (.slice A14 0 c14)], .agg #[.int .i64 (15), .int .i64 (0), (.slice A14 0 c14)], v17, .agg #[.int .i64 (16), .int .i64 (0), (.slice A18 2 c18)], undef, undef, undef, undef, undef, undef, undef, undef, undef, undef, undef, undef, undef, undef, undef, undef, undef, undef, undef, undef, undef, undef, undef, undef, undef, undef, undef, undef, undef, undef, undef, undef, undef, undef, undef, undef, undef, undef, undef, undef, undef, undef, undef, undef, undef, undef, undef, undef, undef, undef, undef, undef, undef, undef, undef, undef, undef, undef, undef, undef, undef, undef, undef, undef, undef, undef, undef, undef, undef, undef, undef, undef, undef, undef, undef, undef, undef, undef, undef, undef, undef, undef, undef, undef, undef, undef, undef, undef, undef, undef, undef, undef, undef, undef, undef, undef, undef, undef, undef, undef, undef, undef, undef, undef, undef, undef, undef, undef, undef, undef, undef, undef, undef, undef, undef, undef, undef, undef, undef, undef, undef, undef, undef, undef, undef, undef, undef, undef, undef, undef, undef, undef, undef, undef, undef, undef, undef, undef, undef, undef, undef, undef, undef, undef, undef, undef, undef, undef, undef, undef, undef, undef, undef, undef, undef, undef, undef, undef, undef, undef, undef, undef, undef, undef, undef, undef, undef, undef, undef, undef, undef, undef, undef, undef, undef, undef, undef, undef, undef, undef, undef, undef, undef, undef, undef, undef], defers := [] } : Act) x := by
  subst hops
  have hu29 := Tryd.underlying29
  conv in (opsOf Tryd.f5 5) => whnf
  have F := Aside0.mk hF
  have J := Aside0.mk hJ
  clear hF hJ
  refine start_ (n := 10) (S := (fun w' => w'.cell? ⟨g4, 0, none⟩ = some (.int .i64 15) ∧ w'.cell? ⟨g4, 1, none⟩ = some (.int .i64 0) ∧ w'.cell? ⟨g4, 2, none⟩ = some ((.slice A14 0 c14)))) (ds := [9]) (bl 10 0) (by kernel_rfl) rfl (by kernel_rfl) (KB.c (g := g4) (o := 15) (n := 0) (v := (.slice A14 0 c14)) (J.out.below (w' := x.drew) (below_drew1 (Below.refl _ _))) mem_x) (fun hHeld => ?_)
  refine with_tabW rk5.tab5 rk5.bits5 (fun HT_ HW_ => ?_)
  have hbd_ : Below x.heap.size x x.drew := below_drew1 (Below.refl _ _)
  replace F := Aside0.mk (allg_on F.out hbd_)
  replace J := Aside0.mk (J.out.below hbd_)
  clear hbd_
  generalize x.drew = y at F J hHeld ⊢
  refine pure_ (i := 1) (N := (some 20)) (v := ?_) (a' := ?_) (bl 10 2) rfl rfl (any_of HT_.out (by kernel_rfl)) (fun _ _ _ h => h) (Or.inl ⟨by rfl, ?_⟩) ?_ ?_
  rotate_left
  · intro w'
    go_simp
    try with_reducible rfl
  rotate_left
  · simp only [Act.put, List.setIfInBounds_toArray, List.set_cons_zero, List.set_cons_succ, i64_w, i32_w, u8_w, u32_w]
    rfl
  refine pure_ (i := 3) (N := (some 22)) (v := ?_) (a' := ?_) (bl 10 10) rfl rfl (any_of HT_.out (by kernel_rfl)) (fun _ _ _ h => h) (Or.inl ⟨by rfl, ?_⟩) ?_ ?_
  rotate_left
  · intro w'
    go_simp
    try with_reducible rfl
  rotate_left
  · simp only [Act.put, List.setIfInBounds_toArray, List.set_cons_zero, List.set_cons_succ, i64_w, i32_w, u8_w, u32_w]
    rfl
  refine take_ (i := 0) (N := (some 19)) (v := ?_) (a' := ?_) (bl 10 11) rfl rfl (take_ofW HT_.out HW_.out (by kernel_rfl)) (fun _ _ _ h => h) (Or.inl ⟨by rfl, ?_⟩) hHeld ?_ ?_
  rotate_left
  · rintro w' ⟨s0, s1, s2⟩
    go_simp
    try with_reducible rfl
  rotate_left
  · simp only [Act.put, List.setIfInBounds_toArray, List.set_cons_zero, List.set_cons_succ, i64_w, i32_w, u8_w, u32_w]
    rfl
  refine two_ (i := 2) (j := 8) (Ni := (some 21)) (Nj := (some 7)) (bl 10 15) (bl 10 267) rfl rfl rfl rfl (two_of HT_.out (by kernel_rfl)) (by decide) (by decide) (fun K hK => ?_) (fun K hK => ?_)
  · refine goesV_ Tryd.func20 (by kernel_rfl) rfl #[.int .i64 (0)] (by rfl) rfl rfl rfl (by (try simp only [List.map_toArray, List.map_cons, List.map_nil]); first | done | rfl | (simp only [List.length_drop, List.length_take]; rfl)) ?_
    refine (V_goG (0) _ (fun _ => False) (fun _ h => h.elim)).mono ?_
    rintro e w21 ⟨v21, rfl, hv_, hb_⟩
    refine ⟨_, rfl, ?_⟩
    replace F := Aside0.mk (allg_step F.out hb_ hv_)
    replace J := Aside0.mk (J.out.below hb_)
    clear hb_ hv_
    refine hK.out _ _ (KB.c (g := g4) (o := 15) (n := 0) (v := (.slice A14 0 c14)) J.out mem_x) (fun hHeld => ?_)
    clear hK K
    refine norm_ (a' := ?_) ?_ ?_
    rotate_left
    · show Act.put _ (some 21) _ = _
      simp only [Act.put, List.setIfInBounds_toArray, List.set_cons_zero, List.set_cons_succ, i64_w, i32_w, u8_w, u32_w]
      rfl
    refine two_ (i := 4) (j := 8) (Ni := (some 23)) (Nj := (some 7)) (bl 10 31) (bl 10 271) rfl rfl rfl rfl (two_of HT_.out (by kernel_rfl)) (by decide) (by decide) (fun K hK => ?_) (fun K hK => ?_)
    · refine goesV_ Tryd.func22 (by kernel_rfl) rfl #[.int .i64 (1)] (by rfl) rfl rfl rfl (by (try simp only [List.map_toArray, List.map_cons, List.map_nil]); first | done | rfl | (simp only [List.length_drop, List.length_take]; rfl)) ?_
      refine (Int_goG (1) _ (fun _ => False) (fun _ h => h.elim)).mono ?_
      rintro e w23 ⟨v23, rfl, hv_, hb_⟩
      refine ⟨_, rfl, ?_⟩
      replace F := Aside0.mk (allg_step F.out hb_ hv_)
      replace J := Aside0.mk (J.out.below hb_)
      clear hb_ hv_
      refine hK.out _ _ (KB.c (g := g4) (o := 15) (n := 0) (v := (.slice A14 0 c14)) J.out mem_x) (fun hHeld => ?_)
      clear hK K
      refine norm_ (a' := ?_) ?_ ?_
      rotate_left
      · show Act.put _ (some 23) _ = _
        simp only [Act.put, List.setIfInBounds_toArray, List.set_cons_zero, List.set_cons_succ, i64_w, i32_w, u8_w, u32_w]
        rfl
      refine two_ (i := 5) (j := 8) (Ni := (some 24)) (Nj := (some 7)) (bl 10 63) (bl 10 287) rfl rfl rfl rfl (two_of HT_.out (by kernel_rfl)) (by decide) (by decide) (fun K hK => ?_) (fun K hK => ?_)
      · refine goes_ Tryd.func23 (by kernel_rfl) rfl #[.int .i64 0, .agg #[.int .i64 (1), .int .i64 (0), v21], .agg #[.int .i64 (25), .int .i64 (1), v23]] (by rfl) rfl rfl (by (try simp only [List.map_toArray, List.map_cons, List.map_nil]); first | done | rfl | (simp only [List.length_drop, List.length_take]; rfl)) ?_
        refine (prim_goG 0 ⟨1, 0, []⟩ ⟨25, 1, []⟩ _ _ _ (fun _ => False) (fun _ h => h.elim) (F.out (_, _) mem_x) (F.out (_, _) mem_x)).mono ?_
        rintro e w24 ⟨v24, rfl, hv_, hb_⟩
        refine ⟨_, rfl, ?_⟩
        replace F := Aside0.mk (allg_step F.out hb_ hv_)
        replace J := Aside0.mk (J.out.below hb_)
        clear hb_ hv_
        refine hK.out _ _ (KB.c (g := g4) (o := 15) (n := 0) (v := (.slice A14 0 c14)) J.out mem_x) (fun hHeld => ?_)
        clear hK K
        refine norm_ (a' := ?_) ?_ ?_
        rotate_left
        · show Act.put _ (some 24) _ = _
          simp only [Act.put, List.setIfInBounds_toArray, List.set_cons_zero, List.set_cons_succ, i64_w, i32_w, u8_w, u32_w]
          rfl
        refine two_ (i := 6) (j := 8) (Ni := (some 25)) (Nj := (some 7)) (bl 10 127) (bl 10 319) rfl rfl rfl rfl (two_of HT_.out (by kernel_rfl)) (by decide) (by decide) (fun K hK => ?_) (fun K hK => ?_)
        · refine lit_step_goG (fun _ => False) (fun _ h => h.elim) ?hg (N' := 25) ?hd (xs := ([⟨15, 0, []⟩, ⟨26, 0, [⟨1, 0, []⟩, ⟨25, 1, []⟩]⟩] : List S29)) (inner := ?inn25_1) ?hr ?hp (by simp) ?_
          (case hd => rfl)
          (case hg => rfl)
          (case hr => first | (go_simp; done) | (go_simp; rfl))
          (case hp => exact Reps.c3 ⟨_, rfl, F.out (_, _) mem_x⟩ (Reps.c3 ⟨_, rfl, F.out (_, _) mem_x⟩ (Reps.none _ _)))
          intro v25 w25 hv_ hb_
          replace F := Aside0.mk (allg_step F.out hb_ hv_)
          replace J := Aside0.mk (J.out.below hb_)
          clear hb_ hv_
          refine hK.out _ _ (KB.c (g := g4) (o := 15) (n := 0) (v := (.slice A14 0 c14)) J.out mem_x) (fun hHeld => ?_)
          clear hK K
          refine norm_ (a' := ?_) ?_ ?_
          rotate_left
          · show Act.put _ (some 25) _ = _
            simp only [Act.put, List.setIfInBounds_toArray, List.set_cons_zero, List.set_cons_succ, i64_w, i32_w, u8_w, u32_w]
            rfl
          refine two_ (i := 7) (j := 8) (Ni := (some 26)) (Nj := (some 7)) (bl 10 255) (bl 10 383) rfl rfl rfl rfl (two_of HT_.out (by kernel_rfl)) (by decide) (by decide) (fun K hK => ?_) (fun K hK => ?_)
          · refine goes_ Tryd.func21 (by kernel_rfl) rfl #[.int .i64 20, v25] (by rfl) rfl rfl (by (try simp only [List.map_toArray, List.map_cons, List.map_nil]); first | done | rfl | (simp only [List.length_drop, List.length_take]; rfl)) ?_
            refine (T_goG 20 _ _ _ (fun _ => False) (fun _ h => h.elim) (F.out (_, _) mem_x)).mono ?_
            rintro e w26 ⟨v26, rfl, hv_, hb_⟩
            refine ⟨_, rfl, ?_⟩
            obtain ⟨A26, c26, hve_⟩ := Kd.V_slice hv_
            replace hve_ : v26 = .slice A26 2 c26 := hve_
            subst hve_
            replace F := Aside0.mk (allg_step F.out hb_ hv_)
            replace J := Aside0.mk (J.out.below hb_)
            clear hb_ hv_
            refine hK.out _ _ (KB.c (g := g4) (o := 15) (n := 0) (v := (.slice A14 0 c14)) J.out mem_x) (fun hHeld => ?_)
            clear hK K
            refine norm_ (a' := ?_) ?_ ?_
            rotate_left
            · show Act.put _ (some 26) _ = _
              simp only [Act.put, List.setIfInBounds_toArray, List.set_cons_zero, List.set_cons_succ, i64_w, i32_w, u8_w, u32_w]
              rfl
            refine one_ (i := 8) (N := (some 7)) (bl 10 511) rfl rfl (one_of HT_.out (by kernel_rfl)) (by decide) (fun K hK => ?_)
            refine box_step (by rfl) (N := 7) rfl (cs := #[.int .i64 0, .int .i64 0, .slice none 0 0]) (t := 29) ?hr ?_
            (case hr => first | (go_simp; done) | (go_simp; rfl))
            intro g7 hg_ w7 hbox_ hb_
            replace F := Aside0.mk (allg_old (G := fun k => k = g7) F.out hb_ (fun k hk => by omega))
            have NE := Aside0.mk (J.out.ne hg_)
            have GW : Aside0 (w.heap.size ≤ g7) := ⟨by have := J.out.1.size; omega⟩
            replace J := Aside0.mk (J.out.below hb_)
            have BZ := Aside0.mk hbox_
            clear hbox_ hb_ hg_
            refine hK.out _ _ (KB.c (g := g4) (o := 15) (n := 0) (v := (.slice A14 0 c14)) J.out mem_x) (fun hHeld => ?_)
            clear hK K
            refine norm_ (a' := ?_) ?_ ?_
            rotate_left
            · show Act.put _ (some 7) _ = _
              simp only [Act.put, List.setIfInBounds_toArray, List.set_cons_zero, List.set_cons_succ, i64_w, i32_w, u8_w, u32_w]
              rfl
            refine last_ (i := 9) (N := none) (bl 10 1023) rfl rfl (one_of HT_.out (by kernel_rfl)) (by decide) (fun K hK => ?_)
            have hs0 := (blk_cell BZ.out 0).trans (show _ = some (.int .i64 0) from rfl)
            have hs1 := (blk_cell BZ.out 1).trans (show _ = some (.int .i64 0) from rfl)
            have hs2 := (blk_cell BZ.out 2).trans (show _ = some (.slice none 0 0) from rfl)
            have hf0 := blk_frozen BZ.out 0
            have hf1 := blk_frozen BZ.out 1
            have hf2 := blk_frozen BZ.out 2
            refine skip_ (w1 := ?_) (by rfl) rfl ?_ ?_
            rotate_left
            · go_simp
              rfl
            refine hK.out _ _ ?_
            clear hK K
            refine done_ (done_of HT_.out (by kernel_rfl)) ?_
            exact hQ v21 v23 v24 v25 A26 c26 g7 _ (allg_put F.out _ _ _) ((J.out.put GW.out NE.out _ _ _).more (blk_set3 BZ.out rfl _ _ _))
          · refine box_step (by rfl) (N := 7) rfl (cs := #[.int .i64 0, .int .i64 0, .slice none 0 0]) (t := 29) ?hr ?_
            (case hr => first | (go_simp; done) | (go_simp; rfl))
            intro g7 hg_ w7 hbox_ hb_
            replace F := Aside0.mk (allg_old (G := fun k => k = g7) F.out hb_ (fun k hk => by omega))
            have NE := Aside0.mk (J.out.ne hg_)
            have GW : Aside0 (w.heap.size ≤ g7) := ⟨by have := J.out.1.size; omega⟩
            replace J := Aside0.mk (J.out.below hb_)
            have BZ := Aside0.mk hbox_
            clear hbox_ hb_ hg_
            refine hK.out _ _ (KB.c (g := g4) (o := 15) (n := 0) (v := (.slice A14 0 c14)) J.out mem_x) (fun hHeld => ?_)
            clear hK K
            refine norm_ (a' := ?_) ?_ ?_
            rotate_left
            · show Act.put _ (some 7) _ = _
              simp only [Act.put, List.setIfInBounds_toArray, List.set_cons_zero, List.set_cons_succ, i64_w, i32_w, u8_w, u32_w]
              rfl
            refine one_ (i := 7) (N := (some 26)) (bl 10 511) rfl rfl (one_of HT_.out (by kernel_rfl)) (by decide) (fun K hK => ?_)
            refine goes_ Tryd.func21 (by kernel_rfl) rfl #[.int .i64 20, v25] (by rfl) rfl rfl (by (try simp only [List.map_toArray, List.map_cons, List.map_nil]); first | done | rfl | (simp only [List.length_drop, List.length_take]; rfl)) ?_
            refine (T_goG 20 _ _ _ (fun k => k = g7) (fun k hk => by rw [hk]; exact blk_lt BZ.out) (F.out (_, _) mem_x)).mono ?_
            rintro e w26 ⟨v26, rfl, hv_, hb_⟩
            refine ⟨_, rfl, ?_⟩
            obtain ⟨A26, c26, hve_⟩ := Kd.V_slice hv_
            replace hve_ : v26 = .slice A26 2 c26 := hve_
            subst hve_
            replace F := Aside0.mk (allg_step F.out hb_ hv_)
            replace J := Aside0.mk (J.out.below hb_)
            replace BZ := Aside0.mk (blk_below BZ.out hb_)
            clear hb_ hv_
            refine hK.out _ _ (KB.c (g := g4) (o := 15) (n := 0) (v := (.slice A14 0 c14)) J.out mem_x) (fun hHeld => ?_)
            clear hK K
            refine norm_ (a' := ?_) ?_ ?_
            rotate_left
            · show Act.put _ (some 26) _ = _
              simp only [Act.put, List.setIfInBounds_toArray, List.set_cons_zero, List.set_cons_succ, i64_w, i32_w, u8_w, u32_w]
              rfl
            refine last_ (i := 9) (N := none) (bl 10 1023) rfl rfl (one_of HT_.out (by kernel_rfl)) (by decide) (fun K hK => ?_)
            have hs0 := (blk_cell BZ.out 0).trans (show _ = some (.int .i64 0) from rfl)
            have hs1 := (blk_cell BZ.out 1).trans (show _ = some (.int .i64 0) from rfl)
            have hs2 := (blk_cell BZ.out 2).trans (show _ = some (.slice none 0 0) from rfl)
            have hf0 := blk_frozen BZ.out 0
            have hf1 := blk_frozen BZ.out 1
            have hf2 := blk_frozen BZ.out 2
            refine skip_ (w1 := ?_) (by rfl) rfl ?_ ?_
            rotate_left
            · go_simp
              rfl
            refine hK.out _ _ ?_
            clear hK K
            refine done_ (done_of HT_.out (by kernel_rfl)) ?_
            exact hQ v21 v23 v24 v25 A26 c26 g7 _ (allg_put F.out _ _ _) ((J.out.put GW.out NE.out _ _ _).more (blk_set3 BZ.out rfl _ _ _))
        · refine box_step (by rfl) (N := 7) rfl (cs := #[.int .i64 0, .int .i64 0, .slice none 0 0]) (t := 29) ?hr ?_
          (case hr => first | (go_simp; done) | (go_simp; rfl))
          intro g7 hg_ w7 hbox_ hb_
          replace F := Aside0.mk (allg_old (G := fun k => k = g7) F.out hb_ (fun k hk => by omega))
          have NE := Aside0.mk (J.out.ne hg_)
          have GW : Aside0 (w.heap.size ≤ g7) := ⟨by have := J.out.1.size; omega⟩
          replace J := Aside0.mk (J.out.below hb_)
          have BZ := Aside0.mk hbox_
          clear hbox_ hb_ hg_
          refine hK.out _ _ (KB.c (g := g4) (o := 15) (n := 0) (v := (.slice A14 0 c14)) J.out mem_x) (fun hHeld => ?_)
          clear hK K
          refine norm_ (a' := ?_) ?_ ?_
          rotate_left
          · show Act.put _ (some 7) _ = _
            simp only [Act.put, List.setIfInBounds_toArray, List.set_cons_zero, List.set_cons_succ, i64_w, i32_w, u8_w, u32_w]
            rfl
          refine one_ (i := 6) (N := (some 25)) (bl 10 383) rfl rfl (one_of HT_.out (by kernel_rfl)) (by decide) (fun K hK => ?_)
          refine lit_step_goG (fun k => k = g7) (fun k hk => by rw [hk]; exact blk_lt BZ.out) ?hg (N' := 25) ?hd (xs := ([⟨15, 0, []⟩, ⟨26, 0, [⟨1, 0, []⟩, ⟨25, 1, []⟩]⟩] : List S29)) (inner := ?inn25_2) ?hr ?hp (by simp) ?_
          (case hd => rfl)
          (case hg => rfl)
          (case hr => first | (go_simp; done) | (go_simp; rfl))
          (case hp => exact Reps.c3 ⟨_, rfl, F.out (_, _) mem_x⟩ (Reps.c3 ⟨_, rfl, F.out (_, _) mem_x⟩ (Reps.none _ _)))
          intro v25 w25 hv_ hb_
          replace F := Aside0.mk (allg_step F.out hb_ hv_)
          replace J := Aside0.mk (J.out.below hb_)
          replace BZ := Aside0.mk (blk_below BZ.out hb_)
          clear hb_ hv_
          refine hK.out _ _ (KB.c (g := g4) (o := 15) (n := 0) (v := (.slice A14 0 c14)) J.out mem_x) (fun hHeld => ?_)
          clear hK K
          refine norm_ (a' := ?_) ?_ ?_
          rotate_left
          · show Act.put _ (some 25) _ = _
            simp only [Act.put, List.setIfInBounds_toArray, List.set_cons_zero, List.set_cons_succ, i64_w, i32_w, u8_w, u32_w]
            rfl
          refine one_ (i := 7) (N := (some 26)) (bl 10 511) rfl rfl (one_of HT_.out (by kernel_rfl)) (by decide) (fun K hK => ?_)
          refine goes_ Tryd.func21 (by kernel_rfl) rfl #[.int .i64 20, v25] (by rfl) rfl rfl (by (try simp only [List.map_toArray, List.map_cons, List.map_nil]); first | done | rfl | (simp only [List.length_drop, List.length_take]; rfl)) ?_
          refine (T_goG 20 _ _ _ (fun k => k = g7) (fun k hk => by rw [hk]; exact blk_lt BZ.out) (F.out (_, _) mem_x)).mono ?_
          rintro e w26 ⟨v26, rfl, hv_, hb_⟩
          refine ⟨_, rfl, ?_⟩
          obtain ⟨A26, c26, hve_⟩ := Kd.V_slice hv_
          replace hve_ : v26 = .slice A26 2 c26 := hve_
          subst hve_
          replace F := Aside0.mk (allg_step F.out hb_ hv_)
          replace J := Aside0.mk (J.out.below hb_)
          replace BZ := Aside0.mk (blk_below BZ.out hb_)
          clear hb_ hv_
          refine hK.out _ _ (KB.c (g := g4) (o := 15) (n := 0) (v := (.slice A14 0 c14)) J.out mem_x) (fun hHeld => ?_)
          clear hK K
          refine norm_ (a' := ?_) ?_ ?_
          rotate_left
          · show Act.put _ (some 26) _ = _
            simp only [Act.put, List.setIfInBounds_toArray, List.set_cons_zero, List.set_cons_succ, i64_w, i32_w, u8_w, u32_w]
            rfl
          refine last_ (i := 9) (N := none) (bl 10 1023) rfl rfl (one_of HT_.out (by kernel_rfl)) (by decide) (fun K hK => ?_)
          have hs0 := (blk_cell BZ.out 0).trans (show _ = some (.int .i64 0) from rfl)
          have hs1 := (blk_cell BZ.out 1).trans (show _ = some (.int .i64 0) from rfl)
          have hs2 := (blk_cell BZ.out 2).trans (show _ = some (.slice none 0 0) from rfl)
          have hf0 := blk_frozen BZ.out 0
          have hf1 := blk_frozen BZ.out 1
          have hf2 := blk_frozen BZ.out 2
          refine skip_ (w1 := ?_) (by rfl) rfl ?_ ?_
          rotate_left
          · go_simp
            rfl
          refine hK.out _ _ ?_
          clear hK K
          refine done_ (done_of HT_.out (by kernel_rfl)) ?_
          exact hQ v21 v23 v24 v25 A26 c26 g7 _ (allg_put F.out _ _ _) ((J.out.put GW.out NE.out _ _ _).more (blk_set3 BZ.out rfl _ _ _))
      · refine box_step (by rfl) (N := 7) rfl (cs := #[.int .i64 0, .int .i64 0, .slice none 0 0]) (t := 29) ?hr ?_
        (case hr => first | (go_simp; done) | (go_simp; rfl))
        intro g7 hg_ w7 hbox_ hb_
        replace F := Aside0.mk (allg_old (G := fun k => k = g7) F.out hb_ (fun k hk => by omega))
        have NE := Aside0.mk (J.out.ne hg_)
        have GW : Aside0 (w.heap.size ≤ g7) := ⟨by have := J.out.1.size; omega⟩
        replace J := Aside0.mk (J.out.below hb_)
        have BZ := Aside0.mk hbox_
        clear hbox_ hb_ hg_
        refine hK.out _ _ (KB.c (g := g4) (o := 15) (n := 0) (v := (.slice A14 0 c14)) J.out mem_x) (fun hHeld => ?_)
        clear hK K
        refine norm_ (a' := ?_) ?_ ?_
        rotate_left
        · show Act.put _ (some 7) _ = _
          simp only [Act.put, List.setIfInBounds_toArray, List.set_cons_zero, List.set_cons_succ, i64_w, i32_w, u8_w, u32_w]
          rfl
        refine one_ (i := 5) (N := (some 24)) (bl 10 319) rfl rfl (one_of HT_.out (by kernel_rfl)) (by decide) (fun K hK => ?_)
        refine goes_ Tryd.func23 (by kernel_rfl) rfl #[.int .i64 0, .agg #[.int .i64 (1), .int .i64 (0), v21], .agg #[.int .i64 (25), .int .i64 (1), v23]] (by rfl) rfl rfl (by (try simp only [List.map_toArray, List.map_cons, List.map_nil]); first | done | rfl | (simp only [List.length_drop, List.length_take]; rfl)) ?_
        refine (prim_goG 0 ⟨1, 0, []⟩ ⟨25, 1, []⟩ _ _ _ (fun k => k = g7) (fun k hk => by rw [hk]; exact blk_lt BZ.out) (F.out (_, _) mem_x) (F.out (_, _) mem_x)).mono ?_
        rintro e w24 ⟨v24, rfl, hv_, hb_⟩
        refine ⟨_, rfl, ?_⟩
        replace F := Aside0.mk (allg_step F.out hb_ hv_)
        replace J := Aside0.mk (J.out.below hb_)
        replace BZ := Aside0.mk (blk_below BZ.out hb_)
        clear hb_ hv_
        refine hK.out _ _ (KB.c (g := g4) (o := 15) (n := 0) (v := (.slice A14 0 c14)) J.out mem_x) (fun hHeld => ?_)
        clear hK K
        refine norm_ (a' := ?_) ?_ ?_
        rotate_left
        · show Act.put _ (some 24) _ = _
          simp only [Act.put, List.setIfInBounds_toArray, List.set_cons_zero, List.set_cons_succ, i64_w, i32_w, u8_w, u32_w]
          rfl
        refine one_ (i := 6) (N := (some 25)) (bl 10 383) rfl rfl (one_of HT_.out (by kernel_rfl)) (by decide) (fun K hK => ?_)
        refine lit_step_goG (fun k => k = g7) (fun k hk => by rw [hk]; exact blk_lt BZ.out) ?hg (N' := 25) ?hd (xs := ([⟨15, 0, []⟩, ⟨26, 0, [⟨1, 0, []⟩, ⟨25, 1, []⟩]⟩] : List S29)) (inner := ?inn25_3) ?hr ?hp (by simp) ?_
        (case hd => rfl)
        (case hg => rfl)
        (case hr => first | (go_simp; done) | (go_simp; rfl))
        (case hp => exact Reps.c3 ⟨_, rfl, F.out (_, _) mem_x⟩ (Reps.c3 ⟨_, rfl, F.out (_, _) mem_x⟩ (Reps.none _ _)))
        intro v25 w25 hv_ hb_
        replace F := Aside0.mk (allg_step F.out hb_ hv_)
        replace J := Aside0.mk (J.out.below hb_)
        replace BZ := Aside0.mk (blk_below BZ.out hb_)
        clear hb_ hv_
        refine hK.out _ _ (KB.c (g := g4) (o := 15) (n := 0) (v := (.slice A14 0 c14)) J.out mem_x) (fun hHeld => ?_)
        clear hK K
        refine norm_ (a' := ?_) ?_ ?_
        rotate_left
        · show Act.put _ (some 25) _ = _
          simp only [Act.put, List.setIfInBounds_toArray, List.set_cons_zero, List.set_cons_succ, i64_w, i32_w, u8_w, u32_w]
          rfl
        refine one_ (i := 7) (N := (some 26)) (bl 10 511) rfl rfl (one_of HT_.out (by kernel_rfl)) (by decide) (fun K hK => ?_)
        refine goes_ Tryd.func21 (by kernel_rfl) rfl #[.int .i64 20, v25] (by rfl) rfl rfl (by (try simp only [List.map_toArray, List.map_cons, List.map_nil]); first | done | rfl | (simp only [List.length_drop, List.length_take]; rfl)) ?_
        refine (T_goG 20 _ _ _ (fun k => k = g7) (fun k hk => by rw [hk]; exact blk_lt BZ.out) (F.out (_, _) mem_x)).mono ?_
        rintro e w26 ⟨v26, rfl, hv_, hb_⟩
        refine ⟨_, rfl, ?_⟩
        obtain ⟨A26, c26, hve_⟩ := Kd.V_slice hv_
        replace hve_ : v26 = .slice A26 2 c26 := hve_
        subst hve_
        replace F := Aside0.mk (allg_step F.out hb_ hv_)
        replace J := Aside0.mk (J.out.below hb_)
        replace BZ := Aside0.mk (blk_below BZ.out hb_)
        clear hb_ hv_
        refine hK.out _ _ (KB.c (g := g4) (o := 15) (n := 0) (v := (.slice A14 0 c14)) J.out mem_x) (fun hHeld => ?_)
        clear hK K
        refine norm_ (a' := ?_) ?_ ?_
        rotate_left
        · show Act.put _ (some 26) _ = _
          simp only [Act.put, List.setIfInBounds_toArray, List.set_cons_zero, List.set_cons_succ, i64_w, i32_w, u8_w, u32_w]
          rfl
        refine last_ (i := 9) (N := none) (bl 10 1023) rfl rfl (one_of HT_.out (by kernel_rfl)) (by decide) (fun K hK => ?_)
        have hs0 := (blk_cell BZ.out 0).trans (show _ = some (.int .i64 0) from rfl)
        have hs1 := (blk_cell BZ.out 1).trans (show _ = some (.int .i64 0) from rfl)
        have hs2 := (blk_cell BZ.out 2).trans (show _ = some (.slice none 0 0) from rfl)
        have hf0 := blk_frozen BZ.out 0
        have hf1 := blk_frozen BZ.out 1
        have hf2 := blk_frozen BZ.out 2
        refine skip_ (w1 := ?_) (by rfl) rfl ?_ ?_
        rotate_left
        · go_simp
          rfl
        refine hK.out _ _ ?_
        clear hK K
        refine done_ (done_of HT_.out (by kernel_rfl)) ?_
        exact hQ v21 v23 v24 v25 A26 c26 g7 _ (allg_put F.out _ _ _) ((J.out.put GW.out NE.out _ _ _).more (blk_set3 BZ.out rfl _ _ _))
    · refine box_step (by rfl) (N := 7) rfl (cs := #[.int .i64 0, .int .i64 0, .slice none 0 0]) (t := 29) ?hr ?_
      (case hr => first | (go_simp; done) | (go_simp; rfl))
      intro g7 hg_ w7 hbox_ hb_
      replace F := Aside0.mk (allg_old (G := fun k => k = g7) F.out hb_ (fun k hk => by omega))
      have NE := Aside0.mk (J.out.ne hg_)
      have GW : Aside0 (w.heap.size ≤ g7) := ⟨by have := J.out.1.size; omega⟩
      replace J := Aside0.mk (J.out.below hb_)
      have BZ := Aside0.mk hbox_
      clear hbox_ hb_ hg_
      refine hK.out _ _ (KB.c (g := g4) (o := 15) (n := 0) (v := (.slice A14 0 c14)) J.out mem_x) (fun hHeld => ?_)
      clear hK K
      refine norm_ (a' := ?_) ?_ ?_
      rotate_left
      · show Act.put _ (some 7) _ = _
        simp only [Act.put, List.setIfInBounds_toArray, List.set_cons_zero, List.set_cons_succ, i64_w, i32_w, u8_w, u32_w]
        rfl
      refine one_ (i := 4) (N := (some 23)) (bl 10 287) rfl rfl (one_of HT_.out (by kernel_rfl)) (by decide) (fun K hK => ?_)
      refine goesV_ Tryd.func22 (by kernel_rfl) rfl #[.int .i64 (1)] (by rfl) rfl rfl rfl (by (try simp only [List.map_toArray, List.map_cons, List.map_nil]); first | done | rfl | (simp only [List.length_drop, List.length_take]; rfl)) ?_
      refine (Int_goG (1) _ (fun k => k = g7) (fun k hk => by rw [hk]; exact blk_lt BZ.out)).mono ?_
      rintro e w23 ⟨v23, rfl, hv_, hb_⟩
      refine ⟨_, rfl, ?_⟩
      replace F := Aside0.mk (allg_step F.out hb_ hv_)
      replace J := Aside0.mk (J.out.below hb_)
      replace BZ := Aside0.mk (blk_below BZ.out hb_)
      clear hb_ hv_
      refine hK.out _ _ (KB.c (g := g4) (o := 15) (n := 0) (v := (.slice A14 0 c14)) J.out mem_x) (fun hHeld => ?_)
      clear hK K
      refine norm_ (a' := ?_) ?_ ?_
      rotate_left
      · show Act.put _ (some 23) _ = _
        simp only [Act.put, List.setIfInBounds_toArray, List.set_cons_zero, List.set_cons_succ, i64_w, i32_w, u8_w, u32_w]
        rfl
      refine one_ (i := 5) (N := (some 24)) (bl 10 319) rfl rfl (one_of HT_.out (by kernel_rfl)) (by decide) (fun K hK => ?_)
      refine goes_ Tryd.func23 (by kernel_rfl) rfl #[.int .i64 0, .agg #[.int .i64 (1), .int .i64 (0), v21], .agg #[.int .i64 (25), .int .i64 (1), v23]] (by rfl) rfl rfl (by (try simp only [List.map_toArray, List.map_cons, List.map_nil]); first | done | rfl | (simp only [List.length_drop, List.length_take]; rfl)) ?_
      refine (prim_goG 0 ⟨1, 0, []⟩ ⟨25, 1, []⟩ _ _ _ (fun k => k = g7) (fun k hk => by rw [hk]; exact blk_lt BZ.out) (F.out (_, _) mem_x) (F.out (_, _) mem_x)).mono ?_
      rintro e w24 ⟨v24, rfl, hv_, hb_⟩
      refine ⟨_, rfl, ?_⟩
      replace F := Aside0.mk (allg_step F.out hb_ hv_)
      replace J := Aside0.mk (J.out.below hb_)
      replace BZ := Aside0.mk (blk_below BZ.out hb_)
      clear hb_ hv_
      refine hK.out _ _ (KB.c (g := g4) (o := 15) (n := 0) (v := (.slice A14 0 c14)) J.out mem_x) (fun hHeld => ?_)
      clear hK K
      refine norm_ (a' := ?_) ?_ ?_
      rotate_left
      · show Act.put _ (some 24) _ = _
        simp only [Act.put, List.setIfInBounds_toArray, List.set_cons_zero, List.set_cons_succ, i64_w, i32_w, u8_w, u32_w]
        rfl
      refine one_ (i := 6) (N := (some 25)) (bl 10 383) rfl rfl (one_of HT_.out (by kernel_rfl)) (by decide) (fun K hK => ?_)
      refine lit_step_goG (fun k => k = g7) (fun k hk => by rw [hk]; exact blk_lt BZ.out) ?hg (N' := 25) ?hd (xs := ([⟨15, 0, []⟩, ⟨26, 0, [⟨1, 0, []⟩, ⟨25, 1, []⟩]⟩] : List S29)) (inner := ?inn25_4) ?hr ?hp (by simp) ?_
      (case hd => rfl)
      (case hg => rfl)
      (case hr => first | (go_simp; done) | (go_simp; rfl))
      (case hp => exact Reps.c3 ⟨_, rfl, F.out (_, _) mem_x⟩ (Reps.c3 ⟨_, rfl, F.out (_, _) mem_x⟩ (Reps.none _ _)))
      intro v25 w25 hv_ hb_
      replace F := Aside0.mk (allg_step F.out hb_ hv_)
      replace J := Aside0.mk (J.out.below hb_)
      replace BZ := Aside0.mk (blk_below BZ.out hb_)
      clear hb_ hv_
      refine hK.out _ _ (KB.c (g := g4) (o := 15) (n := 0) (v := (.slice A14 0 c14)) J.out mem_x) (fun hHeld => ?_)
      clear hK K
      refine norm_ (a' := ?_) ?_ ?_
      rotate_left
      · show Act.put _ (some 25) _ = _
        simp only [Act.put, List.setIfInBounds_toArray, List.set_cons_zero, List.set_cons_succ, i64_w, i32_w, u8_w, u32_w]
        rfl
      refine one_ (i := 7) (N := (some 26)) (bl 10 511) rfl rfl (one_of HT_.out (by kernel_rfl)) (by decide) (fun K hK => ?_)
      refine goes_ Tryd.func21 (by kernel_rfl) rfl #[.int .i64 20, v25] (by rfl) rfl rfl (by (try simp only [List.map_toArray, List.map_cons, List.map_nil]); first | done | rfl | (simp only [List.length_drop, List.length_take]; rfl)) ?_
      refine (T_goG 20 _ _ _ (fun k => k = g7) (fun k hk => by rw [hk]; exact blk_lt BZ.out) (F.out (_, _) mem_x)).mono ?_
      rintro e w26 ⟨v26, rfl, hv_, hb_⟩
      refine ⟨_, rfl, ?_⟩
      obtain ⟨A26, c26, hve_⟩ := Kd.V_slice hv_
      replace hve_ : v26 = .slice A26 2 c26 := hve_
      subst hve_
      replace F := Aside0.mk (allg_step F.out hb_ hv_)
      replace J := Aside0.mk (J.out.below hb_)
      replace BZ := Aside0.mk (blk_below BZ.out hb_)
      clear hb_ hv_
      refine hK.out _ _ (KB.c (g := g4) (o := 15) (n := 0) (v := (.slice A14 0 c14)) J.out mem_x) (fun hHeld => ?_)
      clear hK K
      refine norm_ (a' := ?_) ?_ ?_
      rotate_left
      · show Act.put _ (some 26) _ = _
        simp only [Act.put, List.setIfInBounds_toArray, List.set_cons_zero, List.set_cons_succ, i64_w, i32_w, u8_w, u32_w]
        rfl
      refine last_ (i := 9) (N := none) (bl 10 1023) rfl rfl (one_of HT_.out (by kernel_rfl)) (by decide) (fun K hK => ?_)
      have hs0 := (blk_cell BZ.out 0).trans (show _ = some (.int .i64 0) from rfl)
      have hs1 := (blk_cell BZ.out 1).trans (show _ = some (.int .i64 0) from rfl)
      have hs2 := (blk_cell BZ.out 2).trans (show _ = some (.slice none 0 0) from rfl)
      have hf0 := blk_frozen BZ.out 0
      have hf1 := blk_frozen BZ.out 1
      have hf2 := blk_frozen BZ.out 2
      refine skip_ (w1 := ?_) (by rfl) rfl ?_ ?_
      rotate_left
      · go_simp
        rfl
      refine hK.out _ _ ?_
      clear hK K
      refine done_ (done_of HT_.out (by kernel_rfl)) ?_
      exact hQ v21 v23 v24 v25 A26 c26 g7 _ (allg_put F.out _ _ _) ((J.out.put GW.out NE.out _ _ _).more (blk_set3 BZ.out rfl _ _ _))
  · refine box_step (by rfl) (N := 7) rfl (cs := #[.int .i64 0, .int .i64 0, .slice none 0 0]) (t := 29) ?hr ?_
    (case hr => first | (go_simp; done) | (go_simp; rfl))
    intro g7 hg_ w7 hbox_ hb_
    replace F := Aside0.mk (allg_old (G := fun k => k = g7) F.out hb_ (fun k hk => by omega))
    have NE := Aside0.mk (J.out.ne hg_)
    have GW : Aside0 (w.heap.size ≤ g7) := ⟨by have := J.out.1.size; omega⟩
    replace J := Aside0.mk (J.out.below hb_)
    have BZ := Aside0.mk hbox_
    clear hbox_ hb_ hg_
    refine hK.out _ _ (KB.c (g := g4) (o := 15) (n := 0) (v := (.slice A14 0 c14)) J.out mem_x) (fun hHeld => ?_)
    clear hK K
    refine norm_ (a' := ?_) ?_ ?_
    rotate_left
    · show Act.put _ (some 7) _ = _
      simp only [Act.put, List.setIfInBounds_toArray, List.set_cons_zero, List.set_cons_succ, i64_w, i32_w, u8_w, u32_w]
      rfl
    refine one_ (i := 2) (N := (some 21)) (bl 10 271) rfl rfl (one_of HT_.out (by kernel_rfl)) (by decide) (fun K hK => ?_)
    refine goesV_ Tryd.func20 (by kernel_rfl) rfl #[.int .i64 (0)] (by rfl) rfl rfl rfl (by (try simp only [List.map_toArray, List.map_cons, List.map_nil]); first | done | rfl | (simp only [List.length_drop, List.length_take]; rfl)) ?_
    refine (V_goG (0) _ (fun k => k = g7) (fun k hk => by rw [hk]; exact blk_lt BZ.out)).mono ?_
    rintro e w21 ⟨v21, rfl, hv_, hb_⟩
    refine ⟨_, rfl, ?_⟩
    replace F := Aside0.mk (allg_step F.out hb_ hv_)
    replace J := Aside0.mk (J.out.below hb_)
    replace BZ := Aside0.mk (blk_below BZ.out hb_)
    clear hb_ hv_
    refine hK.out _ _ (KB.c (g := g4) (o := 15) (n := 0) (v := (.slice A14 0 c14)) J.out mem_x) (fun hHeld => ?_)
    clear hK K
    refine norm_ (a' := ?_) ?_ ?_
    rotate_left
    · show Act.put _ (some 21) _ = _
      simp only [Act.put, List.setIfInBounds_toArray, List.set_cons_zero, List.set_cons_succ, i64_w, i32_w, u8_w, u32_w]
      rfl
    refine one_ (i := 4) (N := (some 23)) (bl 10 287) rfl rfl (one_of HT_.out (by kernel_rfl)) (by decide) (fun K hK => ?_)
    refine goesV_ Tryd.func22 (by kernel_rfl) rfl #[.int .i64 (1)] (by rfl) rfl rfl rfl (by (try simp only [List.map_toArray, List.map_cons, List.map_nil]); first | done | rfl | (simp only [List.length_drop, List.length_take]; rfl)) ?_
    refine (Int_goG (1) _ (fun k => k = g7) (fun k hk => by rw [hk]; exact blk_lt BZ.out)).mono ?_
    rintro e w23 ⟨v23, rfl, hv_, hb_⟩
    refine ⟨_, rfl, ?_⟩
    replace F := Aside0.mk (allg_step F.out hb_ hv_)
    replace J := Aside0.mk (J.out.below hb_)
    replace BZ := Aside0.mk (blk_below BZ.out hb_)
    clear hb_ hv_
    refine hK.out _ _ (KB.c (g := g4) (o := 15) (n := 0) (v := (.slice A14 0 c14)) J.out mem_x) (fun hHeld => ?_)
    clear hK K
    refine norm_ (a' := ?_) ?_ ?_
    rotate_left
    · show Act.put _ (some 23) _ = _
      simp only [Act.put, List.setIfInBounds_toArray, List.set_cons_zero, List.set_cons_succ, i64_w, i32_w, u8_w, u32_w]
      rfl
    refine one_ (i := 5) (N := (some 24)) (bl 10 319) rfl rfl (one_of HT_.out (by kernel_rfl)) (by decide) (fun K hK => ?_)
    refine goes_ Tryd.func23 (by kernel_rfl) rfl #[.int .i64 0, .agg #[.int .i64 (1), .int .i64 (0), v21], .agg #[.int .i64 (25), .int .i64 (1), v23]] (by rfl) rfl rfl (by (try simp only [List.map_toArray, List.map_cons, List.map_nil]); first | done | rfl | (simp only [List.length_drop, List.length_take]; rfl)) ?_
    refine (prim_goG 0 ⟨1, 0, []⟩ ⟨25, 1, []⟩ _ _ _ (fun k => k = g7) (fun k hk => by rw [hk]; exact blk_lt BZ.out) (F.out (_, _) mem_x) (F.out (_, _) mem_x)).mono ?_
    rintro e w24 ⟨v24, rfl, hv_, hb_⟩
    refine ⟨_, rfl, ?_⟩
    replace F := Aside0.mk (allg_step F.out hb_ hv_)
    replace J := Aside0.mk (J.out.below hb_)
    replace BZ := Aside0.mk (blk_below BZ.out hb_)
    clear hb_ hv_
    refine hK.out _ _ (KB.c (g := g4) (o := 15) (n := 0) (v := (.slice A14 0 c14)) J.out mem_x) (fun hHeld => ?_)
    clear hK K
    refine norm_ (a' := ?_) ?_ ?_
    rotate_left
    · show Act.put _ (some 24) _ = _
      simp only [Act.put, List.setIfInBounds_toArray, List.set_cons_zero, List.set_cons_succ, i64_w, i32_w, u8_w, u32_w]
      rfl
    refine one_ (i := 6) (N := (some 25)) (bl 10 383) rfl rfl (one_of HT_.out (by kernel_rfl)) (by decide) (fun K hK => ?_)
    refine lit_step_goG (fun k => k = g7) (fun k hk => by rw [hk]; exact blk_lt BZ.out) ?hg (N' := 25) ?hd (xs := ([⟨15, 0, []⟩, ⟨26, 0, [⟨1, 0, []⟩, ⟨25, 1, []⟩]⟩] : List S29)) (inner := ?inn25_5) ?hr ?hp (by simp) ?_
    (case hd => rfl)
    (case hg => rfl)
    (case hr => first | (go_simp; done) | (go_simp; rfl))
    (case hp => exact Reps.c3 ⟨_, rfl, F.out (_, _) mem_x⟩ (Reps.c3 ⟨_, rfl, F.out (_, _) mem_x⟩ (Reps.none _ _)))
    intro v25 w25 hv_ hb_
    replace F := Aside0.mk (allg_step F.out hb_ hv_)
    replace J := Aside0.mk (J.out.below hb_)
    replace BZ := Aside0.mk (blk_below BZ.out hb_)
    clear hb_ hv_
    refine hK.out _ _ (KB.c (g := g4) (o := 15) (n := 0) (v := (.slice A14 0 c14)) J.out mem_x) (fun hHeld => ?_)
    clear hK K
    refine norm_ (a' := ?_) ?_ ?_
    rotate_left
    · show Act.put _ (some 25) _ = _
      simp only [Act.put, List.setIfInBounds_toArray, List.set_cons_zero, List.set_cons_succ, i64_w, i32_w, u8_w, u32_w]
      rfl
    refine one_ (i := 7) (N := (some 26)) (bl 10 511) rfl rfl (one_of HT_.out (by kernel_rfl)) (by decide) (fun K hK => ?_)
    refine goes_ Tryd.func21 (by kernel_rfl) rfl #[.int .i64 20, v25] (by rfl) rfl rfl (by (try simp only [List.map_toArray, List.map_cons, List.map_nil]); first | done | rfl | (simp only [List.length_drop, List.length_take]; rfl)) ?_
    refine (T_goG 20 _ _ _ (fun k => k = g7) (fun k hk => by rw [hk]; exact blk_lt BZ.out) (F.out (_, _) mem_x)).mono ?_
    rintro e w26 ⟨v26, rfl, hv_, hb_⟩
    refine ⟨_, rfl, ?_⟩
    obtain ⟨A26, c26, hve_⟩ := Kd.V_slice hv_
    replace hve_ : v26 = .slice A26 2 c26 := hve_
    subst hve_
    replace F := Aside0.mk (allg_step F.out hb_ hv_)
    replace J := Aside0.mk (J.out.below hb_)
    replace BZ := Aside0.mk (blk_below BZ.out hb_)
    clear hb_ hv_
    refine hK.out _ _ (KB.c (g := g4) (o := 15) (n := 0) (v := (.slice A14 0 c14)) J.out mem_x) (fun hHeld => ?_)
    clear hK K
    refine norm_ (a' := ?_) ?_ ?_
    rotate_left
    · show Act.put _ (some 26) _ = _
      simp only [Act.put, List.setIfInBounds_toArray, List.set_cons_zero, List.set_cons_succ, i64_w, i32_w, u8_w, u32_w]
      rfl
    refine last_ (i := 9) (N := none) (bl 10 1023) rfl rfl (one_of HT_.out (by kernel_rfl)) (by decide) (fun K hK => ?_)
    have hs0 := (blk_cell BZ.out 0).trans (show _ = some (.int .i64 0) from rfl)
    have hs1 := (blk_cell BZ.out 1).trans (show _ = some (.int .i64 0) from rfl)
    have hs2 := (blk_cell BZ.out 2).trans (show _ = some (.slice none 0 0) from rfl)
    have hf0 := blk_frozen BZ.out 0
    have hf1 := blk_frozen BZ.out 1
    have hf2 := blk_frozen BZ.out 2
    refine skip_ (w1 := ?_) (by rfl) rfl ?_ ?_
    rotate_left
    · go_simp
      rfl
    refine hK.out _ _ ?_
    clear hK K
    refine done_ (done_of HT_.out (by kernel_rfl)) ?_
    exact hQ v21 v23 v24 v25 A26 c26 g7 _ (allg_put F.out _ _ _) ((J.out.put GW.out NE.out _ _ _).more (blk_set3 BZ.out rfl _ _ _))
end Go.Proofs.YtnecmclnokikoaaDoor.P
/- RunKnown: its drawn region 6 (genrk.py). -/
namespace Go.Proofs.YtnecmclnokikoaaDoor.P
open Go.RowKit Go.Proofs.YtnecmclnokikoaaDoorW.PrintWords Go.Proofs.YtnecmclnokikoaaDoorW.PrintLast Go.Proofs.YtnecmclnokikoaaDoorW.PrintMore
attribute [local go_sem] max2_int min2_int max_two min_two max_three min_three max_four min_four
set_option linter.unusedVariables false
set_option linter.unusedSimpArgs false
def rk6.T6 : Bool × List (List Nat × List Nat) := (true, [([], []), ([], []), ([], []), ([2], [2]), ([], []), ([4, 3], [4]), ([3, 5, 5], [3, 5]), ([1, 6], [1, 6]), ([7, 6], [7]), ([0, 8], [0, 8]), ([9, 8], [9]), ([], []), ([11, 10, 10, 0, 1, 2, 3, 4, 5, 6, 7, 8, 9, 10, 11], [10, 11])])
def rk6.B6 : List Nat := [0, 0, 0, 4, 0, 28, 60, 126, 254, 511, 1023, 0, 4095]
theorem rk6.tab6 : rtab .any (opsOf Tryd.f5 6) = rk6.T6 := by kernel_rfl
theorem rk6.bits6 : waitsOk rk6.T6.2 rk6.B6 = true := by kernel_rfl
set_option maxHeartbeats 32000000 in
set_option maxRecDepth 100000 in
theorem rk6 (a0 : Int) (g4 : Nat) (A14 : Option Addr) (c14 : Nat) (v17 : Value) (A18 : Option Addr) (c18 : Nat) (g6 : Nat) (v21 : Value) (v23 : Value) (v24 : Value) (v25 : Value) (A26 : Option Addr) (c26 : Nat) (g7 : Nat) (w x : World) {ops : Array Oper} {K : Act → World → Prop} {R : Ending → World → Prop} (hops : ops = opsOf Tryd.f5 6) (hF : ALLG x (fun _ => False) [((.slice A14 0 c14), ([] : List S29)), ((.slice A18 2 c18), ([⟨15, 0, []⟩, ⟨15, 0, []⟩] : List S29)), ((.slice A26 2 c26), ([⟨15, 0, []⟩, ⟨26, 0, [⟨1, 0, []⟩, ⟨25, 1, []⟩]⟩] : List S29))]) (hJ : KB w x [(g7, 20, 0, (.slice A26 2 c26)), (g6, 16, 0, (.slice A18 2 c18)), (g4, 15, 0, (.slice A14 0 c14))])
    (hQ : ∀ (v30 : Value) (v32 : Value) (v33 : Value) (v34 : Value) (v35 : Value) (v36 : Value) (A37 : Option Addr) (c37 : Nat) (g8 : Nat) (x' : World), ALLG x' (fun _ => False) [((.slice A37 2 c37), ([⟨15, 0, []⟩, ⟨20, 0, [⟨15, 0, []⟩, ⟨26, 0, [⟨1, 0, []⟩, ⟨1, 1, []⟩]⟩]⟩] : List S29)), (v36, ([⟨15, 0, []⟩, ⟨20, 0, [⟨15, 0, []⟩, ⟨26, 0, [⟨1, 0, []⟩, ⟨1, 1, []⟩]⟩]⟩] : List S29)), (v35, ([⟨15, 0, []⟩, ⟨26, 0, [⟨1, 0, []⟩, ⟨1, 1, []⟩]⟩] : List S29)), (v34, ([⟨15, 0, []⟩, ⟨26, 0, [⟨1, 0, []⟩, ⟨1, 1, []⟩]⟩] : List S29)), (v33, ([⟨1, 0, []⟩, ⟨1, 1, []⟩] : List S29)), (v32, ([] : List S29)), (v30, ([] : List S29)), ((.slice A14 0 c14), ([] : List S29)), ((.slice A18 2 c18), ([⟨15, 0, []⟩, ⟨15, 0, []⟩] : List S29)), ((.slice A26 2 c26), ([⟨15, 0, []⟩, ⟨26, 0, [⟨1, 0, []⟩, ⟨25, 1, []⟩]⟩] : List S29))] → KB w x' [(g8, 20, 0, (.slice A37 2 c37)), (g7, 20, 0, (.slice A26 2 c26)), (g6, 16, 0, (.slice A18 2 c18)), (g4, 15, 0, (.slice A14 0 c14))] → K ({ tmps := #[.int .i64 a0, undef, .bool false, .func (.func 20) #[] #[], .pointer (some ⟨g4, 0, none⟩), .func (.func 22) #[] #[], .pointer (some ⟨g6, 0, none⟩), .pointer (some ⟨g7, 0, none⟩), .pointer (some ⟨g8, 0, none⟩), undef, undef, undef, .bool true, .bool false, .agg #[.int .i64 (15), .int .i64 (0), (.slice A14 0 c14)], .agg #[.int .i64 (15), .int .i64 (0), (.slice A14 0 c14)], .agg #[.int .i64 (15), .int .i64 (0), (.slice A14 0 c14)], v17, .agg #[.int .i64 (16), .int .i64 (0), (.slice A18 2 c18)], .agg #[.int .i64 (15), .int .i64 (0), (.slice A14 0 c14)], .func (.func 20) #[] #[], .agg #[.int .i64 (1), .int .i64 (0), v21], .func (.func 22) #[] #[], .agg #[.int .i64 (25), .int .i64 (1), v23], .agg #[.int .i64 (26), .int .i64 (0), v24], v25, .agg #[.int .i64 (20), .int .i64 (0), (.slice A26 2 c26)], .agg #[.int .i64 (15), .int .i64 (0), (.slice A14 0 c14)], .agg #[.int .i64 (15), .int .i64 (0), (.slice A14 0 c14)], .func (.func 20) #[] #[], .agg #[.int .i64 (1), .int .i64 (0), v30], .func (.func 20) #[] #[], .agg #[.int .i64 (1), .int .i64 (1), v32], .agg #[.int .i64 (26), .int .i64 (0), v33], v34, .agg #[.int .i64 (20), .int .i64 (0), v35], v36, .agg #[.int .i64 (20), .int .i64 (0), (.slice A37 2 c37)], undef, undef, undef, undef, undef, undef, undef, undef, undef, undef, undef, undef, undef, undef, undef, undef, undef, undef, undef, undef, undef, undef, undef, undef, undef, undef, undef, undef, undef, undef, undef, undef, undef, undef, undef, undef, undef, undef, undef, undef, undef, undef, undef, undef, undef, undef, undef, undef, undef, undef, undef, undef, undef, undef, undef, undef, undef, undef, undef, undef, undef, undef, undef, undef, undef, undef, undef, undef, undef, undef, undef, undef, undef, undef, undef, undef, undef, undef, undef, undef, undef, undef, undef, undef, undef, undef, undef, undef, undef, undef, undef, undef, undef, undef, undef, undef, undef, undef, undef, undef, undef, undef, undef, undef, undef, undef, undef, undef, undef, undef, undef, undef, undef, undef, undef, undef, undef, undef, undef, undef, undef, undef, undef, undef, undef, undef, undef, undef, undef, undef, undef, undef, undef, undef, undef, undef, undef, undef, undef, undef, undef, undef, undef, undef, undef, undef, undef, undef, undef, undef, undef, undef, undef, undef, undef, undef, undef, undef, undef, undef, undef, undef, undef, undef, undef, undef, undef], defers := [] } : Act) x') :
    (Code.region 6 ops true).wp Tryd.prog (Exit.then K (bodyPost Tryd.prog Tryd.f5 R)) ({ tmps := #[.int .i64 a0, undef, .bool false, .func (.func 20) #[] #[], .pointer (some ⟨g4, 0, none⟩), .func (.func 22) #[] #[], .pointer (some ⟨g6, 0, none⟩), .pointer (some ⟨g7, 0, none⟩), undef, undef, undef, undef, .bool true, .bool false, .agg #[.int .i64 (15), .int .i64 (0), (.slice A14 0 c14)], .agg #[.int .i64 (15), .int .i64 (0), (.slice A14 0 c14)], .agg #[.int .i64 (15), .int .i64 (0), (.slice A14 0 c14)], v17, .agg #[.int .i64 (16), .int .i64 (0), (.slice A18 2 c18)], .agg #[.int .i64 (15), .int .i64 (0), (.slice A14 0 c14)], .func (.func 20) #[] #[], .agg #[.int .i64 (1), .int .i64 (0), v21], .func (.func 22) #[] #[], .agg #[.int .i64 (25), .int .i64 (1), v23], .agg #[.int .i64 (26), .int .i64 (0), v24], v25, .agg #[.int .i64 (20), .int .i64 (0), (.slice A26 2 c26)], undef, undef, undef, undef, undef, undef, undef, undef, undef, undef, undef, undef, undef, undef, undef, undef, undef, undef, undef, undef, undef, undef, undef, undef, undef, undef, undef, undef, undef, undef, undef, undef, undef, undef, undef, undef, undef, undef, undef, undef, undef, undef, undef, undef, undef, undef, undef, undef, undef, undef, undef, undef, undef, undef, undef, undef, undef, undef, undef, undef, undef, undef, undef, undef, undef, undef, undef, undef, undef, undef, undef, undef, undef, undef, undef, undef, undef, undef, undef, undef, undef, undef, undef, undef, undef, undef, undef, undef, undef, undef, undef, undef, undef, undef, undef, undef, undef, undef, undef, undef, undef, undef, undef, undef, undef, undef, undef, undef, undef, undef, undef, undef, undef, undef, undef, undef, undef, undef, undef, undef, undef, undef, undef, undef, undef, undef, undef, undef, undef, undef, undef, undef, undef, undef, undef, undef, undef, undef, undef, undef, undef, undef, undef, undef, undef, undef, undef, undef, undef, undef, undef, undef, undef, undef, undef, undef, undef, undef, undef, undef, undef, undef, undef, undef, undef, undef, undef, undef, undef, undef, undef, undef, undef, undef, undef, undef, undef, undef], defers := [] } : Act) x := by
  subst hops
  have hu29 := Tryd.underlying29
  conv in (opsOf Tryd.f5 6) => whnf
  have F := Aside0.mk hF
  have J := Aside0.mk hJ
  clear hF hJ
  refine start_ (n := 13) (S := (fun w' => w'.cell? ⟨g4, 0, none⟩ = some (.int .i64 15) ∧ w'.cell? ⟨g4, 1, none⟩ = some (.int .i64 0) ∧ w'.cell? ⟨g4, 2, none⟩ = some ((.slice A14 0 c14)))) (ds := [12]) (bl 13 0) (by kernel_rfl) rfl (by kernel_rfl) (KB.c (g := g4) (o := 15) (n := 0) (v := (.slice A14 0 c14)) (J.out.below (w' := x.drew) (below_drew1 (Below.refl _ _))) mem_x) (fun hHeld => ?_)
  refine with_tabW rk6.tab6 rk6.bits6 (fun HT_ HW_ => ?_)
  have hbd_ : Below x.heap.size x x.drew := below_drew1 (Below.refl _ _)
  replace F := Aside0.mk (allg_on F.out hbd_)
  replace J := Aside0.mk (J.out.below hbd_)
  clear hbd_
  generalize x.drew = y at F J hHeld ⊢
  refine pure_ (i := 2) (N := (some 29)) (v := ?_) (a' := ?_) (bl 13 4) rfl rfl (any_of HT_.out (by kernel_rfl)) (fun _ _ _ h => h) (Or.inl ⟨by rfl, ?_⟩) ?_ ?_
  rotate_left
  · intro w'
    go_simp
    try with_reducible rfl
  rotate_left
  · simp only [Act.put, List.setIfInBounds_toArray, List.set_cons_zero, List.set_cons_succ, i64_w, i32_w, u8_w, u32_w]
    rfl
  refine pure_ (i := 4) (N := (some 31)) (v := ?_) (a' := ?_) (bl 13 20) rfl rfl (any_of HT_.out (by kernel_rfl)) (fun _ _ _ h => h) (Or.inl ⟨by rfl, ?_⟩) ?_ ?_
  rotate_left
  · intro w'
    go_simp
    try with_reducible rfl
  rotate_left
  · simp only [Act.put, List.setIfInBounds_toArray, List.set_cons_zero, List.set_cons_succ, i64_w, i32_w, u8_w, u32_w]
    rfl
  refine take_ (i := 0) (N := (some 27)) (v := ?_) (a' := ?_) (bl 13 21) rfl rfl (take_ofW HT_.out HW_.out (by kernel_rfl)) (fun _ _ _ h => h) (Or.inl ⟨by rfl, ?_⟩) hHeld ?_ ?_
  rotate_left
  · rintro w' ⟨s0, s1, s2⟩
    go_simp
    try with_reducible rfl
  rotate_left
  · simp only [Act.put, List.setIfInBounds_toArray, List.set_cons_zero, List.set_cons_succ, i64_w, i32_w, u8_w, u32_w]
    rfl
  refine take_ (i := 1) (N := (some 28)) (v := ?_) (a' := ?_) (bl 13 23) rfl rfl (take_ofW HT_.out HW_.out (by kernel_rfl)) (fun _ _ _ h => h) (Or.inl ⟨by rfl, ?_⟩) hHeld ?_ ?_
  rotate_left
  · rintro w' ⟨s0, s1, s2⟩
    go_simp
    try with_reducible rfl
  rotate_left
  · simp only [Act.put, List.setIfInBounds_toArray, List.set_cons_zero, List.set_cons_succ, i64_w, i32_w, u8_w, u32_w]
    rfl
  refine two_ (i := 3) (j := 11) (Ni := (some 30)) (Nj := (some 8)) (bl 13 31) (bl 13 2071) rfl rfl rfl rfl (two_of HT_.out (by kernel_rfl)) (by decide) (by decide) (fun K hK => ?_) (fun K hK => ?_)
  · refine goesV_ Tryd.func20 (by kernel_rfl) rfl #[.int .i64 (0)] (by rfl) rfl rfl rfl (by (try simp only [List.map_toArray, List.map_cons, List.map_nil]); first | done | rfl | (simp only [List.length_drop, List.length_take]; rfl)) ?_
    refine (V_goG (0) _ (fun _ => False) (fun _ h => h.elim)).mono ?_
    rintro e w30 ⟨v30, rfl, hv_, hb_⟩
    refine ⟨_, rfl, ?_⟩
    replace F := Aside0.mk (allg_step F.out hb_ hv_)
    replace J := Aside0.mk (J.out.below hb_)
    clear hb_ hv_
    refine hK.out _ _ (KB.c (g := g4) (o := 15) (n := 0) (v := (.slice A14 0 c14)) J.out mem_x) (fun hHeld => ?_)
    clear hK K
    refine norm_ (a' := ?_) ?_ ?_
    rotate_left
    · show Act.put _ (some 30) _ = _
      simp only [Act.put, List.setIfInBounds_toArray, List.set_cons_zero, List.set_cons_succ, i64_w, i32_w, u8_w, u32_w]
      rfl
    refine two_ (i := 5) (j := 11) (Ni := (some 32)) (Nj := (some 8)) (bl 13 63) (bl 13 2079) rfl rfl rfl rfl (two_of HT_.out (by kernel_rfl)) (by decide) (by decide) (fun K hK => ?_) (fun K hK => ?_)
    · refine goesV_ Tryd.func20 (by kernel_rfl) rfl #[.int .i64 (1)] (by rfl) rfl rfl rfl (by (try simp only [List.map_toArray, List.map_cons, List.map_nil]); first | done | rfl | (simp only [List.length_drop, List.length_take]; rfl)) ?_
      refine (V_goG (1) _ (fun _ => False) (fun _ h => h.elim)).mono ?_
      rintro e w32 ⟨v32, rfl, hv_, hb_⟩
      refine ⟨_, rfl, ?_⟩
      replace F := Aside0.mk (allg_step F.out hb_ hv_)
      replace J := Aside0.mk (J.out.below hb_)
      clear hb_ hv_
      refine hK.out _ _ (KB.c (g := g4) (o := 15) (n := 0) (v := (.slice A14 0 c14)) J.out mem_x) (fun hHeld => ?_)
      clear hK K
      refine norm_ (a' := ?_) ?_ ?_
      rotate_left
      · show Act.put _ (some 32) _ = _
        simp only [Act.put, List.setIfInBounds_toArray, List.set_cons_zero, List.set_cons_succ, i64_w, i32_w, u8_w, u32_w]
        rfl
      refine two_ (i := 6) (j := 11) (Ni := (some 33)) (Nj := (some 8)) (bl 13 127) (bl 13 2111) rfl rfl rfl rfl (two_of HT_.out (by kernel_rfl)) (by decide) (by decide) (fun K hK => ?_) (fun K hK => ?_)
      · refine goes_ Tryd.func23 (by kernel_rfl) rfl #[.int .i64 0, .agg #[.int .i64 (1), .int .i64 (0), v30], .agg #[.int .i64 (1), .int .i64 (1), v32]] (by rfl) rfl rfl (by (try simp only [List.map_toArray, List.map_cons, List.map_nil]); first | done | rfl | (simp only [List.length_drop, List.length_take]; rfl)) ?_
        refine (prim_goG 0 ⟨1, 0, []⟩ ⟨1, 1, []⟩ _ _ _ (fun _ => False) (fun _ h => h.elim) (F.out (_, _) mem_x) (F.out (_, _) mem_x)).mono ?_
        rintro e w33 ⟨v33, rfl, hv_, hb_⟩
        refine ⟨_, rfl, ?_⟩
        replace F := Aside0.mk (allg_step F.out hb_ hv_)
        replace J := Aside0.mk (J.out.below hb_)
        clear hb_ hv_
        refine hK.out _ _ (KB.c (g := g4) (o := 15) (n := 0) (v := (.slice A14 0 c14)) J.out mem_x) (fun hHeld => ?_)
        clear hK K
        refine norm_ (a' := ?_) ?_ ?_
        rotate_left
        · show Act.put _ (some 33) _ = _
          simp only [Act.put, List.setIfInBounds_toArray, List.set_cons_zero, List.set_cons_succ, i64_w, i32_w, u8_w, u32_w]
          rfl
        refine two_ (i := 7) (j := 11) (Ni := (some 34)) (Nj := (some 8)) (bl 13 255) (bl 13 2175) rfl rfl rfl rfl (two_of HT_.out (by kernel_rfl)) (by decide) (by decide) (fun K hK => ?_) (fun K hK => ?_)
        · refine lit_step_goG (fun _ => False) (fun _ h => h.elim) ?hg (N' := 34) ?hd (xs := ([⟨15, 0, []⟩, ⟨26, 0, [⟨1, 0, []⟩, ⟨1, 1, []⟩]⟩] : List S29)) (inner := ?inn34_6) ?hr ?hp (by simp) ?_
          (case hd => rfl)
          (case hg => rfl)
          (case hr => first | (go_simp; done) | (go_simp; rfl))
          (case hp => exact Reps.c3 ⟨_, rfl, F.out (_, _) mem_x⟩ (Reps.c3 ⟨_, rfl, F.out (_, _) mem_x⟩ (Reps.none _ _)))
          intro v34 w34 hv_ hb_
          replace F := Aside0.mk (allg_step F.out hb_ hv_)
          replace J := Aside0.mk (J.out.below hb_)
          clear hb_ hv_
          refine hK.out _ _ (KB.c (g := g4) (o := 15) (n := 0) (v := (.slice A14 0 c14)) J.out mem_x) (fun hHeld => ?_)
          clear hK K
          refine norm_ (a' := ?_) ?_ ?_
          rotate_left
          · show Act.put _ (some 34) _ = _
            simp only [Act.put, List.setIfInBounds_toArray, List.set_cons_zero, List.set_cons_succ, i64_w, i32_w, u8_w, u32_w]
            rfl
          refine two_ (i := 8) (j := 11) (Ni := (some 35)) (Nj := (some 8)) (bl 13 511) (bl 13 2303) rfl rfl rfl rfl (two_of HT_.out (by kernel_rfl)) (by decide) (by decide) (fun K hK => ?_) (fun K hK => ?_)
          · refine goes_ Tryd.func21 (by kernel_rfl) rfl #[.int .i64 20, v34] (by rfl) rfl rfl (by (try simp only [List.map_toArray, List.map_cons, List.map_nil]); first | done | rfl | (simp only [List.length_drop, List.length_take]; rfl)) ?_
            refine (T_goG 20 _ _ _ (fun _ => False) (fun _ h => h.elim) (F.out (_, _) mem_x)).mono ?_
            rintro e w35 ⟨v35, rfl, hv_, hb_⟩
            refine ⟨_, rfl, ?_⟩
            replace F := Aside0.mk (allg_step F.out hb_ hv_)
            replace J := Aside0.mk (J.out.below hb_)
            clear hb_ hv_
            refine hK.out _ _ (KB.c (g := g4) (o := 15) (n := 0) (v := (.slice A14 0 c14)) J.out mem_x) (fun hHeld => ?_)
            clear hK K
            refine norm_ (a' := ?_) ?_ ?_
            rotate_left
            · show Act.put _ (some 35) _ = _
              simp only [Act.put, List.setIfInBounds_toArray, List.set_cons_zero, List.set_cons_succ, i64_w, i32_w, u8_w, u32_w]
              rfl
            refine two_ (i := 9) (j := 11) (Ni := (some 36)) (Nj := (some 8)) (bl 13 1023) (bl 13 2559) rfl rfl rfl rfl (two_of HT_.out (by kernel_rfl)) (by decide) (by decide) (fun K hK => ?_) (fun K hK => ?_)
            · refine lit_step_goG (fun _ => False) (fun _ h => h.elim) ?hg (N' := 36) ?hd (xs := ([⟨15, 0, []⟩, ⟨20, 0, [⟨15, 0, []⟩, ⟨26, 0, [⟨1, 0, []⟩, ⟨1, 1, []⟩]⟩]⟩] : List S29)) (inner := ?inn36_7) ?hr ?hp (by simp) ?_
              (case hd => rfl)
              (case hg => rfl)
              (case hr => first | (go_simp; done) | (go_simp; rfl))
              (case hp => exact Reps.c3 ⟨_, rfl, F.out (_, _) mem_x⟩ (Reps.c3 ⟨_, rfl, F.out (_, _) mem_x⟩ (Reps.none _ _)))
              intro v36 w36 hv_ hb_
              replace F := Aside0.mk (allg_step F.out hb_ hv_)
              replace J := Aside0.mk (J.out.below hb_)
              clear hb_ hv_
              refine hK.out _ _ (KB.c (g := g4) (o := 15) (n := 0) (v := (.slice A14 0 c14)) J.out mem_x) (fun hHeld => ?_)
              clear hK K
              refine norm_ (a' := ?_) ?_ ?_
              rotate_left
              · show Act.put _ (some 36) _ = _
                simp only [Act.put, List.setIfInBounds_toArray, List.set_cons_zero, List.set_cons_succ, i64_w, i32_w, u8_w, u32_w]
                rfl
              refine two_ (i := 10) (j := 11) (Ni := (some 37)) (Nj := (some 8)) (bl 13 2047) (bl 13 3071) rfl rfl rfl rfl (two_of HT_.out (by kernel_rfl)) (by decide) (by decide) (fun K hK => ?_) (fun K hK => ?_)
              · refine goes_ Tryd.func21 (by kernel_rfl) rfl #[.int .i64 20, v36] (by rfl) rfl rfl (by (try simp only [List.map_toArray, List.map_cons, List.map_nil]); first | done | rfl | (simp only [List.length_drop, List.length_take]; rfl)) ?_
                refine (T_goG 20 _ _ _ (fun _ => False) (fun _ h => h.elim) (F.out (_, _) mem_x)).mono ?_
                rintro e w37 ⟨v37, rfl, hv_, hb_⟩
                refine ⟨_, rfl, ?_⟩
                obtain ⟨A37, c37, hve_⟩ := Kd.V_slice hv_
                replace hve_ : v37 = .slice A37 2 c37 := hve_
                subst hve_
                replace F := Aside0.mk (allg_step F.out hb_ hv_)
                replace J := Aside0.mk (J.out.below hb_)
                clear hb_ hv_
                refine hK.out _ _ (KB.c (g := g4) (o := 15) (n := 0) (v := (.slice A14 0 c14)) J.out mem_x) (fun hHeld => ?_)
                clear hK K
                refine norm_ (a' := ?_) ?_ ?_
                rotate_left
                · show Act.put _ (some 37) _ = _
                  simp only [Act.put, List.setIfInBounds_toArray, List.set_cons_zero, List.set_cons_succ, i64_w, i32_w, u8_w, u32_w]
                  rfl
                refine one_ (i := 11) (N := (some 8)) (bl 13 4095) rfl rfl (one_of HT_.out (by kernel_rfl)) (by decide) (fun K hK => ?_)
                refine box_step (by rfl) (N := 8) rfl (cs := #[.int .i64 0, .int .i64 0, .slice none 0 0]) (t := 29) ?hr ?_
                (case hr => first | (go_simp; done) | (go_simp; rfl))
                intro g8 hg_ w8 hbox_ hb_
                replace F := Aside0.mk (allg_old (G := fun k => k = g8) F.out hb_ (fun k hk => by omega))
                have NE := Aside0.mk (J.out.ne hg_)
                have GW : Aside0 (w.heap.size ≤ g8) := ⟨by have := J.out.1.size; omega⟩
                replace J := Aside0.mk (J.out.below hb_)
                have BZ := Aside0.mk hbox_
                clear hbox_ hb_ hg_
                refine hK.out _ _ (KB.c (g := g4) (o := 15) (n := 0) (v := (.slice A14 0 c14)) J.out mem_x) (fun hHeld => ?_)
                clear hK K
                refine norm_ (a' := ?_) ?_ ?_
                rotate_left
                · show Act.put _ (some 8) _ = _
                  simp only [Act.put, List.setIfInBounds_toArray, List.set_cons_zero, List.set_cons_succ, i64_w, i32_w, u8_w, u32_w]
                  rfl
                refine last_ (i := 12) (N := none) (bl 13 8191) rfl rfl (one_of HT_.out (by kernel_rfl)) (by decide) (fun K hK => ?_)
                have hs0 := (blk_cell BZ.out 0).trans (show _ = some (.int .i64 0) from rfl)
                have hs1 := (blk_cell BZ.out 1).trans (show _ = some (.int .i64 0) from rfl)
                have hs2 := (blk_cell BZ.out 2).trans (show _ = some (.slice none 0 0) from rfl)
                have hf0 := blk_frozen BZ.out 0
                have hf1 := blk_frozen BZ.out 1
                have hf2 := blk_frozen BZ.out 2
                refine skip_ (w1 := ?_) (by rfl) rfl ?_ ?_
                rotate_left
                · go_simp
                  rfl
                refine hK.out _ _ ?_
                clear hK K
                refine done_ (done_of HT_.out (by kernel_rfl)) ?_
                exact hQ v30 v32 v33 v34 v35 v36 A37 c37 g8 _ (allg_put F.out _ _ _) ((J.out.put GW.out NE.out _ _ _).more (blk_set3 BZ.out rfl _ _ _))
              · refine box_step (by rfl) (N := 8) rfl (cs := #[.int .i64 0, .int .i64 0, .slice none 0 0]) (t := 29) ?hr ?_
                (case hr => first | (go_simp; done) | (go_simp; rfl))
                intro g8 hg_ w8 hbox_ hb_
                replace F := Aside0.mk (allg_old (G := fun k => k = g8) F.out hb_ (fun k hk => by omega))
                have NE := Aside0.mk (J.out.ne hg_)
                have GW : Aside0 (w.heap.size ≤ g8) := ⟨by have := J.out.1.size; omega⟩
                replace J := Aside0.mk (J.out.below hb_)
                have BZ := Aside0.mk hbox_
                clear hbox_ hb_ hg_
                refine hK.out _ _ (KB.c (g := g4) (o := 15) (n := 0) (v := (.slice A14 0 c14)) J.out mem_x) (fun hHeld => ?_)
                clear hK K
                refine norm_ (a' := ?_) ?_ ?_
                rotate_left
                · show Act.put _ (some 8) _ = _
                  simp only [Act.put, List.setIfInBounds_toArray, List.set_cons_zero, List.set_cons_succ, i64_w, i32_w, u8_w, u32_w]
                  rfl
                refine one_ (i := 10) (N := (some 37)) (bl 13 4095) rfl rfl (one_of HT_.out (by kernel_rfl)) (by decide) (fun K hK => ?_)
                refine goes_ Tryd.func21 (by kernel_rfl) rfl #[.int .i64 20, v36] (by rfl) rfl rfl (by (try simp only [List.map_toArray, List.map_cons, List.map_nil]); first | done | rfl | (simp only [List.length_drop, List.length_take]; rfl)) ?_
                refine (T_goG 20 _ _ _ (fun k => k = g8) (fun k hk => by rw [hk]; exact blk_lt BZ.out) (F.out (_, _) mem_x)).mono ?_
                rintro e w37 ⟨v37, rfl, hv_, hb_⟩
                refine ⟨_, rfl, ?_⟩
                obtain ⟨A37, c37, hve_⟩ := Kd.V_slice hv_
                replace hve_ : v37 = .slice A37 2 c37 := hve_
                subst hve_
                replace F := Aside0.mk (allg_step F.out hb_ hv_)
                replace J := Aside0.mk (J.out.below hb_)
                replace BZ := Aside0.mk (blk_below BZ.out hb_)
                clear hb_ hv_
                refine hK.out _ _ (KB.c (g := g4) (o := 15) (n := 0) (v := (.slice A14 0 c14)) J.out mem_x) (fun hHeld => ?_)
                clear hK K
                refine norm_ (a' := ?_) ?_ ?_
                rotate_left
                · show Act.put _ (some 37) _ = _
                  simp only [Act.put, List.setIfInBounds_toArray, List.set_cons_zero, List.set_cons_succ, i64_w, i32_w, u8_w, u32_w]
                  rfl
                refine last_ (i := 12) (N := none) (bl 13 8191) rfl rfl (one_of HT_.out (by kernel_rfl)) (by decide) (fun K hK => ?_)
                have hs0 := (blk_cell BZ.out 0).trans (show _ = some (.int .i64 0) from rfl)
                have hs1 := (blk_cell BZ.out 1).trans (show _ = some (.int .i64 0) from rfl)
                have hs2 := (blk_cell BZ.out 2).trans (show _ = some (.slice none 0 0) from rfl)
                have hf0 := blk_frozen BZ.out 0
                have hf1 := blk_frozen BZ.out 1
                have hf2 := blk_frozen BZ.out 2
                refine skip_ (w1 := ?_) (by rfl) rfl ?_ ?_
                rotate_left
                · go_simp
                  rfl
                refine hK.out _ _ ?_
                clear hK K
                refine done_ (done_of HT_.out (by kernel_rfl)) ?_
                exact hQ v30 v32 v33 v34 v35 v36 A37 c37 g8 _ (allg_put F.out _ _ _) ((J.out.put GW.out NE.out _ _ _).more (blk_set3 BZ.out rfl _ _ _))
            · refine box_step (by rfl) (N := 8) rfl (cs := #[.int .i64 0, .int .i64 0, .slice none 0 0]) (t := 29) ?hr ?_
              (case hr => first | (go_simp; done) | (go_simp; rfl))
              intro g8 hg_ w8 hbox_ hb_
              replace F := Aside0.mk (allg_old (G := fun k => k = g8) F.out hb_ (fun k hk => by omega))
              have NE := Aside0.mk (J.out.ne hg_)
              have GW : Aside0 (w.heap.size ≤ g8) := ⟨by have := J.out.1.size; omega⟩
              replace J := Aside0.mk (J.out.below hb_)
              have BZ := Aside0.mk hbox_
              clear hbox_ hb_ hg_
              refine hK.out _ _ (KB.c (g := g4) (o := 15) (n := 0) (v := (.slice A14 0 c14)) J.out mem_x) (fun hHeld => ?_)
              clear hK K
              refine norm_ (a' := ?_) ?_ ?_
              rotate_left
              · show Act.put _ (some 8) _ = _
                simp only [Act.put, List.setIfInBounds_toArray, List.set_cons_zero, List.set_cons_succ, i64_w, i32_w, u8_w, u32_w]
                rfl
              refine one_ (i := 9) (N := (some 36)) (bl 13 3071) rfl rfl (one_of HT_.out (by kernel_rfl)) (by decide) (fun K hK => ?_)
              refine lit_step_goG (fun k => k = g8) (fun k hk => by rw [hk]; exact blk_lt BZ.out) ?hg (N' := 36) ?hd (xs := ([⟨15, 0, []⟩, ⟨20, 0, [⟨15, 0, []⟩, ⟨26, 0, [⟨1, 0, []⟩, ⟨1, 1, []⟩]⟩]⟩] : List S29)) (inner := ?inn36_8) ?hr ?hp (by simp) ?_
              (case hd => rfl)
              (case hg => rfl)
              (case hr => first | (go_simp; done) | (go_simp; rfl))
              (case hp => exact Reps.c3 ⟨_, rfl, F.out (_, _) mem_x⟩ (Reps.c3 ⟨_, rfl, F.out (_, _) mem_x⟩ (Reps.none _ _)))
              intro v36 w36 hv_ hb_
              replace F := Aside0.mk (allg_step F.out hb_ hv_)
              replace J := Aside0.mk (J.out.below hb_)
              replace BZ := Aside0.mk (blk_below BZ.out hb_)
              clear hb_ hv_
              refine hK.out _ _ (KB.c (g := g4) (o := 15) (n := 0) (v := (.slice A14 0 c14)) J.out mem_x) (fun hHeld => ?_)
              clear hK K
              refine norm_ (a' := ?_) ?_ ?_
              rotate_left
              · show Act.put _ (some 36) _ = _
                simp only [Act.put, List.setIfInBounds_toArray, List.set_cons_zero, List.set_cons_succ, i64_w, i32_w, u8_w, u32_w]
                rfl
              refine one_ (i := 10) (N := (some 37)) (bl 13 4095) rfl rfl (one_of HT_.out (by kernel_rfl)) (by decide) (fun K hK => ?_)
              refine goes_ Tryd.func21 (by kernel_rfl) rfl #[.int .i64 20, v36] (by rfl) rfl rfl (by (try simp only [List.map_toArray, List.map_cons, List.map_nil]); first | done | rfl | (simp only [List.length_drop, List.length_take]; rfl)) ?_
              refine (T_goG 20 _ _ _ (fun k => k = g8) (fun k hk => by rw [hk]; exact blk_lt BZ.out) (F.out (_, _) mem_x)).mono ?_
              rintro e w37 ⟨v37, rfl, hv_, hb_⟩
              refine ⟨_, rfl, ?_⟩
              obtain ⟨A37, c37, hve_⟩ := Kd.V_slice hv_
              replace hve_ : v37 = .slice A37 2 c37 := hve_
              subst hve_
              replace F := Aside0.mk (allg_step F.out hb_ hv_)
              replace J := Aside0.mk (J.out.below hb_)
              replace BZ := Aside0.mk (blk_below BZ.out hb_)
              clear hb_ hv_
              refine hK.out _ _ (KB.c (g := g4) (o := 15) (n := 0) (v := (.slice A14 0 c14)) J.out mem_x) (fun hHeld => ?_)
              clear hK K
              refine norm_ (a' := ?_) ?_ ?_
              rotate_left
              · show Act.put _ (some 37) _ = _
                simp only [Act.put, List.setIfInBounds_toArray, List.set_cons_zero, List.set_cons_succ, i64_w, i32_w, u8_w, u32_w]
                rfl
              refine last_ (i := 12) (N := none) (bl 13 8191) rfl rfl (one_of HT_.out (by kernel_rfl)) (by decide) (fun K hK => ?_)
              have hs0 := (blk_cell BZ.out 0).trans (show _ = some (.int .i64 0) from rfl)
              have hs1 := (blk_cell BZ.out 1).trans (show _ = some (.int .i64 0) from rfl)
              have hs2 := (blk_cell BZ.out 2).trans (show _ = some (.slice none 0 0) from rfl)
              have hf0 := blk_frozen BZ.out 0
              have hf1 := blk_frozen BZ.out 1
              have hf2 := blk_frozen BZ.out 2
              refine skip_ (w1 := ?_) (by rfl) rfl ?_ ?_
              rotate_left
              · go_simp
                rfl
              refine hK.out _ _ ?_
              clear hK K
              refine done_ (done_of HT_.out (by kernel_rfl)) ?_
              exact hQ v30 v32 v33 v34 v35 v36 A37 c37 g8 _ (allg_put F.out _ _ _) ((J.out.put GW.out NE.out _ _ _).more (blk_set3 BZ.out rfl _ _ _))
          · refine box_step (by rfl) (N := 8) rfl (cs := #[.int .i64 0, .int .i64 0, .slice none 0 0]) (t := 29) ?hr ?_
            (case hr => first | (go_simp; done) | (go_simp; rfl))
            intro g8 hg_ w8 hbox_ hb_
            replace F := Aside0.mk (allg_old (G := fun k => k = g8) F.out hb_ (fun k hk => by omega))
            have NE := Aside0.mk (J.out.ne hg_)
            have GW : Aside0 (w.heap.size ≤ g8) := ⟨by have := J.out.1.size; omega⟩
            replace J := Aside0.mk (J.out.below hb_)
            have BZ := Aside0.mk hbox_
            clear hbox_ hb_ hg_
            refine hK.out _ _ (KB.c (g := g4) (o := 15) (n := 0) (v := (.slice A14 0 c14)) J.out mem_x) (fun hHeld => ?_)
            clear hK K
            refine norm_ (a' := ?_) ?_ ?_
            rotate_left
            · show Act.put _ (some 8) _ = _
              simp only [Act.put, List.setIfInBounds_toArray, List.set_cons_zero, List.set_cons_succ, i64_w, i32_w, u8_w, u32_w]
              rfl
            refine one_ (i := 8) (N := (some 35)) (bl 13 2559) rfl rfl (one_of HT_.out (by kernel_rfl)) (by decide) (fun K hK => ?_)
            refine goes_ Tryd.func21 (by kernel_rfl) rfl #[.int .i64 20, v34] (by rfl) rfl rfl (by (try simp only [List.map_toArray, List.map_cons, List.map_nil]); first | done | rfl | (simp only [List.length_drop, List.length_take]; rfl)) ?_
            refine (T_goG 20 _ _ _ (fun k => k = g8) (fun k hk => by rw [hk]; exact blk_lt BZ.out) (F.out (_, _) mem_x)).mono ?_
            rintro e w35 ⟨v35, rfl, hv_, hb_⟩
            refine ⟨_, rfl, ?_⟩
            replace F := Aside0.mk (allg_step F.out hb_ hv_)
            replace J := Aside0.mk (J.out.below hb_)
            replace BZ := Aside0.mk (blk_below BZ.out hb_)
            clear hb_ hv_
            refine hK.out _ _ (KB.c (g := g4) (o := 15) (n := 0) (v := (.slice A14 0 c14)) J.out mem_x) (fun hHeld => ?_)
            clear hK K
            refine norm_ (a' := ?_) ?_ ?_
            rotate_left
            · show Act.put _ (some 35) _ = _
              simp only [Act.put, List.setIfInBounds_toArray, List.set_cons_zero, List.set_cons_succ, i64_w, i32_w, u8_w, u32_w]
              rfl
            refine one_ (i := 9) (N := (some 36)) (bl 13 3071) rfl rfl (one_of HT_.out (by kernel_rfl)) (by decide) (fun K hK => ?_)
            refine lit_step_goG (fun k => k = g8) (fun k hk => by rw [hk]; exact blk_lt BZ.out) ?hg (N' := 36) ?hd (xs := ([⟨15, 0, []⟩, ⟨20, 0, [⟨15, 0, []⟩, ⟨26, 0, [⟨1, 0, []⟩, ⟨1, 1, []⟩]⟩]⟩] : List S29)) (inner := ?inn36_9) ?hr ?hp (by simp) ?_
            (case hd => rfl)
            (case hg => rfl)
            (case hr => first | (go_simp; done) | (go_simp; rfl))
            (case hp => exact Reps.c3 ⟨_, rfl, F.out (_, _) mem_x⟩ (Reps.c3 ⟨_, rfl, F.out (_, _) mem_x⟩ (Reps.none _ _)))
            intro v36 w36 hv_ hb_
            replace F := Aside0.mk (allg_step F.out hb_ hv_)
            replace J := Aside0.mk (J.out.below hb_)
            replace BZ := Aside0.mk (blk_below BZ.out hb_)
            clear hb_ hv_
            refine hK.out _ _ (KB.c (g := g4) (o := 15) (n := 0) (v := (.slice A14 0 c14)) J.out mem_x) (fun hHeld => ?_)
            clear hK K
            refine norm_ (a' := ?_) ?_ ?_
            rotate_left
            · show Act.put _ (some 36) _ = _
              simp only [Act.put, List.setIfInBounds_toArray, List.set_cons_zero, List.set_cons_succ, i64_w, i32_w, u8_w, u32_w]
              rfl
            refine one_ (i := 10) (N := (some 37)) (bl 13 4095) rfl rfl (one_of HT_.out (by kernel_rfl)) (by decide) (fun K hK => ?_)
            refine goes_ Tryd.func21 (by kernel_rfl) rfl #[.int .i64 20, v36] (by rfl) rfl rfl (by (try simp only [List.map_toArray, List.map_cons, List.map_nil]); first | done | rfl | (simp only [List.length_drop, List.length_take]; rfl)) ?_
            refine (T_goG 20 _ _ _ (fun k => k = g8) (fun k hk => by rw [hk]; exact blk_lt BZ.out) (F.out (_, _) mem_x)).mono ?_
            rintro e w37 ⟨v37, rfl, hv_, hb_⟩
            refine ⟨_, rfl, ?_⟩
            obtain ⟨A37, c37, hve_⟩ := Kd.V_slice hv_
            replace hve_ : v37 = .slice A37 2 c37 := hve_
            subst hve_
            replace F := Aside0.mk (allg_step F.out hb_ hv_)
            replace J := Aside0.mk (J.out.below hb_)
            replace BZ := Aside0.mk (blk_below BZ.out hb_)
            clear hb_ hv_
            refine hK.out _ _ (KB.c (g := g4) (o := 15) (n := 0) (v := (.slice A14 0 c14)) J.out mem_x) (fun hHeld => ?_)
            clear hK K
            refine norm_ (a' := ?_) ?_ ?_
            rotate_left
            · show Act.put _ (some 37) _ = _
              simp only [Act.put, List.setIfInBounds_toArray, List.set_cons_zero, List.set_cons_succ, i64_w, i32_w, u8_w, u32_w]
              rfl
            refine last_ (i := 12) (N := none) (bl 13 8191) rfl rfl (one_of HT_.out (by kernel_rfl)) (by decide) (fun K hK => ?_)
            have hs0 := (blk_cell BZ.out 0).trans (show _ = some (.int .i64 0) from rfl)
            have hs1 := (blk_cell BZ.out 1).trans (show _ = some (.int .i64 0) from rfl)
            have hs2 := (blk_cell BZ.out 2).trans (show _ = some (.slice none 0 0) from rfl)
            have hf0 := blk_frozen BZ.out 0
            have hf1 := blk_frozen BZ.out 1
            have hf2 := blk_frozen BZ.out 2
            refine skip_ (w1 := ?_) (by rfl) rfl ?_ ?_
            rotate_left
            · go_simp
              rfl
            refine hK.out _ _ ?_
            clear hK K
            refine done_ (done_of HT_.out (by kernel_rfl)) ?_
            exact hQ v30 v32 v33 v34 v35 v36 A37 c37 g8 _ (allg_put F.out _ _ _) ((J.out.put GW.out NE.out _ _ _).more (blk_set3 BZ.out rfl _ _ _))
        · refine box_step (by rfl) (N := 8) rfl (cs := #[.int .i64 0, .int .i64 0, .slice none 0 0]) (t := 29) ?hr ?_
          (case hr => first | (go_simp; done) | (go_simp; rfl))
          intro g8 hg_ w8 hbox_ hb_
          replace F := Aside0.mk (allg_old (G := fun k => k = g8) F.out hb_ (fun k hk => by omega))
          have NE := Aside0.mk (J.out.ne hg_)
          have GW : Aside0 (w.heap.size ≤ g8) := ⟨by have := J.out.1.size; omega⟩
          replace J := Aside0.mk (J.out.below hb_)
          have BZ := Aside0.mk hbox_
          clear hbox_ hb_ hg_
          refine hK.out _ _ (KB.c (g := g4) (o := 15) (n := 0) (v := (.slice A14 0 c14)) J.out mem_x) (fun hHeld => ?_)
          clear hK K
          refine norm_ (a' := ?_) ?_ ?_
          rotate_left
          · show Act.put _ (some 8) _ = _
            simp only [Act.put, List.setIfInBounds_toArray, List.set_cons_zero, List.set_cons_succ, i64_w, i32_w, u8_w, u32_w]
            rfl
          refine one_ (i := 7) (N := (some 34)) (bl 13 2303) rfl rfl (one_of HT_.out (by kernel_rfl)) (by decide) (fun K hK => ?_)
          refine lit_step_goG (fun k => k = g8) (fun k hk => by rw [hk]; exact blk_lt BZ.out) ?hg (N' := 34) ?hd (xs := ([⟨15, 0, []⟩, ⟨26, 0, [⟨1, 0, []⟩, ⟨1, 1, []⟩]⟩] : List S29)) (inner := ?inn34_10) ?hr ?hp (by simp) ?_
          (case hd => rfl)
          (case hg => rfl)
          (case hr => first | (go_simp; done) | (go_simp; rfl))
          (case hp => exact Reps.c3 ⟨_, rfl, F.out (_, _) mem_x⟩ (Reps.c3 ⟨_, rfl, F.out (_, _) mem_x⟩ (Reps.none _ _)))
          intro v34 w34 hv_ hb_
          replace F := Aside0.mk (allg_step F.out hb_ hv_)
          replace J := Aside0.mk (J.out.below hb_)
          replace BZ := Aside0.mk (blk_below BZ.out hb_)
          clear hb_ hv_
          refine hK.out _ _ (KB.c (g := g4) (o := 15) (n := 0) (v := (.slice A14 0 c14)) J.out mem_x) (fun hHeld => ?_)
          clear hK K
          refine norm_ (a' := ?_) ?_ ?_
          rotate_left
          · show Act.put _ (some 34) _ = _
            simp only [Act.put, List.setIfInBounds_toArray, List.set_cons_zero, List.set_cons_succ, i64_w, i32_w, u8_w, u32_w]
            rfl
          refine one_ (i := 8) (N := (some 35)) (bl 13 2559) rfl rfl (one_of HT_.out (by kernel_rfl)) (by decide) (fun K hK => ?_)
          refine goes_ Tryd.func21 (by kernel_rfl) rfl #[.int .i64 20, v34] (by rfl) rfl rfl (by (try simp only [List.map_toArray, List.map_cons, List.map_nil]); first | done | rfl | (simp only [List.length_drop, List.length_take]; rfl)) ?_
          refine (T_goG 20 _ _ _ (fun k => k = g8) (fun k hk => by rw [hk]; exact blk_lt BZ.out) (F.out (_, _) mem_x)).mono ?_
          rintro e w35 ⟨v35, rfl, hv_, hb_⟩
          refine ⟨_, rfl, ?_⟩
          replace F := Aside0.mk (allg_step F.out hb_ hv_)
          replace J := Aside0.mk (J.out.below hb_)
          replace BZ := Aside0.mk (blk_below BZ.out hb_)
          clear hb_ hv_
          refine hK.out _ _ (KB.c (g := g4) (o := 15) (n := 0) (v := (.slice A14 0 c14)) J.out mem_x) (fun hHeld => ?_)
          clear hK K
          refine norm_ (a' := ?_) ?_ ?_
          rotate_left
          · show Act.put _ (some 35) _ = _
            simp only [Act.put, List.setIfInBounds_toArray, List.set_cons_zero, List.set_cons_succ, i64_w, i32_w, u8_w, u32_w]
            rfl
          refine one_ (i := 9) (N := (some 36)) (bl 13 3071) rfl rfl (one_of HT_.out (by kernel_rfl)) (by decide) (fun K hK => ?_)
          refine lit_step_goG (fun k => k = g8) (fun k hk => by rw [hk]; exact blk_lt BZ.out) ?hg (N' := 36) ?hd (xs := ([⟨15, 0, []⟩, ⟨20, 0, [⟨15, 0, []⟩, ⟨26, 0, [⟨1, 0, []⟩, ⟨1, 1, []⟩]⟩]⟩] : List S29)) (inner := ?inn36_11) ?hr ?hp (by simp) ?_
          (case hd => rfl)
          (case hg => rfl)
          (case hr => first | (go_simp; done) | (go_simp; rfl))
          (case hp => exact Reps.c3 ⟨_, rfl, F.out (_, _) mem_x⟩ (Reps.c3 ⟨_, rfl, F.out (_, _) mem_x⟩ (Reps.none _ _)))
          intro v36 w36 hv_ hb_
          replace F := Aside0.mk (allg_step F.out hb_ hv_)
          replace J := Aside0.mk (J.out.below hb_)
          replace BZ := Aside0.mk (blk_below BZ.out hb_)
          clear hb_ hv_
          refine hK.out _ _ (KB.c (g := g4) (o := 15) (n := 0) (v := (.slice A14 0 c14)) J.out mem_x) (fun hHeld => ?_)
          clear hK K
          refine norm_ (a' := ?_) ?_ ?_
          rotate_left
          · show Act.put _ (some 36) _ = _
            simp only [Act.put, List.setIfInBounds_toArray, List.set_cons_zero, List.set_cons_succ, i64_w, i32_w, u8_w, u32_w]
            rfl
          refine one_ (i := 10) (N := (some 37)) (bl 13 4095) rfl rfl (one_of HT_.out (by kernel_rfl)) (by decide) (fun K hK => ?_)
          refine goes_ Tryd.func21 (by kernel_rfl) rfl #[.int .i64 20, v36] (by rfl) rfl rfl (by (try simp only [List.map_toArray, List.map_cons, List.map_nil]); first | done | rfl | (simp only [List.length_drop, List.length_take]; rfl)) ?_
          refine (T_goG 20 _ _ _ (fun k => k = g8) (fun k hk => by rw [hk]; exact blk_lt BZ.out) (F.out (_, _) mem_x)).mono ?_
          rintro e w37 ⟨v37, rfl, hv_, hb_⟩
          refine ⟨_, rfl, ?_⟩
          obtain ⟨A37, c37, hve_⟩ := Kd.V_slice hv_
          replace hve_ : v37 = .slice A37 2 c37 := hve_
          subst hve_
          replace F := Aside0.mk (allg_step F.out hb_ hv_)
          replace J := Aside0.mk (J.out.below hb_)
          replace BZ := Aside0.mk (blk_below BZ.out hb_)
          clear hb_ hv_
          refine hK.out _ _ (KB.c (g := g4) (o := 15) (n := 0) (v := (.slice A14 0 c14)) J.out mem_x) (fun hHeld => ?_)
          clear hK K
          refine norm_ (a' := ?_) ?_ ?_
          rotate_left
          · show Act.put _ (some 37) _ = _
            simp only [Act.put, List.setIfInBounds_toArray, List.set_cons_zero, List.set_cons_succ, i64_w, i32_w, u8_w, u32_w]
            rfl
          refine last_ (i := 12) (N := none) (bl 13 8191) rfl rfl (one_of HT_.out (by kernel_rfl)) (by decide) (fun K hK => ?_)
          have hs0 := (blk_cell BZ.out 0).trans (show _ = some (.int .i64 0) from rfl)
          have hs1 := (blk_cell BZ.out 1).trans (show _ = some (.int .i64 0) from rfl)
          have hs2 := (blk_cell BZ.out 2).trans (show _ = some (.slice none 0 0) from rfl)
          have hf0 := blk_frozen BZ.out 0
          have hf1 := blk_frozen BZ.out 1
          have hf2 := blk_frozen BZ.out 2
          refine skip_ (w1 := ?_) (by rfl) rfl ?_ ?_
          rotate_left
          · go_simp
            rfl
          refine hK.out _ _ ?_
          clear hK K
          refine done_ (done_of HT_.out (by kernel_rfl)) ?_
          exact hQ v30 v32 v33 v34 v35 v36 A37 c37 g8 _ (allg_put F.out _ _ _) ((J.out.put GW.out NE.out _ _ _).more (blk_set3 BZ.out rfl _ _ _))
      · refine box_step (by rfl) (N := 8) rfl (cs := #[.int .i64 0, .int .i64 0, .slice none 0 0]) (t := 29) ?hr ?_
        (case hr => first | (go_simp; done) | (go_simp; rfl))
        intro g8 hg_ w8 hbox_ hb_
        replace F := Aside0.mk (allg_old (G := fun k => k = g8) F.out hb_ (fun k hk => by omega))
        have NE := Aside0.mk (J.out.ne hg_)
        have GW : Aside0 (w.heap.size ≤ g8) := ⟨by have := J.out.1.size; omega⟩
        replace J := Aside0.mk (J.out.below hb_)
        have BZ := Aside0.mk hbox_
        clear hbox_ hb_ hg_
        refine hK.out _ _ (KB.c (g := g4) (o := 15) (n := 0) (v := (.slice A14 0 c14)) J.out mem_x) (fun hHeld => ?_)
        clear hK K
        refine norm_ (a' := ?_) ?_ ?_
        rotate_left
        · show Act.put _ (some 8) _ = _
          simp only [Act.put, List.setIfInBounds_toArray, List.set_cons_zero, List.set_cons_succ, i64_w, i32_w, u8_w, u32_w]
          rfl
        refine one_ (i := 6) (N := (some 33)) (bl 13 2175) rfl rfl (one_of HT_.out (by kernel_rfl)) (by decide) (fun K hK => ?_)
        refine goes_ Tryd.func23 (by kernel_rfl) rfl #[.int .i64 0, .agg #[.int .i64 (1), .int .i64 (0), v30], .agg #[.int .i64 (1), .int .i64 (1), v32]] (by rfl) rfl rfl (by (try simp only [List.map_toArray, List.map_cons, List.map_nil]); first | done | rfl | (simp only [List.length_drop, List.length_take]; rfl)) ?_
        refine (prim_goG 0 ⟨1, 0, []⟩ ⟨1, 1, []⟩ _ _ _ (fun k => k = g8) (fun k hk => by rw [hk]; exact blk_lt BZ.out) (F.out (_, _) mem_x) (F.out (_, _) mem_x)).mono ?_
        rintro e w33 ⟨v33, rfl, hv_, hb_⟩
        refine ⟨_, rfl, ?_⟩
        replace F := Aside0.mk (allg_step F.out hb_ hv_)
        replace J := Aside0.mk (J.out.below hb_)
        replace BZ := Aside0.mk (blk_below BZ.out hb_)
        clear hb_ hv_
        refine hK.out _ _ (KB.c (g := g4) (o := 15) (n := 0) (v := (.slice A14 0 c14)) J.out mem_x) (fun hHeld => ?_)
        clear hK K
        refine norm_ (a' := ?_) ?_ ?_
        rotate_left
        · show Act.put _ (some 33) _ = _
          simp only [Act.put, List.setIfInBounds_toArray, List.set_cons_zero, List.set_cons_succ, i64_w, i32_w, u8_w, u32_w]
          rfl
        refine one_ (i := 7) (N := (some 34)) (bl 13 2303) rfl rfl (one_of HT_.out (by kernel_rfl)) (by decide) (fun K hK => ?_)
        refine lit_step_goG (fun k => k = g8) (fun k hk => by rw [hk]; exact blk_lt BZ.out) ?hg (N' := 34) ?hd (xs := ([⟨15, 0, []⟩, ⟨26, 0, [⟨1, 0, []⟩, ⟨1, 1, []⟩]⟩] : List S29)) (inner := ?inn34_12) ?hr ?hp (by simp) ?_
        (case hd => rfl)
        (case hg => rfl)
        (case hr => first | (go_simp; done) | (go_simp; rfl))
        (case hp => exact Reps.c3 ⟨_, rfl, F.out (_, _) mem_x⟩ (Reps.c3 ⟨_, rfl, F.out (_, _) mem_x⟩ (Reps.none _ _)))
        intro v34 w34 hv_ hb_
        replace F := Aside0.mk (allg_step F.out hb_ hv_)
        replace J := Aside0.mk (J.out.below hb_)
        replace BZ := Aside0.mk (blk_below BZ.out hb_)
        clear hb_ hv_
        refine hK.out _ _ (KB.c (g := g4) (o := 15) (n := 0) (v := (.slice A14 0 c14)) J.out mem_x) (fun hHeld => ?_)
        clear hK K
        refine norm_ (a' := ?_) ?_ ?_
        rotate_left
        · show Act.put _ (some 34) _ = _
          simp only [Act.put, List.setIfInBounds_toArray, List.set_cons_zero, List.set_cons_succ, i64_w, i32_w, u8_w, u32_w]
          rfl
        refine one_ (i := 8) (N := (some 35)) (bl 13 2559) rfl rfl (one_of HT_.out (by kernel_rfl)) (by decide) (fun K hK => ?_)
        refine goes_ Tryd.func21 (by kernel_rfl) rfl #[.int .i64 20, v34] (by rfl) rfl rfl (by (try simp only [List.map_toArray, List.map_cons, List.map_nil]); first | done | rfl | (simp only [List.length_drop, List.length_take]; rfl)) ?_
        refine (T_goG 20 _ _ _ (fun k => k = g8) (fun k hk => by rw [hk]; exact blk_lt BZ.out) (F.out (_, _) mem_x)).mono ?_
        rintro e w35 ⟨v35, rfl, hv_, hb_⟩
        refine ⟨_, rfl, ?_⟩
        replace F := Aside0.mk (allg_step F.out hb_ hv_)
        replace J := Aside0.mk (J.out.below hb_)
        replace BZ := Aside0.mk (blk_below BZ.out hb_)
        clear hb_ hv_
        refine hK.out _ _ (KB.c (g := g4) (o := 15) (n := 0) (v := (.slice A14 0 c14)) J.out mem_x) (fun hHeld => ?_)
        clear hK K
        refine norm_ (a' := ?_) ?_ ?_
        rotate_left
        · show Act.put _ (some 35) _ = _
          simp only [Act.put, List.setIfInBounds_toArray, List.set_cons_zero, List.set_cons_succ, i64_w, i32_w, u8_w, u32_w]
          rfl
        refine one_ (i := 9) (N := (some 36)) (bl 13 3071) rfl rfl (one_of HT_.out (by kernel_rfl)) (by decide) (fun K hK => ?_)
        refine lit_step_goG (fun k => k = g8) (fun k hk => by rw [hk]; exact blk_lt BZ.out) ?hg (N' := 36) ?hd (xs := ([⟨15, 0, []⟩, ⟨20, 0, [⟨15, 0, []⟩, ⟨26, 0, [⟨1, 0, []⟩, ⟨1, 1, []⟩]⟩]⟩] : List S29)) (inner := ?inn36_13) ?hr ?hp (by simp) ?_
        (case hd => rfl)
        (case hg => rfl)
        (case hr => first | (go_simp; done) | (go_simp; rfl))
        (case hp => exact Reps.c3 ⟨_, rfl, F.out (_, _) mem_x⟩ (Reps.c3 ⟨_, rfl, F.out (_, _) mem_x⟩ (Reps.none _ _)))
        intro v36 w36 hv_ hb_
        replace F := Aside0.mk (allg_step F.out hb_ hv_)
        replace J := Aside0.mk (J.out.below hb_)
        replace BZ := Aside0.mk (blk_below BZ.out hb_)
        clear hb_ hv_
        refine hK.out _ _ (KB.c (g := g4) (o := 15) (n := 0) (v := (.slice A14 0 c14)) J.out mem_x) (fun hHeld => ?_)
        clear hK K
        refine norm_ (a' := ?_) ?_ ?_
        rotate_left
        · show Act.put _ (some 36) _ = _
          simp only [Act.put, List.setIfInBounds_toArray, List.set_cons_zero, List.set_cons_succ, i64_w, i32_w, u8_w, u32_w]
          rfl
        refine one_ (i := 10) (N := (some 37)) (bl 13 4095) rfl rfl (one_of HT_.out (by kernel_rfl)) (by decide) (fun K hK => ?_)
        refine goes_ Tryd.func21 (by kernel_rfl) rfl #[.int .i64 20, v36] (by rfl) rfl rfl (by (try simp only [List.map_toArray, List.map_cons, List.map_nil]); first | done | rfl | (simp only [List.length_drop, List.length_take]; rfl)) ?_
        refine (T_goG 20 _ _ _ (fun k => k = g8) (fun k hk => by rw [hk]; exact blk_lt BZ.out) (F.out (_, _) mem_x)).mono ?_
        rintro e w37 ⟨v37, rfl, hv_, hb_⟩
        refine ⟨_, rfl, ?_⟩
        obtain ⟨A37, c37, hve_⟩ := Kd.V_slice hv_
        replace hve_ : v37 = .slice A37 2 c37 := hve_
        subst hve_
        replace F := Aside0.mk (allg_step F.out hb_ hv_)
        replace J := Aside0.mk (J.out.below hb_)
        replace BZ := Aside0.mk (blk_below BZ.out hb_)
        clear hb_ hv_
        refine hK.out _ _ (KB.c (g := g4) (o := 15) (n := 0) (v := (.slice A14 0 c14)) J.out mem_x) (fun hHeld => ?_)
        clear hK K
        refine norm_ (a' := ?_) ?_ ?_
        rotate_left
        · show Act.put _ (some 37) _ = _
          simp only [Act.put, List.setIfInBounds_toArray, List.set_cons_zero, List.set_cons_succ, i64_w, i32_w, u8_w, u32_w]
          rfl
        refine last_ (i := 12) (N := none) (bl 13 8191) rfl rfl (one_of HT_.out (by kernel_rfl)) (by decide) (fun K hK => ?_)
        have hs0 := (blk_cell BZ.out 0).trans (show _ = some (.int .i64 0) from rfl)
        have hs1 := (blk_cell BZ.out 1).trans (show _ = some (.int .i64 0) from rfl)
        have hs2 := (blk_cell BZ.out 2).trans (show _ = some (.slice none 0 0) from rfl)
        have hf0 := blk_frozen BZ.out 0
        have hf1 := blk_frozen BZ.out 1
        have hf2 := blk_frozen BZ.out 2
        refine skip_ (w1 := ?_) (by rfl) rfl ?_ ?_
        rotate_left
        · go_simp
          rfl
        refine hK.out _ _ ?_
        clear hK K
        refine done_ (done_of HT_.out (by kernel_rfl)) ?_
        exact hQ v30 v32 v33 v34 v35 v36 A37 c37 g8 _ (allg_put F.out _ _ _) ((J.out.put GW.out NE.out _ _ _).more (blk_set3 BZ.out rfl _ _ _))
    · refine box_step (by rfl) (N := 8) rfl (cs := #[.int .i64 0, .int .i64 0, .slice none 0 0]) (t := 29) ?hr ?_
      (case hr => first | (go_simp; done) | (go_simp; rfl))
      intro g8 hg_ w8 hbox_ hb_
      replace F := Aside0.mk (allg_old (G := fun k => k = g8) F.out hb_ (fun k hk => by omega))
      have NE := Aside0.mk (J.out.ne hg_)
      have GW : Aside0 (w.heap.size ≤ g8) := ⟨by have := J.out.1.size; omega⟩
      replace J := Aside0.mk (J.out.below hb_)
      have BZ := Aside0.mk hbox_
      clear hbox_ hb_ hg_
      refine hK.out _ _ (KB.c (g := g4) (o := 15) (n := 0) (v := (.slice A14 0 c14)) J.out mem_x) (fun hHeld => ?_)
      clear hK K
      refine norm_ (a' := ?_) ?_ ?_
      rotate_left
      · show Act.put _ (some 8) _ = _
        simp only [Act.put, List.setIfInBounds_toArray, List.set_cons_zero, List.set_cons_succ, i64_w, i32_w, u8_w, u32_w]
        rfl
      refine one_ (i := 5) (N := (some 32)) (bl 13 2111) rfl rfl (one_of HT_.out (by kernel_rfl)) (by decide) (fun K hK => ?_)
      refine goesV_ Tryd.func20 (by kernel_rfl) rfl #[.int .i64 (1)] (by rfl) rfl rfl rfl (by (try simp only [List.map_toArray, List.map_cons, List.map_nil]); first | done | rfl | (simp only [List.length_drop, List.length_take]; rfl)) ?_
      refine (V_goG (1) _ (fun k => k = g8) (fun k hk => by rw [hk]; exact blk_lt BZ.out)).mono ?_
      rintro e w32 ⟨v32, rfl, hv_, hb_⟩
      refine ⟨_, rfl, ?_⟩
      replace F := Aside0.mk (allg_step F.out hb_ hv_)
      replace J := Aside0.mk (J.out.below hb_)
      replace BZ := Aside0.mk (blk_below BZ.out hb_)
      clear hb_ hv_
      refine hK.out _ _ (KB.c (g := g4) (o := 15) (n := 0) (v := (.slice A14 0 c14)) J.out mem_x) (fun hHeld => ?_)
      clear hK K
      refine norm_ (a' := ?_) ?_ ?_
      rotate_left
      · show Act.put _ (some 32) _ = _
        simp only [Act.put, List.setIfInBounds_toArray, List.set_cons_zero, List.set_cons_succ, i64_w, i32_w, u8_w, u32_w]
        rfl
      refine one_ (i := 6) (N := (some 33)) (bl 13 2175) rfl rfl (one_of HT_.out (by kernel_rfl)) (by decide) (fun K hK => ?_)
      refine goes_ Tryd.func23 (by kernel_rfl) rfl #[.int .i64 0, .agg #[.int .i64 (1), .int .i64 (0), v30], .agg #[.int .i64 (1), .int .i64 (1), v32]] (by rfl) rfl rfl (by (try simp only [List.map_toArray, List.map_cons, List.map_nil]); first | done | rfl | (simp only [List.length_drop, List.length_take]; rfl)) ?_
      refine (prim_goG 0 ⟨1, 0, []⟩ ⟨1, 1, []⟩ _ _ _ (fun k => k = g8) (fun k hk => by rw [hk]; exact blk_lt BZ.out) (F.out (_, _) mem_x) (F.out (_, _) mem_x)).mono ?_
      rintro e w33 ⟨v33, rfl, hv_, hb_⟩
      refine ⟨_, rfl, ?_⟩
      replace F := Aside0.mk (allg_step F.out hb_ hv_)
      replace J := Aside0.mk (J.out.below hb_)
      replace BZ := Aside0.mk (blk_below BZ.out hb_)
      clear hb_ hv_
      refine hK.out _ _ (KB.c (g := g4) (o := 15) (n := 0) (v := (.slice A14 0 c14)) J.out mem_x) (fun hHeld => ?_)
      clear hK K
      refine norm_ (a' := ?_) ?_ ?_
      rotate_left
      · show Act.put _ (some 33) _ = _
        simp only [Act.put, List.setIfInBounds_toArray, List.set_cons_zero, List.set_cons_succ, i64_w, i32_w, u8_w, u32_w]
        rfl
      refine one_ (i := 7) (N := (some 34)) (bl 13 2303) rfl rfl (one_of HT_.out (by kernel_rfl)) (by decide) (fun K hK => ?_)
      refine lit_step_goG (fun k => k = g8) (fun k hk => by rw [hk]; exact blk_lt BZ.out) ?hg (N' := 34) ?hd (xs := ([⟨15, 0, []⟩, ⟨26, 0, [⟨1, 0, []⟩, ⟨1, 1, []⟩]⟩] : List S29)) (inner := ?inn34_14) ?hr ?hp (by simp) ?_
      (case hd => rfl)
      (case hg => rfl)
      (case hr => first | (go_simp; done) | (go_simp; rfl))
      (case hp => exact Reps.c3 ⟨_, rfl, F.out (_, _) mem_x⟩ (Reps.c3 ⟨_, rfl, F.out (_, _) mem_x⟩ (Reps.none _ _)))
      intro v34 w34 hv_ hb_
      replace F := Aside0.mk (allg_step F.out hb_ hv_)
      replace J := Aside0.mk (J.out.below hb_)
      replace BZ := Aside0.mk (blk_below BZ.out hb_)
      clear hb_ hv_
      refine hK.out _ _ (KB.c (g := g4) (o := 15) (n := 0) (v := (.slice A14 0 c14)) J.out mem_x) (fun hHeld => ?_)
      clear hK K
      refine norm_ (a' := ?_) ?_ ?_
      rotate_left
      · show Act.put _ (some 34) _ = _
        simp only [Act.put, List.setIfInBounds_toArray, List.set_cons_zero, List.set_cons_succ, i64_w, i32_w, u8_w, u32_w]
        rfl
      refine one_ (i := 8) (N := (some 35)) (bl 13 2559) rfl rfl (one_of HT_.out (by kernel_rfl)) (by decide) (fun K hK => ?_)
      refine goes_ Tryd.func21 (by kernel_rfl) rfl #[.int .i64 20, v34] (by rfl) rfl rfl (by (try simp only [List.map_toArray, List.map_cons, List.map_nil]); first | done | rfl | (simp only [List.length_drop, List.length_take]; rfl)) ?_
      refine (T_goG 20 _ _ _ (fun k => k = g8) (fun k hk => by rw [hk]; exact blk_lt BZ.out) (F.out (_, _) mem_x)).mono ?_
      rintro e w35 ⟨v35, rfl, hv_, hb_⟩
      refine ⟨_, rfl, ?_⟩
      replace F := Aside0.mk (allg_step F.out hb_ hv_)
      replace J := Aside0.mk (J.out.below hb_)
      replace BZ := Aside0.mk (blk_below BZ.out hb_)
      clear hb_ hv_
      refine hK.out _ _ (KB.c (g := g4) (o := 15) (n := 0) (v := (.slice A14 0 c14)) J.out mem_x) (fun hHeld => ?_)
      clear hK K
      refine norm_ (a' := ?_) ?_ ?_
      rotate_left
      · show Act.put _ (some 35) _ = _
        simp only [Act.put, List.setIfInBounds_toArray, List.set_cons_zero, List.set_cons_succ, i64_w, i32_w, u8_w, u32_w]
        rfl
      refine one_ (i := 9) (N := (some 36)) (bl 13 3071) rfl rfl (one_of HT_.out (by kernel_rfl)) (by decide) (fun K hK => ?_)
      refine lit_step_goG (fun k => k = g8) (fun k hk => by rw [hk]; exact blk_lt BZ.out) ?hg (N' := 36) ?hd (xs := ([⟨15, 0, []⟩, ⟨20, 0, [⟨15, 0, []⟩, ⟨26, 0, [⟨1, 0, []⟩, ⟨1, 1, []⟩]⟩]⟩] : List S29)) (inner := ?inn36_15) ?hr ?hp (by simp) ?_
      (case hd => rfl)
      (case hg => rfl)
      (case hr => first | (go_simp; done) | (go_simp; rfl))
      (case hp => exact Reps.c3 ⟨_, rfl, F.out (_, _) mem_x⟩ (Reps.c3 ⟨_, rfl, F.out (_, _) mem_x⟩ (Reps.none _ _)))
      intro v36 w36 hv_ hb_
      replace F := Aside0.mk (allg_step F.out hb_ hv_)
      replace J := Aside0.mk (J.out.below hb_)
      replace BZ := Aside0.mk (blk_below BZ.out hb_)
      clear hb_ hv_
      refine hK.out _ _ (KB.c (g := g4) (o := 15) (n := 0) (v := (.slice A14 0 c14)) J.out mem_x) (fun hHeld => ?_)
      clear hK K
      refine norm_ (a' := ?_) ?_ ?_
      rotate_left
      · show Act.put _ (some 36) _ = _
        simp only [Act.put, List.setIfInBounds_toArray, List.set_cons_zero, List.set_cons_succ, i64_w, i32_w, u8_w, u32_w]
        rfl
      refine one_ (i := 10) (N := (some 37)) (bl 13 4095) rfl rfl (one_of HT_.out (by kernel_rfl)) (by decide) (fun K hK => ?_)
      refine goes_ Tryd.func21 (by kernel_rfl) rfl #[.int .i64 20, v36] (by rfl) rfl rfl (by (try simp only [List.map_toArray, List.map_cons, List.map_nil]); first | done | rfl | (simp only [List.length_drop, List.length_take]; rfl)) ?_
      refine (T_goG 20 _ _ _ (fun k => k = g8) (fun k hk => by rw [hk]; exact blk_lt BZ.out) (F.out (_, _) mem_x)).mono ?_
      rintro e w37 ⟨v37, rfl, hv_, hb_⟩
      refine ⟨_, rfl, ?_⟩
      obtain ⟨A37, c37, hve_⟩ := Kd.V_slice hv_
      replace hve_ : v37 = .slice A37 2 c37 := hve_
      subst hve_
      replace F := Aside0.mk (allg_step F.out hb_ hv_)
      replace J := Aside0.mk (J.out.below hb_)
      replace BZ := Aside0.mk (blk_below BZ.out hb_)
      clear hb_ hv_
      refine hK.out _ _ (KB.c (g := g4) (o := 15) (n := 0) (v := (.slice A14 0 c14)) J.out mem_x) (fun hHeld => ?_)
      clear hK K
      refine norm_ (a' := ?_) ?_ ?_
      rotate_left
      · show Act.put _ (some 37) _ = _
        simp only [Act.put, List.setIfInBounds_toArray, List.set_cons_zero, List.set_cons_succ, i64_w, i32_w, u8_w, u32_w]
        rfl
      refine last_ (i := 12) (N := none) (bl 13 8191) rfl rfl (one_of HT_.out (by kernel_rfl)) (by decide) (fun K hK => ?_)
      have hs0 := (blk_cell BZ.out 0).trans (show _ = some (.int .i64 0) from rfl)
      have hs1 := (blk_cell BZ.out 1).trans (show _ = some (.int .i64 0) from rfl)
      have hs2 := (blk_cell BZ.out 2).trans (show _ = some (.slice none 0 0) from rfl)
      have hf0 := blk_frozen BZ.out 0
      have hf1 := blk_frozen BZ.out 1
      have hf2 := blk_frozen BZ.out 2
      refine skip_ (w1 := ?_) (by rfl) rfl ?_ ?_
      rotate_left
      · go_simp
        rfl
      refine hK.out _ _ ?_
      clear hK K
      refine done_ (done_of HT_.out (by kernel_rfl)) ?_
      exact hQ v30 v32 v33 v34 v35 v36 A37 c37 g8 _ (allg_put F.out _ _ _) ((J.out.put GW.out NE.out _ _ _).more (blk_set3 BZ.out rfl _ _ _))
  · refine box_step (by rfl) (N := 8) rfl (cs := #[.int .i64 0, .int .i64 0, .slice none 0 0]) (t := 29) ?hr ?_
    (case hr => first | (go_simp; done) | (go_simp; rfl))
    intro g8 hg_ w8 hbox_ hb_
    replace F := Aside0.mk (allg_old (G := fun k => k = g8) F.out hb_ (fun k hk => by omega))
    have NE := Aside0.mk (J.out.ne hg_)
    have GW : Aside0 (w.heap.size ≤ g8) := ⟨by have := J.out.1.size; omega⟩
    replace J := Aside0.mk (J.out.below hb_)
    have BZ := Aside0.mk hbox_
    clear hbox_ hb_ hg_
    refine hK.out _ _ (KB.c (g := g4) (o := 15) (n := 0) (v := (.slice A14 0 c14)) J.out mem_x) (fun hHeld => ?_)
    clear hK K
    refine norm_ (a' := ?_) ?_ ?_
    rotate_left
    · show Act.put _ (some 8) _ = _
      simp only [Act.put, List.setIfInBounds_toArray, List.set_cons_zero, List.set_cons_succ, i64_w, i32_w, u8_w, u32_w]
      rfl
    refine one_ (i := 3) (N := (some 30)) (bl 13 2079) rfl rfl (one_of HT_.out (by kernel_rfl)) (by decide) (fun K hK => ?_)
    refine goesV_ Tryd.func20 (by kernel_rfl) rfl #[.int .i64 (0)] (by rfl) rfl rfl rfl (by (try simp only [List.map_toArray, List.map_cons, List.map_nil]); first | done | rfl | (simp only [List.length_drop, List.length_take]; rfl)) ?_
    refine (V_goG (0) _ (fun k => k = g8) (fun k hk => by rw [hk]; exact blk_lt BZ.out)).mono ?_
    rintro e w30 ⟨v30, rfl, hv_, hb_⟩
    refine ⟨_, rfl, ?_⟩
    replace F := Aside0.mk (allg_step F.out hb_ hv_)
    replace J := Aside0.mk (J.out.below hb_)
    replace BZ := Aside0.mk (blk_below BZ.out hb_)
    clear hb_ hv_
    refine hK.out _ _ (KB.c (g := g4) (o := 15) (n := 0) (v := (.slice A14 0 c14)) J.out mem_x) (fun hHeld => ?_)
    clear hK K
    refine norm_ (a' := ?_) ?_ ?_
    rotate_left
    · show Act.put _ (some 30) _ = _
      simp only [Act.put, List.setIfInBounds_toArray, List.set_cons_zero, List.set_cons_succ, i64_w, i32_w, u8_w, u32_w]
      rfl
    refine one_ (i := 5) (N := (some 32)) (bl 13 2111) rfl rfl (one_of HT_.out (by kernel_rfl)) (by decide) (fun K hK => ?_)
    refine goesV_ Tryd.func20 (by kernel_rfl) rfl #[.int .i64 (1)] (by rfl) rfl rfl rfl (by (try simp only [List.map_toArray, List.map_cons, List.map_nil]); first | done | rfl | (simp only [List.length_drop, List.length_take]; rfl)) ?_
    refine (V_goG (1) _ (fun k => k = g8) (fun k hk => by rw [hk]; exact blk_lt BZ.out)).mono ?_
    rintro e w32 ⟨v32, rfl, hv_, hb_⟩
    refine ⟨_, rfl, ?_⟩
    replace F := Aside0.mk (allg_step F.out hb_ hv_)
    replace J := Aside0.mk (J.out.below hb_)
    replace BZ := Aside0.mk (blk_below BZ.out hb_)
    clear hb_ hv_
    refine hK.out _ _ (KB.c (g := g4) (o := 15) (n := 0) (v := (.slice A14 0 c14)) J.out mem_x) (fun hHeld => ?_)
    clear hK K
    refine norm_ (a' := ?_) ?_ ?_
    rotate_left
    · show Act.put _ (some 32) _ = _
      simp only [Act.put, List.setIfInBounds_toArray, List.set_cons_zero, List.set_cons_succ, i64_w, i32_w, u8_w, u32_w]
      rfl
    refine one_ (i := 6) (N := (some 33)) (bl 13 2175) rfl rfl (one_of HT_.out (by kernel_rfl)) (by decide) (fun K hK => ?_)
    refine goes_ Tryd.func23 (by kernel_rfl) rfl #[.int .i64 0, .agg #[.int .i64 (1), .int .i64 (0), v30], .agg #[.int .i64 (1), .int .i64 (1), v32]] (by rfl) rfl rfl (by (try simp only [List.map_toArray, List.map_cons, List.map_nil]); first | done | rfl | (simp only [List.length_drop, List.length_take]; rfl)) ?_
    refine (prim_goG 0 ⟨1, 0, []⟩ ⟨1, 1, []⟩ _ _ _ (fun k => k = g8) (fun k hk => by rw [hk]; exact blk_lt BZ.out) (F.out (_, _) mem_x) (F.out (_, _) mem_x)).mono ?_
    rintro e w33 ⟨v33, rfl, hv_, hb_⟩
    refine ⟨_, rfl, ?_⟩
    replace F := Aside0.mk (allg_step F.out hb_ hv_)
    replace J := Aside0.mk (J.out.below hb_)
    replace BZ := Aside0.mk (blk_below BZ.out hb_)
    clear hb_ hv_
    refine hK.out _ _ (KB.c (g := g4) (o := 15) (n := 0) (v := (.slice A14 0 c14)) J.out mem_x) (fun hHeld => ?_)
    clear hK K
    refine norm_ (a' := ?_) ?_ ?_
    rotate_left
    · show Act.put _ (some 33) _ = _
      simp only [Act.put, List.setIfInBounds_toArray, List.set_cons_zero, List.set_cons_succ, i64_w, i32_w, u8_w, u32_w]
      rfl
    refine one_ (i := 7) (N := (some 34)) (bl 13 2303) rfl rfl (one_of HT_.out (by kernel_rfl)) (by decide) (fun K hK => ?_)
    refine lit_step_goG (fun k => k = g8) (fun k hk => by rw [hk]; exact blk_lt BZ.out) ?hg (N' := 34) ?hd (xs := ([⟨15, 0, []⟩, ⟨26, 0, [⟨1, 0, []⟩, ⟨1, 1, []⟩]⟩] : List S29)) (inner := ?inn34_16) ?hr ?hp (by simp) ?_
    (case hd => rfl)
    (case hg => rfl)
    (case hr => first | (go_simp; done) | (go_simp; rfl))
    (case hp => exact Reps.c3 ⟨_, rfl, F.out (_, _) mem_x⟩ (Reps.c3 ⟨_, rfl, F.out (_, _) mem_x⟩ (Reps.none _ _)))
    intro v34 w34 hv_ hb_
    replace F := Aside0.mk (allg_step F.out hb_ hv_)
    replace J := Aside0.mk (J.out.below hb_)
    replace BZ := Aside0.mk (blk_below BZ.out hb_)
    clear hb_ hv_
    refine hK.out _ _ (KB.c (g := g4) (o := 15) (n := 0) (v := (.slice A14 0 c14)) J.out mem_x) (fun hHeld => ?_)
    clear hK K
    refine norm_ (a' := ?_) ?_ ?_
    rotate_left
    · show Act.put _ (some 34) _ = _
      simp only [Act.put, List.setIfInBounds_toArray, List.set_cons_zero, List.set_cons_succ, i64_w, i32_w, u8_w, u32_w]
      rfl
    refine one_ (i := 8) (N := (some 35)) (bl 13 2559) rfl rfl (one_of HT_.out (by kernel_rfl)) (by decide) (fun K hK => ?_)
    refine goes_ Tryd.func21 (by kernel_rfl) rfl #[.int .i64 20, v34] (by rfl) rfl rfl (by (try simp only [List.map_toArray, List.map_cons, List.map_nil]); first | done | rfl | (simp only [List.length_drop, List.length_take]; rfl)) ?_
    refine (T_goG 20 _ _ _ (fun k => k = g8) (fun k hk => by rw [hk]; exact blk_lt BZ.out) (F.out (_, _) mem_x)).mono ?_
    rintro e w35 ⟨v35, rfl, hv_, hb_⟩
    refine ⟨_, rfl, ?_⟩
    replace F := Aside0.mk (allg_step F.out hb_ hv_)
    replace J := Aside0.mk (J.out.below hb_)
    replace BZ := Aside0.mk (blk_below BZ.out hb_)
    clear hb_ hv_
    refine hK.out _ _ (KB.c (g := g4) (o := 15) (n := 0) (v := (.slice A14 0 c14)) J.out mem_x) (fun hHeld => ?_)
    clear hK K
    refine norm_ (a' := ?_) ?_ ?_
    rotate_left
    · show Act.put _ (some 35) _ = _
      simp only [Act.put, List.setIfInBounds_toArray, List.set_cons_zero, List.set_cons_succ, i64_w, i32_w, u8_w, u32_w]
      rfl
    refine one_ (i := 9) (N := (some 36)) (bl 13 3071) rfl rfl (one_of HT_.out (by kernel_rfl)) (by decide) (fun K hK => ?_)
    refine lit_step_goG (fun k => k = g8) (fun k hk => by rw [hk]; exact blk_lt BZ.out) ?hg (N' := 36) ?hd (xs := ([⟨15, 0, []⟩, ⟨20, 0, [⟨15, 0, []⟩, ⟨26, 0, [⟨1, 0, []⟩, ⟨1, 1, []⟩]⟩]⟩] : List S29)) (inner := ?inn36_17) ?hr ?hp (by simp) ?_
    (case hd => rfl)
    (case hg => rfl)
    (case hr => first | (go_simp; done) | (go_simp; rfl))
    (case hp => exact Reps.c3 ⟨_, rfl, F.out (_, _) mem_x⟩ (Reps.c3 ⟨_, rfl, F.out (_, _) mem_x⟩ (Reps.none _ _)))
    intro v36 w36 hv_ hb_
    replace F := Aside0.mk (allg_step F.out hb_ hv_)
    replace J := Aside0.mk (J.out.below hb_)
    replace BZ := Aside0.mk (blk_below BZ.out hb_)
    clear hb_ hv_
    refine hK.out _ _ (KB.c (g := g4) (o := 15) (n := 0) (v := (.slice A14 0 c14)) J.out mem_x) (fun hHeld => ?_)
    clear hK K
    refine norm_ (a' := ?_) ?_ ?_
    rotate_left
    · show Act.put _ (some 36) _ = _
      simp only [Act.put, List.setIfInBounds_toArray, List.set_cons_zero, List.set_cons_succ, i64_w, i32_w, u8_w, u32_w]
      rfl
    refine one_ (i := 10) (N := (some 37)) (bl 13 4095) rfl rfl (one_of HT_.out (by kernel_rfl)) (by decide) (fun K hK => ?_)
    refine goes_ Tryd.func21 (by kernel_rfl) rfl #[.int .i64 20, v36] (by rfl) rfl rfl (by (try simp only [List.map_toArray, List.map_cons, List.map_nil]); first | done | rfl | (simp only [List.length_drop, List.length_take]; rfl)) ?_
    refine (T_goG 20 _ _ _ (fun k => k = g8) (fun k hk => by rw [hk]; exact blk_lt BZ.out) (F.out (_, _) mem_x)).mono ?_
    rintro e w37 ⟨v37, rfl, hv_, hb_⟩
    refine ⟨_, rfl, ?_⟩
    obtain ⟨A37, c37, hve_⟩ := Kd.V_slice hv_
    replace hve_ : v37 = .slice A37 2 c37 := hve_
    subst hve_
    replace F := Aside0.mk (allg_step F.out hb_ hv_)
    replace J := Aside0.mk (J.out.below hb_)
    replace BZ := Aside0.mk (blk_below BZ.out hb_)
    clear hb_ hv_
    refine hK.out _ _ (KB.c (g := g4) (o := 15) (n := 0) (v := (.slice A14 0 c14)) J.out mem_x) (fun hHeld => ?_)
    clear hK K
    refine norm_ (a' := ?_) ?_ ?_
    rotate_left
    · show Act.put _ (some 37) _ = _
      simp only [Act.put, List.setIfInBounds_toArray, List.set_cons_zero, List.set_cons_succ, i64_w, i32_w, u8_w, u32_w]
      rfl
    refine last_ (i := 12) (N := none) (bl 13 8191) rfl rfl (one_of HT_.out (by kernel_rfl)) (by decide) (fun K hK => ?_)
    have hs0 := (blk_cell BZ.out 0).trans (show _ = some (.int .i64 0) from rfl)
    have hs1 := (blk_cell BZ.out 1).trans (show _ = some (.int .i64 0) from rfl)
    have hs2 := (blk_cell BZ.out 2).trans (show _ = some (.slice none 0 0) from rfl)
    have hf0 := blk_frozen BZ.out 0
    have hf1 := blk_frozen BZ.out 1
    have hf2 := blk_frozen BZ.out 2
    refine skip_ (w1 := ?_) (by rfl) rfl ?_ ?_
    rotate_left
    · go_simp
      rfl
    refine hK.out _ _ ?_
    clear hK K
    refine done_ (done_of HT_.out (by kernel_rfl)) ?_
    exact hQ v30 v32 v33 v34 v35 v36 A37 c37 g8 _ (allg_put F.out _ _ _) ((J.out.put GW.out NE.out _ _ _).more (blk_set3 BZ.out rfl _ _ _))
end Go.Proofs.YtnecmclnokikoaaDoor.P
/- RunKnown: its drawn region 7, its table (genrk.py). -/
namespace Go.Proofs.YtnecmclnokikoaaDoor.P
open Go.RowKit Go.Proofs.YtnecmclnokikoaaDoorW.PrintWords Go.Proofs.YtnecmclnokikoaaDoorW.PrintLast Go.Proofs.YtnecmclnokikoaaDoorW.PrintMore
attribute [local go_sem] max2_int min2_int max_two min_two max_three min_three max_four min_four
set_option linter.unusedVariables false
set_option linter.unusedSimpArgs false
def rk7.T7 : Bool × List (List Nat × List Nat) := (true, [([], []), ([0], [0]), ([], []), ([], []), ([], []), ([4, 1], [4]), ([3, 5], [3, 5]), ([6, 5], [6]), ([], []), ([8, 7], [8]), ([], []), ([9, 10], [9, 10]), ([11, 9], [11]), ([], []), ([13, 12], [13]), ([], []), ([15, 14], [15]), ([14, 16], [14, 16]), ([17, 16], [17]), ([18], [18]), ([19, 18], [19]), ([], []), ([21, 20], [21]), ([], []), ([23, 22], [23]), ([], []), ([25, 24], [25]), ([24, 26], [24, 26]), ([27, 26], [27]), ([22, 28], [22, 28]), ([29, 28], [29]), ([30], [30]), ([31, 30], [31]), ([], []), ([33, 32], [33]), ([], []), ([35, 34], [35]), ([], []), ([37, 36], [37]), ([34, 36, 38], [34, 36, 38]), ([39, 38], [39]), ([], []), ([41, 40], [41]), ([], []), ([43, 42], [43]), ([42, 44, 44], [42, 44]), ([], []), ([46, 45], [46]), ([], []), ([48, 47], [48]), ([45, 47, 49], [45, 47, 49]), ([50, 49], [50]), ([], []), ([52, 51], [52]), ([], []), ([54, 53], [54]), ([], []), ([56, 55], [56]), ([55, 57, 57], [55, 57]), ([53, 58], [53, 58]), ([59, 58], [59]), ([], []), ([], []), ([62, 60], [62]), ([61, 63], [61, 63]), ([64, 63], [64]), ([], []), ([66, 65], [66]), ([65, 67], [65, 67]), ([68, 67], [68]), ([], []), ([70, 69], [70]), ([], []), ([], []), ([73, 71], [73]), ([72, 74], [72, 74]), ([75, 74], [75]), ([], []), ([77, 76], [77]), ([], []), ([79, 78], [79]), ([], []), ([81, 80], [81]), ([80, 82], [80, 82]), ([83, 82], [83]), ([78, 84], [78, 84]), ([85, 84], [85]), ([76, 86], [76, 86]), ([87, 86], [87]), ([71, 88], [71, 88]), ([89, 88], [89]), ([], []), ([91, 90], [91]), ([], []), ([93, 92], [93]), ([92, 94, 94], [92, 94]), ([], []), ([96, 95], [96]), ([], []), ([98, 97], [98]), ([97, 99, 99], [97, 99]), ([], []), ([101, 100], [101]), ([], []), ([103, 102], [103]), ([], []), ([105, 104], [105]), ([104, 106, 106], [104, 106]), ([], []), ([108, 107], [108]), ([102, 107, 109], [102, 107, 109]), ([110, 109], [110]), ([], []), ([112, 111], [112]), ([], []), ([114, 113], [114]), ([113, 115, 115], [113, 115]), ([], []), ([117, 116], [117]), ([116, 118], [116, 118]), ([119, 118], [119]), ([], []), ([121, 120], [121]), ([], []), ([123, 122], [123]), ([122, 124, 124], [122, 124]), ([], []), ([126, 125], [126]), ([125, 127], [125, 127]), ([128, 127], [128]), ([], []), ([], []), ([131, 129], [131]), ([], []), ([133, 132], [133]), ([], []), ([135, 134], [135]), ([134, 136], [134, 136]), ([137, 136], [137]), ([132, 138], [132, 138]), ([139, 138], [139]), ([130, 140], [130, 140]), ([141, 140], [141]), ([], []), ([142, 143], [142, 143]), ([144, 142], [144]), ([], []), ([146, 145], [146]), ([], []), ([148, 147], [148]), ([147, 149, 149], [147, 149]), ([1, 2, 7, 12, 20, 32, 40, 51, 60, 69, 90, 95, 100, 111, 120, 129, 145, 150], [1, 2, 7, 12, 20, 32, 40, 51, 60, 69, 90, 95, 100, 111, 120, 129, 145, 150]), ([151, 150, 0, 1, 2, 3, 4, 5, 6, 7, 8, 9, 10, 11, 12, 13, 14, 15, 16, 17, 18, 19, 20, 21, 22, 23, 24, 25, 26, 27, 28, 29, 30, 31, 32, 33, 34, 35, 36, 37, 38, 39, 40, 41, 42, 43, 44, 45, 46, 47, 48, 49, 50, 51, 52, 53, 54, 55, 56, 57, 58, 59, 60, 61, 62, 63, 64, 65, 66, 67, 68, 69, 70, 71, 72, 73, 74, 75, 76, 77, 78, 79, 80, 81, 82, 83, 84, 85, 86, 87, 88, 89, 90, 91, 92, 93, 94, 95, 96, 97, 98, 99, 100, 101, 102, 103, 104, 105, 106, 107, 108, 109, 110, 111, 112, 113, 114, 115, 116, 117, 118, 119, 120, 121, 122, 123, 124, 125, 126, 127, 128, 129, 130, 131, 132, 133, 134, 135, 136, 137, 138, 139, 140, 141, 142, 143, 144, 145, 146, 147, 148, 149, 150, 151], [151])])
def rk7.B7 : List Nat := [0, 1, 0, 0, 0, 19, 59, 123, 0, 507, 0, 2043, 4091, 0, 16379, 0, 65531, 131067, 262139, 524283, 1048571, 0, 4194299, 0, 16777211, 0, 67108859, 134217723, 268435451, 536870907, 1073741819, 2147483643, 4294967291, 0, 17179869179, 0, 68719476731, 0, 274877906939, 549755813883, 1099511627771, 0, 4398046511099, 0, 17592186044411, 35184372088827, 0, 140737488355323, 0, 562949953421307, 1125899906842619, 2251799813685243, 0, 9007199254740987, 0, 36028797018963963, 0, 144115188075855867, 288230376151711739, 576460752303423483, 1152921504606846971, 0, 0, 6917529027641081851, 18446744073709551611, 36893488147419103227, 0, 147573952589676412923, 295147905179352825851, 590295810358705651707, 0, 2361183241434822606843, 0, 0, 14167099448608935641083, 37778931862957161709563, 75557863725914323419131, 0, 302231454903657293676539, 0, 1208925819614629174706171, 0, 4835703278458516698824699, 9671406556917033397649403, 19342813113834066795298811, 38685626227668133590597627, 77371252455336267181195259, 154742504910672534362390523, 309485009821345068724781051, 618970019642690137449562107, 1237940039285380274899124219, 0, 4951760157141521099596496891, 0, 19807040628566084398385987579, 39614081257132168796771975163, 0, 158456325028528675187087900667, 0, 633825300114114700748351602683, 1267650600228229401496703205371, 0, 5070602400912917605986812821499, 0, 20282409603651670423947251286011, 0, 81129638414606681695789005144059, 162259276829213363391578010288123, 0, 649037107316853453566312041152507, 1298074214633706907132624082305019, 2596148429267413814265248164610043, 0, 10384593717069655257060992658440187, 0, 41538374868278621028243970633760763, 83076749736557242056487941267521531, 0, 332306998946228968225951765070086139, 664613997892457936451903530140172283, 1329227995784915872903807060280344571, 0, 5316911983139663491615228241121378299, 0, 21267647932558653966460912964485513211, 42535295865117307932921825928971026427, 0, 170141183460469231731687303715884105723, 340282366920938463463374607431768211451, 680564733841876926926749214863536422907, 0, 0, 4083388403051261561560495289181218537467, 0, 20416942015256307807802476445906092687355, 0, 85751156464076492792770401072805589286907, 172863442395836739439394300575338251419643, 347088014259357232732642099580403575685115, 695537157986398219319137697590534224216059, 1392435445440480192492128893610795521277947, 2787593149816327892691964784081045188247547, 5575186299632655785383929568162090376495099, 0, 22300745198530623141535718272648361505980411, 44601490397061246283071436545296723011960827, 0, 178405961588244985132285746181186892047843323, 0, 713623846352979940529142984724747568191373307, 1427247692705959881058285969449495136382746619, 2854495385411919762116571938898990272765493247, 5708990770823839524233143877797980545530986495]
theorem rk7.tab7 : rtab .any (opsOf Tryd.f5 7) = rk7.T7 := by kernel_rfl
theorem rk7.bits7 : waitsOk rk7.T7.2 rk7.B7 = true := by kernel_rfl
end Go.Proofs.YtnecmclnokikoaaDoor.P
/- RunKnown: its drawn region 7, part 0 (genrk.py). -/
namespace Go.Proofs.YtnecmclnokikoaaDoor.P
open Go.RowKit Go.Proofs.YtnecmclnokikoaaDoorW.PrintWords Go.Proofs.YtnecmclnokikoaaDoorW.PrintLast Go.Proofs.YtnecmclnokikoaaDoorW.PrintMore
attribute [local go_sem] max2_int min2_int max_two min_two max_three min_three max_four min_four
set_option linter.unusedVariables false
set_option linter.unusedSimpArgs false
set_option maxHeartbeats 32000000 in
set_option maxRecDepth 100000 in
theorem rk7_0 (a0 : Int) (g4 : Nat) (A14 : Option Addr) (c14 : Nat) (v17 : Value) (A18 : Option Addr) (c18 : Nat) (g6 : Nat) (v21 : Value) (v23 : Value) (v24 : Value) (v25 : Value) (A26 : Option Addr) (c26 : Nat) (g7 : Nat) (v30 : Value) (v32 : Value) (v33 : Value) (v34 : Value) (v35 : Value) (v36 : Value) (A37 : Option Addr) (c37 : Nat) (g8 : Nat) (w x : World) {ops : Array Oper} {K : Act → World → Prop} {R : Ending → World → Prop} (hops : ops = opsOf Tryd.f5 7) (hF : ALLG x (fun _ => False) [((.slice A14 0 c14), ([] : List S29)), ((.slice A18 2 c18), ([⟨15, 0, []⟩, ⟨15, 0, []⟩] : List S29)), ((.slice A26 2 c26), ([⟨15, 0, []⟩, ⟨26, 0, [⟨1, 0, []⟩, ⟨25, 1, []⟩]⟩] : List S29)), ((.slice A37 2 c37), ([⟨15, 0, []⟩, ⟨20, 0, [⟨15, 0, []⟩, ⟨26, 0, [⟨1, 0, []⟩, ⟨1, 1, []⟩]⟩]⟩] : List S29))]) (hJ : KB w x [(g8, 20, 0, (.slice A37 2 c37)), (g7, 20, 0, (.slice A26 2 c26)), (g6, 16, 0, (.slice A18 2 c18)), (g4, 15, 0, (.slice A14 0 c14))])
    (hQ : ∀ (v39 : Value) (v43 : Value) (v44 : Value) (v45 : Value) (v47 : Value) (v49 : Value) (v50 : Value) (v52 : Value) (v54 : Value) (v55 : Value) (v56 : Value) (v57 : Value) (v58 : Value) (v60 : Value) (v62 : Value) (v64 : Value) (v65 : Value) (x' : World), ALLG x' (fun _ => False) [(v65, ([⟨25, 2, []⟩, ⟨25, 3, []⟩] : List S29)), (v60, ([] : List S29)), (v58, ([⟨22, 0, [⟨25, 1, []⟩, ⟨25, 2, []⟩]⟩] : List S29)), (v50, ([⟨25, 1, []⟩, ⟨20, 0, [⟨15, 0, []⟩, ⟨26, 0, [⟨1, 0, []⟩, ⟨25, 1, []⟩]⟩]⟩] : List S29)), (v45, ([⟨20, 0, [⟨15, 0, []⟩, ⟨26, 0, [⟨1, 0, []⟩, ⟨25, 1, []⟩]⟩]⟩, ⟨25, 4, []⟩] : List S29)), (v39, ([] : List S29)), ((.slice A14 0 c14), ([] : List S29)), ((.slice A18 2 c18), ([⟨15, 0, []⟩, ⟨15, 0, []⟩] : List S29)), ((.slice A26 2 c26), ([⟨15, 0, []⟩, ⟨26, 0, [⟨1, 0, []⟩, ⟨25, 1, []⟩]⟩] : List S29)), ((.slice A37 2 c37), ([⟨15, 0, []⟩, ⟨20, 0, [⟨15, 0, []⟩, ⟨26, 0, [⟨1, 0, []⟩, ⟨1, 1, []⟩]⟩]⟩] : List S29))] → KB w x' [(g8, 20, 0, (.slice A37 2 c37)), (g7, 20, 0, (.slice A26 2 c26)), (g6, 16, 0, (.slice A18 2 c18)), (g4, 15, 0, (.slice A14 0 c14))] → wpAnyLast Tryd.prog .any ops (Exit.then K (bodyPost Tryd.prog Tryd.f5 R)) (fun w' => w'.cell? ⟨g4, 0, none⟩ = some (.int .i64 15) ∧ w'.cell? ⟨g4, 1, none⟩ = some (.int .i64 0) ∧ w'.cell? ⟨g4, 2, none⟩ = some ((.slice A14 0 c14)) ∧ w'.cell? ⟨g6, 0, none⟩ = some (.int .i64 16) ∧ w'.cell? ⟨g6, 1, none⟩ = some (.int .i64 0) ∧ w'.cell? ⟨g6, 2, none⟩ = some ((.slice A18 2 c18)) ∧ w'.cell? ⟨g7, 0, none⟩ = some (.int .i64 20) ∧ w'.cell? ⟨g7, 1, none⟩ = some (.int .i64 0) ∧ w'.cell? ⟨g7, 2, none⟩ = some ((.slice A26 2 c26)) ∧ w'.cell? ⟨g8, 0, none⟩ = some (.int .i64 20) ∧ w'.cell? ⟨g8, 1, none⟩ = some (.int .i64 0) ∧ w'.cell? ⟨g8, 2, none⟩ = some ((.slice A37 2 c37))) [] 85 (bl 153 457223903692353016069030977463258896276652031) ({ tmps := #[.int .i64 a0, undef, .bool false, .func (.func 20) #[] #[], .pointer (some ⟨g4, 0, none⟩), .func (.func 22) #[] #[], .pointer (some ⟨g6, 0, none⟩), .pointer (some ⟨g7, 0, none⟩), .pointer (some ⟨g8, 0, none⟩), undef, undef, undef, .bool true, .bool false, .agg #[.int .i64 (15), .int .i64 (0), (.slice A14 0 c14)], .agg #[.int .i64 (15), .int .i64 (0), (.slice A14 0 c14)], .agg #[.int .i64 (15), .int .i64 (0), (.slice A14 0 c14)], v17, .agg #[.int .i64 (16), .int .i64 (0), (.slice A18 2 c18)], .agg #[.int .i64 (15), .int .i64 (0), (.slice A14 0 c14)], .func (.func 20) #[] #[], .agg #[.int .i64 (1), .int .i64 (0), v21], .func (.func 22) #[] #[], .agg #[.int .i64 (25), .int .i64 (1), v23], .agg #[.int .i64 (26), .int .i64 (0), v24], v25, .agg #[.int .i64 (20), .int .i64 (0), (.slice A26 2 c26)], .agg #[.int .i64 (15), .int .i64 (0), (.slice A14 0 c14)], .agg #[.int .i64 (15), .int .i64 (0), (.slice A14 0 c14)], .func (.func 20) #[] #[], .agg #[.int .i64 (1), .int .i64 (0), v30], .func (.func 20) #[] #[], .agg #[.int .i64 (1), .int .i64 (1), v32], .agg #[.int .i64 (26), .int .i64 (0), v33], v34, .agg #[.int .i64 (20), .int .i64 (0), v35], v36, .agg #[.int .i64 (20), .int .i64 (0), (.slice A37 2 c37)], .func (.func 22) #[] #[], .agg #[.int .i64 (25), .int .i64 (7), v39], .agg #[.int .i64 (20), .int .i64 (0), (.slice A26 2 c26)], .agg #[.int .i64 (20), .int .i64 (0), (.slice A26 2 c26)], .func (.func 22) #[] #[], .agg #[.int .i64 (25), .int .i64 (4), v43], v44, .agg #[.int .i64 (21), .int .i64 (0), v45], .func (.func 22) #[] #[], .agg #[.int .i64 (25), .int .i64 (1), v47], .agg #[.int .i64 (20), .int .i64 (0), (.slice A26 2 c26)], v49, .agg #[.int .i64 (22), .int .i64 (0), v50], .func (.func 22) #[] #[], .agg #[.int .i64 (25), .int .i64 (1), v52], .func (.func 22) #[] #[], .agg #[.int .i64 (25), .int .i64 (2), v54], v55, .agg #[.int .i64 (22), .int .i64 (0), v56], v57, .agg #[.int .i64 (23), .int .i64 (0), v58], .func (.func 22) #[] #[], .agg #[.int .i64 (25), .int .i64 (1), v60], .func (.func 22) #[] #[], .agg #[.int .i64 (25), .int .i64 (2), v62], .func (.func 22) #[] #[], .agg #[.int .i64 (25), .int .i64 (3), v64], v65, undef, undef, undef, undef, undef, .func (.func 22) #[] #[], undef, .func (.func 22) #[] #[], undef, .func (.func 22) #[] #[], undef, undef, undef, .func (.func 22) #[] #[], undef, .func (.func 22) #[] #[], undef, undef, .func (.func 22) #[] #[], undef, .func (.func 22) #[] #[], undef, undef, undef, .func (.func 22) #[] #[], undef, .func (.func 20) #[] #[], undef, .func (.func 20) #[] #[], undef, undef, undef, undef, .agg #[.int .i64 (20), .int .i64 (0), (.slice A37 2 c37)], .func (.func 22) #[] #[], undef, undef, undef, .func (.func 22) #[] #[], undef, undef, undef, .func (.func 22) #[] #[], undef, .agg #[.int .i64 (15), .int .i64 (0), (.slice A14 0 c14)], .func (.func 20) #[] #[], undef, undef, undef, .func (.func 22) #[] #[], undef, .func (.func 20) #[] #[], undef, .func (.func 22) #[] #[], undef, undef, undef, undef, undef, undef, undef, undef, undef, .func (.func 22) #[] #[], undef, .func (.func 22) #[] #[], undef, undef, .func (.func 22) #[] #[], undef, .func (.func 22) #[] #[], undef, undef, .func (.func 22) #[] #[], undef, .func (.func 22) #[] #[], undef, .func (.func 22) #[] #[], undef, undef, .func (.func 22) #[] #[], undef, undef, undef, .func (.func 22) #[] #[], undef, .func (.func 22) #[] #[], undef, undef, .func (.func 22) #[] #[], undef, undef, undef, .func (.func 22) #[] #[], undef, .func (.func 22) #[] #[], undef, undef, .func (.func 22) #[] #[], undef, undef, undef, .agg #[.int .i64 (16), .int .i64 (0), (.slice A18 2 c18)], .func (.func 20) #[] #[], undef, .func (.func 20) #[] #[], undef, .func (.func 22) #[] #[], undef, undef, undef, undef, undef, undef, undef, .agg #[.int .i64 (20), .int .i64 (0), (.slice A26 2 c26)], undef, undef, .func (.func 22) #[] #[], undef, .func (.func 22) #[] #[], undef, undef, undef, undef, undef, undef, undef, undef, undef, undef, undef, undef, undef, undef, undef, undef, undef, undef], defers := [] } : Act) x') :
    (Code.region 7 ops true).wp Tryd.prog (Exit.then K (bodyPost Tryd.prog Tryd.f5 R)) ({ tmps := #[.int .i64 a0, undef, .bool false, .func (.func 20) #[] #[], .pointer (some ⟨g4, 0, none⟩), .func (.func 22) #[] #[], .pointer (some ⟨g6, 0, none⟩), .pointer (some ⟨g7, 0, none⟩), .pointer (some ⟨g8, 0, none⟩), undef, undef, undef, .bool true, .bool false, .agg #[.int .i64 (15), .int .i64 (0), (.slice A14 0 c14)], .agg #[.int .i64 (15), .int .i64 (0), (.slice A14 0 c14)], .agg #[.int .i64 (15), .int .i64 (0), (.slice A14 0 c14)], v17, .agg #[.int .i64 (16), .int .i64 (0), (.slice A18 2 c18)], .agg #[.int .i64 (15), .int .i64 (0), (.slice A14 0 c14)], .func (.func 20) #[] #[], .agg #[.int .i64 (1), .int .i64 (0), v21], .func (.func 22) #[] #[], .agg #[.int .i64 (25), .int .i64 (1), v23], .agg #[.int .i64 (26), .int .i64 (0), v24], v25, .agg #[.int .i64 (20), .int .i64 (0), (.slice A26 2 c26)], .agg #[.int .i64 (15), .int .i64 (0), (.slice A14 0 c14)], .agg #[.int .i64 (15), .int .i64 (0), (.slice A14 0 c14)], .func (.func 20) #[] #[], .agg #[.int .i64 (1), .int .i64 (0), v30], .func (.func 20) #[] #[], .agg #[.int .i64 (1), .int .i64 (1), v32], .agg #[.int .i64 (26), .int .i64 (0), v33], v34, .agg #[.int .i64 (20), .int .i64 (0), v35], v36, .agg #[.int .i64 (20), .int .i64 (0), (.slice A37 2 c37)], undef, undef, undef, undef, undef, undef, undef, undef, undef, undef, undef, undef, undef, undef, undef, undef, undef, undef, undef, undef, undef, undef, undef, undef, undef, undef, undef, undef, undef, undef, undef, undef, undef, undef, undef, undef, undef, undef, undef, undef, undef, undef, undef, undef, undef, undef, undef, undef, undef, undef, undef, undef, undef, undef, undef, undef, undef, undef, undef, undef, undef, undef, undef, undef, undef, undef, undef, undef, undef, undef, undef, undef, undef, undef, undef, undef, undef, undef, undef, undef, undef, undef, undef, undef, undef, undef, undef, undef, undef, undef, undef, undef, undef, undef, undef, undef, undef, undef, undef, undef, undef, undef, undef, undef, undef, undef, undef, undef, undef, undef, undef, undef, undef, undef, undef, undef, undef, undef, undef, undef, undef, undef, undef, undef, undef, undef, undef, undef, undef, undef, undef, undef, undef, undef, undef, undef, undef, undef, undef, undef, undef, undef, undef, undef, undef, undef, undef, undef, undef, undef, undef, undef, undef, undef, undef, undef, undef, undef, undef, undef, undef, undef, undef, undef, undef, undef, undef], defers := [] } : Act) x := by
  subst hops
  have hu29 := Tryd.underlying29
  conv in (occs := *) (opsOf Tryd.f5 7) => all_goals whnf
  have F := Aside0.mk hF
  have J := Aside0.mk hJ
  clear hF hJ
  refine start_ (n := 153) (S := (fun w' => w'.cell? ⟨g4, 0, none⟩ = some (.int .i64 15) ∧ w'.cell? ⟨g4, 1, none⟩ = some (.int .i64 0) ∧ w'.cell? ⟨g4, 2, none⟩ = some ((.slice A14 0 c14)) ∧ w'.cell? ⟨g6, 0, none⟩ = some (.int .i64 16) ∧ w'.cell? ⟨g6, 1, none⟩ = some (.int .i64 0) ∧ w'.cell? ⟨g6, 2, none⟩ = some ((.slice A18 2 c18)) ∧ w'.cell? ⟨g7, 0, none⟩ = some (.int .i64 20) ∧ w'.cell? ⟨g7, 1, none⟩ = some (.int .i64 0) ∧ w'.cell? ⟨g7, 2, none⟩ = some ((.slice A26 2 c26)) ∧ w'.cell? ⟨g8, 0, none⟩ = some (.int .i64 20) ∧ w'.cell? ⟨g8, 1, none⟩ = some (.int .i64 0) ∧ w'.cell? ⟨g8, 2, none⟩ = some ((.slice A37 2 c37)))) (ds := []) (bl 153 0) (by kernel_rfl) rfl (by kernel_rfl) (KB.four (J.out.below (w' := x.drew) (below_drew1 (Below.refl _ _)))) (fun hHeld => ?_)
  refine with_tabW rk7.tab7 rk7.bits7 (fun HT_ HW_ => ?_)
  have hbd_ : Below x.heap.size x x.drew := below_drew1 (Below.refl _ _)
  replace F := Aside0.mk (allg_on F.out hbd_)
  replace J := Aside0.mk (J.out.below hbd_)
  clear hbd_
  generalize x.drew = y at F J hHeld ⊢
  refine pure_ (i := 0) (N := (some 38)) (v := ?_) (a' := ?_) (bl 153 1) rfl rfl (any_of HT_.out (by kernel_rfl)) (fun _ _ _ h => h) (Or.inl ⟨by rfl, ?_⟩) ?_ ?_
  rotate_left
  · intro w'
    go_simp
    try with_reducible rfl
  rotate_left
  · simp only [Act.put, List.setIfInBounds_toArray, List.set_cons_zero, List.set_cons_succ, i64_w, i32_w, u8_w, u32_w]
    rfl
  refine pure_ (i := 4) (N := (some 42)) (v := ?_) (a' := ?_) (bl 153 17) rfl rfl (any_of HT_.out (by kernel_rfl)) (fun _ _ _ h => h) (Or.inl ⟨by rfl, ?_⟩) ?_ ?_
  rotate_left
  · intro w'
    go_simp
    try with_reducible rfl
  rotate_left
  · simp only [Act.put, List.setIfInBounds_toArray, List.set_cons_zero, List.set_cons_succ, i64_w, i32_w, u8_w, u32_w]
    rfl
  refine pure_ (i := 8) (N := (some 46)) (v := ?_) (a' := ?_) (bl 153 273) rfl rfl (any_of HT_.out (by kernel_rfl)) (fun _ _ _ h => h) (Or.inl ⟨by rfl, ?_⟩) ?_ ?_
  rotate_left
  · intro w'
    go_simp
    try with_reducible rfl
  rotate_left
  · simp only [Act.put, List.setIfInBounds_toArray, List.set_cons_zero, List.set_cons_succ, i64_w, i32_w, u8_w, u32_w]
    rfl
  refine pure_ (i := 13) (N := (some 51)) (v := ?_) (a' := ?_) (bl 153 8465) rfl rfl (any_of HT_.out (by kernel_rfl)) (fun _ _ _ h => h) (Or.inl ⟨by rfl, ?_⟩) ?_ ?_
  rotate_left
  · intro w'
    go_simp
    try with_reducible rfl
  rotate_left
  · simp only [Act.put, List.setIfInBounds_toArray, List.set_cons_zero, List.set_cons_succ, i64_w, i32_w, u8_w, u32_w]
    rfl
  refine pure_ (i := 15) (N := (some 53)) (v := ?_) (a' := ?_) (bl 153 41233) rfl rfl (any_of HT_.out (by kernel_rfl)) (fun _ _ _ h => h) (Or.inl ⟨by rfl, ?_⟩) ?_ ?_
  rotate_left
  · intro w'
    go_simp
    try with_reducible rfl
  rotate_left
  · simp only [Act.put, List.setIfInBounds_toArray, List.set_cons_zero, List.set_cons_succ, i64_w, i32_w, u8_w, u32_w]
    rfl
  refine pure_ (i := 21) (N := (some 59)) (v := ?_) (a' := ?_) (bl 153 2138385) rfl rfl (any_of HT_.out (by kernel_rfl)) (fun _ _ _ h => h) (Or.inl ⟨by rfl, ?_⟩) ?_ ?_
  rotate_left
  · intro w'
    go_simp
    try with_reducible rfl
  rotate_left
  · simp only [Act.put, List.setIfInBounds_toArray, List.set_cons_zero, List.set_cons_succ, i64_w, i32_w, u8_w, u32_w]
    rfl
  refine pure_ (i := 23) (N := (some 61)) (v := ?_) (a' := ?_) (bl 153 10526993) rfl rfl (any_of HT_.out (by kernel_rfl)) (fun _ _ _ h => h) (Or.inl ⟨by rfl, ?_⟩) ?_ ?_
  rotate_left
  · intro w'
    go_simp
    try with_reducible rfl
  rotate_left
  · simp only [Act.put, List.setIfInBounds_toArray, List.set_cons_zero, List.set_cons_succ, i64_w, i32_w, u8_w, u32_w]
    rfl
  refine pure_ (i := 25) (N := (some 63)) (v := ?_) (a' := ?_) (bl 153 44081425) rfl rfl (any_of HT_.out (by kernel_rfl)) (fun _ _ _ h => h) (Or.inl ⟨by rfl, ?_⟩) ?_ ?_
  rotate_left
  · intro w'
    go_simp
    try with_reducible rfl
  rotate_left
  · simp only [Act.put, List.setIfInBounds_toArray, List.set_cons_zero, List.set_cons_succ, i64_w, i32_w, u8_w, u32_w]
    rfl
  refine pure_ (i := 33) (N := (some 71)) (v := ?_) (a' := ?_) (bl 153 8634016017) rfl rfl (any_of HT_.out (by kernel_rfl)) (fun _ _ _ h => h) (Or.inl ⟨by rfl, ?_⟩) ?_ ?_
  rotate_left
  · intro w'
    go_simp
    try with_reducible rfl
  rotate_left
  · simp only [Act.put, List.setIfInBounds_toArray, List.set_cons_zero, List.set_cons_succ, i64_w, i32_w, u8_w, u32_w]
    rfl
  refine pure_ (i := 35) (N := (some 73)) (v := ?_) (a' := ?_) (bl 153 42993754385) rfl rfl (any_of HT_.out (by kernel_rfl)) (fun _ _ _ h => h) (Or.inl ⟨by rfl, ?_⟩) ?_ ?_
  rotate_left
  · intro w'
    go_simp
    try with_reducible rfl
  rotate_left
  · simp only [Act.put, List.setIfInBounds_toArray, List.set_cons_zero, List.set_cons_succ, i64_w, i32_w, u8_w, u32_w]
    rfl
  refine pure_ (i := 37) (N := (some 75)) (v := ?_) (a' := ?_) (bl 153 180432707857) rfl rfl (any_of HT_.out (by kernel_rfl)) (fun _ _ _ h => h) (Or.inl ⟨by rfl, ?_⟩) ?_ ?_
  rotate_left
  · intro w'
    go_simp
    try with_reducible rfl
  rotate_left
  · simp only [Act.put, List.setIfInBounds_toArray, List.set_cons_zero, List.set_cons_succ, i64_w, i32_w, u8_w, u32_w]
    rfl
  refine pure_ (i := 41) (N := (some 79)) (v := ?_) (a' := ?_) (bl 153 2379455963409) rfl rfl (any_of HT_.out (by kernel_rfl)) (fun _ _ _ h => h) (Or.inl ⟨by rfl, ?_⟩) ?_ ?_
  rotate_left
  · intro w'
    go_simp
    try with_reducible rfl
  rotate_left
  · simp only [Act.put, List.setIfInBounds_toArray, List.set_cons_zero, List.set_cons_succ, i64_w, i32_w, u8_w, u32_w]
    rfl
  refine pure_ (i := 43) (N := (some 81)) (v := ?_) (a' := ?_) (bl 153 11175548985617) rfl rfl (any_of HT_.out (by kernel_rfl)) (fun _ _ _ h => h) (Or.inl ⟨by rfl, ?_⟩) ?_ ?_
  rotate_left
  · intro w'
    go_simp
    try with_reducible rfl
  rotate_left
  · simp only [Act.put, List.setIfInBounds_toArray, List.set_cons_zero, List.set_cons_succ, i64_w, i32_w, u8_w, u32_w]
    rfl
  refine pure_ (i := 46) (N := (some 84)) (v := ?_) (a' := ?_) (bl 153 81544293163281) rfl rfl (any_of HT_.out (by kernel_rfl)) (fun _ _ _ h => h) (Or.inl ⟨by rfl, ?_⟩) ?_ ?_
  rotate_left
  · intro w'
    go_simp
    try with_reducible rfl
  rotate_left
  · simp only [Act.put, List.setIfInBounds_toArray, List.set_cons_zero, List.set_cons_succ, i64_w, i32_w, u8_w, u32_w]
    rfl
  refine pure_ (i := 48) (N := (some 86)) (v := ?_) (a' := ?_) (bl 153 363019269873937) rfl rfl (any_of HT_.out (by kernel_rfl)) (fun _ _ _ h => h) (Or.inl ⟨by rfl, ?_⟩) ?_ ?_
  rotate_left
  · intro w'
    go_simp
    try with_reducible rfl
  rotate_left
  · simp only [Act.put, List.setIfInBounds_toArray, List.set_cons_zero, List.set_cons_succ, i64_w, i32_w, u8_w, u32_w]
    rfl
  refine pure_ (i := 52) (N := (some 90)) (v := ?_) (a' := ?_) (bl 153 4866618897244433) rfl rfl (any_of HT_.out (by kernel_rfl)) (fun _ _ _ h => h) (Or.inl ⟨by rfl, ?_⟩) ?_ ?_
  rotate_left
  · intro w'
    go_simp
    try with_reducible rfl
  rotate_left
  · simp only [Act.put, List.setIfInBounds_toArray, List.set_cons_zero, List.set_cons_succ, i64_w, i32_w, u8_w, u32_w]
    rfl
  refine pure_ (i := 54) (N := (some 92)) (v := ?_) (a' := ?_) (bl 153 22881017406726417) rfl rfl (any_of HT_.out (by kernel_rfl)) (fun _ _ _ h => h) (Or.inl ⟨by rfl, ?_⟩) ?_ ?_
  rotate_left
  · intro w'
    go_simp
    try with_reducible rfl
  rotate_left
  · simp only [Act.put, List.setIfInBounds_toArray, List.set_cons_zero, List.set_cons_succ, i64_w, i32_w, u8_w, u32_w]
    rfl
  refine pure_ (i := 56) (N := (some 94)) (v := ?_) (a' := ?_) (bl 153 94938611444654353) rfl rfl (any_of HT_.out (by kernel_rfl)) (fun _ _ _ h => h) (Or.inl ⟨by rfl, ?_⟩) ?_ ?_
  rotate_left
  · intro w'
    go_simp
    try with_reducible rfl
  rotate_left
  · simp only [Act.put, List.setIfInBounds_toArray, List.set_cons_zero, List.set_cons_succ, i64_w, i32_w, u8_w, u32_w]
    rfl
  refine pure_ (i := 62) (N := (some 100)) (v := ?_) (a' := ?_) (bl 153 4706624629872042257) rfl rfl (any_of HT_.out (by kernel_rfl)) (fun _ _ _ h => h) (Or.inl ⟨by rfl, ?_⟩) ?_ ?_
  rotate_left
  · intro w'
    go_simp
    try with_reducible rfl
  rotate_left
  · simp only [Act.put, List.setIfInBounds_toArray, List.set_cons_zero, List.set_cons_succ, i64_w, i32_w, u8_w, u32_w]
    rfl
  refine pure_ (i := 66) (N := (some 104)) (v := ?_) (a' := ?_) (bl 153 78493600924710248721) rfl rfl (any_of HT_.out (by kernel_rfl)) (fun _ _ _ h => h) (Or.inl ⟨by rfl, ?_⟩) ?_ ?_
  rotate_left
  · intro w'
    go_simp
    try with_reducible rfl
  rotate_left
  · simp only [Act.put, List.setIfInBounds_toArray, List.set_cons_zero, List.set_cons_succ, i64_w, i32_w, u8_w, u32_w]
    rfl
  refine pure_ (i := 70) (N := (some 108)) (v := ?_) (a' := ?_) (bl 153 1259085221642121552145) rfl rfl (any_of HT_.out (by kernel_rfl)) (fun _ _ _ h => h) (Or.inl ⟨by rfl, ?_⟩) ?_ ?_
  rotate_left
  · intro w'
    go_simp
    try with_reducible rfl
  rotate_left
  · simp only [Act.put, List.setIfInBounds_toArray, List.set_cons_zero, List.set_cons_succ, i64_w, i32_w, u8_w, u32_w]
    rfl
  refine pure_ (i := 73) (N := (some 111)) (v := ?_) (a' := ?_) (bl 153 10703818187381411979537) rfl rfl (any_of HT_.out (by kernel_rfl)) (fun _ _ _ h => h) (Or.inl ⟨by rfl, ?_⟩) ?_ ?_
  rotate_left
  · intro w'
    go_simp
    try with_reducible rfl
  rotate_left
  · simp only [Act.put, List.setIfInBounds_toArray, List.set_cons_zero, List.set_cons_succ, i64_w, i32_w, u8_w, u32_w]
    rfl
  refine pure_ (i := 77) (N := (some 115)) (v := ?_) (a' := ?_) (bl 153 161819545639210058817809) rfl rfl (any_of HT_.out (by kernel_rfl)) (fun _ _ _ h => h) (Or.inl ⟨by rfl, ?_⟩) ?_ ?_
  rotate_left
  · intro w'
    go_simp
    try with_reducible rfl
  rotate_left
  · simp only [Act.put, List.setIfInBounds_toArray, List.set_cons_zero, List.set_cons_succ, i64_w, i32_w, u8_w, u32_w]
    rfl
  refine pure_ (i := 79) (N := (some 117)) (v := ?_) (a' := ?_) (bl 153 766282455446524646170897) rfl rfl (any_of HT_.out (by kernel_rfl)) (fun _ _ _ h => h) (Or.inl ⟨by rfl, ?_⟩) ?_ ?_
  rotate_left
  · intro w'
    go_simp
    try with_reducible rfl
  rotate_left
  · simp only [Act.put, List.setIfInBounds_toArray, List.set_cons_zero, List.set_cons_succ, i64_w, i32_w, u8_w, u32_w]
    rfl
  refine pure_ (i := 81) (N := (some 119)) (v := ?_) (a' := ?_) (bl 153 3184134094675782995583249) rfl rfl (any_of HT_.out (by kernel_rfl)) (fun _ _ _ h => h) (Or.inl ⟨by rfl, ?_⟩) ?_ ?_
  rotate_left
  · intro w'
    go_simp
    try with_reducible rfl
  rotate_left
  · simp only [Act.put, List.setIfInBounds_toArray, List.set_cons_zero, List.set_cons_succ, i64_w, i32_w, u8_w, u32_w]
    rfl
  refine pure_ (i := 91) (N := (some 129)) (v := ?_) (a' := ?_) (bl 153 2479064212665436332793831697) rfl rfl (any_of HT_.out (by kernel_rfl)) (fun _ _ _ h => h) (Or.inl ⟨by rfl, ?_⟩) ?_ ?_
  rotate_left
  · intro w'
    go_simp
    try with_reducible rfl
  rotate_left
  · simp only [Act.put, List.setIfInBounds_toArray, List.set_cons_zero, List.set_cons_succ, i64_w, i32_w, u8_w, u32_w]
    rfl
  refine pure_ (i := 93) (N := (some 131)) (v := ?_) (a' := ?_) (bl 153 12382584526948478531986825489) rfl rfl (any_of HT_.out (by kernel_rfl)) (fun _ _ _ h => h) (Or.inl ⟨by rfl, ?_⟩) ?_ ?_
  rotate_left
  · intro w'
    go_simp
    try with_reducible rfl
  rotate_left
  · simp only [Act.put, List.setIfInBounds_toArray, List.set_cons_zero, List.set_cons_succ, i64_w, i32_w, u8_w, u32_w]
    rfl
  refine pure_ (i := 96) (N := (some 134)) (v := ?_) (a' := ?_) (bl 153 91610747041212816125530775825) rfl rfl (any_of HT_.out (by kernel_rfl)) (fun _ _ _ h => h) (Or.inl ⟨by rfl, ?_⟩) ?_ ?_
  rotate_left
  · intro w'
    go_simp
    try with_reducible rfl
  rotate_left
  · simp only [Act.put, List.setIfInBounds_toArray, List.set_cons_zero, List.set_cons_succ, i64_w, i32_w, u8_w, u32_w]
    rfl
  refine pure_ (i := 98) (N := (some 136)) (v := ?_) (a' := ?_) (bl 153 408523397098270166499706577169) rfl rfl (any_of HT_.out (by kernel_rfl)) (fun _ _ _ h => h) (Or.inl ⟨by rfl, ?_⟩) ?_ ?_
  rotate_left
  · intro w'
    go_simp
    try with_reducible rfl
  rotate_left
  · simp only [Act.put, List.setIfInBounds_toArray, List.set_cons_zero, List.set_cons_succ, i64_w, i32_w, u8_w, u32_w]
    rfl
  refine pure_ (i := 101) (N := (some 139)) (v := ?_) (a' := ?_) (bl 153 2943824597554728969493112987921) rfl rfl (any_of HT_.out (by kernel_rfl)) (fun _ _ _ h => h) (Or.inl ⟨by rfl, ?_⟩) ?_ ?_
  rotate_left
  · intro w'
    go_simp
    try with_reducible rfl
  rotate_left
  · simp only [Act.put, List.setIfInBounds_toArray, List.set_cons_zero, List.set_cons_succ, i64_w, i32_w, u8_w, u32_w]
    rfl
  refine pure_ (i := 103) (N := (some 141)) (v := ?_) (a' := ?_) (bl 153 13085029399380564181466738630929) rfl rfl (any_of HT_.out (by kernel_rfl)) (fun _ _ _ h => h) (Or.inl ⟨by rfl, ?_⟩) ?_ ?_
  rotate_left
  · intro w'
    go_simp
    try with_reducible rfl
  rotate_left
  · simp only [Act.put, List.setIfInBounds_toArray, List.set_cons_zero, List.set_cons_succ, i64_w, i32_w, u8_w, u32_w]
    rfl
  refine pure_ (i := 105) (N := (some 143)) (v := ?_) (a' := ?_) (bl 153 53649848606683905029361241202961) rfl rfl (any_of HT_.out (by kernel_rfl)) (fun _ _ _ h => h) (Or.inl ⟨by rfl, ?_⟩) ?_ ?_
  rotate_left
  · intro w'
    go_simp
    try with_reducible rfl
  rotate_left
  · simp only [Act.put, List.setIfInBounds_toArray, List.set_cons_zero, List.set_cons_succ, i64_w, i32_w, u8_w, u32_w]
    rfl
  refine pure_ (i := 108) (N := (some 146)) (v := ?_) (a' := ?_) (bl 153 378168402265110631812517261779217) rfl rfl (any_of HT_.out (by kernel_rfl)) (fun _ _ _ h => h) (Or.inl ⟨by rfl, ?_⟩) ?_ ?_
  rotate_left
  · intro w'
    go_simp
    try with_reducible rfl
  rotate_left
  · simp only [Act.put, List.setIfInBounds_toArray, List.set_cons_zero, List.set_cons_succ, i64_w, i32_w, u8_w, u32_w]
    rfl
  refine pure_ (i := 112) (N := (some 150)) (v := ?_) (a' := ?_) (bl 153 5570465260799938260343013590999313) rfl rfl (any_of HT_.out (by kernel_rfl)) (fun _ _ _ h => h) (Or.inl ⟨by rfl, ?_⟩) ?_ ?_
  rotate_left
  · intro w'
    go_simp
    try with_reducible rfl
  rotate_left
  · simp only [Act.put, List.setIfInBounds_toArray, List.set_cons_zero, List.set_cons_succ, i64_w, i32_w, u8_w, u32_w]
    rfl
  refine pure_ (i := 114) (N := (some 152)) (v := ?_) (a' := ?_) (bl 153 26339652694939248774464998907879697) rfl rfl (any_of HT_.out (by kernel_rfl)) (fun _ _ _ h => h) (Or.inl ⟨by rfl, ?_⟩) ?_ ?_
  rotate_left
  · intro w'
    go_simp
    try with_reducible rfl
  rotate_left
  · simp only [Act.put, List.setIfInBounds_toArray, List.set_cons_zero, List.set_cons_succ, i64_w, i32_w, u8_w, u32_w]
    rfl
  refine pure_ (i := 117) (N := (some 155)) (v := ?_) (a' := ?_) (bl 153 192493152168053732887440881442922769) rfl rfl (any_of HT_.out (by kernel_rfl)) (fun _ _ _ h => h) (Or.inl ⟨by rfl, ?_⟩) ?_ ?_
  rotate_left
  · intro w'
    go_simp
    try with_reducible rfl
  rotate_left
  · simp only [Act.put, List.setIfInBounds_toArray, List.set_cons_zero, List.set_cons_succ, i64_w, i32_w, u8_w, u32_w]
    rfl
  refine pure_ (i := 121) (N := (some 159)) (v := ?_) (a' := ?_) (bl 153 2850949143737885478695055002003611921) rfl rfl (any_of HT_.out (by kernel_rfl)) (fun _ _ _ h => h) (Or.inl ⟨by rfl, ?_⟩) ?_ ?_
  rotate_left
  · intro w'
    go_simp
    try with_reducible rfl
  rotate_left
  · simp only [Act.put, List.setIfInBounds_toArray, List.set_cons_zero, List.set_cons_succ, i64_w, i32_w, u8_w, u32_w]
    rfl
  refine pure_ (i := 123) (N := (some 161)) (v := ?_) (a' := ?_) (bl 153 13484773110017212461925511484246368529) rfl rfl (any_of HT_.out (by kernel_rfl)) (fun _ _ _ h => h) (Or.inl ⟨by rfl, ?_⟩) ?_ ?_
  rotate_left
  · intro w'
    go_simp
    try with_reducible rfl
  rotate_left
  · simp only [Act.put, List.setIfInBounds_toArray, List.set_cons_zero, List.set_cons_succ, i64_w, i32_w, u8_w, u32_w]
    rfl
  refine pure_ (i := 126) (N := (some 164)) (v := ?_) (a' := ?_) (bl 153 98555364840251828327769163342188421393) rfl rfl (any_of HT_.out (by kernel_rfl)) (fun _ _ _ h => h) (Or.inl ⟨by rfl, ?_⟩) ?_ ?_
  rotate_left
  · intro w'
    go_simp
    try with_reducible rfl
  rotate_left
  · simp only [Act.put, List.setIfInBounds_toArray, List.set_cons_zero, List.set_cons_succ, i64_w, i32_w, u8_w, u32_w]
    rfl
  refine pure_ (i := 131) (N := (some 169)) (v := ?_) (a' := ?_) (bl 153 2820814300207759536034766022796334113041) rfl rfl (any_of HT_.out (by kernel_rfl)) (fun _ _ _ h => h) (Or.inl ⟨by rfl, ?_⟩) ?_ ?_
  rotate_left
  · intro w'
    go_simp
    try with_reducible rfl
  rotate_left
  · simp only [Act.put, List.setIfInBounds_toArray, List.set_cons_zero, List.set_cons_succ, i64_w, i32_w, u8_w, u32_w]
    rfl
  refine pure_ (i := 133) (N := (some 171)) (v := ?_) (a' := ?_) (bl 153 13709850041677790366862753460612916879633) rfl rfl (any_of HT_.out (by kernel_rfl)) (fun _ _ _ h => h) (Or.inl ⟨by rfl, ?_⟩) ?_ ?_
  rotate_left
  · intro w'
    go_simp
    try with_reducible rfl
  rotate_left
  · simp only [Act.put, List.setIfInBounds_toArray, List.set_cons_zero, List.set_cons_succ, i64_w, i32_w, u8_w, u32_w]
    rfl
  refine pure_ (i := 135) (N := (some 173)) (v := ?_) (a' := ?_) (bl 153 57265993007557913690174703211879247946001) rfl rfl (any_of HT_.out (by kernel_rfl)) (fun _ _ _ h => h) (Or.inl ⟨by rfl, ?_⟩) ?_ ?_
  rotate_left
  · intro w'
    go_simp
    try with_reducible rfl
  rotate_left
  · simp only [Act.put, List.setIfInBounds_toArray, List.set_cons_zero, List.set_cons_succ, i64_w, i32_w, u8_w, u32_w]
    rfl
  refine pure_ (i := 146) (N := (some 184)) (v := ?_) (a' := ?_) (bl 153 89260246787130050479833047793805325271867665) rfl rfl (any_of HT_.out (by kernel_rfl)) (fun _ _ _ h => h) (Or.inl ⟨by rfl, ?_⟩) ?_ ?_
  rotate_left
  · intro w'
    go_simp
    try with_reducible rfl
  rotate_left
  · simp only [Act.put, List.setIfInBounds_toArray, List.set_cons_zero, List.set_cons_succ, i64_w, i32_w, u8_w, u32_w]
    rfl
  refine pure_ (i := 148) (N := (some 186)) (v := ?_) (a' := ?_) (bl 153 446072169963620020744404540156179109367554321) rfl rfl (any_of HT_.out (by kernel_rfl)) (fun _ _ _ h => h) (Or.inl ⟨by rfl, ?_⟩) ?_ ?_
  rotate_left
  · intro w'
    go_simp
    try with_reducible rfl
  rotate_left
  · simp only [Act.put, List.setIfInBounds_toArray, List.set_cons_zero, List.set_cons_succ, i64_w, i32_w, u8_w, u32_w]
    rfl
  refine take_ (i := 2) (N := (some 40)) (v := ?_) (a' := ?_) (bl 153 446072169963620020744404540156179109367554325) rfl rfl (take_ofW HT_.out HW_.out (by kernel_rfl)) (fun _ _ _ h => h) (Or.inl ⟨by rfl, ?_⟩) hHeld ?_ ?_
  rotate_left
  · rintro w' ⟨s0, s1, s2, s3, s4, s5, s6, s7, s8, s9, s10, s11⟩
    go_simp
    try with_reducible rfl
  rotate_left
  · simp only [Act.put, List.setIfInBounds_toArray, List.set_cons_zero, List.set_cons_succ, i64_w, i32_w, u8_w, u32_w]
    rfl
  refine take_ (i := 3) (N := (some 41)) (v := ?_) (a' := ?_) (bl 153 446072169963620020744404540156179109367554333) rfl rfl (take_ofW HT_.out HW_.out (by kernel_rfl)) (fun _ _ _ h => h) (Or.inl ⟨by rfl, ?_⟩) hHeld ?_ ?_
  rotate_left
  · rintro w' ⟨s0, s1, s2, s3, s4, s5, s6, s7, s8, s9, s10, s11⟩
    go_simp
    try with_reducible rfl
  rotate_left
  · simp only [Act.put, List.setIfInBounds_toArray, List.set_cons_zero, List.set_cons_succ, i64_w, i32_w, u8_w, u32_w]
    rfl
  refine take_ (i := 10) (N := (some 48)) (v := ?_) (a' := ?_) (bl 153 446072169963620020744404540156179109367555357) rfl rfl (take_ofW HT_.out HW_.out (by kernel_rfl)) (fun _ _ _ h => h) (Or.inl ⟨by rfl, ?_⟩) hHeld ?_ ?_
  rotate_left
  · rintro w' ⟨s0, s1, s2, s3, s4, s5, s6, s7, s8, s9, s10, s11⟩
    go_simp
    try with_reducible rfl
  rotate_left
  · simp only [Act.put, List.setIfInBounds_toArray, List.set_cons_zero, List.set_cons_succ, i64_w, i32_w, u8_w, u32_w]
    rfl
  refine take_ (i := 61) (N := (some 99)) (v := ?_) (a' := ?_) (bl 153 446072169963620020744404542462022118581249309) rfl rfl (take_ofW HT_.out HW_.out (by kernel_rfl)) (fun _ _ _ h => h) (Or.inl ⟨by rfl, ?_⟩) hHeld ?_ ?_
  rotate_left
  · rintro w' ⟨s0, s1, s2, s3, s4, s5, s6, s7, s8, s9, s10, s11⟩
    go_simp
    try with_reducible rfl
  rotate_left
  · simp only [Act.put, List.setIfInBounds_toArray, List.set_cons_zero, List.set_cons_succ, i64_w, i32_w, u8_w, u32_w]
    rfl
  refine take_ (i := 72) (N := (some 110)) (v := ?_) (a' := ?_) (bl 153 446072169963620020744409264828504988226463005) rfl rfl (take_ofW HT_.out HW_.out (by kernel_rfl)) (fun _ _ _ h => h) (Or.inl ⟨by rfl, ?_⟩) hHeld ?_ ?_
  rotate_left
  · rintro w' ⟨s0, s1, s2, s3, s4, s5, s6, s7, s8, s9, s10, s11⟩
    go_simp
    try with_reducible rfl
  rotate_left
  · simp only [Act.put, List.setIfInBounds_toArray, List.set_cons_zero, List.set_cons_succ, i64_w, i32_w, u8_w, u32_w]
    rfl
  refine take_ (i := 130) (N := (some 168)) (v := ?_) (a' := ?_) (bl 153 446073531093087704498263118326934715299308829) rfl rfl (take_ofW HT_.out HW_.out (by kernel_rfl)) (fun _ _ _ h => h) (Or.inl ⟨by rfl, ?_⟩) hHeld ?_ ?_
  rotate_left
  · rintro w' ⟨s0, s1, s2, s3, s4, s5, s6, s7, s8, s9, s10, s11⟩
    go_simp
    try with_reducible rfl
  rotate_left
  · simp only [Act.put, List.setIfInBounds_toArray, List.set_cons_zero, List.set_cons_succ, i64_w, i32_w, u8_w, u32_w]
    rfl
  refine take_ (i := 143) (N := (some 181)) (v := ?_) (a' := ?_) (bl 153 457223903692353016069030977463258896052299037) rfl rfl (take_ofW HT_.out HW_.out (by kernel_rfl)) (fun _ _ _ h => h) (Or.inl ⟨by rfl, ?_⟩) hHeld ?_ ?_
  rotate_left
  · rintro w' ⟨s0, s1, s2, s3, s4, s5, s6, s7, s8, s9, s10, s11⟩
    go_simp
    try with_reducible rfl
  rotate_left
  · simp only [Act.put, List.setIfInBounds_toArray, List.set_cons_zero, List.set_cons_succ, i64_w, i32_w, u8_w, u32_w]
    rfl
  refine one_ (i := 1) (N := (some 39)) (bl 153 457223903692353016069030977463258896052299039) rfl rfl (one_of HT_.out (by kernel_rfl)) (by decide) (fun K hK => ?_)
  refine goesV_ Tryd.func22 (by kernel_rfl) rfl #[.int .i64 (7)] (by rfl) rfl rfl rfl (by (try simp only [List.map_toArray, List.map_cons, List.map_nil]); first | done | rfl | (simp only [List.length_drop, List.length_take]; rfl)) ?_
  refine (Int_goG (7) _ (fun _ => False) (fun _ h => h.elim)).mono ?_
  rintro e w39 ⟨v39, rfl, hv_, hb_⟩
  refine ⟨_, rfl, ?_⟩
  replace F := Aside0.mk (allg_step F.out hb_ hv_)
  replace J := Aside0.mk (J.out.below hb_)
  clear hb_ hv_
  refine hK.out _ _ (KB.four J.out) (fun hHeld => ?_)
  clear hK K
  refine norm_ (a' := ?_) ?_ ?_
  rotate_left
  · show Act.put _ (some 39) _ = _
    simp only [Act.put, List.setIfInBounds_toArray, List.set_cons_zero, List.set_cons_succ, i64_w, i32_w, u8_w, u32_w]
    rfl
  refine one_ (i := 5) (N := (some 43)) (bl 153 457223903692353016069030977463258896052299071) rfl rfl (one_of HT_.out (by kernel_rfl)) (by decide) (fun K hK => ?_)
  refine goesV_ Tryd.func22 (by kernel_rfl) rfl #[.int .i64 (4)] (by rfl) rfl rfl rfl (by (try simp only [List.map_toArray, List.map_cons, List.map_nil]); first | done | rfl | (simp only [List.length_drop, List.length_take]; rfl)) ?_
  refine (Int_goG (4) _ (fun _ => False) (fun _ h => h.elim)).mono ?_
  rintro e w43 ⟨v43, rfl, hv_, hb_⟩
  refine ⟨_, rfl, ?_⟩
  replace F := Aside0.mk (allg_step F.out hb_ hv_)
  replace J := Aside0.mk (J.out.below hb_)
  clear hb_ hv_
  refine hK.out _ _ (KB.four J.out) (fun hHeld => ?_)
  clear hK K
  refine norm_ (a' := ?_) ?_ ?_
  rotate_left
  · show Act.put _ (some 43) _ = _
    simp only [Act.put, List.setIfInBounds_toArray, List.set_cons_zero, List.set_cons_succ, i64_w, i32_w, u8_w, u32_w]
    rfl
  refine one_ (i := 6) (N := (some 44)) (bl 153 457223903692353016069030977463258896052299135) rfl rfl (one_of HT_.out (by kernel_rfl)) (by decide) (fun K hK => ?_)
  refine lit_step_goG (fun _ => False) (fun _ h => h.elim) ?hg (N' := 44) ?hd (xs := ([⟨20, 0, [⟨15, 0, []⟩, ⟨26, 0, [⟨1, 0, []⟩, ⟨25, 1, []⟩]⟩]⟩, ⟨25, 4, []⟩] : List S29)) (inner := ?inn44_18) ?hr ?hp (by simp) ?_
  (case hd => rfl)
  (case hg => rfl)
  (case hr => first | (go_simp; done) | (go_simp; rfl))
  (case hp => exact Reps.c3 ⟨_, rfl, F.out (_, _) mem_x⟩ (Reps.c3 ⟨_, rfl, F.out (_, _) mem_x⟩ (Reps.none _ _)))
  intro v44 w44 hv_ hb_
  replace F := Aside0.mk (allg_step F.out hb_ hv_)
  replace J := Aside0.mk (J.out.below hb_)
  clear hb_ hv_
  refine hK.out _ _ (KB.four J.out) (fun hHeld => ?_)
  clear hK K
  refine norm_ (a' := ?_) ?_ ?_
  rotate_left
  · show Act.put _ (some 44) _ = _
    simp only [Act.put, List.setIfInBounds_toArray, List.set_cons_zero, List.set_cons_succ, i64_w, i32_w, u8_w, u32_w]
    rfl
  refine one_ (i := 7) (N := (some 45)) (bl 153 457223903692353016069030977463258896052299263) rfl rfl (one_of HT_.out (by kernel_rfl)) (by decide) (fun K hK => ?_)
  refine goes_ Tryd.func21 (by kernel_rfl) rfl #[.int .i64 21, v44] (by rfl) rfl rfl (by (try simp only [List.map_toArray, List.map_cons, List.map_nil]); first | done | rfl | (simp only [List.length_drop, List.length_take]; rfl)) ?_
  refine (T_goG 21 _ _ _ (fun _ => False) (fun _ h => h.elim) (F.out (_, _) mem_x)).mono ?_
  rintro e w45 ⟨v45, rfl, hv_, hb_⟩
  refine ⟨_, rfl, ?_⟩
  replace F := Aside0.mk (allg_step F.out hb_ hv_)
  replace J := Aside0.mk (J.out.below hb_)
  clear hb_ hv_
  refine hK.out _ _ (KB.four J.out) (fun hHeld => ?_)
  clear hK K
  refine norm_ (a' := ?_) ?_ ?_
  rotate_left
  · show Act.put _ (some 45) _ = _
    simp only [Act.put, List.setIfInBounds_toArray, List.set_cons_zero, List.set_cons_succ, i64_w, i32_w, u8_w, u32_w]
    rfl
  refine one_ (i := 9) (N := (some 47)) (bl 153 457223903692353016069030977463258896052299775) rfl rfl (one_of HT_.out (by kernel_rfl)) (by decide) (fun K hK => ?_)
  refine goesV_ Tryd.func22 (by kernel_rfl) rfl #[.int .i64 (1)] (by rfl) rfl rfl rfl (by (try simp only [List.map_toArray, List.map_cons, List.map_nil]); first | done | rfl | (simp only [List.length_drop, List.length_take]; rfl)) ?_
  refine (Int_goG (1) _ (fun _ => False) (fun _ h => h.elim)).mono ?_
  rintro e w47 ⟨v47, rfl, hv_, hb_⟩
  refine ⟨_, rfl, ?_⟩
  replace F := Aside0.mk (allg_step F.out hb_ hv_)
  replace J := Aside0.mk (J.out.below hb_)
  clear hb_ hv_
  refine hK.out _ _ (KB.four J.out) (fun hHeld => ?_)
  clear hK K
  refine norm_ (a' := ?_) ?_ ?_
  rotate_left
  · show Act.put _ (some 47) _ = _
    simp only [Act.put, List.setIfInBounds_toArray, List.set_cons_zero, List.set_cons_succ, i64_w, i32_w, u8_w, u32_w]
    rfl
  refine one_ (i := 11) (N := (some 49)) (bl 153 457223903692353016069030977463258896052301823) rfl rfl (one_of HT_.out (by kernel_rfl)) (by decide) (fun K hK => ?_)
  refine lit_step_goG (fun _ => False) (fun _ h => h.elim) ?hg (N' := 49) ?hd (xs := ([⟨25, 1, []⟩, ⟨20, 0, [⟨15, 0, []⟩, ⟨26, 0, [⟨1, 0, []⟩, ⟨25, 1, []⟩]⟩]⟩] : List S29)) (inner := ?inn49_19) ?hr ?hp (by simp) ?_
  (case hd => rfl)
  (case hg => rfl)
  (case hr => first | (go_simp; done) | (go_simp; rfl))
  (case hp => exact Reps.c3 ⟨_, rfl, F.out (_, _) mem_x⟩ (Reps.c3 ⟨_, rfl, F.out (_, _) mem_x⟩ (Reps.none _ _)))
  intro v49 w49 hv_ hb_
  replace F := Aside0.mk (allg_step F.out hb_ hv_)
  replace J := Aside0.mk (J.out.below hb_)
  clear hb_ hv_
  refine hK.out _ _ (KB.four J.out) (fun hHeld => ?_)
  clear hK K
  refine norm_ (a' := ?_) ?_ ?_
  rotate_left
  · show Act.put _ (some 49) _ = _
    simp only [Act.put, List.setIfInBounds_toArray, List.set_cons_zero, List.set_cons_succ, i64_w, i32_w, u8_w, u32_w]
    rfl
  refine one_ (i := 12) (N := (some 50)) (bl 153 457223903692353016069030977463258896052305919) rfl rfl (one_of HT_.out (by kernel_rfl)) (by decide) (fun K hK => ?_)
  refine goes_ Tryd.func21 (by kernel_rfl) rfl #[.int .i64 22, v49] (by rfl) rfl rfl (by (try simp only [List.map_toArray, List.map_cons, List.map_nil]); first | done | rfl | (simp only [List.length_drop, List.length_take]; rfl)) ?_
  refine (T_goG 22 _ _ _ (fun _ => False) (fun _ h => h.elim) (F.out (_, _) mem_x)).mono ?_
  rintro e w50 ⟨v50, rfl, hv_, hb_⟩
  refine ⟨_, rfl, ?_⟩
  replace F := Aside0.mk (allg_step F.out hb_ hv_)
  replace J := Aside0.mk (J.out.below hb_)
  clear hb_ hv_
  refine hK.out _ _ (KB.four J.out) (fun hHeld => ?_)
  clear hK K
  refine norm_ (a' := ?_) ?_ ?_
  rotate_left
  · show Act.put _ (some 50) _ = _
    simp only [Act.put, List.setIfInBounds_toArray, List.set_cons_zero, List.set_cons_succ, i64_w, i32_w, u8_w, u32_w]
    rfl
  refine one_ (i := 14) (N := (some 52)) (bl 153 457223903692353016069030977463258896052322303) rfl rfl (one_of HT_.out (by kernel_rfl)) (by decide) (fun K hK => ?_)
  refine goesV_ Tryd.func22 (by kernel_rfl) rfl #[.int .i64 (1)] (by rfl) rfl rfl rfl (by (try simp only [List.map_toArray, List.map_cons, List.map_nil]); first | done | rfl | (simp only [List.length_drop, List.length_take]; rfl)) ?_
  refine (Int_goG (1) _ (fun _ => False) (fun _ h => h.elim)).mono ?_
  rintro e w52 ⟨v52, rfl, hv_, hb_⟩
  refine ⟨_, rfl, ?_⟩
  replace F := Aside0.mk (allg_step F.out hb_ hv_)
  replace J := Aside0.mk (J.out.below hb_)
  clear hb_ hv_
  refine hK.out _ _ (KB.four J.out) (fun hHeld => ?_)
  clear hK K
  refine norm_ (a' := ?_) ?_ ?_
  rotate_left
  · show Act.put _ (some 52) _ = _
    simp only [Act.put, List.setIfInBounds_toArray, List.set_cons_zero, List.set_cons_succ, i64_w, i32_w, u8_w, u32_w]
    rfl
  refine one_ (i := 16) (N := (some 54)) (bl 153 457223903692353016069030977463258896052387839) rfl rfl (one_of HT_.out (by kernel_rfl)) (by decide) (fun K hK => ?_)
  refine goesV_ Tryd.func22 (by kernel_rfl) rfl #[.int .i64 (2)] (by rfl) rfl rfl rfl (by (try simp only [List.map_toArray, List.map_cons, List.map_nil]); first | done | rfl | (simp only [List.length_drop, List.length_take]; rfl)) ?_
  refine (Int_goG (2) _ (fun _ => False) (fun _ h => h.elim)).mono ?_
  rintro e w54 ⟨v54, rfl, hv_, hb_⟩
  refine ⟨_, rfl, ?_⟩
  replace F := Aside0.mk (allg_step F.out hb_ hv_)
  replace J := Aside0.mk (J.out.below hb_)
  clear hb_ hv_
  refine hK.out _ _ (KB.four J.out) (fun hHeld => ?_)
  clear hK K
  refine norm_ (a' := ?_) ?_ ?_
  rotate_left
  · show Act.put _ (some 54) _ = _
    simp only [Act.put, List.setIfInBounds_toArray, List.set_cons_zero, List.set_cons_succ, i64_w, i32_w, u8_w, u32_w]
    rfl
  refine one_ (i := 17) (N := (some 55)) (bl 153 457223903692353016069030977463258896052518911) rfl rfl (one_of HT_.out (by kernel_rfl)) (by decide) (fun K hK => ?_)
  refine lit_step_goG (fun _ => False) (fun _ h => h.elim) ?hg (N' := 55) ?hd (xs := ([⟨25, 1, []⟩, ⟨25, 2, []⟩] : List S29)) (inner := ?inn55_20) ?hr ?hp (by simp) ?_
  (case hd => rfl)
  (case hg => rfl)
  (case hr => first | (go_simp; done) | (go_simp; rfl))
  (case hp => exact Reps.c3 ⟨_, rfl, F.out (_, _) mem_x⟩ (Reps.c3 ⟨_, rfl, F.out (_, _) mem_x⟩ (Reps.none _ _)))
  intro v55 w55 hv_ hb_
  replace F := Aside0.mk (allg_step F.out hb_ hv_)
  replace J := Aside0.mk (J.out.below hb_)
  clear hb_ hv_
  refine hK.out _ _ (KB.four J.out) (fun hHeld => ?_)
  clear hK K
  refine norm_ (a' := ?_) ?_ ?_
  rotate_left
  · show Act.put _ (some 55) _ = _
    simp only [Act.put, List.setIfInBounds_toArray, List.set_cons_zero, List.set_cons_succ, i64_w, i32_w, u8_w, u32_w]
    rfl
  refine one_ (i := 18) (N := (some 56)) (bl 153 457223903692353016069030977463258896052781055) rfl rfl (one_of HT_.out (by kernel_rfl)) (by decide) (fun K hK => ?_)
  refine goes_ Tryd.func21 (by kernel_rfl) rfl #[.int .i64 22, v55] (by rfl) rfl rfl (by (try simp only [List.map_toArray, List.map_cons, List.map_nil]); first | done | rfl | (simp only [List.length_drop, List.length_take]; rfl)) ?_
  refine (T_goG 22 _ _ _ (fun _ => False) (fun _ h => h.elim) (F.out (_, _) mem_x)).mono ?_
  rintro e w56 ⟨v56, rfl, hv_, hb_⟩
  refine ⟨_, rfl, ?_⟩
  replace F := Aside0.mk (allg_step F.out hb_ hv_)
  replace J := Aside0.mk (J.out.below hb_)
  clear hb_ hv_
  refine hK.out _ _ (KB.four J.out) (fun hHeld => ?_)
  clear hK K
  refine norm_ (a' := ?_) ?_ ?_
  rotate_left
  · show Act.put _ (some 56) _ = _
    simp only [Act.put, List.setIfInBounds_toArray, List.set_cons_zero, List.set_cons_succ, i64_w, i32_w, u8_w, u32_w]
    rfl
  refine one_ (i := 19) (N := (some 57)) (bl 153 457223903692353016069030977463258896053305343) rfl rfl (one_of HT_.out (by kernel_rfl)) (by decide) (fun K hK => ?_)
  refine lit_step_goG (fun _ => False) (fun _ h => h.elim) ?hg (N' := 57) ?hd (xs := ([⟨22, 0, [⟨25, 1, []⟩, ⟨25, 2, []⟩]⟩] : List S29)) (inner := ?inn57_21) ?hr ?hp (by simp) ?_
  (case hd => rfl)
  (case hg => rfl)
  (case hr => first | (go_simp; done) | (go_simp; rfl))
  (case hp => exact Reps.c3 ⟨_, rfl, F.out (_, _) mem_x⟩ (Reps.none _ _))
  intro v57 w57 hv_ hb_
  replace F := Aside0.mk (allg_step F.out hb_ hv_)
  replace J := Aside0.mk (J.out.below hb_)
  clear hb_ hv_
  refine hK.out _ _ (KB.four J.out) (fun hHeld => ?_)
  clear hK K
  refine norm_ (a' := ?_) ?_ ?_
  rotate_left
  · show Act.put _ (some 57) _ = _
    simp only [Act.put, List.setIfInBounds_toArray, List.set_cons_zero, List.set_cons_succ, i64_w, i32_w, u8_w, u32_w]
    rfl
  refine one_ (i := 20) (N := (some 58)) (bl 153 457223903692353016069030977463258896054353919) rfl rfl (one_of HT_.out (by kernel_rfl)) (by decide) (fun K hK => ?_)
  refine goes_ Tryd.func21 (by kernel_rfl) rfl #[.int .i64 23, v57] (by rfl) rfl rfl (by (try simp only [List.map_toArray, List.map_cons, List.map_nil]); first | done | rfl | (simp only [List.length_drop, List.length_take]; rfl)) ?_
  refine (T_goG 23 _ _ _ (fun _ => False) (fun _ h => h.elim) (F.out (_, _) mem_x)).mono ?_
  rintro e w58 ⟨v58, rfl, hv_, hb_⟩
  refine ⟨_, rfl, ?_⟩
  replace F := Aside0.mk (allg_step F.out hb_ hv_)
  replace J := Aside0.mk (J.out.below hb_)
  clear hb_ hv_
  refine hK.out _ _ (KB.four J.out) (fun hHeld => ?_)
  clear hK K
  refine norm_ (a' := ?_) ?_ ?_
  rotate_left
  · show Act.put _ (some 58) _ = _
    simp only [Act.put, List.setIfInBounds_toArray, List.set_cons_zero, List.set_cons_succ, i64_w, i32_w, u8_w, u32_w]
    rfl
  refine one_ (i := 22) (N := (some 60)) (bl 153 457223903692353016069030977463258896058548223) rfl rfl (one_of HT_.out (by kernel_rfl)) (by decide) (fun K hK => ?_)
  refine goesV_ Tryd.func22 (by kernel_rfl) rfl #[.int .i64 (1)] (by rfl) rfl rfl rfl (by (try simp only [List.map_toArray, List.map_cons, List.map_nil]); first | done | rfl | (simp only [List.length_drop, List.length_take]; rfl)) ?_
  refine (Int_goG (1) _ (fun _ => False) (fun _ h => h.elim)).mono ?_
  rintro e w60 ⟨v60, rfl, hv_, hb_⟩
  refine ⟨_, rfl, ?_⟩
  replace F := Aside0.mk (allg_step F.out hb_ hv_)
  replace J := Aside0.mk (J.out.below hb_)
  clear hb_ hv_
  refine hK.out _ _ (KB.four J.out) (fun hHeld => ?_)
  clear hK K
  refine norm_ (a' := ?_) ?_ ?_
  rotate_left
  · show Act.put _ (some 60) _ = _
    simp only [Act.put, List.setIfInBounds_toArray, List.set_cons_zero, List.set_cons_succ, i64_w, i32_w, u8_w, u32_w]
    rfl
  refine one_ (i := 24) (N := (some 62)) (bl 153 457223903692353016069030977463258896075325439) rfl rfl (one_of HT_.out (by kernel_rfl)) (by decide) (fun K hK => ?_)
  refine goesV_ Tryd.func22 (by kernel_rfl) rfl #[.int .i64 (2)] (by rfl) rfl rfl rfl (by (try simp only [List.map_toArray, List.map_cons, List.map_nil]); first | done | rfl | (simp only [List.length_drop, List.length_take]; rfl)) ?_
  refine (Int_goG (2) _ (fun _ => False) (fun _ h => h.elim)).mono ?_
  rintro e w62 ⟨v62, rfl, hv_, hb_⟩
  refine ⟨_, rfl, ?_⟩
  replace F := Aside0.mk (allg_step F.out hb_ hv_)
  replace J := Aside0.mk (J.out.below hb_)
  clear hb_ hv_
  refine hK.out _ _ (KB.four J.out) (fun hHeld => ?_)
  clear hK K
  refine norm_ (a' := ?_) ?_ ?_
  rotate_left
  · show Act.put _ (some 62) _ = _
    simp only [Act.put, List.setIfInBounds_toArray, List.set_cons_zero, List.set_cons_succ, i64_w, i32_w, u8_w, u32_w]
    rfl
  refine one_ (i := 26) (N := (some 64)) (bl 153 457223903692353016069030977463258896142434303) rfl rfl (one_of HT_.out (by kernel_rfl)) (by decide) (fun K hK => ?_)
  refine goesV_ Tryd.func22 (by kernel_rfl) rfl #[.int .i64 (3)] (by rfl) rfl rfl rfl (by (try simp only [List.map_toArray, List.map_cons, List.map_nil]); first | done | rfl | (simp only [List.length_drop, List.length_take]; rfl)) ?_
  refine (Int_goG (3) _ (fun _ => False) (fun _ h => h.elim)).mono ?_
  rintro e w64 ⟨v64, rfl, hv_, hb_⟩
  refine ⟨_, rfl, ?_⟩
  replace F := Aside0.mk (allg_step F.out hb_ hv_)
  replace J := Aside0.mk (J.out.below hb_)
  clear hb_ hv_
  refine hK.out _ _ (KB.four J.out) (fun hHeld => ?_)
  clear hK K
  refine norm_ (a' := ?_) ?_ ?_
  rotate_left
  · show Act.put _ (some 64) _ = _
    simp only [Act.put, List.setIfInBounds_toArray, List.set_cons_zero, List.set_cons_succ, i64_w, i32_w, u8_w, u32_w]
    rfl
  refine one_ (i := 27) (N := (some 65)) (bl 153 457223903692353016069030977463258896276652031) rfl rfl (one_of HT_.out (by kernel_rfl)) (by decide) (fun K hK => ?_)
  refine lit_step_goG (fun _ => False) (fun _ h => h.elim) ?hg (N' := 65) ?hd (xs := ([⟨25, 2, []⟩, ⟨25, 3, []⟩] : List S29)) (inner := ?inn65_22) ?hr ?hp (by simp) ?_
  (case hd => rfl)
  (case hg => rfl)
  (case hr => first | (go_simp; done) | (go_simp; rfl))
  (case hp => exact Reps.c3 ⟨_, rfl, F.out (_, _) mem_x⟩ (Reps.c3 ⟨_, rfl, F.out (_, _) mem_x⟩ (Reps.none _ _)))
  intro v65 w65 hv_ hb_
  replace F := Aside0.mk (allg_step F.out hb_ hv_)
  replace J := Aside0.mk (J.out.below hb_)
  clear hb_ hv_
  refine hK.out _ _ (KB.four J.out) (fun hHeld => ?_)
  clear hK K
  refine norm_ (a' := ?_) ?_ ?_
  rotate_left
  · show Act.put _ (some 65) _ = _
    simp only [Act.put, List.setIfInBounds_toArray, List.set_cons_zero, List.set_cons_succ, i64_w, i32_w, u8_w, u32_w]
    rfl
  exact hQ v39 v43 v44 v45 v47 v49 v50 v52 v54 v55 v56 v57 v58 v60 v62 v64 v65 _ ((allg_cons (F.out (_, _) mem_x) (allg_cons (F.out (_, _) mem_x) (allg_cons (F.out (_, _) mem_x) (allg_cons (F.out (_, _) mem_x) (allg_cons (F.out (_, _) mem_x) (allg_cons (F.out (_, _) mem_x) (allg_cons (F.out (_, _) mem_x) (allg_cons (F.out (_, _) mem_x) (allg_cons (F.out (_, _) mem_x) (allg_cons (F.out (_, _) mem_x) (allg_nil _ _)))))))))))) J.out
end Go.Proofs.YtnecmclnokikoaaDoor.P
