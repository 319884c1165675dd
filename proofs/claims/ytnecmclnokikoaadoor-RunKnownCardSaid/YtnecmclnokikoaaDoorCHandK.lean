/- Package term: how many kids an Op has. -/
import Derived.Test.YtnecmclnokikoaaDoorCHandA
import Derived.Laws.Tables
namespace Go.Proofs.YtnecmclnokikoaaDoor.Run
open Go.RowKit Go.Proofs.YtnecmclnokikoaaDoor.P Go.Proofs.YtnecmclnokikoaaDoorW.PrintWords Go.Proofs.YtnecmclnokikoaaDoorW.PrintLast Go.Proofs.YtnecmclnokikoaaDoorW.PrintMore
set_option linter.unusedVariables false
set_option linter.unusedSimpArgs false
/-- The table's cells. -/
def CN : Array Value := (counts.map (Value.int .i64)).toArray
def ZN : Array Value := Array.replicate 31 (.int .i64 0)
theorem CN_one : CN.all (·.oneCell') = true := by kernel_rfl
theorem CN_info : (Tryd.prog.info? 137).map (·.size) = some CN.size := by kernel_rfl
theorem ZN_size : ZN.size = CN.size := by kernel_rfl
theorem CN_at (i : Nat) (h : i < 31) : CN[i]? = some (Value.int .i64 (counts.getD i 0)) := by
  show (counts.map (Value.int .i64)).toArray[i]? = _
  rw [List.getElem?_toArray, List.getElem?_map, List.getD_eq_getElem?_getD, List.getElem?_eq_getElem (show i < counts.length from h)]
  rfl
theorem gen_world {P : Program} {ops : Array Oper} {Q : Exit → Act → World → Prop} {rest : List Oper} {a : Act} {W : World} (R : World → Prop) (h : R W) (k : ∀ w, R w → wpList P ops Q rest a w) : wpList P ops Q rest a W := k W h
theorem build_as {P : Program} {ops : Array Oper} {Q : Exit → Act → World → Prop} {rest : List Oper} {o : Oper} {a : Act} {w : World} (hg : o.guard = none) (t : TypeId) (parts : Array (Nat × Operand)) (ho : o.op = .build t parts)
    (cells : Array Value) (hb : P.built t (parts.map fun (i, x) => (i, a.eval x)).toList = some cells) (h : wpList P ops Q rest (a.put o.dst (.agg cells)) w) : wpList P ops Q (o :: rest) a w :=
  wpList_build hg t parts ho (by rw [hb]; rfl) (by rw [hb]; exact h)
theorem below_setRow {B : Nat} {w W : World} {g : Nat} (h : Below B w W) (hg : B ≤ g) (cs : Array Value) : Below B w (W.setRow g cs) :=
  h.trans ⟨rfl, rfl, rfl, by rw [setRow_size]; exact Nat.le_refl _, fun i hi => setRow_other W g i cs (by omega)⟩
set_option maxHeartbeats 8000000 in
set_option maxRecDepth 100000 in
theorem kids62 (o : Int) (h0 : 0 ≤ o) (h1 : o < 31) (w : World) : Calls Tryd.prog 71 #[.int .i64 o] w fun en w' => en = .returned (.int .i64 (kidsOf o)) ∧ Below w.heap.size w w' := by
  have g1 : (o < 0) = False := eq_false (by omega)
  have g2 : decide (o < 0) = false := decide_eq_false (by omega)
  have g3 : (31 ≤ o) = False := eq_false (by omega)
  have g4 : decide (31 ≤ o) = false := decide_eq_false (by omega)
  have g5 : (0 ≤ o) = True := eq_true h0
  have g6 : (o < 31) = True := eq_true h1
  have HO := Aside0.mk (And.intro h0 h1)
  have hk : Aside0 (o.toNat < 31) := ⟨by omega⟩
  have g7 : (o.toNat < 31) = True := eq_true hk.out
  go_enter Tryd.func71, Tryd.ntmps71
  go_wp2_with (first | ((with_reducible refine gate_dst (N := 4) rfl ?_); refine build_as rfl 137 _ rfl CN (by kernel_rfl) ?_) | ((with_reducible refine gate_dst (N := 3) rfl ?_); refine box_event ?hg (N := 3) ?hd (cs := ZN) (t := 137) ?hr ?_; (case hd => rfl); (case hg => rfl); (case hr => first | (go_simp; done) | (go_simp; rfl)); intro g hg w2 hbox hb; have HG := Aside0.mk hg; have HBX := Aside0.mk hbox; have HB := Aside0.mk hb; clear hg hbox hb) | (refine wpList_plain rfl fun _ hK => wp_store_row 137 (.tmp 3) (.tmp 4) rfl g CN rfl rfl 137 ZN HBX.out CN_info ZN_size CN_one (hK _ _ ?_); clear hK; refine gen_world (fun w3 => w3.heap[g]? = some (.cells CN 137 (0, 0)) ∧ Below w.heap.size w w3) ⟨setRow_heap _ _ _ _ _ _ HBX.out, below_setRow HB.out (Nat.le_of_eq HG.out.symm) _⟩ ?_; rintro w3 ⟨h3, b3⟩; have K3 := Aside0.mk h3; have B3 := Aside0.mk b3; clear HBX HB HG h3 b3; have kc : w3.cell? ⟨g, o.toNat, none⟩ = some (.int .i64 (counts.getD o.toNat 0)) := (blk_cell K3.out _).trans (CN_at _ hk.out)))
  go_ret
  refine ⟨?_, B3.out⟩
  unfold kidsOf
  rw [if_pos HO.out]
  rfl
set_option maxHeartbeats 8000000 in
set_option maxRecDepth 100000 in
theorem kids62_none (o : Int) (h : o < 0 ∨ 31 ≤ o) (w : World) : Calls Tryd.prog 71 #[.int .i64 o] w fun en w' => en = .returned (.int .i64 (kidsOf o)) ∧ Below w.heap.size w w' := by
  have HK : Aside0 (kidsOf o = -1) := ⟨by unfold kidsOf; rw [if_neg (by omega)]⟩
  rcases h with h | h
  · have g1 : (o < 0) = True := eq_true h
    have g2 : decide (o < 0) = true := decide_eq_true h
    clear h
    go_enter Tryd.func71, Tryd.ntmps71
    go_wp2_with (first | ((with_reducible refine gate_dst (N := 4) rfl ?_); refine build_as rfl 137 _ rfl CN (by kernel_rfl) ?_) | ((with_reducible refine gate_dst (N := 3) rfl ?_); refine box_event ?hg (N := 3) ?hd (cs := ZN) (t := 137) ?hr ?_; (case hd => rfl); (case hg => rfl); (case hr => first | (go_simp; done) | (go_simp; rfl)); intro g hg w2 hbox hb; have HG := Aside0.mk hg; have HBX := Aside0.mk hbox; have HB := Aside0.mk hb; clear hg hbox hb) | (refine wpList_plain rfl fun _ hK => wp_store_row 137 (.tmp 3) (.tmp 4) rfl g CN rfl rfl 137 ZN HBX.out CN_info ZN_size CN_one (hK _ _ ?_); clear hK; refine gen_world (fun w3 => w3.heap[g]? = some (.cells CN 137 (0, 0)) ∧ Below w.heap.size w w3) ⟨setRow_heap _ _ _ _ _ _ HBX.out, below_setRow HB.out (Nat.le_of_eq HG.out.symm) _⟩ ?_; rintro w3 ⟨h3, b3⟩; have K3 := Aside0.mk h3; have B3 := Aside0.mk b3; clear HBX HB HG h3 b3))
    go_ret
    exact ⟨by rw [HK.out]; rfl, B3.out⟩
  · have g1 : (o < 0) = False := eq_false (by omega)
    have g2 : decide (o < 0) = false := decide_eq_false (by omega)
    have g3 : (31 ≤ o) = True := eq_true h
    have g4 : decide (31 ≤ o) = true := decide_eq_true h
    clear h
    go_enter Tryd.func71, Tryd.ntmps71
    go_wp2_with (first | ((with_reducible refine gate_dst (N := 4) rfl ?_); refine build_as rfl 137 _ rfl CN (by kernel_rfl) ?_) | ((with_reducible refine gate_dst (N := 3) rfl ?_); refine box_event ?hg (N := 3) ?hd (cs := ZN) (t := 137) ?hr ?_; (case hd => rfl); (case hg => rfl); (case hr => first | (go_simp; done) | (go_simp; rfl)); intro g hg w2 hbox hb; have HG := Aside0.mk hg; have HBX := Aside0.mk hbox; have HB := Aside0.mk hb; clear hg hbox hb) | (refine wpList_plain rfl fun _ hK => wp_store_row 137 (.tmp 3) (.tmp 4) rfl g CN rfl rfl 137 ZN HBX.out CN_info ZN_size CN_one (hK _ _ ?_); clear hK; refine gen_world (fun w3 => w3.heap[g]? = some (.cells CN 137 (0, 0)) ∧ Below w.heap.size w w3) ⟨setRow_heap _ _ _ _ _ _ HBX.out, below_setRow HB.out (Nat.le_of_eq HG.out.symm) _⟩ ?_; rintro w3 ⟨h3, b3⟩; have K3 := Aside0.mk h3; have B3 := Aside0.mk b3; clear HBX HB HG h3 b3))
    go_ret
    exact ⟨by rw [HK.out]; rfl, B3.out⟩
theorem kids_any (o : Int) (w : World) : Calls Tryd.prog 71 #[.int .i64 o] w fun en w' => en = .returned (.int .i64 (kidsOf o)) ∧ Below w.heap.size w w' := by
  by_cases h : 0 ≤ o ∧ o < 31
  · exact kids62 o h.1 h.2 w
  · exact kids62_none o (by omega) w
end Go.Proofs.YtnecmclnokikoaaDoor.Run
