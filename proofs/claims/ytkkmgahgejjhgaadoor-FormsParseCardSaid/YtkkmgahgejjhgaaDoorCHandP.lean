/- Package forms' lists: open: a new row stands innermost; whether it may. No conditions. -/
import Derived.Test.YtkkmgahgejjhgaaDoorCHandC
namespace Go.Proofs.YtkkmgahgejjhgaaDoor.Frm
open Go.RowKit Go.Proofs.YtkkmgahgejjhgaaDoor.P Go.Proofs.YtkkmgahgejjhgaaDoorW.PrintWords Go.Proofs.YtkkmgahgejjhgaaDoorW.PrintLast Go.Proofs.YtkkmgahgejjhgaaDoorW.PrintMore
set_option linter.unusedVariables false
set_option linter.unusedSimpArgs false
theorem info28 : (Tryd.prog.info? 28).map (fun i => (i.zero, i.size, i.bytes)) = some (some (.slice none 0 0), 1, 24) := by kernel_rfl
theorem gen_world {P : Program} {ops : Array Oper} {Q : Exit → Act → World → Prop} {rest : List Oper} {a : Act} {W : World} (R : World → Prop) (h : R W) (k : ∀ w, R w → wpList P ops Q rest a w) : wpList P ops Q rest a W := k W h
/-- The rows behind a pointer. -/
def St (w : World) (base g : Nat) (rows : List (List S42)) : Prop := ∃ V hs, w.heap[g]? = some (.cells #[V] 59 (0, 0)) ∧ base ≤ g ∧ Stk w base V hs rows
theorem St.below {w w1 : World} {base g : Nat} {rows : List (List S42)} (h : St w base g rows) (hb : Below w.heap.size w w1) : St w1 base g rows := by
  obtain ⟨V, hs, h1, h2, h3⟩ := h
  exact ⟨V, hs, blk_below h1 hb, h2, h3.below hb⟩
set_option maxHeartbeats 8000000 in
set_option maxRecDepth 100000 in
theorem open27 {w0 w : World} {base g : Nat} {rows : List (List S42)} (h : St w base g rows) (hB : Below base w0 w) (h0 : 0 < rows.length) (h1 : rows.length ≤ 5000) :
    Calls Tryd.prog 27 #[.pointer (some ⟨g, 0, none⟩)] w fun e w' => e = .returned (.bool (decide ((rows.length : Int) ≤ 30))) ∧ St w' base g (rows ++ [[]]) ∧ Below base w0 w' ∧ KT w w' := by
  have hu57 := Tryd.underlying57
  obtain ⟨V, hs, hK, hg, hS⟩ := h
  obtain ⟨L, cap, rfl, hL, hLt, cl, hcl⟩ := hS.form h0
  have K := Aside0.mk hK
  have S := Aside0.mk hS
  have G := Aside0.mk hg
  have BB := Aside0.mk hB
  have N1 := Aside0.mk h1
  have BS := Aside0.mk (show base ≤ w.heap.size by have := blk_lt hK; omega)
  have k0 : w.cell? ⟨g, 0, none⟩ = some (.slice (some ⟨L, 0, none⟩) rows.length cap) := (blk_cell hK 0).trans rfl
  have e1 := Aside0.mk (show (hs ++ [((none, 0, 0) : Hd)]).length = rows.length + 1 by simp [hS.len])
  have w1 : wrap64 (rows.length : Int) = (rows.length : Int) := by unfold wrap64; omega
  clear hK hS hg hB h1 h0 hcl hLt hL
  go_enter Tryd.func27, Tryd.ntmps27
  go_wp2_with (first | ((with_reducible refine gate_builtin (b := .append) (xs := #[.tmp 7, .tmp 8]) rfl ?_); at_builtin; refine Kd.R_append sl (w0 := w0) base rfl (.tmp 7) (.tmp 8) 57 28 (.slice none 0 0) 24 rfl Tryd.underlying57 info28 rfl (by decide) (by omega) (.slice (some ⟨L, 0, none⟩) rows.length cap) hs (none, 0, 0) [.slice none 0 0] (fun _ => True) (fun k => some k ≠ (Value.slice (some ⟨L, 0, none⟩) rows.length cap).ownBlock) rfl rfl rfl (fun _ hk => ⟨trivial, hk⟩) (fun _ _ => trivial) S.out.out BB.out BS.out ?aL ?_; (case aL => have := N1.out; have := S.out.len; omega); intro v8 w8 ho hb hg hat; obtain ⟨A8, c8, e8⟩ := Kd.R_slice ho; rw [e1.out] at e8; subst e8; have S8 := Aside0.mk (S.out.push ho hg); have B8 := Aside0.mk hb; have K8 := Aside0.mk (blk_grown K.out hg (Kd.R_ne S.out.out K.out (by decide))); have T8 := Aside0.mk (KT.of_grown hg (by decide) (Kd.R_typed S.out.out)); clear ho hb hg hat; have k8 : w8.cell? ⟨g, 0, none⟩ = some (.slice (some ⟨L, 0, none⟩) rows.length cap) := (blk_cell K8.out 0).trans rfl; have kf8 := blk_frozen K8.out 0))
  go_ret
  exact ⟨by first | rfl | (simp; done) | (simp [*]; done), ⟨_, _, blk_put K8.out 0 _ rfl, G.out, S8.out.set_box K8.out (by decide) (by decide) _ _⟩, Below.setCell (p := ⟨g, 0, none⟩) B8.out G.out _, T8.out.trans (KT.set K8.out (by decide) _ _)⟩
end Go.Proofs.YtkkmgahgejjhgaaDoor.Frm
