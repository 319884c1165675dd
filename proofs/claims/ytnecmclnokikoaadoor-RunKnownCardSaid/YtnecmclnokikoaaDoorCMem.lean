/- How chapter 12's values and environments lie in memory, and that they stay as they are. -/
import Derived.Test.YtnecmclnokikoaaDoorCMod
namespace Go.Proofs.YtnecmclnokikoaaDoor.Run
open Go.RowKit Go.Proofs.YtnecmclnokikoaaDoor.P Go.Proofs.YtnecmclnokikoaaDoorW.PrintWords Go.Proofs.YtnecmclnokikoaaDoorW.PrintLast Go.Proofs.YtnecmclnokikoaaDoorW.PrintMore
set_option linter.unusedVariables false

mutual
/-- A value in memory: w0: the world in which the terms' kids are read; ok: the blocks it lies in. -/
def RV (w0 w : World) (ok : Nat → Prop) : V → Value → Prop
  | .int n, p => ∃ g, p = .pointer (some ⟨g, 0, none⟩) ∧ ok g ∧ w.heap[g]? = some (.cells #[.int .i64 1, .int .i64 n, .slice none 0 0, .int .i64 0, .int .i64 0, .slice none 0 0, .pointer none] 95 (0, 0))
  | .pair a b, p => ∃ g r pa pb, p = .pointer (some ⟨g, 0, none⟩) ∧ ok g ∧ w.heap[g]? = some (.cells #[.int .i64 2, .int .i64 0, .slice (some ⟨r, 0, none⟩) 2 2, .int .i64 0, .int .i64 0, .slice none 0 0, .pointer none] 95 (0, 0)) ∧ ok r ∧ w.heap[r]? = some (.cells #[pa, pb] 67 (0, 0)) ∧ RV w0 w ok a pa ∧ RV w0 w ok b pb
  | .fn t e, p => ∃ g A c pe, p = .pointer (some ⟨g, 0, none⟩) ∧ ok g ∧ w.heap[g]? = some (.cells #[.int .i64 3, .int .i64 0, .slice none 0 0, .int .i64 t.f0, .int .i64 t.f1, .slice A t.f2.length c, pe] 95 (0, 0)) ∧ t.f2.length ≤ c ∧ Kd.C k29 w0 A t.f2.length t.f2 ∧ RE w0 w ok e pe
/-- An environment in memory. -/
def RE (w0 w : World) (ok : Nat → Prop) : E → Value → Prop
  | .nil, p => p = .pointer none
  | .val v up, p => ∃ g pv pu, p = .pointer (some ⟨g, 0, none⟩) ∧ ok g ∧ w.heap[g]? = some (.cells #[pv, .pointer none, pu] 92 (0, 0)) ∧ RV w0 w ok v pv ∧ RE w0 w ok up pu
  | .loop t up, p => ∃ g h A c pu, p = .pointer (some ⟨g, 0, none⟩) ∧ ok g ∧ w.heap[g]? = some (.cells #[.pointer none, .pointer (some ⟨h, 0, none⟩), pu] 92 (0, 0)) ∧ ok h ∧ w.heap[h]? = some (.cells #[.int .i64 t.f0, .int .i64 t.f1, .slice A t.f2.length c] 29 (0, 0)) ∧ t.f2.length ≤ c ∧ Kd.C k29 w0 A t.f2.length t.f2 ∧ RE w0 w ok up pu
end
mutual
theorem RV_step {w0 w w' : World} {ok ok' : Nat → Prop} (hk : ∀ k, ok k → ok' k) (hm : ∀ k, ok k → k < w.heap.size → w'.heap[k]? = w.heap[k]?) : ∀ (v : V) (p : Value), RV w0 w ok v p → RV w0 w' ok' v p
  | .int n, p, h => by
    obtain ⟨g, h1, h2, h3⟩ := h
    exact ⟨g, h1, hk _ h2, (hm g h2 (blk_lt h3)).trans h3⟩
  | .pair a b, p, h => by
    obtain ⟨g, r, pa, pb, h1, h2, h3, h4, h5, h6, h7⟩ := h
    exact ⟨g, r, pa, pb, h1, hk _ h2, (hm g h2 (blk_lt h3)).trans h3, hk _ h4, (hm r h4 (blk_lt h5)).trans h5, RV_step hk hm a pa h6, RV_step hk hm b pb h7⟩
  | .fn t e, p, h => by
    obtain ⟨g, A, c, pe, h1, h2, h3, h4, h5, h6⟩ := h
    exact ⟨g, A, c, pe, h1, hk _ h2, (hm g h2 (blk_lt h3)).trans h3, h4, h5, RE_step hk hm e pe h6⟩
theorem RE_step {w0 w w' : World} {ok ok' : Nat → Prop} (hk : ∀ k, ok k → ok' k) (hm : ∀ k, ok k → k < w.heap.size → w'.heap[k]? = w.heap[k]?) : ∀ (e : E) (p : Value), RE w0 w ok e p → RE w0 w' ok' e p
  | .nil, p, h => h
  | .val v up, p, h => by
    obtain ⟨g, pv, pu, h1, h2, h3, h4, h5⟩ := h
    exact ⟨g, pv, pu, h1, hk _ h2, (hm g h2 (blk_lt h3)).trans h3, RV_step hk hm v pv h4, RE_step hk hm up pu h5⟩
  | .loop t up, p, h => by
    obtain ⟨g, q, A, c, pu, h1, h2, h3, h4, h5, h6, h7, h8⟩ := h
    exact ⟨g, q, A, c, pu, h1, hk _ h2, (hm g h2 (blk_lt h3)).trans h3, hk _ h4, (hm q h4 (blk_lt h5)).trans h5, h6, h7, RE_step hk hm up pu h8⟩
end
/-- The machine's block. -/
def MC (w : World) (gm : Nat) (st F er : Int) : Prop := w.heap[gm]? = some (.cells #[.int .i64 st, .int .i64 F, .int .i64 er] 66 (0, 0))
theorem RV_keep {w0 w w' : World} {ok ok' : Nat → Prop} {gm : Nat} {v : V} {p : Value} (h : RV w0 w ok v p) (hk : KeepBut w w' gm none) (hg : ∀ k, ok k → k ≠ gm) (ho : ∀ k, ok k → ok' k) : RV w0 w' ok' v p :=
  RV_step ho (fun k hk' hlt => hk.2 k hlt (hg k hk') (by simp)) v p h
theorem RE_keep {w0 w w' : World} {ok ok' : Nat → Prop} {gm : Nat} {e : E} {p : Value} (h : RE w0 w ok e p) (hk : KeepBut w w' gm none) (hg : ∀ k, ok k → k ≠ gm) (ho : ∀ k, ok k → ok' k) : RE w0 w' ok' e p :=
  RE_step ho (fun k hk' hlt => hk.2 k hlt (hg k hk') (by simp)) e p h
theorem RV_below {w0 w w' : World} {ok ok' : Nat → Prop} {v : V} {p : Value} (h : RV w0 w ok v p) (hb : Below w.heap.size w w') (ho : ∀ k, ok k → ok' k) : RV w0 w' ok' v p :=
  RV_step ho (fun k _ hlt => hb.block k hlt) v p h
theorem RE_below {w0 w w' : World} {ok ok' : Nat → Prop} {e : E} {p : Value} (h : RE w0 w ok e p) (hb : Below w.heap.size w w') (ho : ∀ k, ok k → ok' k) : RE w0 w' ok' e p :=
  RE_step ho (fun k _ hlt => hb.block k hlt) e p h
theorem RV_ptr {w0 w : World} {ok : Nat → Prop} : ∀ {v : V} {p : Value}, RV w0 w ok v p → ∃ g l0 op n ks pe, p = .pointer (some ⟨g, 0, none⟩) ∧ ok g ∧ w.heap[g]? = some (.cells #[.int .i64 v.kind, .int .i64 v.num, l0, op, n, ks, pe] 95 (0, 0))
  | .int n, p, h => by
    obtain ⟨g, h1, h2, h3⟩ := h
    exact ⟨g, _, _, _, _, _, h1, h2, h3⟩
  | .pair a b, p, h => by
    obtain ⟨g, r, pa, pb, h1, h2, h3, h4, h5, h6, h7⟩ := h
    exact ⟨g, _, _, _, _, _, h1, h2, h3⟩
  | .fn t e, p, h => by
    obtain ⟨g, A, c, pe, h1, h2, h3, h4, h5, h6⟩ := h
    exact ⟨g, _, _, _, _, _, h1, h2, h3⟩
end Go.Proofs.YtnecmclnokikoaaDoor.Run
