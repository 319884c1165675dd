/- Rows of forms that are not closed yet (package forms' lists): the outer row's headers, each row of forms one's own and apart from all others. No conditions. -/
import Derived.Test.YtkkmgahgejjhgaaDoorCPx0
namespace Go.Proofs.YtkkmgahgejjhgaaDoor.Frm
open Go.RowKit Go.Proofs.YtkkmgahgejjhgaaDoor.P Go.Proofs.YtkkmgahgejjhgaaDoorW.PrintWords Go.Proofs.YtkkmgahgejjhgaaDoorW.PrintLast Go.Proofs.YtkkmgahgejjhgaaDoorW.PrintMore
set_option linter.unusedVariables false
set_option linter.unusedSimpArgs false

/-- Blocks of tokens stay as they are. -/
def KT (w w1 : World) : Prop := ∀ (k : Nat) (cells : Array Value), w.heap[k]? = some (.cells cells 63 (0, 0)) → w1.heap[k]? = some (.cells cells 63 (0, 0))
theorem KT.refl (w : World) : KT w w := fun _ _ h => h
theorem KT.trans {w w1 w2 : World} (h : KT w w1) (h2 : KT w1 w2) : KT w w2 := fun k c hk => h2 k c (h k c hk)
theorem KT.of_below {w w1 : World} (h : Below w.heap.size w w1) : KT w w1 := fun k c hk => (h.block k (blk_lt hk)).trans hk
theorem KT.of_grown {w w1 : World} {row : Option Nat} {t : Nat} (h : w.grownBy w1 row) (ht : t ≠ 63) (hty : ∀ k, row = some k → ∃ cells, w.heap[k]? = some (.cells cells t (0, 0))) : KT w w1 := by
  intro k c hk
  refine (h.block k (blk_lt hk) (fun e => ?_)).trans hk
  obtain ⟨cells, hc⟩ := hty k e.symm
  rw [hk] at hc
  injection hc with hc
  injection hc with _ hc
  exact ht hc.symm
theorem KT.set {w : World} {g : Nat} {t : Nat} {cells : Array Value} (hb : w.heap[g]? = some (.cells cells t (0, 0))) (ht : t ≠ 63) (j : Nat) (u : Value) : KT w (w.setCell ⟨g, j, none⟩ u) := by
  intro k c hk
  rw [Below.heap_setCell]
  · exact hk
  · rintro rfl
    rw [hb] at hk
    injection hk with hk
    injection hk with _ hk
    exact ht hk
theorem R_KT {w w1 : World} {base : Nat} {ok : Nat → Prop} {v : Value} {xs : List S63} (h : Kd.R k63 63 w base ok v xs) (hk : KT w w1) : Kd.R k63 63 w1 base ok v xs := by
  refine Kd.R_mono (Kd.R_move (Kd.R_bound h) (fun k hq => ?_)) (fun _ hq => hq.1)
  obtain ⟨_, _, _, q, hq, cells, hc⟩ := hq
  have : q = 63 := by
    have e : (63 : Nat) :: k63.E = [63] := rfl
    rw [e] at hq
    exact List.mem_singleton.1 hq
  subst this
  rw [hk k cells hc, hc]

/-- A row's header. -/
abbrev Hd := Option Addr × Nat × Nat
def slv (x : Hd) : Value := .slice x.1 x.2.1 x.2.2
def sl : Kd Hd := Kd.scalar slv (fun _ => rfl)
def hv (hs : List Hd) (i : Nat) : Value := slv (hs.getD i (none, 0, 0))
/-- No block of another row. -/
def Apt (hs : List Hd) (i k : Nat) : Prop := ∀ j, j ≠ i → j < hs.length → some k ≠ (hv hs j).ownBlock
def Alr (hs : List Hd) (k : Nat) : Prop := ∀ j, j < hs.length → some k ≠ (hv hs j).ownBlock
structure Stk (w : World) (base : Nat) (V : Value) (hs : List Hd) (rows : List (List S42)) : Prop where
  out : Kd.R sl 28 w base (fun _ => True) V hs
  len : hs.length = rows.length
  row : ∀ i, i < rows.length → Kd.R k42 42 w base (Apt hs i) (hv hs i) (rows.getD i [])
theorem hv_set_same {hs : List Hd} {n : Nat} (h : n < hs.length) (x : Hd) : hv (hs.set n x) n = slv x := by
  simp [hv, List.getD_eq_getElem?_getD, h]
theorem hv_set_ne {hs : List Hd} {n j : Nat} (h : n ≠ j) (x : Hd) : hv (hs.set n x) j = hv hs j := by
  simp [hv, List.getD_eq_getElem?_getD, List.getElem?_set_ne h]
theorem getD_set_same {α : Type} {l : List α} {n : Nat} (h : n < l.length) (x z : α) : (l.set n x).getD n z = x := by
  simp [List.getD_eq_getElem?_getD, h]
theorem getD_set_ne {α : Type} {l : List α} {n j : Nat} (h : n ≠ j) (x z : α) : (l.set n x).getD j z = l.getD j z := by
  simp [List.getD_eq_getElem?_getD, List.getElem?_set_ne h]
theorem e28 : ∀ q, q ∈ 28 :: sl.E → q ≠ 42 := by
  intro q hq
  have e : (28 : Nat) :: sl.E = [28] := rfl
  rw [e] at hq
  rw [List.mem_singleton.1 hq]
  decide
theorem e42 (t : Nat) (ht : t ≠ 42) : ∀ q, q ∈ 42 :: k42.E → q ≠ t := by
  intro q hq
  have e : (42 : Nat) :: k42.E = [42, 42] := rfl
  rw [e] at hq
  have : q = 42 := by simpa using hq
  rw [this]
  exact fun h => ht h.symm
theorem e28' (t : Nat) (ht : t ≠ 28) : ∀ q, q ∈ 28 :: sl.E → q ≠ t := by
  intro q hq
  have e : (28 : Nat) :: sl.E = [28] := rfl
  rw [e] at hq
  rw [List.mem_singleton.1 hq]
  exact fun h => ht h.symm
section
variable {w w1 : World} {base : Nat} {V : Value} {hs : List Hd} {rows : List (List S42)}
theorem Stk.below (h : Stk w base V hs rows) (hb : Below w.heap.size w w1) : Stk w1 base V hs rows := ⟨Kd.R_below h.out hb, h.len, fun i hi => Kd.R_below (h.row i hi) hb⟩
theorem Stk.set_box (h : Stk w base V hs rows) {g t : Nat} {cells : Array Value} (hb : w.heap[g]? = some (.cells cells t (0, 0))) (h28 : t ≠ 28) (h42 : t ≠ 42) (j : Nat) (u : Value) : Stk (w.setCell ⟨g, j, none⟩ u) base V hs rows :=
  ⟨Kd.R_set h.out hb (e28' t h28) j u, h.len, fun i hi => Kd.R_set (h.row i hi) hb (e42 t h42) j u⟩
theorem Stk.form (h : Stk w base V hs rows) (hp : 0 < rows.length) : ∃ L cap, V = .slice (some ⟨L, 0, none⟩) rows.length cap ∧ base ≤ L ∧ L < w.heap.size ∧ ∃ cells, w.heap[L]? = some (.cells cells 28 (0, 0)) := by
  have := Kd.R_form h.out (by rw [h.len]; exact hp)
  rwa [h.len] at this
/-- A row has grown in its place, or given way to a new one; the others are as they were. -/
theorem Stk.mid (h : Stk w base V hs rows) {n : Nat} (hn : n < rows.length) {x1 : Hd} {xs' : List S42} (h1 : Kd.R k42 42 w1 base (Apt hs n) (slv x1) xs') (hg : w.grownBy w1 (hv hs n).ownBlock) (hat : (slv x1).ownBlock = (hv hs n).ownBlock ∨ ∃ b, (slv x1).ownBlock = some b ∧ w.heap.size ≤ b) :
    Kd.R sl 28 w1 base (fun _ => True) V hs ∧ ∀ i, i < rows.length → Kd.R k42 42 w1 base (Apt (hs.set n x1) i) (hv (hs.set n x1) i) ((rows.set n xs').getD i []) := by
  have hty := Kd.R_typed (h.row n hn)
  refine ⟨Kd.R_over' h.out hty e28 hg, fun i hi => ?_⟩
  by_cases hin : n = i
  · subst hin
    rw [hv_set_same (by rw [h.len]; exact hn), getD_set_same hn]
    refine Kd.R_mono h1 (fun k hk j hj hlt => ?_)
    rw [hv_set_ne (Ne.symm hj)]
    exact hk j hj (by simpa using hlt)
  · rw [hv_set_ne hin, getD_set_ne hin]
    have h2 : Kd.R k42 42 w base (fun k => Apt hs i k ∧ some k ≠ (hv hs n).ownBlock) (hv hs i) (rows.getD i []) := Kd.R_mono (h.row i hi) (fun k hk => ⟨hk, hk n hin (by rw [h.len]; exact hn)⟩)
    refine Kd.R_mono (Kd.R_after h2 hg hat) (fun k hk j hj hlt => ?_)
    by_cases hjn : n = j
    · subst hjn
      rw [hv_set_same (by rw [h.len]; exact hn)]
      exact hk.2
    · rw [hv_set_ne hjn]
      exact hk.1 j hj (by simpa using hlt)
theorem Stk.grow (h : Stk w base V hs rows) {n : Nat} (hn : n < rows.length) {xs' : List S42} (h1 : Kd.R k42 42 w1 base (Apt hs n) (hv hs n) xs') (hg : w.grownBy w1 (hv hs n).ownBlock) : Stk w1 base V hs (rows.set n xs') := by
  have hl : n < hs.length := by rw [h.len]; exact hn
  have hx : hs.set n (hs.getD n (none, 0, 0)) = hs := by
    rw [List.getD_eq_getElem?_getD, List.getElem?_eq_getElem hl]
    exact List.set_getElem_self hl
  have := h.mid (w1 := w1) hn (x1 := hs.getD n (none, 0, 0)) h1 hg (.inl rfl)
  rw [hx] at this
  exact ⟨this.1, by rw [h.len, List.length_set], fun i hi => this.2 i (by simpa using hi)⟩
theorem Stk.put (h : Stk w base V hs rows) {n : Nat} (hn : n < rows.length) {x1 : Hd} {xs' : List S42} (h1 : Kd.R k42 42 w1 base (Apt hs n) (slv x1) xs') (hg : w.grownBy w1 (hv hs n).ownBlock) (hat : (slv x1).ownBlock = (hv hs n).ownBlock ∨ ∃ b, (slv x1).ownBlock = some b ∧ w.heap.size ≤ b)
    {L m cap : Nat} (hV : V = .slice (some ⟨L, 0, none⟩) m cap) : Stk (w1.setCell ⟨L, n, none⟩ (slv x1)) base V (hs.set n x1) (rows.set n xs') := by
  obtain ⟨ho, hr⟩ := h.mid hn h1 hg hat
  have hm : m = hs.length := by
    obtain ⟨A, c, e⟩ := Kd.R_slice ho
    rw [hV] at e
    injection e
  subst hV
  obtain ⟨cells, hL⟩ := Kd.R_typed ho L (by simp [Value.ownBlock])
  have hp := Kd.R_putn (enc := slv) (h1 := fun _ => rfl) ho (n : Int) x1
  rw [Int.toNat_natCast] at hp
  refine ⟨hp, by rw [List.length_set, List.length_set, h.len], fun i hi => ?_⟩
  exact Kd.R_set (hr i (by simpa using hi)) hL (e42 28 (by decide)) n _
/-- A row opens. -/
theorem Stk.push (h : Stk w base V hs rows) {V1 : Value} (h1 : Kd.R sl 28 w1 base (fun _ => True) V1 (hs ++ [(none, 0, 0)])) (hg : w.grownBy w1 V.ownBlock) : Stk w1 base V1 (hs ++ [(none, 0, 0)]) (rows ++ [[]]) := by
  have hty := Kd.R_typed h.out
  refine ⟨h1, by simp [h.len], fun i hi => ?_⟩
  by_cases hin : i < rows.length
  · have e1 : hv (hs ++ [(none, 0, 0)]) i = hv hs i := by
      simp [hv, List.getD_eq_getElem?_getD, List.getElem?_append_left (show i < hs.length by rw [h.len]; exact hin)]
    have e2 : (rows ++ [[]]).getD i [] = rows.getD i [] := by
      simp [List.getD_eq_getElem?_getD, List.getElem?_append_left hin]
    rw [e1, e2]
    refine Kd.R_mono (Kd.R_over' (h.row i hin) hty (e42 28 (by decide)) hg) (fun k hk j hj hlt => ?_)
    by_cases hjl : j < hs.length
    · have e3 : hv (hs ++ [(none, 0, 0)]) j = hv hs j := by
        simp [hv, List.getD_eq_getElem?_getD, List.getElem?_append_left hjl]
      rw [e3]
      exact hk j hj hjl
    · have : j = hs.length := by simp at hlt; omega
      subst this
      simp [hv, slv, List.getD_eq_getElem?_getD, Value.ownBlock]
  · have : i = rows.length := by simp at hi; omega
    subst this
    have e1 : hv (hs ++ [(none, 0, 0)]) rows.length = .slice none 0 0 := by
      rw [← h.len]
      simp [hv, slv, List.getD_eq_getElem?_getD]
    have e2 : (rows ++ [[]]).getD rows.length [] = [] := by
      simp [List.getD_eq_getElem?_getD]
    rw [e1, e2]
    exact Kd.R_nil _ _ _ _ _
/-- The innermost row closes. -/
theorem Stk.pop {A : Option Addr} {m c : Nat} (h : Stk w base (.slice A m c) hs rows) {n : Nat} (hn : n ≤ rows.length) : Stk w base (.slice A n c) (hs.take n) (rows.take n) := by
  have hln : (hs.take n).length = n := by rw [List.length_take, h.len]; omega
  refine ⟨Kd.R_take h.out (by rw [h.len]; exact hn), by rw [hln, List.length_take]; omega, fun i hi => ?_⟩
  have hi1 : i < n := by rw [List.length_take] at hi; omega
  have hi2 : i < rows.length := by omega
  have e1 : hv (hs.take n) i = hv hs i := by
    simp [hv, List.getD_eq_getElem?_getD, List.getElem?_take, hi1]
  have e2 : (rows.take n).getD i [] = rows.getD i [] := by
    simp [List.getD_eq_getElem?_getD, List.getElem?_take, hi1]
  rw [e1, e2]
  refine Kd.R_mono (h.row i hi2) (fun k hk j hj hlt => ?_)
  have hj1 : j < n := by omega
  have e3 : hv (hs.take n) j = hv hs j := by
    simp [hv, List.getD_eq_getElem?_getD, List.getElem?_take, hj1]
  rw [e3]
  exact hk j hj (by rw [h.len]; omega)
theorem Stk.lt (h : Stk w base V hs rows) : ∀ k, w.heap.size ≤ k → Alr hs k := by
  intro k hk j hj he
  have := Kd.R_lt (h.row j (by rw [← h.len]; exact hj)) k he.symm
  omega
end
theorem Alr.apt {hs : List Hd} {i k : Nat} (h : Alr hs k) : Apt hs i k := fun j _ hlt => h j hlt
end Go.Proofs.YtkkmgahgejjhgaaDoor.Frm
