/- Package forms' lists: what stands while a form is put behind the others of the innermost row. No conditions. -/
import Derived.Test.YtkkmgahgejjhgaaDoorCHandP
namespace Go.Proofs.YtkkmgahgejjhgaaDoor.Frm
open Go.RowKit Go.Proofs.YtkkmgahgejjhgaaDoor.P Go.Proofs.YtkkmgahgejjhgaaDoorW.PrintWords Go.Proofs.YtkkmgahgejjhgaaDoorW.PrintLast Go.Proofs.YtkkmgahgejjhgaaDoorW.PrintMore
set_option linter.unusedVariables false
set_option linter.unusedSimpArgs false
/-- What stands while a form is put behind the others: its box gf, the state's block g (or nothing of that kind), the rows, the form's own list. -/
structure AF (w0 w : World) (base L cap n : Nat) (o : Option (Nat × Nat)) (ob : Obj) (f : S42) (Af : Option Addr) (cf gf : Nat) (hs : List Hd) (rows : List (List S42)) (w1 : World) : Prop where
  K : ∀ q, o = some q → w1.heap[q.1]? = some ob
  F : w1.heap[gf]? = some (.cells #[.int .i64 f.f0, .int .i64 f.f1, .string f.f2, .slice Af f.f3.length cf] 42 (0, 0))
  S : Stk w1 base (.slice (some ⟨L, 0, none⟩) (n + 1) cap) hs rows
  R : Kd.R k42 42 w1 base (fun k => Alr hs k ∧ k ≠ gf) (.slice Af f.f3.length cf) f.f3
  A : Alr hs gf
  B : Below base w0 w1
  T : KT w w1
  Z : base ≤ w1.heap.size
section
variable {w0 w w1 w2 : World} {base L cap n cf gf : Nat} {o : Option (Nat × Nat)} {ob : Obj} {f : S42} {Af : Option Addr} {hs : List Hd} {rows : List (List S42)}
theorem AF.below (h : AF w0 w base L cap n o ob f Af cf gf hs rows w1) (hb : Below w1.heap.size w1 w2) : AF w0 w base L cap n o ob f Af cf gf hs rows w2 :=
  ⟨fun q hq => blk_below (h.K q hq) hb, blk_below h.F hb, h.S.below hb, Kd.R_below h.R hb, h.A, h.B.trans (hb.mono h.Z), h.T.trans (KT.of_below hb), Nat.le_trans h.Z hb.size⟩
/-- Row n has grown (x1: its header behind that), and the outer row holds the new header. hob: the state's block is of another type. -/
theorem AF.put (h : AF w0 w base L cap n o ob f Af cf gf hs rows w1) (hob : ∃ (c : Array Value) (t : Nat), ob = .cells c t (0, 0) ∧ t ≠ 42 ∧ t ≠ 28) (hn : n < rows.length) {x1 : Hd} {xs' : List S42} (h1 : Kd.R k42 42 w2 base (Apt hs n) (slv x1) xs') (hb : Below base w0 w2) (hg : w1.grownBy w2 (hv hs n).ownBlock) (hat : (slv x1).ownBlock = (hv hs n).ownBlock ∨ ∃ b, (slv x1).ownBlock = some b ∧ w1.heap.size ≤ b) :
    AF w0 w base L cap n o ob f Af cf gf (hs.set n x1) (rows.set n xs') (w2.setCell ⟨L, n, none⟩ (slv x1)) ∧ w2.cell? ⟨L, n, none⟩ = some (slv (rdOf (none, 0, 0) hs (n : Int))) ∧ w2.frozen? ⟨L, n, none⟩ = false := by
  have hl : n < hs.length := by rw [h.S.len]; exact hn
  have hnn : n + 1 = hs.length := by
    obtain ⟨A, c, e⟩ := Kd.R_slice h.S.out
    injection e
  have hmid := h.S.mid hn h1 hg hat
  have hty := Kd.R_typed (h.S.row n hn)
  obtain ⟨cl, hL⟩ := Kd.R_typed hmid.1 L (by simp [Value.ownBlock])
  have hLb : base ≤ L := Kd.R_base hmid.1 L (by simp [Value.ownBlock])
  have hcn := Kd.R_celln (enc := slv) (h1 := fun _ => rfl) (none, 0, 0) hmid.1 (n : Int) (by omega) (by omega)
  rw [Int.toNat_natCast] at hcn
  have hgfL : gf ≠ L := by
    rintro rfl
    have e := (hg.block gf (blk_lt h.F) (h.A n hl)).trans h.F
    rw [hL] at e
    injection e with e
    injection e with _ e
    exact absurd e (by decide)
  refine ⟨⟨fun q hq => ?_, ?_, h.S.put hn h1 hg hat rfl, ?_, ?_, Below.setCell (p := ⟨L, n, none⟩) hb hLb _, ?_, ?_⟩, hcn⟩
  · obtain ⟨c, t, rfl, h42, h28⟩ := hob
    have e := h.K q hq
    have e1 : w2.heap[q.1]? = some (.cells c t (0, 0)) := (hg.block q.1 (blk_lt e) (fun he => by
      obtain ⟨cells, hc⟩ := hty q.1 he.symm
      rw [e] at hc
      injection hc with hc
      injection hc with _ hc
      exact h42 hc)).trans e
    rw [Below.heap_setCell]
    · exact e1
    · intro he
      rw [show q.1 = L from he, hL] at e1
      injection e1 with e1
      injection e1 with _ e1
      exact h28 e1.symm
  · have e1 := (hg.block gf (blk_lt h.F) (h.A n hl)).trans h.F
    rw [Below.heap_setCell]
    · exact e1
    · exact hgfL
  · have r0 : Kd.R k42 42 w1 base (fun k => (Alr hs k ∧ k ≠ gf) ∧ some k ≠ (hv hs n).ownBlock) (.slice Af f.f3.length cf) f.f3 := Kd.R_mono h.R (fun k hk => ⟨hk, hk.1 n hl⟩)
    refine Kd.R_set (Kd.R_mono (Kd.R_after r0 hg hat) (fun k hk => ⟨fun j hj => ?_, hk.1.2⟩)) hL (e42 28 (by decide)) n _
    by_cases hjn : n = j
    · subst hjn
      rw [hv_set_same hl]
      exact hk.2
    · rw [hv_set_ne hjn]
      exact hk.1.1 j (by simpa using hj)
  · intro j hj
    by_cases hjn : n = j
    · subst hjn
      rw [hv_set_same hl]
      rcases hat with hat | ⟨b, hb, hle⟩
      · rw [hat]
        exact h.A n hl
      · rw [hb]
        intro he
        injection he with he
        have := blk_lt h.F
        omega
    · rw [hv_set_ne hjn]
      exact h.A j (by simpa using hj)
  · exact (h.T.trans (KT.of_grown hg (by decide) hty)).trans (KT.set hL (by decide) _ _)
  · have := hg.size
    have := h.Z
    have e : (w2.setCell ⟨L, n, none⟩ (slv x1)).heap.size = w2.heap.size := by simp [World.setCell]
    omega
/-- An element of row n is written in its place. -/
theorem AF.grow (h : AF w0 w base L cap n o ob f Af cf gf hs rows w1) (hob : ∃ (c : Array Value) (t : Nat), ob = .cells c t (0, 0) ∧ t ≠ 42 ∧ t ≠ 28) (hn : n < rows.length) {xs' : List S42} (h1 : Kd.R k42 42 w2 base (Apt hs n) (hv hs n) xs') (hb : Below base w0 w2) (hg : w1.grownBy w2 (hv hs n).ownBlock) :
    (∀ q, o = some q → w2.heap[q.1]? = some ob) ∧ Stk w2 base (.slice (some ⟨L, 0, none⟩) (n + 1) cap) hs (rows.set n xs') ∧ Below base w0 w2 ∧ KT w w2 := by
  have hty := Kd.R_typed (h.S.row n hn)
  refine ⟨fun q hq => ?_, h.S.grow hn h1 hg, hb, h.T.trans (KT.of_grown hg (by decide) hty)⟩
  obtain ⟨c, t, rfl, h42, h28⟩ := hob
  have e := h.K q hq
  exact (hg.block q.1 (blk_lt e) (fun he => by
    obtain ⟨cells, hc⟩ := hty q.1 he.symm
    rw [e] at hc
    injection hc with hc
    injection hc with _ hc
    exact h42 hc)).trans e
/-- What is read while a form is put behind the others. -/
def AC (L n : Nat) (x : Value) (f : S42) (Af : Option Addr) (cf gf : Nat) (w : World) : Prop := w.cell? ⟨L, n, none⟩ = some x ∧ w.cell? ⟨gf, 0, none⟩ = some (.int .i64 f.f0) ∧ w.cell? ⟨gf, 1, none⟩ = some (.int .i64 f.f1) ∧ w.cell? ⟨gf, 2, none⟩ = some (.string f.f2) ∧ w.cell? ⟨gf, 3, none⟩ = some (.slice Af f.f3.length cf)
theorem AF.ac (h : AF w0 w base L cap n o ob f Af cf gf hs rows w1) : AC L n (slv (rdOf (none, 0, 0) hs (n : Int))) f Af cf gf w1 := by
  have hnn : n + 1 = hs.length := by
    obtain ⟨A, c, e⟩ := Kd.R_slice h.S.out
    injection e
  have hcn := Kd.R_celln (enc := slv) (h1 := fun _ => rfl) (none, 0, 0) h.S.out (n : Int) (by omega) (by omega)
  rw [Int.toNat_natCast] at hcn
  exact ⟨hcn.1, (blk_cell h.F 0).trans rfl, (blk_cell h.F 1).trans rfl, (blk_cell h.F 2).trans rfl, (blk_cell h.F 3).trans rfl⟩
theorem AF.acx (h : AF w0 w base L cap n o ob f Af cf gf hs rows w1) {x : Hd} (hx : x = rdOf (none, 0, 0) hs (n : Int)) : AC L n (slv x) f Af cf gf w1 := by
  rw [hx]
  exact h.ac
end
theorem hv_rd (hs : List Hd) (n : Nat) : hv hs n = slv (rdOf (none, 0, 0) hs (n : Int)) := by simp [hv, rdOf]
end Go.Proofs.YtkkmgahgejjhgaaDoor.Frm
