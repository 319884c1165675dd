/- Several texts in one. -/
import Derived.Test.YtkkmgahgejjhgaaDoorCHandG
import Derived.Test.YtkkmgahgejjhgaaDoorCHandR
import Derived.Test.YtkkmgahgejjhgaaDoorCHandF
import Derived.Shelf.Strings.Builder1
import Derived.Shelf.Strings.Builder2
import Derived.Shelf.Strings.OnBuilder
import Derived.Shelf.Strconv.Itoa0
import Derived.Shelf.Strconv.Itoa1
import Derived.Shelf.LaysM
import Derived.Shelf.Strconv.Itoa2
import Derived.Shelf.Strconv.Itoa3
import Derived.Test.YtkkmgahgejjhgaaDoorProg
import Derived.Test.YtkkmgahgejjhgaaDoorCPx0
import Derived.Test.YtkkmgahgejjhgaaDoorCMod
/- The document's Parse (chapter 3): a text's forms are the model's, or where it has none. No conditions. Printed by genrparse.py. -/
namespace Go.Proofs.YtkkmgahgejjhgaaDoor.Frm
open Go.RowKit Go.Proofs.YtkkmgahgejjhgaaDoor.P Go.Proofs.YtkkmgahgejjhgaaDoor.Lex Go.Proofs.YtkkmgahgejjhgaaDoorW.PrintWords Go.Proofs.YtkkmgahgejjhgaaDoorW.PrintLast Go.Proofs.YtkkmgahgejjhgaaDoorW.PrintMore
set_option linter.unusedVariables false
set_option linter.unusedSimpArgs false
theorem head_of {w : World} {base L n cap : Nat} {hs : List Hd} {X : Value} (h : Kd.R sl 28 w base (fun _ => True) (.slice (some ⟨L, 0, none⟩) (n + 1) cap) hs) (hx : hv hs n = X) : w.cell? ⟨L, n, none⟩ = some X := by
  have hcn := Kd.R_celln (enc := slv) (h1 := fun _ => rfl) (none, 0, 0) h (n : Int) (by omega) (by omega)
  rw [Int.toNat_natCast, ← hv_rd, hx] at hcn
  exact hcn.1
theorem head_fz {w : World} {base L n cap : Nat} {hs : List Hd} (h : Kd.R sl 28 w base (fun _ => True) (.slice (some ⟨L, 0, none⟩) (n + 1) cap) hs) : w.frozen? ⟨L, n, none⟩ = false := by
  have hcn := Kd.R_celln (enc := slv) (h1 := fun _ => rfl) (none, 0, 0) h (n : Int) (by omega) (by omega)
  rw [Int.toNat_natCast] at hcn
  exact hcn.2
theorem tok_s {w : World} {base gt n c : Nat} {tl : List S63} (h : Kd.R k63 63 w base (fun _ => True) (.slice (some ⟨gt, 0, none⟩) n c) tl) (i : Nat) (hi : i < n) {t : S63} (ht : tl.getD i z63 = t) : w.cell? ⟨gt, i * 4 + 3, none⟩ = some (.string t.f3) := (tok_at h i hi ht).2.2.2
theorem tok_n {w : World} {base gt n c : Nat} {tl : List S63} (h : Kd.R k63 63 w base (fun _ => True) (.slice (some ⟨gt, 0, none⟩) n c) tl) (i : Nat) (hi : i < n) {t : S63} (ht : tl.getD i z63 = t) : w.cell? ⟨gt, i * 4 + 1, none⟩ = some (.int .i64 t.f1) := (tok_at h i hi ht).2.1
theorem Stk.top_row {w : World} {base : Nat} {V : Value} {hs : List Hd} {st : List (List S42)} {top : List S42} {X : Value} (h : Stk w base V hs (rws st top)) (hx : hv hs st.length = X) : Kd.R k42 42 w base (Apt hs st.length) X top := by
  have := h.row st.length (by rw [rws_len]; omega)
  rwa [rws_top, hx] at this
/-- The last element of a row, a zero, is written. -/
theorem elem_cells {w : World} {base g7 c7 : Nat} {ok : Nat → Prop} {xs : List S42} (h : Kd.R k42 42 w base ok (.slice (some ⟨g7, 0, none⟩) (xs.length + 1) c7) (xs ++ [z42])) :
    ∃ y0 y1 y2 y3, w.cell? ⟨g7, xs.length * 4, none⟩ = some y0 ∧ w.cell? ⟨g7, xs.length * 4 + 1, none⟩ = some y1 ∧ w.cell? ⟨g7, xs.length * 4 + 2, none⟩ = some y2 ∧ w.cell? ⟨g7, xs.length * 4 + 3, none⟩ = some y3 ∧ (∀ j, w.frozen? ⟨g7, xs.length * 4 + j, none⟩ = false) := by
  obtain ⟨c, hc1, -, hc3, hf⟩ := Kd.R_elem h z42 (xs.length : Int) (by omega) (by omega)
  have hc1' : c.length = 4 := hc1
  rw [Int.toNat_natCast] at hc3 hf
  match c, hc1' with
  | [y0, y1, y2, y3], _ => exact ⟨y0, y1, y2, y3, hc3 0 _ rfl, hc3 1 _ rfl, hc3 2 _ rfl, hc3 3 _ rfl, hf⟩
theorem elem_put {w : World} {base g7 c7 : Nat} {ok : Nat → Prop} {xs : List S42} (h : Kd.R k42 42 w base ok (.slice (some ⟨g7, 0, none⟩) (xs.length + 1) c7) (xs ++ [z42])) (k z : Int) (s : ByteArray) :
    Kd.R k42 42 ((((w.setCell ⟨g7, xs.length * 4, none⟩ (.int .i64 k)).setCell ⟨g7, xs.length * 4 + 1, none⟩ (.int .i64 z)).setCell ⟨g7, xs.length * 4 + 2, none⟩ (.string s)).setCell ⟨g7, xs.length * 4 + 3, none⟩ (.slice none 0 0)) base ok (.slice (some ⟨g7, 0, none⟩) (xs.length + 1) c7) (xs ++ [⟨k, z, s, []⟩]) ∧ w.grownBy ((((w.setCell ⟨g7, xs.length * 4, none⟩ (.int .i64 k)).setCell ⟨g7, xs.length * 4 + 1, none⟩ (.int .i64 z)).setCell ⟨g7, xs.length * 4 + 2, none⟩ (.string s)).setCell ⟨g7, xs.length * 4 + 3, none⟩ (.slice none 0 0)) (some g7) := by
  obtain ⟨c, hc1, -, hc3, hf⟩ := Kd.R_elem h z42 (xs.length : Int) (by omega) (by omega)
  have hc1' : c.length = 4 := hc1
  have := Kd.R_seg h (xs.length : Int) (by omega) (by omega) (c := c) (seg := [.int .i64 k, .int .i64 z, .string s, .slice none 0 0]) (j := 0) (x' := ⟨k, z, s, []⟩) (okp := fun _ => False) hc1 hc3 (by rw [show k42.sz = 4 from rfl]; simp) (by rw [List.take_zero, List.nil_append, List.drop_eq_nil_of_le (by rw [hc1']; simp), List.append_nil]; exact k42_mkM _ _ _ (⟨k, z, s, []⟩ : S42) (Kd.R_nil _ _ _ _ _)) (fun _ hk => hk.elim)
  rw [Int.toNat_natCast, show k42.sz = 4 from rfl, Nat.add_zero] at this
  have ef : (xs ++ [z42]).set xs.length (⟨k, z, s, []⟩ : S42) = xs ++ [⟨k, z, s, []⟩] := by rw [List.set_append_right _ _ (Nat.le_refl _)]; simp
  rw [ef] at this
  exact this
theorem grown_more {w w1 w2 : World} {row : Option Nat} {g7 : Nat} (h : w.grownBy w1 row) (h2 : w1.grownBy w2 (some g7)) (hat : row = some g7 ∨ w.heap.size ≤ g7) : w.grownBy w2 row :=
  ⟨h2.os.trans h.os, h2.tape.trans h.tape, h2.output.trans h.output, Nat.le_trans h.size h2.size, fun k hk hne => (h2.block k (Nat.lt_of_lt_of_le hk h.size) (fun e => by
    injection e with e
    subst e
    rcases hat with hat | hat
    · exact hne hat.symm
    · omega)).trans (h.block k hk hne)⟩
/-- A form of no list of its own is put behind the others: in either order of the two stores. -/
theorem put_ab {w0 w w1 : World} {base L n cap g7 c7 : Nat} {hs : List Hd} {rows : List (List S42)} {xs : List S42} (h : Stk w base (.slice (some ⟨L, 0, none⟩) (n + 1) cap) hs rows) (hn : n < rows.length) (ho : Kd.R k42 42 w1 base (Apt hs n) (.slice (some ⟨g7, 0, none⟩) (xs.length + 1) c7) (xs ++ [z42])) (hb : Below base w0 w1) (hg : w.grownBy w1 (hv hs n).ownBlock) (hat : (Value.slice (some ⟨g7, 0, none⟩) (xs.length + 1) c7).ownBlock = (hv hs n).ownBlock ∨ ∃ b, (Value.slice (some ⟨g7, 0, none⟩) (xs.length + 1) c7).ownBlock = some b ∧ w.heap.size ≤ b) (k z : Int) (s : ByteArray) {w2 : World}
    (hw : w2 = ((((w1.setCell ⟨g7, xs.length * 4, none⟩ (.int .i64 k)).setCell ⟨g7, xs.length * 4 + 1, none⟩ (.int .i64 z)).setCell ⟨g7, xs.length * 4 + 2, none⟩ (.string s)).setCell ⟨g7, xs.length * 4 + 3, none⟩ (.slice none 0 0))) :
    w2.cell? ⟨L, n, none⟩ = some (hv hs n) ∧ w2.frozen? ⟨L, n, none⟩ = false ∧ (∃ hs', Stk (w2.setCell ⟨L, n, none⟩ (.slice (some ⟨g7, 0, none⟩) (xs.length + 1) c7)) base (.slice (some ⟨L, 0, none⟩) (n + 1) cap) hs' (rows.set n (xs ++ [⟨k, z, s, []⟩]))) ∧ Below base w0 (w2.setCell ⟨L, n, none⟩ (.slice (some ⟨g7, 0, none⟩) (xs.length + 1) c7)) ∧ KT w (w2.setCell ⟨L, n, none⟩ (.slice (some ⟨g7, 0, none⟩) (xs.length + 1) c7)) := by
  obtain ⟨h1, h2⟩ := elem_put ho k z s
  rw [← hw] at h1 h2
  have e7 : (Value.slice (some ⟨g7, 0, none⟩) (xs.length + 1) c7).ownBlock = some g7 := rfl
  have hat' : (hv hs n).ownBlock = some g7 ∨ w.heap.size ≤ g7 := by
    rcases hat with hat | ⟨b, hb1, hb2⟩
    · exact .inl (hat.symm.trans rfl)
    · rw [e7] at hb1
      injection hb1 with hb1
      exact .inr (by omega)
  have hg2 := grown_more hg h2 hat'
  have hm := h.mid hn (x1 := (some ⟨g7, 0, none⟩, xs.length + 1, c7)) h1 hg2 hat
  have hgb : base ≤ g7 := Kd.R_base ho g7 rfl
  have hb2 : Below base w0 w2 := by
    rw [hw]
    exact Below.setCell (p := ⟨g7, xs.length * 4 + 3, none⟩) (Below.setCell (p := ⟨g7, xs.length * 4 + 2, none⟩) (Below.setCell (p := ⟨g7, xs.length * 4 + 1, none⟩) (Below.setCell (p := ⟨g7, xs.length * 4, none⟩) hb hgb _) hgb _) hgb _) hgb _
  have hLb : base ≤ L := Kd.R_base hm.1 L rfl
  obtain ⟨cl, hL⟩ := Kd.R_typed hm.1 L rfl
  exact ⟨head_of hm.1 rfl, head_fz hm.1, ⟨_, h.put hn (x1 := (some ⟨g7, 0, none⟩, xs.length + 1, c7)) h1 hg2 hat rfl⟩, Below.setCell (p := ⟨L, n, none⟩) hb2 hLb _, (KT.of_grown hg2 (by decide) (Kd.R_typed (h.row n hn))).trans (KT.set hL (by decide) _ _)⟩
theorem put_ba {w0 w w1 : World} {base L n cap g7 c7 : Nat} {hs : List Hd} {rows : List (List S42)} {xs : List S42} (h : Stk w base (.slice (some ⟨L, 0, none⟩) (n + 1) cap) hs rows) (hn : n < rows.length) (ho : Kd.R k42 42 w1 base (Apt hs n) (.slice (some ⟨g7, 0, none⟩) (xs.length + 1) c7) (xs ++ [z42])) (hb : Below base w0 w1) (hg : w.grownBy w1 (hv hs n).ownBlock) (hat : (Value.slice (some ⟨g7, 0, none⟩) (xs.length + 1) c7).ownBlock = (hv hs n).ownBlock ∨ ∃ b, (Value.slice (some ⟨g7, 0, none⟩) (xs.length + 1) c7).ownBlock = some b ∧ w.heap.size ≤ b) (k z : Int) (s : ByteArray) {w2 : World}
    (hw : w2 = w1.setCell ⟨L, n, none⟩ (.slice (some ⟨g7, 0, none⟩) (xs.length + 1) c7)) :
    (∃ y0 y1 y2 y3, w2.cell? ⟨g7, xs.length * 4, none⟩ = some y0 ∧ w2.cell? ⟨g7, xs.length * 4 + 1, none⟩ = some y1 ∧ w2.cell? ⟨g7, xs.length * 4 + 2, none⟩ = some y2 ∧ w2.cell? ⟨g7, xs.length * 4 + 3, none⟩ = some y3 ∧ (∀ j, w2.frozen? ⟨g7, xs.length * 4 + j, none⟩ = false)) ∧
    (∃ hs', Stk ((((w2.setCell ⟨g7, xs.length * 4, none⟩ (.int .i64 k)).setCell ⟨g7, xs.length * 4 + 1, none⟩ (.int .i64 z)).setCell ⟨g7, xs.length * 4 + 2, none⟩ (.string s)).setCell ⟨g7, xs.length * 4 + 3, none⟩ (.slice none 0 0)) base (.slice (some ⟨L, 0, none⟩) (n + 1) cap) hs' (rows.set n (xs ++ [⟨k, z, s, []⟩]))) ∧ Below base w0 ((((w2.setCell ⟨g7, xs.length * 4, none⟩ (.int .i64 k)).setCell ⟨g7, xs.length * 4 + 1, none⟩ (.int .i64 z)).setCell ⟨g7, xs.length * 4 + 2, none⟩ (.string s)).setCell ⟨g7, xs.length * 4 + 3, none⟩ (.slice none 0 0)) ∧ KT w ((((w2.setCell ⟨g7, xs.length * 4, none⟩ (.int .i64 k)).setCell ⟨g7, xs.length * 4 + 1, none⟩ (.int .i64 z)).setCell ⟨g7, xs.length * 4 + 2, none⟩ (.string s)).setCell ⟨g7, xs.length * 4 + 3, none⟩ (.slice none 0 0)) := by
  have hl : n < hs.length := by rw [h.len]; exact hn
  have hm := h.mid hn (x1 := (some ⟨g7, 0, none⟩, xs.length + 1, c7)) ho hg hat
  have hp := h.put hn (x1 := (some ⟨g7, 0, none⟩, xs.length + 1, c7)) ho hg hat rfl
  have hgb : base ≤ g7 := Kd.R_base ho g7 rfl
  have hLb : base ≤ L := Kd.R_base hm.1 L rfl
  obtain ⟨cl, hL⟩ := Kd.R_typed hm.1 L rfl
  rw [show w1.setCell ⟨L, n, none⟩ (slv (some ⟨g7, 0, none⟩, xs.length + 1, c7)) = w2 from hw.symm] at hp
  have hr := hp.row n (by rw [List.length_set]; exact hn)
  rw [hv_set_same hl, getD_set_same hn] at hr
  obtain ⟨h1, h2⟩ := elem_put hr k z s
  have h3 := hp.grow (n := n) (by rw [List.length_set]; exact hn) (by rw [hv_set_same hl]; exact h1) (by rw [hv_set_same hl]; exact h2)
  rw [List.set_set] at h3
  have hb2 : Below base w0 w2 := by
    rw [hw]
    exact Below.setCell (p := ⟨L, n, none⟩) hb hLb _
  have hk2 : KT w w2 := by
    rw [hw]
    exact (KT.of_grown hg (by decide) (Kd.R_typed (h.row n hn))).trans (KT.set hL (by decide) _ _)
  exact ⟨elem_cells hr, ⟨_, h3⟩, Below.setCell (p := ⟨g7, xs.length * 4 + 3, none⟩) (Below.setCell (p := ⟨g7, xs.length * 4 + 2, none⟩) (Below.setCell (p := ⟨g7, xs.length * 4 + 1, none⟩) (Below.setCell (p := ⟨g7, xs.length * 4, none⟩) hb2 hgb _) hgb _) hgb _) hgb _,
    hk2.trans (KT.of_grown h2 (t := 42) (by decide) (fun k hk => by
      injection hk with hk
      subst hk
      exact Kd.R_typed hr _ rfl))⟩
theorem twoL_ {P : Program} {md : Region.Mode} {ops : Array Oper} {Q : Exit → Act → World → Prop} {S : World → Prop} {ds : List Nat} {i j : Nat} {Ni Nj : Option Tmp} {oi oj : Oper} {fuel : Nat} {l : Array Bool} {a : Act} {w : World} (li lj : Array Bool) (hi : ops[i]? = some oi) (hj : ops[j]? = some oj) (hNi : oi.dst = Ni) (hNj : oj.dst = Nj)
    (hc : (Region.ready md ops l == [i, j] && l.setIfInBounds i true == li && l.setIfInBounds j true == lj) = true) (hdi : i ∈ ds) (hdj : j ∈ ds)
    (h1 : ∀ K : Act → World → Prop, Shut (∀ a' w', wpAnyLast P md ops Q S ds fuel li a' w' → K a' w') → if Region.wanted oi (yielded ops a.tmps) = true then Oper.wp P oi a w K Q else K (a.put Ni undef) w)
    (h2 : ∀ K : Act → World → Prop, Shut (∀ a' w', wpAnyLast P md ops Q S ds fuel lj a' w' → K a' w') → if Region.wanted oj (yielded ops a.tmps) = true then Oper.wp P oj a w K Q else K (a.put Nj undef) w) :
    wpAnyLast P md ops Q S ds (fuel + 1) l a w := by
  subst hNi
  subst hNj
  simp only [Bool.and_eq_true, beq_iff_eq] at hc
  obtain ⟨⟨h3, h4⟩, h5⟩ := hc
  subst h4
  subst h5
  exact wpAnyLast_ready h3 (by simp) (AllReadyL.cons_last hi hdi (fun K hK => h1 K hK) (AllReadyL.cons_last hj hdj (fun K hK => h2 K hK) AllReadyL.nil))
def rp14.T13 : Bool × List (List Nat × List Nat) := (true, [([], []), ([], []), ([0, 1], [0, 1]), ([2], [2]), ([3], [3]), ([], []), ([4, 5, 0, 1, 2, 3, 4, 5], [4]), ([6, 0, 1, 2, 3, 4, 5, 6], [])])
def rp14.B13 : List Nat := [0, 0, 3, 7, 15, 0, 63, 127]
theorem rp14.tab13 : rtab .any (opsOf Tryd.f14 13) = rp14.T13 := by kernel_rfl
theorem rp14.bits13 : waitsOk rp14.T13.2 rp14.B13 = true := by kernel_rfl
def rp14.T17 : Bool × List (List Nat × List Nat) := (true, [([], []), ([], []), ([0, 1], [0, 1]), ([2], [2]), ([3], [3]), ([], []), ([4, 5, 0, 1, 2, 3, 4, 5], [4]), ([6, 0, 1, 2, 3, 4, 5, 6], [])])
def rp14.B17 : List Nat := [0, 0, 3, 7, 15, 0, 63, 127]
theorem rp14.tab17 : rtab .any (opsOf Tryd.f14 17) = rp14.T17 := by kernel_rfl
theorem rp14.bits17 : waitsOk rp14.T17.2 rp14.B17 = true := by kernel_rfl
def rp14.T20 : Bool × List (List Nat × List Nat) := (true, [([], []), ([0], [0]), ([0], [0]), ([0, 0, 1, 2], [0])])
def rp14.B20 : List Nat := [0, 1, 1, 7]
theorem rp14.tab20 : rtab .any (opsOf Tryd.f14 20) = rp14.T20 := by kernel_rfl
theorem rp14.bits20 : waitsOk rp14.T20.2 rp14.B20 = true := by kernel_rfl
def rp14.T21 : Bool × List (List Nat × List Nat) := (true, [([], []), ([], []), ([1], [1]), ([], []), ([], []), ([4], [4]), ([3, 5], [3, 5]), ([6], [6]), ([], []), ([7], [7]), ([], []), ([7, 10, 0, 1, 2, 3, 4, 5, 6, 7, 8, 9, 10], [7, 10]), ([0, 2, 0, 1, 2, 3, 4, 5, 6, 7, 8, 9, 10, 11], [0, 2]), ([12, 11, 11, 0, 1, 2, 3, 4, 5, 6, 7, 8, 9, 10, 11], [11, 12])])
def rp14.B21 : List Nat := [0, 0, 2, 0, 0, 16, 56, 120, 0, 248, 0, 2047, 4095, 8191]
theorem rp14.tab21 : rtab .any (opsOf Tryd.f14 21) = rp14.T21 := by kernel_rfl
theorem rp14.bits21 : waitsOk rp14.T21.2 rp14.B21 = true := by kernel_rfl
def rp14.T23 : Bool × List (List Nat × List Nat) := (true, [([], []), ([], []), ([1], [1]), ([], []), ([], []), ([4], [4]), ([3, 5], [3, 5]), ([6], [6]), ([], []), ([8], [8]), ([7, 9], [7, 9]), ([0, 2, 0, 1, 2, 3, 4, 5, 6, 7, 8, 9, 10], [0, 2]), ([11, 10, 10, 0, 1, 2, 3, 4, 5, 6, 7, 8, 9, 10], [10, 11])])
def rp14.B23 : List Nat := [0, 0, 2, 0, 0, 16, 56, 120, 0, 256, 1016, 2047, 4095]
theorem rp14.tab23 : rtab .any (opsOf Tryd.f14 23) = rp14.T23 := by kernel_rfl
theorem rp14.bits23 : waitsOk rp14.T23.2 rp14.B23 = true := by kernel_rfl
def rp14.T25 : Bool × List (List Nat × List Nat) := (true, [([], []), ([], []), ([0, 1], [0, 1]), ([2], [2]), ([], []), ([], []), ([4, 5], [4, 5]), ([6], [6]), ([7], [7]), ([8], [8]), ([3], [3]), ([], []), ([3, 11, 0, 1, 2, 3, 4, 5, 6, 7, 8, 9, 10, 11], [3, 11]), ([12, 10, 0, 1, 2, 3, 4, 5, 6, 7, 8, 9, 10, 11, 12], [10, 12]), ([13, 9, 12, 0, 1, 2, 3, 4, 5, 6, 7, 8, 9, 10, 11, 12], [9, 13]), ([0, 1, 0, 1, 2, 3, 4, 5, 6, 7, 8, 9, 10, 11, 12], [0, 1]), ([15, 12, 12, 0, 1, 2, 3, 4, 5, 6, 7, 8, 9, 10, 11, 12], [12, 15])])
def rp14.B25 : List Nat := [0, 0, 3, 7, 0, 0, 48, 112, 240, 496, 15, 0, 4095, 8191, 16383, 8191, 40959]
theorem rp14.tab25 : rtab .any (opsOf Tryd.f14 25) = rp14.T25 := by kernel_rfl
theorem rp14.bits25 : waitsOk rp14.T25.2 rp14.B25 = true := by kernel_rfl
def rp14.T10 : Bool × List (List Nat × List Nat) := (true, [([], []), ([], []), ([0, 1], [0, 1]), ([2], [2]), ([], []), ([], []), ([4, 5], [4, 5]), ([6], [6]), ([7], [7]), ([8], [8]), ([3], [3]), ([], []), ([3, 11, 0, 1, 2, 3, 4, 5, 6, 7, 8, 9, 10, 11], [3, 11]), ([12, 10, 0, 1, 2, 3, 4, 5, 6, 7, 8, 9, 10, 11, 12], [10, 12]), ([13, 9, 12, 0, 1, 2, 3, 4, 5, 6, 7, 8, 9, 10, 11, 12], [9, 13]), ([0, 1, 0, 1, 2, 3, 4, 5, 6, 7, 8, 9, 10, 11, 12], [0, 1]), ([15, 12, 12, 0, 1, 2, 3, 4, 5, 6, 7, 8, 9, 10, 11, 12], [12, 15])])
def rp14.B10 : List Nat := [0, 0, 3, 7, 0, 0, 48, 112, 240, 496, 15, 0, 4095, 8191, 16383, 8191, 40959]
theorem rp14.tab10 : rtab .any (opsOf Tryd.f14 10) = rp14.T10 := by kernel_rfl
theorem rp14.bits10 : waitsOk rp14.T10.2 rp14.B10 = true := by kernel_rfl
set_option maxHeartbeats 8000000 in
set_option maxRecDepth 100000 in
theorem rparse14 (s : ByteArray) (w : World) : Calls Tryd.prog 14 #[.string s] w fun e w' => ∃ v, e = .returned (.tuple #[v, .int .i64 (fparse s).2.1, .int .i64 (fparse s).2.2]) ∧ Kd.R k42 42 w' w.heap.size (fun _ => True) v (fparse s).1 ∧ Below w.heap.size w w' := by
  have hu63 := Tryd.underlying63
  have hu53 := Tryd.underlying53
  have hu57 := Tryd.underlying57
  have hu42 := Tryd.underlying42
  have hu28 := Tryd.underlying28
  have TK := tokens11 s
  obtain ⟨ts, hts⟩ : ∃ r, r = tokens (lst s) := ⟨_, rfl⟩
  have TA := tokens_all (lst s)
  rw [← hts] at TK TA
  obtain ⟨r, hr⟩ : ∃ r, r = fparse s := ⟨_, rfl⟩
  have FP : fparse s = (if ts.2.2 = 0 then frun ts.1 [] [] s.size else ([], ts.2.1, ts.2.2)) := by rw [hts]; rfl
  rw [← hr] at FP ⊢
  obtain ⟨r1, r2, r3⟩ := r
  obtain ⟨tl, ta, te⟩ := ts
  clear hts hr
  simp only [] at TK TA FP
  have TK_ := Aside0.mk TK
  clear TK
  by_cases he : te = 0
  · subst he
    rw [if_pos rfl] at FP
    have FP_ := Aside0.mk FP
    have TA_ := Aside0.mk TA
    clear FP TA
    go_enter Tryd.func14, Tryd.ntmps14
    go_wp2_with (first | (go_at_call 30; refine (TK_.out _).mono ?_; rintro e w1 ⟨v1, rfl, hR, hb⟩; obtain ⟨A1, c1, rfl, hc1, hC⟩ := Kd.R_reads hR; have R1 := Aside0.mk hR; have B1 := Aside0.mk hb; clear hR hb hC hc1) | ((with_reducible refine gate_dst (N := 22) rfl ?_); refine Kd.R_lit sl (w0 := w) w.heap.size 28 ?hg (N := 22) ?hd (xs := [(none, 0, 0)]) (inner := [.slice none 0 0]) (ok := fun _ => True) (okp := fun _ => True) ?hr ?hp (fun _ h => h) trivial B1.out B1.out.size (by simp) ?_; (case hd => rfl); (case hg => rfl); (case hr => first | (go_simp; done) | (go_simp; rfl)); (case hp => exact ⟨rfl, fun j p hj => by cases j with | zero => simp at hj; subst hj; rfl | succ j => simp at hj⟩); intro v2 w2 ho hb hg _; obtain ⟨L, cap, e2, _, _, _⟩ := Kd.R_form ho (by decide); replace e2 : v2 = .slice (some ⟨L, 0, none⟩) 1 cap := e2; subst e2; have S2 := Aside0.mk (stk_one ho); have B2 := Aside0.mk hb; have R2 := Aside0.mk (R_KT R1.out (KT.of_grown hg (t := 0) (by decide) (fun _ hk => by cases hk))); clear ho hb hg))
    go_loopw [8, 9] (fun v8 v9 w' => ∃ (i : Nat) (st : List (List S42)) (top : List S42), v9 = .int .i64 i ∧ Aside0 (i ≤ tl.length ∧ Lens i st top ∧ frun (tl.drop i) st top s.size = (r1, r2, r3)) ∧ Aside0 (∃ hs, Stk w' w.heap.size v8 hs (rws st top)) ∧ Aside0 (Below w.heap.size w w') ∧ Aside0 (Kd.R k63 63 w' w.heap.size (fun _ => True) (.slice A1 tl.length c1) tl)) (fun _ v9 _ => tl.length - (intOf v9).toNat)
    case atStart => exact ⟨0, [], [], rfl, ⟨Nat.zero_le _, ⟨Nat.le_refl _, Nat.le_refl _, by simp⟩, FP_.out.symm⟩, ⟨_, S2.out⟩, B2, R2⟩
    case round =>
      obtain ⟨i, st, top, rfl, HI, S4, B4, R4⟩ := hrel
      clear S2 B2 R2
      obtain ⟨hi, hlen, hF⟩ := HI.out
      have hst : st.length ≤ 4000 := Nat.le_trans hlen.1 (Nat.le_trans hi TA_.out.2)
      have htp : top.length ≤ 4000 := Nat.le_trans hlen.2.1 (Nat.le_trans hi TA_.out.2)
      have HL := Aside0.mk hlen
      have HST := Aside0.mk hst
      have HTP := Aside0.mk htp
      have V1 := Aside0.mk (show wrap64 ((i : Int) + 1) = ((i + 1 : Nat) : Int) by have := TA_.out.2; unfold wrap64; omega)
      have V2 := Aside0.mk (show wrap64 (st.length : Int) = (st.length : Int) by unfold wrap64; omega)
      obtain ⟨hs, hS⟩ := S4.out
      obtain ⟨L4, cap4, rfl, _, _, _⟩ := hS.form (by rw [rws_len]; omega)
      rw [rws_len] at hS ⊢
      have SS := Aside0.mk hS
      clear S4
      by_cases hlt : i < tl.length
      · obtain ⟨gt, cap_, e1, _, _, _⟩ := Kd.R_form R4.out (by omega)
        have eA : A1 = some ⟨gt, 0, none⟩ := by injection e1
        subst eA
        obtain ⟨t, ht⟩ : ∃ t, t = tl.getD i z63 := ⟨_, rfl⟩
        have hcell := tok_at R4.out i hlt ht.symm
        have hk := TA_.out.1 _ (getD_mem hlt)
        have HTL := Aside0.mk ht.symm
        rw [drop_getD hlt, ← ht] at hF
        rw [← ht] at hk
        obtain ⟨t0, t1, t2, t3⟩ := t
        simp only [] at hcell hk
        obtain ⟨k0, k1, k2, k3⟩ := hcell
        have HLT := Aside0.mk hlt
        have c1b : ((i : Int) < (tl.length : Int)) = True := eq_true (by omega)
        have c2b : decide ((i : Int) < (tl.length : Int)) = true := decide_eq_true (by omega)
        have c3b : (i < tl.length) = True := eq_true hlt
        have c4b : ((st.length : Int) < (st.length : Int) + 1) = True := eq_true (by omega)
        clear e1 ht hi hlen hlt hS
        rcases hk with rfl | rfl | rfl | rfl
        · rw [frun_1 rfl] at hF
          by_cases h30 : st.length < 30
          · rw [if_pos h30] at hF
            have HF := Aside0.mk hF
            have c5b : decide (30 ≤ (st.length : Int)) = false := decide_eq_false (by omega)
            have c6b : decide (30 ≤ st.length) = false := decide_eq_false (by omega)
            clear hF h30 hst htp
            go_wp2_with (first | (rw [V1.out]) | (rw [V2.out]) | ((with_reducible refine gate_builtin (b := .append) (xs := #[.tmp 61, .tmp 62]) rfl ?_); at_builtin; refine Kd.R_append sl (w0 := w) w.heap.size rfl (.tmp 61) (.tmp 62) 57 28 (.slice none 0 0) 24 rfl Tryd.underlying57 info28 rfl (by decide) (by omega) (.slice (some ⟨L4, 0, none⟩) (st.length + 1) cap4) hs (none, 0, 0) [.slice none 0 0] (fun _ => True) (fun k => some k ≠ (Value.slice (some ⟨L4, 0, none⟩) (st.length + 1) cap4).ownBlock) rfl rfl rfl (fun _ hk => ⟨trivial, hk⟩) (fun _ _ => trivial) SS.out.out B4.out B4.out.size ?aL ?_; (case aL => have := HST.out; have := SS.out.len; rw [rws_len] at this; omega); intro v8 w8 ho hb hg hat; have S8 := Aside0.mk (SS.out.push ho hg); have B8 := Aside0.mk hb; have R8 := Aside0.mk (R_KT R4.out (KT.of_grown hg (by decide) (Kd.R_typed SS.out.out))); clear ho hb hg hat))
            have h1_ := HL.out
            have h2_ := HLT.out
            refine ⟨⟨i + 1, top :: st, [], rfl, ⟨by omega, h1_.open_, HF.out⟩, ⟨_, by rw [← rws_open]; exact S8.out⟩, B8, R8⟩, ?_⟩
            simp only [intOf, Int.toNat_natCast]
            omega
          · rw [if_neg h30] at hF
            simp only [Prod.mk.injEq] at hF
            obtain ⟨rfl, rfl, rfl⟩ := hF
            have c5b : decide (30 ≤ (st.length : Int)) = true := decide_eq_true (by omega)
            have c6b : decide (30 ≤ st.length) = true := decide_eq_true (by omega)
            clear h30 hst htp
            go_wp2_with (first | (rw [V1.out]) | (rw [V2.out]))
            refine start_ (n := 8) (S := fun w' => w'.cell? ⟨gt, i * 4 + 2, none⟩ = some (.int .i64 t2)) (ds := []) #[false, false, false, false, false, false, false, false] (by kernel_rfl) rfl rfl k2 (fun hHeld => ?_)
            refine with_tabW rp14.tab13 rp14.bits13 (fun HT_ HW_ => ?_)
            generalize hwd : wr.drew = wd at hHeld ⊢
            have BD : Below w.heap.size w wd := by rw [← hwd]; exact below_drew1 B4.out
            refine pure_ (i := 0) (N := (some 56)) (v := ?_) (a' := ?_) #[true, false, false, false, false, false, false, false] rfl rfl (any_of HT_.out (by kernel_rfl)) (fun _ _ _ h => h) (Or.inl ⟨by rfl, ?_⟩) ?_ ?_
            rotate_left
            · intro w'
              go_simp
              try with_reducible rfl
            rotate_left
            · simp only [Act.put, List.setIfInBounds_toArray, List.set_cons_zero, List.set_cons_succ, i64_w, i32_w, u8_w, u32_w]
              rfl
            refine pure_ (i := 1) (N := (some 57)) (v := ?_) (a' := ?_) #[true, true, false, false, false, false, false, false] rfl rfl (any_of HT_.out (by kernel_rfl)) (fun _ _ _ h => h) (Or.inl ⟨by rfl, ?_⟩) ?_ ?_
            rotate_left
            · intro w'
              go_simp
              try with_reducible rfl
            rotate_left
            · simp only [Act.put, List.setIfInBounds_toArray, List.set_cons_zero, List.set_cons_succ, i64_w, i32_w, u8_w, u32_w]
              rfl
            refine pure_ (i := 2) (N := (some 58)) (v := ?_) (a' := ?_) #[true, true, true, false, false, false, false, false] rfl rfl (any_of HT_.out (by kernel_rfl)) (fun _ _ _ h => h) (Or.inl ⟨by rfl, ?_⟩) ?_ ?_
            rotate_left
            · intro w'
              go_simp
              try with_reducible rfl
            rotate_left
            · simp only [Act.put, List.setIfInBounds_toArray, List.set_cons_zero, List.set_cons_succ, i64_w, i32_w, u8_w, u32_w]
              rfl
            refine pure_ (i := 3) (N := (some 59)) (v := ?_) (a' := ?_) #[true, true, true, true, false, false, false, false] rfl rfl (any_of HT_.out (by kernel_rfl)) (fun _ _ _ h => h) (Or.inl ⟨by rfl, ?_⟩) ?_ ?_
            rotate_left
            · intro w'
              go_simp
              try with_reducible rfl
            rotate_left
            · simp only [Act.put, List.setIfInBounds_toArray, List.set_cons_zero, List.set_cons_succ, i64_w, i32_w, u8_w, u32_w]
              rfl
            refine take_ (i := 4) (N := (some 60)) (v := ?_) (a' := ?_) #[true, true, true, true, true, false, false, false] rfl rfl (take_ofW HT_.out HW_.out (by kernel_rfl)) (fun _ _ _ h => h) (Or.inl ⟨by rfl, ?_⟩) hHeld ?_ ?_
            rotate_left
            · rintro w' s0
              go_simp
              try with_reducible rfl
            rotate_left
            · simp only [Act.put, List.setIfInBounds_toArray, List.set_cons_zero, List.set_cons_succ, i64_w, i32_w, u8_w, u32_w]
              rfl
            refine pure_ (i := 5) (N := (some 2)) (v := ?_) (a' := ?_) #[true, true, true, true, true, true, false, false] rfl rfl (any_of HT_.out (by kernel_rfl)) (fun _ _ _ h => h) (Or.inl ⟨by rfl, ?_⟩) ?_ ?_
            rotate_left
            · intro w'
              go_simp
              try with_reducible rfl
            rotate_left
            · simp only [Act.put, List.setIfInBounds_toArray, List.set_cons_zero, List.set_cons_succ, i64_w, i32_w, u8_w, u32_w]
              rfl
            refine pure_ (i := 6) (N := (some 3)) (v := ?_) (a' := ?_) #[true, true, true, true, true, true, true, false] rfl rfl (any_of HT_.out (by kernel_rfl)) (fun _ _ _ h => h) (Or.inl ⟨by rfl, ?_⟩) ?_ ?_
            rotate_left
            · intro w'
              go_simp
              try with_reducible rfl
            rotate_left
            · simp only [Act.put, List.setIfInBounds_toArray, List.set_cons_zero, List.set_cons_succ, i64_w, i32_w, u8_w, u32_w]
              rfl
            refine pure_ (i := 7) (N := (some 4)) (v := ?_) (a' := ?_) #[true, true, true, true, true, true, true, true] rfl rfl (any_of HT_.out (by kernel_rfl)) (fun _ _ _ h => h) (Or.inl ⟨by rfl, ?_⟩) ?_ ?_
            rotate_left
            · intro w'
              go_simp
              try with_reducible rfl
            rotate_left
            · simp only [Act.put, List.setIfInBounds_toArray, List.set_cons_zero, List.set_cons_succ, i64_w, i32_w, u8_w, u32_w]
              rfl
            refine done_ (done_of HT_.out (by kernel_rfl)) ?_
            go_wp2
            refine bodyPost_ret (v := .tuple #[.slice none 0 0, .int .i64 t2, .int .i64 5]) (by simp [results, Tryd.results14, go_sem]) rfl ?_
            exact ⟨_, rfl, Kd.R_nil _ _ _ _ _, BD⟩
        · rw [frun_2 rfl] at hF
          cases st with
          | nil =>
            simp only [Prod.mk.injEq] at hF
            obtain ⟨rfl, rfl, rfl⟩ := hF
            clear hst htp
            go_wp2_with (first | (rw [V1.out]) | (rw [V2.out]))
            refine start_ (n := 8) (S := fun w' => w'.cell? ⟨gt, i * 4 + 2, none⟩ = some (.int .i64 t2)) (ds := []) #[false, false, false, false, false, false, false, false] (by kernel_rfl) rfl rfl k2 (fun hHeld => ?_)
            refine with_tabW rp14.tab17 rp14.bits17 (fun HT_ HW_ => ?_)
            generalize hwd : wr.drew = wd at hHeld ⊢
            have BD : Below w.heap.size w wd := by rw [← hwd]; exact below_drew1 B4.out
            refine pure_ (i := 0) (N := (some 68)) (v := ?_) (a' := ?_) #[true, false, false, false, false, false, false, false] rfl rfl (any_of HT_.out (by kernel_rfl)) (fun _ _ _ h => h) (Or.inl ⟨by rfl, ?_⟩) ?_ ?_
            rotate_left
            · intro w'
              go_simp
              try with_reducible rfl
            rotate_left
            · simp only [Act.put, List.setIfInBounds_toArray, List.set_cons_zero, List.set_cons_succ, i64_w, i32_w, u8_w, u32_w]
              rfl
            refine pure_ (i := 1) (N := (some 69)) (v := ?_) (a' := ?_) #[true, true, false, false, false, false, false, false] rfl rfl (any_of HT_.out (by kernel_rfl)) (fun _ _ _ h => h) (Or.inl ⟨by rfl, ?_⟩) ?_ ?_
            rotate_left
            · intro w'
              go_simp
              try with_reducible rfl
            rotate_left
            · simp only [Act.put, List.setIfInBounds_toArray, List.set_cons_zero, List.set_cons_succ, i64_w, i32_w, u8_w, u32_w]
              rfl
            refine pure_ (i := 2) (N := (some 70)) (v := ?_) (a' := ?_) #[true, true, true, false, false, false, false, false] rfl rfl (any_of HT_.out (by kernel_rfl)) (fun _ _ _ h => h) (Or.inl ⟨by rfl, ?_⟩) ?_ ?_
            rotate_left
            · intro w'
              go_simp
              try with_reducible rfl
            rotate_left
            · simp only [Act.put, List.setIfInBounds_toArray, List.set_cons_zero, List.set_cons_succ, i64_w, i32_w, u8_w, u32_w]
              rfl
            refine pure_ (i := 3) (N := (some 71)) (v := ?_) (a' := ?_) #[true, true, true, true, false, false, false, false] rfl rfl (any_of HT_.out (by kernel_rfl)) (fun _ _ _ h => h) (Or.inl ⟨by rfl, ?_⟩) ?_ ?_
            rotate_left
            · intro w'
              go_simp
              try with_reducible rfl
            rotate_left
            · simp only [Act.put, List.setIfInBounds_toArray, List.set_cons_zero, List.set_cons_succ, i64_w, i32_w, u8_w, u32_w]
              rfl
            refine take_ (i := 4) (N := (some 72)) (v := ?_) (a' := ?_) #[true, true, true, true, true, false, false, false] rfl rfl (take_ofW HT_.out HW_.out (by kernel_rfl)) (fun _ _ _ h => h) (Or.inl ⟨by rfl, ?_⟩) hHeld ?_ ?_
            rotate_left
            · rintro w' s0
              go_simp
              try with_reducible rfl
            rotate_left
            · simp only [Act.put, List.setIfInBounds_toArray, List.set_cons_zero, List.set_cons_succ, i64_w, i32_w, u8_w, u32_w]
              rfl
            refine pure_ (i := 5) (N := (some 2)) (v := ?_) (a' := ?_) #[true, true, true, true, true, true, false, false] rfl rfl (any_of HT_.out (by kernel_rfl)) (fun _ _ _ h => h) (Or.inl ⟨by rfl, ?_⟩) ?_ ?_
            rotate_left
            · intro w'
              go_simp
              try with_reducible rfl
            rotate_left
            · simp only [Act.put, List.setIfInBounds_toArray, List.set_cons_zero, List.set_cons_succ, i64_w, i32_w, u8_w, u32_w]
              rfl
            refine pure_ (i := 6) (N := (some 3)) (v := ?_) (a' := ?_) #[true, true, true, true, true, true, true, false] rfl rfl (any_of HT_.out (by kernel_rfl)) (fun _ _ _ h => h) (Or.inl ⟨by rfl, ?_⟩) ?_ ?_
            rotate_left
            · intro w'
              go_simp
              try with_reducible rfl
            rotate_left
            · simp only [Act.put, List.setIfInBounds_toArray, List.set_cons_zero, List.set_cons_succ, i64_w, i32_w, u8_w, u32_w]
              rfl
            refine pure_ (i := 7) (N := (some 4)) (v := ?_) (a' := ?_) #[true, true, true, true, true, true, true, true] rfl rfl (any_of HT_.out (by kernel_rfl)) (fun _ _ _ h => h) (Or.inl ⟨by rfl, ?_⟩) ?_ ?_
            rotate_left
            · intro w'
              go_simp
              try with_reducible rfl
            rotate_left
            · simp only [Act.put, List.setIfInBounds_toArray, List.set_cons_zero, List.set_cons_succ, i64_w, i32_w, u8_w, u32_w]
              rfl
            refine done_ (done_of HT_.out (by kernel_rfl)) ?_
            go_wp2
            refine bodyPost_ret (v := .tuple #[.slice none 0 0, .int .i64 t2, .int .i64 7]) (by simp [results, Tryd.results14, go_sem]) rfl ?_
            exact ⟨_, rfl, Kd.R_nil _ _ _ _ _, BD⟩
          | cons p st' =>
            simp only [] at hF
            have HF := Aside0.mk hF
            have HP := Aside0.mk (show p.length ≤ 4000 from Nat.le_trans (HL.out.2.2 p (by simp)) (Nat.le_trans HI.out.1 TA_.out.2))
            clear hF hst htp
            obtain ⟨m, hm⟩ : ∃ m, m = st'.length := ⟨_, rfl⟩
            have HM := Aside0.mk hm
            have hm1 : (p :: st').length = m + 1 := by rw [List.length_cons, hm]
            have hsm := SS.out
            have hst2 := HST.out
            rw [hm1] at hsm hst2 ⊢
            clear SS c4b V2 HST
            have SS := Aside0.mk hsm
            have HST := Aside0.mk hst2
            have hrow := SS.out.row (m + 1) (by rw [rws_len, hm1]; omega)
            rw [← hm1, rws_top] at hrow
            rw [hm1] at hrow
            obtain ⟨Ax, cx, hx⟩ := Kd.R_slice hrow
            rw [hx] at hrow
            have RR := Aside0.mk hrow
            have k5 : wr.cell? ⟨L4, m + 1, none⟩ = some (.slice Ax top.length cx) := head_of SS.out.out hx
            have hlen2 : hs.length = m + 1 + 1 := by rw [SS.out.len, rws_len, hm1]
            have hcap : m + 1 + 1 ≤ cap4 := by
              obtain ⟨A, c, e, hle, _⟩ := Kd.R_reads SS.out.out
              injection e with _ e1 e2
              omega
            obtain ⟨f, hf⟩ : ∃ f, f = (⟨3, 0, ⟨#[]⟩, top⟩ : S42) := ⟨_, rfl⟩
            have FF := Aside0.mk hf
            obtain ⟨hs2, hh2⟩ : ∃ h, h = hs.take (m + 1) := ⟨_, rfl⟩
            have HH2 := Aside0.mk hh2
            have LEN2 := Aside0.mk (show hs2.length = m + 1 by rw [hh2, List.length_take, hlen2]; omega)
            obtain ⟨rows, hrs⟩ : ∃ r, r = rws st' p := ⟨_, rfl⟩
            have RS := Aside0.mk hrs
            have HN := Aside0.mk (show rows.length = m + 1 by rw [hrs, rws_len, hm])
            have XS := Aside0.mk (show p = rows.getD m [] by rw [hrs, hm, rws_top])
            have S2_ := Aside0.mk (show Stk wr w.heap.size (.slice (some ⟨L4, 0, none⟩) (m + 1) cap4) hs2 rows by
              have h_ := SS.out.pop (n := m + 1) (by rw [rws_len, hm1]; omega)
              rw [hh2, hrs]
              rw [show (rws (p :: st') top).take (m + 1) = rws st' p by rw [hm, rws_take]] at h_
              exact h_)
            have hAL := Aside0.mk (show ∀ k, Apt hs (m + 1) k → Alr hs2 k from by
              rintro k hk j hj
              rw [LEN2.out] at hj
              have e : hv hs2 j = hv hs j := by rw [hh2]; simp [hv, List.getD_eq_getElem?_getD, List.getElem?_take, hj]
              rw [e]
              exact hk j (by omega) (by omega))
            have HF2 := Aside0.mk (show Kd.R k42 42 wr w.heap.size (Alr hs2) (.slice Ax f.f3.length cx) f.f3 by rw [hf]; exact Kd.R_mono RR.out (fun k hk => hAL.out k hk))
            obtain ⟨x, hx2⟩ : ∃ x, x = rdOf (none, 0, 0) hs2 (m : Int) := ⟨_, rfl⟩
            obtain ⟨Ay, my, cy⟩ := x
            have hmy : my = p.length := by
              have h_ := S2_.out.row m (by rw [HN.out]; omega)
              rw [hv_rd, ← hx2, ← XS.out] at h_
              obtain ⟨A, c, e⟩ := Kd.R_slice h_
              injection e
            subst hmy
            have HX := Aside0.mk hx2
            have HV := Aside0.mk (show hv hs2 m = .slice Ay p.length cy by rw [hv_rd, ← hx2]; rfl)
            have OB : Aside0 (∃ (c : Array Value) (t : Nat), (.cells #[] 0 (0, 0) : Obj) = .cells c t (0, 0) ∧ t ≠ 42 ∧ t ≠ 28) := ⟨⟨_, 0, rfl, by decide, by decide⟩⟩
            have BS := Aside0.mk B4.out.size
            have V2 := Aside0.mk (show wrap64 ((m : Int) + 1) = (m : Int) + 1 by have := HST.out; unfold wrap64; omega)
            have V3 := Aside0.mk (show wrap64 (m : Int) = (m : Int) by have := HST.out; unfold wrap64; omega)
            have q0 : ((m : Int) + 1 = 0) = False := eq_false (by omega)
            have q0b : (((m : Int) + 1) == 0) = false := by rw [beq_eq_false_iff_ne]; omega
            have q1 : ((m : Int) + 1 < (m : Int) + 1 + 1) = True := eq_true (by omega)
            have q2 : (0 ≤ (m : Int) + 1) = True := eq_true (by omega)
            have q3 : ((m : Int) + 1 ≤ (cap4 : Int)) = True := eq_true (by omega)
            clear hrow hx hm hm1 hsm hst2 hcap hf hh2 hrs hx2 hlen2
            go_wp2_with (first | (rw [V2.out]) | (rw [V3.out]) | ((with_reducible refine gate_dst (N := 11) rfl ?_); refine box_event ?hg (N := 11) ?hd (cs := #[.int .i64 0, .int .i64 0, .string ⟨#[]⟩, .slice none 0 0]) (t := 42) ?hr ?_; (case hd => rfl); (case hg => rfl); (case hr => first | (go_simp; done) | (go_simp; rfl)); intro gf hgf x2 hbox hb; have KF := Aside0.mk hbox; have GF := Aside0.mk hgf; have BB2 := Aside0.mk hb; clear hbox hb hgf; have c0 : x2.cell? ⟨gf, 0, none⟩ = some (.int .i64 0) := (blk_cell KF.out 0).trans rfl; have c1 : x2.cell? ⟨gf, 1, none⟩ = some (.int .i64 0) := (blk_cell KF.out 1).trans rfl; have c2 : x2.cell? ⟨gf, 2, none⟩ = some (.string ⟨#[]⟩) := (blk_cell KF.out 2).trans rfl; have c3 : x2.cell? ⟨gf, 3, none⟩ = some (.slice none 0 0) := (blk_cell KF.out 3).trans rfl; have cf0 := blk_frozen KF.out 0; have cf1 := blk_frozen KF.out 1; have cf2 := blk_frozen KF.out 2; have cf3 := blk_frozen KF.out 3) | ((with_reducible refine gate_ (.store 42 (.tmp 11) (.tmp 77)) rfl ?_); refine store_event (w1 := ?inw) rfl rfl rfl ?hr ?_; (case hr => go_simp; rfl); intro x3 hw3; clear c0 c1 c2 c3 cf0 cf1 cf2 cf3 k5; have J1 : Aside0 (AF w wr w.heap.size L4 cap4 m none (.cells #[] 0 (0, 0)) f Ax cx gf hs2 rows x3) := Aside0.mk (by have F3 : x3.heap[gf]? = some (.cells #[.int .i64 3, .int .i64 0, .string ⟨#[]⟩, .slice Ax top.length cx] 42 (0, 0)) := (by rw [hw3]; exact (blk_put (cs := #[.int .i64 3, .int .i64 0, .string ⟨#[]⟩, .slice none 0 0]) (blk_put (cs := #[.int .i64 3, .int .i64 0, .string ⟨#[]⟩, .slice none 0 0]) (blk_put (cs := #[.int .i64 3, .int .i64 0, .string ⟨#[]⟩, .slice none 0 0]) (blk_put KF.out 0 (.int .i64 3) rfl) 1 (.int .i64 0) rfl) 2 (.string ⟨#[]⟩) rfl) 3 (.slice Ax top.length cx) rfl)); have B3 : Below wr.heap.size wr x3 := (by rw [hw3]; exact below_set (below_set (below_set (below_set BB2.out (Nat.le_of_eq GF.out.symm)) (Nat.le_of_eq GF.out.symm)) (Nat.le_of_eq GF.out.symm)) (Nat.le_of_eq GF.out.symm)); exact ⟨fun q hq => (by cases hq), (by rw [FF.out]; exact F3), S2_.out.below B3, Kd.R_below (Kd.R_elderB HF2.out gf (Nat.le_of_eq GF.out.symm)) B3, S2_.out.lt gf (Nat.le_of_eq GF.out.symm), B4.out.trans (B3.mono BS.out), KT.of_below B3, Nat.le_trans BS.out B3.size⟩); clear hw3 KF BB2))
            refine start_ (n := 4) (S := fun _ => True) (ds := []) #[false, false, false, false] (by kernel_rfl) rfl rfl trivial (fun hHeld => ?_)
            refine with_tabW rp14.tab20 rp14.bits20 (fun HT_ HW_ => ?_)
            have J2 := Aside0.mk (J1.out.below (w2 := x3.drew) (below_drew1 (Below.refl _ _)))
            clear J1
            generalize x3.drew = x2 at J2 ⊢
            refine one_ (i := 0) (N := (some 81)) #[true, false, false, false] rfl rfl (one_of HT_.out (by kernel_rfl)) (by decide) (fun K hK => ?_)
            refine box_step (by rfl) (N := 81) rfl (cs := #[.bool false]) (t := 4) ?hr ?_; (case hr => first | (go_simp; done) | (go_simp; rfl))
            intro gb hgb x3 hbox hb
            have J3 := Aside0.mk (J2.out.below hb)
            have KB := Aside0.mk hbox
            have HGB := Aside0.mk hgb
            have HB3 := Aside0.mk hb
            clear hbox hb hgb
            refine hK.out _ _ trivial (fun hHeld => ?_)
            clear hK K
            refine norm_ (a' := ?_) ?_ ?_
            rotate_left
            · show Act.put _ (some 81) _ = _
              simp only [Act.put, List.setIfInBounds_toArray, List.set_cons_zero, List.set_cons_succ, i64_w, i32_w, u8_w, u32_w]
              rfl
            refine join_ (σ := Bool) 1 #[true, true, true, false] (fun _ => []) (fun b w' => AF w wr w.heap.size L4 cap4 m none (.cells #[] 0 (0, 0)) f Ax cx gf hs2 rows w' ∧ w'.heap[gb]? = some (.cells #[.bool b] 4 (0, 0))) ?hcont (fun J => ?_)
            rotate_left
            · refine two_ (i := 1) (j := 2) (Ni := none) (Nj := none) #[true, true, false, false] #[true, false, true, false] rfl rfl rfl rfl (two_of HT_.out (by kernel_rfl)) (by decide) (by decide) (fun K hK => ?_) (fun K hK => ?_)
              · have hc0 : x3.cell? ⟨gb, 0, none⟩ = some (.bool false) := (blk_cell KB.out 0).trans rfl
                have hf0 := blk_frozen KB.out 0
                refine skip_ (w1 := ?_) (by rfl) rfl ?_ ?_
                rotate_left
                · go_simp
                  rfl
                refine hK.out _ _ trivial (fun _ => ?_)
                clear hK K
                have KB1 := Aside0.mk (blk_put KB.out 0 (.bool true) rfl)
                have AA1 := Aside0.mk (J2.out.below (w2 := x3.setCell ⟨gb, 0, none⟩ (.bool true)) (below_set HB3.out (Nat.le_of_eq HGB.out.symm)))
                have HB4 := Aside0.mk (below_set (v := .bool true) (j := 0) HB3.out (Nat.le_of_eq HGB.out.symm))
                clear hc0 hf0
                generalize x3.setCell ⟨gb, 0, none⟩ (.bool true) = x4 at KB1 AA1 HB4 ⊢
                have hc0 : x4.cell? ⟨gb, 0, none⟩ = some (.bool true) := (blk_cell KB1.out 0).trans rfl
                have hf0 := blk_frozen KB1.out 0
                refine one_ (i := 2) (N := none) #[true, true, true, false] rfl rfl (one_of HT_.out (by kernel_rfl)) (by decide) (fun K hK => ?_)
                refine skip_ (w1 := ?_) (by rfl) rfl ?_ ?_
                rotate_left
                · go_simp
                  rfl
                refine hK.out _ _ trivial (fun _ => ?_)
                clear hK K
                exact J false _ ⟨J2.out.below (below_set HB4.out (Nat.le_of_eq HGB.out.symm)), blk_put KB1.out 0 _ rfl⟩
              · have hc0 : x3.cell? ⟨gb, 0, none⟩ = some (.bool false) := (blk_cell KB.out 0).trans rfl
                have hf0 := blk_frozen KB.out 0
                refine skip_ (w1 := ?_) (by rfl) rfl ?_ ?_
                rotate_left
                · go_simp
                  rfl
                refine hK.out _ _ trivial (fun _ => ?_)
                clear hK K
                have KB1 := Aside0.mk (blk_put KB.out 0 (.bool false) rfl)
                have AA1 := Aside0.mk (J2.out.below (w2 := x3.setCell ⟨gb, 0, none⟩ (.bool false)) (below_set HB3.out (Nat.le_of_eq HGB.out.symm)))
                have HB4 := Aside0.mk (below_set (v := .bool false) (j := 0) HB3.out (Nat.le_of_eq HGB.out.symm))
                clear hc0 hf0
                generalize x3.setCell ⟨gb, 0, none⟩ (.bool false) = x4 at KB1 AA1 HB4 ⊢
                have hc0 : x4.cell? ⟨gb, 0, none⟩ = some (.bool false) := (blk_cell KB1.out 0).trans rfl
                have hf0 := blk_frozen KB1.out 0
                refine one_ (i := 1) (N := none) #[true, true, true, false] rfl rfl (one_of HT_.out (by kernel_rfl)) (by decide) (fun K hK => ?_)
                refine skip_ (w1 := ?_) (by rfl) rfl ?_ ?_
                rotate_left
                · go_simp
                  rfl
                refine hK.out _ _ trivial (fun _ => ?_)
                clear hK K
                exact J true _ ⟨J2.out.below (below_set HB4.out (Nat.le_of_eq HGB.out.symm)), blk_put KB1.out 0 _ rfl⟩
            rintro b x5 ⟨hA5, hb5⟩
            clear J3 J2 KB HGB HB3
            have J5 := Aside0.mk hA5
            have hcb : x5.cell? ⟨gb, 0, none⟩ = some (.bool b) := (blk_cell hb5 0).trans rfl
            clear hA5 hb5
            simp only [putAll]
            refine one_ (i := 3) (N := (some 82)) #[true, true, true, true] rfl rfl (one_of HT_.out (by kernel_rfl)) (by decide) (fun K hK => ?_)
            refine value_ (w1 := ?_) (v := ?_) (by rfl) rfl ?_ ?_
            rotate_left 2
            · go_simp
              constructor
              · rfl
              · rfl
            refine hK.out _ _ trivial (fun hHeld => ?_)
            clear hK K
            refine norm_ (a' := ?_) ?_ ?_
            rotate_left
            · show Act.put _ (some 82) _ = _
              simp only [Act.put, List.setIfInBounds_toArray, List.set_cons_zero, List.set_cons_succ, i64_w, i32_w, u8_w, u32_w]
              rfl
            refine done_ (done_of HT_.out (by kernel_rfl)) ?_
            clear hcb
            cases b with
            | true =>
              go_wp2
              refine start_ (n := 14) (S := fun w' => AC L4 m (.slice Ay p.length cy) f Ax cx gf w') (ds := [13]) #[false, false, false, false, false, false, false, false, false, false, false, false, false, false] (by kernel_rfl) rfl rfl (AF.acx (J5.out.below (w2 := x5.drew) (below_drew1 (Below.refl _ _))) (x := (Ay, p.length, cy)) HX.out) (fun hHeld => ?_)
              refine with_tabW rp14.tab21 rp14.bits21 (fun HT_ HW_ => ?_)
              have J6 := Aside0.mk (J5.out.below (w2 := x5.drew) (below_drew1 (Below.refl _ _)))
              clear J5
              generalize x5.drew = x6 at J6 hHeld ⊢
              have e1b : wrap64 (m : Int) = (m : Int) := V3.out
              have q4 : ((m : Int) < (m : Int) + 1) = True := eq_true (by clear e1b; omega)
              refine pure_ (i := 0) (N := (some 83)) (v := ?_) (a' := ?_) #[true, false, false, false, false, false, false, false, false, false, false, false, false, false] rfl rfl (any_of HT_.out (by kernel_rfl)) (fun _ _ _ h => h) (Or.inl ⟨by rfl, ?_⟩) ?_ ?_
              rotate_left
              · intro w'
                go_simp
                try with_reducible rfl
              rotate_left
              · simp only [Act.put, List.setIfInBounds_toArray, List.set_cons_zero, List.set_cons_succ, i64_w, i32_w, u8_w, u32_w]
                rfl
              refine pure_ (i := 1) (N := (some 84)) (v := ?_) (a' := ?_) #[true, true, false, false, false, false, false, false, false, false, false, false, false, false] rfl rfl (any_of HT_.out (by kernel_rfl)) (fun _ _ _ h => h) (Or.inl ⟨by rfl, ?_⟩) ?_ ?_
              rotate_left
              · intro w'
                go_simp
                try with_reducible rfl
              rotate_left
              · simp only [Act.put, List.setIfInBounds_toArray, List.set_cons_zero, List.set_cons_succ, i64_w, i32_w, u8_w, u32_w]
                rfl
              refine pure_ (i := 2) (N := (some 85)) (v := ?_) (a' := ?_) #[true, true, true, false, false, false, false, false, false, false, false, false, false, false] rfl rfl (any_of HT_.out (by kernel_rfl)) (fun _ _ _ h => h) (Or.inl ⟨by rfl, ?_⟩) ?_ ?_
              rotate_left
              · intro w'
                go_simp
                try with_reducible rfl
              rotate_left
              · simp only [Act.put, List.setIfInBounds_toArray, List.set_cons_zero, List.set_cons_succ, i64_w, i32_w, u8_w, u32_w]
                rfl
              refine pure_ (i := 3) (N := (some 86)) (v := ?_) (a' := ?_) #[true, true, true, true, false, false, false, false, false, false, false, false, false, false] rfl rfl (any_of HT_.out (by kernel_rfl)) (fun _ _ _ h => h) (Or.inl ⟨by rfl, ?_⟩) ?_ ?_
              rotate_left
              · intro w'
                go_simp
                try with_reducible rfl
              rotate_left
              · simp only [Act.put, List.setIfInBounds_toArray, List.set_cons_zero, List.set_cons_succ, i64_w, i32_w, u8_w, u32_w]
                rfl
              refine pure_ (i := 4) (N := (some 87)) (v := ?_) (a' := ?_) #[true, true, true, true, true, false, false, false, false, false, false, false, false, false] rfl rfl (any_of HT_.out (by kernel_rfl)) (fun _ _ _ h => h) (Or.inl ⟨by rfl, ?_⟩) ?_ ?_
              rotate_left
              · intro w'
                go_simp
                try with_reducible rfl
              rotate_left
              · simp only [Act.put, List.setIfInBounds_toArray, List.set_cons_zero, List.set_cons_succ, i64_w, i32_w, u8_w, u32_w]
                rfl
              refine pure_ (i := 5) (N := (some 88)) (v := ?_) (a' := ?_) #[true, true, true, true, true, true, false, false, false, false, false, false, false, false] rfl rfl (any_of HT_.out (by kernel_rfl)) (fun _ _ _ h => h) (Or.inl ⟨by rfl, ?_⟩) ?_ ?_
              rotate_left
              · intro w'
                go_simp
                try with_reducible rfl
              rotate_left
              · simp only [Act.put, List.setIfInBounds_toArray, List.set_cons_zero, List.set_cons_succ, i64_w, i32_w, u8_w, u32_w]
                rfl
              refine pure_ (i := 6) (N := (some 89)) (v := ?_) (a' := ?_) #[true, true, true, true, true, true, true, false, false, false, false, false, false, false] rfl rfl (any_of HT_.out (by kernel_rfl)) (fun _ _ _ h => h) (Or.inl ⟨by rfl, ?_⟩) ?_ ?_
              rotate_left
              · intro w'
                go_simp
                try with_reducible rfl
              rotate_left
              · simp only [Act.put, List.setIfInBounds_toArray, List.set_cons_zero, List.set_cons_succ, i64_w, i32_w, u8_w, u32_w]
                rfl
              refine take_ (i := 7) (N := (some 90)) (v := ?_) (a' := ?_) #[true, true, true, true, true, true, true, true, false, false, false, false, false, false] rfl rfl (take_ofW HT_.out HW_.out (by kernel_rfl)) (fun _ _ _ h => h) (Or.inl ⟨by rfl, ?_⟩) hHeld ?_ ?_
              rotate_left
              · rintro w' ⟨s0, s1, s2, s3, s4⟩
                go_simp
                try with_reducible rfl
              rotate_left
              · simp only [Act.put, List.setIfInBounds_toArray, List.set_cons_zero, List.set_cons_succ, i64_w, i32_w, u8_w, u32_w]
                rfl
              refine take_ (i := 8) (N := (some 91)) (v := ?_) (a' := ?_) #[true, true, true, true, true, true, true, true, true, false, false, false, false, false] rfl rfl (take_ofW HT_.out HW_.out (by kernel_rfl)) (fun _ _ _ h => h) (Or.inl ⟨by rfl, ?_⟩) hHeld ?_ ?_
              rotate_left
              · rintro w' ⟨s0, s1, s2, s3, s4⟩
                go_simp
                try with_reducible rfl
              rotate_left
              · simp only [Act.put, List.setIfInBounds_toArray, List.set_cons_zero, List.set_cons_succ, i64_w, i32_w, u8_w, u32_w]
                rfl
              refine pure_ (i := 9) (N := (some 92)) (v := ?_) (a' := ?_) #[true, true, true, true, true, true, true, true, true, true, false, false, false, false] rfl rfl (any_of HT_.out (by kernel_rfl)) (fun _ _ _ h => h) (Or.inl ⟨by rfl, ?_⟩) ?_ ?_
              rotate_left
              · intro w'
                go_simp
                try with_reducible rfl
              rotate_left
              · simp only [Act.put, List.setIfInBounds_toArray, List.set_cons_zero, List.set_cons_succ, i64_w, i32_w, u8_w, u32_w]
                rfl
              refine one_ (i := 10) (N := (some 93)) #[true, true, true, true, true, true, true, true, true, true, true, false, false, false] rfl rfl (one_of HT_.out (by kernel_rfl)) (by decide) (fun K hK => ?_)
              refine value_ (w1 := ?_) (v := ?_) (by rfl) rfl ?_ ?_
              rotate_left 2
              · go_simp
                constructor
                · rfl
                · rfl
              refine hK.out _ _ (AF.acx (J6.out.below (below_alloc (Below.refl _ _) _)) (x := (Ay, p.length, cy)) HX.out) (fun hHeld => ?_)
              clear hK K
              refine norm_ (a' := ?_) ?_ ?_
              rotate_left
              · show Act.put _ (some 93) _ = _
                simp only [Act.put, List.setIfInBounds_toArray, List.set_cons_zero, List.set_cons_succ, i64_w, i32_w, u8_w, u32_w]
                rfl
              refine one_ (i := 11) (N := (some 94)) #[true, true, true, true, true, true, true, true, true, true, true, true, false, false] rfl rfl (one_of HT_.out (by kernel_rfl)) (by decide) (fun K hK => ?_)
              refine Kd.R_append_step k42 (w0 := w) w.heap.size (by rfl) (.tmp 90) (.tmp 93) 28 42 (.agg #[(.int .i64 0), (.int .i64 0), (.string ⟨#[]⟩), (.slice none 0 0)]) 56 rfl Tryd.underlying28 info42 rfl (by decide) (by clear e1b; omega) (.slice Ay p.length cy) p z42 [.int .i64 0, .int .i64 0, .string ⟨#[]⟩, .slice none 0 0] (Apt hs2 m) (fun _ => False) rfl rfl ?aP (fun _ hk => hk.elim) ?aF ?aO ?aB ?aS ?aL ?_
              (case aP => exact k42_mkM _ _ _ z42 (Kd.R_nil _ _ _ _ _))
              (case aB => exact J6.out.B)
              (case aF => exact (fun k hk => (J6.out.S.lt k hk).apt))
              (case aO => have h_ := J6.out.S.row m (by rw [HN.out]; omega); rw [HV.out, ← XS.out] at h_; exact h_)
              (case aS => exact J6.out.Z)
              (case aL => clear e1b; have := HP.out; omega)
              intro v7 x7 ho hb hg hat
              obtain ⟨A7, c7, e7⟩ := Kd.R_slice ho
              rw [List.length_append, List.length_singleton] at e7
              subst e7
              rw [← HV.out] at hg hat
              have P7 := Aside0.mk (J6.out.put OB.out (by rw [HN.out]; omega) (x1 := (A7, p.length + 1, c7)) ho hb hg hat)
              have F7 : Aside0 (x7.heap[gf]? = some (.cells #[.int .i64 f.f0, .int .i64 f.f1, .string f.f2, .slice Ax f.f3.length cx] 42 (0, 0))) := ⟨(hg.block gf (blk_lt J6.out.F) (J6.out.A m (by rw [LEN2.out]; omega))).trans J6.out.F⟩
              have RO := Aside0.mk ho
              have RB := Aside0.mk hb
              clear ho hb hg hat
              refine hK.out _ _ ⟨(by have h_ := P7.out.2.1; rw [← HX.out] at h_; exact h_), (blk_cell F7.out 0).trans rfl, (blk_cell F7.out 1).trans rfl, (blk_cell F7.out 2).trans rfl, (blk_cell F7.out 3).trans rfl⟩ (fun hHeld => ?_)
              clear hK K
              refine norm_ (a' := ?_) ?_ ?_
              rotate_left
              · show Act.put _ (some 94) _ = _
                simp only [Act.put, List.setIfInBounds_toArray, List.set_cons_zero, List.set_cons_succ, i64_w, i32_w, u8_w, u32_w]
                rfl
              refine pure_ (i := 12) (N := (some 95)) (v := ?_) (a' := ?_) #[true, true, true, true, true, true, true, true, true, true, true, true, true, false] rfl rfl (any_of HT_.out (by kernel_rfl)) (fun _ _ _ h => h) (Or.inl ⟨by rfl, ?_⟩) ?_ ?_
              rotate_left
              · intro w'
                go_simp
                try with_reducible rfl
              rotate_left
              · simp only [Act.put, List.setIfInBounds_toArray, List.set_cons_zero, List.set_cons_succ, i64_w, i32_w, u8_w, u32_w]
                rfl
              refine last_ (i := 13) (N := none) #[true, true, true, true, true, true, true, true, true, true, true, true, true, true] rfl rfl (one_of HT_.out (by kernel_rfl)) (by decide) (fun K hK => ?_)
              have hc7 : x7.cell? ⟨L4, m, none⟩ = some (.slice Ay p.length cy) := by have := P7.out.2.1; rw [← HX.out] at this; exact this
              have hf7 := P7.out.2.2
              refine skip_ (w1 := ?_) (by rfl) rfl ?_ ?_
              rotate_left
              · go_simp
                rfl
              refine hK.out _ _ ?_
              clear hK K
              refine done_ (done_of HT_.out (by kernel_rfl)) ?_
              obtain ⟨P8, -, -⟩ := P7.out
              clear P7 F7 RO RB hc7 hf7 e1b
              change AF _ _ _ _ _ _ _ _ _ _ _ _ _ _ (x7.setCell ⟨L4, m, none⟩ (.slice A7 (p.length + 1) c7)) at P8
              generalize x7.setCell ⟨L4, m, none⟩ (.slice A7 (p.length + 1) c7) = x8 at *
              have hn8 : m < rows.length := by rw [HN.out]; omega
              have hn8' : m < hs2.length := by rw [LEN2.out]; omega
              have hr8 := P8.S.row m (by rw [List.length_set]; exact hn8)
              rw [hv_set_same hn8', getD_set_same hn8] at hr8
              obtain ⟨g7, cap7, e7, hb7, hlt7, cl7, hcl7⟩ := Kd.R_form hr8 (by simp)
              have eA : A7 = some ⟨g7, 0, none⟩ := by injection e7
              subst eA
              replace hr8 : Kd.R k42 42 x8 w.heap.size (Apt (hs2.set m (some ⟨g7, 0, none⟩, p.length + 1, c7)) m) (.slice (some ⟨g7, 0, none⟩) (p.length + 1) c7) (p ++ [z42]) := hr8
              obtain ⟨c, hc1, -, hc3, -⟩ := Kd.R_elem hr8 z42 (p.length : Int) (by omega) (by omega)
              have hc1' : c.length = 4 := hc1
              have J8 := Aside0.mk P8
              have R8 := Aside0.mk hr8
              have C8 := Aside0.mk hc3
              clear P8 hr8 hc3 hb7 hlt7 hcl7 e7
              have q5 : ((p.length : Int) < (p.length : Int) + 1) = True := eq_true (by omega)
              go_wp2_with (first | (rw [V1.out]) | ((with_reducible refine gate_ (.store 42 (.tmp 96) (.tmp 91)) rfl ?_); refine Kd.R_store k42 (w0 := w) w.heap.size rfl rfl 42 (.tmp 96) (.tmp 91) rfl 42 (g := g7) (n := p.length + 1) (cap := c7) (o' := p.length * 4) (p.length : Int) 0 (p ++ [z42]) f (.agg #[.int .i64 f.f0, .int .i64 f.f1, .string f.f2, .slice Ax f.f3.length cx]) [.int .i64 f.f0, .int .i64 f.f1, .string f.f2, .slice Ax f.f3.length cx] c (Apt (hs2.set m (some ⟨g7, 0, none⟩, p.length + 1, c7)) m) (fun k => Alr (hs2.set m (some ⟨g7, 0, none⟩, p.length + 1, c7)) k ∧ k ≠ gf) ?sA ?sO rfl rfl ?sT ?s1 R8.out (by omega) (by omega) hc1 C8.out (by rw [show k42.sz = 4 from rfl]; simp) ?sM ?sP J8.out.B ?_; (case sA => first | rfl | (go_simp; done) | (go_simp; rfl)); (case sO => simp [show k42.sz = 4 from rfl]); (case sT => kernel_rfl); (case s1 => intro q hq; simp at hq; rcases hq with rfl | rfl | rfl | rfl <;> rfl); (case sM => rw [List.take_zero, List.nil_append, List.drop_eq_nil_of_le (by rw [hc1']; simp), List.append_nil]; exact k42_mkM _ _ _ f J8.out.R); (case sP => intro k hk; refine ⟨hk.1.apt, fun he => ?_⟩; have h_ := hk.1 m (by rw [List.length_set, LEN2.out]; omega); rw [hv_set_same (by rw [LEN2.out]; omega)] at h_; exact h_ (by rw [he]; rfl)); intro x9 ho hb hg; have E9 := Aside0.mk (J8.out.grow OB.out (by rw [List.length_set, HN.out]; omega) (by rw [hv_set_same (by rw [LEN2.out]; omega)]; exact ho) hb (by rw [hv_set_same (by rw [LEN2.out]; omega)]; exact hg)); clear ho hb hg))
              obtain ⟨-, h2, h3, h4⟩ := E9.out
              rw [List.set_set] at h2
              have ef : (p ++ [z42]).set (Int.toNat (p.length : Int)) f = p ++ [f] := by rw [Int.toNat_natCast, List.set_append_right _ _ (Nat.le_refl _)]; simp
              rw [ef, show rows.set m (p ++ [f]) = rws st' (p ++ [f]) by rw [RS.out, HM.out, rws_add], FF.out] at h2
              have S9 := Aside0.mk h2
              have B9 := Aside0.mk h3
              have R9 := Aside0.mk (R_KT R4.out h4)
              clear h2 h3 h4 ef
              have h1_ := HL.out
              have h2_ := HLT.out
              refine ⟨⟨i + 1, st', (p ++ [⟨3, 0, ⟨#[]⟩, top⟩]), rfl, ⟨by omega, h1_.close_, HF.out⟩, ⟨_, S9.out⟩, B9, R9⟩, ?_⟩
              simp only [intOf, Int.toNat_natCast]
              omega
            | false =>
              go_wp2
              refine start_ (n := 13) (S := fun w' => AC L4 m (.slice Ay p.length cy) f Ax cx gf w') (ds := [12]) #[false, false, false, false, false, false, false, false, false, false, false, false, false] (by kernel_rfl) rfl rfl (AF.acx (J5.out.below (w2 := x5.drew) (below_drew1 (Below.refl _ _))) (x := (Ay, p.length, cy)) HX.out) (fun hHeld => ?_)
              refine with_tabW rp14.tab23 rp14.bits23 (fun HT_ HW_ => ?_)
              have J6 := Aside0.mk (J5.out.below (w2 := x5.drew) (below_drew1 (Below.refl _ _)))
              clear J5
              generalize x5.drew = x6 at J6 hHeld ⊢
              have e1b : wrap64 (m : Int) = (m : Int) := V3.out
              have q4 : ((m : Int) < (m : Int) + 1) = True := eq_true (by clear e1b; omega)
              refine pure_ (i := 0) (N := (some 97)) (v := ?_) (a' := ?_) #[true, false, false, false, false, false, false, false, false, false, false, false, false] rfl rfl (any_of HT_.out (by kernel_rfl)) (fun _ _ _ h => h) (Or.inl ⟨by rfl, ?_⟩) ?_ ?_
              rotate_left
              · intro w'
                go_simp
                try with_reducible rfl
              rotate_left
              · simp only [Act.put, List.setIfInBounds_toArray, List.set_cons_zero, List.set_cons_succ, i64_w, i32_w, u8_w, u32_w]
                rfl
              refine pure_ (i := 1) (N := (some 98)) (v := ?_) (a' := ?_) #[true, true, false, false, false, false, false, false, false, false, false, false, false] rfl rfl (any_of HT_.out (by kernel_rfl)) (fun _ _ _ h => h) (Or.inl ⟨by rfl, ?_⟩) ?_ ?_
              rotate_left
              · intro w'
                go_simp
                try with_reducible rfl
              rotate_left
              · simp only [Act.put, List.setIfInBounds_toArray, List.set_cons_zero, List.set_cons_succ, i64_w, i32_w, u8_w, u32_w]
                rfl
              refine pure_ (i := 2) (N := (some 99)) (v := ?_) (a' := ?_) #[true, true, true, false, false, false, false, false, false, false, false, false, false] rfl rfl (any_of HT_.out (by kernel_rfl)) (fun _ _ _ h => h) (Or.inl ⟨by rfl, ?_⟩) ?_ ?_
              rotate_left
              · intro w'
                go_simp
                try with_reducible rfl
              rotate_left
              · simp only [Act.put, List.setIfInBounds_toArray, List.set_cons_zero, List.set_cons_succ, i64_w, i32_w, u8_w, u32_w]
                rfl
              refine pure_ (i := 3) (N := (some 100)) (v := ?_) (a' := ?_) #[true, true, true, true, false, false, false, false, false, false, false, false, false] rfl rfl (any_of HT_.out (by kernel_rfl)) (fun _ _ _ h => h) (Or.inl ⟨by rfl, ?_⟩) ?_ ?_
              rotate_left
              · intro w'
                go_simp
                try with_reducible rfl
              rotate_left
              · simp only [Act.put, List.setIfInBounds_toArray, List.set_cons_zero, List.set_cons_succ, i64_w, i32_w, u8_w, u32_w]
                rfl
              refine pure_ (i := 4) (N := (some 101)) (v := ?_) (a' := ?_) #[true, true, true, true, true, false, false, false, false, false, false, false, false] rfl rfl (any_of HT_.out (by kernel_rfl)) (fun _ _ _ h => h) (Or.inl ⟨by rfl, ?_⟩) ?_ ?_
              rotate_left
              · intro w'
                go_simp
                try with_reducible rfl
              rotate_left
              · simp only [Act.put, List.setIfInBounds_toArray, List.set_cons_zero, List.set_cons_succ, i64_w, i32_w, u8_w, u32_w]
                rfl
              refine pure_ (i := 5) (N := (some 102)) (v := ?_) (a' := ?_) #[true, true, true, true, true, true, false, false, false, false, false, false, false] rfl rfl (any_of HT_.out (by kernel_rfl)) (fun _ _ _ h => h) (Or.inl ⟨by rfl, ?_⟩) ?_ ?_
              rotate_left
              · intro w'
                go_simp
                try with_reducible rfl
              rotate_left
              · simp only [Act.put, List.setIfInBounds_toArray, List.set_cons_zero, List.set_cons_succ, i64_w, i32_w, u8_w, u32_w]
                rfl
              refine pure_ (i := 6) (N := (some 103)) (v := ?_) (a' := ?_) #[true, true, true, true, true, true, true, false, false, false, false, false, false] rfl rfl (any_of HT_.out (by kernel_rfl)) (fun _ _ _ h => h) (Or.inl ⟨by rfl, ?_⟩) ?_ ?_
              rotate_left
              · intro w'
                go_simp
                try with_reducible rfl
              rotate_left
              · simp only [Act.put, List.setIfInBounds_toArray, List.set_cons_zero, List.set_cons_succ, i64_w, i32_w, u8_w, u32_w]
                rfl
              refine take_ (i := 7) (N := (some 104)) (v := ?_) (a' := ?_) #[true, true, true, true, true, true, true, true, false, false, false, false, false] rfl rfl (take_ofW HT_.out HW_.out (by kernel_rfl)) (fun _ _ _ h => h) (Or.inl ⟨by rfl, ?_⟩) hHeld ?_ ?_
              rotate_left
              · rintro w' ⟨s0, s1, s2, s3, s4⟩
                go_simp
                try with_reducible rfl
              rotate_left
              · simp only [Act.put, List.setIfInBounds_toArray, List.set_cons_zero, List.set_cons_succ, i64_w, i32_w, u8_w, u32_w]
                rfl
              refine take_ (i := 8) (N := (some 105)) (v := ?_) (a' := ?_) #[true, true, true, true, true, true, true, true, true, false, false, false, false] rfl rfl (take_ofW HT_.out HW_.out (by kernel_rfl)) (fun _ _ _ h => h) (Or.inl ⟨by rfl, ?_⟩) hHeld ?_ ?_
              rotate_left
              · rintro w' ⟨s0, s1, s2, s3, s4⟩
                go_simp
                try with_reducible rfl
              rotate_left
              · simp only [Act.put, List.setIfInBounds_toArray, List.set_cons_zero, List.set_cons_succ, i64_w, i32_w, u8_w, u32_w]
                rfl
              refine one_ (i := 9) (N := (some 106)) #[true, true, true, true, true, true, true, true, true, true, false, false, false] rfl rfl (one_of HT_.out (by kernel_rfl)) (by decide) (fun K hK => ?_)
              refine value_ (w1 := ?_) (v := ?_) (by rfl) rfl ?_ ?_
              rotate_left 2
              · go_simp
                constructor
                · rfl
                · rfl
              refine hK.out _ _ (AF.acx (J6.out.below (below_alloc (Below.refl _ _) _)) (x := (Ay, p.length, cy)) HX.out) (fun hHeld => ?_)
              clear hK K
              refine norm_ (a' := ?_) ?_ ?_
              rotate_left
              · show Act.put _ (some 106) _ = _
                simp only [Act.put, List.setIfInBounds_toArray, List.set_cons_zero, List.set_cons_succ, i64_w, i32_w, u8_w, u32_w]
                rfl
              refine one_ (i := 10) (N := (some 107)) #[true, true, true, true, true, true, true, true, true, true, true, false, false] rfl rfl (one_of HT_.out (by kernel_rfl)) (by decide) (fun K hK => ?_)
              refine Kd.R_append_step k42 (w0 := w) w.heap.size (by rfl) (.tmp 104) (.tmp 106) 28 42 (.agg #[(.int .i64 0), (.int .i64 0), (.string ⟨#[]⟩), (.slice none 0 0)]) 56 rfl Tryd.underlying28 info42 rfl (by decide) (by clear e1b; omega) (.slice Ay p.length cy) p f [.int .i64 f.f0, .int .i64 f.f1, .string f.f2, .slice Ax f.f3.length cx] (Apt hs2 m) (fun k => Alr hs2 k ∧ k ≠ gf) rfl rfl ?aP ?aK ?aF ?aO ?aB ?aS ?aL ?_
              (case aP => exact k42_mkM _ _ _ f J6.out.R)
              (case aK => intro k hk; refine ⟨hk.1.apt, ?_⟩; rw [← HV.out]; exact hk.1 m (by rw [LEN2.out]; clear e1b; omega))
              (case aB => exact J6.out.B)
              (case aF => exact (fun k hk => (J6.out.S.lt k hk).apt))
              (case aO => have h_ := J6.out.S.row m (by rw [HN.out]; clear e1b; omega); rw [HV.out, ← XS.out] at h_; exact h_)
              (case aS => exact J6.out.Z)
              (case aL => clear e1b; have := HP.out; omega)
              intro v7 x7 ho hb hg hat
              obtain ⟨A7, c7, e7⟩ := Kd.R_slice ho
              rw [List.length_append, List.length_singleton] at e7
              subst e7
              rw [← HV.out] at hg hat
              have P7 := Aside0.mk (J6.out.put OB.out (by rw [HN.out]; omega) (x1 := (A7, p.length + 1, c7)) ho hb hg hat)
              have F7 : Aside0 (x7.heap[gf]? = some (.cells #[.int .i64 f.f0, .int .i64 f.f1, .string f.f2, .slice Ax f.f3.length cx] 42 (0, 0))) := ⟨(hg.block gf (blk_lt J6.out.F) (J6.out.A m (by rw [LEN2.out]; omega))).trans J6.out.F⟩
              clear ho hb hg hat
              refine hK.out _ _ ⟨(by have h_ := P7.out.2.1; rw [← HX.out] at h_; exact h_), (blk_cell F7.out 0).trans rfl, (blk_cell F7.out 1).trans rfl, (blk_cell F7.out 2).trans rfl, (blk_cell F7.out 3).trans rfl⟩ (fun hHeld => ?_)
              clear hK K
              refine norm_ (a' := ?_) ?_ ?_
              rotate_left
              · show Act.put _ (some 107) _ = _
                simp only [Act.put, List.setIfInBounds_toArray, List.set_cons_zero, List.set_cons_succ, i64_w, i32_w, u8_w, u32_w]
                rfl
              refine pure_ (i := 11) (N := (some 108)) (v := ?_) (a' := ?_) #[true, true, true, true, true, true, true, true, true, true, true, true, false] rfl rfl (any_of HT_.out (by kernel_rfl)) (fun _ _ _ h => h) (Or.inl ⟨by rfl, ?_⟩) ?_ ?_
              rotate_left
              · intro w'
                go_simp
                try with_reducible rfl
              rotate_left
              · simp only [Act.put, List.setIfInBounds_toArray, List.set_cons_zero, List.set_cons_succ, i64_w, i32_w, u8_w, u32_w]
                rfl
              refine last_ (i := 12) (N := none) #[true, true, true, true, true, true, true, true, true, true, true, true, true] rfl rfl (one_of HT_.out (by kernel_rfl)) (by decide) (fun K hK => ?_)
              have hc7 : x7.cell? ⟨L4, m, none⟩ = some (.slice Ay p.length cy) := by have := P7.out.2.1; rw [← HX.out] at this; exact this
              have hf7 := P7.out.2.2
              refine skip_ (w1 := ?_) (by rfl) rfl ?_ ?_
              rotate_left
              · go_simp
                rfl
              refine hK.out _ _ ?_
              clear hK K
              refine done_ (done_of HT_.out (by kernel_rfl)) ?_
              obtain ⟨P8, -, -⟩ := P7.out
              clear P7 F7 hc7 hf7 e1b
              change AF _ _ _ _ _ _ _ _ _ _ _ _ _ _ (x7.setCell ⟨L4, m, none⟩ (.slice A7 (p.length + 1) c7)) at P8
              generalize x7.setCell ⟨L4, m, none⟩ (.slice A7 (p.length + 1) c7) = x8 at *
              have h2 := P8.S
              rw [show rows.set m (p ++ [f]) = rws st' (p ++ [f]) by rw [RS.out, HM.out, rws_add], FF.out] at h2
              have S9 := Aside0.mk h2
              have B9 := Aside0.mk P8.B
              have R9 := Aside0.mk (R_KT R4.out P8.T)
              clear h2 P8
              go_wp2_with (first | (rw [V1.out]))
              have h1_ := HL.out
              have h2_ := HLT.out
              refine ⟨⟨i + 1, st', (p ++ [⟨3, 0, ⟨#[]⟩, top⟩]), rfl, ⟨by omega, h1_.close_, HF.out⟩, ⟨_, S9.out⟩, B9, R9⟩, ?_⟩
              simp only [intOf, Int.toNat_natCast]
              omega
        · rw [frun_3 rfl] at hF
          have HF := Aside0.mk hF
          clear hF hst htp
          have hrow := SS.out.row st.length (by rw [rws_len]; omega)
          rw [rws_top] at hrow
          obtain ⟨Ax, cx, hx⟩ := Kd.R_slice hrow
          have HX := Aside0.mk hx
          have k5 := head_of SS.out.out hx
          clear hrow hx
          go_wp2_with (first | (rw [V1.out]) | (rw [V2.out]))
          refine start_ (n := 17) (S := fun w' => w'.cell? ⟨L4, st.length, none⟩ = some (.slice Ax top.length cx) ∧ w'.cell? ⟨gt, i * 4 + 3, none⟩ = some (.string t3)) (ds := [14, 16]) #[false, false, false, false, false, false, false, false, false, false, false, false, false, false, false, false, false] (by kernel_rfl) rfl rfl ⟨head_of (SS.out.below (w1 := wr.drew) (below_drew1 (Below.refl _ _))).out HX.out, tok_s (Kd.R_below (w1 := wr.drew) R4.out (below_drew1 (Below.refl _ _))) i HLT.out (t := ⟨3, t1, t2, t3⟩) HTL.out⟩ (fun hHeld => ?_)
          refine with_tabW rp14.tab25 rp14.bits25 (fun HT_ HW_ => ?_)
          have S6 := Aside0.mk (SS.out.below (w1 := wr.drew) (below_drew1 (Below.refl _ _)))
          have R6 := Aside0.mk (Kd.R_below (w1 := wr.drew) R4.out (below_drew1 (Below.refl _ _)))
          have B6 := Aside0.mk (below_drew1 B4.out)
          clear k0 k1 k2 k3 k5 SS R4 B4
          generalize wr.drew = w6 at S6 R6 B6 hHeld ⊢
          refine pure_ (i := 0) (N := (some 111)) (v := ?_) (a' := ?_) #[true, false, false, false, false, false, false, false, false, false, false, false, false, false, false, false, false] rfl rfl (any_of HT_.out (by kernel_rfl)) (fun _ _ _ h => h) (Or.inl ⟨by rfl, ?_⟩) ?_ ?_
          rotate_left
          · intro w'
            go_simp
            try with_reducible rfl
          rotate_left
          · simp only [Act.put, List.setIfInBounds_toArray, List.set_cons_zero, List.set_cons_succ, i64_w, i32_w, u8_w, u32_w]
            rfl
          refine pure_ (i := 1) (N := (some 112)) (v := ?_) (a' := ?_) #[true, true, false, false, false, false, false, false, false, false, false, false, false, false, false, false, false] rfl rfl (any_of HT_.out (by kernel_rfl)) (fun _ _ _ h => h) (Or.inl ⟨by rfl, ?_⟩) ?_ ?_
          rotate_left
          · intro w'
            go_simp
            try with_reducible rfl
          rotate_left
          · simp only [Act.put, List.setIfInBounds_toArray, List.set_cons_zero, List.set_cons_succ, i64_w, i32_w, u8_w, u32_w]
            rfl
          refine pure_ (i := 2) (N := (some 113)) (v := ?_) (a' := ?_) #[true, true, true, false, false, false, false, false, false, false, false, false, false, false, false, false, false] rfl rfl (any_of HT_.out (by kernel_rfl)) (fun _ _ _ h => h) (Or.inl ⟨by rfl, ?_⟩) ?_ ?_
          rotate_left
          · intro w'
            go_simp
            try with_reducible rfl
          rotate_left
          · simp only [Act.put, List.setIfInBounds_toArray, List.set_cons_zero, List.set_cons_succ, i64_w, i32_w, u8_w, u32_w]
            rfl
          refine take_ (i := 3) (N := (some 114)) (v := ?_) (a' := ?_) #[true, true, true, true, false, false, false, false, false, false, false, false, false, false, false, false, false] rfl rfl (take_ofW HT_.out HW_.out (by kernel_rfl)) (fun _ _ _ h => h) (Or.inl ⟨by rfl, ?_⟩) hHeld ?_ ?_
          rotate_left
          · rintro w' ⟨s0, s1⟩
            go_simp
            try with_reducible rfl
          rotate_left
          · simp only [Act.put, List.setIfInBounds_toArray, List.set_cons_zero, List.set_cons_succ, i64_w, i32_w, u8_w, u32_w]
            rfl
          refine pure_ (i := 4) (N := (some 115)) (v := ?_) (a' := ?_) #[true, true, true, true, true, false, false, false, false, false, false, false, false, false, false, false, false] rfl rfl (any_of HT_.out (by kernel_rfl)) (fun _ _ _ h => h) (Or.inl ⟨by rfl, ?_⟩) ?_ ?_
          rotate_left
          · intro w'
            go_simp
            try with_reducible rfl
          rotate_left
          · simp only [Act.put, List.setIfInBounds_toArray, List.set_cons_zero, List.set_cons_succ, i64_w, i32_w, u8_w, u32_w]
            rfl
          refine pure_ (i := 5) (N := (some 116)) (v := ?_) (a' := ?_) #[true, true, true, true, true, true, false, false, false, false, false, false, false, false, false, false, false] rfl rfl (any_of HT_.out (by kernel_rfl)) (fun _ _ _ h => h) (Or.inl ⟨by rfl, ?_⟩) ?_ ?_
          rotate_left
          · intro w'
            go_simp
            try with_reducible rfl
          rotate_left
          · simp only [Act.put, List.setIfInBounds_toArray, List.set_cons_zero, List.set_cons_succ, i64_w, i32_w, u8_w, u32_w]
            rfl
          refine pure_ (i := 6) (N := (some 117)) (v := ?_) (a' := ?_) #[true, true, true, true, true, true, true, false, false, false, false, false, false, false, false, false, false] rfl rfl (any_of HT_.out (by kernel_rfl)) (fun _ _ _ h => h) (Or.inl ⟨by rfl, ?_⟩) ?_ ?_
          rotate_left
          · intro w'
            go_simp
            try with_reducible rfl
          rotate_left
          · simp only [Act.put, List.setIfInBounds_toArray, List.set_cons_zero, List.set_cons_succ, i64_w, i32_w, u8_w, u32_w]
            rfl
          refine pure_ (i := 7) (N := (some 118)) (v := ?_) (a' := ?_) #[true, true, true, true, true, true, true, true, false, false, false, false, false, false, false, false, false] rfl rfl (any_of HT_.out (by kernel_rfl)) (fun _ _ _ h => h) (Or.inl ⟨by rfl, ?_⟩) ?_ ?_
          rotate_left
          · intro w'
            go_simp
            try with_reducible rfl
          rotate_left
          · simp only [Act.put, List.setIfInBounds_toArray, List.set_cons_zero, List.set_cons_succ, i64_w, i32_w, u8_w, u32_w]
            rfl
          refine take_ (i := 8) (N := (some 119)) (v := ?_) (a' := ?_) #[true, true, true, true, true, true, true, true, true, false, false, false, false, false, false, false, false] rfl rfl (take_ofW HT_.out HW_.out (by kernel_rfl)) (fun _ _ _ h => h) (Or.inl ⟨by rfl, ?_⟩) hHeld ?_ ?_
          rotate_left
          · rintro w' ⟨s0, s1⟩
            go_simp
            try with_reducible rfl
          rotate_left
          · simp only [Act.put, List.setIfInBounds_toArray, List.set_cons_zero, List.set_cons_succ, i64_w, i32_w, u8_w, u32_w]
            rfl
          refine pure_ (i := 9) (N := (some 120)) (v := ?_) (a' := ?_) #[true, true, true, true, true, true, true, true, true, true, false, false, false, false, false, false, false] rfl rfl (any_of HT_.out (by kernel_rfl)) (fun _ _ _ h => h) (Or.inl ⟨by rfl, ?_⟩) ?_ ?_
          rotate_left
          · intro w'
            go_simp
            try with_reducible rfl
          rotate_left
          · simp only [Act.put, List.setIfInBounds_toArray, List.set_cons_zero, List.set_cons_succ, i64_w, i32_w, u8_w, u32_w]
            rfl
          refine pure_ (i := 10) (N := (some 121)) (v := ?_) (a' := ?_) #[true, true, true, true, true, true, true, true, true, true, true, false, false, false, false, false, false] rfl rfl (any_of HT_.out (by kernel_rfl)) (fun _ _ _ h => h) (Or.inl ⟨by rfl, ?_⟩) ?_ ?_
          rotate_left
          · intro w'
            go_simp
            try with_reducible rfl
          rotate_left
          · simp only [Act.put, List.setIfInBounds_toArray, List.set_cons_zero, List.set_cons_succ, i64_w, i32_w, u8_w, u32_w]
            rfl
          refine one_ (i := 11) (N := (some 122)) #[true, true, true, true, true, true, true, true, true, true, true, true, false, false, false, false, false] rfl rfl (one_of HT_.out (by kernel_rfl)) (by decide) (fun K hK => ?_)
          refine value_ (w1 := ?_) (v := ?_) (by rfl) rfl ?_ ?_
          rotate_left 2
          · go_simp
            constructor
            · rfl
            · rfl
          refine hK.out _ _ ⟨head_of (S6.out.below (below_alloc (Below.refl _ _) _)).out HX.out, tok_s (Kd.R_below R6.out (below_alloc (Below.refl _ _) _)) i HLT.out (t := ⟨3, t1, t2, t3⟩) HTL.out⟩ (fun hHeld => ?_)
          clear hK K
          refine norm_ (a' := ?_) ?_ ?_
          rotate_left
          · show Act.put _ (some 122) _ = _
            simp only [Act.put, List.setIfInBounds_toArray, List.set_cons_zero, List.set_cons_succ, i64_w, i32_w, u8_w, u32_w]
            rfl
          refine one_ (i := 12) (N := (some 123)) #[true, true, true, true, true, true, true, true, true, true, true, true, true, false, false, false, false] rfl rfl (one_of HT_.out (by kernel_rfl)) (by decide) (fun K hK => ?_)
          refine Kd.R_append_step k42 (w0 := w) w.heap.size (by rfl) (.tmp 114) (.tmp 122) 28 42 (.agg #[(.int .i64 0), (.int .i64 0), (.string ⟨#[]⟩), (.slice none 0 0)]) 56 rfl Tryd.underlying28 info42 rfl (by decide) (by omega) (.slice Ax top.length cx) top z42 [.int .i64 0, .int .i64 0, .string ⟨#[]⟩, .slice none 0 0] (Apt hs st.length) (fun _ => False) rfl rfl ?aP (fun _ hk => hk.elim) ?aF ?aO ?aB ?aS ?aL ?_
          (case aP => exact k42_mkM _ _ _ z42 (Kd.R_nil _ _ _ _ _))
          (case aB => exact B6.out)
          (case aF => exact (fun k hk => (S6.out.lt k hk).apt))
          (case aO => exact S6.out.top_row HX.out)
          (case aS => exact B6.out.size)
          (case aL => have := HTP.out; omega)
          intro v7 w7 ho hb hg hat
          obtain ⟨g7, c7, e7, _, _, _⟩ := Kd.R_form ho (by simp)
          rw [List.length_append, List.length_singleton] at e7
          subst e7
          rw [← HX.out] at hg hat
          have hm7 := S6.out.mid (n := st.length) (by rw [rws_len]; omega) (x1 := (some ⟨g7, 0, none⟩, top.length + 1, c7)) ho hg hat
          have R7 := Aside0.mk (R_KT R6.out (KT.of_grown hg (by decide) (Kd.R_typed (S6.out.row st.length (by rw [rws_len]; omega)))))
          have c7b : ((top.length : Int) < (top.length : Int) + 1) = True := eq_true (by omega)
          refine hK.out _ _ ⟨head_of hm7.1 HX.out, tok_s R7.out i HLT.out (t := ⟨3, t1, t2, t3⟩) HTL.out⟩ (fun hHeld => ?_)
          clear hK K
          refine norm_ (a' := ?_) ?_ ?_
          rotate_left
          · show Act.put _ (some 123) _ = _
            simp only [Act.put, List.setIfInBounds_toArray, List.set_cons_zero, List.set_cons_succ, i64_w, i32_w, u8_w, u32_w]
            rfl
          refine pure_ (i := 13) (N := (some 124)) (v := ?_) (a' := ?_) #[true, true, true, true, true, true, true, true, true, true, true, true, true, true, false, false, false] rfl rfl (any_of HT_.out (by kernel_rfl)) (fun _ _ _ h => h) (Or.inl ⟨by rfl, ?_⟩) ?_ ?_
          rotate_left
          · intro w'
            go_simp
            try with_reducible rfl
          rotate_left
          · simp only [Act.put, List.setIfInBounds_toArray, List.set_cons_zero, List.set_cons_succ, i64_w, i32_w, u8_w, u32_w]
            rfl
          refine pure_ (i := 15) (N := (some 125)) (v := ?_) (a' := ?_) #[true, true, true, true, true, true, true, true, true, true, true, true, true, true, false, true, false] rfl rfl (any_of HT_.out (by kernel_rfl)) (fun _ _ _ h => h) (Or.inl ⟨by rfl, ?_⟩) ?_ ?_
          rotate_left
          · intro w'
            go_simp
            try with_reducible rfl
          rotate_left
          · simp only [Act.put, List.setIfInBounds_toArray, List.set_cons_zero, List.set_cons_succ, i64_w, i32_w, u8_w, u32_w]
            rfl
          refine twoL_ (i := 14) (j := 16) (Ni := none) (Nj := none) #[true, true, true, true, true, true, true, true, true, true, true, true, true, true, true, true, false] #[true, true, true, true, true, true, true, true, true, true, true, true, true, true, false, true, true] rfl rfl rfl rfl (two_of HT_.out (by kernel_rfl)) (by decide) (by decide) (fun K hK => ?_) (fun K hK => ?_)
          · obtain ⟨y0, y1, y2, y3, f0, f1, f2, f3, ff⟩ := elem_cells ho
            have ff0 := ff 0
            have ff1 := ff 1
            have ff2 := ff 2
            have ff3 := ff 3
            rw [Nat.add_zero] at ff0
            refine skip_ (w1 := ?_) (by rfl) rfl ?_ ?_
            rotate_left
            · go_simp
              rfl
            refine hK.out _ _ ?_
            clear hK K
            clear f0 f1 f2 f3 ff ff0 ff1 ff2 ff3
            generalize hwn : (World.setCell (World.setCell (World.setCell (World.setCell w7 ⟨g7, _, none⟩ _) ⟨g7, _, none⟩ _) ⟨g7, _, none⟩ _) ⟨g7, _, none⟩ _) = w8
            obtain ⟨hc8, hf8, hS8, hB8, hT8⟩ := put_ab (w0 := w) S6.out (by rw [rws_len]; omega) ho hb hg hat (1) (0) (t3) hwn.symm
            rw [HX.out] at hc8
            refine last_ (i := 16) (N := none) #[true, true, true, true, true, true, true, true, true, true, true, true, true, true, true, true, true] rfl rfl (one_of HT_.out (by kernel_rfl)) (by decide) (fun K hK => ?_)
            refine skip_ (w1 := ?_) (by rfl) rfl ?_ ?_
            rotate_left
            · go_simp
              rfl
            refine hK.out _ _ ?_
            clear hK K
            refine done_ (done_of HT_.out (by kernel_rfl)) ?_
            obtain ⟨hs8, hS8⟩ := hS8
            rw [rws_add] at hS8
            have S8 := Aside0.mk hS8
            have B8 := Aside0.mk hB8
            have R8 := Aside0.mk (R_KT R6.out hT8)
            clear hc8 hf8 hS8 hB8 hT8 ho hb hg hat hm7 c7b hwn
            go_wp2_with (first | (rw [V1.out]))
            have h1_ := HL.out
            have h2_ := HLT.out
            refine ⟨⟨i + 1, st, (top ++ [⟨1, 0, t3, []⟩]), rfl, ⟨by omega, h1_.add_, HF.out⟩, ⟨_, S8.out⟩, B8, R8⟩, ?_⟩
            simp only [intOf, Int.toNat_natCast]
            omega
          · have hc7 := head_of hm7.1 HX.out
            have hf7 := head_fz hm7.1
            refine skip_ (w1 := ?_) (by rfl) rfl ?_ ?_
            rotate_left
            · go_simp
              rfl
            refine hK.out _ _ ?_
            clear hK K
            clear hc7 hf7
            generalize hwn : (World.setCell w7 ⟨L4, st.length, none⟩ _) = w8
            obtain ⟨⟨y0, y1, y2, y3, f0, f1, f2, f3, ff⟩, hS8, hB8, hT8⟩ := put_ba (w0 := w) S6.out (by rw [rws_len]; omega) ho hb hg hat (1) (0) (t3) hwn.symm
            have ff0 := ff 0
            have ff1 := ff 1
            have ff2 := ff 2
            have ff3 := ff 3
            rw [Nat.add_zero] at ff0
            refine last_ (i := 14) (N := none) #[true, true, true, true, true, true, true, true, true, true, true, true, true, true, true, true, true] rfl rfl (one_of HT_.out (by kernel_rfl)) (by decide) (fun K hK => ?_)
            refine skip_ (w1 := ?_) (by rfl) rfl ?_ ?_
            rotate_left
            · go_simp
              rfl
            refine hK.out _ _ ?_
            clear hK K
            refine done_ (done_of HT_.out (by kernel_rfl)) ?_
            obtain ⟨hs8, hS8⟩ := hS8
            rw [rws_add] at hS8
            have S8 := Aside0.mk hS8
            have B8 := Aside0.mk hB8
            have R8 := Aside0.mk (R_KT R6.out hT8)
            clear f0 f1 f2 f3 ff ff0 ff1 ff2 ff3 hS8 hB8 hT8 ho hb hg hat hm7 c7b hwn
            go_wp2_with (first | (rw [V1.out]))
            have h1_ := HL.out
            have h2_ := HLT.out
            refine ⟨⟨i + 1, st, (top ++ [⟨1, 0, t3, []⟩]), rfl, ⟨by omega, h1_.add_, HF.out⟩, ⟨_, S8.out⟩, B8, R8⟩, ?_⟩
            simp only [intOf, Int.toNat_natCast]
            omega

        · rw [frun_4 (show (4 : Int) ≠ 1 by decide) (show (4 : Int) ≠ 2 by decide) (show (4 : Int) ≠ 3 by decide)] at hF
          have HF := Aside0.mk hF
          clear hF hst htp
          have hrow := SS.out.row st.length (by rw [rws_len]; omega)
          rw [rws_top] at hrow
          obtain ⟨Ax, cx, hx⟩ := Kd.R_slice hrow
          have HX := Aside0.mk hx
          have k5 := head_of SS.out.out hx
          clear hrow hx
          go_wp2_with (first | (rw [V1.out]) | (rw [V2.out]))
          refine start_ (n := 17) (S := fun w' => w'.cell? ⟨L4, st.length, none⟩ = some (.slice Ax top.length cx) ∧ w'.cell? ⟨gt, i * 4 + 1, none⟩ = some (.int .i64 t1)) (ds := [14, 16]) #[false, false, false, false, false, false, false, false, false, false, false, false, false, false, false, false, false] (by kernel_rfl) rfl rfl ⟨head_of (SS.out.below (w1 := wr.drew) (below_drew1 (Below.refl _ _))).out HX.out, tok_n (Kd.R_below (w1 := wr.drew) R4.out (below_drew1 (Below.refl _ _))) i HLT.out (t := ⟨4, t1, t2, t3⟩) HTL.out⟩ (fun hHeld => ?_)
          refine with_tabW rp14.tab10 rp14.bits10 (fun HT_ HW_ => ?_)
          have S6 := Aside0.mk (SS.out.below (w1 := wr.drew) (below_drew1 (Below.refl _ _)))
          have R6 := Aside0.mk (Kd.R_below (w1 := wr.drew) R4.out (below_drew1 (Below.refl _ _)))
          have B6 := Aside0.mk (below_drew1 B4.out)
          clear k0 k1 k2 k3 k5 SS R4 B4
          generalize wr.drew = w6 at S6 R6 B6 hHeld ⊢
          refine pure_ (i := 0) (N := (some 37)) (v := ?_) (a' := ?_) #[true, false, false, false, false, false, false, false, false, false, false, false, false, false, false, false, false] rfl rfl (any_of HT_.out (by kernel_rfl)) (fun _ _ _ h => h) (Or.inl ⟨by rfl, ?_⟩) ?_ ?_
          rotate_left
          · intro w'
            go_simp
            try with_reducible rfl
          rotate_left
          · simp only [Act.put, List.setIfInBounds_toArray, List.set_cons_zero, List.set_cons_succ, i64_w, i32_w, u8_w, u32_w]
            rfl
          refine pure_ (i := 1) (N := (some 38)) (v := ?_) (a' := ?_) #[true, true, false, false, false, false, false, false, false, false, false, false, false, false, false, false, false] rfl rfl (any_of HT_.out (by kernel_rfl)) (fun _ _ _ h => h) (Or.inl ⟨by rfl, ?_⟩) ?_ ?_
          rotate_left
          · intro w'
            go_simp
            try with_reducible rfl
          rotate_left
          · simp only [Act.put, List.setIfInBounds_toArray, List.set_cons_zero, List.set_cons_succ, i64_w, i32_w, u8_w, u32_w]
            rfl
          refine pure_ (i := 2) (N := (some 39)) (v := ?_) (a' := ?_) #[true, true, true, false, false, false, false, false, false, false, false, false, false, false, false, false, false] rfl rfl (any_of HT_.out (by kernel_rfl)) (fun _ _ _ h => h) (Or.inl ⟨by rfl, ?_⟩) ?_ ?_
          rotate_left
          · intro w'
            go_simp
            try with_reducible rfl
          rotate_left
          · simp only [Act.put, List.setIfInBounds_toArray, List.set_cons_zero, List.set_cons_succ, i64_w, i32_w, u8_w, u32_w]
            rfl
          refine take_ (i := 3) (N := (some 40)) (v := ?_) (a' := ?_) #[true, true, true, true, false, false, false, false, false, false, false, false, false, false, false, false, false] rfl rfl (take_ofW HT_.out HW_.out (by kernel_rfl)) (fun _ _ _ h => h) (Or.inl ⟨by rfl, ?_⟩) hHeld ?_ ?_
          rotate_left
          · rintro w' ⟨s0, s1⟩
            go_simp
            try with_reducible rfl
          rotate_left
          · simp only [Act.put, List.setIfInBounds_toArray, List.set_cons_zero, List.set_cons_succ, i64_w, i32_w, u8_w, u32_w]
            rfl
          refine pure_ (i := 4) (N := (some 41)) (v := ?_) (a' := ?_) #[true, true, true, true, true, false, false, false, false, false, false, false, false, false, false, false, false] rfl rfl (any_of HT_.out (by kernel_rfl)) (fun _ _ _ h => h) (Or.inl ⟨by rfl, ?_⟩) ?_ ?_
          rotate_left
          · intro w'
            go_simp
            try with_reducible rfl
          rotate_left
          · simp only [Act.put, List.setIfInBounds_toArray, List.set_cons_zero, List.set_cons_succ, i64_w, i32_w, u8_w, u32_w]
            rfl
          refine pure_ (i := 5) (N := (some 42)) (v := ?_) (a' := ?_) #[true, true, true, true, true, true, false, false, false, false, false, false, false, false, false, false, false] rfl rfl (any_of HT_.out (by kernel_rfl)) (fun _ _ _ h => h) (Or.inl ⟨by rfl, ?_⟩) ?_ ?_
          rotate_left
          · intro w'
            go_simp
            try with_reducible rfl
          rotate_left
          · simp only [Act.put, List.setIfInBounds_toArray, List.set_cons_zero, List.set_cons_succ, i64_w, i32_w, u8_w, u32_w]
            rfl
          refine pure_ (i := 6) (N := (some 43)) (v := ?_) (a' := ?_) #[true, true, true, true, true, true, true, false, false, false, false, false, false, false, false, false, false] rfl rfl (any_of HT_.out (by kernel_rfl)) (fun _ _ _ h => h) (Or.inl ⟨by rfl, ?_⟩) ?_ ?_
          rotate_left
          · intro w'
            go_simp
            try with_reducible rfl
          rotate_left
          · simp only [Act.put, List.setIfInBounds_toArray, List.set_cons_zero, List.set_cons_succ, i64_w, i32_w, u8_w, u32_w]
            rfl
          refine pure_ (i := 7) (N := (some 44)) (v := ?_) (a' := ?_) #[true, true, true, true, true, true, true, true, false, false, false, false, false, false, false, false, false] rfl rfl (any_of HT_.out (by kernel_rfl)) (fun _ _ _ h => h) (Or.inl ⟨by rfl, ?_⟩) ?_ ?_
          rotate_left
          · intro w'
            go_simp
            try with_reducible rfl
          rotate_left
          · simp only [Act.put, List.setIfInBounds_toArray, List.set_cons_zero, List.set_cons_succ, i64_w, i32_w, u8_w, u32_w]
            rfl
          refine take_ (i := 8) (N := (some 45)) (v := ?_) (a' := ?_) #[true, true, true, true, true, true, true, true, true, false, false, false, false, false, false, false, false] rfl rfl (take_ofW HT_.out HW_.out (by kernel_rfl)) (fun _ _ _ h => h) (Or.inl ⟨by rfl, ?_⟩) hHeld ?_ ?_
          rotate_left
          · rintro w' ⟨s0, s1⟩
            go_simp
            try with_reducible rfl
          rotate_left
          · simp only [Act.put, List.setIfInBounds_toArray, List.set_cons_zero, List.set_cons_succ, i64_w, i32_w, u8_w, u32_w]
            rfl
          refine pure_ (i := 9) (N := (some 46)) (v := ?_) (a' := ?_) #[true, true, true, true, true, true, true, true, true, true, false, false, false, false, false, false, false] rfl rfl (any_of HT_.out (by kernel_rfl)) (fun _ _ _ h => h) (Or.inl ⟨by rfl, ?_⟩) ?_ ?_
          rotate_left
          · intro w'
            go_simp
            try with_reducible rfl
          rotate_left
          · simp only [Act.put, List.setIfInBounds_toArray, List.set_cons_zero, List.set_cons_succ, i64_w, i32_w, u8_w, u32_w]
            rfl
          refine pure_ (i := 10) (N := (some 47)) (v := ?_) (a' := ?_) #[true, true, true, true, true, true, true, true, true, true, true, false, false, false, false, false, false] rfl rfl (any_of HT_.out (by kernel_rfl)) (fun _ _ _ h => h) (Or.inl ⟨by rfl, ?_⟩) ?_ ?_
          rotate_left
          · intro w'
            go_simp
            try with_reducible rfl
          rotate_left
          · simp only [Act.put, List.setIfInBounds_toArray, List.set_cons_zero, List.set_cons_succ, i64_w, i32_w, u8_w, u32_w]
            rfl
          refine one_ (i := 11) (N := (some 48)) #[true, true, true, true, true, true, true, true, true, true, true, true, false, false, false, false, false] rfl rfl (one_of HT_.out (by kernel_rfl)) (by decide) (fun K hK => ?_)
          refine value_ (w1 := ?_) (v := ?_) (by rfl) rfl ?_ ?_
          rotate_left 2
          · go_simp
            constructor
            · rfl
            · rfl
          refine hK.out _ _ ⟨head_of (S6.out.below (below_alloc (Below.refl _ _) _)).out HX.out, tok_n (Kd.R_below R6.out (below_alloc (Below.refl _ _) _)) i HLT.out (t := ⟨4, t1, t2, t3⟩) HTL.out⟩ (fun hHeld => ?_)
          clear hK K
          refine norm_ (a' := ?_) ?_ ?_
          rotate_left
          · show Act.put _ (some 48) _ = _
            simp only [Act.put, List.setIfInBounds_toArray, List.set_cons_zero, List.set_cons_succ, i64_w, i32_w, u8_w, u32_w]
            rfl
          refine one_ (i := 12) (N := (some 49)) #[true, true, true, true, true, true, true, true, true, true, true, true, true, false, false, false, false] rfl rfl (one_of HT_.out (by kernel_rfl)) (by decide) (fun K hK => ?_)
          refine Kd.R_append_step k42 (w0 := w) w.heap.size (by rfl) (.tmp 40) (.tmp 48) 28 42 (.agg #[(.int .i64 0), (.int .i64 0), (.string ⟨#[]⟩), (.slice none 0 0)]) 56 rfl Tryd.underlying28 info42 rfl (by decide) (by omega) (.slice Ax top.length cx) top z42 [.int .i64 0, .int .i64 0, .string ⟨#[]⟩, .slice none 0 0] (Apt hs st.length) (fun _ => False) rfl rfl ?aP (fun _ hk => hk.elim) ?aF ?aO ?aB ?aS ?aL ?_
          (case aP => exact k42_mkM _ _ _ z42 (Kd.R_nil _ _ _ _ _))
          (case aB => exact B6.out)
          (case aF => exact (fun k hk => (S6.out.lt k hk).apt))
          (case aO => exact S6.out.top_row HX.out)
          (case aS => exact B6.out.size)
          (case aL => have := HTP.out; omega)
          intro v7 w7 ho hb hg hat
          obtain ⟨g7, c7, e7, _, _, _⟩ := Kd.R_form ho (by simp)
          rw [List.length_append, List.length_singleton] at e7
          subst e7
          rw [← HX.out] at hg hat
          have hm7 := S6.out.mid (n := st.length) (by rw [rws_len]; omega) (x1 := (some ⟨g7, 0, none⟩, top.length + 1, c7)) ho hg hat
          have R7 := Aside0.mk (R_KT R6.out (KT.of_grown hg (by decide) (Kd.R_typed (S6.out.row st.length (by rw [rws_len]; omega)))))
          have c7b : ((top.length : Int) < (top.length : Int) + 1) = True := eq_true (by omega)
          refine hK.out _ _ ⟨head_of hm7.1 HX.out, tok_n R7.out i HLT.out (t := ⟨4, t1, t2, t3⟩) HTL.out⟩ (fun hHeld => ?_)
          clear hK K
          refine norm_ (a' := ?_) ?_ ?_
          rotate_left
          · show Act.put _ (some 49) _ = _
            simp only [Act.put, List.setIfInBounds_toArray, List.set_cons_zero, List.set_cons_succ, i64_w, i32_w, u8_w, u32_w]
            rfl
          refine pure_ (i := 13) (N := (some 50)) (v := ?_) (a' := ?_) #[true, true, true, true, true, true, true, true, true, true, true, true, true, true, false, false, false] rfl rfl (any_of HT_.out (by kernel_rfl)) (fun _ _ _ h => h) (Or.inl ⟨by rfl, ?_⟩) ?_ ?_
          rotate_left
          · intro w'
            go_simp
            try with_reducible rfl
          rotate_left
          · simp only [Act.put, List.setIfInBounds_toArray, List.set_cons_zero, List.set_cons_succ, i64_w, i32_w, u8_w, u32_w]
            rfl
          refine pure_ (i := 15) (N := (some 51)) (v := ?_) (a' := ?_) #[true, true, true, true, true, true, true, true, true, true, true, true, true, true, false, true, false] rfl rfl (any_of HT_.out (by kernel_rfl)) (fun _ _ _ h => h) (Or.inl ⟨by rfl, ?_⟩) ?_ ?_
          rotate_left
          · intro w'
            go_simp
            try with_reducible rfl
          rotate_left
          · simp only [Act.put, List.setIfInBounds_toArray, List.set_cons_zero, List.set_cons_succ, i64_w, i32_w, u8_w, u32_w]
            rfl
          refine twoL_ (i := 14) (j := 16) (Ni := none) (Nj := none) #[true, true, true, true, true, true, true, true, true, true, true, true, true, true, true, true, false] #[true, true, true, true, true, true, true, true, true, true, true, true, true, true, false, true, true] rfl rfl rfl rfl (two_of HT_.out (by kernel_rfl)) (by decide) (by decide) (fun K hK => ?_) (fun K hK => ?_)
          · obtain ⟨y0, y1, y2, y3, f0, f1, f2, f3, ff⟩ := elem_cells ho
            have ff0 := ff 0
            have ff1 := ff 1
            have ff2 := ff 2
            have ff3 := ff 3
            rw [Nat.add_zero] at ff0
            refine skip_ (w1 := ?_) (by rfl) rfl ?_ ?_
            rotate_left
            · go_simp
              rfl
            refine hK.out _ _ ?_
            clear hK K
            clear f0 f1 f2 f3 ff ff0 ff1 ff2 ff3
            generalize hwn : (World.setCell (World.setCell (World.setCell (World.setCell w7 ⟨g7, _, none⟩ _) ⟨g7, _, none⟩ _) ⟨g7, _, none⟩ _) ⟨g7, _, none⟩ _) = w8
            obtain ⟨hc8, hf8, hS8, hB8, hT8⟩ := put_ab (w0 := w) S6.out (by rw [rws_len]; omega) ho hb hg hat (2) (t1) (⟨#[]⟩) hwn.symm
            rw [HX.out] at hc8
            refine last_ (i := 16) (N := none) #[true, true, true, true, true, true, true, true, true, true, true, true, true, true, true, true, true] rfl rfl (one_of HT_.out (by kernel_rfl)) (by decide) (fun K hK => ?_)
            refine skip_ (w1 := ?_) (by rfl) rfl ?_ ?_
            rotate_left
            · go_simp
              rfl
            refine hK.out _ _ ?_
            clear hK K
            refine done_ (done_of HT_.out (by kernel_rfl)) ?_
            obtain ⟨hs8, hS8⟩ := hS8
            rw [rws_add] at hS8
            have S8 := Aside0.mk hS8
            have B8 := Aside0.mk hB8
            have R8 := Aside0.mk (R_KT R6.out hT8)
            clear hc8 hf8 hS8 hB8 hT8 ho hb hg hat hm7 c7b hwn
            go_wp2_with (first | (rw [V1.out]))
            have h1_ := HL.out
            have h2_ := HLT.out
            refine ⟨⟨i + 1, st, (top ++ [⟨2, t1, ⟨#[]⟩, []⟩]), rfl, ⟨by omega, h1_.add_, HF.out⟩, ⟨_, S8.out⟩, B8, R8⟩, ?_⟩
            simp only [intOf, Int.toNat_natCast]
            omega
          · have hc7 := head_of hm7.1 HX.out
            have hf7 := head_fz hm7.1
            refine skip_ (w1 := ?_) (by rfl) rfl ?_ ?_
            rotate_left
            · go_simp
              rfl
            refine hK.out _ _ ?_
            clear hK K
            clear hc7 hf7
            generalize hwn : (World.setCell w7 ⟨L4, st.length, none⟩ _) = w8
            obtain ⟨⟨y0, y1, y2, y3, f0, f1, f2, f3, ff⟩, hS8, hB8, hT8⟩ := put_ba (w0 := w) S6.out (by rw [rws_len]; omega) ho hb hg hat (2) (t1) (⟨#[]⟩) hwn.symm
            have ff0 := ff 0
            have ff1 := ff 1
            have ff2 := ff 2
            have ff3 := ff 3
            rw [Nat.add_zero] at ff0
            refine last_ (i := 14) (N := none) #[true, true, true, true, true, true, true, true, true, true, true, true, true, true, true, true, true] rfl rfl (one_of HT_.out (by kernel_rfl)) (by decide) (fun K hK => ?_)
            refine skip_ (w1 := ?_) (by rfl) rfl ?_ ?_
            rotate_left
            · go_simp
              rfl
            refine hK.out _ _ ?_
            clear hK K
            refine done_ (done_of HT_.out (by kernel_rfl)) ?_
            obtain ⟨hs8, hS8⟩ := hS8
            rw [rws_add] at hS8
            have S8 := Aside0.mk hS8
            have B8 := Aside0.mk hB8
            have R8 := Aside0.mk (R_KT R6.out hT8)
            clear f0 f1 f2 f3 ff ff0 ff1 ff2 ff3 hS8 hB8 hT8 ho hb hg hat hm7 c7b hwn
            go_wp2_with (first | (rw [V1.out]))
            have h1_ := HL.out
            have h2_ := HLT.out
            refine ⟨⟨i + 1, st, (top ++ [⟨2, t1, ⟨#[]⟩, []⟩]), rfl, ⟨by omega, h1_.add_, HF.out⟩, ⟨_, S8.out⟩, B8, R8⟩, ?_⟩
            simp only [intOf, Int.toNat_natCast]
            omega

      · obtain rfl : i = tl.length := by omega
        rw [List.drop_eq_nil_of_le (Nat.le_refl _)] at hF
        cases st with
        | nil =>
          rw [frun_0] at hF
          simp only [Prod.mk.injEq] at hF
          obtain ⟨rfl, rfl, rfl⟩ := hF
          have hrow := hS.row 0 (by simp [rws])
          rw [show (rws [] top).getD 0 [] = top from rfl] at hrow
          obtain ⟨A0, c0, hx⟩ := Kd.R_slice hrow
          have hcn := Kd.R_celln (enc := slv) (h1 := fun _ => rfl) (none, 0, 0) hS.out (0 : Int) (by omega) (by simp)
          have k1 : wr.cell? ⟨L4, 0, none⟩ = some (.slice A0 top.length c0) := by
            have h_ := hcn.1
            have e_ : slv (rdOf (none, 0, 0) hs (0 : Int)) = hv hs 0 := (hv_rd hs 0).symm
            rw [e_, hx] at h_
            exact h_
          rw [hx] at hrow
          have RR := Aside0.mk hrow
          clear hi hlen hst hlt hS hx hcn hrow
          go_wp2
          refine bodyPost_ret (v := .tuple #[.slice A0 top.length c0, .int .i64 0, .int .i64 0]) (by simp [results, Tryd.results14, go_sem]) rfl ?_
          exact ⟨_, rfl, Kd.R_mono RR.out (fun _ _ => trivial), B4.out⟩
        | cons p st' =>
          rw [frun_00] at hF
          simp only [Prod.mk.injEq] at hF
          obtain ⟨rfl, rfl, rfl⟩ := hF
          have q1 : ((1 : Int) < (st'.length : Int) + 1 + 1) = True := eq_true (by omega)
          clear hi hlen hst hlt hS htp
          go_wp2
          refine bodyPost_ret (v := .tuple #[.slice none 0 0, .int .i64 s.size, .int .i64 7]) (by simp [results, Tryd.results14, go_sem]) rfl ?_
          exact ⟨_, rfl, Kd.R_nil _ _ _ _ _, B4.out⟩

  · rw [if_neg he] at FP
    have q2 : (te = 0) = False := eq_false he
    have q3 : (te == 0) = false := by simpa using he
    have q4 : (te != 0) = true := by simpa using he
    simp only [Prod.mk.injEq] at FP
    obtain ⟨rfl, rfl, rfl⟩ := FP
    clear he TA
    go_enter Tryd.func14, Tryd.ntmps14
    go_wp2_with (first | (go_at_call 30; refine (TK_.out _).mono ?_; rintro e w1 ⟨v1, rfl, hR, hb⟩; obtain ⟨A1, c1, rfl, hc1, hC⟩ := Kd.R_reads hR; have R1 := Aside0.mk hR; have B1 := Aside0.mk hb; clear hR hb hC hc1))
    refine bodyPost_ret (v := .tuple #[.slice none 0 0, .int .i64 r2, .int .i64 r3]) (by simp [results, Tryd.results14, go_sem]) rfl ?_
    exact ⟨_, rfl, Kd.R_nil _ _ _ _ _, B1.out⟩
end Go.Proofs.YtkkmgahgejjhgaaDoor.Frm
namespace Go.Proofs.YtkkmgahgejjhgaaDoor.P
open Go.RowKit Go.Proofs.YtkkmgahgejjhgaaDoorW.PrintWords
end Go.Proofs.YtkkmgahgejjhgaaDoor.P
/-
  DERIVED: THE SHELF's CONTRACTS AT THIS DUMP, IN PLAIN WORDS (tools/lay-plain.mjs out of 'TrydShelf.lean', which tools/lay-shelf.mjs wrote): THE SAME DECLARATIONS UNDER THE SAME NAMES: 'import', 'namespace', 'open', 'def', 'theorem' AND NOTHING ELSE: no command of the shelf's: FOR A HAND-IN. Each laying: the table of numbers ('.._ren') and one theorem, a field a fact of the dump's own or the kernel's comparison; each contract: ONE APPLICATION.
-/
namespace Go.Proofs
open Go.Shelf
def Tryd.lays156_ren : Go.Shelf.Ren := ⟨fun | 156 => 34 | 165 => 45 | 166 => 46 | 169 => 47 | 240 => 59 | 241 => 60 | 276 => 71 | 277 => 72 | n => n, fun | 31 => 27 | 9 => 9 | 3 => 3 | 4 => 4 | 0 => 0 | 20 => 20 | 72 => 81 | 76 => 85 | 70 => 79 | 37 => 25 | 75 => 84 | 127 => 93 | 164 => 101 | 5 => 5 | 80 => 87 | n => n, fun | n => n⟩
theorem Tryd.lays156 : Go.Proofs.Lays.n156 Tryd.prog Tryd.lays156_ren := {
  mixed := by kernel_rfl
  f156 := Tryd.func34.trans (congrArg some (by kernel_rfl))
  f165 := Tryd.func45.trans (congrArg some (by kernel_rfl))
  f166 := Tryd.func46.trans (congrArg some (by kernel_rfl))
  f169 := Tryd.func47.trans (congrArg some (by kernel_rfl))
  f240 := Tryd.func59.trans (congrArg some (by kernel_rfl))
  f241 := Tryd.func60.trans (congrArg some (by kernel_rfl))
  f276 := Tryd.func71.trans (congrArg some (by kernel_rfl))
  f277 := Tryd.func72.trans (congrArg some (by kernel_rfl))
  t0 := Tryd.underlying0
  a0 := Tryd.isAgg0
  z0 := Tryd.sizeOf0
  v0 := Tryd.zeroValue0
  t3 := Tryd.underlying3
  a3 := Tryd.isAgg3
  z3 := Tryd.sizeOf3
  v3 := Tryd.zeroValue3
  t4 := Tryd.underlying4
  a4 := Tryd.isAgg4
  z4 := Tryd.sizeOf4
  v4 := Tryd.zeroValue4
  t9 := Tryd.underlying9
  a9 := Tryd.isAgg9
  z9 := Tryd.sizeOf9
  v9 := Tryd.zeroValue9
  t20 := Tryd.underlying20
  a20 := Tryd.isAgg20
  z20 := Tryd.sizeOf20
  v20 := Tryd.zeroValue20
  t31 := Tryd.underlying27
  a31 := Tryd.isAgg27
  z31 := Tryd.sizeOf27
  v31 := Tryd.zeroValue27
  t37 := Tryd.underlying25
  a37 := Tryd.isAgg25
  z37 := Tryd.sizeOf25
  v37 := Tryd.zeroValue25
  t70 := Tryd.underlying79
  a70 := Tryd.isAgg79
  z70 := Tryd.sizeOf79
  v70 := Tryd.zeroValue79
  t72 := Tryd.underlying81
  a72 := Tryd.isAgg81
  z72 := Tryd.sizeOf81
  v72 := Tryd.zeroValue81
  t75 := Tryd.underlying84
  a75 := Tryd.isAgg84
  z75 := Tryd.sizeOf84
  v75 := Tryd.zeroValue84
  t76 := Tryd.underlying85
  a76 := Tryd.isAgg85
  z76 := Tryd.sizeOf85
  v76 := Tryd.zeroValue85
  t127 := Tryd.underlying93
  a127 := Tryd.isAgg93
  z127 := Tryd.sizeOf93
  v127 := Tryd.zeroValue93
  t164 := Tryd.underlying101
  a164 := Tryd.isAgg101
  z164 := Tryd.sizeOf101
  v164 := Tryd.zeroValue101 }
theorem Tryd.Builder_Extra_156 : Builder.Extra Tryd.prog Tryd.lays156_ren := {
  sizeBuilder := by kernel_rfl
  liesBuilder := by kernel_rfl
  t5 := Tryd.underlying5
  a5 := Tryd.isAgg5
  z5 := Tryd.sizeOf5
  v5 := Tryd.zeroValue5
  infoByte := by kernel_rfl
  cellsByte := by kernel_rfl
  sizeByte := by kernel_rfl
  neB5 := by decide }
open Go.RowKit in
/-- No element: the empty string; the world is as it was. (Whatever the slice's address and capacity: a nil slice too.) (LAID: no walk: one application.) -/
theorem Tryd.strings_Join_none (a : Option Addr) (c : Nat) (sep : ByteArray) (w : World) :
    Calls Tryd.prog 34 #[.slice a 0 c, .string sep] w fun e w' => e = .returned (.string ⟨#[]⟩) ∧ w' = w := Any.strings_Join_none Tryd.lays156 Tryd.Builder_Extra_156 a c sep w
open Go.RowKit in
/-- strings.Join: "Join concatenates the elements of its first argument to create a single string. The separator string sep is placed between elements in the resulting string.": HOWEVER MANY ELEMENTS. Below the heap's end the world is as it was. (LAID: no walk: one application.) -/
theorem Tryd.strings_Join (bk o c : Nat) (xs : List ByteArray) (sep : ByteArray) (w : World) (hcells : ∀ (j : Nat) x, xs[j]? = some x → w.cell? ⟨bk, o + j, none⟩ = some (.string x)) (hbk : bk < w.heap.size) (hN : xs.length ≤ 140737488355328) (hcap : xs.length ≤ c) (hlen : (Lib.join (xs.map (·.data.toList)) sep.data.toList).length ≤ 140737488355328) :
    Calls Tryd.prog 34 #[.slice (some ⟨bk, o, none⟩) xs.length c, .string sep] w fun e w' => e = .returned (.string ⟨(Lib.join (xs.map (·.data.toList)) sep.data.toList).toArray⟩) ∧ Below w.heap.size w w' := Any.strings_Join Tryd.lays156 Tryd.Builder_Extra_156 bk o c xs sep w hcells hbk hN hcap hlen
def Tryd.laysM171_ren : Go.Shelf.Ren := ⟨fun | 171 => 33 | 243 => 44 | 246 => 58 | 283 => 67 | 284 => 68 | 285 => 69 | 286 => 70 | 129 => 76 | 317 => 75 | 318 => 77 | 319 => 78 | 320 => 79 | 337 => 80 | 338 => 81 | n => n, fun | 3 => 3 | 9 => 9 | 2 => 2 | 4 => 4 | 171 => 96 | 0 => 0 | 53 => 91 | 37 => 25 | 5 => 5 | 173 => 99 | 212 => 107 | 51 => 108 | 20 => 20 | 213 => 109 | 46 => 110 | 232 => 113 | 233 => 114 | n => n, fun | 17 => 0 | 18 => 2 | 19 => 3 | n => n⟩
theorem Tryd.laysM171 : Go.Proofs.LaysM.n171 Tryd.prog Tryd.laysM171_ren := {
  mixed := by kernel_rfl
  f129 := Tryd.func76.trans (congrArg some (by kernel_rfl))
  f171 := Tryd.func33.trans (congrArg some (by kernel_rfl))
  f243 := Tryd.func44.trans (congrArg some (by kernel_rfl))
  f246 := Tryd.func58.trans (congrArg some (by kernel_rfl))
  f283 := Tryd.func67.trans (congrArg some (by kernel_rfl))
  f284 := Tryd.func68.trans (congrArg some (by kernel_rfl))
  f285 := Tryd.func69.trans (congrArg some (by kernel_rfl))
  f286 := Tryd.func70.trans (congrArg some (by kernel_rfl))
  f317 := Tryd.func75.trans (congrArg some (by kernel_rfl))
  f318 := Tryd.func77.trans (congrArg some (by kernel_rfl))
  f319 := Tryd.func78.trans (congrArg some (by kernel_rfl))
  f320 := Tryd.func79.trans (congrArg some (by kernel_rfl))
  f337 := Tryd.func80.trans (congrArg some (by kernel_rfl))
  f338 := Tryd.func81.trans (congrArg some (by kernel_rfl))
  t0 := Tryd.underlying0
  a0 := Tryd.isAgg0
  z0 := Tryd.sizeOf0
  v0 := Tryd.zeroValue0
  t2 := Tryd.underlying2
  a2 := Tryd.isAgg2
  z2 := Tryd.sizeOf2
  v2 := Tryd.zeroValue2
  t3 := Tryd.underlying3
  a3 := Tryd.isAgg3
  z3 := Tryd.sizeOf3
  v3 := Tryd.zeroValue3
  t4 := Tryd.underlying4
  a4 := Tryd.isAgg4
  z4 := Tryd.sizeOf4
  v4 := Tryd.zeroValue4
  t5 := Tryd.underlying5
  a5 := Tryd.isAgg5
  z5 := Tryd.sizeOf5
  v5 := Tryd.zeroValue5
  t9 := Tryd.underlying9
  a9 := Tryd.isAgg9
  z9 := Tryd.sizeOf9
  v9 := Tryd.zeroValue9
  t20 := Tryd.underlying20
  a20 := Tryd.isAgg20
  z20 := Tryd.sizeOf20
  v20 := Tryd.zeroValue20
  t37 := Tryd.underlying25
  a37 := Tryd.isAgg25
  z37 := Tryd.sizeOf25
  v37 := Tryd.zeroValue25
  t46 := Tryd.underlying110
  a46 := Tryd.isAgg110
  z46 := Tryd.sizeOf110
  v46 := Tryd.zeroValue110
  t51 := Tryd.underlying108
  a51 := Tryd.isAgg108
  z51 := Tryd.sizeOf108
  v51 := Tryd.zeroValue108
  t53 := Tryd.underlying91
  a53 := Tryd.isAgg91
  z53 := Tryd.sizeOf91
  v53 := Tryd.zeroValue91
  t171 := Tryd.underlying96
  a171 := Tryd.isAgg96
  z171 := Tryd.sizeOf96
  v171 := Tryd.zeroValue96
  t173 := Tryd.underlying99
  a173 := Tryd.isAgg99
  z173 := Tryd.sizeOf99
  v173 := Tryd.zeroValue99
  t212 := Tryd.underlying107
  a212 := Tryd.isAgg107
  z212 := Tryd.sizeOf107
  v212 := Tryd.zeroValue107
  t213 := Tryd.underlying109
  a213 := Tryd.isAgg109
  z213 := Tryd.sizeOf109
  t232 := Tryd.underlying113
  a232 := Tryd.isAgg113
  z232 := Tryd.sizeOf113
  v232 := Tryd.zeroValue113
  t233 := Tryd.underlying114
  a233 := Tryd.isAgg114
  z233 := Tryd.sizeOf114
  v233 := Tryd.zeroValue114
  g17 := by kernel_rfl
  g18 := by kernel_rfl
  g19 := by kernel_rfl
  i0 := by kernel_rfl
  i2 := by kernel_rfl
  i3 := by kernel_rfl
  i4 := by kernel_rfl
  i5 := by kernel_rfl
  i9 := by kernel_rfl
  i20 := by kernel_rfl
  i37 := by kernel_rfl
  i46 := by kernel_rfl
  i51 := by kernel_rfl
  i53 := by kernel_rfl
  i171 := by kernel_rfl
  i173 := by kernel_rfl
  i212 := by kernel_rfl
  i232 := by kernel_rfl
  i233 := by kernel_rfl
  m17 := by kernel_rfl
  m18 := by kernel_rfl
  m19 := by kernel_rfl }
open Go.RowKit Go.Sort Go.Lib in
/-- strconv.Itoa: "Itoa is equivalent to FormatInt(int64(i), 10).": i's DECIMAL NUMERAL ('Lib.itoa': a '-' where i is negative, then the digits), FOR EVERY int. The world behind the call: the world before it, new blocks behind the heap (the library's 'var a [24]byte'), draws. (LAID: no walk: one application.) -/
theorem Tryd.strconv_Itoa (n : Int) (h0 : -9223372036854775808 ≤ n) (h1 : n ≤ 9223372036854775807) (w : World) (htab : Lib.TabIs Tryd.prog w "internal/strconv.uint64pow10" .u64 Lib.pow10Tab) :
    Calls Tryd.prog 33 #[.int .i64 n] w fun e w' => e = .returned (.string ⟨(Lib.itoa n).toArray⟩) ∧ ∃ k os, w' = grow (w.drewN k) os := Any.strconv_Itoa Tryd.laysM171 n h0 h1 w htab
end Go.Proofs
/- Go's library: strconv.Itoa (its table stands: TabP), strings.Join; in the print's form. -/
namespace Go.Proofs.YtkkmgahgejjhgaaDoor.P
open Go.RowKit Go.Proofs.YtkkmgahgejjhgaaDoorW.PrintWords Go.Proofs.YtkkmgahgejjhgaaDoorW.PrintLast Go.Proofs.YtkkmgahgejjhgaaDoorW.PrintMore
set_option linter.unusedVariables false
/-- strconv's table of powers of ten holds what it was laid with. -/
def TabP (w : World) : Prop := Lib.TabIs Tryd.prog w "internal/strconv.uint64pow10" .u64 Lib.pow10Tab
theorem TabP.below {w w' : World} (h : TabP w) (hb : Below w.heap.size w w') : TabP w' := by
  obtain ⟨g, hg⟩ : ∃ g, Tryd.prog.globalNamed "internal/strconv.uint64pow10" = some g := by
    unfold TabP Lib.TabIs World.var? at h
    cases hg : Tryd.prog.globalNamed "internal/strconv.uint64pow10" with
    | none => rw [hg] at h; cases h
    | some g => exact ⟨g, rfl⟩
  unfold TabP Lib.TabIs World.var? at h ⊢
  rw [hg, Option.bind_some] at h ⊢
  have hlt : g < w.heap.size := Decidable.byContradiction fun hn => by
    rw [Array.getElem?_eq_none (Nat.le_of_not_lt hn)] at h
    cases h
  rw [hb.block g hlt]
  exact h
def strconv_Itoa.f (a0 : Int) : Option ByteArray := if -9223372036854775808 ≤ a0 ∧ a0 ≤ 9223372036854775807 then some ⟨(Lib.itoa a0).toArray⟩ else none
theorem strconv_Itoa.calls (a0 : Int) (r : ByteArray) (w : World) (hT : TabP w) (h : strconv_Itoa.f a0 = some r) :
    Calls Tryd.prog 33 #[.int .i64 a0] w fun e w' => e = .returned (.string r) ∧ Below w.heap.size w w' := by
  unfold strconv_Itoa.f at h
  by_cases h1 : -9223372036854775808 ≤ a0 ∧ a0 ≤ 9223372036854775807
  · rw [if_pos h1] at h
    cases Option.some.inj h
    refine (Tryd.strconv_Itoa a0 h1.1 h1.2 w hT).mono ?_
    rintro e w' ⟨rfl, k, os, rfl⟩
    exact ⟨rfl, rfl, rfl, rfl, (by show w.heap.size ≤ (w.heap ++ os).size; rw [Array.size_append]; omega), fun j hj => (show (w.heap ++ os)[j]? = w.heap[j]? from Array.getElem?_append_left hj)⟩
  · rw [if_neg h1] at h
    cases h
def strings_Join.f (l : List ByteArray) (sep : ByteArray) : Option ByteArray :=
  if l.length ≤ 140737488355328 ∧ (Lib.join (l.map (·.data.toList)) sep.data.toList).length ≤ 140737488355328 then some ⟨(Lib.join (l.map (·.data.toList)) sep.data.toList).toArray⟩ else none
theorem strings_Join.calls (A : Option Addr) (c : Nat) (l : List ByteArray) (sep : ByteArray) (r : ByteArray) (w : World) (hr : Kd.C Kd.string w A l.length l) (hc : l.length ≤ c) (h : strings_Join.f l sep = some r) :
    Calls Tryd.prog 34 #[.slice A l.length c, .string sep] w fun e w' => e = .returned (.string r) ∧ Below w.heap.size w w' := by
  unfold strings_Join.f at h
  by_cases h1 : l.length ≤ 140737488355328 ∧ (Lib.join (l.map (·.data.toList)) sep.data.toList).length ≤ 140737488355328
  · rw [if_pos h1] at h
    cases Option.some.inj h
    by_cases hl : l.length = 0
    · have hn : l = [] := List.eq_nil_of_length_eq_zero hl
      subst hn
      refine (Tryd.strings_Join_none A c sep w).mono ?_
      rintro e w' ⟨rfl, rfl⟩
      exact ⟨rfl, Below.refl _ _⟩
    · obtain ⟨⟨bk, o, q⟩, rfl, h0⟩ := Kd.at_string hr 0 (by decide) (by omega)
      have hq : q = none := by
        cases q with
        | none => rfl
        | some s =>
          exfalso
          have h2 : w.cell? ⟨bk, o, some s⟩ = some (.string (rdOf ByteArray.empty l 0)) := h0
          unfold World.cell? at h2
          split at h2
          · simp at h2
          · cases h2
      subst hq
      refine Tryd.strings_Join bk o c l sep w (fun j x hx => ?_) ?_ h1.1 hc h1.2
      · have hj : j < l.length := (List.getElem?_eq_some_iff.mp hx).1
        obtain ⟨ad, he, hj2⟩ := Kd.at_string hr (j : Int) (by omega) (by omega)
        cases he
        have hv : rdOf ByteArray.empty l (j : Int) = x := by
          show l.getD (j : Int).toNat ByteArray.empty = x
          rw [Int.toNat_natCast, List.getD_eq_getElem?_getD, hx]
          rfl
        rw [hv, Int.toNat_natCast] at hj2
        unfold Addr.add at hj2
        by_cases hz : j = 0
        · subst hz
          exact hj2
        · rw [if_neg hz] at hj2
          exact hj2
      · exact World.block_lt_of_cell? w _ h0
  · rw [if_neg h1] at h
    cases h
end Go.Proofs.YtkkmgahgejjhgaaDoor.P
/- forms.Text of any form: strconv.Itoa's table stands (TabP), and stands in every later world. Printed by mkprint.py, turned by gentextF.py. -/
namespace Go.Proofs.YtkkmgahgejjhgaaDoor.P
open Go.RowKit Go.Proofs.YtkkmgahgejjhgaaDoorW.PrintWords Go.Proofs.YtkkmgahgejjhgaaDoorW.PrintLast Go.Proofs.YtkkmgahgejjhgaaDoorW.PrintMore
attribute [local go_sem] max2_int min2_int max_two min_two max_three min_three max_four min_four
set_option linter.unusedVariables false
set_option linter.unusedSimpArgs false
/-! ### forms_Text: function 19 -/
mutual
def forms_Text.l0 : Nat → List ByteArray → List (S42) → Int → Int → Option (ByteArray)
  | 0, _, _, _, _ => none
  | k + 1, x3, x18, x19, x20 => if x20 < x19 then (if 0 ≤ x20 then (if x20 < (x18.length : Int) then ((forms_Text.f k ((rd_T42 x18 x20).f0) ((rd_T42 x18 x20).f1) ((rd_T42 x18 x20).f2) ((rd_T42 x18 x20).f3)).bind fun t105 => (if x3.length < 8796093022208 then (forms_Text.l0 k (x3 ++ [t105]) x18 x19 (wrap64 (x20 + 1))) else (none))) else (none)) else (none)) else ((strings_Join.f x3 (⟨#[32]⟩ : ByteArray)).bind fun t109 => (if 1 + t109.size ≤ 9223372036854775807 then (if ((⟨#[40]⟩ : ByteArray) ++ t109).size + 1 ≤ 9223372036854775807 then (some (((⟨#[40]⟩ : ByteArray) ++ t109) ++ (⟨#[41]⟩ : ByteArray))) else (none)) else (none)))
def forms_Text.f : Nat → Int → Int → ByteArray → List (S42) → Option (ByteArray)
  | 0, _, _, _, _ => none
  | k + 1, a0_0, a0_1, a0_2, l0_3 => if a0_0 = 1 then (some a0_2) else (if a0_0 = 2 then ((strconv_Itoa.f a0_1).bind fun t102 => (some t102)) else (forms_Text.l0 k ([] : List ByteArray) l0_3 (l0_3.length : Int) 0))
end
set_option maxHeartbeats 8000000 in
set_option maxRecDepth 100000 in
theorem forms_Text.calls (k : Nat) : ∀ (a0_0 : Int) (a0_1 : Int) (a0_2 : ByteArray) (A0_3 : Option Addr) (c0_3 : Nat) (l0_3 : List (S42)) (r : ByteArray) (w : World) (hT : TabP w) (hr0_3 : Kd.C k42 w A0_3 l0_3.length l0_3) (hc0_3 : l0_3.length ≤ c0_3) (h : forms_Text.f k a0_0 a0_1 a0_2 l0_3 = some r),
    Calls Tryd.prog 19 #[.agg #[.int .i64 a0_0, .int .i64 a0_1, .string a0_2, .slice A0_3 l0_3.length c0_3]] w fun e w' => e = .returned (.string r) ∧ Below w.heap.size w w' := by
  induction k using Nat.strongRecOn with
  | _ k ih =>
  intro a0_0 a0_1 a0_2 A0_3 c0_3 l0_3 r w hT hr0_3 hc0_3 h
  cases k with
  | zero => exact absurd h (by simp [forms_Text.f])
  | succ k =>
  simp only [forms_Text.f] at h
  have HTB := Aside0.mk hT
  clear hT
  have hu42 := Tryd.underlying42
  have HR0_3 := Aside0.mk hr0_3
  have HC0_3 := Aside0.mk hc0_3
  clear hr0_3 hc0_3
  have HB := Aside0.mk (Below.refl w.heap.size w)
  have H : (if a0_0 = 1 then (some a0_2) else (if a0_0 = 2 then ((strconv_Itoa.f a0_1).bind fun t102 => (some t102)) else (forms_Text.l0 k ([] : List ByteArray) l0_3 (l0_3.length : Int) 0))) = some r := h
  clear h
  by_cases c2 : a0_0 = 1
  · rw [if_pos c2] at H
    have c2b0 : (a0_0 == 1) = true := beq_iff_eq.mpr c2
    have c2b1 : (a0_0 != 1) = false := bne_eq_false_iff_eq.mpr c2
    clear c2
    obtain rfl := Option.some.inj H
    go_enter Tryd.func19, Tryd.ntmps19
    go_wp2_with (first | ((with_reducible refine gate_dst (N := 1) rfl ?_); refine box_event ?hg (N := 1) ?hd (cs := #[.int .i64 a0_0, .int .i64 a0_1, .string a0_2, .slice A0_3 l0_3.length c0_3]) (t := 42) ?hr ?_; (case hd => rfl); (case hg => rfl); (case hr => first | (go_simp; done) | (go_simp; rfl)); intro gb101 hg w3 hbox hb; have n0_ := Aside0.mk (below_step (by repeat (first | (with_reducible first | exact HB.out | apply below_alloc | apply pw_below_drewN | apply below_drew1) | exact HB.out)) hb); have n1_ := Aside0.mk (hbox); have n2_ := Aside0.mk ((by rw [hg]; exact (below_size (by repeat (first | (with_reducible first | exact HB.out | apply below_alloc | apply pw_below_drewN | apply below_drew1) | exact HB.out))) : w.heap.size ≤ gb101)); have n3_ := Aside0.mk ((by rw [hg]; exact (below_size (by repeat (first | (with_reducible first | exact HB.out | apply below_alloc | apply pw_below_drewN | apply below_drew1) | exact HB.out))) : w.heap.size ≤ gb101)); clear HB; have HB := n0_; have BK101 := n1_; have GW101 := n2_; have GE101 := n3_; clear n0_ n1_ n2_ n3_; clear hb hbox hg; have hcz4_0 : w3.cell? ⟨gb101, 0, none⟩ = some (.int .i64 a0_0) := (blk_cell BK101.out 0).trans rfl; have hcz4_1 : w3.cell? ⟨gb101, 1, none⟩ = some (.int .i64 a0_1) := (blk_cell BK101.out 1).trans rfl; have hcz4_2 : w3.cell? ⟨gb101, 2, none⟩ = some (.string a0_2) := (blk_cell BK101.out 2).trans rfl; have hcz4_3 : w3.cell? ⟨gb101, 3, none⟩ = some (.slice A0_3 l0_3.length c0_3) := (blk_cell BK101.out 3).trans rfl; have hfz4_0 := blk_frozen BK101.out 0; have hfz4_1 := blk_frozen BK101.out 1; have hfz4_2 := blk_frozen BK101.out 2; have hfz4_3 := blk_frozen BK101.out 3))
    go_ret
    exact ⟨by first | rfl | (simp [errW_none, errW_some] <;> rfl) | (simp [*, errW_none, errW_some] <;> rfl), by repeat (first | (with_reducible first | exact HB.out | apply below_alloc | apply pw_below_drewN | apply below_drew1 | refine below_set ?_ GE101.out) | exact HB.out)⟩
  · rw [if_neg c2] at H
    have c2b0 : (a0_0 == 1) = false := beq_eq_false_iff_ne.mpr c2
    have c2b1 : (a0_0 != 1) = true := bne_iff_ne.mpr c2
    by_cases c5 : a0_0 = 2
    · rw [if_pos c5] at H
      have c5b0 : (a0_0 == 2) = true := beq_iff_eq.mpr c5
      have c5b1 : (a0_0 != 2) = false := bne_eq_false_iff_eq.mpr c5
      clear c5
      replace H := Option.bind_eq_some_iff.mp H
      obtain ⟨t102, A60, H⟩ := H
      replace H : (some t102) = some r := H
      have A6 := Aside0.mk A60
      clear A60
      obtain rfl := Option.some.inj H
      go_enter Tryd.func19, Tryd.ntmps19
      go_wp2_with (first | ((with_reducible refine gate_dst (N := 1) rfl ?_); refine box_event ?hg (N := 1) ?hd (cs := #[.int .i64 a0_0, .int .i64 a0_1, .string a0_2, .slice A0_3 l0_3.length c0_3]) (t := 42) ?hr ?_; (case hd => rfl); (case hg => rfl); (case hr => first | (go_simp; done) | (go_simp; rfl)); intro gb101 hg w7 hbox hb; have n0_ := Aside0.mk (below_step (by repeat (first | (with_reducible first | exact HB.out | apply below_alloc | apply pw_below_drewN | apply below_drew1) | exact HB.out)) hb); have n1_ := Aside0.mk (hbox); have n2_ := Aside0.mk ((by rw [hg]; exact (below_size (by repeat (first | (with_reducible first | exact HB.out | apply below_alloc | apply pw_below_drewN | apply below_drew1) | exact HB.out))) : w.heap.size ≤ gb101)); have n3_ := Aside0.mk ((by rw [hg]; exact (below_size (by repeat (first | (with_reducible first | exact HB.out | apply below_alloc | apply pw_below_drewN | apply below_drew1) | exact HB.out))) : w.heap.size ≤ gb101)); clear HB; have HB := n0_; have BK101 := n1_; have GW101 := n2_; have GE101 := n3_; clear n0_ n1_ n2_ n3_; clear hb hbox hg; have hcz8_0 : w7.cell? ⟨gb101, 0, none⟩ = some (.int .i64 a0_0) := (blk_cell BK101.out 0).trans rfl; have hcz8_1 : w7.cell? ⟨gb101, 1, none⟩ = some (.int .i64 a0_1) := (blk_cell BK101.out 1).trans rfl; have hcz8_2 : w7.cell? ⟨gb101, 2, none⟩ = some (.string a0_2) := (blk_cell BK101.out 2).trans rfl; have hcz8_3 : w7.cell? ⟨gb101, 3, none⟩ = some (.slice A0_3 l0_3.length c0_3) := (blk_cell BK101.out 3).trans rfl; have hfz8_0 := blk_frozen BK101.out 0; have hfz8_1 := blk_frozen BK101.out 1; have hfz8_2 := blk_frozen BK101.out 2; have hfz8_3 := blk_frozen BK101.out 3) | ((with_reducible refine gate_callee (f := 33) rfl ?_); refine goesL_ (some 16) rfl rfl Tryd.func33 (by kernel_rfl) rfl #[.int .i64 a0_1] rfl (by (try simp only [List.map_toArray, List.map_cons, List.map_nil]); first | done | rfl | (simp only [List.length_drop, List.length_take]; rfl)) ?_; (with_reducible refine (strconv_Itoa.calls a0_1 t102 _ ?sideT A6.out).mono ?_); (case sideT => exact TabP.below HTB.out (by repeat (first | (with_reducible first | exact HB.out | apply below_alloc | apply pw_below_drewN | apply below_drew1 | refine below_set ?_ GE101.out | refine below_set ?_ GE104.out) | exact HB.out))); rintro e w9 ⟨rfl, hb⟩; refine ⟨_, rfl, ?_⟩; have n0_ := Aside0.mk (blk_below (g := gb101) (o := .cells #[.int .i64 a0_0, .int .i64 a0_1, .string a0_2, .slice A0_3 l0_3.length c0_3] 42 (0, 0)) (by (with_reducible repeat (first | refine blk_drewN ?_ _ | refine blk_drew ?_ | refine blk_alloc ?_ _)); exact BK101.out) hb); have n1_ := Aside0.mk (below_step (by repeat (first | (with_reducible first | exact HB.out | apply below_alloc | apply pw_below_drewN | apply below_drew1 | refine below_set ?_ GE101.out) | exact HB.out)) hb); clear BK101; clear HB; have BK101 := n0_; have HB := n1_; clear n0_ n1_; (try clear hb); (try clear hb2); (try clear hk); (try clear hi)))
      go_ret
      exact ⟨by first | rfl | (simp [errW_none, errW_some] <;> rfl) | (simp [*, errW_none, errW_some] <;> rfl), by repeat (first | (with_reducible first | exact HB.out | apply below_alloc | apply pw_below_drewN | apply below_drew1 | refine below_set ?_ GE101.out) | exact HB.out)⟩
    · rw [if_neg c5] at H
      have c5b0 : (a0_0 == 2) = false := beq_eq_false_iff_ne.mpr c5
      have c5b1 : (a0_0 != 2) = true := bne_iff_ne.mpr c5
      have H' := Aside0.mk H
      clear H
      go_enter Tryd.func19, Tryd.ntmps19
      go_wp2_with (first | ((with_reducible refine gate_dst (N := 1) rfl ?_); refine box_event ?hg (N := 1) ?hd (cs := #[.int .i64 a0_0, .int .i64 a0_1, .string a0_2, .slice A0_3 l0_3.length c0_3]) (t := 42) ?hr ?_; (case hd => rfl); (case hg => rfl); (case hr => first | (go_simp; done) | (go_simp; rfl)); intro gb101 hg w10 hbox hb; have n0_ := Aside0.mk (below_step (by repeat (first | (with_reducible first | exact HB.out | apply below_alloc | apply pw_below_drewN | apply below_drew1) | exact HB.out)) hb); have n1_ := Aside0.mk (hbox); have n2_ := Aside0.mk ((by rw [hg]; exact (below_size (by repeat (first | (with_reducible first | exact HB.out | apply below_alloc | apply pw_below_drewN | apply below_drew1) | exact HB.out))) : w.heap.size ≤ gb101)); have n3_ := Aside0.mk ((by rw [hg]; exact (below_size (by repeat (first | (with_reducible first | exact HB.out | apply below_alloc | apply pw_below_drewN | apply below_drew1) | exact HB.out))) : w.heap.size ≤ gb101)); clear HB; have HB := n0_; have BK101 := n1_; have GW101 := n2_; have GE101 := n3_; clear n0_ n1_ n2_ n3_; clear hb hbox hg; have hcz11_0 : w10.cell? ⟨gb101, 0, none⟩ = some (.int .i64 a0_0) := (blk_cell BK101.out 0).trans rfl; have hcz11_1 : w10.cell? ⟨gb101, 1, none⟩ = some (.int .i64 a0_1) := (blk_cell BK101.out 1).trans rfl; have hcz11_2 : w10.cell? ⟨gb101, 2, none⟩ = some (.string a0_2) := (blk_cell BK101.out 2).trans rfl; have hcz11_3 : w10.cell? ⟨gb101, 3, none⟩ = some (.slice A0_3 l0_3.length c0_3) := (blk_cell BK101.out 3).trans rfl; have hfz11_0 := blk_frozen BK101.out 0; have hfz11_1 := blk_frozen BK101.out 1; have hfz11_2 := blk_frozen BK101.out 2; have hfz11_3 := blk_frozen BK101.out 3))
      go_loopg [3, 20] k (fun kq v3 v20 w' => ∃ (x3_1 : List ByteArray) (x20_1 : Int), v20 = .int .i64 x20_1 ∧ Aside0 (forms_Text.l0 kq x3_1 l0_3 (l0_3.length : Int) x20_1 = some r) ∧ Aside0 (kq ≤ k) ∧ Aside0 (Kd.R Kd.string 9 w' w.heap.size (fun _ => True) v3 x3_1) ∧ Aside0 (w'.heap[gb101]? = some (.cells #[.int .i64 a0_0, .int .i64 a0_1, .string a0_2, (.slice A0_3 l0_3.length c0_3)] 42 (0, 0))) ∧ Aside0 (Below w.heap.size w w'))
      case atStart => exact ⟨(([] : List ByteArray)), (0), (by first | rfl | (simp; done) | (simp [*]; done)), H', ⟨Nat.le_refl _⟩, ⟨by first | exact Kd.R_nil _ _ _ _ _ | exact Kd.N_nil _ _ _ _ _ | exact Kd.V_nil _ _ _ _ _ | exact Kd.Q_nil _ _ _ _ _ | exact Kd.S_nil _ _ _ _ _⟩, ⟨by (with_reducible repeat (first | refine blk_drewN ?_ _ | refine blk_drew ?_ | refine blk_alloc ?_ _)); exact BK101.out⟩, ⟨by repeat (first | (with_reducible first | exact HB.out | apply below_alloc | apply pw_below_drewN | apply below_drew1 | refine below_set ?_ GE101.out) | exact HB.out)⟩⟩
      case round =>
        clear H'
        try clear c1
        try clear c2
        try clear c2b0
        try clear c2b1
        try clear p2
        try clear c3
        try clear c5
        try clear c5b0
        try clear c5b1
        try clear hcz11_0
        try clear hcz11_1
        try clear hcz11_2
        try clear hcz11_3
        try clear hcz4_0
        try clear hcz4_1
        try clear hcz4_2
        try clear hcz4_3
        try clear hcz8_0
        try clear hcz8_1
        try clear hcz8_2
        try clear hcz8_3
        try clear hfz11_0
        try clear hfz11_1
        try clear hfz11_2
        try clear hfz11_3
        try clear hfz4_0
        try clear hfz4_1
        try clear hfz4_2
        try clear hfz4_3
        try clear hfz8_0
        try clear hfz8_1
        try clear hfz8_2
        try clear hfz8_3
        try clear HO_3
        try clear BK101
        try clear HB
        obtain ⟨x3_1, x20_1, rfl, HA, HK1, HO_3, BK101, HB⟩ := hrel
        cases gk with
        | zero => exact absurd HA.out (by simp [forms_Text.l0])
        | succ k1 =>
          have H := HA.out
          clear HA
          simp only [forms_Text.l0] at H
          by_cases c12 : x20_1 < (l0_3.length : Int)
          · rw [if_pos c12] at H
            have c12b0 : decide (x20_1 < (l0_3.length : Int)) = true := decide_eq_true c12
            clear c12
            by_cases c13 : 0 ≤ x20_1
            · rw [if_pos c13] at H
              have c13b0 : decide (0 ≤ x20_1) = true := decide_eq_true c13
              clear c13
              by_cases c14 : x20_1 < (l0_3.length : Int)
              · rw [if_pos c14] at H
                have c14b0 : decide (x20_1 < (l0_3.length : Int)) = true := decide_eq_true c14
                clear c14
                replace H := Option.bind_eq_some_iff.mp H
                obtain ⟨t105, A150, H⟩ := H
                replace H : (if x3_1.length < 8796093022208 then (forms_Text.l0 k1 (x3_1 ++ [t105]) l0_3 (l0_3.length : Int) (wrap64 (x20_1 + 1))) else (none)) = some r := H
                have A15 := Aside0.mk A150
                clear A150
                by_cases c16 : x3_1.length < 8796093022208
                · rw [if_pos c16] at H
                  have LMc16 := Aside0.mk c16
                  clear c16
                  obtain ⟨y106, hy106⟩ : ∃ y_ : List ByteArray, y_ = (x3_1 ++ [t105]) := ⟨_, rfl⟩
                  replace H : (forms_Text.l0 k1 y106 l0_3 (l0_3.length : Int) (wrap64 (x20_1 + 1))) = some r := by first | (rw [hy106]; with_reducible exact H) | (have H2_ := (Option.bind_some _ _).symm.trans H; rw [hy106]; with_reducible exact H2_) | (have H2_ := (Option.bind_some _ _).symm.trans H; with_reducible exact H2_) | with_reducible exact H | (rw [hy106]; exact H) | exact H
                  have Ny106 := Aside0.mk hy106
                  clear hy106
                  have H' := Aside0.mk H
                  clear H
                  have p103 : 0 ≤ (x20_1 : Int) := of_decide_eq_true (by first | (with_reducible assumption) | assumption)
                  have q103 : x20_1 < (l0_3.length : Int) := of_decide_eq_true (by first | (with_reducible assumption) | assumption)
                  obtain ⟨ad103, A103_3, c103_3, e103, hx103_0, hx103_1, hx103_2, hx103_3, hl103_3, hi103_3⟩ := at_T42 HR0_3.out x20_1 p103 q103
                  cases e103
                  replace hx103_0 := (HB.out.cell (World.block_lt_of_cell? w _ hx103_0)).trans hx103_0
                  replace hx103_1 := (HB.out.cell (World.block_lt_of_cell? w _ hx103_1)).trans hx103_1
                  replace hx103_2 := (HB.out.cell (World.block_lt_of_cell? w _ hx103_2)).trans hx103_2
                  replace hx103_3 := (HB.out.cell (World.block_lt_of_cell? w _ hx103_3)).trans hx103_3
                  have HR103_3 := Aside0.mk hi103_3
                  have HC103_3 := Aside0.mk hl103_3
                  clear hi103_3 hl103_3
                  replace p103 := eq_true p103
                  replace q103 := eq_true q103
                  go_wp2_with (first | ((with_reducible refine gate_dst (N := 5) rfl ?_); refine box_event ?hg (N := 5) ?hd (cs := #[.int .i64 0, .int .i64 0, .string (⟨#[]⟩ : ByteArray), .slice none 0 0]) (t := 42) ?hr ?_; (case hd => rfl); (case hg => rfl); (case hr => first | (go_simp; done) | (go_simp; rfl)); intro gb104 hg w17 hbox hb; have n0_ := Aside0.mk (Kd.R_below (by (with_reducible repeat (first | apply Kd.R_alloc | apply Kd.R_drewN | apply Kd.R_drew)); exact HO_3.out) hb); have n1_ := Aside0.mk (blk_below (g := gb101) (o := .cells #[.int .i64 a0_0, .int .i64 a0_1, .string a0_2, .slice (some ad103) l0_3.length c0_3] 42 (0, 0)) (by (with_reducible repeat (first | refine blk_drewN ?_ _ | refine blk_drew ?_ | refine blk_alloc ?_ _)); exact BK101.out) hb); have n2_ := Aside0.mk (below_step (by repeat (first | (with_reducible first | exact HB.out | apply below_alloc | apply pw_below_drewN | apply below_drew1 | refine below_set ?_ GE101.out) | exact HB.out)) hb); have n3_ := Aside0.mk (hbox); have n4_ := Aside0.mk ((by rw [hg]; exact (below_size (by repeat (first | (with_reducible first | exact HB.out | apply below_alloc | apply pw_below_drewN | apply below_drew1 | refine below_set ?_ GE101.out) | exact HB.out))) : w.heap.size ≤ gb104)); have n5_ := Aside0.mk ((by rw [hg]; exact (below_size (by repeat (first | (with_reducible first | exact HB.out | apply below_alloc | apply pw_below_drewN | apply below_drew1 | refine below_set ?_ GE101.out) | exact HB.out))) : w.heap.size ≤ gb104)); have n6_ := Aside0.mk ((by rw [hg]; exact Nat.ne_of_lt (blk_lt (g := gb101) (o := .cells #[.int .i64 a0_0, .int .i64 a0_1, .string a0_2, .slice (some ad103) l0_3.length c0_3] 42 (0, 0)) (by (with_reducible repeat (first | refine blk_drewN ?_ _ | refine blk_drew ?_ | refine blk_alloc ?_ _)); exact BK101.out)) : gb101 ≠ gb104)); have n7_ := Aside0.mk ((by rw [hg]; exact Nat.ne_of_gt (blk_lt (g := gb101) (o := .cells #[.int .i64 a0_0, .int .i64 a0_1, .string a0_2, .slice (some ad103) l0_3.length c0_3] 42 (0, 0)) (by (with_reducible repeat (first | refine blk_drewN ?_ _ | refine blk_drew ?_ | refine blk_alloc ?_ _)); exact BK101.out)) : gb104 ≠ gb101)); clear HO_3; clear BK101; clear HB; have HO_3 := n0_; have BK101 := n1_; have HB := n2_; have BK104 := n3_; have GW104 := n4_; have GE104 := n5_; have NB101_104 := n6_; have NB104_101 := n7_; clear n0_ n1_ n2_ n3_ n4_ n5_ n6_ n7_; clear hb hbox hg; have hnb18 := NB104_101.out; have hnc18 := NB101_104.out; have hcz19_0 : w17.cell? ⟨gb104, 0, none⟩ = some (.int .i64 0) := (blk_cell BK104.out 0).trans rfl; have hcz19_1 : w17.cell? ⟨gb104, 1, none⟩ = some (.int .i64 0) := (blk_cell BK104.out 1).trans rfl; have hcz19_2 : w17.cell? ⟨gb104, 2, none⟩ = some (.string (⟨#[]⟩ : ByteArray)) := (blk_cell BK104.out 2).trans rfl; have hcz19_3 : w17.cell? ⟨gb104, 3, none⟩ = some (.slice none 0 0) := (blk_cell BK104.out 3).trans rfl; have hfz19_0 := blk_frozen BK104.out 0; have hfz19_1 := blk_frozen BK104.out 1; have hfz19_2 := blk_frozen BK104.out 2; have hfz19_3 := blk_frozen BK104.out 3) | ((with_reducible refine gate_store (t := 42) (p := 5) rfl ?_); refine store_event (t := 42) (p := 5) (v := ?vo_w20) (w1 := ((((w17.setCell ⟨gb104, 0, none⟩ (.int .i64 ((rd_T42 l0_3 x20_1).f0))).setCell ⟨gb104, 1, none⟩ (.int .i64 ((rd_T42 l0_3 x20_1).f1))).setCell ⟨gb104, 2, none⟩ (.string ((rd_T42 l0_3 x20_1).f2))).setCell ⟨gb104, 3, none⟩ (.slice A103_3 ((rd_T42 l0_3 x20_1).f3).length c103_3))) ?hg ?ho ?hn ?hr ?_; (case ho => rfl); (case hg => rfl); (case hn => rfl); (case hr => first | (go_simp; done) | (go_simp; rfl)); intro w20 hw; have n0_ : Aside0 (Kd.R Kd.string 9 w20 w.heap.size (fun _ => True) u3 x3_1) := ⟨(by rw [hw]; exact (by (with_reducible repeat (first | apply Kd.R_alloc | apply Kd.R_drewN | apply Kd.R_drew)); exact Kd.R_mono (Kd.R_far (p := ⟨gb104, 3, none⟩) (Kd.R_far (p := ⟨gb104, 2, none⟩) (Kd.R_far (p := ⟨gb104, 1, none⟩) (Kd.R_far (p := ⟨gb104, 0, none⟩) (Kd.R_types HO_3.out BK104.out (by decide)) (fun _ hk => hk.2) (.int .i64 ((rd_T42 l0_3 x20_1).f0))) (fun _ hk => hk.2) (.int .i64 ((rd_T42 l0_3 x20_1).f1))) (fun _ hk => hk.2) (.string ((rd_T42 l0_3 x20_1).f2))) (fun _ hk => hk.2) (.slice A103_3 ((rd_T42 l0_3 x20_1).f3).length c103_3)) (fun _ hk => trivial)))⟩; have n1_ : Aside0 (w20.heap[gb101]? = some (.cells #[.int .i64 a0_0, .int .i64 a0_1, .string a0_2, .slice (some ad103) l0_3.length c0_3] 42 (0, 0))) := ⟨(by rw [hw]; exact (by (with_reducible repeat (first | refine blk_drewN ?_ _ | refine blk_drew ?_ | refine blk_alloc ?_ _)); refine blk_far ?_ NB101_104.out _; (with_reducible repeat (first | refine blk_drewN ?_ _ | refine blk_drew ?_ | refine blk_alloc ?_ _)); refine blk_far ?_ NB101_104.out _; (with_reducible repeat (first | refine blk_drewN ?_ _ | refine blk_drew ?_ | refine blk_alloc ?_ _)); refine blk_far ?_ NB101_104.out _; (with_reducible repeat (first | refine blk_drewN ?_ _ | refine blk_drew ?_ | refine blk_alloc ?_ _)); refine blk_far ?_ NB101_104.out _; (with_reducible repeat (first | refine blk_drewN ?_ _ | refine blk_drew ?_ | refine blk_alloc ?_ _)); exact BK101.out))⟩; have n2_ : Aside0 (w20.heap[gb104]? = some (.cells #[.int .i64 ((rd_T42 l0_3 x20_1).f0), .int .i64 ((rd_T42 l0_3 x20_1).f1), .string ((rd_T42 l0_3 x20_1).f2), .slice A103_3 ((rd_T42 l0_3 x20_1).f3).length c103_3] 42 (0, 0))) := ⟨(by rw [hw]; exact (by (with_reducible repeat (first | refine blk_drewN ?_ _ | refine blk_drew ?_ | refine blk_alloc ?_ _)); refine blk_put (cs := #[.int .i64 ((rd_T42 l0_3 x20_1).f0), .int .i64 ((rd_T42 l0_3 x20_1).f1), .string ((rd_T42 l0_3 x20_1).f2), .slice none 0 0]) ?_ 3 _ rfl; (with_reducible repeat (first | refine blk_drewN ?_ _ | refine blk_drew ?_ | refine blk_alloc ?_ _)); refine blk_put (cs := #[.int .i64 ((rd_T42 l0_3 x20_1).f0), .int .i64 ((rd_T42 l0_3 x20_1).f1), .string (⟨#[]⟩ : ByteArray), .slice none 0 0]) ?_ 2 _ rfl; (with_reducible repeat (first | refine blk_drewN ?_ _ | refine blk_drew ?_ | refine blk_alloc ?_ _)); refine blk_put (cs := #[.int .i64 ((rd_T42 l0_3 x20_1).f0), .int .i64 0, .string (⟨#[]⟩ : ByteArray), .slice none 0 0]) ?_ 1 _ rfl; (with_reducible repeat (first | refine blk_drewN ?_ _ | refine blk_drew ?_ | refine blk_alloc ?_ _)); refine blk_put (cs := #[.int .i64 0, .int .i64 0, .string (⟨#[]⟩ : ByteArray), .slice none 0 0]) ?_ 0 _ rfl; (with_reducible repeat (first | refine blk_drewN ?_ _ | refine blk_drew ?_ | refine blk_alloc ?_ _)); exact BK104.out))⟩; have n3_ : Aside0 (Below w.heap.size w w20) := ⟨(by rw [hw]; exact (by repeat (first | (with_reducible first | exact HB.out | apply below_alloc | apply pw_below_drewN | apply below_drew1 | refine below_set ?_ GE101.out | refine below_set ?_ GE104.out) | exact HB.out)))⟩; clear hw; clear HO_3; clear BK101; clear BK104; clear HB; have HO_3 := n0_; have BK101 := n1_; have BK104 := n2_; have HB := n3_; clear n0_ n1_ n2_ n3_; have hcz21_0 : w20.cell? ⟨gb104, 0, none⟩ = some (.int .i64 ((rd_T42 l0_3 x20_1).f0)) := (blk_cell BK104.out 0).trans rfl; have hcz21_1 : w20.cell? ⟨gb104, 1, none⟩ = some (.int .i64 ((rd_T42 l0_3 x20_1).f1)) := (blk_cell BK104.out 1).trans rfl; have hcz21_2 : w20.cell? ⟨gb104, 2, none⟩ = some (.string ((rd_T42 l0_3 x20_1).f2)) := (blk_cell BK104.out 2).trans rfl; have hcz21_3 : w20.cell? ⟨gb104, 3, none⟩ = some (.slice A103_3 ((rd_T42 l0_3 x20_1).f3).length c103_3) := (blk_cell BK104.out 3).trans rfl; have hfz21_0 := blk_frozen BK104.out 0; have hfz21_1 := blk_frozen BK104.out 1; have hfz21_2 := blk_frozen BK104.out 2; have hfz21_3 := blk_frozen BK104.out 3) | ((with_reducible refine gate_callee (f := 19) rfl ?_); refine goesL_ (some 26) rfl rfl Tryd.func19 (by kernel_rfl) rfl #[.agg #[.int .i64 ((rd_T42 l0_3 x20_1).f0), .int .i64 ((rd_T42 l0_3 x20_1).f1), .string ((rd_T42 l0_3 x20_1).f2), .slice A103_3 ((rd_T42 l0_3 x20_1).f3).length c103_3]] rfl (by (try simp only [List.map_toArray, List.map_cons, List.map_nil]); first | done | rfl | (simp only [List.length_drop, List.length_take]; rfl)) ?_; (with_reducible refine (ih k1 (by have := HK1.out; omega) ((rd_T42 l0_3 x20_1).f0) ((rd_T42 l0_3 x20_1).f1) ((rd_T42 l0_3 x20_1).f2) _ _ ((rd_T42 l0_3 x20_1).f3) t105 _ ?sideT ?side1 ?side2 A15.out).mono ?_); (case sideT => exact TabP.below HTB.out (by repeat (first | (with_reducible first | exact HB.out | apply below_alloc | apply pw_below_drewN | apply below_drew1 | refine below_set ?_ GE101.out | refine below_set ?_ GE104.out) | exact HB.out))); (case side1 => repeat (first | exact (Kd.C_below HR103_3.out HB.out) | (with_reducible refine Kd.C_alloc ?_ _) | (with_reducible refine Kd.C_drewN ?_ _) | (with_reducible refine Kd.C_drew ?_))); (case side2 => exact HC103_3.out); rintro e w22 ⟨rfl, hb⟩; refine ⟨_, rfl, ?_⟩; have n0_ := Aside0.mk (Kd.R_below (by (with_reducible repeat (first | apply Kd.R_alloc | apply Kd.R_drewN | apply Kd.R_drew)); exact HO_3.out) hb); have n1_ := Aside0.mk (blk_below (g := gb101) (o := .cells #[.int .i64 a0_0, .int .i64 a0_1, .string a0_2, .slice (some ad103) l0_3.length c0_3] 42 (0, 0)) (by (with_reducible repeat (first | refine blk_drewN ?_ _ | refine blk_drew ?_ | refine blk_alloc ?_ _)); exact BK101.out) hb); have n2_ := Aside0.mk (blk_below (g := gb104) (o := .cells #[.int .i64 ((rd_T42 l0_3 x20_1).f0), .int .i64 ((rd_T42 l0_3 x20_1).f1), .string ((rd_T42 l0_3 x20_1).f2), .slice A103_3 ((rd_T42 l0_3 x20_1).f3).length c103_3] 42 (0, 0)) (by (with_reducible repeat (first | refine blk_drewN ?_ _ | refine blk_drew ?_ | refine blk_alloc ?_ _)); exact BK104.out) hb); have n3_ := Aside0.mk (below_step (by repeat (first | (with_reducible first | exact HB.out | apply below_alloc | apply pw_below_drewN | apply below_drew1 | refine below_set ?_ GE101.out | refine below_set ?_ GE104.out) | exact HB.out)) hb); clear HO_3; clear BK101; clear BK104; clear HB; have HO_3 := n0_; have BK101 := n1_; have BK104 := n2_; have HB := n3_; clear n0_ n1_ n2_ n3_; (try clear hb); (try clear hb2); (try clear hk); (try clear hi)) | ((with_reducible refine gate_builtin (b := .append) (xs := #[.tmp 24, .tmp 27]) rfl ?_); at_builtin; refine Kd.R_append Kd.string (w0 := w) w.heap.size rfl (.tmp 24) (.tmp 27) 27 9 (.string ⟨#[]⟩) 16 rfl Tryd.underlying27 info9 rfl (by decide) (by omega) u3 x3_1 t105 [.string t105] (fun _ => True) (fun _ => False) rfl rfl ?aP (fun _ hk => hk.elim) ?aF ?aO ?aB ?aS ?aL ?_; (case aP => exact rfl); (case aB => exact (by repeat (first | (with_reducible first | exact HB.out | apply below_alloc | apply pw_below_drewN | apply below_drew1 | refine below_set ?_ GE101.out | refine below_set ?_ GE104.out) | exact HB.out))); (case aF => exact (fun _ _ => trivial)); (case aO => exact (by (with_reducible repeat (first | apply Kd.R_alloc | apply Kd.R_drewN | apply Kd.R_drew)); exact HO_3.out)); (case aS => exact (below_size (by repeat (first | (with_reducible first | exact HB.out | apply below_alloc | apply pw_below_drewN | apply below_drew1 | refine below_set ?_ GE101.out | refine below_set ?_ GE104.out) | exact HB.out)))); (case aL => have := LMc16.out; omega); intro v107 w23 ho hb hg hat; rw [← Ny106.out] at ho; have n0_ := Aside0.mk (blk_grown (g := gb101) (o := .cells #[.int .i64 a0_0, .int .i64 a0_1, .string a0_2, .slice (some ad103) l0_3.length c0_3] 42 (0, 0)) (by (with_reducible repeat (first | refine blk_drewN ?_ _ | refine blk_drew ?_ | refine blk_alloc ?_ _)); exact BK101.out) hg (Kd.R_ne HO_3.out BK101.out (by decide))); have n1_ := Aside0.mk (blk_grown (g := gb104) (o := .cells #[.int .i64 ((rd_T42 l0_3 x20_1).f0), .int .i64 ((rd_T42 l0_3 x20_1).f1), .string ((rd_T42 l0_3 x20_1).f2), .slice A103_3 ((rd_T42 l0_3 x20_1).f3).length c103_3] 42 (0, 0)) (by (with_reducible repeat (first | refine blk_drewN ?_ _ | refine blk_drew ?_ | refine blk_alloc ?_ _)); exact BK104.out) hg (Kd.R_ne HO_3.out BK104.out (by decide))); have n2_ := Aside0.mk (hb); have n3_ := Aside0.mk (ho); clear BK101; clear BK104; clear HB; clear HO_3; have BK101 := n0_; have BK104 := n1_; have HB := n2_; have HO108 := n3_; clear n0_ n1_ n2_ n3_; clear ho hb hg hat))
                  go_roundg k1
                  case measure => have := HK1.out; omega
                  case rel => exact ⟨(y106), (wrap64 (x20_1 + 1)), (by first | rfl | (simp; done) | (simp [*]; done)), H', ⟨by have := HK1.out; omega⟩, ⟨by (with_reducible repeat (first | apply Kd.R_alloc | apply Kd.R_drewN | apply Kd.R_drew)); exact HO108.out⟩, ⟨by (with_reducible repeat (first | refine blk_drewN ?_ _ | refine blk_drew ?_ | refine blk_alloc ?_ _)); exact BK101.out⟩, ⟨by repeat (first | (with_reducible first | exact HB.out | apply below_alloc | apply pw_below_drewN | apply below_drew1 | refine below_set ?_ GE101.out | refine below_set ?_ GE104.out) | exact HB.out)⟩⟩
                · rw [if_neg c16] at H
                  exact absurd H (by simp)
              · rw [if_neg c14] at H
                exact absurd H (by simp)
            · rw [if_neg c13] at H
              exact absurd H (by simp)
          · rw [if_neg c12] at H
            have c12b0 : decide (x20_1 < (l0_3.length : Int)) = false := decide_eq_false c12
            clear c12
            replace H := Option.bind_eq_some_iff.mp H
            obtain ⟨t109, A240, H⟩ := H
            replace H : (if 1 + t109.size ≤ 9223372036854775807 then (if ((⟨#[40]⟩ : ByteArray) ++ t109).size + 1 ≤ 9223372036854775807 then (some (((⟨#[40]⟩ : ByteArray) ++ t109) ++ (⟨#[41]⟩ : ByteArray))) else (none)) else (none)) = some r := H
            have A24 := Aside0.mk A240
            clear A240
            by_cases c25 : 1 + t109.size ≤ 9223372036854775807
            · rw [if_pos c25] at H
              have c25b0 := eq_true c25
              have c25b1 : decide (1 + t109.size ≤ 9223372036854775807) = true := decide_eq_true c25
              try have c25b2 : (9223372036854775807 < 1 + t109.size) = False := eq_false (Nat.not_lt.2 c25)
              by_cases c26 : ((⟨#[40]⟩ : ByteArray) ++ t109).size + 1 ≤ 9223372036854775807
              · rw [if_pos c26] at H
                have c26b0 := eq_true c26
                have c26b1 : decide (((⟨#[40]⟩ : ByteArray) ++ t109).size + 1 ≤ 9223372036854775807) = true := decide_eq_true c26
                try have c26b2 : (9223372036854775807 < ((⟨#[40]⟩ : ByteArray) ++ t109).size + 1) = False := eq_false (Nat.not_lt.2 c26)
                have c26n : 1 + t109.size + 1 ≤ 9223372036854775807 := by
                  have h_ := c26
                  rw [ByteArray.size_append] at h_
                  exact h_
                have c26b3 : (9223372036854775807 < 1 + t109.size + 1) = False := eq_false (Nat.not_lt.2 c26n)
                clear c26n
                obtain rfl := Option.some.inj H
                obtain ⟨Ao27, co27, eo27⟩ := Kd.R_slice HO_3.out
                subst eo27
                go_wp2_with (first | ((with_reducible refine gate_callee (f := 34) rfl ?_); refine goesL_ (some 31) rfl rfl Tryd.func34 (by kernel_rfl) rfl #[.slice Ao27 x3_1.length co27, .string (⟨#[32]⟩ : ByteArray)] rfl (by (try simp only [List.map_toArray, List.map_cons, List.map_nil]); first | done | rfl | (simp only [List.length_drop, List.length_take]; rfl)) ?_; (with_reducible refine (strings_Join.calls _ _ x3_1 (⟨#[32]⟩ : ByteArray) t109 _ ?side1 ?side2 A24.out).mono ?_); (case side1 => repeat (first | exact (Kd.R_reads' HO_3.out).2.2 | (with_reducible refine Kd.C_alloc ?_ _) | (with_reducible refine Kd.C_drewN ?_ _) | (with_reducible refine Kd.C_drew ?_))); (case side2 => exact (Kd.R_reads' HO_3.out).2.1); rintro e w28 ⟨rfl, hb⟩; refine ⟨_, rfl, ?_⟩; have n0_ := Aside0.mk (Kd.R_below (by (with_reducible repeat (first | apply Kd.R_alloc | apply Kd.R_drewN | apply Kd.R_drew)); exact HO_3.out) hb); have n1_ := Aside0.mk (blk_below (g := gb101) (o := .cells #[.int .i64 a0_0, .int .i64 a0_1, .string a0_2, .slice A0_3 l0_3.length c0_3] 42 (0, 0)) (by (with_reducible repeat (first | refine blk_drewN ?_ _ | refine blk_drew ?_ | refine blk_alloc ?_ _)); exact BK101.out) hb); have n2_ := Aside0.mk (below_step (by repeat (first | (with_reducible first | exact HB.out | apply below_alloc | apply pw_below_drewN | apply below_drew1 | refine below_set ?_ GE101.out) | exact HB.out)) hb); clear HO_3; clear BK101; clear HB; have HO_3 := n0_; have BK101 := n1_; have HB := n2_; clear n0_ n1_ n2_; (try clear hb); (try clear hb2); (try clear hk); (try clear hi)))
                go_ret
                exact ⟨by first | rfl | (simp [errW_none, errW_some] <;> rfl) | (simp [*, errW_none, errW_some] <;> rfl), by repeat (first | (with_reducible first | exact HB.out | apply below_alloc | apply pw_below_drewN | apply below_drew1 | refine below_set ?_ GE101.out) | exact HB.out)⟩
              · rw [if_neg c26] at H
                exact absurd H (by simp)
            · rw [if_neg c25] at H
              exact absurd H (by simp)
end Go.Proofs.YtkkmgahgejjhgaaDoor.P
/- Chapter 3: known, printed by mkprint.py, turned by toQ3.py (strconv's table stands: TabP). -/
-- Printed by mkprint.py (a program of this session, over the kit's print). Lean checks it.
namespace Go.Proofs.YtkkmgahgejjhgaaDoor.P
open Go.RowKit Go.Proofs.YtkkmgahgejjhgaaDoorW.PrintWords Go.Proofs.YtkkmgahgejjhgaaDoorW.PrintLast Go.Proofs.YtkkmgahgejjhgaaDoorW.PrintMore
attribute [local go_sem] max2_int min2_int max_two min_two max_three min_three max_four min_four   -- for this text's walks alone
set_option linter.unusedVariables false
set_option linter.unusedSimpArgs false

-- GIVEN: function 13 (forms_Parse)

-- GIVEN: function 19 (forms_Text)

/-! ### thyrsuslaw3_known: function 10 -/
def thyrsuslaw3_known.f (k : Nat)  : Option (Bool) := (forms_Parse.f (⟨#[40, 97, 32, 40, 49, 41, 41]⟩ : ByteArray)).bind fun bt101 => ((forms_Text.f k 3 0 (⟨#[]⟩ : ByteArray) ([] : List (S42))).bind fun t106 => (if t106.toList = ([40, 41] : List UInt8) then (if bt101.2.2 = 0 then (if (bt101.1.length : Int) = 1 then (if 0 < (bt101.1.length : Int) then (some ((((rd_T42 bt101.1 0).f3).length : Int) == 2)) else (none)) else (none)) else (none)) else (none)))
set_option maxHeartbeats 8000000 in
set_option maxRecDepth 100000 in
theorem thyrsuslaw3_known.calls (k : Nat)  (r : Bool) (w : World) (hT : TabP w) (h : thyrsuslaw3_known.f k  = some r) :
    Calls Tryd.prog 10 #[] w fun e w' => e = .returned (.bool r) ∧ Below w.heap.size w w' := by
  have hu42 := Tryd.underlying42
  have HTB := Aside0.mk hT
  clear hT
  have HB := Aside0.mk (Below.refl w.heap.size w)
  have H : ((forms_Parse.f (⟨#[40, 97, 32, 40, 49, 41, 41]⟩ : ByteArray)).bind fun bt101 => ((forms_Text.f k 3 0 (⟨#[]⟩ : ByteArray) ([] : List (S42))).bind fun t106 => (if t106.toList = ([40, 41] : List UInt8) then (if bt101.2.2 = 0 then (if (bt101.1.length : Int) = 1 then (if 0 < (bt101.1.length : Int) then (some ((((rd_T42 bt101.1 0).f3).length : Int) == 2)) else (none)) else (none)) else (none)) else (none)))) = some r := h
  clear h
  replace H := Option.bind_eq_some_iff.mp H
  obtain ⟨⟨t101, t102, t103⟩, A10, H⟩ := H
  replace H : ((forms_Text.f k 3 0 (⟨#[]⟩ : ByteArray) ([] : List (S42))).bind fun t106 => (if t106.toList = ([40, 41] : List UInt8) then (if t103 = 0 then (if (t101.length : Int) = 1 then (if 0 < (t101.length : Int) then (some ((((rd_T42 t101 0).f3).length : Int) == 2)) else (none)) else (none)) else (none)) else (none))) = some r := H
  have A1 := Aside0.mk A10
  clear A10
  replace H := Option.bind_eq_some_iff.mp H
  obtain ⟨t106, A20, H⟩ := H
  replace H : (if t106.toList = ([40, 41] : List UInt8) then (if t103 = 0 then (if (t101.length : Int) = 1 then (if 0 < (t101.length : Int) then (some ((((rd_T42 t101 0).f3).length : Int) == 2)) else (none)) else (none)) else (none)) else (none)) = some r := H
  have A2 := Aside0.mk A20
  clear A20
  by_cases c3 : t106.toList = ([40, 41] : List UInt8)
  · rw [if_pos c3] at H
    have c3b0 : (t106.toList == ([40, 41] : List UInt8)) = true := beq_iff_eq.mpr c3
    have c3b1 : (t106.toList != ([40, 41] : List UInt8)) = false := bne_eq_false_iff_eq.mpr c3
    clear c3
    by_cases c4 : t103 = 0
    · rw [if_pos c4] at H
      have c4b0 : (t103 == 0) = true := beq_iff_eq.mpr c4
      have c4b1 : (t103 != 0) = false := bne_eq_false_iff_eq.mpr c4
      clear c4
      by_cases c5 : (t101.length : Int) = 1
      · rw [if_pos c5] at H
        have c5b0 : ((t101.length : Int) == 1) = true := beq_iff_eq.mpr c5
        have c5b1 : ((t101.length : Int) != 1) = false := bne_eq_false_iff_eq.mpr c5
        clear c5
        by_cases c6 : 0 < (t101.length : Int)
        · rw [if_pos c6] at H
          have c6b0 : decide (0 < (t101.length : Int)) = true := decide_eq_true c6
          have c6b1 : decide (0 < t101.length) = true := decide_eq_true (by omega)
          clear c6
          obtain rfl := Option.some.inj H
          go_enter Tryd.func10, Tryd.ntmps10
          go_wp2_with (first | ((with_reducible refine gate_callee (f := 13) rfl ?_); refine goesL_ (some 5) rfl rfl Tryd.func13 (by kernel_rfl) rfl #[.string (⟨#[40, 97, 32, 40, 49, 41, 41]⟩ : ByteArray)] rfl (by (try simp only [List.map_toArray, List.map_cons, List.map_nil]); first | done | rfl | (simp only [List.length_drop, List.length_take]; rfl)) ?_; (with_reducible refine (forms_Parse.calls (⟨#[40, 97, 32, 40, 49, 41, 41]⟩ : ByteArray) t101 t102 t103 _ A1.out).mono ?_); rintro e w7 ⟨v104, rfl, ho0, hb⟩; refine ⟨_, rfl, ?_⟩; have n0_ := Aside0.mk (Kd.R_lower ho0 (below_size (by repeat (first | (with_reducible first | exact HB.out | apply below_alloc | apply pw_below_drewN | apply below_drew1) | exact HB.out)))); have n1_ := Aside0.mk (below_step (by repeat (first | (with_reducible first | exact HB.out | apply below_alloc | apply pw_below_drewN | apply below_drew1) | exact HB.out)) hb); clear HB; have HO105 := n0_; have HB := n1_; clear n0_ n1_; (try clear hb); (try clear hb2); (try clear hk); (try clear hi); (try clear ho0)) | ((with_reducible refine gate_callee (f := 19) rfl ?_); refine goesL_ (some 10) rfl rfl Tryd.func19 (by kernel_rfl) rfl #[.agg #[.int .i64 3, .int .i64 0, .string (⟨#[]⟩ : ByteArray), .slice none 0 0]] rfl (by (try simp only [List.map_toArray, List.map_cons, List.map_nil]); first | done | rfl | (simp only [List.length_drop, List.length_take]; rfl)) ?_; (refine (forms_Text.calls k 3 0 (⟨#[]⟩ : ByteArray) _ _ ([] : List (S42)) t106 _ ?sideT ?side1 ?side2 A2.out).mono ?_); (case sideT => exact TabP.below HTB.out (by repeat (first | (with_reducible first | exact HB.out | apply below_alloc | apply pw_below_drewN | apply below_drew1) | exact HB.out))); (case side1 => exact Kd.C_nil _ _); (case side2 => exact Nat.le_refl _); rintro e w8 ⟨rfl, hb⟩; refine ⟨_, rfl, ?_⟩; have n0_ := Aside0.mk (Kd.R_below (by (with_reducible repeat (first | apply Kd.R_alloc | apply Kd.R_drewN | apply Kd.R_drew)); exact HO105.out) hb); have n1_ := Aside0.mk (below_step (by repeat (first | (with_reducible first | exact HB.out | apply below_alloc | apply pw_below_drewN | apply below_drew1) | exact HB.out)) hb); clear HO105; clear HB; have HO105 := n0_; have HB := n1_; clear n0_ n1_; (try clear hb); (try clear hb2); (try clear hk); (try clear hi); obtain ⟨Ao9, co9, eo9⟩ := Kd.R_slice HO105.out; subst eo9; have p107 : 0 ≤ (0 : Int) := (by omega); have q107 : 0 < (t101.length : Int) := of_decide_eq_true (by first | (with_reducible assumption) | assumption); obtain ⟨ad107, A107_3, c107_3, e107, hx107_0, hx107_1, hx107_2, hx107_3, hl107_3, hi107_3⟩ := at_T42 (Kd.R_reads' HO105.out).2.2 0 p107 q107; cases e107; obtain ⟨ce107, hce107, hMe107, hcc107⟩ := Kd.R_get HO105.out z42 0 p107 (by first | exact q107 | exact of_decide_eq_true (by first | (with_reducible assumption) | assumption) | (have e_ := (Kd.R_reads' HO105.out).1; omega)); obtain ⟨ve107_3, rfl, ge107_3⟩ := k42_openM hMe107; have hv107_3 := hcc107 3 _ rfl; rw [add_field _ _ 3 (by omega)] at hv107_3; replace hv107_3 := Option.some.inj (hv107_3.symm.trans hx107_3); rw [hv107_3] at ge107_3; have HL107_3 := Aside0.mk (show Kd.R k42 42 _ _ _ _ ((rd_T42 t101 0).f3) from ge107_3); clear hv107_3 ge107_3; clear hcc107 hce107; have qi107 : (0 < t101.length) = True := eq_true (by omega); (try rw [show ((0 : Int)).toNat = 0 from rfl] at hx107_0); (try rw [show 0 * 4 = 0 from rfl] at hx107_0); (try rw [Addr.add_zero'] at hx107_0); (try rw [show ((0 : Int)).toNat = 0 from rfl] at hx107_1); (try rw [show 0 * 4 = 0 from rfl] at hx107_1); (try rw [Addr.add_zero'] at hx107_1); (try rw [show ((0 : Int)).toNat = 0 from rfl] at hx107_2); (try rw [show 0 * 4 = 0 from rfl] at hx107_2); (try rw [Addr.add_zero'] at hx107_2); (try rw [show ((0 : Int)).toNat = 0 from rfl] at hx107_3); (try rw [show 0 * 4 = 0 from rfl] at hx107_3); (try rw [Addr.add_zero'] at hx107_3); have HR107_3 := Aside0.mk hi107_3; have HC107_3 := Aside0.mk hl107_3; clear hi107_3 hl107_3; replace p107 := eq_true p107; replace q107 := eq_true q107))
          go_ret
          exact ⟨by first | rfl | (simp [errW_none, errW_some] <;> rfl) | (simp [*, errW_none, errW_some] <;> rfl), by repeat (first | (with_reducible first | exact HB.out | apply below_alloc | apply pw_below_drewN | apply below_drew1) | exact HB.out)⟩
        · rw [if_neg c6] at H
          exact absurd H (by simp)
      · rw [if_neg c5] at H
        exact absurd H (by simp)
    · rw [if_neg c4] at H
      exact absurd H (by simp)
  · rw [if_neg c3] at H
    exact absurd H (by simp)

-- GIVEN: function 12 (thyrsuslaw3_within)

-- GIVEN: function 21 (forms_Check)
end Go.Proofs.YtkkmgahgejjhgaaDoor.P
-- Printed by mkprint.py (a program of this session, over the kit's print). Lean checks it.
namespace Go.Proofs.YtkkmgahgejjhgaaDoor.P
open Go.RowKit Go.Proofs.YtkkmgahgejjhgaaDoorW.PrintWords Go.Proofs.YtkkmgahgejjhgaaDoorW.PrintLast Go.Proofs.YtkkmgahgejjhgaaDoorW.PrintMore
attribute [local go_sem] max2_int min2_int max_two min_two max_three min_three max_four min_four   -- for this text's walks alone
set_option linter.unusedVariables false
set_option linter.unusedSimpArgs false

-- NOT PRINTED: function 50 (lex_span)

-- NOT PRINTED: function 37 (lex_blank)

/-! ### thyrsuslaw2_within: function 24 -/
def thyrsuslaw2_within.f (a0 : Int) (a1 : Int) : Option (Int) := if a1 = 0 then (none) else (if (Int.tmod a0 a1) < 0 then (some (wrap64 ((Int.tmod a0 a1) + a1))) else (some (Int.tmod a0 a1)))
set_option maxHeartbeats 8000000 in
set_option maxRecDepth 100000 in
theorem thyrsuslaw2_within.calls (a0 : Int) (a1 : Int) (r : Int) (w : World) (h : thyrsuslaw2_within.f a0 a1 = some r) :
    Calls Tryd.prog 24 #[.int .i64 a0, .int .i64 a1] w fun e w' => e = .returned (.int .i64 r) ∧ Drawn0 w w' := by
  have H : (if a1 = 0 then (none) else (if (Int.tmod a0 a1) < 0 then (some (wrap64 ((Int.tmod a0 a1) + a1))) else (some (Int.tmod a0 a1)))) = some r := h
  clear h
  by_cases c3 : a1 = 0
  · rw [if_pos c3] at H
    exact absurd H (by simp)
  · rw [if_neg c3] at H
    have c3b0 : (a1 == 0) = false := beq_eq_false_iff_ne.mpr c3
    have c3b1 : (a1 != 0) = true := bne_iff_ne.mpr c3
    by_cases c4 : (Int.tmod a0 a1) < 0
    · rw [if_pos c4] at H
      have c4b0 : decide ((Int.tmod a0 a1) < 0) = true := decide_eq_true c4
      clear c4
      obtain rfl := Option.some.inj H
      go_enter Tryd.func24, Tryd.ntmps24
      go_wp2
      go_ret
      exact ⟨by first | rfl | (simp; done) | (simp [*]; done), by repeat (first | exact Drawn0.refl _ | apply Drawn0.step)⟩
    · rw [if_neg c4] at H
      have c4b0 : decide ((Int.tmod a0 a1) < 0) = false := decide_eq_false c4
      clear c4
      obtain rfl := Option.some.inj H
      go_enter Tryd.func24, Tryd.ntmps24
      go_wp2
      go_ret
      exact ⟨by first | rfl | (simp; done) | (simp [*]; done), by repeat (first | exact Drawn0.refl _ | apply Drawn0.step)⟩

/-! ### thyrsuslaw2_Text: function 11 -/
def thyrsuslaw2_Text.l0 : Nat → List Int → ByteArray → Int → Option (ByteArray)
  | 0, _, _, _ => none
  | k + 1, x0, x3, x4 => if x4 < (x0.length : Int) then (if x4 < 60 then ((some (([(⟨#[40]⟩ : ByteArray), (⟨#[41]⟩ : ByteArray), (⟨#[97]⟩ : ByteArray), (⟨#[102, 110, 32]⟩ : ByteArray), (⟨#[32]⟩ : ByteArray), (⟨#[49, 50]⟩ : ByteArray), (⟨#[45, 51]⟩ : ByteArray), (⟨#[45, 62]⟩ : ByteArray), (⟨#[42]⟩ : ByteArray), (⟨#[45]⟩ : ByteArray), (⟨#[59, 32, 120, 10]⟩ : ByteArray), (⟨#[10]⟩ : ByteArray), (⟨#[98, 39]⟩ : ByteArray), (⟨#[95, 99]⟩ : ByteArray), (⟨#[48]⟩ : ByteArray), (⟨#[122, 101, 114, 111, 32]⟩ : ByteArray), (⟨#[57, 97]⟩ : ByteArray), (⟨#[33]⟩ : ByteArray), (⟨#[9]⟩ : ByteArray), (⟨#[85, 48]⟩ : ByteArray)] : List ByteArray) : List ByteArray)).bind fun y134 => (if 0 ≤ x4 then ((thyrsuslaw2_within.f (rd x0 x4) 20).bind fun t138 => (if 0 ≤ t138 then (if t138 < (y134.length : Int) then (if x3.size + (rdOf ByteArray.empty y134 t138).size ≤ 9223372036854775807 then (thyrsuslaw2_Text.l0 k x0 (x3 ++ (rdOf ByteArray.empty y134 t138)) (wrap64 (x4 + 1))) else (none)) else (none)) else (none))) else (none))) else (some x3)) else (some x3)
def thyrsuslaw2_Text.f (k : Nat) (l0 : List Int) : Option (ByteArray) := thyrsuslaw2_Text.l0 k l0 (⟨#[]⟩ : ByteArray) 0
set_option maxHeartbeats 8000000 in
set_option maxRecDepth 100000 in
theorem thyrsuslaw2_Text.calls (k : Nat) (A0 : Option Addr) (c0 : Nat) (l0 : List Int) (r : ByteArray) (w : World) (hr0 : Kd.C (Kd.int .i64) w A0 l0.length l0) (hc0 : l0.length ≤ c0) (h : thyrsuslaw2_Text.f k l0 = some r) :
    Calls Tryd.prog 11 #[.slice A0 l0.length c0] w fun e w' => e = .returned (.string r) ∧ Below w.heap.size w w' := by
  have HR0 := Aside0.mk hr0
  have HC0 := Aside0.mk hc0
  clear hr0 hc0
  have HB := Aside0.mk (Below.refl w.heap.size w)
  have H : (thyrsuslaw2_Text.l0 k l0 (⟨#[]⟩ : ByteArray) 0) = some r := h
  clear h
  have H' := Aside0.mk H
  clear H
  go_enter Tryd.func11, Tryd.ntmps11
  go_wp2
  go_loopg [3, 4] k (fun kq v3 v4 w' => ∃ (x3_1 : ByteArray) (x4_1 : Int), v3 = .string x3_1 ∧ v4 = .int .i64 x4_1 ∧ Aside0 (thyrsuslaw2_Text.l0 kq l0 x3_1 x4_1 = some r) ∧ Aside0 (kq ≤ k) ∧ Aside0 (Below w.heap.size w w'))
  case atStart => exact ⟨((⟨#[]⟩ : ByteArray)), (0), (by first | rfl | (simp; done) | (simp [*]; done)), (by first | rfl | (simp; done) | (simp [*]; done)), H', ⟨Nat.le_refl _⟩, ⟨by repeat (first | (with_reducible first | exact HB.out | apply below_alloc | apply pw_below_drewN | apply below_drew1) | exact HB.out)⟩⟩
  case round =>
    clear H'
    try clear c1
    try clear HB
    obtain ⟨x3_1, x4_1, rfl, rfl, HA, HK1, HB⟩ := hrel
    cases gk with
    | zero => exact absurd HA.out (by simp [thyrsuslaw2_Text.l0])
    | succ k1 =>
      have H := HA.out
      clear HA
      simp only [thyrsuslaw2_Text.l0] at H
      by_cases c2 : x4_1 < (l0.length : Int)
      · rw [if_pos c2] at H
        have c2b0 : decide (x4_1 < (l0.length : Int)) = true := decide_eq_true c2
        clear c2
        by_cases c3 : x4_1 < 60
        · rw [if_pos c3] at H
          have c3b0 : decide (x4_1 < 60) = true := decide_eq_true c3
          clear c3
          obtain ⟨y134, hy134⟩ : ∃ y_ : List ByteArray, y_ = (([(⟨#[40]⟩ : ByteArray), (⟨#[41]⟩ : ByteArray), (⟨#[97]⟩ : ByteArray), (⟨#[102, 110, 32]⟩ : ByteArray), (⟨#[32]⟩ : ByteArray), (⟨#[49, 50]⟩ : ByteArray), (⟨#[45, 51]⟩ : ByteArray), (⟨#[45, 62]⟩ : ByteArray), (⟨#[42]⟩ : ByteArray), (⟨#[45]⟩ : ByteArray), (⟨#[59, 32, 120, 10]⟩ : ByteArray), (⟨#[10]⟩ : ByteArray), (⟨#[98, 39]⟩ : ByteArray), (⟨#[95, 99]⟩ : ByteArray), (⟨#[48]⟩ : ByteArray), (⟨#[122, 101, 114, 111, 32]⟩ : ByteArray), (⟨#[57, 97]⟩ : ByteArray), (⟨#[33]⟩ : ByteArray), (⟨#[9]⟩ : ByteArray), (⟨#[85, 48]⟩ : ByteArray)] : List ByteArray)) := ⟨_, rfl⟩
          replace H : (if 0 ≤ x4_1 then ((thyrsuslaw2_within.f (rd l0 x4_1) 20).bind fun t138 => (if 0 ≤ t138 then (if t138 < (y134.length : Int) then (if x3_1.size + (rdOf ByteArray.empty y134 t138).size ≤ 9223372036854775807 then (thyrsuslaw2_Text.l0 k1 l0 (x3_1 ++ (rdOf ByteArray.empty y134 t138)) (wrap64 (x4_1 + 1))) else (none)) else (none)) else (none))) else (none)) = some r := by first | (rw [hy134]; with_reducible exact H) | (have H2_ := (Option.bind_some _ _).symm.trans H; rw [hy134]; with_reducible exact H2_) | (have H2_ := (Option.bind_some _ _).symm.trans H; with_reducible exact H2_) | with_reducible exact H | (rw [hy134]; exact H) | exact H
          have Ny134 := Aside0.mk hy134
          clear hy134
          by_cases c4 : 0 ≤ x4_1
          · rw [if_pos c4] at H
            have c4b0 : decide (0 ≤ x4_1) = true := decide_eq_true c4
            clear c4
            replace H := Option.bind_eq_some_iff.mp H
            obtain ⟨t138, A50, H⟩ := H
            replace H : (if 0 ≤ t138 then (if t138 < (y134.length : Int) then (if x3_1.size + (rdOf ByteArray.empty y134 t138).size ≤ 9223372036854775807 then (thyrsuslaw2_Text.l0 k1 l0 (x3_1 ++ (rdOf ByteArray.empty y134 t138)) (wrap64 (x4_1 + 1))) else (none)) else (none)) else (none)) = some r := H
            have A5 := Aside0.mk A50
            clear A50
            by_cases c6 : 0 ≤ t138
            · rw [if_pos c6] at H
              have c6b0 : decide (0 ≤ t138) = true := decide_eq_true c6
              clear c6
              by_cases c7 : t138 < (y134.length : Int)
              · rw [if_pos c7] at H
                have c7b0 : decide (t138 < (y134.length : Int)) = true := decide_eq_true c7
                clear c7
                by_cases c8 : x3_1.size + (rdOf ByteArray.empty y134 t138).size ≤ 9223372036854775807
                · rw [if_pos c8] at H
                  have c8b0 := eq_true c8
                  have c8b1 : decide (x3_1.size + (rdOf ByteArray.empty y134 t138).size ≤ 9223372036854775807) = true := decide_eq_true c8
                  try have c8b2 : (9223372036854775807 < x3_1.size + (rdOf ByteArray.empty y134 t138).size) = False := eq_false (Nat.not_lt.2 c8)
                  have H' := Aside0.mk H
                  clear H
                  go_wp2_with (first | ((with_reducible refine gate_dst (N := 16) rfl ?_); refine Kd.R_lit Kd.string _ 9 ?hg (N := 16) ?hd (xs := ([(⟨#[40]⟩ : ByteArray), (⟨#[41]⟩ : ByteArray), (⟨#[97]⟩ : ByteArray), (⟨#[102, 110, 32]⟩ : ByteArray), (⟨#[32]⟩ : ByteArray), (⟨#[49, 50]⟩ : ByteArray), (⟨#[45, 51]⟩ : ByteArray), (⟨#[45, 62]⟩ : ByteArray), (⟨#[42]⟩ : ByteArray), (⟨#[45]⟩ : ByteArray), (⟨#[59, 32, 120, 10]⟩ : ByteArray), (⟨#[10]⟩ : ByteArray), (⟨#[98, 39]⟩ : ByteArray), (⟨#[95, 99]⟩ : ByteArray), (⟨#[48]⟩ : ByteArray), (⟨#[122, 101, 114, 111, 32]⟩ : ByteArray), (⟨#[57, 97]⟩ : ByteArray), (⟨#[33]⟩ : ByteArray), (⟨#[9]⟩ : ByteArray), (⟨#[85, 48]⟩ : ByteArray)] : List ByteArray)) (inner := [.string (⟨#[40]⟩ : ByteArray), .string (⟨#[41]⟩ : ByteArray), .string (⟨#[97]⟩ : ByteArray), .string (⟨#[102, 110, 32]⟩ : ByteArray), .string (⟨#[32]⟩ : ByteArray), .string (⟨#[49, 50]⟩ : ByteArray), .string (⟨#[45, 51]⟩ : ByteArray), .string (⟨#[45, 62]⟩ : ByteArray), .string (⟨#[42]⟩ : ByteArray), .string (⟨#[45]⟩ : ByteArray), .string (⟨#[59, 32, 120, 10]⟩ : ByteArray), .string (⟨#[10]⟩ : ByteArray), .string (⟨#[98, 39]⟩ : ByteArray), .string (⟨#[95, 99]⟩ : ByteArray), .string (⟨#[48]⟩ : ByteArray), .string (⟨#[122, 101, 114, 111, 32]⟩ : ByteArray), .string (⟨#[57, 97]⟩ : ByteArray), .string (⟨#[33]⟩ : ByteArray), .string (⟨#[9]⟩ : ByteArray), .string (⟨#[85, 48]⟩ : ByteArray)]) (ok := fun _ => True) (okp := fun _ => True) ?hr ?hp (fun _ hk => hk) trivial (Below.refl _ _) (Nat.le_refl _) (by simp) ?_; (case hd => rfl); (case hg => rfl); (case hr => first | (go_simp; done) | (go_simp; rfl)); (case hp => exact (Reps.one (show Kd.M Kd.string _ _ _ (⟨#[40]⟩ : ByteArray) [.string (⟨#[40]⟩ : ByteArray)] from rfl) (Reps.one (show Kd.M Kd.string _ _ _ (⟨#[41]⟩ : ByteArray) [.string (⟨#[41]⟩ : ByteArray)] from rfl) (Reps.one (show Kd.M Kd.string _ _ _ (⟨#[97]⟩ : ByteArray) [.string (⟨#[97]⟩ : ByteArray)] from rfl) (Reps.one (show Kd.M Kd.string _ _ _ (⟨#[102, 110, 32]⟩ : ByteArray) [.string (⟨#[102, 110, 32]⟩ : ByteArray)] from rfl) (Reps.one (show Kd.M Kd.string _ _ _ (⟨#[32]⟩ : ByteArray) [.string (⟨#[32]⟩ : ByteArray)] from rfl) (Reps.one (show Kd.M Kd.string _ _ _ (⟨#[49, 50]⟩ : ByteArray) [.string (⟨#[49, 50]⟩ : ByteArray)] from rfl) (Reps.one (show Kd.M Kd.string _ _ _ (⟨#[45, 51]⟩ : ByteArray) [.string (⟨#[45, 51]⟩ : ByteArray)] from rfl) (Reps.one (show Kd.M Kd.string _ _ _ (⟨#[45, 62]⟩ : ByteArray) [.string (⟨#[45, 62]⟩ : ByteArray)] from rfl) (Reps.one (show Kd.M Kd.string _ _ _ (⟨#[42]⟩ : ByteArray) [.string (⟨#[42]⟩ : ByteArray)] from rfl) (Reps.one (show Kd.M Kd.string _ _ _ (⟨#[45]⟩ : ByteArray) [.string (⟨#[45]⟩ : ByteArray)] from rfl) (Reps.one (show Kd.M Kd.string _ _ _ (⟨#[59, 32, 120, 10]⟩ : ByteArray) [.string (⟨#[59, 32, 120, 10]⟩ : ByteArray)] from rfl) (Reps.one (show Kd.M Kd.string _ _ _ (⟨#[10]⟩ : ByteArray) [.string (⟨#[10]⟩ : ByteArray)] from rfl) (Reps.one (show Kd.M Kd.string _ _ _ (⟨#[98, 39]⟩ : ByteArray) [.string (⟨#[98, 39]⟩ : ByteArray)] from rfl) (Reps.one (show Kd.M Kd.string _ _ _ (⟨#[95, 99]⟩ : ByteArray) [.string (⟨#[95, 99]⟩ : ByteArray)] from rfl) (Reps.one (show Kd.M Kd.string _ _ _ (⟨#[48]⟩ : ByteArray) [.string (⟨#[48]⟩ : ByteArray)] from rfl) (Reps.one (show Kd.M Kd.string _ _ _ (⟨#[122, 101, 114, 111, 32]⟩ : ByteArray) [.string (⟨#[122, 101, 114, 111, 32]⟩ : ByteArray)] from rfl) (Reps.one (show Kd.M Kd.string _ _ _ (⟨#[57, 97]⟩ : ByteArray) [.string (⟨#[57, 97]⟩ : ByteArray)] from rfl) (Reps.one (show Kd.M Kd.string _ _ _ (⟨#[33]⟩ : ByteArray) [.string (⟨#[33]⟩ : ByteArray)] from rfl) (Reps.one (show Kd.M Kd.string _ _ _ (⟨#[9]⟩ : ByteArray) [.string (⟨#[9]⟩ : ByteArray)] from rfl) (Reps.one (show Kd.M Kd.string _ _ _ (⟨#[85, 48]⟩ : ByteArray) [.string (⟨#[85, 48]⟩ : ByteArray)] from rfl) (Reps.none _ _)))))))))))))))))))))); intro v135 w9 ho10 hb hg_ hnew_; clear hg_ hnew_; (first | rw [← Ny134.out] at ho10 | (simp only [Int.reduceToNat] at ho10; rw [← Ny134.out] at ho10)); have n0_ := Aside0.mk (Kd.R_lower ho10 (below_size (by repeat (first | (with_reducible first | exact HB.out | apply below_alloc | apply pw_below_drewN | apply below_drew1) | exact HB.out)))); have n1_ := Aside0.mk (below_step (by repeat (first | (with_reducible first | exact HB.out | apply below_alloc | apply pw_below_drewN | apply below_drew1) | exact HB.out)) hb); clear HB; have HO136 := n0_; have HB := n1_; clear n0_ n1_; clear hb ho10; have p137 : 0 ≤ (x4_1 : Int) := of_decide_eq_true (by first | (with_reducible assumption) | assumption); have q137 : x4_1 < (l0.length : Int) := of_decide_eq_true (by first | (with_reducible assumption) | assumption); obtain ⟨ad137, e137, hx137_0⟩ := Kd.at_int HR0.out x4_1 p137 q137; cases e137; replace hx137_0 := (HB.out.cell (World.block_lt_of_cell? w _ hx137_0)).trans hx137_0; replace p137 := eq_true p137; replace q137 := eq_true q137) | ((with_reducible refine gate_callee (f := 24) rfl ?_); refine goesL_ (some 21) rfl rfl Tryd.func24 (by kernel_rfl) rfl #[.int .i64 (rd l0 x4_1), .int .i64 20] rfl (by (try simp only [List.map_toArray, List.map_cons, List.map_nil]); first | done | rfl | (simp only [List.length_drop, List.length_take]; rfl)) ?_; (with_reducible refine (thyrsuslaw2_within.calls (rd l0 x4_1) 20 t138 _ A5.out).mono ?_); rintro e w' ⟨rfl, ⟨nd, rfl⟩⟩; refine ⟨_, rfl, ?_⟩; obtain ⟨Ao11, co11, eo11⟩ := Kd.R_slice HO136.out; subst eo11; have p139 : 0 ≤ (t138 : Int) := of_decide_eq_true (by first | (with_reducible assumption) | assumption); have q139 : t138 < (y134.length : Int) := of_decide_eq_true (by first | (with_reducible assumption) | assumption); obtain ⟨ad139, e139, hx139_0⟩ := Kd.at_string (Kd.R_reads' HO136.out).2.2 t138 p139 q139; cases e139; replace p139 := eq_true p139; replace q139 := eq_true q139))
                  go_roundg k1
                  case measure => have := HK1.out; omega
                  case rel => exact ⟨(x3_1 ++ (rdOf ByteArray.empty y134 t138)), (wrap64 (x4_1 + 1)), (by first | rfl | (simp; done) | (simp [*]; done)), (by first | rfl | (simp; done) | (simp [*]; done)), H', ⟨by have := HK1.out; omega⟩, ⟨by repeat (first | (with_reducible first | exact HB.out | apply below_alloc | apply pw_below_drewN | apply below_drew1) | exact HB.out)⟩⟩
                · rw [if_neg c8] at H
                  exact absurd H (by simp)
              · rw [if_neg c7] at H
                exact absurd H (by simp)
            · rw [if_neg c6] at H
              exact absurd H (by simp)
          · rw [if_neg c4] at H
            exact absurd H (by simp)
        · rw [if_neg c3] at H
          have c3b0 : decide (x4_1 < 60) = false := decide_eq_false c3
          clear c3
          obtain rfl := Option.some.inj H
          go_wp2
          go_ret
          exact ⟨by first | rfl | (simp [errW_none, errW_some] <;> rfl) | (simp [*, errW_none, errW_some] <;> rfl), by repeat (first | (with_reducible first | exact HB.out | apply below_alloc | apply pw_below_drewN | apply below_drew1) | exact HB.out)⟩
      · rw [if_neg c2] at H
        have c2b0 : decide (x4_1 < (l0.length : Int)) = false := decide_eq_false c2
        clear c2
        obtain rfl := Option.some.inj H
        go_wp2
        go_ret
        exact ⟨by first | rfl | (simp [errW_none, errW_some] <;> rfl) | (simp [*, errW_none, errW_some] <;> rfl), by repeat (first | (with_reducible first | exact HB.out | apply below_alloc | apply pw_below_drewN | apply below_drew1) | exact HB.out)⟩

/-! ### thyrsuslaw3_within: function 12 -/
def thyrsuslaw3_within.f (a0 : Int) (a1 : Int) : Option (Int) := if a1 = 0 then (none) else (if (Int.tmod a0 a1) < 0 then (some (wrap64 ((Int.tmod a0 a1) + a1))) else (some (Int.tmod a0 a1)))
set_option maxHeartbeats 8000000 in
set_option maxRecDepth 100000 in
theorem thyrsuslaw3_within.calls (a0 : Int) (a1 : Int) (r : Int) (w : World) (h : thyrsuslaw3_within.f a0 a1 = some r) :
    Calls Tryd.prog 12 #[.int .i64 a0, .int .i64 a1] w fun e w' => e = .returned (.int .i64 r) ∧ Drawn0 w w' := by
  have H : (if a1 = 0 then (none) else (if (Int.tmod a0 a1) < 0 then (some (wrap64 ((Int.tmod a0 a1) + a1))) else (some (Int.tmod a0 a1)))) = some r := h
  clear h
  by_cases c3 : a1 = 0
  · rw [if_pos c3] at H
    exact absurd H (by simp)
  · rw [if_neg c3] at H
    have c3b0 : (a1 == 0) = false := beq_eq_false_iff_ne.mpr c3
    have c3b1 : (a1 != 0) = true := bne_iff_ne.mpr c3
    by_cases c4 : (Int.tmod a0 a1) < 0
    · rw [if_pos c4] at H
      have c4b0 : decide ((Int.tmod a0 a1) < 0) = true := decide_eq_true c4
      clear c4
      obtain rfl := Option.some.inj H
      go_enter Tryd.func12, Tryd.ntmps12
      go_wp2
      go_ret
      exact ⟨by first | rfl | (simp; done) | (simp [*]; done), by repeat (first | exact Drawn0.refl _ | apply Drawn0.step)⟩
    · rw [if_neg c4] at H
      have c4b0 : decide ((Int.tmod a0 a1) < 0) = false := decide_eq_false c4
      clear c4
      obtain rfl := Option.some.inj H
      go_enter Tryd.func12, Tryd.ntmps12
      go_wp2
      go_ret
      exact ⟨by first | rfl | (simp; done) | (simp [*]; done), by repeat (first | exact Drawn0.refl _ | apply Drawn0.step)⟩

end Go.Proofs.YtkkmgahgejjhgaaDoor.P
/- What the laws of chapter 3 share: the chapter's example, a number from 0 to n - 1. -/
namespace Go.Proofs.YtkkmgahgejjhgaaDoor.Pure
open Go.RowKit Go.Proofs.YtkkmgahgejjhgaaDoor.P Go.Proofs.YtkkmgahgejjhgaaDoorW.PrintWords Go.Proofs.YtkkmgahgejjhgaaDoorW.PrintLast
theorem wrap_ok (n : Int) (h0 : -9223372036854775808 ≤ n) (h1 : n ≤ 9223372036854775807) : wrap64 n = n := by
  unfold wrap64
  omega
theorem i64_of {n : Int} (h : (Lit.int .i64 n).wf = true) : -9223372036854775808 ≤ n ∧ n ≤ 9223372036854775807 := by
  have h1 : IntKind.i64.min ≤ n ∧ n ≤ 9223372036854775807 := by simpa [Lit.wf] using h
  exact h1
theorem within_val {a n : Int} (ha : -9223372036854775808 ≤ a ∧ a ≤ 9223372036854775807) (h0 : 0 < n) (hn : n ≤ 4611686018427387904) : thyrsuslaw3_within.f a n = some (a % n) := by
  unfold thyrsuslaw3_within.f
  rw [if_neg (by omega)]
  have h1 := Int.emod_nonneg a (show n ≠ 0 by omega)
  have h2 := Int.emod_lt_of_pos a h0
  by_cases h : 0 ≤ a
  · rw [Int.tmod_eq_emod_of_nonneg h, if_neg (by omega)]
  · have e := Int.tmod_eq_emod (a := a) (b := n)
    by_cases hd : n ∣ a
    · rw [if_pos (.inr hd)] at e
      have h3 := Int.emod_eq_zero_of_dvd hd
      rw [if_neg (by omega)]
      simp only [Option.some.injEq]
      omega
    · rw [if_neg (by omega)] at e
      rw [if_pos (by omega)]
      simp only [Option.some.injEq]
      unfold wrap64
      omega
theorem within_ex {a n : Int} (ha : -9223372036854775808 ≤ a ∧ a ≤ 9223372036854775807) (h0 : 0 < n) (hn : n ≤ 4611686018427387904) : ∃ t : Nat, (t : Int) < n ∧ thyrsuslaw3_within.f a n = some (t : Int) := by
  have h1 := Int.emod_nonneg a (show n ≠ 0 by omega)
  have h2 := Int.emod_lt_of_pos a h0
  refine ⟨(a % n).toNat, by omega, ?_⟩
  rw [within_val ha h0 hn]
  congr 1
  omega
theorem known_k (d : Nat) : thyrsuslaw3_known.f (d + 3) = some true := by kernel_rfl
end Go.Proofs.YtkkmgahgejjhgaaDoor.Pure
-- Printed by mkprint.py (a program of this session, over the kit's print). Lean checks it.
namespace Go.Proofs.YtkkmgahgejjhgaaDoor.P
open Go.RowKit Go.Proofs.YtkkmgahgejjhgaaDoorW.PrintWords Go.Proofs.YtkkmgahgejjhgaaDoorW.PrintLast Go.Proofs.YtkkmgahgejjhgaaDoorW.PrintMore
attribute [local go_sem] max2_int min2_int max_two min_two max_three min_three max_four min_four   -- for this text's walks alone
set_option linter.unusedVariables false
set_option linter.unusedSimpArgs false

-- NOT PRINTED: function 14 (thyrsusref3_Parse)

/-! ### thyrsusref3_Same: function 20 -/
mutual
def thyrsusref3_Same.j0 : Nat → Bool → Int → Int → ByteArray → List (S42) → Int → Int → ByteArray → List (S42) → Option (Bool)
  | 0, _, _, _, _, _, _, _, _, _ => none
  | k + 1, x33, x200000, x200001, x200002, x200003, x201000, x201001, x201002, x201003 => if x33 = true then (some false) else (thyrsusref3_Same.l0 k 0 x200000 x200001 x200002 x200003 x201000 x201001 x201002 x201003)
def thyrsusref3_Same.l0 : Nat → Int → Int → Int → ByteArray → List (S42) → Int → Int → ByteArray → List (S42) → Option (Bool)
  | 0, _, _, _, _, _, _, _, _, _ => none
  | k + 1, x5, x200000, x200001, x200002, x200003, x201000, x201001, x201002, x201003 => if x5 < (x200003.length : Int) then (if 0 ≤ x5 then (if x5 < (x201003.length : Int) then ((thyrsusref3_Same.f k ((rd_T42 x200003 x5).f0) ((rd_T42 x200003 x5).f1) ((rd_T42 x200003 x5).f2) ((rd_T42 x200003 x5).f3) ((rd_T42 x201003 x5).f0) ((rd_T42 x201003 x5).f1) ((rd_T42 x201003 x5).f2) ((rd_T42 x201003 x5).f3)).bind fun t203 => (if t203 = true then (thyrsusref3_Same.l0 k (wrap64 (x5 + 1)) x200000 x200001 x200002 x200003 x201000 x201001 x201002 x201003) else (some false))) else (none)) else (none)) else (some true)
def thyrsusref3_Same.f : Nat → Int → Int → ByteArray → List (S42) → Int → Int → ByteArray → List (S42) → Option (Bool)
  | 0, _, _, _, _, _, _, _, _ => none
  | k + 1, a0_0, a0_1, a0_2, l0_3, a1_0, a1_1, a1_2, l1_3 => if a0_0 = a1_0 then (if a0_1 = a1_1 then (if a0_2.toList = a1_2.toList then (thyrsusref3_Same.j0 k ((l0_3.length : Int) != (l1_3.length : Int)) a0_0 a0_1 a0_2 l0_3 a1_0 a1_1 a1_2 l1_3) else (thyrsusref3_Same.j0 k true a0_0 a0_1 a0_2 l0_3 a1_0 a1_1 a1_2 l1_3)) else (thyrsusref3_Same.j0 k true a0_0 a0_1 a0_2 l0_3 a1_0 a1_1 a1_2 l1_3)) else (thyrsusref3_Same.j0 k true a0_0 a0_1 a0_2 l0_3 a1_0 a1_1 a1_2 l1_3)
end
def thyrsusref3_Same.T6 : Bool × List (List Nat × List Nat) := (true, [([], []), ([0], [0]), ([], []), ([1, 2], [1, 2]), ([3], [3]), ([], []), ([5], [5]), ([], []), ([6, 7], [6, 7]), ([8], [8]), ([4, 9], [4, 9]), ([10], [10])])
def thyrsusref3_Same.B6 : List Nat := [0, 1, 0, 7, 15, 0, 32, 0, 224, 480, 1023, 2047]
theorem thyrsusref3_Same.tab6 : rtab .any (opsOf Tryd.f20 6) = thyrsusref3_Same.T6 := by kernel_rfl
theorem thyrsusref3_Same.bits6 : waitsOk thyrsusref3_Same.T6.2 thyrsusref3_Same.B6 = true := by kernel_rfl
set_option maxHeartbeats 8000000 in
set_option maxRecDepth 100000 in
theorem thyrsusref3_Same.calls (k : Nat) : ∀ (a0_0 : Int) (a0_1 : Int) (a0_2 : ByteArray) (A0_3 : Option Addr) (c0_3 : Nat) (l0_3 : List (S42)) (a1_0 : Int) (a1_1 : Int) (a1_2 : ByteArray) (A1_3 : Option Addr) (c1_3 : Nat) (l1_3 : List (S42)) (r : Bool) (w : World) (hr0_3 : Kd.C k42 w A0_3 l0_3.length l0_3) (hc0_3 : l0_3.length ≤ c0_3) (hr1_3 : Kd.C k42 w A1_3 l1_3.length l1_3) (hc1_3 : l1_3.length ≤ c1_3) (h : thyrsusref3_Same.f k a0_0 a0_1 a0_2 l0_3 a1_0 a1_1 a1_2 l1_3 = some r),
    Calls Tryd.prog 20 #[.agg #[.int .i64 a0_0, .int .i64 a0_1, .string a0_2, .slice A0_3 l0_3.length c0_3], .agg #[.int .i64 a1_0, .int .i64 a1_1, .string a1_2, .slice A1_3 l1_3.length c1_3]] w fun e w' => e = .returned (.bool r) ∧ Below w.heap.size w w' := by
  induction k using Nat.strongRecOn with
  | _ k ih =>
  intro a0_0 a0_1 a0_2 A0_3 c0_3 l0_3 a1_0 a1_1 a1_2 A1_3 c1_3 l1_3 r w hr0_3 hc0_3 hr1_3 hc1_3 h
  cases k with
  | zero => exact absurd h (by simp [thyrsusref3_Same.f])
  | succ k =>
  simp only [thyrsusref3_Same.f] at h
  have hu42 := Tryd.underlying42
  have HR0_3 := Aside0.mk hr0_3
  have HC0_3 := Aside0.mk hc0_3
  clear hr0_3 hc0_3
  have HR1_3 := Aside0.mk hr1_3
  have HC1_3 := Aside0.mk hc1_3
  clear hr1_3 hc1_3
  have HB := Aside0.mk (Below.refl w.heap.size w)
  have H : (if a0_0 = a1_0 then (if a0_1 = a1_1 then (if a0_2.toList = a1_2.toList then (thyrsusref3_Same.j0 k ((l0_3.length : Int) != (l1_3.length : Int)) a0_0 a0_1 a0_2 l0_3 a1_0 a1_1 a1_2 l1_3) else (thyrsusref3_Same.j0 k true a0_0 a0_1 a0_2 l0_3 a1_0 a1_1 a1_2 l1_3)) else (thyrsusref3_Same.j0 k true a0_0 a0_1 a0_2 l0_3 a1_0 a1_1 a1_2 l1_3)) else (thyrsusref3_Same.j0 k true a0_0 a0_1 a0_2 l0_3 a1_0 a1_1 a1_2 l1_3)) = some r := h
  clear h
  have HC3 := Aside0.mk H
  clear H
  go_enter Tryd.func20, Tryd.ntmps20
  go_upto_region 1 with (first | ((with_reducible refine gate_dst (N := 2) rfl ?_); (try (refine gate_guard (by rfl) ?_; dsimp only)); refine box_event ?hg (N := 2) ?hd (cs := #[.int .i64 a0_0, .int .i64 a0_1, .string a0_2, .slice A0_3 l0_3.length c0_3]) (t := 42) ?hr ?_; (case hd => rfl); (case hg => rfl); (case hr => first | (go_simp; done) | (go_simp; rfl)); intro gb199 hg w4 hbox hb; have n0_ := Aside0.mk (below_step (by repeat (first | (with_reducible first | exact HB.out | apply below_alloc | apply pw_below_drewN | apply below_drew1) | exact HB.out)) hb); have n1_ := Aside0.mk (hbox); have n2_ := Aside0.mk ((by rw [hg]; exact (below_size (by repeat (first | (with_reducible first | exact HB.out | apply below_alloc | apply pw_below_drewN | apply below_drew1) | exact HB.out))) : w.heap.size ≤ gb199)); have n3_ := Aside0.mk ((by rw [hg]; exact (below_size (by repeat (first | (with_reducible first | exact HB.out | apply below_alloc | apply pw_below_drewN | apply below_drew1) | exact HB.out))) : w.heap.size ≤ gb199)); clear HB; have HB := n0_; have BK199 := n1_; have GW199 := n2_; have GE199 := n3_; clear n0_ n1_ n2_ n3_; clear hb hbox hg) | ((with_reducible refine gate_dst (N := 3) rfl ?_); (try (refine gate_guard (by rfl) ?_; dsimp only)); refine box_event ?hg (N := 3) ?hd (cs := #[.int .i64 a1_0, .int .i64 a1_1, .string a1_2, .slice A1_3 l1_3.length c1_3]) (t := 42) ?hr ?_; (case hd => rfl); (case hg => rfl); (case hr => first | (go_simp; done) | (go_simp; rfl)); intro gb200 hg w5 hbox hb; have n0_ := Aside0.mk (blk_below (g := gb199) (o := .cells #[.int .i64 a0_0, .int .i64 a0_1, .string a0_2, .slice A0_3 l0_3.length c0_3] 42 (0, 0)) (by (with_reducible repeat (first | refine blk_drewN ?_ _ | refine blk_drew ?_ | refine blk_alloc ?_ _)); exact BK199.out) hb); have n1_ := Aside0.mk (below_step (by repeat (first | (with_reducible first | exact HB.out | apply below_alloc | apply pw_below_drewN | apply below_drew1 | refine below_set ?_ GE199.out) | exact HB.out)) hb); have n2_ := Aside0.mk (hbox); have n3_ := Aside0.mk ((by rw [hg]; exact (below_size (by repeat (first | (with_reducible first | exact HB.out | apply below_alloc | apply pw_below_drewN | apply below_drew1 | refine below_set ?_ GE199.out) | exact HB.out))) : w.heap.size ≤ gb200)); have n4_ := Aside0.mk ((by rw [hg]; exact (below_size (by repeat (first | (with_reducible first | exact HB.out | apply below_alloc | apply pw_below_drewN | apply below_drew1 | refine below_set ?_ GE199.out) | exact HB.out))) : w.heap.size ≤ gb200)); have n5_ := Aside0.mk ((by rw [hg]; exact Nat.ne_of_lt (blk_lt (g := gb199) (o := .cells #[.int .i64 a0_0, .int .i64 a0_1, .string a0_2, .slice A0_3 l0_3.length c0_3] 42 (0, 0)) (by (with_reducible repeat (first | refine blk_drewN ?_ _ | refine blk_drew ?_ | refine blk_alloc ?_ _)); exact BK199.out)) : gb199 ≠ gb200)); have n6_ := Aside0.mk ((by rw [hg]; exact Nat.ne_of_gt (blk_lt (g := gb199) (o := .cells #[.int .i64 a0_0, .int .i64 a0_1, .string a0_2, .slice A0_3 l0_3.length c0_3] 42 (0, 0)) (by (with_reducible repeat (first | refine blk_drewN ?_ _ | refine blk_drew ?_ | refine blk_alloc ?_ _)); exact BK199.out)) : gb200 ≠ gb199)); clear BK199; clear HB; have BK199 := n0_; have HB := n1_; have BK200 := n2_; have GW200 := n3_; have GE200 := n4_; have NB199_200 := n5_; have NB200_199 := n6_; clear n0_ n1_ n2_ n3_ n4_ n5_ n6_; clear hb hbox hg))
  (try simp only [Act.put, List.setIfInBounds_toArray, List.set_cons_zero, List.set_cons_succ])
  go_cut [33] (fun v33 wc => ∃ (kq : Nat) (x33_2 : Bool), v33 = .bool x33_2 ∧ Aside0 (thyrsusref3_Same.j0 kq x33_2 a0_0 a0_1 a0_2 l0_3 a1_0 a1_1 a1_2 l1_3 = some r) ∧ Aside0 (kq ≤ k) ∧ Aside0 (wc.heap[gb199]? = some (.cells #[.int .i64 a0_0, .int .i64 a0_1, .string a0_2, (.slice A0_3 l0_3.length c0_3)] 42 (0, 0))) ∧ Aside0 (wc.heap[gb200]? = some (.cells #[.int .i64 a1_0, .int .i64 a1_1, .string a1_2, (.slice A1_3 l1_3.length c1_3)] 42 (0, 0))) ∧ Aside0 (Below w.heap.size w wc))
  case first =>
    have H := HC3.out
    clear HC3
    by_cases c6 : a0_0 = a1_0
    · rw [if_pos c6] at H
      have c6b0 : (a0_0 == a1_0) = true := beq_iff_eq.mpr c6
      have c6b1 : (a0_0 != a1_0) = false := bne_eq_false_iff_eq.mpr c6
      clear c6
      (first | rw [c6b0] | (simp only [i64_w, i32_w, u8_w, u32_w]; rw [c6b0]) | skip)
      by_cases c7 : a0_1 = a1_1
      · rw [if_pos c7] at H
        have c7b0 : (a0_1 == a1_1) = true := beq_iff_eq.mpr c7
        have c7b1 : (a0_1 != a1_1) = false := bne_eq_false_iff_eq.mpr c7
        clear c7
        by_cases c8 : a0_2.toList = a1_2.toList
        · rw [if_pos c8] at H
          have c8b0 : (a0_2.toList == a1_2.toList) = true := beq_iff_eq.mpr c8
          have c8b1 : (a0_2.toList != a1_2.toList) = false := bne_eq_false_iff_eq.mpr c8
          clear c8
          have H' := Aside0.mk H
          clear H
          have hnb9 := NB199_200.out
          have hnc9 := NB200_199.out
          have hcz10_0 : w5.cell? ⟨gb199, 0, none⟩ = some (.int .i64 a0_0) := (blk_cell BK199.out 0).trans rfl
          have hcz10_1 : w5.cell? ⟨gb199, 1, none⟩ = some (.int .i64 a0_1) := (blk_cell BK199.out 1).trans rfl
          have hcz10_2 : w5.cell? ⟨gb199, 2, none⟩ = some (.string a0_2) := (blk_cell BK199.out 2).trans rfl
          have hcz10_3 : w5.cell? ⟨gb199, 3, none⟩ = some (.slice A0_3 l0_3.length c0_3) := (blk_cell BK199.out 3).trans rfl
          have hfz10_0 := blk_frozen BK199.out 0
          have hfz10_1 := blk_frozen BK199.out 1
          have hfz10_2 := blk_frozen BK199.out 2
          have hfz10_3 := blk_frozen BK199.out 3
          have hcz11_0 : w5.cell? ⟨gb200, 0, none⟩ = some (.int .i64 a1_0) := (blk_cell BK200.out 0).trans rfl
          have hcz11_1 : w5.cell? ⟨gb200, 1, none⟩ = some (.int .i64 a1_1) := (blk_cell BK200.out 1).trans rfl
          have hcz11_2 : w5.cell? ⟨gb200, 2, none⟩ = some (.string a1_2) := (blk_cell BK200.out 2).trans rfl
          have hcz11_3 : w5.cell? ⟨gb200, 3, none⟩ = some (.slice A1_3 l1_3.length c1_3) := (blk_cell BK200.out 3).trans rfl
          have hfz11_0 := blk_frozen BK200.out 0
          have hfz11_1 := blk_frozen BK200.out 1
          have hfz11_2 := blk_frozen BK200.out 2
          have hfz11_3 := blk_frozen BK200.out 3
          go_wp2
          go_meet
          case rel => exact ⟨_, (((l0_3.length : Int) != (l1_3.length : Int))), (by first | rfl | (simp; done) | (simp [*]; done)), H', ⟨by first | omega | exact Nat.le_refl _⟩, ⟨by (with_reducible repeat (first | refine blk_drewN ?_ _ | refine blk_drew ?_ | refine blk_alloc ?_ _)); exact BK199.out⟩, ⟨by (with_reducible repeat (first | refine blk_drewN ?_ _ | refine blk_drew ?_ | refine blk_alloc ?_ _)); exact BK200.out⟩, ⟨by repeat (first | (with_reducible first | exact HB.out | apply below_alloc | apply pw_below_drewN | apply below_drew1 | refine below_set ?_ GE199.out | refine below_set ?_ GE200.out) | exact HB.out)⟩⟩
        · rw [if_neg c8] at H
          have c8b0 : (a0_2.toList == a1_2.toList) = false := beq_eq_false_iff_ne.mpr c8
          have c8b1 : (a0_2.toList != a1_2.toList) = true := bne_iff_ne.mpr c8
          have H' := Aside0.mk H
          clear H
          have hnb12 := NB199_200.out
          have hnc12 := NB200_199.out
          have hcz13_0 : w5.cell? ⟨gb199, 0, none⟩ = some (.int .i64 a0_0) := (blk_cell BK199.out 0).trans rfl
          have hcz13_1 : w5.cell? ⟨gb199, 1, none⟩ = some (.int .i64 a0_1) := (blk_cell BK199.out 1).trans rfl
          have hcz13_2 : w5.cell? ⟨gb199, 2, none⟩ = some (.string a0_2) := (blk_cell BK199.out 2).trans rfl
          have hcz13_3 : w5.cell? ⟨gb199, 3, none⟩ = some (.slice A0_3 l0_3.length c0_3) := (blk_cell BK199.out 3).trans rfl
          have hfz13_0 := blk_frozen BK199.out 0
          have hfz13_1 := blk_frozen BK199.out 1
          have hfz13_2 := blk_frozen BK199.out 2
          have hfz13_3 := blk_frozen BK199.out 3
          have hcz14_0 : w5.cell? ⟨gb200, 0, none⟩ = some (.int .i64 a1_0) := (blk_cell BK200.out 0).trans rfl
          have hcz14_1 : w5.cell? ⟨gb200, 1, none⟩ = some (.int .i64 a1_1) := (blk_cell BK200.out 1).trans rfl
          have hcz14_2 : w5.cell? ⟨gb200, 2, none⟩ = some (.string a1_2) := (blk_cell BK200.out 2).trans rfl
          have hcz14_3 : w5.cell? ⟨gb200, 3, none⟩ = some (.slice A1_3 l1_3.length c1_3) := (blk_cell BK200.out 3).trans rfl
          have hfz14_0 := blk_frozen BK200.out 0
          have hfz14_1 := blk_frozen BK200.out 1
          have hfz14_2 := blk_frozen BK200.out 2
          have hfz14_3 := blk_frozen BK200.out 3
          go_wp2
          go_meet
          case rel => exact ⟨_, (true), (by first | rfl | (simp; done) | (simp [*]; done)), H', ⟨by first | omega | exact Nat.le_refl _⟩, ⟨by (with_reducible repeat (first | refine blk_drewN ?_ _ | refine blk_drew ?_ | refine blk_alloc ?_ _)); exact BK199.out⟩, ⟨by (with_reducible repeat (first | refine blk_drewN ?_ _ | refine blk_drew ?_ | refine blk_alloc ?_ _)); exact BK200.out⟩, ⟨by repeat (first | (with_reducible first | exact HB.out | apply below_alloc | apply pw_below_drewN | apply below_drew1 | refine below_set ?_ GE199.out | refine below_set ?_ GE200.out) | exact HB.out)⟩⟩
      · rw [if_neg c7] at H
        have c7b0 : (a0_1 == a1_1) = false := beq_eq_false_iff_ne.mpr c7
        have c7b1 : (a0_1 != a1_1) = true := bne_iff_ne.mpr c7
        have H' := Aside0.mk H
        clear H
        have hnb15 := NB199_200.out
        have hnc15 := NB200_199.out
        have hcz16_0 : w5.cell? ⟨gb199, 0, none⟩ = some (.int .i64 a0_0) := (blk_cell BK199.out 0).trans rfl
        have hcz16_1 : w5.cell? ⟨gb199, 1, none⟩ = some (.int .i64 a0_1) := (blk_cell BK199.out 1).trans rfl
        have hcz16_2 : w5.cell? ⟨gb199, 2, none⟩ = some (.string a0_2) := (blk_cell BK199.out 2).trans rfl
        have hcz16_3 : w5.cell? ⟨gb199, 3, none⟩ = some (.slice A0_3 l0_3.length c0_3) := (blk_cell BK199.out 3).trans rfl
        have hfz16_0 := blk_frozen BK199.out 0
        have hfz16_1 := blk_frozen BK199.out 1
        have hfz16_2 := blk_frozen BK199.out 2
        have hfz16_3 := blk_frozen BK199.out 3
        have hcz17_0 : w5.cell? ⟨gb200, 0, none⟩ = some (.int .i64 a1_0) := (blk_cell BK200.out 0).trans rfl
        have hcz17_1 : w5.cell? ⟨gb200, 1, none⟩ = some (.int .i64 a1_1) := (blk_cell BK200.out 1).trans rfl
        have hcz17_2 : w5.cell? ⟨gb200, 2, none⟩ = some (.string a1_2) := (blk_cell BK200.out 2).trans rfl
        have hcz17_3 : w5.cell? ⟨gb200, 3, none⟩ = some (.slice A1_3 l1_3.length c1_3) := (blk_cell BK200.out 3).trans rfl
        have hfz17_0 := blk_frozen BK200.out 0
        have hfz17_1 := blk_frozen BK200.out 1
        have hfz17_2 := blk_frozen BK200.out 2
        have hfz17_3 := blk_frozen BK200.out 3
        go_wp2
        go_meet
        case rel => exact ⟨_, (true), (by first | rfl | (simp; done) | (simp [*]; done)), H', ⟨by first | omega | exact Nat.le_refl _⟩, ⟨by (with_reducible repeat (first | refine blk_drewN ?_ _ | refine blk_drew ?_ | refine blk_alloc ?_ _)); exact BK199.out⟩, ⟨by (with_reducible repeat (first | refine blk_drewN ?_ _ | refine blk_drew ?_ | refine blk_alloc ?_ _)); exact BK200.out⟩, ⟨by repeat (first | (with_reducible first | exact HB.out | apply below_alloc | apply pw_below_drewN | apply below_drew1 | refine below_set ?_ GE199.out | refine below_set ?_ GE200.out) | exact HB.out)⟩⟩
    · rw [if_neg c6] at H
      have c6b0 : (a0_0 == a1_0) = false := beq_eq_false_iff_ne.mpr c6
      have c6b1 : (a0_0 != a1_0) = true := bne_iff_ne.mpr c6
      (first | rw [c6b0] | (simp only [i64_w, i32_w, u8_w, u32_w]; rw [c6b0]) | skip)
      have H' := Aside0.mk H
      clear H
      have hnb18 := NB199_200.out
      have hnc18 := NB200_199.out
      have hcz19_0 : w5.cell? ⟨gb199, 0, none⟩ = some (.int .i64 a0_0) := (blk_cell BK199.out 0).trans rfl
      have hcz19_1 : w5.cell? ⟨gb199, 1, none⟩ = some (.int .i64 a0_1) := (blk_cell BK199.out 1).trans rfl
      have hcz19_2 : w5.cell? ⟨gb199, 2, none⟩ = some (.string a0_2) := (blk_cell BK199.out 2).trans rfl
      have hcz19_3 : w5.cell? ⟨gb199, 3, none⟩ = some (.slice A0_3 l0_3.length c0_3) := (blk_cell BK199.out 3).trans rfl
      have hfz19_0 := blk_frozen BK199.out 0
      have hfz19_1 := blk_frozen BK199.out 1
      have hfz19_2 := blk_frozen BK199.out 2
      have hfz19_3 := blk_frozen BK199.out 3
      have hcz20_0 : w5.cell? ⟨gb200, 0, none⟩ = some (.int .i64 a1_0) := (blk_cell BK200.out 0).trans rfl
      have hcz20_1 : w5.cell? ⟨gb200, 1, none⟩ = some (.int .i64 a1_1) := (blk_cell BK200.out 1).trans rfl
      have hcz20_2 : w5.cell? ⟨gb200, 2, none⟩ = some (.string a1_2) := (blk_cell BK200.out 2).trans rfl
      have hcz20_3 : w5.cell? ⟨gb200, 3, none⟩ = some (.slice A1_3 l1_3.length c1_3) := (blk_cell BK200.out 3).trans rfl
      have hfz20_0 := blk_frozen BK200.out 0
      have hfz20_1 := blk_frozen BK200.out 1
      have hfz20_2 := blk_frozen BK200.out 2
      have hfz20_3 := blk_frozen BK200.out 3
      go_wp2
      go_meet
      case rel => exact ⟨_, (true), (by first | rfl | (simp; done) | (simp [*]; done)), H', ⟨by first | omega | exact Nat.le_refl _⟩, ⟨by (with_reducible repeat (first | refine blk_drewN ?_ _ | refine blk_drew ?_ | refine blk_alloc ?_ _)); exact BK199.out⟩, ⟨by (with_reducible repeat (first | refine blk_drewN ?_ _ | refine blk_drew ?_ | refine blk_alloc ?_ _)); exact BK200.out⟩, ⟨by repeat (first | (with_reducible first | exact HB.out | apply below_alloc | apply pw_below_drewN | apply below_drew1 | refine below_set ?_ GE199.out | refine below_set ?_ GE200.out) | exact HB.out)⟩⟩
  case rest =>
    clear HC3
    try clear c1
    try clear c2
    try clear p2
    try clear c6
    try clear c6b0
    try clear c6b1
    try clear c7
    try clear c7b0
    try clear c7b1
    try clear c8
    try clear c8b0
    try clear c8b1
    try clear c9
    try clear c12
    try clear c15
    try clear c18
    try clear c20
    try clear hcz10_0
    try clear hcz10_1
    try clear hcz10_2
    try clear hcz10_3
    try clear hcz11_0
    try clear hcz11_1
    try clear hcz11_2
    try clear hcz11_3
    try clear hcz13_0
    try clear hcz13_1
    try clear hcz13_2
    try clear hcz13_3
    try clear hcz14_0
    try clear hcz14_1
    try clear hcz14_2
    try clear hcz14_3
    try clear hcz16_0
    try clear hcz16_1
    try clear hcz16_2
    try clear hcz16_3
    try clear hcz17_0
    try clear hcz17_1
    try clear hcz17_2
    try clear hcz17_3
    try clear hcz19_0
    try clear hcz19_1
    try clear hcz19_2
    try clear hcz19_3
    try clear hcz20_0
    try clear hcz20_1
    try clear hcz20_2
    try clear hcz20_3
    try clear hfz10_0
    try clear hfz10_1
    try clear hfz10_2
    try clear hfz10_3
    try clear hfz11_0
    try clear hfz11_1
    try clear hfz11_2
    try clear hfz11_3
    try clear hfz13_0
    try clear hfz13_1
    try clear hfz13_2
    try clear hfz13_3
    try clear hfz14_0
    try clear hfz14_1
    try clear hfz14_2
    try clear hfz14_3
    try clear hfz16_0
    try clear hfz16_1
    try clear hfz16_2
    try clear hfz16_3
    try clear hfz17_0
    try clear hfz17_1
    try clear hfz17_2
    try clear hfz17_3
    try clear hfz19_0
    try clear hfz19_1
    try clear hfz19_2
    try clear hfz19_3
    try clear hfz20_0
    try clear hfz20_1
    try clear hfz20_2
    try clear hfz20_3
    obtain ⟨kq, x33_2, rfl, HA, HJ2, BK199, BK200, HB⟩ := hcut
    cases kq with
    | zero => exact absurd HA.out (by simp [thyrsusref3_Same.j0])
    | succ kj2 =>
      have H := HA.out
      clear HA
      simp only [thyrsusref3_Same.j0] at H
      by_cases c21 : x33_2 = true
      · subst c21
        have H1 : (some false) = some r := by rw [if_pos rfl] at H; exact H
        clear H
        have H := H1
        clear H1
        obtain rfl := Option.some.inj H
        go_wp2
        go_ret
        exact ⟨by first | rfl | (simp [errW_none, errW_some] <;> rfl) | (simp [*, errW_none, errW_some] <;> rfl), by repeat (first | (with_reducible first | exact HB.out | apply below_alloc | apply pw_below_drewN | apply below_drew1 | refine below_set ?_ GE199.out | refine below_set ?_ GE200.out) | exact HB.out)⟩
      · replace c21 := Bool.eq_false_iff.mpr c21
        subst c21
        have H1 : (thyrsusref3_Same.l0 kj2 0 a0_0 a0_1 a0_2 l0_3 a1_0 a1_1 a1_2 l1_3) = some r := by rw [if_neg (show ¬ (false = true) by decide)] at H; exact H
        clear H
        have H := H1
        clear H1
        have H' := Aside0.mk H
        clear H
        go_wp2
        go_loopg [5] kj2 (fun kq v5 w' => ∃ (x5_2 : Int), v5 = .int .i64 x5_2 ∧ Aside0 (thyrsusref3_Same.l0 kq x5_2 a0_0 a0_1 a0_2 l0_3 a1_0 a1_1 a1_2 l1_3 = some r) ∧ Aside0 (kq ≤ kj2) ∧ Aside0 (w'.heap[gb199]? = some (.cells #[.int .i64 a0_0, .int .i64 a0_1, .string a0_2, (.slice A0_3 l0_3.length c0_3)] 42 (0, 0))) ∧ Aside0 (w'.heap[gb200]? = some (.cells #[.int .i64 a1_0, .int .i64 a1_1, .string a1_2, (.slice A1_3 l1_3.length c1_3)] 42 (0, 0))) ∧ Aside0 (Below w.heap.size w w'))
        case atStart => exact ⟨(0), (by first | rfl | (simp; done) | (simp [*]; done)), H', ⟨Nat.le_refl _⟩, ⟨by (with_reducible repeat (first | refine blk_drewN ?_ _ | refine blk_drew ?_ | refine blk_alloc ?_ _)); exact BK199.out⟩, ⟨by (with_reducible repeat (first | refine blk_drewN ?_ _ | refine blk_drew ?_ | refine blk_alloc ?_ _)); exact BK200.out⟩, ⟨by repeat (first | (with_reducible first | exact HB.out | apply below_alloc | apply pw_below_drewN | apply below_drew1 | refine below_set ?_ GE199.out | refine below_set ?_ GE200.out) | exact HB.out)⟩⟩
        case round =>
          clear H'
          try clear c1
          try clear c2
          try clear p2
          try clear c6
          try clear c6b0
          try clear c6b1
          try clear c7
          try clear c7b0
          try clear c7b1
          try clear c8
          try clear c8b0
          try clear c8b1
          try clear c9
          try clear c12
          try clear c15
          try clear c18
          try clear c20
          try clear c21
          try clear hcz10_0
          try clear hcz10_1
          try clear hcz10_2
          try clear hcz10_3
          try clear hcz11_0
          try clear hcz11_1
          try clear hcz11_2
          try clear hcz11_3
          try clear hcz13_0
          try clear hcz13_1
          try clear hcz13_2
          try clear hcz13_3
          try clear hcz14_0
          try clear hcz14_1
          try clear hcz14_2
          try clear hcz14_3
          try clear hcz16_0
          try clear hcz16_1
          try clear hcz16_2
          try clear hcz16_3
          try clear hcz17_0
          try clear hcz17_1
          try clear hcz17_2
          try clear hcz17_3
          try clear hcz19_0
          try clear hcz19_1
          try clear hcz19_2
          try clear hcz19_3
          try clear hcz20_0
          try clear hcz20_1
          try clear hcz20_2
          try clear hcz20_3
          try clear hfz10_0
          try clear hfz10_1
          try clear hfz10_2
          try clear hfz10_3
          try clear hfz11_0
          try clear hfz11_1
          try clear hfz11_2
          try clear hfz11_3
          try clear hfz13_0
          try clear hfz13_1
          try clear hfz13_2
          try clear hfz13_3
          try clear hfz14_0
          try clear hfz14_1
          try clear hfz14_2
          try clear hfz14_3
          try clear hfz16_0
          try clear hfz16_1
          try clear hfz16_2
          try clear hfz16_3
          try clear hfz17_0
          try clear hfz17_1
          try clear hfz17_2
          try clear hfz17_3
          try clear hfz19_0
          try clear hfz19_1
          try clear hfz19_2
          try clear hfz19_3
          try clear hfz20_0
          try clear hfz20_1
          try clear hfz20_2
          try clear hfz20_3
          try clear p2
          try clear BK199
          try clear BK200
          try clear HB
          obtain ⟨x5_2, rfl, HA, HK2, BK199, BK200, HB⟩ := hrel
          cases gk with
          | zero => exact absurd HA.out (by simp [thyrsusref3_Same.l0])
          | succ k2 =>
            have H := HA.out
            clear HA
            simp only [thyrsusref3_Same.l0] at H
            by_cases c22 : x5_2 < (l0_3.length : Int)
            · rw [if_pos c22] at H
              have c22b0 : decide (x5_2 < (l0_3.length : Int)) = true := decide_eq_true c22
              clear c22
              by_cases c23 : 0 ≤ x5_2
              · rw [if_pos c23] at H
                have c23b0 : decide (0 ≤ x5_2) = true := decide_eq_true c23
                clear c23
                by_cases c24 : x5_2 < (l1_3.length : Int)
                · rw [if_pos c24] at H
                  have c24b0 : decide (x5_2 < (l1_3.length : Int)) = true := decide_eq_true c24
                  clear c24
                  replace H := Option.bind_eq_some_iff.mp H
                  obtain ⟨t203, A250, H⟩ := H
                  replace H : (if t203 = true then (thyrsusref3_Same.l0 k2 (wrap64 (x5_2 + 1)) a0_0 a0_1 a0_2 l0_3 a1_0 a1_1 a1_2 l1_3) else (some false)) = some r := H
                  have A25 := Aside0.mk A250
                  clear A250
                  by_cases c26 : t203 = true
                  · subst c26
                    have H1 : (thyrsusref3_Same.l0 k2 (wrap64 (x5_2 + 1)) a0_0 a0_1 a0_2 l0_3 a1_0 a1_1 a1_2 l1_3) = some r := by rw [if_pos rfl] at H; exact H
                    clear H
                    have H := H1
                    clear H1
                    have H' := Aside0.mk H
                    clear H
                    have hnb27 := NB199_200.out
                    have hnc27 := NB200_199.out
                    have hcz28_0 : wr.cell? ⟨gb199, 0, none⟩ = some (.int .i64 a0_0) := (blk_cell BK199.out 0).trans rfl
                    have hcz28_1 : wr.cell? ⟨gb199, 1, none⟩ = some (.int .i64 a0_1) := (blk_cell BK199.out 1).trans rfl
                    have hcz28_2 : wr.cell? ⟨gb199, 2, none⟩ = some (.string a0_2) := (blk_cell BK199.out 2).trans rfl
                    have hcz28_3 : wr.cell? ⟨gb199, 3, none⟩ = some (.slice A0_3 l0_3.length c0_3) := (blk_cell BK199.out 3).trans rfl
                    have hfz28_0 := blk_frozen BK199.out 0
                    have hfz28_1 := blk_frozen BK199.out 1
                    have hfz28_2 := blk_frozen BK199.out 2
                    have hfz28_3 := blk_frozen BK199.out 3
                    try go_wp2
                    have n0_ := Aside0.mk (blk_drew BK199.out)
                    have n1_ := Aside0.mk (blk_drew BK200.out)
                    have n2_ := Aside0.mk (below_drew1 HB.out)
                    clear BK199
                    clear BK200
                    clear HB
                    have BK199 := n0_
                    have BK200 := n1_
                    have HB := n2_
                    clear n0_ n1_ n2_
                    have p201 : 0 ≤ (x5_2 : Int) := of_decide_eq_true (by first | (with_reducible assumption) | assumption)
                    have q201 : x5_2 < (l0_3.length : Int) := of_decide_eq_true (by first | (with_reducible assumption) | assumption)
                    obtain ⟨ad201, A201_3, c201_3, e201, hx201_0, hx201_1, hx201_2, hx201_3, hl201_3, hi201_3⟩ := at_T42 HR0_3.out x5_2 p201 q201
                    have hw201_3 := hx201_3
                    have hw201_2 := hx201_2
                    have hw201_1 := hx201_1
                    have hw201_0 := hx201_0
                    cases e201
                    replace hx201_0 := (HB.out.cell (World.block_lt_of_cell? w _ hx201_0)).trans hx201_0
                    replace hx201_1 := (HB.out.cell (World.block_lt_of_cell? w _ hx201_1)).trans hx201_1
                    replace hx201_2 := (HB.out.cell (World.block_lt_of_cell? w _ hx201_2)).trans hx201_2
                    replace hx201_3 := (HB.out.cell (World.block_lt_of_cell? w _ hx201_3)).trans hx201_3
                    have HR201_3 := Aside0.mk hi201_3
                    have HC201_3 := Aside0.mk hl201_3
                    clear hi201_3 hl201_3
                    replace p201 := eq_true p201
                    replace q201 := eq_true q201
                    have p202 : 0 ≤ (x5_2 : Int) := of_decide_eq_true (by first | (with_reducible assumption) | assumption)
                    have q202 : x5_2 < (l1_3.length : Int) := of_decide_eq_true (by first | (with_reducible assumption) | assumption)
                    obtain ⟨ad202, A202_3, c202_3, e202, hx202_0, hx202_1, hx202_2, hx202_3, hl202_3, hi202_3⟩ := at_T42 HR1_3.out x5_2 p202 q202
                    have hw202_3 := hx202_3
                    have hw202_2 := hx202_2
                    have hw202_1 := hx202_1
                    have hw202_0 := hx202_0
                    cases e202
                    replace hx202_0 := (HB.out.cell (World.block_lt_of_cell? w _ hx202_0)).trans hx202_0
                    replace hx202_1 := (HB.out.cell (World.block_lt_of_cell? w _ hx202_1)).trans hx202_1
                    replace hx202_2 := (HB.out.cell (World.block_lt_of_cell? w _ hx202_2)).trans hx202_2
                    replace hx202_3 := (HB.out.cell (World.block_lt_of_cell? w _ hx202_3)).trans hx202_3
                    have HR202_3 := Aside0.mk hi202_3
                    have HC202_3 := Aside0.mk hl202_3
                    clear hi202_3 hl202_3
                    replace p202 := eq_true p202
                    replace q202 := eq_true q202
                    refine start_ (n := 12) (S := fun w' => w'.cell? ⟨gb199, 0, none⟩ = some (.int .i64 a0_0) ∧ w'.cell? ⟨gb199, 1, none⟩ = some (.int .i64 a0_1) ∧ w'.cell? ⟨gb199, 2, none⟩ = some (.string a0_2) ∧ w'.cell? ⟨gb199, 3, none⟩ = some (.slice (some ad201) l0_3.length c0_3) ∧ w'.cell? ⟨gb200, 0, none⟩ = some (.int .i64 a1_0) ∧ w'.cell? ⟨gb200, 1, none⟩ = some (.int .i64 a1_1) ∧ w'.cell? ⟨gb200, 2, none⟩ = some (.string a1_2) ∧ w'.cell? ⟨gb200, 3, none⟩ = some (.slice (some ad202) l1_3.length c1_3) ∧ w'.cell? (ad201.add ((x5_2).toNat * 4)) = some (.int .i64 ((rd_T42 l0_3 x5_2).f0)) ∧ w'.cell? ⟨(ad201.add ((x5_2).toNat * 4)).block, (ad201.add ((x5_2).toNat * 4)).off + 1, none⟩ = some (.int .i64 ((rd_T42 l0_3 x5_2).f1)) ∧ w'.cell? ⟨(ad201.add ((x5_2).toNat * 4)).block, (ad201.add ((x5_2).toNat * 4)).off + 2, none⟩ = some (.string ((rd_T42 l0_3 x5_2).f2)) ∧ w'.cell? ⟨(ad201.add ((x5_2).toNat * 4)).block, (ad201.add ((x5_2).toNat * 4)).off + 3, none⟩ = some (.slice A201_3 ((rd_T42 l0_3 x5_2).f3).length c201_3) ∧ w'.cell? (ad202.add ((x5_2).toNat * 4)) = some (.int .i64 ((rd_T42 l1_3 x5_2).f0)) ∧ w'.cell? ⟨(ad202.add ((x5_2).toNat * 4)).block, (ad202.add ((x5_2).toNat * 4)).off + 1, none⟩ = some (.int .i64 ((rd_T42 l1_3 x5_2).f1)) ∧ w'.cell? ⟨(ad202.add ((x5_2).toNat * 4)).block, (ad202.add ((x5_2).toNat * 4)).off + 2, none⟩ = some (.string ((rd_T42 l1_3 x5_2).f2)) ∧ w'.cell? ⟨(ad202.add ((x5_2).toNat * 4)).block, (ad202.add ((x5_2).toNat * 4)).off + 3, none⟩ = some (.slice A202_3 ((rd_T42 l1_3 x5_2).f3).length c202_3)) (ds := []) #[false, false, false, false, false, false, false, false, false, false, false, false] (by kernel_rfl) rfl rfl ⟨(blk_cell BK199.out 0).trans rfl, (blk_cell BK199.out 1).trans rfl, (blk_cell BK199.out 2).trans rfl, (blk_cell BK199.out 3).trans rfl, (blk_cell BK200.out 0).trans rfl, (blk_cell BK200.out 1).trans rfl, (blk_cell BK200.out 2).trans rfl, (blk_cell BK200.out 3).trans rfl, ((HB.out.cell (World.block_lt_of_cell? w _ hw201_0)).trans hw201_0), ((HB.out.cell (World.block_lt_of_cell? w _ hw201_1)).trans hw201_1), ((HB.out.cell (World.block_lt_of_cell? w _ hw201_2)).trans hw201_2), ((HB.out.cell (World.block_lt_of_cell? w _ hw201_3)).trans hw201_3), ((HB.out.cell (World.block_lt_of_cell? w _ hw202_0)).trans hw202_0), ((HB.out.cell (World.block_lt_of_cell? w _ hw202_1)).trans hw202_1), ((HB.out.cell (World.block_lt_of_cell? w _ hw202_2)).trans hw202_2), ((HB.out.cell (World.block_lt_of_cell? w _ hw202_3)).trans hw202_3)⟩ (fun hHeld => ?_); refine with_tabW thyrsusref3_Same.tab6 thyrsusref3_Same.bits6 (fun HT_ HW_ => ?_)
                    generalize wr.drew = w29 at BK199 BK200 HB HR201_3 HR202_3 hx201_0 hx201_1 hx201_2 hx201_3 hx202_0 hx202_1 hx202_2 hx202_3 hHeld ⊢
                    refine pure_ (i := 0) (N := some 41) (v := ?_) (a' := ?_) #[true, false, false, false, false, false, false, false, false, false, false, false] rfl rfl (any_of HT_.out (by kernel_rfl)) (fun _ _ _ h => h) (Or.inl ⟨by rfl, ?_⟩) ?_ ?_
                    rotate_left
                    · intro w'
                      go_simp
                      with_reducible rfl
                    rotate_left
                    · simp only [Act.put, List.setIfInBounds_toArray, List.set_cons_zero, List.set_cons_succ, i64_w, i32_w, u8_w, u32_w]
                      rfl
                    refine pure_ (i := 2) (N := some 43) (v := ?_) (a' := ?_) #[true, false, true, false, false, false, false, false, false, false, false, false] rfl rfl (any_of HT_.out (by kernel_rfl)) (fun _ _ _ h => h) (Or.inl ⟨by rfl, ?_⟩) ?_ ?_
                    rotate_left
                    · intro w'
                      go_simp
                      with_reducible rfl
                    rotate_left
                    · simp only [Act.put, List.setIfInBounds_toArray, List.set_cons_zero, List.set_cons_succ, i64_w, i32_w, u8_w, u32_w]
                      rfl
                    refine pure_ (i := 5) (N := some 46) (v := ?_) (a' := ?_) #[true, false, true, false, false, true, false, false, false, false, false, false] rfl rfl (any_of HT_.out (by kernel_rfl)) (fun _ _ _ h => h) (Or.inl ⟨by rfl, ?_⟩) ?_ ?_
                    rotate_left
                    · intro w'
                      go_simp
                      with_reducible rfl
                    rotate_left
                    · simp only [Act.put, List.setIfInBounds_toArray, List.set_cons_zero, List.set_cons_succ, i64_w, i32_w, u8_w, u32_w]
                      rfl
                    refine pure_ (i := 7) (N := some 48) (v := ?_) (a' := ?_) #[true, false, true, false, false, true, false, true, false, false, false, false] rfl rfl (any_of HT_.out (by kernel_rfl)) (fun _ _ _ h => h) (Or.inl ⟨by rfl, ?_⟩) ?_ ?_
                    rotate_left
                    · intro w'
                      go_simp
                      with_reducible rfl
                    rotate_left
                    · simp only [Act.put, List.setIfInBounds_toArray, List.set_cons_zero, List.set_cons_succ, i64_w, i32_w, u8_w, u32_w]
                      rfl
                    refine take_ (i := 1) (N := some 42) (v := ?_) (a' := ?_) #[true, true, true, false, false, true, false, true, false, false, false, false] rfl rfl (take_ofW HT_.out HW_.out (by kernel_rfl)) (fun _ _ _ h => h) (Or.inl ⟨by rfl, ?_⟩) hHeld ?_ ?_
                    rotate_left
                    · rintro w' ⟨s0, s1, s2, s3, s4, s5, s6, s7, s8, s9, s10, s11, s12, s13, s14, s15⟩
                      go_simp
                      with_reducible rfl
                    rotate_left
                    · simp only [Act.put, List.setIfInBounds_toArray, List.set_cons_zero, List.set_cons_succ, i64_w, i32_w, u8_w, u32_w]
                      rfl
                    refine pure_ (i := 3) (N := some 44) (v := ?_) (a' := ?_) #[true, true, true, true, false, true, false, true, false, false, false, false] rfl rfl (any_of HT_.out (by kernel_rfl)) (fun _ _ _ h => h) (Or.inl ⟨by rfl, ?_⟩) ?_ ?_
                    rotate_left
                    · intro w'
                      go_simp
                      with_reducible rfl
                    rotate_left
                    · simp only [Act.put, List.setIfInBounds_toArray, List.set_cons_zero, List.set_cons_succ, i64_w, i32_w, u8_w, u32_w]
                      rfl
                    refine take_ (i := 4) (N := some 45) (v := ?_) (a' := ?_) #[true, true, true, true, true, true, false, true, false, false, false, false] rfl rfl (take_ofW HT_.out HW_.out (by kernel_rfl)) (fun _ _ _ h => h) (Or.inl ⟨by rfl, ?_⟩) hHeld ?_ ?_
                    rotate_left
                    · rintro w' ⟨s0, s1, s2, s3, s4, s5, s6, s7, s8, s9, s10, s11, s12, s13, s14, s15⟩
                      go_simp
                      with_reducible rfl
                    rotate_left
                    · simp only [Act.put, List.setIfInBounds_toArray, List.set_cons_zero, List.set_cons_succ, i64_w, i32_w, u8_w, u32_w]
                      rfl
                    refine take_ (i := 6) (N := some 47) (v := ?_) (a' := ?_) #[true, true, true, true, true, true, true, true, false, false, false, false] rfl rfl (take_ofW HT_.out HW_.out (by kernel_rfl)) (fun _ _ _ h => h) (Or.inl ⟨by rfl, ?_⟩) hHeld ?_ ?_
                    rotate_left
                    · rintro w' ⟨s0, s1, s2, s3, s4, s5, s6, s7, s8, s9, s10, s11, s12, s13, s14, s15⟩
                      go_simp
                      with_reducible rfl
                    rotate_left
                    · simp only [Act.put, List.setIfInBounds_toArray, List.set_cons_zero, List.set_cons_succ, i64_w, i32_w, u8_w, u32_w]
                      rfl
                    refine pure_ (i := 8) (N := some 49) (v := ?_) (a' := ?_) #[true, true, true, true, true, true, true, true, true, false, false, false] rfl rfl (any_of HT_.out (by kernel_rfl)) (fun _ _ _ h => h) (Or.inl ⟨by rfl, ?_⟩) ?_ ?_
                    rotate_left
                    · intro w'
                      go_simp
                      with_reducible rfl
                    rotate_left
                    · simp only [Act.put, List.setIfInBounds_toArray, List.set_cons_zero, List.set_cons_succ, i64_w, i32_w, u8_w, u32_w]
                      rfl
                    refine take_ (i := 9) (N := some 50) (v := ?_) (a' := ?_) #[true, true, true, true, true, true, true, true, true, true, false, false] rfl rfl (take_ofW HT_.out HW_.out (by kernel_rfl)) (fun _ _ _ h => h) (Or.inl ⟨by rfl, ?_⟩) hHeld ?_ ?_
                    rotate_left
                    · rintro w' ⟨s0, s1, s2, s3, s4, s5, s6, s7, s8, s9, s10, s11, s12, s13, s14, s15⟩
                      go_simp
                      with_reducible rfl
                    rotate_left
                    · simp only [Act.put, List.setIfInBounds_toArray, List.set_cons_zero, List.set_cons_succ, i64_w, i32_w, u8_w, u32_w]
                      rfl
                    refine one_ (i := 10) (N := some 51) #[true, true, true, true, true, true, true, true, true, true, true, false] rfl rfl (one_of HT_.out (by kernel_rfl)) (by decide) (fun K hK => ?_)
                    refine goes_ Tryd.func20 (by kernel_rfl) rfl #[.agg #[.int .i64 ((rd_T42 l0_3 x5_2).f0), .int .i64 ((rd_T42 l0_3 x5_2).f1), .string ((rd_T42 l0_3 x5_2).f2), .slice A201_3 ((rd_T42 l0_3 x5_2).f3).length c201_3], .agg #[.int .i64 ((rd_T42 l1_3 x5_2).f0), .int .i64 ((rd_T42 l1_3 x5_2).f1), .string ((rd_T42 l1_3 x5_2).f2), .slice A202_3 ((rd_T42 l1_3 x5_2).f3).length c202_3]] (by rfl) rfl rfl (by (try simp only [List.map_toArray, List.map_cons, List.map_nil]); first | done | rfl | (simp only [List.length_drop, List.length_take]; rfl)) ?_
                    with_reducible refine (ih k2 (by have := HJ2.out; have := HK2.out; omega) ((rd_T42 l0_3 x5_2).f0) ((rd_T42 l0_3 x5_2).f1) ((rd_T42 l0_3 x5_2).f2) _ _ ((rd_T42 l0_3 x5_2).f3) ((rd_T42 l1_3 x5_2).f0) ((rd_T42 l1_3 x5_2).f1) ((rd_T42 l1_3 x5_2).f2) _ _ ((rd_T42 l1_3 x5_2).f3) true _ ?side1 ?side2 ?side3 ?side4 A25.out).mono ?_
                    (case side1 => repeat (first | exact (Kd.C_below HR201_3.out HB.out) | (with_reducible refine Kd.C_alloc ?_ _) | (with_reducible refine Kd.C_drewN ?_ _) | (with_reducible refine Kd.C_drew ?_)))
                    (case side2 => exact HC201_3.out)
                    (case side3 => repeat (first | exact (Kd.C_below HR202_3.out HB.out) | (with_reducible refine Kd.C_alloc ?_ _) | (with_reducible refine Kd.C_drewN ?_ _) | (with_reducible refine Kd.C_drew ?_)))
                    (case side4 => exact HC202_3.out)
                    rintro e w30 ⟨rfl, hb⟩
                    refine ⟨_, rfl, ?_⟩
                    have n0_ := Aside0.mk (blk_below (g := gb199) (o := .cells #[.int .i64 a0_0, .int .i64 a0_1, .string a0_2, .slice (some ad201) l0_3.length c0_3] 42 (0, 0)) (by (with_reducible repeat (first | refine blk_drewN ?_ _ | refine blk_drew ?_ | refine blk_alloc ?_ _)); exact BK199.out) hb)
                    have n1_ := Aside0.mk (blk_below (g := gb200) (o := .cells #[.int .i64 a1_0, .int .i64 a1_1, .string a1_2, .slice (some ad202) l1_3.length c1_3] 42 (0, 0)) (by (with_reducible repeat (first | refine blk_drewN ?_ _ | refine blk_drew ?_ | refine blk_alloc ?_ _)); exact BK200.out) hb)
                    have n2_ := Aside0.mk (below_step (by repeat (first | (with_reducible first | exact HB.out | apply below_alloc | apply pw_below_drewN | apply below_drew1 | refine below_set ?_ GE199.out | refine below_set ?_ GE200.out) | exact HB.out)) hb)
                    clear BK199
                    clear BK200
                    clear HB
                    have BK199 := n0_
                    have BK200 := n1_
                    have HB := n2_
                    clear n0_ n1_ n2_
                    (try clear hb)
                    (try clear hb2)
                    (try clear hk)
                    (try clear hi)
                    refine hK.out _ _ ⟨(blk_cell BK199.out 0).trans rfl, (blk_cell BK199.out 1).trans rfl, (blk_cell BK199.out 2).trans rfl, (blk_cell BK199.out 3).trans rfl, (blk_cell BK200.out 0).trans rfl, (blk_cell BK200.out 1).trans rfl, (blk_cell BK200.out 2).trans rfl, (blk_cell BK200.out 3).trans rfl, ((HB.out.cell (World.block_lt_of_cell? w _ hw201_0)).trans hw201_0), ((HB.out.cell (World.block_lt_of_cell? w _ hw201_1)).trans hw201_1), ((HB.out.cell (World.block_lt_of_cell? w _ hw201_2)).trans hw201_2), ((HB.out.cell (World.block_lt_of_cell? w _ hw201_3)).trans hw201_3), ((HB.out.cell (World.block_lt_of_cell? w _ hw202_0)).trans hw202_0), ((HB.out.cell (World.block_lt_of_cell? w _ hw202_1)).trans hw202_1), ((HB.out.cell (World.block_lt_of_cell? w _ hw202_2)).trans hw202_2), ((HB.out.cell (World.block_lt_of_cell? w _ hw202_3)).trans hw202_3)⟩ (fun hHeld => ?_)
                    clear hK K
                    refine norm_ (a' := ?_) ?_ ?_
                    rotate_left
                    · show Act.put _ (some 51) _ = _
                      simp only [Act.put, List.setIfInBounds_toArray, List.set_cons_zero, List.set_cons_succ, i64_w, i32_w, u8_w, u32_w]
                      rfl
                    refine pure_ (i := 11) (N := some 52) (v := ?_) (a' := ?_) #[true, true, true, true, true, true, true, true, true, true, true, true] rfl rfl (any_of HT_.out (by kernel_rfl)) (fun _ _ _ h => h) (Or.inl ⟨by rfl, ?_⟩) ?_ ?_
                    rotate_left
                    · intro w'
                      go_simp
                      with_reducible rfl
                    rotate_left
                    · simp only [Act.put, List.setIfInBounds_toArray, List.set_cons_zero, List.set_cons_succ, i64_w, i32_w, u8_w, u32_w]
                      rfl
                    refine done_ (done_of HT_.out (by kernel_rfl)) ?_
                    try go_wp2
                    go_roundg k2
                    case measure => have := HJ2.out; have := HK2.out; omega
                    case rel => exact ⟨(wrap64 (x5_2 + 1)), (by first | rfl | (simp; done) | (simp [*]; done)), H', ⟨by have := HJ2.out; have := HK2.out; omega⟩, ⟨by (with_reducible repeat (first | refine blk_drewN ?_ _ | refine blk_drew ?_ | refine blk_alloc ?_ _)); exact BK199.out⟩, ⟨by (with_reducible repeat (first | refine blk_drewN ?_ _ | refine blk_drew ?_ | refine blk_alloc ?_ _)); exact BK200.out⟩, ⟨by repeat (first | (with_reducible first | exact HB.out | apply below_alloc | apply pw_below_drewN | apply below_drew1 | refine below_set ?_ GE199.out | refine below_set ?_ GE200.out) | exact HB.out)⟩⟩
                  · replace c26 := Bool.eq_false_iff.mpr c26
                    subst c26
                    have H1 : (some false) = some r := by rw [if_neg (show ¬ (false = true) by decide)] at H; exact H
                    clear H
                    have H := H1
                    clear H1
                    obtain rfl := Option.some.inj H
                    have hnb31 := NB199_200.out
                    have hnc31 := NB200_199.out
                    have hcz32_0 : wr.cell? ⟨gb199, 0, none⟩ = some (.int .i64 a0_0) := (blk_cell BK199.out 0).trans rfl
                    have hcz32_1 : wr.cell? ⟨gb199, 1, none⟩ = some (.int .i64 a0_1) := (blk_cell BK199.out 1).trans rfl
                    have hcz32_2 : wr.cell? ⟨gb199, 2, none⟩ = some (.string a0_2) := (blk_cell BK199.out 2).trans rfl
                    have hcz32_3 : wr.cell? ⟨gb199, 3, none⟩ = some (.slice A0_3 l0_3.length c0_3) := (blk_cell BK199.out 3).trans rfl
                    have hfz32_0 := blk_frozen BK199.out 0
                    have hfz32_1 := blk_frozen BK199.out 1
                    have hfz32_2 := blk_frozen BK199.out 2
                    have hfz32_3 := blk_frozen BK199.out 3
                    try go_wp2
                    have n0_ := Aside0.mk (blk_drew BK199.out)
                    have n1_ := Aside0.mk (blk_drew BK200.out)
                    have n2_ := Aside0.mk (below_drew1 HB.out)
                    clear BK199
                    clear BK200
                    clear HB
                    have BK199 := n0_
                    have BK200 := n1_
                    have HB := n2_
                    clear n0_ n1_ n2_
                    have p201 : 0 ≤ (x5_2 : Int) := of_decide_eq_true (by first | (with_reducible assumption) | assumption)
                    have q201 : x5_2 < (l0_3.length : Int) := of_decide_eq_true (by first | (with_reducible assumption) | assumption)
                    obtain ⟨ad201, A201_3, c201_3, e201, hx201_0, hx201_1, hx201_2, hx201_3, hl201_3, hi201_3⟩ := at_T42 HR0_3.out x5_2 p201 q201
                    have hw201_3 := hx201_3
                    have hw201_2 := hx201_2
                    have hw201_1 := hx201_1
                    have hw201_0 := hx201_0
                    cases e201
                    replace hx201_0 := (HB.out.cell (World.block_lt_of_cell? w _ hx201_0)).trans hx201_0
                    replace hx201_1 := (HB.out.cell (World.block_lt_of_cell? w _ hx201_1)).trans hx201_1
                    replace hx201_2 := (HB.out.cell (World.block_lt_of_cell? w _ hx201_2)).trans hx201_2
                    replace hx201_3 := (HB.out.cell (World.block_lt_of_cell? w _ hx201_3)).trans hx201_3
                    have HR201_3 := Aside0.mk hi201_3
                    have HC201_3 := Aside0.mk hl201_3
                    clear hi201_3 hl201_3
                    replace p201 := eq_true p201
                    replace q201 := eq_true q201
                    have p202 : 0 ≤ (x5_2 : Int) := of_decide_eq_true (by first | (with_reducible assumption) | assumption)
                    have q202 : x5_2 < (l1_3.length : Int) := of_decide_eq_true (by first | (with_reducible assumption) | assumption)
                    obtain ⟨ad202, A202_3, c202_3, e202, hx202_0, hx202_1, hx202_2, hx202_3, hl202_3, hi202_3⟩ := at_T42 HR1_3.out x5_2 p202 q202
                    have hw202_3 := hx202_3
                    have hw202_2 := hx202_2
                    have hw202_1 := hx202_1
                    have hw202_0 := hx202_0
                    cases e202
                    replace hx202_0 := (HB.out.cell (World.block_lt_of_cell? w _ hx202_0)).trans hx202_0
                    replace hx202_1 := (HB.out.cell (World.block_lt_of_cell? w _ hx202_1)).trans hx202_1
                    replace hx202_2 := (HB.out.cell (World.block_lt_of_cell? w _ hx202_2)).trans hx202_2
                    replace hx202_3 := (HB.out.cell (World.block_lt_of_cell? w _ hx202_3)).trans hx202_3
                    have HR202_3 := Aside0.mk hi202_3
                    have HC202_3 := Aside0.mk hl202_3
                    clear hi202_3 hl202_3
                    replace p202 := eq_true p202
                    replace q202 := eq_true q202
                    refine start_ (n := 12) (S := fun w' => w'.cell? ⟨gb199, 0, none⟩ = some (.int .i64 a0_0) ∧ w'.cell? ⟨gb199, 1, none⟩ = some (.int .i64 a0_1) ∧ w'.cell? ⟨gb199, 2, none⟩ = some (.string a0_2) ∧ w'.cell? ⟨gb199, 3, none⟩ = some (.slice (some ad201) l0_3.length c0_3) ∧ w'.cell? ⟨gb200, 0, none⟩ = some (.int .i64 a1_0) ∧ w'.cell? ⟨gb200, 1, none⟩ = some (.int .i64 a1_1) ∧ w'.cell? ⟨gb200, 2, none⟩ = some (.string a1_2) ∧ w'.cell? ⟨gb200, 3, none⟩ = some (.slice (some ad202) l1_3.length c1_3) ∧ w'.cell? (ad201.add ((x5_2).toNat * 4)) = some (.int .i64 ((rd_T42 l0_3 x5_2).f0)) ∧ w'.cell? ⟨(ad201.add ((x5_2).toNat * 4)).block, (ad201.add ((x5_2).toNat * 4)).off + 1, none⟩ = some (.int .i64 ((rd_T42 l0_3 x5_2).f1)) ∧ w'.cell? ⟨(ad201.add ((x5_2).toNat * 4)).block, (ad201.add ((x5_2).toNat * 4)).off + 2, none⟩ = some (.string ((rd_T42 l0_3 x5_2).f2)) ∧ w'.cell? ⟨(ad201.add ((x5_2).toNat * 4)).block, (ad201.add ((x5_2).toNat * 4)).off + 3, none⟩ = some (.slice A201_3 ((rd_T42 l0_3 x5_2).f3).length c201_3) ∧ w'.cell? (ad202.add ((x5_2).toNat * 4)) = some (.int .i64 ((rd_T42 l1_3 x5_2).f0)) ∧ w'.cell? ⟨(ad202.add ((x5_2).toNat * 4)).block, (ad202.add ((x5_2).toNat * 4)).off + 1, none⟩ = some (.int .i64 ((rd_T42 l1_3 x5_2).f1)) ∧ w'.cell? ⟨(ad202.add ((x5_2).toNat * 4)).block, (ad202.add ((x5_2).toNat * 4)).off + 2, none⟩ = some (.string ((rd_T42 l1_3 x5_2).f2)) ∧ w'.cell? ⟨(ad202.add ((x5_2).toNat * 4)).block, (ad202.add ((x5_2).toNat * 4)).off + 3, none⟩ = some (.slice A202_3 ((rd_T42 l1_3 x5_2).f3).length c202_3)) (ds := []) #[false, false, false, false, false, false, false, false, false, false, false, false] (by kernel_rfl) rfl rfl ⟨(blk_cell BK199.out 0).trans rfl, (blk_cell BK199.out 1).trans rfl, (blk_cell BK199.out 2).trans rfl, (blk_cell BK199.out 3).trans rfl, (blk_cell BK200.out 0).trans rfl, (blk_cell BK200.out 1).trans rfl, (blk_cell BK200.out 2).trans rfl, (blk_cell BK200.out 3).trans rfl, ((HB.out.cell (World.block_lt_of_cell? w _ hw201_0)).trans hw201_0), ((HB.out.cell (World.block_lt_of_cell? w _ hw201_1)).trans hw201_1), ((HB.out.cell (World.block_lt_of_cell? w _ hw201_2)).trans hw201_2), ((HB.out.cell (World.block_lt_of_cell? w _ hw201_3)).trans hw201_3), ((HB.out.cell (World.block_lt_of_cell? w _ hw202_0)).trans hw202_0), ((HB.out.cell (World.block_lt_of_cell? w _ hw202_1)).trans hw202_1), ((HB.out.cell (World.block_lt_of_cell? w _ hw202_2)).trans hw202_2), ((HB.out.cell (World.block_lt_of_cell? w _ hw202_3)).trans hw202_3)⟩ (fun hHeld => ?_); refine with_tabW thyrsusref3_Same.tab6 thyrsusref3_Same.bits6 (fun HT_ HW_ => ?_)
                    generalize wr.drew = w33 at BK199 BK200 HB HR201_3 HR202_3 hx201_0 hx201_1 hx201_2 hx201_3 hx202_0 hx202_1 hx202_2 hx202_3 hHeld ⊢
                    refine pure_ (i := 0) (N := some 41) (v := ?_) (a' := ?_) #[true, false, false, false, false, false, false, false, false, false, false, false] rfl rfl (any_of HT_.out (by kernel_rfl)) (fun _ _ _ h => h) (Or.inl ⟨by rfl, ?_⟩) ?_ ?_
                    rotate_left
                    · intro w'
                      go_simp
                      with_reducible rfl
                    rotate_left
                    · simp only [Act.put, List.setIfInBounds_toArray, List.set_cons_zero, List.set_cons_succ, i64_w, i32_w, u8_w, u32_w]
                      rfl
                    refine pure_ (i := 2) (N := some 43) (v := ?_) (a' := ?_) #[true, false, true, false, false, false, false, false, false, false, false, false] rfl rfl (any_of HT_.out (by kernel_rfl)) (fun _ _ _ h => h) (Or.inl ⟨by rfl, ?_⟩) ?_ ?_
                    rotate_left
                    · intro w'
                      go_simp
                      with_reducible rfl
                    rotate_left
                    · simp only [Act.put, List.setIfInBounds_toArray, List.set_cons_zero, List.set_cons_succ, i64_w, i32_w, u8_w, u32_w]
                      rfl
                    refine pure_ (i := 5) (N := some 46) (v := ?_) (a' := ?_) #[true, false, true, false, false, true, false, false, false, false, false, false] rfl rfl (any_of HT_.out (by kernel_rfl)) (fun _ _ _ h => h) (Or.inl ⟨by rfl, ?_⟩) ?_ ?_
                    rotate_left
                    · intro w'
                      go_simp
                      with_reducible rfl
                    rotate_left
                    · simp only [Act.put, List.setIfInBounds_toArray, List.set_cons_zero, List.set_cons_succ, i64_w, i32_w, u8_w, u32_w]
                      rfl
                    refine pure_ (i := 7) (N := some 48) (v := ?_) (a' := ?_) #[true, false, true, false, false, true, false, true, false, false, false, false] rfl rfl (any_of HT_.out (by kernel_rfl)) (fun _ _ _ h => h) (Or.inl ⟨by rfl, ?_⟩) ?_ ?_
                    rotate_left
                    · intro w'
                      go_simp
                      with_reducible rfl
                    rotate_left
                    · simp only [Act.put, List.setIfInBounds_toArray, List.set_cons_zero, List.set_cons_succ, i64_w, i32_w, u8_w, u32_w]
                      rfl
                    refine take_ (i := 1) (N := some 42) (v := ?_) (a' := ?_) #[true, true, true, false, false, true, false, true, false, false, false, false] rfl rfl (take_ofW HT_.out HW_.out (by kernel_rfl)) (fun _ _ _ h => h) (Or.inl ⟨by rfl, ?_⟩) hHeld ?_ ?_
                    rotate_left
                    · rintro w' ⟨s0, s1, s2, s3, s4, s5, s6, s7, s8, s9, s10, s11, s12, s13, s14, s15⟩
                      go_simp
                      with_reducible rfl
                    rotate_left
                    · simp only [Act.put, List.setIfInBounds_toArray, List.set_cons_zero, List.set_cons_succ, i64_w, i32_w, u8_w, u32_w]
                      rfl
                    refine pure_ (i := 3) (N := some 44) (v := ?_) (a' := ?_) #[true, true, true, true, false, true, false, true, false, false, false, false] rfl rfl (any_of HT_.out (by kernel_rfl)) (fun _ _ _ h => h) (Or.inl ⟨by rfl, ?_⟩) ?_ ?_
                    rotate_left
                    · intro w'
                      go_simp
                      with_reducible rfl
                    rotate_left
                    · simp only [Act.put, List.setIfInBounds_toArray, List.set_cons_zero, List.set_cons_succ, i64_w, i32_w, u8_w, u32_w]
                      rfl
                    refine take_ (i := 4) (N := some 45) (v := ?_) (a' := ?_) #[true, true, true, true, true, true, false, true, false, false, false, false] rfl rfl (take_ofW HT_.out HW_.out (by kernel_rfl)) (fun _ _ _ h => h) (Or.inl ⟨by rfl, ?_⟩) hHeld ?_ ?_
                    rotate_left
                    · rintro w' ⟨s0, s1, s2, s3, s4, s5, s6, s7, s8, s9, s10, s11, s12, s13, s14, s15⟩
                      go_simp
                      with_reducible rfl
                    rotate_left
                    · simp only [Act.put, List.setIfInBounds_toArray, List.set_cons_zero, List.set_cons_succ, i64_w, i32_w, u8_w, u32_w]
                      rfl
                    refine take_ (i := 6) (N := some 47) (v := ?_) (a' := ?_) #[true, true, true, true, true, true, true, true, false, false, false, false] rfl rfl (take_ofW HT_.out HW_.out (by kernel_rfl)) (fun _ _ _ h => h) (Or.inl ⟨by rfl, ?_⟩) hHeld ?_ ?_
                    rotate_left
                    · rintro w' ⟨s0, s1, s2, s3, s4, s5, s6, s7, s8, s9, s10, s11, s12, s13, s14, s15⟩
                      go_simp
                      with_reducible rfl
                    rotate_left
                    · simp only [Act.put, List.setIfInBounds_toArray, List.set_cons_zero, List.set_cons_succ, i64_w, i32_w, u8_w, u32_w]
                      rfl
                    refine pure_ (i := 8) (N := some 49) (v := ?_) (a' := ?_) #[true, true, true, true, true, true, true, true, true, false, false, false] rfl rfl (any_of HT_.out (by kernel_rfl)) (fun _ _ _ h => h) (Or.inl ⟨by rfl, ?_⟩) ?_ ?_
                    rotate_left
                    · intro w'
                      go_simp
                      with_reducible rfl
                    rotate_left
                    · simp only [Act.put, List.setIfInBounds_toArray, List.set_cons_zero, List.set_cons_succ, i64_w, i32_w, u8_w, u32_w]
                      rfl
                    refine take_ (i := 9) (N := some 50) (v := ?_) (a' := ?_) #[true, true, true, true, true, true, true, true, true, true, false, false] rfl rfl (take_ofW HT_.out HW_.out (by kernel_rfl)) (fun _ _ _ h => h) (Or.inl ⟨by rfl, ?_⟩) hHeld ?_ ?_
                    rotate_left
                    · rintro w' ⟨s0, s1, s2, s3, s4, s5, s6, s7, s8, s9, s10, s11, s12, s13, s14, s15⟩
                      go_simp
                      with_reducible rfl
                    rotate_left
                    · simp only [Act.put, List.setIfInBounds_toArray, List.set_cons_zero, List.set_cons_succ, i64_w, i32_w, u8_w, u32_w]
                      rfl
                    refine one_ (i := 10) (N := some 51) #[true, true, true, true, true, true, true, true, true, true, true, false] rfl rfl (one_of HT_.out (by kernel_rfl)) (by decide) (fun K hK => ?_)
                    refine goes_ Tryd.func20 (by kernel_rfl) rfl #[.agg #[.int .i64 ((rd_T42 l0_3 x5_2).f0), .int .i64 ((rd_T42 l0_3 x5_2).f1), .string ((rd_T42 l0_3 x5_2).f2), .slice A201_3 ((rd_T42 l0_3 x5_2).f3).length c201_3], .agg #[.int .i64 ((rd_T42 l1_3 x5_2).f0), .int .i64 ((rd_T42 l1_3 x5_2).f1), .string ((rd_T42 l1_3 x5_2).f2), .slice A202_3 ((rd_T42 l1_3 x5_2).f3).length c202_3]] (by rfl) rfl rfl (by (try simp only [List.map_toArray, List.map_cons, List.map_nil]); first | done | rfl | (simp only [List.length_drop, List.length_take]; rfl)) ?_
                    with_reducible refine (ih k2 (by have := HJ2.out; have := HK2.out; omega) ((rd_T42 l0_3 x5_2).f0) ((rd_T42 l0_3 x5_2).f1) ((rd_T42 l0_3 x5_2).f2) _ _ ((rd_T42 l0_3 x5_2).f3) ((rd_T42 l1_3 x5_2).f0) ((rd_T42 l1_3 x5_2).f1) ((rd_T42 l1_3 x5_2).f2) _ _ ((rd_T42 l1_3 x5_2).f3) false _ ?side1 ?side2 ?side3 ?side4 A25.out).mono ?_
                    (case side1 => repeat (first | exact (Kd.C_below HR201_3.out HB.out) | (with_reducible refine Kd.C_alloc ?_ _) | (with_reducible refine Kd.C_drewN ?_ _) | (with_reducible refine Kd.C_drew ?_)))
                    (case side2 => exact HC201_3.out)
                    (case side3 => repeat (first | exact (Kd.C_below HR202_3.out HB.out) | (with_reducible refine Kd.C_alloc ?_ _) | (with_reducible refine Kd.C_drewN ?_ _) | (with_reducible refine Kd.C_drew ?_)))
                    (case side4 => exact HC202_3.out)
                    rintro e w34 ⟨rfl, hb⟩
                    refine ⟨_, rfl, ?_⟩
                    have n0_ := Aside0.mk (blk_below (g := gb199) (o := .cells #[.int .i64 a0_0, .int .i64 a0_1, .string a0_2, .slice (some ad201) l0_3.length c0_3] 42 (0, 0)) (by (with_reducible repeat (first | refine blk_drewN ?_ _ | refine blk_drew ?_ | refine blk_alloc ?_ _)); exact BK199.out) hb)
                    have n1_ := Aside0.mk (blk_below (g := gb200) (o := .cells #[.int .i64 a1_0, .int .i64 a1_1, .string a1_2, .slice (some ad202) l1_3.length c1_3] 42 (0, 0)) (by (with_reducible repeat (first | refine blk_drewN ?_ _ | refine blk_drew ?_ | refine blk_alloc ?_ _)); exact BK200.out) hb)
                    have n2_ := Aside0.mk (below_step (by repeat (first | (with_reducible first | exact HB.out | apply below_alloc | apply pw_below_drewN | apply below_drew1 | refine below_set ?_ GE199.out | refine below_set ?_ GE200.out) | exact HB.out)) hb)
                    clear BK199
                    clear BK200
                    clear HB
                    have BK199 := n0_
                    have BK200 := n1_
                    have HB := n2_
                    clear n0_ n1_ n2_
                    (try clear hb)
                    (try clear hb2)
                    (try clear hk)
                    (try clear hi)
                    refine hK.out _ _ ⟨(blk_cell BK199.out 0).trans rfl, (blk_cell BK199.out 1).trans rfl, (blk_cell BK199.out 2).trans rfl, (blk_cell BK199.out 3).trans rfl, (blk_cell BK200.out 0).trans rfl, (blk_cell BK200.out 1).trans rfl, (blk_cell BK200.out 2).trans rfl, (blk_cell BK200.out 3).trans rfl, ((HB.out.cell (World.block_lt_of_cell? w _ hw201_0)).trans hw201_0), ((HB.out.cell (World.block_lt_of_cell? w _ hw201_1)).trans hw201_1), ((HB.out.cell (World.block_lt_of_cell? w _ hw201_2)).trans hw201_2), ((HB.out.cell (World.block_lt_of_cell? w _ hw201_3)).trans hw201_3), ((HB.out.cell (World.block_lt_of_cell? w _ hw202_0)).trans hw202_0), ((HB.out.cell (World.block_lt_of_cell? w _ hw202_1)).trans hw202_1), ((HB.out.cell (World.block_lt_of_cell? w _ hw202_2)).trans hw202_2), ((HB.out.cell (World.block_lt_of_cell? w _ hw202_3)).trans hw202_3)⟩ (fun hHeld => ?_)
                    clear hK K
                    refine norm_ (a' := ?_) ?_ ?_
                    rotate_left
                    · show Act.put _ (some 51) _ = _
                      simp only [Act.put, List.setIfInBounds_toArray, List.set_cons_zero, List.set_cons_succ, i64_w, i32_w, u8_w, u32_w]
                      rfl
                    refine pure_ (i := 11) (N := some 52) (v := ?_) (a' := ?_) #[true, true, true, true, true, true, true, true, true, true, true, true] rfl rfl (any_of HT_.out (by kernel_rfl)) (fun _ _ _ h => h) (Or.inl ⟨by rfl, ?_⟩) ?_ ?_
                    rotate_left
                    · intro w'
                      go_simp
                      with_reducible rfl
                    rotate_left
                    · simp only [Act.put, List.setIfInBounds_toArray, List.set_cons_zero, List.set_cons_succ, i64_w, i32_w, u8_w, u32_w]
                      rfl
                    refine done_ (done_of HT_.out (by kernel_rfl)) ?_
                    try go_wp2
                    go_ret
                    exact ⟨by first | rfl | (simp [errW_none, errW_some] <;> rfl) | (simp [*, errW_none, errW_some] <;> rfl), by repeat (first | (with_reducible first | exact HB.out | apply below_alloc | apply pw_below_drewN | apply below_drew1 | refine below_set ?_ GE199.out | refine below_set ?_ GE200.out) | exact HB.out)⟩
                · rw [if_neg c24] at H
                  exact absurd H (by simp)
              · rw [if_neg c23] at H
                exact absurd H (by simp)
            · rw [if_neg c22] at H
              have c22b0 : decide (x5_2 < (l0_3.length : Int)) = false := decide_eq_false c22
              clear c22
              obtain rfl := Option.some.inj H
              have hnb35 := NB199_200.out
              have hnc35 := NB200_199.out
              have hcz36_0 : wr.cell? ⟨gb199, 0, none⟩ = some (.int .i64 a0_0) := (blk_cell BK199.out 0).trans rfl
              have hcz36_1 : wr.cell? ⟨gb199, 1, none⟩ = some (.int .i64 a0_1) := (blk_cell BK199.out 1).trans rfl
              have hcz36_2 : wr.cell? ⟨gb199, 2, none⟩ = some (.string a0_2) := (blk_cell BK199.out 2).trans rfl
              have hcz36_3 : wr.cell? ⟨gb199, 3, none⟩ = some (.slice A0_3 l0_3.length c0_3) := (blk_cell BK199.out 3).trans rfl
              have hfz36_0 := blk_frozen BK199.out 0
              have hfz36_1 := blk_frozen BK199.out 1
              have hfz36_2 := blk_frozen BK199.out 2
              have hfz36_3 := blk_frozen BK199.out 3
              go_wp2
              go_ret
              exact ⟨by first | rfl | (simp [errW_none, errW_some] <;> rfl) | (simp [*, errW_none, errW_some] <;> rfl), by repeat (first | (with_reducible first | exact HB.out | apply below_alloc | apply pw_below_drewN | apply below_drew1 | refine below_set ?_ GE199.out | refine below_set ?_ GE200.out) | exact HB.out)⟩

end Go.Proofs.YtkkmgahgejjhgaaDoor.P
-- Printed by mkprint.py (a program of this session, over the kit's print). Lean checks it.
namespace Go.Proofs.YtkkmgahgejjhgaaDoor.P
open Go.RowKit Go.Proofs.YtkkmgahgejjhgaaDoorW.PrintWords Go.Proofs.YtkkmgahgejjhgaaDoorW.PrintLast Go.Proofs.YtkkmgahgejjhgaaDoorW.PrintMore
attribute [local go_sem] max2_int min2_int max_two min_two max_three min_three max_four min_four   -- for this text's walks alone
set_option linter.unusedVariables false
set_option linter.unusedSimpArgs false

/-! ### thyrsuslaw3_Same: function 15 -/
def thyrsuslaw3_Same.l0 : Nat → List (S42) → List (S42) → Int → Option (Bool)
  | 0, _, _, _ => none
  | k + 1, x0, x1, x5 => if x5 < (x0.length : Int) then (if 0 ≤ x5 then (if x5 < (x1.length : Int) then ((thyrsusref3_Same.f k ((rd_T42 x0 x5).f0) ((rd_T42 x0 x5).f1) ((rd_T42 x0 x5).f2) ((rd_T42 x0 x5).f3) ((rd_T42 x1 x5).f0) ((rd_T42 x1 x5).f1) ((rd_T42 x1 x5).f2) ((rd_T42 x1 x5).f3)).bind fun t206 => (if t206 = true then (thyrsuslaw3_Same.l0 k x0 x1 (wrap64 (x5 + 1))) else (some false))) else (none)) else (none)) else (some true)
def thyrsuslaw3_Same.f (k : Nat) (l0 : List (S42)) (l1 : List (S42)) : Option (Bool) := if (l0.length : Int) = (l1.length : Int) then (thyrsuslaw3_Same.l0 k l0 l1 0) else (some false)
def thyrsuslaw3_Same.T6 : Bool × List (List Nat × List Nat) := (true, [([], []), ([], []), ([0, 1], [0, 1]), ([2], [2]), ([], []), ([], []), ([4, 5], [4, 5]), ([6], [6]), ([3, 7], [3, 7]), ([8], [8])])
def thyrsuslaw3_Same.B6 : List Nat := [0, 0, 3, 7, 0, 0, 48, 112, 255, 511]
theorem thyrsuslaw3_Same.tab6 : rtab .any (opsOf Tryd.f15 6) = thyrsuslaw3_Same.T6 := by kernel_rfl
theorem thyrsuslaw3_Same.bits6 : waitsOk thyrsuslaw3_Same.T6.2 thyrsuslaw3_Same.B6 = true := by kernel_rfl
set_option maxHeartbeats 8000000 in
set_option maxRecDepth 100000 in
theorem thyrsuslaw3_Same.calls (k : Nat) (A0 : Option Addr) (c0 : Nat) (l0 : List (S42)) (A1 : Option Addr) (c1 : Nat) (l1 : List (S42)) (r : Bool) (w : World) (hr0 : Kd.C k42 w A0 l0.length l0) (hc0 : l0.length ≤ c0) (hr1 : Kd.C k42 w A1 l1.length l1) (hc1 : l1.length ≤ c1) (h : thyrsuslaw3_Same.f k l0 l1 = some r) :
    Calls Tryd.prog 15 #[.slice A0 l0.length c0, .slice A1 l1.length c1] w fun e w' => e = .returned (.bool r) ∧ Below w.heap.size w w' := by
  have hu42 := Tryd.underlying42
  have HR0 := Aside0.mk hr0
  have HC0 := Aside0.mk hc0
  clear hr0 hc0
  have HR1 := Aside0.mk hr1
  have HC1 := Aside0.mk hc1
  clear hr1 hc1
  have HB := Aside0.mk (Below.refl w.heap.size w)
  have H : (if (l0.length : Int) = (l1.length : Int) then (thyrsuslaw3_Same.l0 k l0 l1 0) else (some false)) = some r := h
  clear h
  by_cases c3 : (l0.length : Int) = (l1.length : Int)
  · rw [if_pos c3] at H
    have c3b0 : ((l0.length : Int) == (l1.length : Int)) = true := beq_iff_eq.mpr c3
    have c3b1 : ((l0.length : Int) != (l1.length : Int)) = false := bne_eq_false_iff_eq.mpr c3
    have c3b2 : (l0.length == l1.length) = true := by first | simpa using c3 | (simp at c3 ⊢; omega)
    clear c3
    have H' := Aside0.mk H
    clear H
    go_enter Tryd.func15, Tryd.ntmps15
    go_wp2
    go_loopg [5] k (fun kq v5 w' => ∃ (x5_1 : Int), v5 = .int .i64 x5_1 ∧ Aside0 (thyrsuslaw3_Same.l0 kq l0 l1 x5_1 = some r) ∧ Aside0 (kq ≤ k) ∧ Aside0 (Below w.heap.size w w'))
    case atStart => exact ⟨(0), (by first | rfl | (simp; done) | (simp [*]; done)), H', ⟨Nat.le_refl _⟩, ⟨by repeat (first | (with_reducible first | exact HB.out | apply below_alloc | apply pw_below_drewN | apply below_drew1) | exact HB.out)⟩⟩
    case round =>
      clear H'
      try clear c1
      try clear p2
      try clear c3
      try clear c3b0
      try clear c3b1
      try clear c3b2
      try clear HB
      obtain ⟨x5_1, rfl, HA, HK1, HB⟩ := hrel
      cases gk with
      | zero => exact absurd HA.out (by simp [thyrsuslaw3_Same.l0])
      | succ k1 =>
        have H := HA.out
        clear HA
        simp only [thyrsuslaw3_Same.l0] at H
        by_cases c4 : x5_1 < (l0.length : Int)
        · rw [if_pos c4] at H
          have c4b0 : decide (x5_1 < (l0.length : Int)) = true := decide_eq_true c4
          clear c4
          by_cases c5 : 0 ≤ x5_1
          · rw [if_pos c5] at H
            have c5b0 : decide (0 ≤ x5_1) = true := decide_eq_true c5
            clear c5
            by_cases c6 : x5_1 < (l1.length : Int)
            · rw [if_pos c6] at H
              have c6b0 : decide (x5_1 < (l1.length : Int)) = true := decide_eq_true c6
              clear c6
              replace H := Option.bind_eq_some_iff.mp H
              obtain ⟨t206, A70, H⟩ := H
              replace H : (if t206 = true then (thyrsuslaw3_Same.l0 k1 l0 l1 (wrap64 (x5_1 + 1))) else (some false)) = some r := H
              have A7 := Aside0.mk A70
              clear A70
              by_cases c8 : t206 = true
              · subst c8
                have H1 : (thyrsuslaw3_Same.l0 k1 l0 l1 (wrap64 (x5_1 + 1))) = some r := by rw [if_pos rfl] at H; exact H
                clear H
                have H := H1
                clear H1
                have H' := Aside0.mk H
                clear H
                try go_wp2
                have n0_ := Aside0.mk (below_drew1 HB.out)
                clear HB
                have HB := n0_
                clear n0_
                have p204 : 0 ≤ (x5_1 : Int) := of_decide_eq_true (by first | (with_reducible assumption) | assumption)
                have q204 : x5_1 < (l0.length : Int) := of_decide_eq_true (by first | (with_reducible assumption) | assumption)
                obtain ⟨ad204, A204_3, c204_3, e204, hx204_0, hx204_1, hx204_2, hx204_3, hl204_3, hi204_3⟩ := at_T42 HR0.out x5_1 p204 q204
                have hw204_3 := hx204_3
                have hw204_2 := hx204_2
                have hw204_1 := hx204_1
                have hw204_0 := hx204_0
                cases e204
                replace hx204_0 := (HB.out.cell (World.block_lt_of_cell? w _ hx204_0)).trans hx204_0
                replace hx204_1 := (HB.out.cell (World.block_lt_of_cell? w _ hx204_1)).trans hx204_1
                replace hx204_2 := (HB.out.cell (World.block_lt_of_cell? w _ hx204_2)).trans hx204_2
                replace hx204_3 := (HB.out.cell (World.block_lt_of_cell? w _ hx204_3)).trans hx204_3
                have HR204_3 := Aside0.mk hi204_3
                have HC204_3 := Aside0.mk hl204_3
                clear hi204_3 hl204_3
                replace p204 := eq_true p204
                replace q204 := eq_true q204
                have p205 : 0 ≤ (x5_1 : Int) := of_decide_eq_true (by first | (with_reducible assumption) | assumption)
                have q205 : x5_1 < (l1.length : Int) := of_decide_eq_true (by first | (with_reducible assumption) | assumption)
                obtain ⟨ad205, A205_3, c205_3, e205, hx205_0, hx205_1, hx205_2, hx205_3, hl205_3, hi205_3⟩ := at_T42 HR1.out x5_1 p205 q205
                have hw205_3 := hx205_3
                have hw205_2 := hx205_2
                have hw205_1 := hx205_1
                have hw205_0 := hx205_0
                cases e205
                replace hx205_0 := (HB.out.cell (World.block_lt_of_cell? w _ hx205_0)).trans hx205_0
                replace hx205_1 := (HB.out.cell (World.block_lt_of_cell? w _ hx205_1)).trans hx205_1
                replace hx205_2 := (HB.out.cell (World.block_lt_of_cell? w _ hx205_2)).trans hx205_2
                replace hx205_3 := (HB.out.cell (World.block_lt_of_cell? w _ hx205_3)).trans hx205_3
                have HR205_3 := Aside0.mk hi205_3
                have HC205_3 := Aside0.mk hl205_3
                clear hi205_3 hl205_3
                replace p205 := eq_true p205
                replace q205 := eq_true q205
                refine start_ (n := 10) (S := fun w' => w'.cell? (ad204.add ((x5_1).toNat * 4)) = some (.int .i64 ((rd_T42 l0 x5_1).f0)) ∧ w'.cell? ⟨(ad204.add ((x5_1).toNat * 4)).block, (ad204.add ((x5_1).toNat * 4)).off + 1, none⟩ = some (.int .i64 ((rd_T42 l0 x5_1).f1)) ∧ w'.cell? ⟨(ad204.add ((x5_1).toNat * 4)).block, (ad204.add ((x5_1).toNat * 4)).off + 2, none⟩ = some (.string ((rd_T42 l0 x5_1).f2)) ∧ w'.cell? ⟨(ad204.add ((x5_1).toNat * 4)).block, (ad204.add ((x5_1).toNat * 4)).off + 3, none⟩ = some (.slice A204_3 ((rd_T42 l0 x5_1).f3).length c204_3) ∧ w'.cell? (ad205.add ((x5_1).toNat * 4)) = some (.int .i64 ((rd_T42 l1 x5_1).f0)) ∧ w'.cell? ⟨(ad205.add ((x5_1).toNat * 4)).block, (ad205.add ((x5_1).toNat * 4)).off + 1, none⟩ = some (.int .i64 ((rd_T42 l1 x5_1).f1)) ∧ w'.cell? ⟨(ad205.add ((x5_1).toNat * 4)).block, (ad205.add ((x5_1).toNat * 4)).off + 2, none⟩ = some (.string ((rd_T42 l1 x5_1).f2)) ∧ w'.cell? ⟨(ad205.add ((x5_1).toNat * 4)).block, (ad205.add ((x5_1).toNat * 4)).off + 3, none⟩ = some (.slice A205_3 ((rd_T42 l1 x5_1).f3).length c205_3)) (ds := []) #[false, false, false, false, false, false, false, false, false, false] (by kernel_rfl) rfl rfl ⟨((HB.out.cell (World.block_lt_of_cell? w _ hw204_0)).trans hw204_0), ((HB.out.cell (World.block_lt_of_cell? w _ hw204_1)).trans hw204_1), ((HB.out.cell (World.block_lt_of_cell? w _ hw204_2)).trans hw204_2), ((HB.out.cell (World.block_lt_of_cell? w _ hw204_3)).trans hw204_3), ((HB.out.cell (World.block_lt_of_cell? w _ hw205_0)).trans hw205_0), ((HB.out.cell (World.block_lt_of_cell? w _ hw205_1)).trans hw205_1), ((HB.out.cell (World.block_lt_of_cell? w _ hw205_2)).trans hw205_2), ((HB.out.cell (World.block_lt_of_cell? w _ hw205_3)).trans hw205_3)⟩ (fun hHeld => ?_); refine with_tabW thyrsuslaw3_Same.tab6 thyrsuslaw3_Same.bits6 (fun HT_ HW_ => ?_)
                generalize wr.drew = w9 at HB HR204_3 HR205_3 hx204_0 hx204_1 hx204_2 hx204_3 hx205_0 hx205_1 hx205_2 hx205_3 hHeld ⊢
                refine pure_ (i := 0) (N := some 17) (v := ?_) (a' := ?_) #[true, false, false, false, false, false, false, false, false, false] rfl rfl (any_of HT_.out (by kernel_rfl)) (fun _ _ _ h => h) (Or.inl ⟨by rfl, ?_⟩) ?_ ?_
                rotate_left
                · intro w'
                  go_simp
                  with_reducible rfl
                rotate_left
                · simp only [Act.put, List.setIfInBounds_toArray, List.set_cons_zero, List.set_cons_succ, i64_w, i32_w, u8_w, u32_w]
                  rfl
                refine pure_ (i := 1) (N := some 18) (v := ?_) (a' := ?_) #[true, true, false, false, false, false, false, false, false, false] rfl rfl (any_of HT_.out (by kernel_rfl)) (fun _ _ _ h => h) (Or.inl ⟨by rfl, ?_⟩) ?_ ?_
                rotate_left
                · intro w'
                  go_simp
                  with_reducible rfl
                rotate_left
                · simp only [Act.put, List.setIfInBounds_toArray, List.set_cons_zero, List.set_cons_succ, i64_w, i32_w, u8_w, u32_w]
                  rfl
                refine pure_ (i := 2) (N := some 19) (v := ?_) (a' := ?_) #[true, true, true, false, false, false, false, false, false, false] rfl rfl (any_of HT_.out (by kernel_rfl)) (fun _ _ _ h => h) (Or.inl ⟨by rfl, ?_⟩) ?_ ?_
                rotate_left
                · intro w'
                  go_simp
                  with_reducible rfl
                rotate_left
                · simp only [Act.put, List.setIfInBounds_toArray, List.set_cons_zero, List.set_cons_succ, i64_w, i32_w, u8_w, u32_w]
                  rfl
                refine pure_ (i := 4) (N := some 21) (v := ?_) (a' := ?_) #[true, true, true, false, true, false, false, false, false, false] rfl rfl (any_of HT_.out (by kernel_rfl)) (fun _ _ _ h => h) (Or.inl ⟨by rfl, ?_⟩) ?_ ?_
                rotate_left
                · intro w'
                  go_simp
                  with_reducible rfl
                rotate_left
                · simp only [Act.put, List.setIfInBounds_toArray, List.set_cons_zero, List.set_cons_succ, i64_w, i32_w, u8_w, u32_w]
                  rfl
                refine pure_ (i := 5) (N := some 22) (v := ?_) (a' := ?_) #[true, true, true, false, true, true, false, false, false, false] rfl rfl (any_of HT_.out (by kernel_rfl)) (fun _ _ _ h => h) (Or.inl ⟨by rfl, ?_⟩) ?_ ?_
                rotate_left
                · intro w'
                  go_simp
                  with_reducible rfl
                rotate_left
                · simp only [Act.put, List.setIfInBounds_toArray, List.set_cons_zero, List.set_cons_succ, i64_w, i32_w, u8_w, u32_w]
                  rfl
                refine pure_ (i := 6) (N := some 23) (v := ?_) (a' := ?_) #[true, true, true, false, true, true, true, false, false, false] rfl rfl (any_of HT_.out (by kernel_rfl)) (fun _ _ _ h => h) (Or.inl ⟨by rfl, ?_⟩) ?_ ?_
                rotate_left
                · intro w'
                  go_simp
                  with_reducible rfl
                rotate_left
                · simp only [Act.put, List.setIfInBounds_toArray, List.set_cons_zero, List.set_cons_succ, i64_w, i32_w, u8_w, u32_w]
                  rfl
                refine take_ (i := 3) (N := some 20) (v := ?_) (a' := ?_) #[true, true, true, true, true, true, true, false, false, false] rfl rfl (take_ofW HT_.out HW_.out (by kernel_rfl)) (fun _ _ _ h => h) (Or.inl ⟨by rfl, ?_⟩) hHeld ?_ ?_
                rotate_left
                · rintro w' ⟨s0, s1, s2, s3, s4, s5, s6, s7⟩
                  go_simp
                  with_reducible rfl
                rotate_left
                · simp only [Act.put, List.setIfInBounds_toArray, List.set_cons_zero, List.set_cons_succ, i64_w, i32_w, u8_w, u32_w]
                  rfl
                refine take_ (i := 7) (N := some 24) (v := ?_) (a' := ?_) #[true, true, true, true, true, true, true, true, false, false] rfl rfl (take_ofW HT_.out HW_.out (by kernel_rfl)) (fun _ _ _ h => h) (Or.inl ⟨by rfl, ?_⟩) hHeld ?_ ?_
                rotate_left
                · rintro w' ⟨s0, s1, s2, s3, s4, s5, s6, s7⟩
                  go_simp
                  with_reducible rfl
                rotate_left
                · simp only [Act.put, List.setIfInBounds_toArray, List.set_cons_zero, List.set_cons_succ, i64_w, i32_w, u8_w, u32_w]
                  rfl
                refine one_ (i := 8) (N := some 25) #[true, true, true, true, true, true, true, true, true, false] rfl rfl (one_of HT_.out (by kernel_rfl)) (by decide) (fun K hK => ?_)
                refine goes_ Tryd.func20 (by kernel_rfl) rfl #[.agg #[.int .i64 ((rd_T42 l0 x5_1).f0), .int .i64 ((rd_T42 l0 x5_1).f1), .string ((rd_T42 l0 x5_1).f2), .slice A204_3 ((rd_T42 l0 x5_1).f3).length c204_3], .agg #[.int .i64 ((rd_T42 l1 x5_1).f0), .int .i64 ((rd_T42 l1 x5_1).f1), .string ((rd_T42 l1 x5_1).f2), .slice A205_3 ((rd_T42 l1 x5_1).f3).length c205_3]] (by rfl) rfl rfl (by (try simp only [List.map_toArray, List.map_cons, List.map_nil]); first | done | rfl | (simp only [List.length_drop, List.length_take]; rfl)) ?_
                with_reducible refine (thyrsusref3_Same.calls k1 ((rd_T42 l0 x5_1).f0) ((rd_T42 l0 x5_1).f1) ((rd_T42 l0 x5_1).f2) _ _ ((rd_T42 l0 x5_1).f3) ((rd_T42 l1 x5_1).f0) ((rd_T42 l1 x5_1).f1) ((rd_T42 l1 x5_1).f2) _ _ ((rd_T42 l1 x5_1).f3) true _ ?side1 ?side2 ?side3 ?side4 A7.out).mono ?_
                (case side1 => repeat (first | exact (Kd.C_below HR204_3.out HB.out) | (with_reducible refine Kd.C_alloc ?_ _) | (with_reducible refine Kd.C_drewN ?_ _) | (with_reducible refine Kd.C_drew ?_)))
                (case side2 => exact HC204_3.out)
                (case side3 => repeat (first | exact (Kd.C_below HR205_3.out HB.out) | (with_reducible refine Kd.C_alloc ?_ _) | (with_reducible refine Kd.C_drewN ?_ _) | (with_reducible refine Kd.C_drew ?_)))
                (case side4 => exact HC205_3.out)
                rintro e w10 ⟨rfl, hb⟩
                refine ⟨_, rfl, ?_⟩
                have n0_ := Aside0.mk (below_step (by repeat (first | (with_reducible first | exact HB.out | apply below_alloc | apply pw_below_drewN | apply below_drew1) | exact HB.out)) hb)
                clear HB
                have HB := n0_
                clear n0_
                (try clear hb)
                (try clear hb2)
                (try clear hk)
                (try clear hi)
                refine hK.out _ _ ⟨((HB.out.cell (World.block_lt_of_cell? w _ hw204_0)).trans hw204_0), ((HB.out.cell (World.block_lt_of_cell? w _ hw204_1)).trans hw204_1), ((HB.out.cell (World.block_lt_of_cell? w _ hw204_2)).trans hw204_2), ((HB.out.cell (World.block_lt_of_cell? w _ hw204_3)).trans hw204_3), ((HB.out.cell (World.block_lt_of_cell? w _ hw205_0)).trans hw205_0), ((HB.out.cell (World.block_lt_of_cell? w _ hw205_1)).trans hw205_1), ((HB.out.cell (World.block_lt_of_cell? w _ hw205_2)).trans hw205_2), ((HB.out.cell (World.block_lt_of_cell? w _ hw205_3)).trans hw205_3)⟩ (fun hHeld => ?_)
                clear hK K
                refine norm_ (a' := ?_) ?_ ?_
                rotate_left
                · show Act.put _ (some 25) _ = _
                  simp only [Act.put, List.setIfInBounds_toArray, List.set_cons_zero, List.set_cons_succ, i64_w, i32_w, u8_w, u32_w]
                  rfl
                refine pure_ (i := 9) (N := some 26) (v := ?_) (a' := ?_) #[true, true, true, true, true, true, true, true, true, true] rfl rfl (any_of HT_.out (by kernel_rfl)) (fun _ _ _ h => h) (Or.inl ⟨by rfl, ?_⟩) ?_ ?_
                rotate_left
                · intro w'
                  go_simp
                  with_reducible rfl
                rotate_left
                · simp only [Act.put, List.setIfInBounds_toArray, List.set_cons_zero, List.set_cons_succ, i64_w, i32_w, u8_w, u32_w]
                  rfl
                refine done_ (done_of HT_.out (by kernel_rfl)) ?_
                try go_wp2
                go_roundg k1
                case measure => have := HK1.out; omega
                case rel => exact ⟨(wrap64 (x5_1 + 1)), (by first | rfl | (simp; done) | (simp [*]; done)), H', ⟨by have := HK1.out; omega⟩, ⟨by repeat (first | (with_reducible first | exact HB.out | apply below_alloc | apply pw_below_drewN | apply below_drew1) | exact HB.out)⟩⟩
              · replace c8 := Bool.eq_false_iff.mpr c8
                subst c8
                have H1 : (some false) = some r := by rw [if_neg (show ¬ (false = true) by decide)] at H; exact H
                clear H
                have H := H1
                clear H1
                obtain rfl := Option.some.inj H
                try go_wp2
                have n0_ := Aside0.mk (below_drew1 HB.out)
                clear HB
                have HB := n0_
                clear n0_
                have p204 : 0 ≤ (x5_1 : Int) := of_decide_eq_true (by first | (with_reducible assumption) | assumption)
                have q204 : x5_1 < (l0.length : Int) := of_decide_eq_true (by first | (with_reducible assumption) | assumption)
                obtain ⟨ad204, A204_3, c204_3, e204, hx204_0, hx204_1, hx204_2, hx204_3, hl204_3, hi204_3⟩ := at_T42 HR0.out x5_1 p204 q204
                have hw204_3 := hx204_3
                have hw204_2 := hx204_2
                have hw204_1 := hx204_1
                have hw204_0 := hx204_0
                cases e204
                replace hx204_0 := (HB.out.cell (World.block_lt_of_cell? w _ hx204_0)).trans hx204_0
                replace hx204_1 := (HB.out.cell (World.block_lt_of_cell? w _ hx204_1)).trans hx204_1
                replace hx204_2 := (HB.out.cell (World.block_lt_of_cell? w _ hx204_2)).trans hx204_2
                replace hx204_3 := (HB.out.cell (World.block_lt_of_cell? w _ hx204_3)).trans hx204_3
                have HR204_3 := Aside0.mk hi204_3
                have HC204_3 := Aside0.mk hl204_3
                clear hi204_3 hl204_3
                replace p204 := eq_true p204
                replace q204 := eq_true q204
                have p205 : 0 ≤ (x5_1 : Int) := of_decide_eq_true (by first | (with_reducible assumption) | assumption)
                have q205 : x5_1 < (l1.length : Int) := of_decide_eq_true (by first | (with_reducible assumption) | assumption)
                obtain ⟨ad205, A205_3, c205_3, e205, hx205_0, hx205_1, hx205_2, hx205_3, hl205_3, hi205_3⟩ := at_T42 HR1.out x5_1 p205 q205
                have hw205_3 := hx205_3
                have hw205_2 := hx205_2
                have hw205_1 := hx205_1
                have hw205_0 := hx205_0
                cases e205
                replace hx205_0 := (HB.out.cell (World.block_lt_of_cell? w _ hx205_0)).trans hx205_0
                replace hx205_1 := (HB.out.cell (World.block_lt_of_cell? w _ hx205_1)).trans hx205_1
                replace hx205_2 := (HB.out.cell (World.block_lt_of_cell? w _ hx205_2)).trans hx205_2
                replace hx205_3 := (HB.out.cell (World.block_lt_of_cell? w _ hx205_3)).trans hx205_3
                have HR205_3 := Aside0.mk hi205_3
                have HC205_3 := Aside0.mk hl205_3
                clear hi205_3 hl205_3
                replace p205 := eq_true p205
                replace q205 := eq_true q205
                refine start_ (n := 10) (S := fun w' => w'.cell? (ad204.add ((x5_1).toNat * 4)) = some (.int .i64 ((rd_T42 l0 x5_1).f0)) ∧ w'.cell? ⟨(ad204.add ((x5_1).toNat * 4)).block, (ad204.add ((x5_1).toNat * 4)).off + 1, none⟩ = some (.int .i64 ((rd_T42 l0 x5_1).f1)) ∧ w'.cell? ⟨(ad204.add ((x5_1).toNat * 4)).block, (ad204.add ((x5_1).toNat * 4)).off + 2, none⟩ = some (.string ((rd_T42 l0 x5_1).f2)) ∧ w'.cell? ⟨(ad204.add ((x5_1).toNat * 4)).block, (ad204.add ((x5_1).toNat * 4)).off + 3, none⟩ = some (.slice A204_3 ((rd_T42 l0 x5_1).f3).length c204_3) ∧ w'.cell? (ad205.add ((x5_1).toNat * 4)) = some (.int .i64 ((rd_T42 l1 x5_1).f0)) ∧ w'.cell? ⟨(ad205.add ((x5_1).toNat * 4)).block, (ad205.add ((x5_1).toNat * 4)).off + 1, none⟩ = some (.int .i64 ((rd_T42 l1 x5_1).f1)) ∧ w'.cell? ⟨(ad205.add ((x5_1).toNat * 4)).block, (ad205.add ((x5_1).toNat * 4)).off + 2, none⟩ = some (.string ((rd_T42 l1 x5_1).f2)) ∧ w'.cell? ⟨(ad205.add ((x5_1).toNat * 4)).block, (ad205.add ((x5_1).toNat * 4)).off + 3, none⟩ = some (.slice A205_3 ((rd_T42 l1 x5_1).f3).length c205_3)) (ds := []) #[false, false, false, false, false, false, false, false, false, false] (by kernel_rfl) rfl rfl ⟨((HB.out.cell (World.block_lt_of_cell? w _ hw204_0)).trans hw204_0), ((HB.out.cell (World.block_lt_of_cell? w _ hw204_1)).trans hw204_1), ((HB.out.cell (World.block_lt_of_cell? w _ hw204_2)).trans hw204_2), ((HB.out.cell (World.block_lt_of_cell? w _ hw204_3)).trans hw204_3), ((HB.out.cell (World.block_lt_of_cell? w _ hw205_0)).trans hw205_0), ((HB.out.cell (World.block_lt_of_cell? w _ hw205_1)).trans hw205_1), ((HB.out.cell (World.block_lt_of_cell? w _ hw205_2)).trans hw205_2), ((HB.out.cell (World.block_lt_of_cell? w _ hw205_3)).trans hw205_3)⟩ (fun hHeld => ?_); refine with_tabW thyrsuslaw3_Same.tab6 thyrsuslaw3_Same.bits6 (fun HT_ HW_ => ?_)
                generalize wr.drew = w11 at HB HR204_3 HR205_3 hx204_0 hx204_1 hx204_2 hx204_3 hx205_0 hx205_1 hx205_2 hx205_3 hHeld ⊢
                refine pure_ (i := 0) (N := some 17) (v := ?_) (a' := ?_) #[true, false, false, false, false, false, false, false, false, false] rfl rfl (any_of HT_.out (by kernel_rfl)) (fun _ _ _ h => h) (Or.inl ⟨by rfl, ?_⟩) ?_ ?_
                rotate_left
                · intro w'
                  go_simp
                  with_reducible rfl
                rotate_left
                · simp only [Act.put, List.setIfInBounds_toArray, List.set_cons_zero, List.set_cons_succ, i64_w, i32_w, u8_w, u32_w]
                  rfl
                refine pure_ (i := 1) (N := some 18) (v := ?_) (a' := ?_) #[true, true, false, false, false, false, false, false, false, false] rfl rfl (any_of HT_.out (by kernel_rfl)) (fun _ _ _ h => h) (Or.inl ⟨by rfl, ?_⟩) ?_ ?_
                rotate_left
                · intro w'
                  go_simp
                  with_reducible rfl
                rotate_left
                · simp only [Act.put, List.setIfInBounds_toArray, List.set_cons_zero, List.set_cons_succ, i64_w, i32_w, u8_w, u32_w]
                  rfl
                refine pure_ (i := 2) (N := some 19) (v := ?_) (a' := ?_) #[true, true, true, false, false, false, false, false, false, false] rfl rfl (any_of HT_.out (by kernel_rfl)) (fun _ _ _ h => h) (Or.inl ⟨by rfl, ?_⟩) ?_ ?_
                rotate_left
                · intro w'
                  go_simp
                  with_reducible rfl
                rotate_left
                · simp only [Act.put, List.setIfInBounds_toArray, List.set_cons_zero, List.set_cons_succ, i64_w, i32_w, u8_w, u32_w]
                  rfl
                refine pure_ (i := 4) (N := some 21) (v := ?_) (a' := ?_) #[true, true, true, false, true, false, false, false, false, false] rfl rfl (any_of HT_.out (by kernel_rfl)) (fun _ _ _ h => h) (Or.inl ⟨by rfl, ?_⟩) ?_ ?_
                rotate_left
                · intro w'
                  go_simp
                  with_reducible rfl
                rotate_left
                · simp only [Act.put, List.setIfInBounds_toArray, List.set_cons_zero, List.set_cons_succ, i64_w, i32_w, u8_w, u32_w]
                  rfl
                refine pure_ (i := 5) (N := some 22) (v := ?_) (a' := ?_) #[true, true, true, false, true, true, false, false, false, false] rfl rfl (any_of HT_.out (by kernel_rfl)) (fun _ _ _ h => h) (Or.inl ⟨by rfl, ?_⟩) ?_ ?_
                rotate_left
                · intro w'
                  go_simp
                  with_reducible rfl
                rotate_left
                · simp only [Act.put, List.setIfInBounds_toArray, List.set_cons_zero, List.set_cons_succ, i64_w, i32_w, u8_w, u32_w]
                  rfl
                refine pure_ (i := 6) (N := some 23) (v := ?_) (a' := ?_) #[true, true, true, false, true, true, true, false, false, false] rfl rfl (any_of HT_.out (by kernel_rfl)) (fun _ _ _ h => h) (Or.inl ⟨by rfl, ?_⟩) ?_ ?_
                rotate_left
                · intro w'
                  go_simp
                  with_reducible rfl
                rotate_left
                · simp only [Act.put, List.setIfInBounds_toArray, List.set_cons_zero, List.set_cons_succ, i64_w, i32_w, u8_w, u32_w]
                  rfl
                refine take_ (i := 3) (N := some 20) (v := ?_) (a' := ?_) #[true, true, true, true, true, true, true, false, false, false] rfl rfl (take_ofW HT_.out HW_.out (by kernel_rfl)) (fun _ _ _ h => h) (Or.inl ⟨by rfl, ?_⟩) hHeld ?_ ?_
                rotate_left
                · rintro w' ⟨s0, s1, s2, s3, s4, s5, s6, s7⟩
                  go_simp
                  with_reducible rfl
                rotate_left
                · simp only [Act.put, List.setIfInBounds_toArray, List.set_cons_zero, List.set_cons_succ, i64_w, i32_w, u8_w, u32_w]
                  rfl
                refine take_ (i := 7) (N := some 24) (v := ?_) (a' := ?_) #[true, true, true, true, true, true, true, true, false, false] rfl rfl (take_ofW HT_.out HW_.out (by kernel_rfl)) (fun _ _ _ h => h) (Or.inl ⟨by rfl, ?_⟩) hHeld ?_ ?_
                rotate_left
                · rintro w' ⟨s0, s1, s2, s3, s4, s5, s6, s7⟩
                  go_simp
                  with_reducible rfl
                rotate_left
                · simp only [Act.put, List.setIfInBounds_toArray, List.set_cons_zero, List.set_cons_succ, i64_w, i32_w, u8_w, u32_w]
                  rfl
                refine one_ (i := 8) (N := some 25) #[true, true, true, true, true, true, true, true, true, false] rfl rfl (one_of HT_.out (by kernel_rfl)) (by decide) (fun K hK => ?_)
                refine goes_ Tryd.func20 (by kernel_rfl) rfl #[.agg #[.int .i64 ((rd_T42 l0 x5_1).f0), .int .i64 ((rd_T42 l0 x5_1).f1), .string ((rd_T42 l0 x5_1).f2), .slice A204_3 ((rd_T42 l0 x5_1).f3).length c204_3], .agg #[.int .i64 ((rd_T42 l1 x5_1).f0), .int .i64 ((rd_T42 l1 x5_1).f1), .string ((rd_T42 l1 x5_1).f2), .slice A205_3 ((rd_T42 l1 x5_1).f3).length c205_3]] (by rfl) rfl rfl (by (try simp only [List.map_toArray, List.map_cons, List.map_nil]); first | done | rfl | (simp only [List.length_drop, List.length_take]; rfl)) ?_
                with_reducible refine (thyrsusref3_Same.calls k1 ((rd_T42 l0 x5_1).f0) ((rd_T42 l0 x5_1).f1) ((rd_T42 l0 x5_1).f2) _ _ ((rd_T42 l0 x5_1).f3) ((rd_T42 l1 x5_1).f0) ((rd_T42 l1 x5_1).f1) ((rd_T42 l1 x5_1).f2) _ _ ((rd_T42 l1 x5_1).f3) false _ ?side1 ?side2 ?side3 ?side4 A7.out).mono ?_
                (case side1 => repeat (first | exact (Kd.C_below HR204_3.out HB.out) | (with_reducible refine Kd.C_alloc ?_ _) | (with_reducible refine Kd.C_drewN ?_ _) | (with_reducible refine Kd.C_drew ?_)))
                (case side2 => exact HC204_3.out)
                (case side3 => repeat (first | exact (Kd.C_below HR205_3.out HB.out) | (with_reducible refine Kd.C_alloc ?_ _) | (with_reducible refine Kd.C_drewN ?_ _) | (with_reducible refine Kd.C_drew ?_)))
                (case side4 => exact HC205_3.out)
                rintro e w12 ⟨rfl, hb⟩
                refine ⟨_, rfl, ?_⟩
                have n0_ := Aside0.mk (below_step (by repeat (first | (with_reducible first | exact HB.out | apply below_alloc | apply pw_below_drewN | apply below_drew1) | exact HB.out)) hb)
                clear HB
                have HB := n0_
                clear n0_
                (try clear hb)
                (try clear hb2)
                (try clear hk)
                (try clear hi)
                refine hK.out _ _ ⟨((HB.out.cell (World.block_lt_of_cell? w _ hw204_0)).trans hw204_0), ((HB.out.cell (World.block_lt_of_cell? w _ hw204_1)).trans hw204_1), ((HB.out.cell (World.block_lt_of_cell? w _ hw204_2)).trans hw204_2), ((HB.out.cell (World.block_lt_of_cell? w _ hw204_3)).trans hw204_3), ((HB.out.cell (World.block_lt_of_cell? w _ hw205_0)).trans hw205_0), ((HB.out.cell (World.block_lt_of_cell? w _ hw205_1)).trans hw205_1), ((HB.out.cell (World.block_lt_of_cell? w _ hw205_2)).trans hw205_2), ((HB.out.cell (World.block_lt_of_cell? w _ hw205_3)).trans hw205_3)⟩ (fun hHeld => ?_)
                clear hK K
                refine norm_ (a' := ?_) ?_ ?_
                rotate_left
                · show Act.put _ (some 25) _ = _
                  simp only [Act.put, List.setIfInBounds_toArray, List.set_cons_zero, List.set_cons_succ, i64_w, i32_w, u8_w, u32_w]
                  rfl
                refine pure_ (i := 9) (N := some 26) (v := ?_) (a' := ?_) #[true, true, true, true, true, true, true, true, true, true] rfl rfl (any_of HT_.out (by kernel_rfl)) (fun _ _ _ h => h) (Or.inl ⟨by rfl, ?_⟩) ?_ ?_
                rotate_left
                · intro w'
                  go_simp
                  with_reducible rfl
                rotate_left
                · simp only [Act.put, List.setIfInBounds_toArray, List.set_cons_zero, List.set_cons_succ, i64_w, i32_w, u8_w, u32_w]
                  rfl
                refine done_ (done_of HT_.out (by kernel_rfl)) ?_
                try go_wp2
                go_ret
                exact ⟨by first | rfl | (simp [errW_none, errW_some] <;> rfl) | (simp [*, errW_none, errW_some] <;> rfl), by repeat (first | (with_reducible first | exact HB.out | apply below_alloc | apply pw_below_drewN | apply below_drew1) | exact HB.out)⟩
            · rw [if_neg c6] at H
              exact absurd H (by simp)
          · rw [if_neg c5] at H
            exact absurd H (by simp)
        · rw [if_neg c4] at H
          have c4b0 : decide (x5_1 < (l0.length : Int)) = false := decide_eq_false c4
          clear c4
          obtain rfl := Option.some.inj H
          go_wp2
          go_ret
          exact ⟨by first | rfl | (simp [errW_none, errW_some] <;> rfl) | (simp [*, errW_none, errW_some] <;> rfl), by repeat (first | (with_reducible first | exact HB.out | apply below_alloc | apply pw_below_drewN | apply below_drew1) | exact HB.out)⟩
  · rw [if_neg c3] at H
    have c3b0 : ((l0.length : Int) == (l1.length : Int)) = false := beq_eq_false_iff_ne.mpr c3
    have c3b1 : ((l0.length : Int) != (l1.length : Int)) = true := bne_iff_ne.mpr c3
    have c3b2 : (l0.length == l1.length) = false := by first | simpa using c3 | (simp at c3 ⊢; omega)
    obtain rfl := Option.some.inj H
    go_enter Tryd.func15, Tryd.ntmps15
    go_wp2
    go_ret
    exact ⟨by first | rfl | (simp [errW_none, errW_some] <;> rfl) | (simp [*, errW_none, errW_some] <;> rfl), by repeat (first | (with_reducible first | exact HB.out | apply below_alloc | apply pw_below_drewN | apply below_drew1) | exact HB.out)⟩

-- NOT PRINTED: function 3 (thyrsuslaw3_FormsParse)

/-! ### thyrsuslaw3_Count: function 31 -/
/-! ### thyrsuslaw3_Few: function 16 -/
/-! ### thyrsusref3_Digits: function 32 -/
end Go.Proofs.YtkkmgahgejjhgaaDoor.P
-- Printed by mkprint.py (a program of this session, over the kit's print). Lean checks it.
namespace Go.Proofs.YtkkmgahgejjhgaaDoor.P
open Go.RowKit Go.Proofs.YtkkmgahgejjhgaaDoorW.PrintWords Go.Proofs.YtkkmgahgejjhgaaDoorW.PrintLast Go.Proofs.YtkkmgahgejjhgaaDoorW.PrintMore
attribute [local go_sem] max2_int min2_int max_two min_two max_three min_three max_four min_four   -- for this text's walks alone
set_option linter.unusedVariables false
set_option linter.unusedSimpArgs false

/-! ### thyrsuslaw3_Make: function 18 -/
end Go.Proofs.YtkkmgahgejjhgaaDoor.P
/- Chapter 3's Count, Few, Make: what they come to: a form that may be, not too deep, not too great. No conditions but those that each theorem tells. -/
namespace Go.Proofs.YtkkmgahgejjhgaaDoor.Pure
open Go.RowKit Go.Proofs.YtkkmgahgejjhgaaDoor.P Go.Proofs.YtkkmgahgejjhgaaDoorW.PrintWords Go.Proofs.YtkkmgahgejjhgaaDoorW.PrintLast Go.Proofs.YtkkmgahgejjhgaaDoorW.PrintMore
set_option linter.unusedVariables false
set_option linter.unusedSimpArgs false
/-- Numbers of their kind, lists that memory can hold. -/
inductive WF38 : S38 → Prop
  | mk (a b : Int) (s : ByteArray) (l : List S38) (ha : (Lit.int .i64 a).wf = true) (hb : (Lit.int .i64 b).wf = true) (hn : l.length ≤ 9223372036854775807) (hl : ∀ x ∈ l, WF38 x) : WF38 ⟨a, b, s, l⟩
theorem rd42 {l : List S42} {i : Nat} (h : i < l.length) : rd_T42 l (i : Int) = l[i] := by simp [rd_T42, h]
theorem wrap_id {n : Int} (h : -9223372036854775808 ≤ n ∧ n ≤ 9223372036854775807) : wrap64 n = n := by unfold wrap64; omega
/-- The names that Make takes. -/
def names : List ByteArray := [⟨#[97]⟩, ⟨#[98]⟩, ⟨#[102, 110]⟩, ⟨#[45, 62]⟩, ⟨#[42]⟩, ⟨#[122, 101, 114, 111]⟩, ⟨#[120, 39]⟩, ⟨#[95]⟩, ⟨#[85, 48]⟩, ⟨#[112, 97, 105, 114]⟩]
/-- A form that Make makes, so deep. -/
inductive Fine : Nat → S42 → Prop
  | name (n : Nat) (s : ByteArray) (h : s ∈ names) : Fine n ⟨1, 0, s, []⟩
  | num (n : Nat) (z : Int) (h : -549755813888 ≤ z ∧ z < 549755813888) : Fine n ⟨2, z, ⟨#[]⟩, []⟩
  | list (n : Nat) (l : List S42) (h : ∀ x ∈ l, Fine n x) : Fine (n + 1) ⟨3, 0, ⟨#[]⟩, l⟩
mutual
def size42 : S42 → Nat
  | ⟨_, _, _, l⟩ => 1 + sizes42 l
def sizes42 : List S42 → Nat
  | [] => 0
  | x :: l => size42 x + sizes42 l
end
theorem sizes42_snoc : ∀ (l : List S42) (x : S42), sizes42 (l ++ [x]) = sizes42 l + size42 x
  | [], x => by simp [sizes42]
  | y :: l, x => by
    simp only [List.cons_append, sizes42, sizes42_snoc l x]
    omega
theorem sizes42_len : ∀ l : List S42, l.length ≤ sizes42 l
  | [] => by simp [sizes42]
  | ⟨a, b, c, k⟩ :: l => by
    have := sizes42_len l
    simp [sizes42, size42]
    omega
end Go.Proofs.YtkkmgahgejjhgaaDoor.Pure
/- Chapter 3's texts, plainly: what forms.Text and the reference's Text come to, of a form that Make makes. No conditions but those that each theorem tells. -/
namespace Go.Proofs.YtkkmgahgejjhgaaDoor.Pure
open Go.RowKit Go.Proofs.YtkkmgahgejjhgaaDoor.P Go.Proofs.YtkkmgahgejjhgaaDoor.Lex Go.Proofs.YtkkmgahgejjhgaaDoorW.PrintWords Go.Proofs.YtkkmgahgejjhgaaDoorW.PrintLast Go.Proofs.YtkkmgahgejjhgaaDoorW.PrintMore
set_option linter.unusedVariables false
set_option linter.unusedSimpArgs false
mutual
/-- A form's text. -/
def tx : S42 → List UInt8
  | ⟨k, z, s, l⟩ => if k = 1 then lst s else if k = 2 then Lib.itoa z else 40 :: (txs l ++ [41])
/-- The texts of a list's forms. -/
def txs : List S42 → List UInt8
  | [] => []
  | x :: l => tx x ++ txr l
/-- .. of those behind the first one. -/
def txr : List S42 → List UInt8
  | [] => []
  | x :: l => 32 :: (tx x ++ txr l)
end
theorem sizes42_mem : ∀ (l : List S42) (x : S42), x ∈ l → size42 x ≤ sizes42 l
  | y :: l, x, h => by
    rcases List.mem_cons.1 h with rfl | h
    · simp [sizes42]
    · have := sizes42_mem l x h
      simp only [sizes42]
      omega
end Go.Proofs.YtkkmgahgejjhgaaDoor.Pure
