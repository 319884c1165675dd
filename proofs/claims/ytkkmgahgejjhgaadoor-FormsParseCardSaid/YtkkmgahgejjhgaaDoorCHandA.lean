/- Package forms' lists: add: a form stands behind the others of the innermost row. No conditions. Printed by genadd2.py. -/
import Derived.Test.YtkkmgahgejjhgaaDoorCHandF
namespace Go.Proofs.YtkkmgahgejjhgaaDoor.Frm
open Go.RowKit Go.Proofs.YtkkmgahgejjhgaaDoor.P Go.Proofs.YtkkmgahgejjhgaaDoorW.PrintWords Go.Proofs.YtkkmgahgejjhgaaDoorW.PrintLast Go.Proofs.YtkkmgahgejjhgaaDoorW.PrintMore
set_option linter.unusedVariables false
set_option linter.unusedSimpArgs false
def add26.T2 : Bool × List (List Nat × List Nat) := (true, [([], []), ([0], [0]), ([0], [0]), ([0, 0, 1, 2], [0])])
def add26.B2 : List Nat := [0, 1, 1, 7]
theorem add26.tab2 : rtab .any (opsOf Tryd.f26 2) = add26.T2 := by kernel_rfl
theorem add26.bits2 : waitsOk add26.T2.2 add26.B2 = true := by kernel_rfl
def add26.T3 : Bool × List (List Nat × List Nat) := (true, [([], []), ([0], [0]), ([1], [1]), ([2], [2]), ([], []), ([3, 4], [3, 4]), ([5], [5]), ([], []), ([6], [6]), ([], []), ([6, 9, 0, 1, 2, 3, 4, 5, 6, 7, 8, 9], [6, 9]), ([3, 4, 0, 1, 2, 3, 4, 5, 6, 7, 8, 9, 10], [3, 4]), ([11, 10, 10, 0, 1, 2, 3, 4, 5, 6, 7, 8, 9, 10], [10, 11])])
def add26.B3 : List Nat := [0, 1, 3, 7, 0, 31, 63, 0, 127, 0, 1023, 2047, 4095]
theorem add26.tab3 : rtab .any (opsOf Tryd.f26 3) = add26.T3 := by kernel_rfl
theorem add26.bits3 : waitsOk add26.T3.2 add26.B3 = true := by kernel_rfl
def add26.T5 : Bool × List (List Nat × List Nat) := (true, [([], []), ([0], [0]), ([1], [1]), ([2], [2]), ([], []), ([], []), ([5], [5]), ([6], [6]), ([7], [7]), ([], []), ([8, 9], [8, 9]), ([10], [10]), ([], []), ([12], [12]), ([11, 13], [11, 13]), ([3, 4, 0, 1, 2, 3, 4, 5, 6, 7, 8, 9, 10, 11, 12, 13, 14], [3, 4]), ([15, 14, 14, 0, 1, 2, 3, 4, 5, 6, 7, 8, 9, 10, 11, 12, 13, 14], [14, 15])])
def add26.B5 : List Nat := [0, 1, 3, 7, 0, 0, 32, 96, 224, 0, 992, 2016, 0, 4096, 16352, 32767, 65535]
theorem add26.tab5 : rtab .any (opsOf Tryd.f26 5) = add26.T5 := by kernel_rfl
theorem add26.bits5 : waitsOk add26.T5.2 add26.B5 = true := by kernel_rfl
set_option maxHeartbeats 8000000 in
set_option maxRecDepth 100000 in
theorem add26 {w0 w : World} {base g n : Nat} {V : Value} {hs : List Hd} {rows : List (List S42)} {f : S42} {v3 : Value} (hK : w.heap[g]? = some (.cells #[V] 59 (0, 0))) (hg : base ≤ g) (hS : Stk w base V hs rows) (hB : Below base w0 w) (hn : rows.length = n + 1) (h1 : rows.length ≤ 5000) (h2 : (rows.getD n []).length ≤ 5000)
    (hf : Kd.R k42 42 w base (Alr hs) v3 f.f3) :
    Calls Tryd.prog 26 #[.pointer (some ⟨g, 0, none⟩), .agg #[.int .i64 f.f0, .int .i64 f.f1, .string f.f2, v3]] w fun e w' => e = .returned (.tuple #[]) ∧ (w'.heap[g]? = some (.cells #[V] 59 (0, 0)) ∧ ∃ hs', Stk w' base V hs' (rows.set n (rows.getD n [] ++ [f]))) ∧ Below base w0 w' ∧ KT w w' := by
  have hu57 := Tryd.underlying57
  have hu28 := Tryd.underlying28
  have hu42 := Tryd.underlying42
  obtain ⟨L, cap, rfl, hL, hLt, cl, hcl⟩ := hS.form (by omega)
  obtain ⟨Af, cf, rfl⟩ := Kd.R_slice hf
  rw [hn] at hK hS h1 ⊢
  obtain ⟨x, hx⟩ : ∃ x, x = rdOf (none, 0, 0) hs (n : Int) := ⟨_, rfl⟩
  obtain ⟨Ax, mx, cx⟩ := x
  have hrow := hS.row n (by omega)
  rw [hv_rd, ← hx] at hrow
  obtain ⟨xs, hxs⟩ : ∃ xs, xs = rows.getD n [] := ⟨_, rfl⟩
  rw [← hxs] at hrow h2 ⊢
  have hmx : mx = xs.length := by
    obtain ⟨A, c, e⟩ := Kd.R_slice hrow
    injection e
  subst hmx
  have hlv : hv hs n = .slice Ax xs.length cx := by rw [hv_rd, ← hx]; rfl
  have K := Aside0.mk hK
  have S := Aside0.mk hS
  have G := Aside0.mk hg
  have BB := Aside0.mk hB
  have N1 := Aside0.mk h1
  have N2 := Aside0.mk h2
  have HF := Aside0.mk hf
  have HX := Aside0.mk hx
  have HV := Aside0.mk hlv
  have HN := Aside0.mk hn
  have XS := Aside0.mk hxs
  have BS := Aside0.mk (show base ≤ w.heap.size by have := blk_lt hK; omega)
  have e1 := Aside0.mk (show wrap64 (n : Int) = (n : Int) by unfold wrap64; omega)
  have OB : Aside0 (∃ (c : Array Value) (t : Nat), (.cells #[.slice (some ⟨L, 0, none⟩) (n + 1) cap] 59 (0, 0) : Obj) = .cells c t (0, 0) ∧ t ≠ 42 ∧ t ≠ 28) := ⟨⟨_, 59, rfl, by decide, by decide⟩⟩
  clear hK hS hg hB h1 h2 hcl hLt hL hf hx hn hrow hlv hxs
  go_enter Tryd.func26, Tryd.ntmps26
  go_wp2_with (first | (rw [e1.out]) | ((with_reducible refine gate_dst (N := 3) rfl ?_); refine box_event ?hg (N := 3) ?hd (cs := #[.int .i64 f.f0, .int .i64 f.f1, .string f.f2, .slice Af f.f3.length cf]) (t := 42) ?hr ?_; (case hd => rfl); (case hg => rfl); (case hr => first | (go_simp; done) | (go_simp; rfl)); intro gf hgf w1 hbox hb; have A1 : Aside0 (AF w0 w base L cap n (some (g, 0)) (.cells #[.slice (some ⟨L, 0, none⟩) (n + 1) cap] 59 (0, 0)) f Af cf gf hs rows w1) := ⟨⟨fun q hq => by cases hq; exact blk_below K.out hb, hbox, S.out.below hb, Kd.R_below (Kd.R_elderB HF.out gf (Nat.le_of_eq hgf.symm)) hb, S.out.lt gf (Nat.le_of_eq hgf.symm), BB.out.trans (hb.mono BS.out), KT.of_below hb, Nat.le_trans BS.out hb.size⟩⟩; clear hbox hb hgf; have k1 : w1.cell? ⟨g, 0, none⟩ = some (.slice (some ⟨L, 0, none⟩) (n + 1) cap) := (blk_cell (A1.out.K _ rfl) 0).trans rfl))
  refine start_ (n := 4) (S := fun _ => True) (ds := []) #[false, false, false, false] (by kernel_rfl) rfl rfl trivial (fun hHeld => ?_)
  refine with_tabW add26.tab2 add26.bits2 (fun HT_ HW_ => ?_)
  have A2 := Aside0.mk (A1.out.below (w2 := w1.drew) (below_drew1 (Below.refl _ _)))
  clear k1 A1
  generalize w1.drew = w2 at A2 ⊢
  refine one_ (i := 0) (N := (some 11)) #[true, false, false, false] rfl rfl (one_of HT_.out (by kernel_rfl)) (by decide) (fun K hK => ?_)
  refine box_step (by rfl) (N := 11) rfl (cs := #[.bool false]) (t := 4) ?hr ?_; (case hr => first | (go_simp; done) | (go_simp; rfl))
  intro gb hgb w3 hbox hb
  have A3 := Aside0.mk (A2.out.below hb)
  have KB := Aside0.mk hbox
  have HGB := Aside0.mk hgb
  have HB3 := Aside0.mk hb
  clear hbox hb hgb
  refine hK.out _ _ trivial (fun hHeld => ?_)
  clear hK K
  refine norm_ (a' := ?_) ?_ ?_
  rotate_left
  · show Act.put _ (some 11) _ = _
    simp only [Act.put, List.setIfInBounds_toArray, List.set_cons_zero, List.set_cons_succ, i64_w, i32_w, u8_w, u32_w]
    rfl
  refine join_ (σ := Bool) 1 #[true, true, true, false] (fun _ => []) (fun b w' => AF w0 w base L cap n (some (g, 0)) (.cells #[.slice (some ⟨L, 0, none⟩) (n + 1) cap] 59 (0, 0)) f Af cf gf hs rows w' ∧ w'.heap[gb]? = some (.cells #[.bool b] 4 (0, 0))) ?hcont (fun J => ?_)
  rotate_left
  · refine two_ (i := 1) (j := 2) (Ni := none) (Nj := none) #[true, true, false, false] #[true, false, true, false] rfl rfl rfl rfl (two_of HT_.out (by kernel_rfl)) (by decide) (by decide) (fun K hK => ?_) (fun K hK => ?_)
    · have hc0 : w3.cell? ⟨gb, 0, none⟩ = some (.bool false) := (blk_cell KB.out 0).trans rfl
      have hf0 := blk_frozen KB.out 0
      refine skip_ (w1 := ?_) (by rfl) rfl ?_ ?_
      rotate_left
      · go_simp
        rfl
      refine hK.out _ _ trivial (fun _ => ?_)
      clear hK K
      have KB1 := Aside0.mk (blk_put KB.out 0 (.bool true) rfl)
      have AA1 := Aside0.mk (A2.out.below (w2 := w3.setCell ⟨gb, 0, none⟩ (.bool true)) (below_set HB3.out (Nat.le_of_eq HGB.out.symm)))
      have HB4 := Aside0.mk (below_set (v := .bool true) (j := 0) HB3.out (Nat.le_of_eq HGB.out.symm))
      clear hc0 hf0
      generalize w3.setCell ⟨gb, 0, none⟩ (.bool true) = w4 at KB1 AA1 HB4 ⊢
      have hc0 : w4.cell? ⟨gb, 0, none⟩ = some (.bool true) := (blk_cell KB1.out 0).trans rfl
      have hf0 := blk_frozen KB1.out 0
      refine one_ (i := 2) (N := none) #[true, true, true, false] rfl rfl (one_of HT_.out (by kernel_rfl)) (by decide) (fun K hK => ?_)
      refine skip_ (w1 := ?_) (by rfl) rfl ?_ ?_
      rotate_left
      · go_simp
        rfl
      refine hK.out _ _ trivial (fun _ => ?_)
      clear hK K
      exact J false _ ⟨A2.out.below (below_set HB4.out (Nat.le_of_eq HGB.out.symm)), blk_put KB1.out 0 _ rfl⟩
    · have hc0 : w3.cell? ⟨gb, 0, none⟩ = some (.bool false) := (blk_cell KB.out 0).trans rfl
      have hf0 := blk_frozen KB.out 0
      refine skip_ (w1 := ?_) (by rfl) rfl ?_ ?_
      rotate_left
      · go_simp
        rfl
      refine hK.out _ _ trivial (fun _ => ?_)
      clear hK K
      have KB1 := Aside0.mk (blk_put KB.out 0 (.bool false) rfl)
      have AA1 := Aside0.mk (A2.out.below (w2 := w3.setCell ⟨gb, 0, none⟩ (.bool false)) (below_set HB3.out (Nat.le_of_eq HGB.out.symm)))
      have HB4 := Aside0.mk (below_set (v := .bool false) (j := 0) HB3.out (Nat.le_of_eq HGB.out.symm))
      clear hc0 hf0
      generalize w3.setCell ⟨gb, 0, none⟩ (.bool false) = w4 at KB1 AA1 HB4 ⊢
      have hc0 : w4.cell? ⟨gb, 0, none⟩ = some (.bool false) := (blk_cell KB1.out 0).trans rfl
      have hf0 := blk_frozen KB1.out 0
      refine one_ (i := 1) (N := none) #[true, true, true, false] rfl rfl (one_of HT_.out (by kernel_rfl)) (by decide) (fun K hK => ?_)
      refine skip_ (w1 := ?_) (by rfl) rfl ?_ ?_
      rotate_left
      · go_simp
        rfl
      refine hK.out _ _ trivial (fun _ => ?_)
      clear hK K
      exact J true _ ⟨A2.out.below (below_set HB4.out (Nat.le_of_eq HGB.out.symm)), blk_put KB1.out 0 _ rfl⟩
  rintro b w5 ⟨hA5, hb5⟩
  clear A3 A2 KB HGB HB3
  have A5 := Aside0.mk hA5
  have hcb : w5.cell? ⟨gb, 0, none⟩ = some (.bool b) := (blk_cell hb5 0).trans rfl
  clear hA5 hb5
  simp only [putAll]
  refine one_ (i := 3) (N := (some 12)) #[true, true, true, true] rfl rfl (one_of HT_.out (by kernel_rfl)) (by decide) (fun K hK => ?_)
  refine value_ (w1 := ?_) (v := ?_) (by rfl) rfl ?_ ?_
  rotate_left 2
  · go_simp
    constructor
    · rfl
    · rfl
  refine hK.out _ _ trivial (fun hHeld => ?_)
  clear hK K
  refine norm_ (a' := ?_) ?_ ?_
  rotate_left
  · show Act.put _ (some 12) _ = _
    simp only [Act.put, List.setIfInBounds_toArray, List.set_cons_zero, List.set_cons_succ, i64_w, i32_w, u8_w, u32_w]
    rfl
  refine done_ (done_of HT_.out (by kernel_rfl)) ?_
  clear hcb
  cases b with
  | true =>
    go_wp2
    refine start_ (n := 13) (S := fun w' => w'.cell? ⟨g, 0, none⟩ = some (.slice (some ⟨L, 0, none⟩) (n + 1) cap) ∧ AC L n (.slice Ax xs.length cx) f Af cf gf w') (ds := [12]) #[false, false, false, false, false, false, false, false, false, false, false, false, false] (by kernel_rfl) rfl rfl ⟨(blk_cell ((A5.out.below (w2 := w5.drew) (below_drew1 (Below.refl _ _))).K _ rfl) 0).trans rfl, AF.acx (A5.out.below (w2 := w5.drew) (below_drew1 (Below.refl _ _))) (x := (Ax, xs.length, cx)) HX.out⟩ (fun hHeld => ?_)
    refine with_tabW add26.tab3 add26.bits3 (fun HT_ HW_ => ?_)
    have A6 := Aside0.mk (A5.out.below (w2 := w5.drew) (below_drew1 (Below.refl _ _)))
    clear A5
    generalize w5.drew = w6 at A6 hHeld ⊢
    refine pure_ (i := 0) (N := (some 13)) (v := ?_) (a' := ?_) #[true, false, false, false, false, false, false, false, false, false, false, false, false] rfl rfl (any_of HT_.out (by kernel_rfl)) (fun _ _ _ h => h) (Or.inl ⟨by rfl, ?_⟩) ?_ ?_
    rotate_left
    · intro w'
      go_simp
      try with_reducible rfl
    rotate_left
    · simp only [Act.put, List.setIfInBounds_toArray, List.set_cons_zero, List.set_cons_succ, i64_w, i32_w, u8_w, u32_w]
      rfl
    refine pure_ (i := 1) (N := (some 14)) (v := ?_) (a' := ?_) #[true, true, false, false, false, false, false, false, false, false, false, false, false] rfl rfl (any_of HT_.out (by kernel_rfl)) (fun _ _ _ h => h) (Or.inl ⟨by rfl, ?_⟩) ?_ ?_
    rotate_left
    · intro w'
      go_simp
      try with_reducible rfl
    rotate_left
    · simp only [Act.put, List.setIfInBounds_toArray, List.set_cons_zero, List.set_cons_succ, i64_w, i32_w, u8_w, u32_w]
      rfl
    refine pure_ (i := 2) (N := (some 15)) (v := ?_) (a' := ?_) #[true, true, true, false, false, false, false, false, false, false, false, false, false] rfl rfl (any_of HT_.out (by kernel_rfl)) (fun _ _ _ h => h) (Or.inl ⟨by rfl, ?_⟩) ?_ ?_
    rotate_left
    · intro w'
      go_simp
      try with_reducible rfl
    rotate_left
    · simp only [Act.put, List.setIfInBounds_toArray, List.set_cons_zero, List.set_cons_succ, i64_w, i32_w, u8_w, u32_w]
      rfl
    refine take_ (i := 3) (N := (some 16)) (v := ?_) (a' := ?_) #[true, true, true, true, false, false, false, false, false, false, false, false, false] rfl rfl (take_ofW HT_.out HW_.out (by kernel_rfl)) (fun _ _ _ h => h) (Or.inl ⟨by rfl, ?_⟩) hHeld ?_ ?_
    rotate_left
    · rintro w' ⟨s0, s1, s2, s3, s4, s5⟩
      go_simp
      try with_reducible rfl
    rotate_left
    · simp only [Act.put, List.setIfInBounds_toArray, List.set_cons_zero, List.set_cons_succ, i64_w, i32_w, u8_w, u32_w]
      rfl
    refine pure_ (i := 4) (N := (some 17)) (v := ?_) (a' := ?_) #[true, true, true, true, true, false, false, false, false, false, false, false, false] rfl rfl (any_of HT_.out (by kernel_rfl)) (fun _ _ _ h => h) (Or.inl ⟨by rfl, ?_⟩) ?_ ?_
    rotate_left
    · intro w'
      go_simp
      try with_reducible rfl
    rotate_left
    · simp only [Act.put, List.setIfInBounds_toArray, List.set_cons_zero, List.set_cons_succ, i64_w, i32_w, u8_w, u32_w]
      rfl
    have q1 : ((n : Int) < (n : Int) + 1) = True := eq_true (by omega)
    refine pure_ (i := 5) (N := (some 18)) (v := ?_) (a' := ?_) #[true, true, true, true, true, true, false, false, false, false, false, false, false] rfl rfl (any_of HT_.out (by kernel_rfl)) (fun _ _ _ h => h) (Or.inl ⟨by rfl, ?_⟩) ?_ ?_
    rotate_left
    · intro w'
      go_simp
      try with_reducible rfl
    rotate_left
    · simp only [Act.put, List.setIfInBounds_toArray, List.set_cons_zero, List.set_cons_succ, i64_w, i32_w, u8_w, u32_w]
      rfl
    refine take_ (i := 6) (N := (some 19)) (v := ?_) (a' := ?_) #[true, true, true, true, true, true, true, false, false, false, false, false, false] rfl rfl (take_ofW HT_.out HW_.out (by kernel_rfl)) (fun _ _ _ h => h) (Or.inl ⟨by rfl, ?_⟩) hHeld ?_ ?_
    rotate_left
    · rintro w' ⟨s0, s1, s2, s3, s4, s5⟩
      go_simp
      try with_reducible rfl
    rotate_left
    · simp only [Act.put, List.setIfInBounds_toArray, List.set_cons_zero, List.set_cons_succ, i64_w, i32_w, u8_w, u32_w]
      rfl
    refine take_ (i := 7) (N := (some 20)) (v := ?_) (a' := ?_) #[true, true, true, true, true, true, true, true, false, false, false, false, false] rfl rfl (take_ofW HT_.out HW_.out (by kernel_rfl)) (fun _ _ _ h => h) (Or.inl ⟨by rfl, ?_⟩) hHeld ?_ ?_
    rotate_left
    · rintro w' ⟨s0, s1, s2, s3, s4, s5⟩
      go_simp
      try with_reducible rfl
    rotate_left
    · simp only [Act.put, List.setIfInBounds_toArray, List.set_cons_zero, List.set_cons_succ, i64_w, i32_w, u8_w, u32_w]
      rfl
    refine pure_ (i := 8) (N := (some 21)) (v := ?_) (a' := ?_) #[true, true, true, true, true, true, true, true, true, false, false, false, false] rfl rfl (any_of HT_.out (by kernel_rfl)) (fun _ _ _ h => h) (Or.inl ⟨by rfl, ?_⟩) ?_ ?_
    rotate_left
    · intro w'
      go_simp
      try with_reducible rfl
    rotate_left
    · simp only [Act.put, List.setIfInBounds_toArray, List.set_cons_zero, List.set_cons_succ, i64_w, i32_w, u8_w, u32_w]
      rfl
    refine one_ (i := 9) (N := (some 22)) #[true, true, true, true, true, true, true, true, true, true, false, false, false] rfl rfl (one_of HT_.out (by kernel_rfl)) (by decide) (fun K hK => ?_)
    refine value_ (w1 := ?_) (v := ?_) (by rfl) rfl ?_ ?_
    rotate_left 2
    · go_simp
      constructor
      · rfl
      · rfl
    refine hK.out _ _ ⟨(blk_cell ((A6.out.below (below_alloc (Below.refl _ _) _)).K _ rfl) 0).trans rfl, AF.acx (A6.out.below (below_alloc (Below.refl _ _) _)) (x := (Ax, xs.length, cx)) HX.out⟩ (fun hHeld => ?_)
    clear hK K
    refine norm_ (a' := ?_) ?_ ?_
    rotate_left
    · show Act.put _ (some 22) _ = _
      simp only [Act.put, List.setIfInBounds_toArray, List.set_cons_zero, List.set_cons_succ, i64_w, i32_w, u8_w, u32_w]
      rfl
    refine one_ (i := 10) (N := (some 23)) #[true, true, true, true, true, true, true, true, true, true, true, false, false] rfl rfl (one_of HT_.out (by kernel_rfl)) (by decide) (fun K hK => ?_)
    refine Kd.R_append_step k42 (w0 := w0) base (by rfl) (.tmp 19) (.tmp 22) 28 42 (.agg #[(.int .i64 0), (.int .i64 0), (.string ⟨#[]⟩), (.slice none 0 0)]) 56 rfl Tryd.underlying28 info42 rfl (by decide) (by omega) (.slice Ax xs.length cx) xs z42 [.int .i64 0, .int .i64 0, .string ⟨#[]⟩, .slice none 0 0] (Apt hs n) (fun _ => False) rfl rfl ?aP (fun _ hk => hk.elim) ?aF ?aO ?aB ?aS ?aL ?_
    (case aP => exact k42_mkM _ _ _ z42 (Kd.R_nil _ _ _ _ _))
    (case aB => exact A6.out.B)
    (case aF => exact (fun k hk => (A6.out.S.lt k hk).apt))
    (case aO => have := A6.out.S.row n (by rw [HN.out]; omega); rw [HV.out, ← XS.out] at this; exact this)
    (case aS => exact A6.out.Z)
    (case aL => have := N2.out; omega)
    intro v7 w7 ho hb hg hat
    obtain ⟨A7, c7, e7⟩ := Kd.R_slice ho
    rw [List.length_append, List.length_singleton] at e7
    subst e7
    rw [← HV.out] at hg hat
    have P7 := Aside0.mk (A6.out.put OB.out (by rw [HN.out]; omega) (x1 := (A7, xs.length + 1, c7)) ho hb hg hat)
    have K7 : Aside0 (w7.heap[g]? = some (.cells #[.slice (some ⟨L, 0, none⟩) (n + 1) cap] 59 (0, 0))) := ⟨(hg.block g (blk_lt (A6.out.K _ rfl)) (fun he => by obtain ⟨cells, hc⟩ := Kd.R_typed (A6.out.S.row n (by rw [HN.out]; omega)) g he.symm; rw [A6.out.K _ rfl] at hc; injection hc with hc; injection hc with _ hc; exact absurd hc (by decide))).trans (A6.out.K _ rfl)⟩
    have F7 : Aside0 (w7.heap[gf]? = some (.cells #[.int .i64 f.f0, .int .i64 f.f1, .string f.f2, .slice Af f.f3.length cf] 42 (0, 0))) := ⟨(hg.block gf (blk_lt A6.out.F) (A6.out.A n (by rw [A6.out.S.len, HN.out]; omega))).trans A6.out.F⟩
    have RO := Aside0.mk ho
    have RB := Aside0.mk hb
    clear ho hb hg hat
    refine hK.out _ _ ⟨(blk_cell K7.out 0).trans rfl, (by have h_ := P7.out.2.1; rw [← HX.out] at h_; exact h_), (blk_cell F7.out 0).trans rfl, (blk_cell F7.out 1).trans rfl, (blk_cell F7.out 2).trans rfl, (blk_cell F7.out 3).trans rfl⟩ (fun hHeld => ?_)
    clear hK K
    refine norm_ (a' := ?_) ?_ ?_
    rotate_left
    · show Act.put _ (some 23) _ = _
      simp only [Act.put, List.setIfInBounds_toArray, List.set_cons_zero, List.set_cons_succ, i64_w, i32_w, u8_w, u32_w]
      rfl
    refine pure_ (i := 11) (N := (some 24)) (v := ?_) (a' := ?_) #[true, true, true, true, true, true, true, true, true, true, true, true, false] rfl rfl (any_of HT_.out (by kernel_rfl)) (fun _ _ _ h => h) (Or.inl ⟨by rfl, ?_⟩) ?_ ?_
    rotate_left
    · intro w'
      go_simp
      try with_reducible rfl
    rotate_left
    · simp only [Act.put, List.setIfInBounds_toArray, List.set_cons_zero, List.set_cons_succ, i64_w, i32_w, u8_w, u32_w]
      rfl
    refine last_ (i := 12) (N := none) #[true, true, true, true, true, true, true, true, true, true, true, true, true] rfl rfl (one_of HT_.out (by kernel_rfl)) (by decide) (fun K hK => ?_)
    have hc7 : w7.cell? ⟨L, n, none⟩ = some (.slice Ax xs.length cx) := by have := P7.out.2.1; rw [← HX.out] at this; exact this
    have hf7 := P7.out.2.2
    refine skip_ (w1 := ?_) (by rfl) rfl ?_ ?_
    rotate_left
    · go_simp
      rfl
    refine hK.out _ _ ?_
    clear hK K
    refine done_ (done_of HT_.out (by kernel_rfl)) ?_
    obtain ⟨P8, -, -⟩ := P7.out
    clear P7 F7 K7 RO RB hc7 hf7
    change AF _ _ _ _ _ _ _ _ _ _ _ _ _ _ (w7.setCell ⟨L, n, none⟩ (.slice A7 (xs.length + 1) c7)) at P8
    generalize w7.setCell ⟨L, n, none⟩ (.slice A7 (xs.length + 1) c7) = w8 at *
    have hn8 : n < rows.length := by rw [HN.out]; omega
    have hn8' : n < hs.length := by rw [S.out.len, HN.out]; omega
    have hr8 := P8.S.row n (by rw [List.length_set]; exact hn8)
    rw [hv_set_same hn8', getD_set_same hn8] at hr8
    obtain ⟨g7, cap7, e7, hb7, hlt7, cl7, hcl7⟩ := Kd.R_form hr8 (by simp)
    have eA : A7 = some ⟨g7, 0, none⟩ := by injection e7
    subst eA
    replace hr8 : Kd.R k42 42 w8 base (Apt (hs.set n (some ⟨g7, 0, none⟩, xs.length + 1, c7)) n) (.slice (some ⟨g7, 0, none⟩) (xs.length + 1) c7) (xs ++ [z42]) := hr8
    obtain ⟨c, hc1, -, hc3, -⟩ := Kd.R_elem hr8 z42 (xs.length : Int) (by omega) (by omega)
    have hc1' : c.length = 4 := hc1
    have A8 := Aside0.mk P8
    have R8 := Aside0.mk hr8
    have C8 := Aside0.mk hc3
    clear P8 hr8 hc3 hb7 hlt7 hcl7 e7
    have q1 : ((xs.length : Int) < (xs.length : Int) + 1) = True := eq_true (by omega)
    go_wp2_with (first | ((with_reducible refine gate_ (.store 42 (.tmp 25) (.tmp 20)) rfl ?_); refine Kd.R_store k42 (w0 := w0) base rfl rfl 42 (.tmp 25) (.tmp 20) rfl 42 (g := g7) (n := xs.length + 1) (cap := c7) (o' := xs.length * 4) (xs.length : Int) 0 (xs ++ [z42]) f (.agg #[.int .i64 f.f0, .int .i64 f.f1, .string f.f2, .slice Af f.f3.length cf]) [.int .i64 f.f0, .int .i64 f.f1, .string f.f2, .slice Af f.f3.length cf] c (Apt (hs.set n (some ⟨g7, 0, none⟩, xs.length + 1, c7)) n) (fun k => Alr (hs.set n (some ⟨g7, 0, none⟩, xs.length + 1, c7)) k ∧ k ≠ gf) ?sA ?sO rfl rfl ?sT ?s1 R8.out (by omega) (by omega) hc1 C8.out (by rw [show k42.sz = 4 from rfl]; simp) ?sM ?sP A8.out.B ?_; (case sA => first | rfl | (go_simp; done) | (go_simp; rfl)); (case sO => simp [show k42.sz = 4 from rfl]); (case sT => kernel_rfl); (case s1 => intro q hq; simp at hq; rcases hq with rfl | rfl | rfl | rfl <;> rfl); (case sM => rw [List.take_zero, List.nil_append, List.drop_eq_nil_of_le (by rw [hc1']; simp), List.append_nil]; exact k42_mkM _ _ _ f A8.out.R); (case sP => intro k hk; refine ⟨hk.1.apt, fun he => ?_⟩; have h_ := hk.1 n (by rw [List.length_set, S.out.len, HN.out]; omega); rw [hv_set_same (by rw [S.out.len, HN.out]; omega)] at h_; exact h_ (by rw [he]; rfl)); intro w9 ho hb hg; have E9 := Aside0.mk (A8.out.grow OB.out (by rw [List.length_set, HN.out]; omega) (by rw [hv_set_same (by rw [S.out.len, HN.out]; omega)]; exact ho) hb (by rw [hv_set_same (by rw [S.out.len, HN.out]; omega)]; exact hg)); clear ho hb hg))
    
    refine bodyPost_end (v := .tuple #[]) (by simp [results, Tryd.results26, go_sem]) rfl ?_
    obtain ⟨h1, h2, h3, h4⟩ := E9.out
    rw [List.set_set] at h2
    have ef : (xs ++ [z42]).set (Int.toNat (xs.length : Int)) f = xs ++ [f] := by rw [Int.toNat_natCast, List.set_append_right _ _ (Nat.le_refl _)]; simp
    rw [ef] at h2
    exact ⟨rfl, ⟨h1 _ rfl, _, h2⟩, h3, h4⟩
  | false =>
    go_wp2
    refine start_ (n := 17) (S := fun w' => w'.cell? ⟨g, 0, none⟩ = some (.slice (some ⟨L, 0, none⟩) (n + 1) cap) ∧ AC L n (.slice Ax xs.length cx) f Af cf gf w') (ds := [16]) #[false, false, false, false, false, false, false, false, false, false, false, false, false, false, false, false, false] (by kernel_rfl) rfl rfl ⟨(blk_cell ((A5.out.below (w2 := w5.drew) (below_drew1 (Below.refl _ _))).K _ rfl) 0).trans rfl, AF.acx (A5.out.below (w2 := w5.drew) (below_drew1 (Below.refl _ _))) (x := (Ax, xs.length, cx)) HX.out⟩ (fun hHeld => ?_)
    refine with_tabW add26.tab5 add26.bits5 (fun HT_ HW_ => ?_)
    have A6 := Aside0.mk (A5.out.below (w2 := w5.drew) (below_drew1 (Below.refl _ _)))
    clear A5
    generalize w5.drew = w6 at A6 hHeld ⊢
    refine pure_ (i := 0) (N := (some 26)) (v := ?_) (a' := ?_) #[true, false, false, false, false, false, false, false, false, false, false, false, false, false, false, false, false] rfl rfl (any_of HT_.out (by kernel_rfl)) (fun _ _ _ h => h) (Or.inl ⟨by rfl, ?_⟩) ?_ ?_
    rotate_left
    · intro w'
      go_simp
      try with_reducible rfl
    rotate_left
    · simp only [Act.put, List.setIfInBounds_toArray, List.set_cons_zero, List.set_cons_succ, i64_w, i32_w, u8_w, u32_w]
      rfl
    refine pure_ (i := 1) (N := (some 27)) (v := ?_) (a' := ?_) #[true, true, false, false, false, false, false, false, false, false, false, false, false, false, false, false, false] rfl rfl (any_of HT_.out (by kernel_rfl)) (fun _ _ _ h => h) (Or.inl ⟨by rfl, ?_⟩) ?_ ?_
    rotate_left
    · intro w'
      go_simp
      try with_reducible rfl
    rotate_left
    · simp only [Act.put, List.setIfInBounds_toArray, List.set_cons_zero, List.set_cons_succ, i64_w, i32_w, u8_w, u32_w]
      rfl
    refine pure_ (i := 2) (N := (some 28)) (v := ?_) (a' := ?_) #[true, true, true, false, false, false, false, false, false, false, false, false, false, false, false, false, false] rfl rfl (any_of HT_.out (by kernel_rfl)) (fun _ _ _ h => h) (Or.inl ⟨by rfl, ?_⟩) ?_ ?_
    rotate_left
    · intro w'
      go_simp
      try with_reducible rfl
    rotate_left
    · simp only [Act.put, List.setIfInBounds_toArray, List.set_cons_zero, List.set_cons_succ, i64_w, i32_w, u8_w, u32_w]
      rfl
    refine take_ (i := 3) (N := (some 29)) (v := ?_) (a' := ?_) #[true, true, true, true, false, false, false, false, false, false, false, false, false, false, false, false, false] rfl rfl (take_ofW HT_.out HW_.out (by kernel_rfl)) (fun _ _ _ h => h) (Or.inl ⟨by rfl, ?_⟩) hHeld ?_ ?_
    rotate_left
    · rintro w' ⟨s0, s1, s2, s3, s4, s5⟩
      go_simp
      try with_reducible rfl
    rotate_left
    · simp only [Act.put, List.setIfInBounds_toArray, List.set_cons_zero, List.set_cons_succ, i64_w, i32_w, u8_w, u32_w]
      rfl
    refine pure_ (i := 4) (N := (some 30)) (v := ?_) (a' := ?_) #[true, true, true, true, true, false, false, false, false, false, false, false, false, false, false, false, false] rfl rfl (any_of HT_.out (by kernel_rfl)) (fun _ _ _ h => h) (Or.inl ⟨by rfl, ?_⟩) ?_ ?_
    rotate_left
    · intro w'
      go_simp
      try with_reducible rfl
    rotate_left
    · simp only [Act.put, List.setIfInBounds_toArray, List.set_cons_zero, List.set_cons_succ, i64_w, i32_w, u8_w, u32_w]
      rfl
    refine pure_ (i := 5) (N := (some 31)) (v := ?_) (a' := ?_) #[true, true, true, true, true, true, false, false, false, false, false, false, false, false, false, false, false] rfl rfl (any_of HT_.out (by kernel_rfl)) (fun _ _ _ h => h) (Or.inl ⟨by rfl, ?_⟩) ?_ ?_
    rotate_left
    · intro w'
      go_simp
      try with_reducible rfl
    rotate_left
    · simp only [Act.put, List.setIfInBounds_toArray, List.set_cons_zero, List.set_cons_succ, i64_w, i32_w, u8_w, u32_w]
      rfl
    refine pure_ (i := 6) (N := (some 32)) (v := ?_) (a' := ?_) #[true, true, true, true, true, true, true, false, false, false, false, false, false, false, false, false, false] rfl rfl (any_of HT_.out (by kernel_rfl)) (fun _ _ _ h => h) (Or.inl ⟨by rfl, ?_⟩) ?_ ?_
    rotate_left
    · intro w'
      go_simp
      try with_reducible rfl
    rotate_left
    · simp only [Act.put, List.setIfInBounds_toArray, List.set_cons_zero, List.set_cons_succ, i64_w, i32_w, u8_w, u32_w]
      rfl
    refine pure_ (i := 7) (N := (some 33)) (v := ?_) (a' := ?_) #[true, true, true, true, true, true, true, true, false, false, false, false, false, false, false, false, false] rfl rfl (any_of HT_.out (by kernel_rfl)) (fun _ _ _ h => h) (Or.inl ⟨by rfl, ?_⟩) ?_ ?_
    rotate_left
    · intro w'
      go_simp
      try with_reducible rfl
    rotate_left
    · simp only [Act.put, List.setIfInBounds_toArray, List.set_cons_zero, List.set_cons_succ, i64_w, i32_w, u8_w, u32_w]
      rfl
    refine take_ (i := 8) (N := (some 34)) (v := ?_) (a' := ?_) #[true, true, true, true, true, true, true, true, true, false, false, false, false, false, false, false, false] rfl rfl (take_ofW HT_.out HW_.out (by kernel_rfl)) (fun _ _ _ h => h) (Or.inl ⟨by rfl, ?_⟩) hHeld ?_ ?_
    rotate_left
    · rintro w' ⟨s0, s1, s2, s3, s4, s5⟩
      go_simp
      try with_reducible rfl
    rotate_left
    · simp only [Act.put, List.setIfInBounds_toArray, List.set_cons_zero, List.set_cons_succ, i64_w, i32_w, u8_w, u32_w]
      rfl
    refine pure_ (i := 9) (N := (some 35)) (v := ?_) (a' := ?_) #[true, true, true, true, true, true, true, true, true, true, false, false, false, false, false, false, false] rfl rfl (any_of HT_.out (by kernel_rfl)) (fun _ _ _ h => h) (Or.inl ⟨by rfl, ?_⟩) ?_ ?_
    rotate_left
    · intro w'
      go_simp
      try with_reducible rfl
    rotate_left
    · simp only [Act.put, List.setIfInBounds_toArray, List.set_cons_zero, List.set_cons_succ, i64_w, i32_w, u8_w, u32_w]
      rfl
    have q1 : ((n : Int) < (n : Int) + 1) = True := eq_true (by omega)
    refine pure_ (i := 10) (N := (some 36)) (v := ?_) (a' := ?_) #[true, true, true, true, true, true, true, true, true, true, true, false, false, false, false, false, false] rfl rfl (any_of HT_.out (by kernel_rfl)) (fun _ _ _ h => h) (Or.inl ⟨by rfl, ?_⟩) ?_ ?_
    rotate_left
    · intro w'
      go_simp
      try with_reducible rfl
    rotate_left
    · simp only [Act.put, List.setIfInBounds_toArray, List.set_cons_zero, List.set_cons_succ, i64_w, i32_w, u8_w, u32_w]
      rfl
    refine take_ (i := 11) (N := (some 37)) (v := ?_) (a' := ?_) #[true, true, true, true, true, true, true, true, true, true, true, true, false, false, false, false, false] rfl rfl (take_ofW HT_.out HW_.out (by kernel_rfl)) (fun _ _ _ h => h) (Or.inl ⟨by rfl, ?_⟩) hHeld ?_ ?_
    rotate_left
    · rintro w' ⟨s0, s1, s2, s3, s4, s5⟩
      go_simp
      try with_reducible rfl
    rotate_left
    · simp only [Act.put, List.setIfInBounds_toArray, List.set_cons_zero, List.set_cons_succ, i64_w, i32_w, u8_w, u32_w]
      rfl
    refine take_ (i := 12) (N := (some 38)) (v := ?_) (a' := ?_) #[true, true, true, true, true, true, true, true, true, true, true, true, true, false, false, false, false] rfl rfl (take_ofW HT_.out HW_.out (by kernel_rfl)) (fun _ _ _ h => h) (Or.inl ⟨by rfl, ?_⟩) hHeld ?_ ?_
    rotate_left
    · rintro w' ⟨s0, s1, s2, s3, s4, s5⟩
      go_simp
      try with_reducible rfl
    rotate_left
    · simp only [Act.put, List.setIfInBounds_toArray, List.set_cons_zero, List.set_cons_succ, i64_w, i32_w, u8_w, u32_w]
      rfl
    refine one_ (i := 13) (N := (some 39)) #[true, true, true, true, true, true, true, true, true, true, true, true, true, true, false, false, false] rfl rfl (one_of HT_.out (by kernel_rfl)) (by decide) (fun K hK => ?_)
    refine value_ (w1 := ?_) (v := ?_) (by rfl) rfl ?_ ?_
    rotate_left 2
    · go_simp
      constructor
      · rfl
      · rfl
    refine hK.out _ _ ⟨(blk_cell ((A6.out.below (below_alloc (Below.refl _ _) _)).K _ rfl) 0).trans rfl, AF.acx (A6.out.below (below_alloc (Below.refl _ _) _)) (x := (Ax, xs.length, cx)) HX.out⟩ (fun hHeld => ?_)
    clear hK K
    refine norm_ (a' := ?_) ?_ ?_
    rotate_left
    · show Act.put _ (some 39) _ = _
      simp only [Act.put, List.setIfInBounds_toArray, List.set_cons_zero, List.set_cons_succ, i64_w, i32_w, u8_w, u32_w]
      rfl
    refine one_ (i := 14) (N := (some 40)) #[true, true, true, true, true, true, true, true, true, true, true, true, true, true, true, false, false] rfl rfl (one_of HT_.out (by kernel_rfl)) (by decide) (fun K hK => ?_)
    refine Kd.R_append_step k42 (w0 := w0) base (by rfl) (.tmp 37) (.tmp 39) 28 42 (.agg #[(.int .i64 0), (.int .i64 0), (.string ⟨#[]⟩), (.slice none 0 0)]) 56 rfl Tryd.underlying28 info42 rfl (by decide) (by omega) (.slice Ax xs.length cx) xs f [.int .i64 f.f0, .int .i64 f.f1, .string f.f2, .slice Af f.f3.length cf] (Apt hs n) (fun k => Alr hs k ∧ k ≠ gf) rfl rfl ?aP ?aK ?aF ?aO ?aB ?aS ?aL ?_
    (case aP => exact k42_mkM _ _ _ f A6.out.R)
    (case aK => intro k hk; refine ⟨hk.1.apt, ?_⟩; rw [← HV.out]; exact hk.1 n (by rw [A6.out.S.len, HN.out]; omega))
    (case aB => exact A6.out.B)
    (case aF => exact (fun k hk => (A6.out.S.lt k hk).apt))
    (case aO => have := A6.out.S.row n (by rw [HN.out]; omega); rw [HV.out, ← XS.out] at this; exact this)
    (case aS => exact A6.out.Z)
    (case aL => have := N2.out; omega)
    intro v7 w7 ho hb hg hat
    obtain ⟨A7, c7, e7⟩ := Kd.R_slice ho
    rw [List.length_append, List.length_singleton] at e7
    subst e7
    rw [← HV.out] at hg hat
    have P7 := Aside0.mk (A6.out.put OB.out (by rw [HN.out]; omega) (x1 := (A7, xs.length + 1, c7)) ho hb hg hat)
    have K7 : Aside0 (w7.heap[g]? = some (.cells #[.slice (some ⟨L, 0, none⟩) (n + 1) cap] 59 (0, 0))) := ⟨(hg.block g (blk_lt (A6.out.K _ rfl)) (fun he => by obtain ⟨cells, hc⟩ := Kd.R_typed (A6.out.S.row n (by rw [HN.out]; omega)) g he.symm; rw [A6.out.K _ rfl] at hc; injection hc with hc; injection hc with _ hc; exact absurd hc (by decide))).trans (A6.out.K _ rfl)⟩
    have F7 : Aside0 (w7.heap[gf]? = some (.cells #[.int .i64 f.f0, .int .i64 f.f1, .string f.f2, .slice Af f.f3.length cf] 42 (0, 0))) := ⟨(hg.block gf (blk_lt A6.out.F) (A6.out.A n (by rw [A6.out.S.len, HN.out]; omega))).trans A6.out.F⟩
    clear ho hb hg hat
    refine hK.out _ _ ⟨(blk_cell K7.out 0).trans rfl, (by have h_ := P7.out.2.1; rw [← HX.out] at h_; exact h_), (blk_cell F7.out 0).trans rfl, (blk_cell F7.out 1).trans rfl, (blk_cell F7.out 2).trans rfl, (blk_cell F7.out 3).trans rfl⟩ (fun hHeld => ?_)
    clear hK K
    refine norm_ (a' := ?_) ?_ ?_
    rotate_left
    · show Act.put _ (some 40) _ = _
      simp only [Act.put, List.setIfInBounds_toArray, List.set_cons_zero, List.set_cons_succ, i64_w, i32_w, u8_w, u32_w]
      rfl
    refine pure_ (i := 15) (N := (some 41)) (v := ?_) (a' := ?_) #[true, true, true, true, true, true, true, true, true, true, true, true, true, true, true, true, false] rfl rfl (any_of HT_.out (by kernel_rfl)) (fun _ _ _ h => h) (Or.inl ⟨by rfl, ?_⟩) ?_ ?_
    rotate_left
    · intro w'
      go_simp
      try with_reducible rfl
    rotate_left
    · simp only [Act.put, List.setIfInBounds_toArray, List.set_cons_zero, List.set_cons_succ, i64_w, i32_w, u8_w, u32_w]
      rfl
    refine last_ (i := 16) (N := none) #[true, true, true, true, true, true, true, true, true, true, true, true, true, true, true, true, true] rfl rfl (one_of HT_.out (by kernel_rfl)) (by decide) (fun K hK => ?_)
    have hc7 : w7.cell? ⟨L, n, none⟩ = some (.slice Ax xs.length cx) := by have := P7.out.2.1; rw [← HX.out] at this; exact this
    have hf7 := P7.out.2.2
    refine skip_ (w1 := ?_) (by rfl) rfl ?_ ?_
    rotate_left
    · go_simp
      rfl
    refine hK.out _ _ ?_
    clear hK K
    refine done_ (done_of HT_.out (by kernel_rfl)) ?_
    go_wp2
    refine bodyPost_end (v := .tuple #[]) (by simp [results, Tryd.results26, go_sem]) rfl ?_
    exact ⟨rfl, ⟨P7.out.1.K _ rfl, _, P7.out.1.S⟩, P7.out.1.B, P7.out.1.T⟩
end Go.Proofs.YtkkmgahgejjhgaaDoor.Frm
