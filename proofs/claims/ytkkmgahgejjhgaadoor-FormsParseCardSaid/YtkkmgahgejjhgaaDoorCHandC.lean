/- slices.Clone of a row of forms: a new row of the same forms. No conditions. -/
import Derived.Test.YtkkmgahgejjhgaaDoorCHandL
import Derived.Lib.SliceRun
namespace Go.Proofs.YtkkmgahgejjhgaaDoor.Frm
open Go.RowKit Go.Proofs.YtkkmgahgejjhgaaDoor.P Go.Proofs.YtkkmgahgejjhgaaDoorW.PrintWords Go.Proofs.YtkkmgahgejjhgaaDoorW.PrintLast Go.Proofs.YtkkmgahgejjhgaaDoorW.PrintMore
set_option linter.unusedVariables false
set_option linter.unusedSimpArgs false
set_option maxHeartbeats 8000000 in
set_option maxRecDepth 100000 in
theorem clone29 {w : World} {base : Nat} {ok : Nat → Prop} {v : Value} {xs : List S42} (h : Kd.R k42 42 w base ok v xs) (hb : base ≤ w.heap.size) (hl : xs.length ≤ 5000) :
    Calls Tryd.prog 29 #[v] w fun e w' => ∃ v', e = .returned v' ∧ Kd.R k42 42 w' base (fun k => (ok k ∧ some k ≠ v.ownBlock) ∨ w.heap.size ≤ k) v' xs ∧ Below w.heap.size w w' := by
  have hu28 := Tryd.underlying28
  obtain ⟨A, c, rfl, hc, hC⟩ := Kd.R_reads h
  cases A with
  | none =>
    have hx : xs = [] := by
      obtain ⟨inner, ho⟩ := Kd.R_own h
      rcases ho.2 with ⟨e, hn⟩ | ⟨g, cap, cur, e, _⟩
      · injection e with _ h2 _
        exact List.length_eq_zero_iff.1 h2
      · cases e
    have hc0 : c = 0 := by
      obtain ⟨inner, ho⟩ := Kd.R_own h
      rcases ho.2 with ⟨e, hn⟩ | ⟨g, cap, cur, e, _⟩
      · injection e
      · cases e
    subst hx
    subst hc0
    clear h hC hc hl hb
    have EQ := fun (W : World) => Lib.run_eql_slice_nil (P := Tryd.prog) W 28 42 none 0 0 0 0 Tryd.underlying28
    go_enter Tryd.func29, Tryd.ntmps29
    go_wp2
    go_ret
    exact ⟨_, rfl, Kd.R_nil _ _ _ _ _, Below.refl _ _⟩
  | some ad =>
    have H := Aside0.mk h
    have HC := Aside0.mk hC
    have HL := Aside0.mk hl
    have HBS := Aside0.mk hb
    clear h hC hl hb
    have EQ := fun (W : World) => Lib.run_eql_slice_nil (P := Tryd.prog) W 28 42 (some ad) xs.length c 0 0 Tryd.underlying28
    obtain ⟨w1, hw1⟩ : ∃ w1, w1 = w.alloc (.cells #[] 42) := ⟨_, rfl⟩
    have hsz : w1.heap.size = w.heap.size + 1 := by rw [hw1]; simp
    have NR : Kd.R k42 42 w1 base (fun k => (ok k ∧ some k ≠ (Value.slice (some ad) xs.length c).ownBlock) ∨ w.heap.size ≤ k) (.slice (some ⟨w.heap.size, 0, none⟩) 0 0) [] := by
      refine ⟨fun k hk => ?_, [], ?_, ?_⟩
      · have : w.heap.size = k := by simpa [Value.ownBlock] using hk
        exact .inr (Nat.le_of_eq this)
      · rw [hw1]
        exact World.ownsRow_made w #[] 0 HBS.out (by decide) (by simp)
      · exact ⟨by simp, fun j p hj => by simp at hj⟩
    have BB : Below w.heap.size w w1 := by rw [hw1]; exact below_alloc (Below.refl _ _) _
    have OR : OwnRow (k42.M w base (fun k => (ok k ∧ k < w.heap.size) ∧ some k ≠ (Value.slice (some ad) xs.length c).ownBlock)) 42 k42.sz w base (.slice (some ad) xs.length c) xs := (Kd.R_mono (Kd.R_bound H.out) (fun k hk => (⟨hk.1, hk.2.2.1⟩ : ok k ∧ k < w.heap.size))).2
    obtain ⟨A', c', he, _, RR⟩ := OwnRow.reads OR
    injection he with hA _ hC'
    subst hA
    subst hC'
    have R1 : ReadsRow (k42.M w1 base (fun k => (ok k ∧ k < w.heap.size) ∧ some k ≠ (Value.slice (some ad) xs.length c).ownBlock)) k42.sz w1 (some ad) xs.length xs := ReadsRow.imp_ RR BB (fun _ _ hp => Kd.M_below hp BB)
    have NRA := Aside0.mk NR
    have RA := Aside0.mk R1
    have BA := Aside0.mk BB
    have SA := Aside0.mk hsz
    clear NR R1 BB hsz RR OR
    go_enter Tryd.func29, Tryd.ntmps29
    go_wp2_with (first | ((with_reducible refine gate_builtin (b := .append) (xs := #[.tmp 5, .tmp 6]) rfl ?_); at_builtin; rw [← hw1]; refine Kd.R_append_rows k42 (w0 := w) base rfl (.tmp 5) (.tmp 6) 28 42 (.agg #[(.int .i64 0), (.int .i64 0), (.string ⟨#[]⟩), (.slice none 0 0)]) 56 rfl Tryd.underlying28 info42 rfl (by decide) (by omega) (.slice (some ⟨w.heap.size, 0, none⟩) 0 0) [] xs (some ad) xs.length c (fun k => (ok k ∧ some k ≠ (Value.slice (some ad) xs.length c).ownBlock) ∨ w.heap.size ≤ k) (fun k => (ok k ∧ k < w.heap.size) ∧ some k ≠ (Value.slice (some ad) xs.length c).ownBlock) rfl rfl NRA.out RA.out (fun _ _ h => h) ?aP ?aF ?aB ?aS ?aL ?_; (case aP => exact (fun k hk => ⟨.inl ⟨hk.1.1, hk.2⟩, by (have := hk.1.2; simp [Value.ownBlock]; omega)⟩)); (case aF => exact (fun k hk => .inr (by have := SA.out; omega))); (case aB => exact BA.out.mono HBS.out); (case aS => have := SA.out; have := HBS.out; omega); (case aL => have := HL.out; simp only [List.length_nil]; omega); intro v8 w8 ho hb hg hat; have HO8 := Aside0.mk ho; have HB8 := Aside0.mk (Below.grown BA.out hg (by have := SA.out; omega) (fun k hk => by (have : w.heap.size = k := (by simpa [Value.ownBlock] using hk); omega))); clear ho hb hg hat))
    go_ret
    exact ⟨_, rfl, HO8.out, HB8.out⟩
end Go.Proofs.YtkkmgahgejjhgaaDoor.Frm
