/- Package forms' lists: close: the innermost row stands as a list behind the others of the next one. No conditions. -/
import Derived.Test.YtkkmgahgejjhgaaDoorCHandA
namespace Go.Proofs.YtkkmgahgejjhgaaDoor.Frm
open Go.RowKit Go.Proofs.YtkkmgahgejjhgaaDoor.P Go.Proofs.YtkkmgahgejjhgaaDoorW.PrintWords Go.Proofs.YtkkmgahgejjhgaaDoorW.PrintLast Go.Proofs.YtkkmgahgejjhgaaDoorW.PrintMore
set_option linter.unusedVariables false
set_option linter.unusedSimpArgs false
set_option maxHeartbeats 8000000 in
set_option maxRecDepth 100000 in
theorem close28a {w : World} {base g : Nat} {rows : List (List S42)} (h : St w base g rows) (hn : rows.length = 1) :
    Calls Tryd.prog 28 #[.pointer (some ⟨g, 0, none⟩)] w fun e w' => e = .returned (.bool false) ∧ w' = w := by
  obtain ⟨V, hs, hK, hg, hS⟩ := h
  obtain ⟨L, cap, rfl, hL, hLt, cl, hcl⟩ := hS.form (by omega)
  rw [hn] at hK
  have k0 : w.cell? ⟨g, 0, none⟩ = some (.slice (some ⟨L, 0, none⟩) 1 cap) := (blk_cell hK 0).trans rfl
  clear hK hS hg hcl hLt hL hn
  go_enter Tryd.func28, Tryd.ntmps28
  go_wp2
  go_ret
  exact ⟨by first | rfl | (simp; done) | (simp [*]; done), rfl⟩
set_option maxHeartbeats 8000000 in
set_option maxRecDepth 100000 in
theorem close28b {w0 w : World} {base g m : Nat} {rows : List (List S42)} (h : St w base g rows) (hB : Below base w0 w) (hn : rows.length = m + 2) (h1 : rows.length ≤ 5000) (h2 : (rows.getD m []).length ≤ 5000) (h3 : (rows.getD (m + 1) []).length ≤ 5000) :
    Calls Tryd.prog 28 #[.pointer (some ⟨g, 0, none⟩)] w fun e w' => e = .returned (.bool true) ∧ St w' base g ((rows.take (m + 1)).set m (rows.getD m [] ++ [⟨3, 0, ⟨#[]⟩, rows.getD (m + 1) []⟩])) ∧ Below base w0 w' ∧ KT w w' := by
  obtain ⟨p, hp⟩ : ∃ p, p = m + 1 := ⟨_, rfl⟩
  have hpm := Aside0.mk hp
  rw [show m + 2 = p + 1 by omega] at hn
  rw [← hp] at h3 ⊢
  have hu57 := Tryd.underlying57
  have hu42 := Tryd.underlying42
  obtain ⟨V, hs, hK, hg, hS⟩ := h
  obtain ⟨L, cap, rfl, hL, hLt, cl, hcl⟩ := hS.form (by omega)
  have hcn := Kd.R_celln (enc := slv) (h1 := fun _ => rfl) (none, 0, 0) hS.out (p : Int) (by omega) (by omega)
  rw [Int.toNat_natCast, ← hv_rd] at hcn
  have hrow := hS.row p (by omega)
  rw [hn] at hK hS h1
  obtain ⟨xs, hxs⟩ : ∃ xs, xs = rows.getD p [] := ⟨_, rfl⟩
  rw [← hxs] at hrow h3 ⊢
  obtain ⟨ys, hys⟩ : ∃ ys, ys = rows.getD m [] := ⟨_, rfl⟩
  rw [← hys] at h2 ⊢
  obtain ⟨Ax, cx, hx⟩ := Kd.R_slice hrow
  rw [hx] at hrow hcn
  have ec : p + 1 ≤ cap := by
    obtain ⟨A, c, e, hle, _⟩ := Kd.R_reads hS.out
    injection e with _ e1 e2
    rw [e2, hS.len, hn] at *
    omega
  have K := Aside0.mk hK
  have S := Aside0.mk hS
  have G := Aside0.mk hg
  have BB := Aside0.mk hB
  have N1 := Aside0.mk h1
  have N2 := Aside0.mk h2
  have N3 := Aside0.mk h3
  have RR := Aside0.mk hrow
  have HN := Aside0.mk hn
  have XS := Aside0.mk hxs
  have YS := Aside0.mk hys
  have HX := Aside0.mk hx
  have BS := Aside0.mk (show base ≤ w.heap.size by have := blk_lt hK; omega)
  have e1 := Aside0.mk (show wrap64 (p : Int) = (p : Int) by unfold wrap64; omega)
  have k0 : w.cell? ⟨g, 0, none⟩ = some (.slice (some ⟨L, 0, none⟩) (p + 1) cap) := (blk_cell hK 0).trans rfl
  have k1 : w.cell? ⟨L, p, none⟩ = some (.slice Ax xs.length cx) := hcn.1
  have q1 : ((p : Int) < (p : Int) + 1) = True := eq_true (by omega)
  have q2 : (0 ≤ (p : Int)) = True := eq_true (by omega)
  have q3 : ((p : Int) ≤ (cap : Int)) = True := eq_true (by omega)
  have q4 : ((p : Int) = 0) = False := eq_false (by omega)
  clear hp hK hS hg hB h1 h2 h3 hcl hLt hL hn hrow hxs hys hx hcn ec
  have q5 : ((p : Int) == 0) = false := by
    rw [beq_eq_false_iff_ne]
    have := hpm.out
    omega
  have hAL := Aside0.mk (show ∀ k, ((Apt hs p k ∧ some k ≠ (Value.slice Ax xs.length cx).ownBlock) ∨ w.heap.size ≤ k) → Alr (hs.take p) k from by
    rintro k hk j hj
    have hj1 : j < p ∧ j < hs.length := by rw [List.length_take] at hj; omega
    have e : hv (hs.take p) j = hv hs j := by simp [hv, List.getD_eq_getElem?_getD, List.getElem?_take, hj1.1]
    rw [e]
    rcases hk with hk | hk
    · exact hk.1 j (by omega) hj1.2
    · exact S.out.lt k hk j hj1.2)
  go_enter Tryd.func28, Tryd.ntmps28
  go_wp2_with (first | (rw [e1.out]) | (go_at_call 29; refine (clone29 RR.out BS.out (by have := N3.out; omega)).mono ?_; rintro e w1 ⟨v1, rfl, hR, hb⟩; obtain ⟨A1, c1, rfl⟩ := Kd.R_slice hR; have R1 := Aside0.mk hR; have B1 := Aside0.mk hb; have S1 := Aside0.mk (S.out.below hb); have K1 := Aside0.mk (blk_below K.out hb); clear hR hb k0 k1) | ((with_reducible refine gate_dst (N := 4) rfl ?_); refine box_event ?hg (N := 4) ?hd (cs := #[.int .i64 0, .int .i64 0, .string ⟨#[]⟩, .slice none 0 0]) (t := 42) ?hr ?_; (case hd => rfl); (case hg => rfl); (case hr => first | (go_simp; done) | (go_simp; rfl)); intro gf hgf w2 hbox hb; have KF := Aside0.mk hbox; have GF := Aside0.mk hgf; have B2 := Aside0.mk hb; clear hbox hb hgf; have c0 : w2.cell? ⟨gf, 0, none⟩ = some (.int .i64 0) := (blk_cell KF.out 0).trans rfl; have c1 : w2.cell? ⟨gf, 1, none⟩ = some (.int .i64 0) := (blk_cell KF.out 1).trans rfl; have c2 : w2.cell? ⟨gf, 2, none⟩ = some (.string ⟨#[]⟩) := (blk_cell KF.out 2).trans rfl; have c3 : w2.cell? ⟨gf, 3, none⟩ = some (.slice none 0 0) := (blk_cell KF.out 3).trans rfl; have cf0 := blk_frozen KF.out 0; have cf1 := blk_frozen KF.out 1; have cf2 := blk_frozen KF.out 2; have cf3 := blk_frozen KF.out 3) | ((with_reducible refine gate_ (.store 42 (.tmp 4) (.tmp 21)) rfl ?_); refine store_event (w1 := ?inw) rfl rfl rfl ?hr ?_; (case hr => go_simp; rfl); intro w3 hw3; clear c0 c1 c2 c3 cf0 cf1 cf2 cf3; have F3 : Aside0 (w3.heap[gf]? = some (.cells #[.int .i64 3, .int .i64 0, .string ⟨#[]⟩, .slice A1 xs.length c1] 42 (0, 0))) := ⟨(by rw [hw3]; exact (blk_put (cs := #[.int .i64 3, .int .i64 0, .string ⟨#[]⟩, .slice none 0 0]) (blk_put (cs := #[.int .i64 3, .int .i64 0, .string ⟨#[]⟩, .slice none 0 0]) (blk_put (cs := #[.int .i64 3, .int .i64 0, .string ⟨#[]⟩, .slice none 0 0]) (blk_put KF.out 0 (.int .i64 3) rfl) 1 (.int .i64 0) rfl) 2 (.string ⟨#[]⟩) rfl) 3 (.slice A1 xs.length c1) rfl))⟩; have B3 : Aside0 (Below w1.heap.size w1 w3) := ⟨(by rw [hw3]; exact below_set (below_set (below_set (below_set B2.out (Nat.le_of_eq GF.out.symm)) (Nat.le_of_eq GF.out.symm)) (Nat.le_of_eq GF.out.symm)) (Nat.le_of_eq GF.out.symm))⟩; clear hw3 KF; have K3 := Aside0.mk (blk_below K1.out B3.out); have k3 : w3.cell? ⟨g, 0, none⟩ = some (.slice (some ⟨L, 0, none⟩) (p + 1) cap) := (blk_cell K3.out 0).trans rfl; have kf3 := blk_frozen K3.out 0) | ((with_reducible refine gate_ (.store 57 (.tmp 30) (.tmp 28)) rfl ?_); refine store_event (w1 := ?inw2) rfl rfl rfl ?hr ?_; (case hr => go_simp; rfl); intro w4 hw4; clear k3 kf3; have NE : gf ≠ g := (by rintro rfl; have h_ := F3.out; rw [K3.out] at h_; injection h_ with h_; injection h_ with _ h_; exact absurd h_ (by decide)); have K4 : Aside0 (w4.heap[g]? = some (.cells #[.slice (some ⟨L, 0, none⟩) p cap] 59 (0, 0))) := ⟨(by rw [hw4]; exact blk_put K3.out 0 _ rfl)⟩; have F4 : Aside0 (w4.heap[gf]? = some (.cells #[.int .i64 3, .int .i64 0, .string ⟨#[]⟩, .slice A1 xs.length c1] 42 (0, 0))) := ⟨(by rw [hw4]; exact blk_far F3.out NE _)⟩; have S4 : Aside0 (Stk w4 base (.slice (some ⟨L, 0, none⟩) p cap) (hs.take p) (rows.take p)) := ⟨(by rw [hw4]; exact ((S1.out.below B3.out).pop (by rw [HN.out]; omega)).set_box K3.out (by decide) (by decide) _ _)⟩; have R4 : Aside0 (Kd.R k42 42 w4 base (Alr (hs.take p)) (.slice A1 xs.length c1) xs) := ⟨(by rw [hw4]; exact Kd.R_set (Kd.R_below (Kd.R_mono R1.out (fun k hk => hAL.out k hk)) B3.out) K3.out (e42 59 (by decide)) _ _)⟩; have B4 : Aside0 (Below base w0 w4) := ⟨(by rw [hw4]; exact Below.setCell (p := ⟨g, 0, none⟩) ((BB.out.trans (B1.out.mono BS.out)).trans (B3.out.mono (Nat.le_trans BS.out B1.out.size))) G.out _)⟩; have T4 : Aside0 (KT w w4) := ⟨(by rw [hw4]; exact ((KT.of_below B1.out).trans (KT.of_below B3.out)).trans (KT.set K3.out (by decide) _ _))⟩; clear hw4 NE F3 K3 B3; have c0 : w4.cell? ⟨gf, 0, none⟩ = some (.int .i64 3) := (blk_cell F4.out 0).trans rfl; have c1_ : w4.cell? ⟨gf, 1, none⟩ = some (.int .i64 0) := (blk_cell F4.out 1).trans rfl; have c2 : w4.cell? ⟨gf, 2, none⟩ = some (.string ⟨#[]⟩) := (blk_cell F4.out 2).trans rfl; have c3 : w4.cell? ⟨gf, 3, none⟩ = some (.slice A1 xs.length c1) := (blk_cell F4.out 3).trans rfl) | (go_at_call 26; refine (add26 (f := ⟨3, 0, ⟨#[]⟩, xs⟩) (n := m) K4.out G.out S4.out B4.out (by rw [List.length_take, HN.out]; have := hpm.out; omega) (by rw [List.length_take, HN.out]; have := N1.out; omega) (by rw [show (rows.take p).getD m [] = ys by rw [YS.out]; simp [List.getD_eq_getElem?_getD, List.getElem?_take, hpm.out]]; exact N2.out) R4.out).mono ?_; rintro e w5 ⟨rfl, ⟨h1, hs5, h2⟩, h3, h4⟩; rw [show (rows.take p).getD m [] = ys by rw [YS.out]; simp [List.getD_eq_getElem?_getD, List.getElem?_take, hpm.out]] at h2; have E5 := Aside0.mk (show St w5 base g ((rows.take p).set m (ys ++ [⟨3, 0, ⟨#[]⟩, xs⟩])) ∧ Below base w0 w5 ∧ KT w w5 from ⟨⟨_, hs5, h1, G.out, h2⟩, h3, T4.out.trans h4⟩); clear h1 h2 h3 h4))
  go_ret
  exact ⟨by first | rfl | (simp; done) | (simp [*]; done), E5.out⟩
end Go.Proofs.YtkkmgahgejjhgaaDoor.Frm
