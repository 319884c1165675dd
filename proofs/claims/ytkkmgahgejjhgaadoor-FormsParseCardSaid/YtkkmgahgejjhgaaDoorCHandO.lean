/- Package lex: next: the token at the front of a string that is not empty, and how many bytes it has, or why there is none. -/
import Derived.Test.YtkkmgahgejjhgaaDoorCHandN
namespace Go.Proofs.YtkkmgahgejjhgaaDoor.Lex
open Go.RowKit Go.Proofs.YtkkmgahgejjhgaaDoor.P Go.Proofs.YtkkmgahgejjhgaaDoorW.PrintWords Go.Proofs.YtkkmgahgejjhgaaDoorW.PrintLast Go.Proofs.YtkkmgahgejjhgaaDoorW.PrintMore
set_option linter.unusedVariables false
set_option linter.unusedSimpArgs false
theorem txt_of (s : ByteArray) (n : Nat) : txt 3 (lst s) n = s.extract 0 n := by
  apply lst_inj
  rw [lst_upto]
  unfold txt
  rw [if_pos rfl]
  simp [lst]
theorem txt_none (k : Int) (h : k ≠ 3) (l : List UInt8) (n : Nat) : txt k l n = ⟨#[]⟩ := by
  unfold txt
  rw [if_neg h]
theorem b0 (s : ByteArray) (h0 : 0 < s.size) : (s[0].toNat : Int) = nb (lst s) 0 := (bt_at s 0 h0).trans (bt_nb s 0)
/-- What next answers. -/
def nx (s : ByteArray) : Value := .tuple #[.agg #[.int .i64 (nextT (lst s)).1, .int .i64 (nextT (lst s)).2.1, .int .i64 0, .string (txt (nextT (lst s)).1 (lst s) (nextT (lst s)).2.2.1)], .int .i64 ((nextT (lst s)).2.2.1 : Nat), .int .i64 (nextT (lst s)).2.2.2]
theorem nx_of {s : ByteArray} {k n e : Int} {m : Nat} (h : nextT (lst s) = (k, n, m, e)) : nx s = .tuple #[.agg #[.int .i64 k, .int .i64 n, .int .i64 0, .string (txt k (lst s) m)], .int .i64 (m : Nat), .int .i64 e] := by
  unfold nx
  rw [h]
set_option maxHeartbeats 8000000 in
set_option maxRecDepth 100000 in
theorem next_open (s : ByteArray) (hs : s.size ≤ 4000) (h0 : 0 < s.size) (h : nb (lst s) 0 = 40) (w : World) : Calls Tryd.prog 38 #[.string s] w fun e w' => e = .returned (nx s) ∧ Below w.heap.size w w' := by
  have f1 : ((0 : Int) < (s.size : Int)) = True := eq_true (by omega)
  have f2 : (0 < s.size) = True := eq_true h0
  have f3 : ((1 : Int) ≤ (s.size : Int)) = True := eq_true (by omega)
  have f4 : (1 ≤ s.size) = True := eq_true h0
  have hb := b0 s h0
  have c40 : ((s[0].toNat : Int) == 40) = true := by rw [hb]; simp [h]
  have H := Aside0.mk h
  clear hb h
  have FIN : Aside0 (Ending.returned (.tuple #[.agg #[.int .i64 1, .int .i64 0, .int .i64 0, .string (⟨#[]⟩ : ByteArray)], .int .i64 1, .int .i64 0]) = .returned (nx s)) := ⟨by
    rw [nx_of (k := 1) (n := 0) (m := 1) (e := 0) (by unfold nextT; rw [if_pos H.out])]
    rw [txt_none 1 (by decide)]; rfl⟩

  go_enter Tryd.func38, Tryd.ntmps38
  go_wp2_with (first | ((with_reducible refine gate_dst (N := 2) rfl ?_); refine box_event ?hg (N := 2) ?hd (cs := #[.int .i64 0, .int .i64 0, .int .i64 0, .string ⟨#[]⟩]) (t := 63) ?hr ?_; (case hd => rfl); (case hg => rfl); (case hr => first | (go_simp; done) | (go_simp; rfl)); intro g hg w2 hbox hb; have K6 := Aside0.mk hbox; have B6 := Aside0.mk hb; have G6 := Aside0.mk hg; clear hbox hb hg; have k0 := (blk_cell K6.out 0).trans rfl; have k1 := (blk_cell K6.out 1).trans rfl; have k2 := (blk_cell K6.out 2).trans rfl; have k3 := (blk_cell K6.out 3).trans rfl; have kf0 := blk_frozen K6.out 0; have kf1 := blk_frozen K6.out 1; have kf2 := blk_frozen K6.out 2; have kf3 := blk_frozen K6.out 3))
  have K8 := Aside0.mk (blk_put (blk_put (blk_put (blk_put K6.out 0 (.int .i64 1) rfl) 1 (.int .i64 0) rfl) 2 (.int .i64 0) rfl) 3 (.string (⟨#[]⟩ : ByteArray)) rfl)
  clear k0 k1 k2 k3
  have m0 := (blk_cell K8.out 0).trans rfl
  have m1 := (blk_cell K8.out 1).trans rfl
  have m2 := (blk_cell K8.out 2).trans rfl
  have m3 := (blk_cell K8.out 3).trans rfl
  have hu29b := Tryd.underlying63
  refine bodyPost_ret (v := .tuple #[.agg #[.int .i64 1, .int .i64 0, .int .i64 0, .string (⟨#[]⟩ : ByteArray)], .int .i64 1, .int .i64 0]) (by simp [results, Tryd.results38, go_sem, hu29b, m0, m1, m2, m3]) rfl ⟨?_, ?_⟩
  · exact FIN.out
  · exact below_set (below_set (below_set (below_set B6.out (by rw [G6.out]; exact Nat.le_refl _)) (by rw [G6.out]; exact Nat.le_refl _)) (by rw [G6.out]; exact Nat.le_refl _)) (by rw [G6.out]; exact Nat.le_refl _)
  
set_option maxHeartbeats 8000000 in
set_option maxRecDepth 100000 in
theorem next_close (s : ByteArray) (hs : s.size ≤ 4000) (h0 : 0 < s.size) (h : nb (lst s) 0 = 41) (w : World) : Calls Tryd.prog 38 #[.string s] w fun e w' => e = .returned (nx s) ∧ Below w.heap.size w w' := by
  have f1 : ((0 : Int) < (s.size : Int)) = True := eq_true (by omega)
  have f2 : (0 < s.size) = True := eq_true h0
  have f3 : ((1 : Int) ≤ (s.size : Int)) = True := eq_true (by omega)
  have f4 : (1 ≤ s.size) = True := eq_true h0
  have hb := b0 s h0
  have c40 : ((s[0].toNat : Int) == 40) = false := by rw [hb]; simp [h]
  have c41 : ((s[0].toNat : Int) == 41) = true := by rw [hb]; simp [h]
  have H := Aside0.mk h
  clear hb h
  have FIN : Aside0 (Ending.returned (.tuple #[.agg #[.int .i64 2, .int .i64 0, .int .i64 0, .string (⟨#[]⟩ : ByteArray)], .int .i64 1, .int .i64 0]) = .returned (nx s)) := ⟨by
    rw [nx_of (k := 2) (n := 0) (m := 1) (e := 0) (by unfold nextT; rw [if_neg (by rw [H.out]; decide), if_pos H.out])]
    rw [txt_none 2 (by decide)]; rfl⟩

  go_enter Tryd.func38, Tryd.ntmps38
  go_wp2_with (first | ((with_reducible refine gate_dst (N := 2) rfl ?_); refine box_event ?hg (N := 2) ?hd (cs := #[.int .i64 0, .int .i64 0, .int .i64 0, .string ⟨#[]⟩]) (t := 63) ?hr ?_; (case hd => rfl); (case hg => rfl); (case hr => first | (go_simp; done) | (go_simp; rfl)); intro g hg w2 hbox hb; have K6 := Aside0.mk hbox; have B6 := Aside0.mk hb; have G6 := Aside0.mk hg; clear hbox hb hg; have k0 := (blk_cell K6.out 0).trans rfl; have k1 := (blk_cell K6.out 1).trans rfl; have k2 := (blk_cell K6.out 2).trans rfl; have k3 := (blk_cell K6.out 3).trans rfl; have kf0 := blk_frozen K6.out 0; have kf1 := blk_frozen K6.out 1; have kf2 := blk_frozen K6.out 2; have kf3 := blk_frozen K6.out 3))
  have K8 := Aside0.mk (blk_put (blk_put (blk_put (blk_put K6.out 0 (.int .i64 2) rfl) 1 (.int .i64 0) rfl) 2 (.int .i64 0) rfl) 3 (.string (⟨#[]⟩ : ByteArray)) rfl)
  clear k0 k1 k2 k3
  have m0 := (blk_cell K8.out 0).trans rfl
  have m1 := (blk_cell K8.out 1).trans rfl
  have m2 := (blk_cell K8.out 2).trans rfl
  have m3 := (blk_cell K8.out 3).trans rfl
  have hu29b := Tryd.underlying63
  refine bodyPost_ret (v := .tuple #[.agg #[.int .i64 2, .int .i64 0, .int .i64 0, .string (⟨#[]⟩ : ByteArray)], .int .i64 1, .int .i64 0]) (by simp [results, Tryd.results38, go_sem, hu29b, m0, m1, m2, m3]) rfl ⟨?_, ?_⟩
  · exact FIN.out
  · exact below_set (below_set (below_set (below_set B6.out (by rw [G6.out]; exact Nat.le_refl _)) (by rw [G6.out]; exact Nat.le_refl _)) (by rw [G6.out]; exact Nat.le_refl _)) (by rw [G6.out]; exact Nat.le_refl _)
  
set_option maxHeartbeats 8000000 in
set_option maxRecDepth 100000 in
theorem next_star (s : ByteArray) (hs : s.size ≤ 4000) (h0 : 0 < s.size) (h : nb (lst s) 0 = 42) (w : World) : Calls Tryd.prog 38 #[.string s] w fun e w' => e = .returned (nx s) ∧ Below w.heap.size w w' := by
  have f1 : ((0 : Int) < (s.size : Int)) = True := eq_true (by omega)
  have f2 : (0 < s.size) = True := eq_true h0
  have f3 : ((1 : Int) ≤ (s.size : Int)) = True := eq_true (by omega)
  have f4 : (1 ≤ s.size) = True := eq_true h0
  have hb := b0 s h0
  have c40 : ((s[0].toNat : Int) == 40) = false := by rw [hb]; simp [h]
  have c41 : ((s[0].toNat : Int) == 41) = false := by rw [hb]; simp [h]
  have c42 : ((s[0].toNat : Int) == 42) = true := by rw [hb]; simp [h]
  have H := Aside0.mk h
  clear hb h
  have FIN : Aside0 (Ending.returned (.tuple #[.agg #[.int .i64 3, .int .i64 0, .int .i64 0, .string (s.extract 0 1)], .int .i64 1, .int .i64 0]) = .returned (nx s)) := ⟨by
    rw [nx_of (k := 3) (n := 0) (m := 1) (e := 0) (by unfold nextT; rw [if_neg (by rw [H.out]; decide), if_neg (by rw [H.out]; decide), if_pos H.out])]
    rw [txt_of]; rfl⟩

  go_enter Tryd.func38, Tryd.ntmps38
  go_wp2_with (first | ((with_reducible refine gate_dst (N := 2) rfl ?_); refine box_event ?hg (N := 2) ?hd (cs := #[.int .i64 0, .int .i64 0, .int .i64 0, .string ⟨#[]⟩]) (t := 63) ?hr ?_; (case hd => rfl); (case hg => rfl); (case hr => first | (go_simp; done) | (go_simp; rfl)); intro g hg w2 hbox hb; have K6 := Aside0.mk hbox; have B6 := Aside0.mk hb; have G6 := Aside0.mk hg; clear hbox hb hg; have k0 := (blk_cell K6.out 0).trans rfl; have k1 := (blk_cell K6.out 1).trans rfl; have k2 := (blk_cell K6.out 2).trans rfl; have k3 := (blk_cell K6.out 3).trans rfl; have kf0 := blk_frozen K6.out 0; have kf1 := blk_frozen K6.out 1; have kf2 := blk_frozen K6.out 2; have kf3 := blk_frozen K6.out 3))
  have K8 := Aside0.mk (blk_put (blk_put (blk_put (blk_put K6.out 0 (.int .i64 3) rfl) 1 (.int .i64 0) rfl) 2 (.int .i64 0) rfl) 3 (.string (s.extract 0 1)) rfl)
  clear k0 k1 k2 k3
  have m0 := (blk_cell K8.out 0).trans rfl
  have m1 := (blk_cell K8.out 1).trans rfl
  have m2 := (blk_cell K8.out 2).trans rfl
  have m3 := (blk_cell K8.out 3).trans rfl
  have hu29b := Tryd.underlying63
  refine bodyPost_ret (v := .tuple #[.agg #[.int .i64 3, .int .i64 0, .int .i64 0, .string (s.extract 0 1)], .int .i64 1, .int .i64 0]) (by simp [results, Tryd.results38, go_sem, hu29b, m0, m1, m2, m3]) rfl ⟨?_, ?_⟩
  · exact FIN.out
  · exact below_set (below_set (below_set (below_set B6.out (by rw [G6.out]; exact Nat.le_refl _)) (by rw [G6.out]; exact Nat.le_refl _)) (by rw [G6.out]; exact Nat.le_refl _)) (by rw [G6.out]; exact Nat.le_refl _)
  
set_option maxHeartbeats 8000000 in
set_option maxRecDepth 100000 in
theorem next_arrow (s : ByteArray) (hs : s.size ≤ 4000) (h0 : 0 < s.size) (h1 : ¬ nb (lst s) 0 = 40) (h2 : ¬ nb (lst s) 0 = 41) (h3 : ¬ nb (lst s) 0 = 42) (h : nb (lst s) 0 = 45 ∧ 1 < (lst s).length ∧ nb (lst s) 1 = 62) (w : World) : Calls Tryd.prog 38 #[.string s] w fun e w' => e = .returned (nx s) ∧ Below w.heap.size w w' := by
  have f1 : ((0 : Int) < (s.size : Int)) = True := eq_true (by omega)
  have f2 : (0 < s.size) = True := eq_true h0
  have f3 : ((1 : Int) ≤ (s.size : Int)) = True := eq_true (by omega)
  have f4 : (1 ≤ s.size) = True := eq_true h0
  have hb := b0 s h0
  have c40 : ((s[0].toNat : Int) == 40) = false := by rw [hb]; simp [h1]
  have c41 : ((s[0].toNat : Int) == 41) = false := by rw [hb]; simp [h2]
  have c42 : ((s[0].toNat : Int) == 42) = false := by rw [hb]; simp [h3]
  have H1 := Aside0.mk h1
  have H2 := Aside0.mk h2
  have H3 := Aside0.mk h3
  clear hb h1 h2 h3
  have HP := Aside0.mk (fun w => X.strings_HasPrefix.calls s ⟨#[45, 62]⟩ true w (by rw [has_f]; exact congrArg some (decide_eq_true ((arrow s).2 h))))
  have g2 : 2 ≤ s.size := ((arrow s).2 h).1
  have f5 : ((2 : Int) ≤ (s.size : Int)) = True := eq_true (by omega)
  have f6 : (2 ≤ s.size) = True := eq_true g2
  have H := Aside0.mk h
  clear h g2
  have FIN : Aside0 (Ending.returned (.tuple #[.agg #[.int .i64 3, .int .i64 0, .int .i64 0, .string (s.extract 0 2)], .int .i64 2, .int .i64 0]) = .returned (nx s)) := ⟨by
    rw [nx_of (k := 3) (n := 0) (m := 2) (e := 0) (by unfold nextT; rw [if_neg H1.out, if_neg H2.out, if_neg H3.out, if_pos H.out])]
    rw [txt_of]; rfl⟩

  go_enter Tryd.func38, Tryd.ntmps38
  go_wp2_with (first | ((with_reducible refine gate_dst (N := 2) rfl ?_); refine box_event ?hg (N := 2) ?hd (cs := #[.int .i64 0, .int .i64 0, .int .i64 0, .string ⟨#[]⟩]) (t := 63) ?hr ?_; (case hd => rfl); (case hg => rfl); (case hr => first | (go_simp; done) | (go_simp; rfl)); intro g hg w2 hbox hb; have K6 := Aside0.mk hbox; have B6 := Aside0.mk hb; have G6 := Aside0.mk hg; clear hbox hb hg; have k0 := (blk_cell K6.out 0).trans rfl; have k1 := (blk_cell K6.out 1).trans rfl; have k2 := (blk_cell K6.out 2).trans rfl; have k3 := (blk_cell K6.out 3).trans rfl; have kf0 := blk_frozen K6.out 0; have kf1 := blk_frozen K6.out 1; have kf2 := blk_frozen K6.out 2; have kf3 := blk_frozen K6.out 3) | (go_at_call 53; (with_reducible refine (HP.out _).mono ?_); rintro e w' ⟨rfl, rfl⟩))
  have K8 := Aside0.mk (blk_put (blk_put (blk_put (blk_put K6.out 0 (.int .i64 3) rfl) 1 (.int .i64 0) rfl) 2 (.int .i64 0) rfl) 3 (.string (s.extract 0 2)) rfl)
  clear k0 k1 k2 k3
  have m0 := (blk_cell K8.out 0).trans rfl
  have m1 := (blk_cell K8.out 1).trans rfl
  have m2 := (blk_cell K8.out 2).trans rfl
  have m3 := (blk_cell K8.out 3).trans rfl
  have hu29b := Tryd.underlying63
  refine bodyPost_ret (v := .tuple #[.agg #[.int .i64 3, .int .i64 0, .int .i64 0, .string (s.extract 0 2)], .int .i64 2, .int .i64 0]) (by simp [results, Tryd.results38, go_sem, hu29b, m0, m1, m2, m3]) rfl ⟨?_, ?_⟩
  · exact FIN.out
  · exact below_set (below_set (below_set (below_set B6.out (by rw [G6.out]; exact Nat.le_refl _)) (by rw [G6.out]; exact Nat.le_refl _)) (by rw [G6.out]; exact Nat.le_refl _)) (by rw [G6.out]; exact Nat.le_refl _)
  
set_option maxHeartbeats 8000000 in
set_option maxRecDepth 100000 in
theorem next_long (s : ByteArray) (hs : s.size ≤ 4000) (h0 : 0 < s.size) (h1 : ¬ nb (lst s) 0 = 40) (h2 : ¬ nb (lst s) 0 = 41) (h3 : ¬ nb (lst s) 0 = 42) (h4 : ¬ (nb (lst s) 0 = 45 ∧ 1 < (lst s).length ∧ nb (lst s) 1 = 62)) (h5 : pFront (nb (lst s) 0) = true) (h : spn pInner (lst s) > 20) (w : World) : Calls Tryd.prog 38 #[.string s] w fun e w' => e = .returned (nx s) ∧ Below w.heap.size w w' := by
  have f1 : ((0 : Int) < (s.size : Int)) = True := eq_true (by omega)
  have f2 : (0 < s.size) = True := eq_true h0
  have f3 : ((1 : Int) ≤ (s.size : Int)) = True := eq_true (by omega)
  have f4 : (1 ≤ s.size) = True := eq_true h0
  have hb := b0 s h0
  have c40 : ((s[0].toNat : Int) == 40) = false := by rw [hb]; simp [h1]
  have c41 : ((s[0].toNat : Int) == 41) = false := by rw [hb]; simp [h2]
  have c42 : ((s[0].toNat : Int) == 42) = false := by rw [hb]; simp [h3]
  have H1 := Aside0.mk h1
  have H2 := Aside0.mk h2
  have H3 := Aside0.mk h3
  have HP := Aside0.mk (fun w => X.strings_HasPrefix.calls s ⟨#[45, 62]⟩ false w (by rw [has_f]; exact congrArg some (decide_eq_false (fun h => h4 ((arrow s).1 h)))))
  have H4 := Aside0.mk h4
  have FR := Aside0.mk (fun w => callP28 (s[0].toNat : Int) w)
  clear h1 h2 h3 h4
  rw [hb, h5, ← hb] at FR
  have H5 := Aside0.mk h5
  clear hb h5
  obtain ⟨k, hk⟩ : ∃ k, k = spn pInner (lst s) := ⟨_, rfl⟩
  have SP := Aside0.mk (fun w => span29 s hs w)
  rw [← hk] at SP
  rw [← hk] at h
  have kl : k ≤ s.size := by have := spn_le pInner (lst s); rw [lst_len] at this; omega
  have HK := Aside0.mk hk
  have g1 : ((k : Int) > 20) = True := eq_true (by omega)
  have g2 : (20 < k) = True := eq_true h
  have g3 : ((20 : Int) < (k : Int)) = True := eq_true (by omega)
  have H := Aside0.mk h
  clear h hk kl
  have FIN : Aside0 (Ending.returned (.tuple #[.agg #[.int .i64 0, .int .i64 0, .int .i64 0, .string (⟨#[]⟩ : ByteArray)], .int .i64 0, .int .i64 4]) = .returned (nx s)) := ⟨by
    rw [nx_of (k := 0) (n := 0) (m := 0) (e := 4) (by unfold nextT; rw [if_neg H1.out, if_neg H2.out, if_neg H3.out, if_neg H4.out, if_pos H5.out, ← HK.out, if_pos H.out])]
    rw [txt_none 0 (by decide)]; rfl⟩

  go_enter Tryd.func38, Tryd.ntmps38
  go_wp2_with (first | ((with_reducible refine gate_dst (N := 2) rfl ?_); refine box_event ?hg (N := 2) ?hd (cs := #[.int .i64 0, .int .i64 0, .int .i64 0, .string ⟨#[]⟩]) (t := 63) ?hr ?_; (case hd => rfl); (case hg => rfl); (case hr => first | (go_simp; done) | (go_simp; rfl)); intro g hg w2 hbox hb; have K6 := Aside0.mk hbox; have B6 := Aside0.mk hb; have G6 := Aside0.mk hg; clear hbox hb hg; have k0 := (blk_cell K6.out 0).trans rfl; have k1 := (blk_cell K6.out 1).trans rfl; have k2 := (blk_cell K6.out 2).trans rfl; have k3 := (blk_cell K6.out 3).trans rfl; have kf0 := blk_frozen K6.out 0; have kf1 := blk_frozen K6.out 1; have kf2 := blk_frozen K6.out 2; have kf3 := blk_frozen K6.out 3) | (go_at_call 53; (with_reducible refine (HP.out _).mono ?_); rintro e w' ⟨rfl, rfl⟩) | (go_at_call 54; (with_reducible refine (FR.out _).mono ?_); rintro e w' ⟨rfl, rfl⟩) | (go_at_call 50; (with_reducible refine (SP.out _).mono ?_); rintro e w' ⟨rfl, rfl⟩))
  have K8 := Aside0.mk (blk_put (blk_put (blk_put (blk_put K6.out 0 (.int .i64 0) rfl) 1 (.int .i64 0) rfl) 2 (.int .i64 0) rfl) 3 (.string (⟨#[]⟩ : ByteArray)) rfl)
  clear k0 k1 k2 k3
  have m0 := (blk_cell K8.out 0).trans rfl
  have m1 := (blk_cell K8.out 1).trans rfl
  have m2 := (blk_cell K8.out 2).trans rfl
  have m3 := (blk_cell K8.out 3).trans rfl
  have hu29b := Tryd.underlying63
  refine bodyPost_ret (v := .tuple #[.agg #[.int .i64 0, .int .i64 0, .int .i64 0, .string (⟨#[]⟩ : ByteArray)], .int .i64 0, .int .i64 4]) (by simp [results, Tryd.results38, go_sem, hu29b, m0, m1, m2, m3]) rfl ⟨?_, ?_⟩
  · exact FIN.out
  · exact below_set (below_set (below_set (below_set B6.out (by rw [G6.out]; exact Nat.le_refl _)) (by rw [G6.out]; exact Nat.le_refl _)) (by rw [G6.out]; exact Nat.le_refl _)) (by rw [G6.out]; exact Nat.le_refl _)
  
set_option maxHeartbeats 8000000 in
set_option maxRecDepth 100000 in
theorem next_name (s : ByteArray) (hs : s.size ≤ 4000) (h0 : 0 < s.size) (h1 : ¬ nb (lst s) 0 = 40) (h2 : ¬ nb (lst s) 0 = 41) (h3 : ¬ nb (lst s) 0 = 42) (h4 : ¬ (nb (lst s) 0 = 45 ∧ 1 < (lst s).length ∧ nb (lst s) 1 = 62)) (h5 : pFront (nb (lst s) 0) = true) (h : ¬ spn pInner (lst s) > 20) (w : World) : Calls Tryd.prog 38 #[.string s] w fun e w' => e = .returned (nx s) ∧ Below w.heap.size w w' := by
  have f1 : ((0 : Int) < (s.size : Int)) = True := eq_true (by omega)
  have f2 : (0 < s.size) = True := eq_true h0
  have f3 : ((1 : Int) ≤ (s.size : Int)) = True := eq_true (by omega)
  have f4 : (1 ≤ s.size) = True := eq_true h0
  have hb := b0 s h0
  have c40 : ((s[0].toNat : Int) == 40) = false := by rw [hb]; simp [h1]
  have c41 : ((s[0].toNat : Int) == 41) = false := by rw [hb]; simp [h2]
  have c42 : ((s[0].toNat : Int) == 42) = false := by rw [hb]; simp [h3]
  have H1 := Aside0.mk h1
  have H2 := Aside0.mk h2
  have H3 := Aside0.mk h3
  have HP := Aside0.mk (fun w => X.strings_HasPrefix.calls s ⟨#[45, 62]⟩ false w (by rw [has_f]; exact congrArg some (decide_eq_false (fun h => h4 ((arrow s).1 h)))))
  have H4 := Aside0.mk h4
  have FR := Aside0.mk (fun w => callP28 (s[0].toNat : Int) w)
  clear h1 h2 h3 h4
  rw [hb, h5, ← hb] at FR
  have H5 := Aside0.mk h5
  clear hb h5
  obtain ⟨k, hk⟩ : ∃ k, k = spn pInner (lst s) := ⟨_, rfl⟩
  have SP := Aside0.mk (fun w => span29 s hs w)
  rw [← hk] at SP
  rw [← hk] at h
  have kl : k ≤ s.size := by have := spn_le pInner (lst s); rw [lst_len] at this; omega
  have HK := Aside0.mk hk
  have g1 : ((k : Int) > 20) = False := eq_false (by omega)
  have g2 : (20 < k) = False := eq_false h
  have g3 : ((20 : Int) < (k : Int)) = False := eq_false (by omega)
  have g4 : ((k : Int) ≤ (s.size : Int)) = True := eq_true (by omega)
  have g5 : (k ≤ s.size) = True := eq_true kl
  have g6 : (0 ≤ (k : Int)) = True := eq_true (by omega)
  have H := Aside0.mk h
  clear h hk kl
  have FIN : Aside0 (Ending.returned (.tuple #[.agg #[.int .i64 3, .int .i64 0, .int .i64 0, .string (s.extract 0 k)], .int .i64 (k : Int), .int .i64 0]) = .returned (nx s)) := ⟨by
    rw [nx_of (k := 3) (n := 0) (m := k) (e := 0) (by unfold nextT; rw [if_neg H1.out, if_neg H2.out, if_neg H3.out, if_neg H4.out, if_pos H5.out, ← HK.out, if_neg H.out])]
    rw [txt_of]⟩

  go_enter Tryd.func38, Tryd.ntmps38
  go_wp2_with (first | ((with_reducible refine gate_dst (N := 2) rfl ?_); refine box_event ?hg (N := 2) ?hd (cs := #[.int .i64 0, .int .i64 0, .int .i64 0, .string ⟨#[]⟩]) (t := 63) ?hr ?_; (case hd => rfl); (case hg => rfl); (case hr => first | (go_simp; done) | (go_simp; rfl)); intro g hg w2 hbox hb; have K6 := Aside0.mk hbox; have B6 := Aside0.mk hb; have G6 := Aside0.mk hg; clear hbox hb hg; have k0 := (blk_cell K6.out 0).trans rfl; have k1 := (blk_cell K6.out 1).trans rfl; have k2 := (blk_cell K6.out 2).trans rfl; have k3 := (blk_cell K6.out 3).trans rfl; have kf0 := blk_frozen K6.out 0; have kf1 := blk_frozen K6.out 1; have kf2 := blk_frozen K6.out 2; have kf3 := blk_frozen K6.out 3) | (go_at_call 53; (with_reducible refine (HP.out _).mono ?_); rintro e w' ⟨rfl, rfl⟩) | (go_at_call 54; (with_reducible refine (FR.out _).mono ?_); rintro e w' ⟨rfl, rfl⟩) | (go_at_call 50; (with_reducible refine (SP.out _).mono ?_); rintro e w' ⟨rfl, rfl⟩))
  have K8 := Aside0.mk (blk_put (blk_put (blk_put (blk_put K6.out 0 (.int .i64 3) rfl) 1 (.int .i64 0) rfl) 2 (.int .i64 0) rfl) 3 (.string (s.extract 0 k)) rfl)
  clear k0 k1 k2 k3
  have m0 := (blk_cell K8.out 0).trans rfl
  have m1 := (blk_cell K8.out 1).trans rfl
  have m2 := (blk_cell K8.out 2).trans rfl
  have m3 := (blk_cell K8.out 3).trans rfl
  have hu29b := Tryd.underlying63
  refine bodyPost_ret (v := .tuple #[.agg #[.int .i64 3, .int .i64 0, .int .i64 0, .string (s.extract 0 k)], .int .i64 (k : Int), .int .i64 0]) (by simp [results, Tryd.results38, go_sem, hu29b, m0, m1, m2, m3]) rfl ⟨?_, ?_⟩
  · exact FIN.out
  · exact below_set (below_set (below_set (below_set B6.out (by rw [G6.out]; exact Nat.le_refl _)) (by rw [G6.out]; exact Nat.le_refl _)) (by rw [G6.out]; exact Nat.le_refl _)) (by rw [G6.out]; exact Nat.le_refl _)
  
set_option maxHeartbeats 8000000 in
set_option maxRecDepth 100000 in
theorem next_none (s : ByteArray) (hs : s.size ≤ 4000) (h0 : 0 < s.size) (h1 : ¬ nb (lst s) 0 = 40) (h2 : ¬ nb (lst s) 0 = 41) (h3 : ¬ nb (lst s) 0 = 42) (h4 : ¬ (nb (lst s) 0 = 45 ∧ 1 < (lst s).length ∧ nb (lst s) 1 = 62)) (h5 : ¬ pFront (nb (lst s) 0) = true) (h : sgn (lst s) = 0) (w : World) : Calls Tryd.prog 38 #[.string s] w fun e w' => e = .returned (nx s) ∧ Below w.heap.size w w' := by
  have f1 : ((0 : Int) < (s.size : Int)) = True := eq_true (by omega)
  have f2 : (0 < s.size) = True := eq_true h0
  have f3 : ((1 : Int) ≤ (s.size : Int)) = True := eq_true (by omega)
  have f4 : (1 ≤ s.size) = True := eq_true h0
  have hb := b0 s h0
  have c40 : ((s[0].toNat : Int) == 40) = false := by rw [hb]; simp [h1]
  have c41 : ((s[0].toNat : Int) == 41) = false := by rw [hb]; simp [h2]
  have c42 : ((s[0].toNat : Int) == 42) = false := by rw [hb]; simp [h3]
  have H1 := Aside0.mk h1
  have H2 := Aside0.mk h2
  have H3 := Aside0.mk h3
  have HP := Aside0.mk (fun w => X.strings_HasPrefix.calls s ⟨#[45, 62]⟩ false w (by rw [has_f]; exact congrArg some (decide_eq_false (fun h => h4 ((arrow s).1 h)))))
  have H4 := Aside0.mk h4
  have FR := Aside0.mk (fun w => callP28 (s[0].toNat : Int) w)
  clear h1 h2 h3 h4
  have h5b : pFront (nb (lst s) 0) = false := by simpa using h5
  rw [hb, h5b, ← hb] at FR
  have H5 := Aside0.mk h5
  clear hb h5 h5b
  obtain ⟨m, hm⟩ : ∃ m, m = sgn (lst s) := ⟨_, rfl⟩
  have SG := Aside0.mk (fun w => signed30 s hs w)
  rw [← hm] at SG h
  have HM := Aside0.mk hm
  have H := Aside0.mk (hm.symm.trans h)
  subst h
  clear hm
  have FIN : Aside0 (Ending.returned (.tuple #[.agg #[.int .i64 0, .int .i64 0, .int .i64 0, .string (⟨#[]⟩ : ByteArray)], .int .i64 0, .int .i64 6]) = .returned (nx s)) := ⟨by
    rw [nx_of (k := 0) (n := 0) (m := 0) (e := 6) (by unfold nextT; rw [if_neg H1.out, if_neg H2.out, if_neg H3.out, if_neg H4.out, if_neg H5.out, if_pos H.out])]
    rw [txt_none 0 (by decide)]; rfl⟩

  go_enter Tryd.func38, Tryd.ntmps38
  go_wp2_with (first | ((with_reducible refine gate_dst (N := 2) rfl ?_); refine box_event ?hg (N := 2) ?hd (cs := #[.int .i64 0, .int .i64 0, .int .i64 0, .string ⟨#[]⟩]) (t := 63) ?hr ?_; (case hd => rfl); (case hg => rfl); (case hr => first | (go_simp; done) | (go_simp; rfl)); intro g hg w2 hbox hb; have K6 := Aside0.mk hbox; have B6 := Aside0.mk hb; have G6 := Aside0.mk hg; clear hbox hb hg; have k0 := (blk_cell K6.out 0).trans rfl; have k1 := (blk_cell K6.out 1).trans rfl; have k2 := (blk_cell K6.out 2).trans rfl; have k3 := (blk_cell K6.out 3).trans rfl; have kf0 := blk_frozen K6.out 0; have kf1 := blk_frozen K6.out 1; have kf2 := blk_frozen K6.out 2; have kf3 := blk_frozen K6.out 3) | (go_at_call 53; (with_reducible refine (HP.out _).mono ?_); rintro e w' ⟨rfl, rfl⟩) | (go_at_call 54; (with_reducible refine (FR.out _).mono ?_); rintro e w' ⟨rfl, rfl⟩) | (go_at_call 56; (with_reducible refine (SG.out _).mono ?_); rintro e w' ⟨rfl, rfl⟩))
  have K8 := Aside0.mk (blk_put (blk_put (blk_put (blk_put K6.out 0 (.int .i64 0) rfl) 1 (.int .i64 0) rfl) 2 (.int .i64 0) rfl) 3 (.string (⟨#[]⟩ : ByteArray)) rfl)
  clear k0 k1 k2 k3
  have m0 := (blk_cell K8.out 0).trans rfl
  have m1 := (blk_cell K8.out 1).trans rfl
  have m2 := (blk_cell K8.out 2).trans rfl
  have m3 := (blk_cell K8.out 3).trans rfl
  have hu29b := Tryd.underlying63
  refine bodyPost_ret (v := .tuple #[.agg #[.int .i64 0, .int .i64 0, .int .i64 0, .string (⟨#[]⟩ : ByteArray)], .int .i64 0, .int .i64 6]) (by simp [results, Tryd.results38, go_sem, hu29b, m0, m1, m2, m3]) rfl ⟨?_, ?_⟩
  · exact FIN.out
  · exact below_set (below_set (below_set (below_set B6.out (by rw [G6.out]; exact Nat.le_refl _)) (by rw [G6.out]; exact Nat.le_refl _)) (by rw [G6.out]; exact Nat.le_refl _)) (by rw [G6.out]; exact Nat.le_refl _)
  
theorem sgn_le (s : ByteArray) : sgn (lst s) ≤ s.size := by
  unfold sgn
  by_cases h : nb (lst s) 0 = 45
  · have h1 := minus_of s h
    have := spn_le pDigit ((lst s).drop 1)
    rw [List.length_drop, lst_len] at this
    rw [if_pos h]
    split <;> omega
  · have := spn_le pDigit (lst s)
    rw [lst_len] at this
    rw [if_neg h]
    exact this
set_option maxHeartbeats 8000000 in
set_option maxRecDepth 100000 in
theorem next_far (s : ByteArray) (hs : s.size ≤ 4000) (h0 : 0 < s.size) (h1 : ¬ nb (lst s) 0 = 40) (h2 : ¬ nb (lst s) 0 = 41) (h3 : ¬ nb (lst s) 0 = 42) (h4 : ¬ (nb (lst s) 0 = 45 ∧ 1 < (lst s).length ∧ nb (lst s) 1 = 62)) (h5 : ¬ pFront (nb (lst s) 0) = true) (h : ¬ sgn (lst s) = 0) (hv : num ((lst s).take (sgn (lst s))) = none) (w : World) : Calls Tryd.prog 38 #[.string s] w fun e w' => e = .returned (nx s) ∧ Below w.heap.size w w' := by
  have f1 : ((0 : Int) < (s.size : Int)) = True := eq_true (by omega)
  have f2 : (0 < s.size) = True := eq_true h0
  have f3 : ((1 : Int) ≤ (s.size : Int)) = True := eq_true (by omega)
  have f4 : (1 ≤ s.size) = True := eq_true h0
  have hb := b0 s h0
  have c40 : ((s[0].toNat : Int) == 40) = false := by rw [hb]; simp [h1]
  have c41 : ((s[0].toNat : Int) == 41) = false := by rw [hb]; simp [h2]
  have c42 : ((s[0].toNat : Int) == 42) = false := by rw [hb]; simp [h3]
  have H1 := Aside0.mk h1
  have H2 := Aside0.mk h2
  have H3 := Aside0.mk h3
  have HP := Aside0.mk (fun w => X.strings_HasPrefix.calls s ⟨#[45, 62]⟩ false w (by rw [has_f]; exact congrArg some (decide_eq_false (fun h => h4 ((arrow s).1 h)))))
  have H4 := Aside0.mk h4
  have FR := Aside0.mk (fun w => callP28 (s[0].toNat : Int) w)
  clear h1 h2 h3 h4
  have h5b : pFront (nb (lst s) 0) = false := by simpa using h5
  rw [hb, h5b, ← hb] at FR
  have H5 := Aside0.mk h5
  clear hb h5 h5b
  obtain ⟨m, hm⟩ : ∃ m, m = sgn (lst s) := ⟨_, rfl⟩
  have SG := Aside0.mk (fun w => signed30 s hs w)
  rw [← hm] at SG h
  have HM := Aside0.mk hm
  rw [← hm] at hv
  have g1 : ((m : Int) = 0) = False := eq_false (by omega)
  have g2 : (m = 0) = False := eq_false h
  have g2b : ((m : Int) == 0) = false := by simpa using h
  have ml : m ≤ s.size := by rw [hm]; exact sgn_le s
  have g4 : ((m : Int) ≤ (s.size : Int)) = True := eq_true (by omega)
  have g5 : (m ≤ s.size) = True := eq_true ml
  have g6 : (0 ≤ (m : Int)) = True := eq_true (by omega)
  have NC0 : ∀ w, Calls Tryd.prog 57 #[.string (s.extract 0 m)] w fun e w' => e = .returned (.tuple #[.int .i64 ((num ((lst s).take m)).getD 0), .bool (num ((lst s).take m)).isSome]) ∧ Below w.heap.size w w' := by
    intro w
    have hz : (s.extract 0 m).size = m := by rw [ByteArray.size_extract]; omega
    have := number31 (s.extract 0 m) (by omega) (by omega) w
    rw [lst_upto] at this
    refine this.mono ?_
    rintro e w' ⟨rfl, t, rfl⟩
    exact ⟨rfl, bytes_below (Below.refl _ _) (Nat.le_refl _) 5 t⟩
  have H := Aside0.mk h
  have NV := Aside0.mk hv
  rw [hv] at NC0
  have NC := Aside0.mk NC0
  clear NC0 h hm hv ml
  have FIN : Aside0 (Ending.returned (.tuple #[.agg #[.int .i64 0, .int .i64 0, .int .i64 0, .string (⟨#[]⟩ : ByteArray)], .int .i64 0, .int .i64 4]) = .returned (nx s)) := ⟨by
    rw [nx_of (k := 0) (n := 0) (m := 0) (e := 4) (by unfold nextT; rw [if_neg H1.out, if_neg H2.out, if_neg H3.out, if_neg H4.out, if_neg H5.out, ← HM.out, if_neg H.out, NV.out])]
    rw [txt_none 0 (by decide)]; rfl⟩

  go_enter Tryd.func38, Tryd.ntmps38
  go_wp2_with (first | ((with_reducible refine gate_dst (N := 2) rfl ?_); refine box_event ?hg (N := 2) ?hd (cs := #[.int .i64 0, .int .i64 0, .int .i64 0, .string ⟨#[]⟩]) (t := 63) ?hr ?_; (case hd => rfl); (case hg => rfl); (case hr => first | (go_simp; done) | (go_simp; rfl)); intro g hg w2 hbox hb; have K6 := Aside0.mk hbox; have B6 := Aside0.mk hb; have G6 := Aside0.mk hg; clear hbox hb hg; have k0 := (blk_cell K6.out 0).trans rfl; have k1 := (blk_cell K6.out 1).trans rfl; have k2 := (blk_cell K6.out 2).trans rfl; have k3 := (blk_cell K6.out 3).trans rfl; have kf0 := blk_frozen K6.out 0; have kf1 := blk_frozen K6.out 1; have kf2 := blk_frozen K6.out 2; have kf3 := blk_frozen K6.out 3) | (go_at_call 53; (with_reducible refine (HP.out _).mono ?_); rintro e w' ⟨rfl, rfl⟩) | (go_at_call 54; (with_reducible refine (FR.out _).mono ?_); rintro e w' ⟨rfl, rfl⟩) | (go_at_call 56; (with_reducible refine (SG.out _).mono ?_); rintro e w' ⟨rfl, rfl⟩) | (go_at_call 57; (with_reducible refine (NC.out _).mono ?_); rintro e w3 ⟨rfl, hN⟩; have K7 := Aside0.mk (blk_below K6.out hN); have B7 := Aside0.mk (B6.out.trans (hN.mono B6.out.size)); clear hN k0 k1 k2 k3 kf0 kf1 kf2 kf3; have k0 := (blk_cell K7.out 0).trans rfl; have k1 := (blk_cell K7.out 1).trans rfl; have k2 := (blk_cell K7.out 2).trans rfl; have k3 := (blk_cell K7.out 3).trans rfl; have kf0 := blk_frozen K7.out 0; have kf1 := blk_frozen K7.out 1; have kf2 := blk_frozen K7.out 2; have kf3 := blk_frozen K7.out 3))
  have K8 := Aside0.mk (blk_put (blk_put (blk_put (blk_put K7.out 0 (.int .i64 0) rfl) 1 (.int .i64 0) rfl) 2 (.int .i64 0) rfl) 3 (.string (⟨#[]⟩ : ByteArray)) rfl)
  clear k0 k1 k2 k3
  have m0 := (blk_cell K8.out 0).trans rfl
  have m1 := (blk_cell K8.out 1).trans rfl
  have m2 := (blk_cell K8.out 2).trans rfl
  have m3 := (blk_cell K8.out 3).trans rfl
  have hu29b := Tryd.underlying63
  refine bodyPost_ret (v := .tuple #[.agg #[.int .i64 0, .int .i64 0, .int .i64 0, .string (⟨#[]⟩ : ByteArray)], .int .i64 0, .int .i64 4]) (by simp [results, Tryd.results38, go_sem, hu29b, m0, m1, m2, m3]) rfl ⟨?_, ?_⟩
  · exact FIN.out
  · exact below_set (below_set (below_set (below_set B7.out (by rw [G6.out]; exact Nat.le_refl _)) (by rw [G6.out]; exact Nat.le_refl _)) (by rw [G6.out]; exact Nat.le_refl _)) (by rw [G6.out]; exact Nat.le_refl _)
  
set_option maxHeartbeats 8000000 in
set_option maxRecDepth 100000 in
theorem next_num (s : ByteArray) (hs : s.size ≤ 4000) (h0 : 0 < s.size) (h1 : ¬ nb (lst s) 0 = 40) (h2 : ¬ nb (lst s) 0 = 41) (h3 : ¬ nb (lst s) 0 = 42) (h4 : ¬ (nb (lst s) 0 = 45 ∧ 1 < (lst s).length ∧ nb (lst s) 1 = 62)) (h5 : ¬ pFront (nb (lst s) 0) = true) (v : Int) (h : ¬ sgn (lst s) = 0) (hv : num ((lst s).take (sgn (lst s))) = some v) (w : World) : Calls Tryd.prog 38 #[.string s] w fun e w' => e = .returned (nx s) ∧ Below w.heap.size w w' := by
  have f1 : ((0 : Int) < (s.size : Int)) = True := eq_true (by omega)
  have f2 : (0 < s.size) = True := eq_true h0
  have f3 : ((1 : Int) ≤ (s.size : Int)) = True := eq_true (by omega)
  have f4 : (1 ≤ s.size) = True := eq_true h0
  have hb := b0 s h0
  have c40 : ((s[0].toNat : Int) == 40) = false := by rw [hb]; simp [h1]
  have c41 : ((s[0].toNat : Int) == 41) = false := by rw [hb]; simp [h2]
  have c42 : ((s[0].toNat : Int) == 42) = false := by rw [hb]; simp [h3]
  have H1 := Aside0.mk h1
  have H2 := Aside0.mk h2
  have H3 := Aside0.mk h3
  have HP := Aside0.mk (fun w => X.strings_HasPrefix.calls s ⟨#[45, 62]⟩ false w (by rw [has_f]; exact congrArg some (decide_eq_false (fun h => h4 ((arrow s).1 h)))))
  have H4 := Aside0.mk h4
  have FR := Aside0.mk (fun w => callP28 (s[0].toNat : Int) w)
  clear h1 h2 h3 h4
  have h5b : pFront (nb (lst s) 0) = false := by simpa using h5
  rw [hb, h5b, ← hb] at FR
  have H5 := Aside0.mk h5
  clear hb h5 h5b
  obtain ⟨m, hm⟩ : ∃ m, m = sgn (lst s) := ⟨_, rfl⟩
  have SG := Aside0.mk (fun w => signed30 s hs w)
  rw [← hm] at SG h
  have HM := Aside0.mk hm
  rw [← hm] at hv
  have g1 : ((m : Int) = 0) = False := eq_false (by omega)
  have g2 : (m = 0) = False := eq_false h
  have g2b : ((m : Int) == 0) = false := by simpa using h
  have ml : m ≤ s.size := by rw [hm]; exact sgn_le s
  have g4 : ((m : Int) ≤ (s.size : Int)) = True := eq_true (by omega)
  have g5 : (m ≤ s.size) = True := eq_true ml
  have g6 : (0 ≤ (m : Int)) = True := eq_true (by omega)
  have NC0 : ∀ w, Calls Tryd.prog 57 #[.string (s.extract 0 m)] w fun e w' => e = .returned (.tuple #[.int .i64 ((num ((lst s).take m)).getD 0), .bool (num ((lst s).take m)).isSome]) ∧ Below w.heap.size w w' := by
    intro w
    have hz : (s.extract 0 m).size = m := by rw [ByteArray.size_extract]; omega
    have := number31 (s.extract 0 m) (by omega) (by omega) w
    rw [lst_upto] at this
    refine this.mono ?_
    rintro e w' ⟨rfl, t, rfl⟩
    exact ⟨rfl, bytes_below (Below.refl _ _) (Nat.le_refl _) 5 t⟩
  have H := Aside0.mk h
  have NV := Aside0.mk hv
  rw [hv] at NC0
  have NC := Aside0.mk NC0
  clear NC0 h hm hv ml
  have FIN : Aside0 (Ending.returned (.tuple #[.agg #[.int .i64 4, .int .i64 v, .int .i64 0, .string (⟨#[]⟩ : ByteArray)], .int .i64 (m : Int), .int .i64 0]) = .returned (nx s)) := ⟨by
    rw [nx_of (k := 4) (n := v) (m := m) (e := 0) (by unfold nextT; rw [if_neg H1.out, if_neg H2.out, if_neg H3.out, if_neg H4.out, if_neg H5.out, ← HM.out, if_neg H.out, NV.out])]
    rw [txt_none 4 (by decide)]⟩

  go_enter Tryd.func38, Tryd.ntmps38
  go_wp2_with (first | ((with_reducible refine gate_dst (N := 2) rfl ?_); refine box_event ?hg (N := 2) ?hd (cs := #[.int .i64 0, .int .i64 0, .int .i64 0, .string ⟨#[]⟩]) (t := 63) ?hr ?_; (case hd => rfl); (case hg => rfl); (case hr => first | (go_simp; done) | (go_simp; rfl)); intro g hg w2 hbox hb; have K6 := Aside0.mk hbox; have B6 := Aside0.mk hb; have G6 := Aside0.mk hg; clear hbox hb hg; have k0 := (blk_cell K6.out 0).trans rfl; have k1 := (blk_cell K6.out 1).trans rfl; have k2 := (blk_cell K6.out 2).trans rfl; have k3 := (blk_cell K6.out 3).trans rfl; have kf0 := blk_frozen K6.out 0; have kf1 := blk_frozen K6.out 1; have kf2 := blk_frozen K6.out 2; have kf3 := blk_frozen K6.out 3) | (go_at_call 53; (with_reducible refine (HP.out _).mono ?_); rintro e w' ⟨rfl, rfl⟩) | (go_at_call 54; (with_reducible refine (FR.out _).mono ?_); rintro e w' ⟨rfl, rfl⟩) | (go_at_call 56; (with_reducible refine (SG.out _).mono ?_); rintro e w' ⟨rfl, rfl⟩) | (go_at_call 57; (with_reducible refine (NC.out _).mono ?_); rintro e w3 ⟨rfl, hN⟩; have K7 := Aside0.mk (blk_below K6.out hN); have B7 := Aside0.mk (B6.out.trans (hN.mono B6.out.size)); clear hN k0 k1 k2 k3 kf0 kf1 kf2 kf3; have k0 := (blk_cell K7.out 0).trans rfl; have k1 := (blk_cell K7.out 1).trans rfl; have k2 := (blk_cell K7.out 2).trans rfl; have k3 := (blk_cell K7.out 3).trans rfl; have kf0 := blk_frozen K7.out 0; have kf1 := blk_frozen K7.out 1; have kf2 := blk_frozen K7.out 2; have kf3 := blk_frozen K7.out 3))
  have K8 := Aside0.mk (blk_put (blk_put (blk_put (blk_put K7.out 0 (.int .i64 4) rfl) 1 (.int .i64 v) rfl) 2 (.int .i64 0) rfl) 3 (.string (⟨#[]⟩ : ByteArray)) rfl)
  clear k0 k1 k2 k3
  have m0 := (blk_cell K8.out 0).trans rfl
  have m1 := (blk_cell K8.out 1).trans rfl
  have m2 := (blk_cell K8.out 2).trans rfl
  have m3 := (blk_cell K8.out 3).trans rfl
  have hu29b := Tryd.underlying63
  refine bodyPost_ret (v := .tuple #[.agg #[.int .i64 4, .int .i64 v, .int .i64 0, .string (⟨#[]⟩ : ByteArray)], .int .i64 (m : Int), .int .i64 0]) (by simp [results, Tryd.results38, go_sem, hu29b, m0, m1, m2, m3]) rfl ⟨?_, ?_⟩
  · exact FIN.out
  · exact below_set (below_set (below_set (below_set B7.out (by rw [G6.out]; exact Nat.le_refl _)) (by rw [G6.out]; exact Nat.le_refl _)) (by rw [G6.out]; exact Nat.le_refl _)) (by rw [G6.out]; exact Nat.le_refl _)
  
theorem next23 (s : ByteArray) (hs : s.size ≤ 4000) (h0 : 0 < s.size) (w : World) : Calls Tryd.prog 38 #[.string s] w fun e w' => e = .returned (nx s) ∧ Below w.heap.size w w' := by
  by_cases h1 : nb (lst s) 0 = 40
  · exact next_open s hs h0 h1 w
  by_cases h2 : nb (lst s) 0 = 41
  · exact next_close s hs h0 h2 w
  by_cases h3 : nb (lst s) 0 = 42
  · exact next_star s hs h0 h3 w
  by_cases h4 : nb (lst s) 0 = 45 ∧ 1 < (lst s).length ∧ nb (lst s) 1 = 62
  · exact next_arrow s hs h0 h1 h2 h3 h4 w
  by_cases h5 : pFront (nb (lst s) 0) = true
  · by_cases h : spn pInner (lst s) > 20
    · exact next_long s hs h0 h1 h2 h3 h4 h5 h w
    · exact next_name s hs h0 h1 h2 h3 h4 h5 h w
  by_cases h : sgn (lst s) = 0
  · exact next_none s hs h0 h1 h2 h3 h4 h5 h w
  cases hv : num ((lst s).take (sgn (lst s))) with
  | none => exact next_far s hs h0 h1 h2 h3 h4 h5 h hv w
  | some v => exact next_num s hs h0 h1 h2 h3 h4 h5 v h hv w
end Go.Proofs.YtkkmgahgejjhgaaDoor.Lex
