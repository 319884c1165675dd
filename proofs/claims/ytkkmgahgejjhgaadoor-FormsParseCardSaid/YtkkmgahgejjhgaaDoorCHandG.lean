/- Package forms: Parse: a text's forms are the model's, or where it has none. No conditions. Printed by genparse.py. -/
import Derived.Test.YtkkmgahgejjhgaaDoorCFMod
import Derived.ScopeJumps
import Derived.WalkMore
namespace Go.Proofs.YtkkmgahgejjhgaaDoor.Frm
open Go.RowKit Go.Proofs.YtkkmgahgejjhgaaDoor.P Go.Proofs.YtkkmgahgejjhgaaDoor.Lex Go.Proofs.YtkkmgahgejjhgaaDoorW.PrintWords Go.Proofs.YtkkmgahgejjhgaaDoorW.PrintLast Go.Proofs.YtkkmgahgejjhgaaDoorW.PrintMore
set_option linter.unusedVariables false
set_option linter.unusedSimpArgs false
theorem stk_one {w : World} {base : Nat} {V : Value} (h : Kd.R sl 28 w base (fun _ => True) V [(none, 0, 0)]) : Stk w base V [(none, 0, 0)] [[]] := by
  refine ⟨h, rfl, fun i hi => ?_⟩
  have : i = 0 := by simp at hi; omega
  subst this
  exact Kd.R_nil _ _ _ _ _
/-- A token of a row: its cells. -/
theorem tok_at {w : World} {base gt n c : Nat} {tl : List S63} (h : Kd.R k63 63 w base (fun _ => True) (.slice (some ⟨gt, 0, none⟩) n c) tl) (i : Nat) (hi : i < n) {t : S63} (ht : tl.getD i z63 = t) :
    w.cell? ⟨gt, i * 4, none⟩ = some (.int .i64 t.f0) ∧ w.cell? ⟨gt, i * 4 + 1, none⟩ = some (.int .i64 t.f1) ∧ w.cell? ⟨gt, i * 4 + 2, none⟩ = some (.int .i64 t.f2) ∧ w.cell? ⟨gt, i * 4 + 3, none⟩ = some (.string t.f3) := by
  obtain ⟨c, _, hM, hc, _⟩ := Kd.R_elem h z63 (i : Int) (by omega) (by omega)
  rw [Int.toNat_natCast, ht] at hM
  rw [Int.toNat_natCast] at hc
  obtain rfl := k63_openM hM
  exact ⟨hc 0 _ rfl, hc 1 _ rfl, hc 2 _ rfl, hc 3 _ rfl⟩
theorem drop_getD {tl : List S63} {i : Nat} (h : i < tl.length) : tl.drop i = tl.getD i z63 :: tl.drop (i + 1) := by
  rw [List.drop_eq_getElem_cons h, List.getD_eq_getElem?_getD, List.getElem?_eq_getElem h]
  rfl
theorem getD_mem {tl : List S63} {i : Nat} (h : i < tl.length) : tl.getD i z63 ∈ tl := by
  rw [List.getD_eq_getElem?_getD, List.getElem?_eq_getElem h]
  exact List.getElem_mem h
theorem frun_1 {t : S63} {r : List S63} {st : List (List S42)} {top : List S42} {sz : Int} (h : t.f0 = 1) : frun (t :: r) st top sz = if st.length < 30 then frun r (top :: st) [] sz else ([], t.f2, 5) := by rw [frun.eq_def]; simp only [if_pos h]
theorem frun_2 {t : S63} {r : List S63} {st : List (List S42)} {top : List S42} {sz : Int} (h : t.f0 = 2) : frun (t :: r) st top sz = match st with | [] => ([], t.f2, 7) | p :: st' => frun r st' (p ++ [⟨3, 0, ⟨#[]⟩, top⟩]) sz := by
  rw [frun.eq_def]; simp only [if_neg (show ¬ t.f0 = 1 by omega), if_pos h]
  try (cases st <;> rfl)
theorem frun_3 {t : S63} {r : List S63} {st : List (List S42)} {top : List S42} {sz : Int} (h : t.f0 = 3) : frun (t :: r) st top sz = frun r st (top ++ [⟨1, 0, t.f3, []⟩]) sz := by
  rw [frun.eq_def]; simp only [if_neg (show ¬ t.f0 = 1 by omega), if_neg (show ¬ t.f0 = 2 by omega), if_pos h]
theorem frun_4 {t : S63} {r : List S63} {st : List (List S42)} {top : List S42} {sz : Int} (h1 : t.f0 ≠ 1) (h2 : t.f0 ≠ 2) (h3 : t.f0 ≠ 3) : frun (t :: r) st top sz = frun r st (top ++ [⟨2, t.f1, ⟨#[]⟩, []⟩]) sz := by
  rw [frun.eq_def]; simp only [if_neg h1, if_neg h2, if_neg h3]
theorem frun_0 {top : List S42} {sz : Int} : frun [] [] top sz = (top, 0, 0) := by rw [frun.eq_def]
theorem frun_00 {p : List S42} {st : List (List S42)} {top : List S42} {sz : Int} : frun [] (p :: st) top sz = ([], sz, 7) := by rw [frun.eq_def]
/-- Lengths stand below a count. -/
def Lens (i : Nat) (st : List (List S42)) (top : List S42) : Prop := st.length ≤ i ∧ top.length ≤ i ∧ ∀ x ∈ st, x.length ≤ i
theorem Lens.open_ {i : Nat} {st : List (List S42)} {top : List S42} (h : Lens i st top) : Lens (i + 1) (top :: st) [] :=
  ⟨by have := h.1; simp only [List.length_cons]; omega, by simp, fun x hx => by rcases List.mem_cons.1 hx with rfl | hx; exact Nat.le_succ_of_le h.2.1; exact Nat.le_succ_of_le (h.2.2 x hx)⟩
theorem Lens.close_ {i : Nat} {p : List S42} {st : List (List S42)} {top : List S42} {x : S42} (h : Lens i (p :: st) top) : Lens (i + 1) st (p ++ [x]) :=
  ⟨by have := h.1; simp only [List.length_cons] at this; omega, by have := h.2.2 p (by simp); simp only [List.length_append, List.length_singleton]; omega, fun y hy => Nat.le_succ_of_le (h.2.2 y (by simp [hy]))⟩
theorem Lens.add_ {i : Nat} {st : List (List S42)} {top : List S42} {x : S42} (h : Lens i st top) : Lens (i + 1) st (top ++ [x]) :=
  ⟨by have := h.1; omega, by have := h.2.1; simp only [List.length_append, List.length_singleton]; omega, fun y hy => Nat.le_succ_of_le (h.2.2 y hy)⟩
theorem add_st {w0 w : World} {base g : Nat} {st : List (List S42)} {top : List S42} {f : S42} (h : St w base g (rws st top)) (hf : f.f3 = []) (hB : Below base w0 w) (h1 : st.length ≤ 4000) (h2 : top.length ≤ 4000) :
    Calls Tryd.prog 26 #[.pointer (some ⟨g, 0, none⟩), .agg #[.int .i64 f.f0, .int .i64 f.f1, .string f.f2, .slice none 0 0]] w fun e w' => e = .returned (.tuple #[]) ∧ St w' base g (rws st (top ++ [f])) ∧ Below base w0 w' ∧ KT w w' := by
  obtain ⟨V, hs, hK, hg, hS⟩ := h
  refine (add26 (n := st.length) (v3 := .slice none 0 0) hK hg hS hB (rws_len st top) (by rw [rws_len]; omega) (by rw [rws_top]; omega) (by rw [hf]; exact Kd.R_nil _ _ _ _ _)).mono ?_
  rintro e w' ⟨rfl, ⟨h1, hs', h2⟩, h3, h4⟩
  rw [rws_top, rws_add] at h2
  exact ⟨rfl, ⟨_, hs', h1, hg, h2⟩, h3, h4⟩
theorem close_st {w0 w : World} {base g : Nat} {p : List S42} {st : List (List S42)} {top : List S42} (h : St w base g (rws (p :: st) top)) (hB : Below base w0 w) (h1 : st.length ≤ 4000) (h2 : top.length ≤ 4000) (h3 : p.length ≤ 4000) :
    Calls Tryd.prog 28 #[.pointer (some ⟨g, 0, none⟩)] w fun e w' => e = .returned (.bool true) ∧ St w' base g (rws st (p ++ [⟨3, 0, ⟨#[]⟩, top⟩])) ∧ Below base w0 w' ∧ KT w w' := by
  have e1 : (rws (p :: st) top).getD (st.length + 1) [] = top := rws_top (p :: st) top
  have := close28b (m := st.length) h hB (by rw [rws_len]; rfl) (by rw [rws_len]; simp only [List.length_cons]; omega) (by rw [rws_snd]; omega) (by rw [e1]; omega)
  rw [rws_snd, e1, rws_take, rws_add] at this
  exact this
theorem open_st {w0 w : World} {base g : Nat} {st : List (List S42)} {top : List S42} (h : St w base g (rws st top)) (hB : Below base w0 w) (h1 : st.length ≤ 4000) :
    Calls Tryd.prog 27 #[.pointer (some ⟨g, 0, none⟩)] w fun e w' => e = .returned (.bool (decide (st.length < 30))) ∧ St w' base g (rws (top :: st) []) ∧ Below base w0 w' ∧ KT w w' := by
  have := open27 h hB (by rw [rws_len]; omega) (by rw [rws_len]; omega)
  rw [rws_open, rws_len] at this
  rw [show decide (st.length < 30) = decide (((st.length + 1 : Nat) : Int) ≤ 30) by simp only [decide_eq_decide]; omega]
  exact this
set_option maxHeartbeats 8000000 in
set_option maxRecDepth 100000 in
theorem parse13 (s : ByteArray) (w : World) : Calls Tryd.prog 13 #[.string s] w fun e w' => ∃ v, e = .returned (.tuple #[v, .int .i64 (fparse s).2.1, .int .i64 (fparse s).2.2]) ∧ Kd.R k42 42 w' w.heap.size (fun _ => True) v (fparse s).1 ∧ Below w.heap.size w w' := by
  have hu63 := Tryd.underlying63
  have hu53 := Tryd.underlying53
  have hu57 := Tryd.underlying57
  have hu59 := Tryd.underlying59
  have hu42 := Tryd.underlying42
  have hu28 := Tryd.underlying28
  have TK := tokens13 s
  obtain ⟨ts, hts⟩ : ∃ r, r = tokens (lst s) := ⟨_, rfl⟩
  have TA := tokens_all (lst s)
  rw [← hts] at TK TA
  obtain ⟨r, hr⟩ : ∃ r, r = fparse s := ⟨_, rfl⟩
  have FP : fparse s = (if ts.2.2 = 0 then frun ts.1 [] [] s.size else ([], ts.2.1, ts.2.2)) := by rw [hts]; rfl
  rw [← hr] at FP ⊢
  obtain ⟨r1, r2, r3⟩ := r
  obtain ⟨tl, ta, te⟩ := ts
  clear hts hr
  simp only [] at TK TA FP
  have TK_ := Aside0.mk TK
  clear TK
  by_cases he : te = 0
  · subst he
    rw [if_pos rfl] at FP
    have FP_ := Aside0.mk FP
    have TA_ := Aside0.mk TA
    clear FP TA
    go_enter Tryd.func13, Tryd.ntmps13
    go_wp2
    go_step3
    go_wp2_with (first | (go_at_call 25; refine (TK_.out _).mono ?_; rintro e w1 ⟨v1, rfl, hR, hb⟩; obtain ⟨A1, c1, rfl, hc1, hC⟩ := Kd.R_reads hR; have R1 := Aside0.mk hR; have B1 := Aside0.mk hb; clear hR hb hC hc1) | ((with_reducible refine gate_dst (N := 21) rfl ?_); refine Kd.R_make sl (w0 := w) w.heap.size 28 rfl rfl 57 (.const (.int .i64 1)) (.const (.int .i64 1)) rfl 1 rfl rfl Tryd.underlying57 (.slice none 0 0) 24 info28 rfl (by decide) (by decide) (none, 0, 0) (ok := fun _ => True) (okp := fun _ => True) rfl (fun _ _ => trivial) trivial (by decide) (by decide) B1.out B1.out.size ?_; intro v2 w2 ho hb hg _; obtain ⟨L, cap, e2, _, _, _⟩ := Kd.R_form ho (by decide); replace e2 : v2 = .slice (some ⟨L, 0, none⟩) 1 cap := e2; subst e2; have S2 := Aside0.mk (stk_one ho); have B2 := Aside0.mk hb; have R2 := Aside0.mk (R_KT R1.out (KT.of_grown hg (t := 0) (by decide) (fun _ hk => by cases hk))); clear ho hb hg) | ((with_reducible refine gate_dst (N := 23) rfl ?_); refine box_event ?hg (N := 23) ?hd (cs := #[.slice (some ⟨L, 0, none⟩) 1 cap]) (t := 59) ?hr ?_; (case hd => rfl); (case hg => rfl); (case hr => first | (go_simp; done) | (go_simp; rfl)); intro g hg w3 hbox hb; have R3 := Aside0.mk (R_KT R2.out (KT.of_below hb)); have B3 := Aside0.mk (below_step B2.out hb); have S3 : Aside0 (St w3 w.heap.size g (rws [] [])) := ⟨⟨_, _, hbox, by rw [hg]; exact B2.out.size, S2.out.below hb⟩⟩; clear hbox hb hg))
    go_step3
    go_wp2
    go_loopw [3, 4, 26] (fun v3 v4 v26 w' => ∃ (i : Nat) (st : List (List S42)) (top : List S42), v3 = .int .i64 ta ∧ v4 = .int .i64 0 ∧ v26 = .int .i64 i ∧ Aside0 (i ≤ tl.length ∧ Lens i st top ∧ frun (tl.drop i) st top s.size = (r1, r2, r3)) ∧ Aside0 (St w' w.heap.size g (rws st top)) ∧ Aside0 (Below w.heap.size w w') ∧ Aside0 (Kd.R k63 63 w' w.heap.size (fun _ => True) (.slice A1 tl.length c1) tl)) (fun _ _ v26 _ => tl.length - (intOf v26).toNat)
    case atStart => exact ⟨0, [], [], rfl, rfl, rfl, ⟨Nat.zero_le _, ⟨Nat.le_refl _, Nat.le_refl _, by simp⟩, FP_.out.symm⟩, S3, B3, R3⟩
    case round =>
      obtain ⟨i, st, top, rfl, rfl, rfl, HI, S4, B4, R4⟩ := hrel
      clear S3 B3 R3
      obtain ⟨hi, hlen, hF⟩ := HI.out
      have hst : st.length ≤ 4000 := Nat.le_trans hlen.1 (Nat.le_trans hi TA_.out.2)
      have htp : top.length ≤ 4000 := Nat.le_trans hlen.2.1 (Nat.le_trans hi TA_.out.2)
      have HL := Aside0.mk hlen
      have HST := Aside0.mk hst
      have HTP := Aside0.mk htp
      have V1 := Aside0.mk (show wrap64 ((i : Int) + 1) = ((i + 1 : Nat) : Int) by have := TA_.out.2; unfold wrap64; omega)
      by_cases hlt : i < tl.length
      · obtain ⟨gt, cap_, e1, _, _, _⟩ := Kd.R_form R4.out (by omega)
        have eA : A1 = some ⟨gt, 0, none⟩ := by injection e1
        subst eA
        obtain ⟨t, ht⟩ : ∃ t, t = tl.getD i z63 := ⟨_, rfl⟩
        have hcell := tok_at R4.out i hlt ht.symm
        have hk := TA_.out.1 _ (getD_mem hlt)
        rw [drop_getD hlt, ← ht] at hF
        rw [← ht] at hk
        obtain ⟨t0, t1, t2, t3⟩ := t
        simp only [] at hcell hk
        obtain ⟨k0, k1, k2, k3⟩ := hcell
        have HLT := Aside0.mk hlt
        have c1b : ((i : Int) < (tl.length : Int)) = True := eq_true (by omega)
        have c2b : decide ((i : Int) < (tl.length : Int)) = true := decide_eq_true (by omega)
        have c3b : (i < tl.length) = True := eq_true hlt
        clear e1 ht hi hlen hlt
        rcases hk with rfl | rfl | rfl | rfl
        · rw [frun_1 rfl] at hF
          by_cases h30 : st.length < 30
          · rw [if_pos h30] at hF
            have HF := Aside0.mk hF
            have DB := Aside0.mk (show decide (st.length < 30) = true from decide_eq_true h30)
            clear hF h30 hst htp
            go_wp2_with (first | (rw [V1.out]) | ((with_reducible refine gate_dst (N := 9) rfl ?_); refine box_event ?hg (N := 9) ?hd (cs := #[.int .i64 0, .int .i64 0, .int .i64 0, .string ⟨#[]⟩]) (t := 63) ?hr ?_; (case hd => rfl); (case hg => rfl); (case hr => first | (go_simp; done) | (go_simp; rfl)); intro gb hgb w5 hbox hb; have KB := Aside0.mk hbox; have GB := Aside0.mk hgb; have D5 := Aside0.mk hb; clear hbox hb hgb k0 k1 k2 k3; have c0 : w5.cell? ⟨gb, 0, none⟩ = some (.int .i64 0) := (blk_cell KB.out 0).trans rfl; have c1_ : w5.cell? ⟨gb, 1, none⟩ = some (.int .i64 0) := (blk_cell KB.out 1).trans rfl; have c2 : w5.cell? ⟨gb, 2, none⟩ = some (.int .i64 0) := (blk_cell KB.out 2).trans rfl; have c3 : w5.cell? ⟨gb, 3, none⟩ = some (.string ⟨#[]⟩) := (blk_cell KB.out 3).trans rfl; have cf0 := blk_frozen KB.out 0; have cf1 := blk_frozen KB.out 1; have cf2 := blk_frozen KB.out 2; have cf3 := blk_frozen KB.out 3) | ((with_reducible refine gate_ (.store 63 (.tmp 9) (.tmp 29)) rfl ?_); refine store_event (w1 := ?inw1) rfl rfl rfl ?hr ?_; (case hr => go_simp; rfl); intro w6 hw6; clear c0 c1_ c2 c3 cf0 cf1 cf2 cf3; have K6 : Aside0 (w6.heap[gb]? = some (.cells #[.int .i64 1, .int .i64 t1, .int .i64 t2, .string t3] 63 (0, 0))) := ⟨(by rw [hw6]; exact (blk_put (cs := #[.int .i64 1, .int .i64 t1, .int .i64 t2, .string ⟨#[]⟩]) (blk_put (cs := #[.int .i64 1, .int .i64 t1, .int .i64 0, .string ⟨#[]⟩]) (blk_put (cs := #[.int .i64 1, .int .i64 0, .int .i64 0, .string ⟨#[]⟩]) (blk_put KB.out 0 (.int .i64 1) rfl) 1 (.int .i64 t1) rfl) 2 (.int .i64 t2) rfl) 3 (.string t3) rfl))⟩; have D6 : Aside0 (Below wr.heap.size wr w6) := ⟨(by rw [hw6]; exact below_set (below_set (below_set (below_set D5.out (Nat.le_of_eq GB.out.symm)) (Nat.le_of_eq GB.out.symm)) (Nat.le_of_eq GB.out.symm)) (Nat.le_of_eq GB.out.symm))⟩; clear hw6 KB GB D5; have S6 := Aside0.mk (S4.out.below D6.out); have R6 := Aside0.mk (R_KT R4.out (KT.of_below D6.out)); have B6 := Aside0.mk (below_step B4.out D6.out); clear D6; have d0 : w6.cell? ⟨gb, 0, none⟩ = some (.int .i64 1) := (blk_cell K6.out 0).trans rfl; have d1 : w6.cell? ⟨gb, 1, none⟩ = some (.int .i64 t1) := (blk_cell K6.out 1).trans rfl; have d2 : w6.cell? ⟨gb, 2, none⟩ = some (.int .i64 t2) := (blk_cell K6.out 2).trans rfl; have d3 : w6.cell? ⟨gb, 3, none⟩ = some (.string t3) := (blk_cell K6.out 3).trans rfl; skip) | (go_at_call 27; refine (open_st S6.out B6.out HST.out).mono ?_; rintro e w7 ⟨he_, h1, h2, h3⟩; rw [DB.out] at he_; subst he_; have S7 := Aside0.mk h1; have B7 := Aside0.mk h2; have R7 := Aside0.mk (R_KT R6.out h3); have K7 := Aside0.mk (h3 _ _ K6.out); clear h1 h2 h3 S6 B6 R6 K6 d0 d1 d2 d3; have d0 : w7.cell? ⟨gb, 0, none⟩ = some (.int .i64 1) := (blk_cell K7.out 0).trans rfl; have d1 : w7.cell? ⟨gb, 1, none⟩ = some (.int .i64 t1) := (blk_cell K7.out 1).trans rfl; have d2 : w7.cell? ⟨gb, 2, none⟩ = some (.int .i64 t2) := (blk_cell K7.out 2).trans rfl; have d3 : w7.cell? ⟨gb, 3, none⟩ = some (.string t3) := (blk_cell K7.out 3).trans rfl; skip))
            have h1_ := HL.out
            have h2_ := HLT.out
            refine ⟨⟨i + 1, top :: st, [], rfl, rfl, rfl, ⟨by omega, h1_.open_, HF.out⟩, S7, B7, R7⟩, ?_⟩
            simp only [intOf, Int.toNat_natCast]
            omega
          · rw [if_neg h30] at hF
            simp only [Prod.mk.injEq] at hF
            obtain ⟨rfl, rfl, rfl⟩ := hF
            have DB := Aside0.mk (show decide (st.length < 30) = false from decide_eq_false h30)
            clear h30 hst htp
            go_wp2_with (first | (rw [V1.out]) | ((with_reducible refine gate_dst (N := 9) rfl ?_); refine box_event ?hg (N := 9) ?hd (cs := #[.int .i64 0, .int .i64 0, .int .i64 0, .string ⟨#[]⟩]) (t := 63) ?hr ?_; (case hd => rfl); (case hg => rfl); (case hr => first | (go_simp; done) | (go_simp; rfl)); intro gb hgb w5 hbox hb; have KB := Aside0.mk hbox; have GB := Aside0.mk hgb; have D5 := Aside0.mk hb; clear hbox hb hgb k0 k1 k2 k3; have c0 : w5.cell? ⟨gb, 0, none⟩ = some (.int .i64 0) := (blk_cell KB.out 0).trans rfl; have c1_ : w5.cell? ⟨gb, 1, none⟩ = some (.int .i64 0) := (blk_cell KB.out 1).trans rfl; have c2 : w5.cell? ⟨gb, 2, none⟩ = some (.int .i64 0) := (blk_cell KB.out 2).trans rfl; have c3 : w5.cell? ⟨gb, 3, none⟩ = some (.string ⟨#[]⟩) := (blk_cell KB.out 3).trans rfl; have cf0 := blk_frozen KB.out 0; have cf1 := blk_frozen KB.out 1; have cf2 := blk_frozen KB.out 2; have cf3 := blk_frozen KB.out 3) | ((with_reducible refine gate_ (.store 63 (.tmp 9) (.tmp 29)) rfl ?_); refine store_event (w1 := ?inw2) rfl rfl rfl ?hr ?_; (case hr => go_simp; rfl); intro w6 hw6; clear c0 c1_ c2 c3 cf0 cf1 cf2 cf3; have K6 : Aside0 (w6.heap[gb]? = some (.cells #[.int .i64 1, .int .i64 t1, .int .i64 t2, .string t3] 63 (0, 0))) := ⟨(by rw [hw6]; exact (blk_put (cs := #[.int .i64 1, .int .i64 t1, .int .i64 t2, .string ⟨#[]⟩]) (blk_put (cs := #[.int .i64 1, .int .i64 t1, .int .i64 0, .string ⟨#[]⟩]) (blk_put (cs := #[.int .i64 1, .int .i64 0, .int .i64 0, .string ⟨#[]⟩]) (blk_put KB.out 0 (.int .i64 1) rfl) 1 (.int .i64 t1) rfl) 2 (.int .i64 t2) rfl) 3 (.string t3) rfl))⟩; have D6 : Aside0 (Below wr.heap.size wr w6) := ⟨(by rw [hw6]; exact below_set (below_set (below_set (below_set D5.out (Nat.le_of_eq GB.out.symm)) (Nat.le_of_eq GB.out.symm)) (Nat.le_of_eq GB.out.symm)) (Nat.le_of_eq GB.out.symm))⟩; clear hw6 KB GB D5; have S6 := Aside0.mk (S4.out.below D6.out); have R6 := Aside0.mk (R_KT R4.out (KT.of_below D6.out)); have B6 := Aside0.mk (below_step B4.out D6.out); clear D6; have d0 : w6.cell? ⟨gb, 0, none⟩ = some (.int .i64 1) := (blk_cell K6.out 0).trans rfl; have d1 : w6.cell? ⟨gb, 1, none⟩ = some (.int .i64 t1) := (blk_cell K6.out 1).trans rfl; have d2 : w6.cell? ⟨gb, 2, none⟩ = some (.int .i64 t2) := (blk_cell K6.out 2).trans rfl; have d3 : w6.cell? ⟨gb, 3, none⟩ = some (.string t3) := (blk_cell K6.out 3).trans rfl; skip) | (go_at_call 27; refine (open_st S6.out B6.out HST.out).mono ?_; rintro e w7 ⟨he_, h1, h2, h3⟩; rw [DB.out] at he_; subst he_; have S7 := Aside0.mk h1; have B7 := Aside0.mk h2; have R7 := Aside0.mk (R_KT R6.out h3); have K7 := Aside0.mk (h3 _ _ K6.out); clear h1 h2 h3 S6 B6 R6 K6 d0 d1 d2 d3; have d0 : w7.cell? ⟨gb, 0, none⟩ = some (.int .i64 1) := (blk_cell K7.out 0).trans rfl; have d1 : w7.cell? ⟨gb, 1, none⟩ = some (.int .i64 t1) := (blk_cell K7.out 1).trans rfl; have d2 : w7.cell? ⟨gb, 2, none⟩ = some (.int .i64 t2) := (blk_cell K7.out 2).trans rfl; have d3 : w7.cell? ⟨gb, 3, none⟩ = some (.string t3) := (blk_cell K7.out 3).trans rfl; skip))
            simp only [Exit.noGoto]
            refine bodyPost_ret (v := .tuple #[.slice none 0 0, .int .i64 t2, .int .i64 5]) (by simp [results, Tryd.results13, go_sem]) rfl ?_
            exact ⟨_, rfl, Kd.R_nil _ _ _ _ _, B7.out⟩
        · rw [frun_2 rfl] at hF
          cases st with
          | nil =>
            simp only [Prod.mk.injEq] at hF
            obtain ⟨rfl, rfl, rfl⟩ := hF
            clear hst htp
            go_wp2_with (first | (rw [V1.out]) | ((with_reducible refine gate_dst (N := 9) rfl ?_); refine box_event ?hg (N := 9) ?hd (cs := #[.int .i64 0, .int .i64 0, .int .i64 0, .string ⟨#[]⟩]) (t := 63) ?hr ?_; (case hd => rfl); (case hg => rfl); (case hr => first | (go_simp; done) | (go_simp; rfl)); intro gb hgb w5 hbox hb; have KB := Aside0.mk hbox; have GB := Aside0.mk hgb; have D5 := Aside0.mk hb; clear hbox hb hgb k0 k1 k2 k3; have c0 : w5.cell? ⟨gb, 0, none⟩ = some (.int .i64 0) := (blk_cell KB.out 0).trans rfl; have c1_ : w5.cell? ⟨gb, 1, none⟩ = some (.int .i64 0) := (blk_cell KB.out 1).trans rfl; have c2 : w5.cell? ⟨gb, 2, none⟩ = some (.int .i64 0) := (blk_cell KB.out 2).trans rfl; have c3 : w5.cell? ⟨gb, 3, none⟩ = some (.string ⟨#[]⟩) := (blk_cell KB.out 3).trans rfl; have cf0 := blk_frozen KB.out 0; have cf1 := blk_frozen KB.out 1; have cf2 := blk_frozen KB.out 2; have cf3 := blk_frozen KB.out 3) | ((with_reducible refine gate_ (.store 63 (.tmp 9) (.tmp 29)) rfl ?_); refine store_event (w1 := ?inw3) rfl rfl rfl ?hr ?_; (case hr => go_simp; rfl); intro w6 hw6; clear c0 c1_ c2 c3 cf0 cf1 cf2 cf3; have K6 : Aside0 (w6.heap[gb]? = some (.cells #[.int .i64 2, .int .i64 t1, .int .i64 t2, .string t3] 63 (0, 0))) := ⟨(by rw [hw6]; exact (blk_put (cs := #[.int .i64 2, .int .i64 t1, .int .i64 t2, .string ⟨#[]⟩]) (blk_put (cs := #[.int .i64 2, .int .i64 t1, .int .i64 0, .string ⟨#[]⟩]) (blk_put (cs := #[.int .i64 2, .int .i64 0, .int .i64 0, .string ⟨#[]⟩]) (blk_put KB.out 0 (.int .i64 2) rfl) 1 (.int .i64 t1) rfl) 2 (.int .i64 t2) rfl) 3 (.string t3) rfl))⟩; have D6 : Aside0 (Below wr.heap.size wr w6) := ⟨(by rw [hw6]; exact below_set (below_set (below_set (below_set D5.out (Nat.le_of_eq GB.out.symm)) (Nat.le_of_eq GB.out.symm)) (Nat.le_of_eq GB.out.symm)) (Nat.le_of_eq GB.out.symm))⟩; clear hw6 KB GB D5; have S6 := Aside0.mk (S4.out.below D6.out); have R6 := Aside0.mk (R_KT R4.out (KT.of_below D6.out)); have B6 := Aside0.mk (below_step B4.out D6.out); clear D6; have d0 : w6.cell? ⟨gb, 0, none⟩ = some (.int .i64 2) := (blk_cell K6.out 0).trans rfl; have d1 : w6.cell? ⟨gb, 1, none⟩ = some (.int .i64 t1) := (blk_cell K6.out 1).trans rfl; have d2 : w6.cell? ⟨gb, 2, none⟩ = some (.int .i64 t2) := (blk_cell K6.out 2).trans rfl; have d3 : w6.cell? ⟨gb, 3, none⟩ = some (.string t3) := (blk_cell K6.out 3).trans rfl; skip) | (go_at_call 28; refine (close28a S6.out rfl).mono ?_; rintro e w7 ⟨rfl, rfl⟩))
            simp only [Exit.noGoto]
            refine bodyPost_ret (v := .tuple #[.slice none 0 0, .int .i64 t2, .int .i64 7]) (by simp [results, Tryd.results13, go_sem]) rfl ?_
            exact ⟨_, rfl, Kd.R_nil _ _ _ _ _, B6.out⟩
          | cons p st' =>
            simp only [] at hF
            have HF := Aside0.mk hF
            have HP := Aside0.mk (show p.length ≤ 4000 from Nat.le_trans (HL.out.2.2 p (by simp)) (Nat.le_trans HI.out.1 TA_.out.2))
            clear hF hst htp
            go_wp2_with (first | (rw [V1.out]) | ((with_reducible refine gate_dst (N := 9) rfl ?_); refine box_event ?hg (N := 9) ?hd (cs := #[.int .i64 0, .int .i64 0, .int .i64 0, .string ⟨#[]⟩]) (t := 63) ?hr ?_; (case hd => rfl); (case hg => rfl); (case hr => first | (go_simp; done) | (go_simp; rfl)); intro gb hgb w5 hbox hb; have KB := Aside0.mk hbox; have GB := Aside0.mk hgb; have D5 := Aside0.mk hb; clear hbox hb hgb k0 k1 k2 k3; have c0 : w5.cell? ⟨gb, 0, none⟩ = some (.int .i64 0) := (blk_cell KB.out 0).trans rfl; have c1_ : w5.cell? ⟨gb, 1, none⟩ = some (.int .i64 0) := (blk_cell KB.out 1).trans rfl; have c2 : w5.cell? ⟨gb, 2, none⟩ = some (.int .i64 0) := (blk_cell KB.out 2).trans rfl; have c3 : w5.cell? ⟨gb, 3, none⟩ = some (.string ⟨#[]⟩) := (blk_cell KB.out 3).trans rfl; have cf0 := blk_frozen KB.out 0; have cf1 := blk_frozen KB.out 1; have cf2 := blk_frozen KB.out 2; have cf3 := blk_frozen KB.out 3) | ((with_reducible refine gate_ (.store 63 (.tmp 9) (.tmp 29)) rfl ?_); refine store_event (w1 := ?inw4) rfl rfl rfl ?hr ?_; (case hr => go_simp; rfl); intro w6 hw6; clear c0 c1_ c2 c3 cf0 cf1 cf2 cf3; have K6 : Aside0 (w6.heap[gb]? = some (.cells #[.int .i64 2, .int .i64 t1, .int .i64 t2, .string t3] 63 (0, 0))) := ⟨(by rw [hw6]; exact (blk_put (cs := #[.int .i64 2, .int .i64 t1, .int .i64 t2, .string ⟨#[]⟩]) (blk_put (cs := #[.int .i64 2, .int .i64 t1, .int .i64 0, .string ⟨#[]⟩]) (blk_put (cs := #[.int .i64 2, .int .i64 0, .int .i64 0, .string ⟨#[]⟩]) (blk_put KB.out 0 (.int .i64 2) rfl) 1 (.int .i64 t1) rfl) 2 (.int .i64 t2) rfl) 3 (.string t3) rfl))⟩; have D6 : Aside0 (Below wr.heap.size wr w6) := ⟨(by rw [hw6]; exact below_set (below_set (below_set (below_set D5.out (Nat.le_of_eq GB.out.symm)) (Nat.le_of_eq GB.out.symm)) (Nat.le_of_eq GB.out.symm)) (Nat.le_of_eq GB.out.symm))⟩; clear hw6 KB GB D5; have S6 := Aside0.mk (S4.out.below D6.out); have R6 := Aside0.mk (R_KT R4.out (KT.of_below D6.out)); have B6 := Aside0.mk (below_step B4.out D6.out); clear D6; have d0 : w6.cell? ⟨gb, 0, none⟩ = some (.int .i64 2) := (blk_cell K6.out 0).trans rfl; have d1 : w6.cell? ⟨gb, 1, none⟩ = some (.int .i64 t1) := (blk_cell K6.out 1).trans rfl; have d2 : w6.cell? ⟨gb, 2, none⟩ = some (.int .i64 t2) := (blk_cell K6.out 2).trans rfl; have d3 : w6.cell? ⟨gb, 3, none⟩ = some (.string t3) := (blk_cell K6.out 3).trans rfl; skip) | (go_at_call 28; refine (close_st S6.out B6.out (by have := HST.out; simp only [List.length_cons] at this; omega) HTP.out HP.out).mono ?_; rintro e w7 ⟨rfl, h1, h2, h3⟩; have S7 := Aside0.mk h1; have B7 := Aside0.mk h2; have R7 := Aside0.mk (R_KT R6.out h3); have K7 := Aside0.mk (h3 _ _ K6.out); clear h1 h2 h3 S6 B6 R6 K6 d0 d1 d2 d3; have d0 : w7.cell? ⟨gb, 0, none⟩ = some (.int .i64 2) := (blk_cell K7.out 0).trans rfl; have d1 : w7.cell? ⟨gb, 1, none⟩ = some (.int .i64 t1) := (blk_cell K7.out 1).trans rfl; have d2 : w7.cell? ⟨gb, 2, none⟩ = some (.int .i64 t2) := (blk_cell K7.out 2).trans rfl; have d3 : w7.cell? ⟨gb, 3, none⟩ = some (.string t3) := (blk_cell K7.out 3).trans rfl; skip))
            have h1_ := HL.out
            have h2_ := HLT.out
            refine ⟨⟨i + 1, st', (p ++ [⟨3, 0, ⟨#[]⟩, top⟩]), rfl, rfl, rfl, ⟨by omega, h1_.close_, HF.out⟩, S7, B7, R7⟩, ?_⟩
            simp only [intOf, Int.toNat_natCast]
            omega
        · rw [frun_3 rfl] at hF
          have HF := Aside0.mk hF
          clear hF hst htp
          go_wp2_with (first | (rw [V1.out]) | ((with_reducible refine gate_dst (N := 9) rfl ?_); refine box_event ?hg (N := 9) ?hd (cs := #[.int .i64 0, .int .i64 0, .int .i64 0, .string ⟨#[]⟩]) (t := 63) ?hr ?_; (case hd => rfl); (case hg => rfl); (case hr => first | (go_simp; done) | (go_simp; rfl)); intro gb hgb w5 hbox hb; have KB := Aside0.mk hbox; have GB := Aside0.mk hgb; have D5 := Aside0.mk hb; clear hbox hb hgb k0 k1 k2 k3; have c0 : w5.cell? ⟨gb, 0, none⟩ = some (.int .i64 0) := (blk_cell KB.out 0).trans rfl; have c1_ : w5.cell? ⟨gb, 1, none⟩ = some (.int .i64 0) := (blk_cell KB.out 1).trans rfl; have c2 : w5.cell? ⟨gb, 2, none⟩ = some (.int .i64 0) := (blk_cell KB.out 2).trans rfl; have c3 : w5.cell? ⟨gb, 3, none⟩ = some (.string ⟨#[]⟩) := (blk_cell KB.out 3).trans rfl; have cf0 := blk_frozen KB.out 0; have cf1 := blk_frozen KB.out 1; have cf2 := blk_frozen KB.out 2; have cf3 := blk_frozen KB.out 3) | ((with_reducible refine gate_ (.store 63 (.tmp 9) (.tmp 29)) rfl ?_); refine store_event (w1 := ?inw5) rfl rfl rfl ?hr ?_; (case hr => go_simp; rfl); intro w6 hw6; clear c0 c1_ c2 c3 cf0 cf1 cf2 cf3; have K6 : Aside0 (w6.heap[gb]? = some (.cells #[.int .i64 3, .int .i64 t1, .int .i64 t2, .string t3] 63 (0, 0))) := ⟨(by rw [hw6]; exact (blk_put (cs := #[.int .i64 3, .int .i64 t1, .int .i64 t2, .string ⟨#[]⟩]) (blk_put (cs := #[.int .i64 3, .int .i64 t1, .int .i64 0, .string ⟨#[]⟩]) (blk_put (cs := #[.int .i64 3, .int .i64 0, .int .i64 0, .string ⟨#[]⟩]) (blk_put KB.out 0 (.int .i64 3) rfl) 1 (.int .i64 t1) rfl) 2 (.int .i64 t2) rfl) 3 (.string t3) rfl))⟩; have D6 : Aside0 (Below wr.heap.size wr w6) := ⟨(by rw [hw6]; exact below_set (below_set (below_set (below_set D5.out (Nat.le_of_eq GB.out.symm)) (Nat.le_of_eq GB.out.symm)) (Nat.le_of_eq GB.out.symm)) (Nat.le_of_eq GB.out.symm))⟩; clear hw6 KB GB D5; have S6 := Aside0.mk (S4.out.below D6.out); have R6 := Aside0.mk (R_KT R4.out (KT.of_below D6.out)); have B6 := Aside0.mk (below_step B4.out D6.out); clear D6; have d0 : w6.cell? ⟨gb, 0, none⟩ = some (.int .i64 3) := (blk_cell K6.out 0).trans rfl; have d1 : w6.cell? ⟨gb, 1, none⟩ = some (.int .i64 t1) := (blk_cell K6.out 1).trans rfl; have d2 : w6.cell? ⟨gb, 2, none⟩ = some (.int .i64 t2) := (blk_cell K6.out 2).trans rfl; have d3 : w6.cell? ⟨gb, 3, none⟩ = some (.string t3) := (blk_cell K6.out 3).trans rfl; skip) | (go_at_call 26; refine (add_st (f := ⟨1, 0, t3, []⟩) S6.out rfl B6.out HST.out HTP.out).mono ?_; rintro e w7 ⟨rfl, h1, h2, h3⟩; have S7 := Aside0.mk h1; have B7 := Aside0.mk h2; have R7 := Aside0.mk (R_KT R6.out h3); have K7 := Aside0.mk (h3 _ _ K6.out); clear h1 h2 h3 S6 B6 R6 K6 d0 d1 d2 d3; have d0 : w7.cell? ⟨gb, 0, none⟩ = some (.int .i64 3) := (blk_cell K7.out 0).trans rfl; have d1 : w7.cell? ⟨gb, 1, none⟩ = some (.int .i64 t1) := (blk_cell K7.out 1).trans rfl; have d2 : w7.cell? ⟨gb, 2, none⟩ = some (.int .i64 t2) := (blk_cell K7.out 2).trans rfl; have d3 : w7.cell? ⟨gb, 3, none⟩ = some (.string t3) := (blk_cell K7.out 3).trans rfl; skip))
          have h1_ := HL.out
          have h2_ := HLT.out
          refine ⟨⟨i + 1, st, (top ++ [⟨1, 0, t3, []⟩]), rfl, rfl, rfl, ⟨by omega, h1_.add_, HF.out⟩, S7, B7, R7⟩, ?_⟩
          simp only [intOf, Int.toNat_natCast]
          omega
        · rw [frun_4 (show (4 : Int) ≠ 1 by decide) (show (4 : Int) ≠ 2 by decide) (show (4 : Int) ≠ 3 by decide)] at hF
          have HF := Aside0.mk hF
          clear hF hst htp
          go_wp2_with (first | (rw [V1.out]) | ((with_reducible refine gate_dst (N := 9) rfl ?_); refine box_event ?hg (N := 9) ?hd (cs := #[.int .i64 0, .int .i64 0, .int .i64 0, .string ⟨#[]⟩]) (t := 63) ?hr ?_; (case hd => rfl); (case hg => rfl); (case hr => first | (go_simp; done) | (go_simp; rfl)); intro gb hgb w5 hbox hb; have KB := Aside0.mk hbox; have GB := Aside0.mk hgb; have D5 := Aside0.mk hb; clear hbox hb hgb k0 k1 k2 k3; have c0 : w5.cell? ⟨gb, 0, none⟩ = some (.int .i64 0) := (blk_cell KB.out 0).trans rfl; have c1_ : w5.cell? ⟨gb, 1, none⟩ = some (.int .i64 0) := (blk_cell KB.out 1).trans rfl; have c2 : w5.cell? ⟨gb, 2, none⟩ = some (.int .i64 0) := (blk_cell KB.out 2).trans rfl; have c3 : w5.cell? ⟨gb, 3, none⟩ = some (.string ⟨#[]⟩) := (blk_cell KB.out 3).trans rfl; have cf0 := blk_frozen KB.out 0; have cf1 := blk_frozen KB.out 1; have cf2 := blk_frozen KB.out 2; have cf3 := blk_frozen KB.out 3) | ((with_reducible refine gate_ (.store 63 (.tmp 9) (.tmp 29)) rfl ?_); refine store_event (w1 := ?inw6) rfl rfl rfl ?hr ?_; (case hr => go_simp; rfl); intro w6 hw6; clear c0 c1_ c2 c3 cf0 cf1 cf2 cf3; have K6 : Aside0 (w6.heap[gb]? = some (.cells #[.int .i64 4, .int .i64 t1, .int .i64 t2, .string t3] 63 (0, 0))) := ⟨(by rw [hw6]; exact (blk_put (cs := #[.int .i64 4, .int .i64 t1, .int .i64 t2, .string ⟨#[]⟩]) (blk_put (cs := #[.int .i64 4, .int .i64 t1, .int .i64 0, .string ⟨#[]⟩]) (blk_put (cs := #[.int .i64 4, .int .i64 0, .int .i64 0, .string ⟨#[]⟩]) (blk_put KB.out 0 (.int .i64 4) rfl) 1 (.int .i64 t1) rfl) 2 (.int .i64 t2) rfl) 3 (.string t3) rfl))⟩; have D6 : Aside0 (Below wr.heap.size wr w6) := ⟨(by rw [hw6]; exact below_set (below_set (below_set (below_set D5.out (Nat.le_of_eq GB.out.symm)) (Nat.le_of_eq GB.out.symm)) (Nat.le_of_eq GB.out.symm)) (Nat.le_of_eq GB.out.symm))⟩; clear hw6 KB GB D5; have S6 := Aside0.mk (S4.out.below D6.out); have R6 := Aside0.mk (R_KT R4.out (KT.of_below D6.out)); have B6 := Aside0.mk (below_step B4.out D6.out); clear D6; have d0 : w6.cell? ⟨gb, 0, none⟩ = some (.int .i64 4) := (blk_cell K6.out 0).trans rfl; have d1 : w6.cell? ⟨gb, 1, none⟩ = some (.int .i64 t1) := (blk_cell K6.out 1).trans rfl; have d2 : w6.cell? ⟨gb, 2, none⟩ = some (.int .i64 t2) := (blk_cell K6.out 2).trans rfl; have d3 : w6.cell? ⟨gb, 3, none⟩ = some (.string t3) := (blk_cell K6.out 3).trans rfl; skip) | (go_at_call 26; refine (add_st (f := ⟨2, t1, ⟨#[]⟩, []⟩) S6.out rfl B6.out HST.out HTP.out).mono ?_; rintro e w7 ⟨rfl, h1, h2, h3⟩; have S7 := Aside0.mk h1; have B7 := Aside0.mk h2; have R7 := Aside0.mk (R_KT R6.out h3); have K7 := Aside0.mk (h3 _ _ K6.out); clear h1 h2 h3 S6 B6 R6 K6 d0 d1 d2 d3; have d0 : w7.cell? ⟨gb, 0, none⟩ = some (.int .i64 4) := (blk_cell K7.out 0).trans rfl; have d1 : w7.cell? ⟨gb, 1, none⟩ = some (.int .i64 t1) := (blk_cell K7.out 1).trans rfl; have d2 : w7.cell? ⟨gb, 2, none⟩ = some (.int .i64 t2) := (blk_cell K7.out 2).trans rfl; have d3 : w7.cell? ⟨gb, 3, none⟩ = some (.string t3) := (blk_cell K7.out 3).trans rfl; skip))
          have h1_ := HL.out
          have h2_ := HLT.out
          refine ⟨⟨i + 1, st, (top ++ [⟨2, t1, ⟨#[]⟩, []⟩]), rfl, rfl, rfl, ⟨by omega, h1_.add_, HF.out⟩, S7, B7, R7⟩, ?_⟩
          simp only [intOf, Int.toNat_natCast]
          omega
      · obtain rfl : i = tl.length := by omega
        rw [List.drop_eq_nil_of_le (Nat.le_refl _)] at hF
        have S4_ := S4.out
        obtain ⟨V, hs, hK, hg, hS⟩ := S4_
        obtain ⟨L4, cap4, rfl, _, _, _⟩ := hS.form (by rw [rws_len]; omega)
        rw [rws_len] at hK hS
        have k0 : wr.cell? ⟨g, 0, none⟩ = some (.slice (some ⟨L4, 0, none⟩) (st.length + 1) cap4) := (blk_cell hK 0).trans rfl
        cases st with
        | nil =>
          rw [frun_0] at hF
          simp only [Prod.mk.injEq] at hF
          obtain ⟨rfl, rfl, rfl⟩ := hF
          have hrow := hS.row 0 (by simp [rws])
          rw [show (rws [] top).getD 0 [] = top from rfl] at hrow
          obtain ⟨A0, c0, hx⟩ := Kd.R_slice hrow
          have hcn := Kd.R_celln (enc := slv) (h1 := fun _ => rfl) (none, 0, 0) hS.out (0 : Int) (by omega) (by simp)
          have k1 : wr.cell? ⟨L4, 0, none⟩ = some (.slice A0 top.length c0) := by
            have h_ := hcn.1
            have e_ : slv (rdOf (none, 0, 0) hs (0 : Int)) = hv hs 0 := (hv_rd hs 0).symm
            rw [e_, hx] at h_
            exact h_
          rw [hx] at hrow
          have RR := Aside0.mk hrow
          clear hi hlen hst hlt hK hS hg hx hcn hrow
          go_wp2_with (first | (go_at_call 29; refine (clone29 RR.out B4.out.size (Nat.le_trans HTP.out (by decide))).mono ?_; rintro e w7 ⟨v7, rfl, hR, hb⟩; have R7 := Aside0.mk hR; have B7 := Aside0.mk (below_step B4.out hb); clear hR hb k0 k1))
          simp only [Exit.noGoto]
          refine bodyPost_ret (v := .tuple #[v7, .int .i64 0, .int .i64 0]) (by simp [results, Tryd.results13, go_sem]) rfl ?_
          exact ⟨_, rfl, Kd.R_mono R7.out (fun _ _ => trivial), B7.out⟩
        | cons p st' =>
          rw [frun_00] at hF
          simp only [Prod.mk.injEq] at hF
          obtain ⟨rfl, rfl, rfl⟩ := hF
          have q1 : ((1 : Int) < (st'.length : Int) + 1 + 1) = True := eq_true (by omega)
          rw [List.length_cons] at k0
          clear hi hlen hst hlt hK hS hg htp
          go_wp2
          simp only [Exit.noGoto]
          refine bodyPost_ret (v := .tuple #[.slice none 0 0, .int .i64 s.size, .int .i64 7]) (by simp [results, Tryd.results13, go_sem]) rfl ?_
          exact ⟨_, rfl, Kd.R_nil _ _ _ _ _, B4.out⟩

  · rw [if_neg he] at FP
    have q2 : (te = 0) = False := eq_false he
    have q3 : (te == 0) = false := by simpa using he
    have q4 : (te != 0) = true := by simpa using he
    simp only [Prod.mk.injEq] at FP
    obtain ⟨rfl, rfl, rfl⟩ := FP
    clear he TA
    go_enter Tryd.func13, Tryd.ntmps13
    go_wp2
    go_step3
    go_wp2_with (first | (go_at_call 25; refine (TK_.out _).mono ?_; rintro e w1 ⟨v1, rfl, hR, hb⟩; obtain ⟨A1, c1, rfl, hc1, hC⟩ := Kd.R_reads hR; have R1 := Aside0.mk hR; have B1 := Aside0.mk hb; clear hR hb hC hc1))
    simp only [Exit.noGoto]
    refine bodyPost_ret (v := .tuple #[.slice none 0 0, .int .i64 r2, .int .i64 r3]) (by simp [results, Tryd.results13, go_sem]) rfl ?_
    exact ⟨_, rfl, Kd.R_nil _ _ _ _ _, B1.out⟩
end Go.Proofs.YtkkmgahgejjhgaaDoor.Frm
namespace Go.Proofs.YtkkmgahgejjhgaaDoor.P
open Go.RowKit Go.Proofs.YtkkmgahgejjhgaaDoorW.PrintWords
def forms_Parse.f (s : ByteArray) : Option (List S42 × Int × Int) := some (Frm.fparse s)
theorem forms_Parse.calls (s : ByteArray) (r1 : List S42) (r2 r3 : Int) (w : World) (h : forms_Parse.f s = some (r1, r2, r3)) :
    Calls Tryd.prog 13 #[.string s] w fun e w' => ∃ v0_ : Value, e = .returned (.tuple #[v0_, .int .i64 r2, .int .i64 r3]) ∧ Kd.R k42 42 w' w.heap.size (fun _ => True) v0_ r1 ∧ Below w.heap.size w w' := by
  have e : Frm.fparse s = (r1, r2, r3) := Option.some.inj h
  have := Frm.parse13 s w
  rw [e] at this
  exact this
end Go.Proofs.YtkkmgahgejjhgaaDoor.P
