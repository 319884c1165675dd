/- Package lex: Tokens: a text's tokens are the model's, or where it has none. -/
import Derived.Test.YtkkmgahgejjhgaaDoorCHandV
import Derived.Test.YtkkmgahgejjhgaaDoorCHandO
namespace Go.Proofs.YtkkmgahgejjhgaaDoor.Lex
open Go.RowKit Go.Proofs.YtkkmgahgejjhgaaDoor.P Go.Proofs.YtkkmgahgejjhgaaDoorW.PrintWords Go.Proofs.YtkkmgahgejjhgaaDoorW.PrintLast Go.Proofs.YtkkmgahgejjhgaaDoorW.PrintMore
set_option linter.unusedVariables false
set_option linter.unusedSimpArgs false
theorem sgn_len (l : List UInt8) : sgn l ≤ l.length := by
  unfold sgn
  by_cases h : nb l 0 = 45
  · have h1 : 1 ≤ l.length := by
      cases l with
      | nil => simp [nb] at h
      | cons c r => simp
    have := spn_le pDigit (l.drop 1)
    rw [List.length_drop] at this
    rw [if_pos h]
    split <;> omega
  · rw [if_neg h]
    exact spn_le pDigit l
theorem nextT_len {l : List UInt8} (h0 : 0 < l.length) (h : (nextT l).2.2.2 = 0) : 1 ≤ (nextT l).2.2.1 ∧ (nextT l).2.2.1 ≤ l.length := by
  unfold nextT at h ⊢
  by_cases h1 : nb l 0 = 40
  · rw [if_pos h1]
    exact ⟨Nat.le_refl _, h0⟩
  rw [if_neg h1] at h ⊢
  by_cases h2 : nb l 0 = 41
  · rw [if_pos h2]
    exact ⟨Nat.le_refl _, h0⟩
  rw [if_neg h2] at h ⊢
  by_cases h3 : nb l 0 = 42
  · rw [if_pos h3]
    exact ⟨Nat.le_refl _, h0⟩
  rw [if_neg h3] at h ⊢
  by_cases h4 : nb l 0 = 45 ∧ 1 < l.length ∧ nb l 1 = 62
  · rw [if_pos h4]
    exact ⟨by decide, h4.2.1⟩
  rw [if_neg h4] at h ⊢
  by_cases h5 : pFront (nb l 0) = true
  · rw [if_pos h5] at h ⊢
    by_cases h6 : spn pInner l > 20
    · rw [if_pos h6] at h
      exact absurd h (by decide)
    · rw [if_neg h6]
      refine ⟨?_, spn_le _ _⟩
      have := spn_drop (p := pInner) (l := l) (i := 0) h0
      rw [List.drop_zero, if_pos (by unfold pInner; rw [h5]; rfl)] at this
      show 1 ≤ spn pInner l
      omega
  rw [if_neg h5] at h ⊢
  by_cases h6 : sgn l = 0
  · rw [if_pos h6] at h
    exact absurd h (by decide)
  rw [if_neg h6] at h ⊢
  cases hv : num (l.take (sgn l)) with
  | none =>
    rw [hv] at h
    exact absurd (show (4 : Int) = 0 from h) (by decide)
  | some v => exact ⟨by show 1 ≤ sgn l; omega, sgn_len l⟩

theorem gen_world {P : Program} {ops : Array Oper} {Q : Exit → Act → World → Prop} {rest : List Oper} {a : Act} {W : World} (R : World → Prop) (h : R W) (k : ∀ w, R w → wpList P ops Q rest a w) : wpList P ops Q rest a W := k W h
theorem w2 (a b c : Nat) (h : c = a + b) (hc : c ≤ 8000) : wrap64 ((a : Int) + (b : Int)) = (c : Int) := by
  unfold wrap64
  omega
set_option maxHeartbeats 8000000 in
set_option maxRecDepth 100000 in
theorem tokens13 (s : ByteArray) (w : World) : Calls Tryd.prog 25 #[.string s] w fun e w' => ∃ v, e = .returned (.tuple #[v, .int .i64 (tokens (lst s)).2.1, .int .i64 (tokens (lst s)).2.2]) ∧ Kd.R k63 63 w' w.heap.size (fun _ => True) v (tokens (lst s)).1 ∧ Below w.heap.size w w' := by
  have hu63 := Tryd.underlying63
  by_cases hs : s.size > 4000
  · have c1 : decide (4000 < (s.size : Int)) = true := decide_eq_true (by omega)
    have c2 : decide (4000 < s.size) = true := decide_eq_true hs
    have e : tokens (lst s) = ([], 0, 4) := by
      unfold tokens
      rw [if_pos (by rw [lst_len]; exact hs)]
    rw [e]
    clear e hs
    go_enter Tryd.func25, Tryd.ntmps25
    go_wp2
    go_step3
    go_wp2
    simp only [Exit.noGoto]
    refine bodyPost_ret (v := .tuple #[.slice none 0 0, .int .i64 0, .int .i64 4]) (by simp [results, Tryd.results25, go_sem]) rfl ?_
    exact ⟨_, rfl, Kd.R_nil _ _ _ _ _, Below.refl _ _⟩
  · have c1 : decide (4000 < (s.size : Int)) = false := decide_eq_false (by omega)
    have c2 : decide (4000 < s.size) = false := decide_eq_false hs
    have TK : tokens (lst s) = toks ((lst s).length + 1) (lst s) 0 [] := by
      unfold tokens
      rw [if_neg (by rw [lst_len]; exact hs)]
    have HS := Aside0.mk (show s.size ≤ 4000 by omega)
    obtain ⟨r, hr⟩ : ∃ r, r = tokens (lst s) := ⟨_, rfl⟩
    rw [← hr] at TK ⊢
    obtain ⟨r1, r2, r3⟩ := r
    clear hr hs
    have T0 := Aside0.mk TK
    clear TK
    go_enter Tryd.func25, Tryd.ntmps25
    go_wp2
    go_step3
    go_wp2
    go_step3
    go_wp2
    go_loopw [2, 3] (fun v2 v3 w' => ∃ (p : Nat) (xs : List S63), p ≤ s.size ∧ v3 = .int .i64 p ∧ Aside0 (xs.length ≤ p ∧ ∃ f, s.size - p < f ∧ toks f ((lst s).drop p) p xs = (r1, r2, r3)) ∧ Aside0 (Kd.R k63 63 w' w.heap.size (fun _ => True) v2 xs) ∧ Aside0 (Below w.heap.size w w')) (fun _ v3 _ => s.size - (intOf v3).toNat)
    case atStart => exact ⟨0, [], Nat.zero_le _, rfl, ⟨Nat.le_refl _, s.size + 1, by omega, by rw [T0.out, lst_len]; rfl⟩, ⟨Kd.R_nil _ _ _ _ _⟩, ⟨Below.refl _ _⟩⟩
    case round =>
      obtain ⟨p, xs, hp, rfl, HF, HO, HB⟩ := hrel
      have f1 : (0 ≤ (p : Int)) = True := eq_true (by omega)
      have f2 : ((p : Int) ≤ (s.size : Int)) = True := eq_true (by omega)
      have f3 : (p ≤ s.size) = True := eq_true hp
      have h1 := HF.out
      have h2 := HS.out
      obtain ⟨hxs, f, hf, hF⟩ := h1
      obtain ⟨b, hb⟩ : ∃ b, b = blk false ((lst s).drop p) := ⟨_, rfl⟩
      obtain ⟨p1, hp1⟩ : ∃ p1, p1 = p + b := ⟨_, rfl⟩
      have hbl : b ≤ s.size - p := by
        have := blk_le false ((lst s).drop p)
        rw [List.length_drop, lst_len] at this
        omega
      have hps : p1 ≤ s.size := by omega
      have BL := Aside0.mk (fun w => blank22 (s.extract p s.size) (by rw [ByteArray.size_extract]; omega) w)
      rw [lst_from, ← hb] at BL
      have V1 := Aside0.mk (w2 p b p1 hp1 (by omega))
      obtain ⟨f, rfl⟩ : ∃ f', f = f' + 1 := ⟨f - 1, by omega⟩
      rw [toks, ← hb, List.drop_drop, ← hp1] at hF
      have g1 : (0 ≤ (p1 : Int)) = True := eq_true (by omega)
      have g2 : ((p1 : Int) ≤ (s.size : Int)) = True := eq_true (by omega)
      have g3 : (p1 ≤ s.size) = True := eq_true hps
      by_cases hlt : p1 < s.size
      · have t1 : ((p1 : Int) == (s.size : Int)) = false := by
          rw [beq_eq_false_iff_ne]
          omega
        have t2 : ((p1 : Int) = (s.size : Int)) = False := eq_false (by omega)
        have t3 : (p1 = s.size) = False := eq_false (by omega)
        obtain ⟨u, hu⟩ : ∃ u, u = s.extract p1 s.size := ⟨_, rfl⟩
        have hul : lst u = (lst s).drop p1 := by rw [hu, lst_from]
        have huz : u.size = s.size - p1 := by rw [hu, ByteArray.size_extract]; omega
        have NX := Aside0.mk (fun w => next23 u (by omega) (by omega) w)
        obtain ⟨⟨k, n, m, er⟩, hn⟩ : ∃ x, x = nextT ((lst s).drop p1) := ⟨_, rfl⟩
        rw [nx_of (show nextT (lst u) = (k, n, m, er) by rw [hul, hn]), hul] at NX
        have hlen : er = 0 → 1 ≤ m ∧ m ≤ s.size - p1 := by
          intro h
          have := nextT_len (l := (lst s).drop p1) (by rw [List.length_drop, lst_len]; omega) (by rw [← hn]; exact h)
          rw [← hn, List.length_drop, lst_len] at this
          exact this
        rw [← hn, if_neg (by rw [List.length_drop, lst_len]; omega)] at hF
        obtain ⟨tx, htx⟩ : ∃ tx, tx = txt k ((lst s).drop p1) m := ⟨_, rfl⟩
        simp only [← htx, List.drop_drop] at hF
        rw [← htx, hu] at NX
        clear hn htx hul huz hu
        by_cases he : er = 0
        · obtain ⟨hm1, hm2⟩ := hlen he
          subst he
          obtain ⟨p2, hp2⟩ : ∃ p2, p2 = p1 + m := ⟨_, rfl⟩
          have V2 := Aside0.mk (w2 p1 m p2 hp2 (by omega))
          rw [if_pos rfl, ← hp2] at hF
          have FF := Aside0.mk (And.intro hF (show p2 ≤ s.size ∧ p < p2 ∧ xs.length + 1 ≤ p2 ∧ s.size - p2 < f ∧ xs.length ≤ 4000 by omega))
          clear hlen hm1 hm2 hp2 hF hf hxs hb hp1 hbl hps hlt h2 hp
          go_wp2_with (first | (rw [V1.out]) | (rw [V2.out]) | (go_at_call 37; (with_reducible refine (BL.out _).mono ?_); rintro e w3 ⟨rfl, rfl⟩) | (go_at_call 38; (with_reducible refine (NX.out _).mono ?_); rintro e w4 ⟨rfl, hN⟩; have HO4 := Aside0.mk (Kd.R_below HO.out hN); have HB4 := Aside0.mk (HB.out.trans (hN.mono HB.out.size)); clear hN) | ((with_reducible refine gate_dst (N := 5) rfl ?_); refine box_event ?hg (N := 5) ?hd (cs := #[.int .i64 0, .int .i64 0, .int .i64 0, .string ⟨#[]⟩]) (t := 63) ?hr ?_; (case hd => rfl); (case hg => rfl); (case hr => first | (go_simp; done) | (go_simp; rfl)); intro g hg w5 hbox hb; have K6 := Aside0.mk hbox; have HO5 := Aside0.mk (Kd.R_below (Kd.R_elderB HO4.out g (Nat.le_of_eq hg.symm)) hb); have GE := Aside0.mk ((by rw [hg]; exact HB4.out.size) : w.heap.size ≤ g); have HB5 := Aside0.mk (below_step HB4.out hb); clear hbox hb hg HO4 HB4 t1 t2 t3 f1 f2 f3 g1 g2 g3; have k0 : w5.cell? ⟨g, 0, none⟩ = some (.int .i64 0) := (blk_cell K6.out 0).trans rfl; have k1 : w5.cell? ⟨g, 1, none⟩ = some (.int .i64 0) := (blk_cell K6.out 1).trans rfl; have k2 : w5.cell? ⟨g, 2, none⟩ = some (.int .i64 0) := (blk_cell K6.out 2).trans rfl; have k3 : w5.cell? ⟨g, 3, none⟩ = some (.string ⟨#[]⟩) := (blk_cell K6.out 3).trans rfl; have kf0 := blk_frozen K6.out 0; have kf1 := blk_frozen K6.out 1; have kf2 := blk_frozen K6.out 2; have kf3 := blk_frozen K6.out 3) | ((with_reducible refine gate_dst (N := 34) rfl ?_); refine gen_world (fun wq => wq.heap[g]? = some (.cells #[.int .i64 k, .int .i64 n, .int .i64 0, .string tx] 63 (0, 0)) ∧ Kd.R k63 63 wq w.heap.size (fun k_ => True ∧ k_ ≠ g) u2 xs ∧ Below w.heap.size w wq) ⟨(blk_put (cs := #[.int .i64 k, .int .i64 n, .int .i64 0, .string ⟨#[]⟩]) (cs' := #[.int .i64 k, .int .i64 n, .int .i64 0, .string tx]) (blk_put (cs := #[.int .i64 k, .int .i64 n, .int .i64 0, .string ⟨#[]⟩]) (cs' := #[.int .i64 k, .int .i64 n, .int .i64 0, .string ⟨#[]⟩]) (blk_put (cs := #[.int .i64 k, .int .i64 0, .int .i64 0, .string ⟨#[]⟩]) (cs' := #[.int .i64 k, .int .i64 n, .int .i64 0, .string ⟨#[]⟩]) (blk_put (cs := #[.int .i64 0, .int .i64 0, .int .i64 0, .string ⟨#[]⟩]) (cs' := #[.int .i64 k, .int .i64 0, .int .i64 0, .string ⟨#[]⟩]) K6.out 0 (.int .i64 k) rfl) 1 (.int .i64 n) rfl) 2 (.int .i64 0) rfl) 3 (.string tx) rfl), (Kd.R_far (p := ⟨g, 3, none⟩) (Kd.R_far (p := ⟨g, 2, none⟩) (Kd.R_far (p := ⟨g, 1, none⟩) (Kd.R_far (p := ⟨g, 0, none⟩) HO5.out (fun _ hk => hk.2) _) (fun _ hk => hk.2) _) (fun _ hk => hk.2) _) (fun _ hk => hk.2) _), (below_set (below_set (below_set (below_set HB5.out GE.out) GE.out) GE.out) GE.out)⟩ ?_; rintro w6 ⟨hk_, ho_, hb_⟩; have K7 := Aside0.mk hk_; have HO6 := Aside0.mk ho_; have HB6 := Aside0.mk hb_; clear hk_ ho_ hb_ K6 HO5 HB5 k0 k1 k2 k3 kf0 kf1 kf2 kf3; have k0 : w6.cell? ⟨g, 0, none⟩ = some (.int .i64 k) := (blk_cell K7.out 0).trans rfl; have k1 : w6.cell? ⟨g, 1, none⟩ = some (.int .i64 n) := (blk_cell K7.out 1).trans rfl; have k2 : w6.cell? ⟨g, 2, none⟩ = some (.int .i64 0) := (blk_cell K7.out 2).trans rfl; have k3 : w6.cell? ⟨g, 3, none⟩ = some (.string tx) := (blk_cell K7.out 3).trans rfl; have kf0 := blk_frozen K7.out 0; have kf1 := blk_frozen K7.out 1; have kf2 := blk_frozen K7.out 2; have kf3 := blk_frozen K7.out 3) | ((with_reducible refine gate_dst (N := 36) rfl ?_); refine gen_world (fun wq => wq.heap[g]? = some (.cells #[.int .i64 k, .int .i64 n, .int .i64 (p1 : Int), .string tx] 63 (0, 0)) ∧ Kd.R k63 63 wq w.heap.size (fun k_ => True ∧ k_ ≠ g) u2 xs ∧ Below w.heap.size w wq) ⟨(blk_put (cs := #[.int .i64 k, .int .i64 n, .int .i64 0, .string tx]) (cs' := #[.int .i64 k, .int .i64 n, .int .i64 (p1 : Int), .string tx]) K7.out 2 (.int .i64 (p1 : Int)) rfl), (Kd.R_far (p := ⟨g, 2, none⟩) HO6.out (fun _ hk => hk.2) _), (below_set HB6.out GE.out)⟩ ?_; rintro w7 ⟨hk_, ho_, hb_⟩; have K8 := Aside0.mk hk_; have HO7 := Aside0.mk ho_; have HB7 := Aside0.mk hb_; clear hk_ ho_ hb_ K7 HO6 HB6 k0 k1 k2 k3 kf0 kf1 kf2 kf3; have k0 : w7.cell? ⟨g, 0, none⟩ = some (.int .i64 k) := (blk_cell K8.out 0).trans rfl; have k1 : w7.cell? ⟨g, 1, none⟩ = some (.int .i64 n) := (blk_cell K8.out 1).trans rfl; have k2 : w7.cell? ⟨g, 2, none⟩ = some (.int .i64 (p1 : Int)) := (blk_cell K8.out 2).trans rfl; have k3 : w7.cell? ⟨g, 3, none⟩ = some (.string tx) := (blk_cell K8.out 3).trans rfl; have kf0 := blk_frozen K8.out 0; have kf1 := blk_frozen K8.out 1; have kf2 := blk_frozen K8.out 2; have kf3 := blk_frozen K8.out 3) | ((with_reducible refine gate_builtin (b := .append) (xs := #[.tmp 35, .tmp 37]) rfl ?_); at_builtin; refine Kd.R_append k63 (w0 := w) w.heap.size rfl (.tmp 35) (.tmp 37) 53 63 (.agg #[(.int .i64 0), (.int .i64 0), (.int .i64 0), (.string ⟨#[]⟩)]) 40 rfl Tryd.underlying53 info63 rfl (by decide) (by omega) _ xs (⟨k, n, (p1 : Int), tx⟩ : S63) [.int .i64 k, .int .i64 n, .int .i64 (p1 : Int), .string tx] (fun k_ => k_ ≠ g) (fun _ => False) rfl (by first | (go_simp; done) | (go_simp; rfl)) ?aP (fun _ hk => hk.elim) ?aF ?aO ?aB ?aS ?aL ?_; (case aP => exact k63_mkM _ _ _ (⟨k, n, (p1 : Int), tx⟩ : S63)); (case aB => exact HB7.out); (case aF => exact Kd.freshB K8.out); (case aO => exact Kd.R_mono HO7.out (fun _ hk => hk.2)); (case aS => exact HB7.out.size); (case aL => have := FF.out.2; omega); intro v8 w8 ho hb hg hat; have HO8 := Aside0.mk ho; have HB8 := Aside0.mk hb; clear ho hb hg hat))
          have h1 := FF.out
          refine ⟨⟨p2, _, h1.2.1, rfl, ⟨?_, f, h1.2.2.2.2.1, h1.1⟩, ⟨Kd.R_mono HO8.out (fun _ _ => trivial)⟩, HB8⟩, ?_⟩
          · rw [List.length_append]
            exact h1.2.2.2.1
          · simp only [intOf, Int.toNat_natCast]
            omega
        · have q1 : (er = 0) = False := eq_false he
          have q2 : (er == 0) = false := by simpa using he
          have q3 : (er != 0) = true := by simpa using he
          rw [if_neg he] at hF
          simp only [Prod.mk.injEq] at hF
          obtain ⟨rfl, rfl, rfl⟩ := hF
          clear hlen hf hxs hb hp1 hbl hps hlt h2 hp he
          go_wp2_with (first | (rw [V1.out]) | (go_at_call 37; (with_reducible refine (BL.out _).mono ?_); rintro e w3 ⟨rfl, rfl⟩) | (go_at_call 38; (with_reducible refine (NX.out _).mono ?_); rintro e w4 ⟨rfl, hN⟩; have HB4 := Aside0.mk (HB.out.trans (hN.mono HB.out.size)); clear hN) | ((with_reducible refine gate_dst (N := 5) rfl ?_); refine box_event ?hg (N := 5) ?hd (cs := #[.int .i64 0, .int .i64 0, .int .i64 0, .string ⟨#[]⟩]) (t := 63) ?hr ?_; (case hd => rfl); (case hg => rfl); (case hr => first | (go_simp; done) | (go_simp; rfl)); intro g hg w5 hbox hb; have K6 := Aside0.mk hbox; have GE := Aside0.mk ((by rw [hg]; exact HB4.out.size) : w.heap.size ≤ g); have HB5 := Aside0.mk (below_step HB4.out hb); clear hbox hb hg HB4; have k0 : w5.cell? ⟨g, 0, none⟩ = some (.int .i64 0) := (blk_cell K6.out 0).trans rfl; have k1 : w5.cell? ⟨g, 1, none⟩ = some (.int .i64 0) := (blk_cell K6.out 1).trans rfl; have k2 : w5.cell? ⟨g, 2, none⟩ = some (.int .i64 0) := (blk_cell K6.out 2).trans rfl; have k3 : w5.cell? ⟨g, 3, none⟩ = some (.string ⟨#[]⟩) := (blk_cell K6.out 3).trans rfl; have kf0 := blk_frozen K6.out 0; have kf1 := blk_frozen K6.out 1; have kf2 := blk_frozen K6.out 2; have kf3 := blk_frozen K6.out 3))
          simp only [Exit.noGoto]
          refine bodyPost_ret (v := .tuple #[.slice none 0 0, .int .i64 (p1 : Int), .int .i64 er]) (by simp [results, Tryd.results25, go_sem]) rfl ?_
          exact ⟨_, rfl, Kd.R_nil _ _ _ _ _, by exact below_set (below_set (below_set (below_set HB5.out GE.out) GE.out) GE.out) GE.out⟩
      · obtain rfl : p1 = s.size := by omega
        have t1 : ((s.size : Int) == (s.size : Int)) = true := by simp
        rw [if_pos (by rw [List.length_drop, lst_len]; omega)] at hF
        simp only [Prod.mk.injEq] at hF
        obtain ⟨rfl, rfl, rfl⟩ := hF
        obtain ⟨A, c, rfl, hc, hC⟩ := Kd.R_reads HO.out
        have CC := Aside0.mk hC
        have XL := Aside0.mk (show xs.length ≤ 4000 by omega)
        clear hf hxs hb hp1 hbl hps hlt h2 hp hc hC
        go_wp2_with (first | (rw [V1.out]) | (go_at_call 37; (with_reducible refine (BL.out _).mono ?_); rintro e w3 ⟨rfl, rfl⟩) | ((with_reducible refine gate_builtin (b := .append) (xs := #[.const (.slice none 0 0), .tmp 42]) rfl ?_); at_builtin; refine Kd.R_append_rows k63 (w0 := w) w.heap.size rfl (.const (.slice none 0 0)) (.tmp 42) 53 63 (.agg #[(.int .i64 0), (.int .i64 0), (.int .i64 0), (.string ⟨#[]⟩)]) 40 rfl Tryd.underlying53 info63 rfl (by decide) (by omega) (.slice none 0 0) [] xs A xs.length c (fun _ => True) (fun _ => True) rfl rfl (Kd.R_nil _ _ _ _ _) CC.out ?aM ?aP (fun _ _ => trivial) HB.out HB.out.size ?aL ?_; (case aM => exact (fun x cs h => by obtain rfl := k63_open h; exact k63_mkM _ _ _ x)); (case aP => exact (fun k_ _ => ⟨trivial, by simp [Value.ownBlock]⟩)); (case aL => have := XL.out; simp only [List.length_nil]; omega); intro v8 w8 ho hb hg hat; have HO8 := Aside0.mk ho; have HB8 := Aside0.mk hb; clear ho hb hg hat))
        simp only [Exit.noGoto]
        refine bodyPost_ret (v := .tuple #[v8, .int .i64 0, .int .i64 0]) (by simp [results, Tryd.results25, go_sem]) rfl ?_
        exact ⟨_, rfl, HO8.out, HB8.out⟩
end Go.Proofs.YtkkmgahgejjhgaaDoor.Lex
namespace Go.Proofs.YtkkmgahgejjhgaaDoor.P
open Go.RowKit Go.Proofs.YtkkmgahgejjhgaaDoorW.PrintWords
end Go.Proofs.YtkkmgahgejjhgaaDoor.P
