/- TermSubsts: its drawn regions, each by one relation (printed by gensub.py) -/
import Derived.Test.YtcchfblekaaalaaDoorHandGo
import Derived.Test.YtcchfblekaaalaaDoorSubA
namespace Go.Proofs.YtcchfblekaaalaaDoor.P
open Go.RowKit Go.Proofs.YtcchfblekaaalaaDoorW.PrintWords Go.Proofs.YtcchfblekaaalaaDoorW.PrintLast Go.Proofs.YtcchfblekaaalaaDoorW.PrintMore
set_option linter.unusedVariables false
set_option linter.unusedSimpArgs false
set_option maxHeartbeats 4000000 in
set_option maxRecDepth 100000 in
theorem substs_r5 {Q : Exit → Act → World → Prop} {a : Act} {W : World} (hsz : a.tmps.size = 71) (kk : Nat) (pd qd : Int) (Ad : Option Addr) (cd : Nat) (ld : List S24) (bd : Nat) (hd : a.tmps[4]? = some (.pointer (some ⟨bd, 0, none⟩))) (Bd_ : W.heap[bd]? = some (.cells #[.int .i64 pd, .int .i64 qd, .slice Ad ld.length cd] 24 (0, 0))) (Rd_ : Kd.C k24 W Ad ld.length ld) (Cd_ : ld.length ≤ cd)
    (pe qe : Int) (Ae : Option Addr) (ce : Nat) (le : List S24) (be : Nat) (he : a.tmps[5]? = some (.pointer (some ⟨be, 0, none⟩))) (Be_ : W.heap[be]? = some (.cells #[.int .i64 pe, .int .i64 qe, .slice Ae le.length ce] 24 (0, 0))) (Re_ : Kd.C k24 W Ae le.length le) (Ce_ : le.length ≤ ce)
    (pf qf : Int) (Af : Option Addr) (cf : Nat) (lf : List S24) (bf : Nat) (hf : a.tmps[6]? = some (.pointer (some ⟨bf, 0, none⟩))) (Bf_ : W.heap[bf]? = some (.cells #[.int .i64 pf, .int .i64 qf, .slice Af lf.length cf] 24 (0, 0))) (Rf_ : Kd.C k24 W Af lf.length lf) (Cf_ : lf.length ≤ cf)
    (r1_0 r1_1 : Int) (k1_ : List S29)
    (r3_0 r3_1 : Int) (k3_ : List S29)
    (r5_0 r5_1 : Int) (k5_ : List S29)
    (H1 : thyrsuslaw1_Make.f kk pd qd ld 5 4 = some (r1_0, r1_1, k1_))
    (H3 : thyrsuslaw1_Make.f kk pe qe le 3 3 = some (r3_0, r3_1, k3_))
    (H5 : thyrsuslaw1_Make.f kk pf qf lf 3 3 = some (r5_0, r5_1, k5_))
    (hQ : ∀ (u1 u3 u5 : Value) (g6 g7 g8 : Nat) (w' : World), Below W.heap.size W w' → W.heap.size ≤ g6 → w'.heap[g6]? = some (.cells #[.int .i64 r1_0, .int .i64 r1_1, u1] 29 (0, 0)) → TV w' (fun _ => False) u1 k1_ → W.heap.size ≤ g7 → w'.heap[g7]? = some (.cells #[.int .i64 r3_0, .int .i64 r3_1, u3] 29 (0, 0)) → TV w' (fun _ => False) u3 k3_ → W.heap.size ≤ g8 → w'.heap[g8]? = some (.cells #[.int .i64 r5_0, .int .i64 r5_1, u5] 29 (0, 0)) → TV w' (fun _ => False) u5 k5_ → Q .normal (((((((((a.put (some 31) (.agg #[.int .i64 pd, .int .i64 qd, .slice Ad ld.length cd])).put (some 32) (.agg #[.int .i64 r1_0, .int .i64 r1_1, u1])).put (some 33) (.agg #[.int .i64 pe, .int .i64 qe, .slice Ae le.length ce])).put (some 34) (.agg #[.int .i64 r3_0, .int .i64 r3_1, u3])).put (some 35) (.agg #[.int .i64 pf, .int .i64 qf, .slice Af lf.length cf])).put (some 36) (.agg #[.int .i64 r5_0, .int .i64 r5_1, u5])).put (some 9) (.pointer (some ⟨g6, 0, none⟩))).put (some 10) (.pointer (some ⟨g7, 0, none⟩))).put (some 11) (.pointer (some ⟨g8, 0, none⟩))) w') :
    (Code.region 5 (opsOf Tryd.f5 5) true).wp Tryd.prog Q a W := by
  have HT_ := Aside0.mk thyrsuslaw4_TermSubsts.tab5
  have HW_ := Aside0.mk thyrsuslaw4_TermSubsts.bits5
  have BKd := Aside0.mk Bd_
  have HRd := Aside0.mk Rd_
  have HCd := Aside0.mk Cd_
  clear Bd_ Rd_ Cd_
  have BKe := Aside0.mk Be_
  have HRe := Aside0.mk Re_
  have HCe := Aside0.mk Ce_
  clear Be_ Re_ Ce_
  have BKf := Aside0.mk Bf_
  have HRf := Aside0.mk Rf_
  have HCf := Aside0.mk Cf_
  clear Bf_ Rf_ Cf_
  have AH1 := Aside0.mk H1
  clear H1
  have AH3 := Aside0.mk H3
  clear H3
  have AH5 := Aside0.mk H5
  clear H5
  have HB := Aside0.mk (below_drew1 (Below.refl W.heap.size W))
  conv in (opsOf Tryd.f5 5) => whnf
  refine start_ (n := 12) (S := fun w' => True) (ds := []) #[false, false, false, false, false, false, false, false, false, false, false, false] (by kernel_rfl) rfl rfl trivial (fun hHeld => ?_)
  clear hHeld
  generalize W.drew = W1 at HB ⊢
  refine inv_at [0, 1, 2, 3, 4, 5, 6, 7, 8, 9, 10, 11] (fun a0_ b a w' => ∃ (u1 : Value) (u3 : Value) (u5 : Value) (g6 : Nat) (g7 : Nat) (g8 : Nat) (m1_ : Value) (m3_ : Value) (m5_ : Value) (m6_ : Value) (m7_ : Value) (m8_ : Value), a = putSel a0_ b [(0, 31, .agg #[.int .i64 pd, .int .i64 qd, .slice Ad ld.length cd]), (1, 32, m1_), (2, 33, .agg #[.int .i64 pe, .int .i64 qe, .slice Ae le.length ce]), (3, 34, m3_), (4, 35, .agg #[.int .i64 pf, .int .i64 qf, .slice Af lf.length cf]), (5, 36, m5_), (6, 9, m6_), (7, 10, m7_), (8, 11, m8_)] ∧ (Below W.heap.size W w') ∧ (b 1 = true → TV w' (fun k_ => (b 6 = true ∧ k_ = g6) ∨ (b 7 = true ∧ k_ = g7) ∨ (b 8 = true ∧ k_ = g8)) u1 k1_) ∧ (b 3 = true → TV w' (fun k_ => (b 6 = true ∧ k_ = g6) ∨ (b 7 = true ∧ k_ = g7) ∨ (b 8 = true ∧ k_ = g8)) u3 k3_) ∧ (b 5 = true → TV w' (fun k_ => (b 6 = true ∧ k_ = g6) ∨ (b 7 = true ∧ k_ = g7) ∨ (b 8 = true ∧ k_ = g8)) u5 k5_) ∧ (b 6 = true → W.heap.size ≤ g6 ∧ g6 < w'.heap.size) ∧ (b 6 = true → b 9 = false → w'.heap[g6]? = some (.cells #[.int .i64 0, .int .i64 0, .slice none 0 0] 29 (0, 0))) ∧ (b 9 = true → w'.heap[g6]? = some (.cells #[.int .i64 r1_0, .int .i64 r1_1, u1] 29 (0, 0))) ∧ (b 7 = true → W.heap.size ≤ g7 ∧ g7 < w'.heap.size) ∧ (b 7 = true → b 10 = false → w'.heap[g7]? = some (.cells #[.int .i64 0, .int .i64 0, .slice none 0 0] 29 (0, 0))) ∧ (b 10 = true → w'.heap[g7]? = some (.cells #[.int .i64 r3_0, .int .i64 r3_1, u3] 29 (0, 0))) ∧ (b 8 = true → W.heap.size ≤ g8 ∧ g8 < w'.heap.size) ∧ (b 8 = true → b 11 = false → w'.heap[g8]? = some (.cells #[.int .i64 0, .int .i64 0, .slice none 0 0] 29 (0, 0))) ∧ (b 11 = true → w'.heap[g8]? = some (.cells #[.int .i64 r5_0, .int .i64 r5_1, u5] 29 (0, 0))) ∧ (b 6 = true → b 7 = true → g6 ≠ g7) ∧ (b 6 = true → b 8 = true → g6 ≠ g8) ∧ (b 7 = true → b 8 = true → g7 ≠ g8) ∧ (b 1 = true → (m1_ : Value) = .agg #[.int .i64 r1_0, .int .i64 r1_1, u1]) ∧ (b 3 = true → (m3_ : Value) = .agg #[.int .i64 r3_0, .int .i64 r3_1, u3]) ∧ (b 5 = true → (m5_ : Value) = .agg #[.int .i64 r5_0, .int .i64 r5_1, u5]) ∧ (b 6 = true → (m6_ : Value) = .pointer (some ⟨g6, 0, none⟩)) ∧ (b 7 = true → (m7_ : Value) = .pointer (some ⟨g7, 0, none⟩)) ∧ (b 8 = true → (m8_ : Value) = .pointer (some ⟨g8, 0, none⟩))) HT_.out HW_.out (by kernel_rfl) (by kernel_rfl) ?_ ?_ ?_
  · exact ⟨.bool false, .bool false, .bool false, 0, 0, 0, .bool false, .bool false, .bool false, .bool false, .bool false, .bool false, by simp only [putSel, Bool.false_eq_true, if_false], HB.out, fun h_ => absurd h_ (by decide), fun h_ => absurd h_ (by decide), fun h_ => absurd h_ (by decide), fun h_ => absurd h_ (by decide), fun h_ => absurd h_ (by decide), fun h_ => absurd h_ (by decide), fun h_ => absurd h_ (by decide), fun h_ => absurd h_ (by decide), fun h_ => absurd h_ (by decide), fun h_ => absurd h_ (by decide), fun h_ => absurd h_ (by decide), fun h_ => absurd h_ (by decide), fun h_ => absurd h_ (by decide), fun h_ => absurd h_ (by decide), fun h_ => absurd h_ (by decide), fun h_ => absurd h_ (by decide), fun h_ => absurd h_ (by decide), fun h_ => absurd h_ (by decide), fun h_ => absurd h_ (by decide), fun h_ => absurd h_ (by decide), fun h_ => absurd h_ (by decide)⟩
  · skip
    clear HB
    refine steps_cons ?_ ?_
    · rintro b a w' ⟨u1, u3, u5, g6, g7, g8, m1_, m3_, m5_, m6_, m7_, m8_, ha, Q_HB, Q_F1, Q_F3, Q_F5, Q_Z6, Q_B6, Q_S6, Q_Z7, Q_B7, Q_S7, Q_Z8, Q_B8, Q_S8, Q_N6_7, Q_N6_8, Q_N7_8, Q_X1_, Q_X3_, Q_X5_, Q_X6_, Q_X7_, Q_X8_⟩ hb_ hon hoff
      refine ⟨_, rfl, fun K hK => ?_⟩
      have e4 : a.tmps[4]? = some (.pointer (some ⟨bd, 0, none⟩)) := by rw [ha]; exact (putSel_off rfl).trans hd
      replace ha := Aside0.mk ha
      have HB := Aside0.mk Q_HB
      have hc0_ : w'.cell? ⟨bd, 0, none⟩ = some (.int .i64 pd) := (blk_cell (blk_below BKd.out HB.out) 0).trans rfl
      have hc1_ : w'.cell? ⟨bd, 1, none⟩ = some (.int .i64 qd) := (blk_cell (blk_below BKd.out HB.out) 1).trans rfl
      have hc2_ : w'.cell? ⟨bd, 2, none⟩ = some (.slice Ad ld.length cd) := (blk_cell (blk_below BKd.out HB.out) 2).trans rfl
      refine value_ (w1 := w') (v := .agg #[.int .i64 pd, .int .i64 qd, .slice Ad ld.length cd]) (by rfl) rfl ?_ ?_
      · go_simp
        (try simp only [i64_w])
        try rfl
      refine hK.out _ _ ⟨u1, u3, u5, g6, g7, g8, m1_, m3_, m5_, m6_, m7_, m8_, (by rw [ha.out]; exact putSel_upk 0 hb_ rfl rfl rfl), Q_HB, fun h0_ => absurd ((hoff 1 (by kernel_rfl)).symm.trans h0_) (by decide), fun h0_ => absurd ((hoff 3 (by kernel_rfl)).symm.trans h0_) (by decide), fun h0_ => absurd ((hoff 5 (by kernel_rfl)).symm.trans h0_) (by decide), Q_Z6, Q_B6, fun h0_ => absurd ((hoff 9 (by kernel_rfl)).symm.trans h0_) (by decide), Q_Z7, Q_B7, fun h0_ => absurd ((hoff 10 (by kernel_rfl)).symm.trans h0_) (by decide), Q_Z8, Q_B8, fun h0_ => absurd ((hoff 11 (by kernel_rfl)).symm.trans h0_) (by decide), Q_N6_7, Q_N6_8, Q_N7_8, fun h0_ => absurd ((hoff 1 (by kernel_rfl)).symm.trans h0_) (by decide), fun h0_ => absurd ((hoff 3 (by kernel_rfl)).symm.trans h0_) (by decide), fun h0_ => absurd ((hoff 5 (by kernel_rfl)).symm.trans h0_) (by decide), Q_X6_, Q_X7_, Q_X8_⟩
    refine steps_cons ?_ ?_
    · rintro b a w' ⟨u1, u3, u5, g6, g7, g8, m1_, m3_, m5_, m6_, m7_, m8_, ha, Q_HB, Q_F1, Q_F3, Q_F5, Q_Z6, Q_B6, Q_S6, Q_Z7, Q_B7, Q_S7, Q_Z8, Q_B8, Q_S8, Q_N6_7, Q_N6_8, Q_N7_8, Q_X1_, Q_X3_, Q_X5_, Q_X6_, Q_X7_, Q_X8_⟩ hb_ hon hoff
      refine ⟨_, rfl, fun K hK => ?_⟩
      have e31 : a.tmps[31]? = some (.agg #[.int .i64 pd, .int .i64 qd, .slice Ad ld.length cd]) := by rw [ha]; exact putSel_on (e := (0, 31, .agg #[.int .i64 pd, .int .i64 qd, .slice Ad ld.length cd])) 0 rfl rfl (hon 0 (by kernel_rfl)) (by rw [hsz]; rfl)
      replace ha := Aside0.mk ha
      have HB := Aside0.mk Q_HB
      refine goes_ Tryd.func16 (by kernel_rfl) rfl #[.agg #[.int .i64 pd, .int .i64 qd, .slice Ad ld.length cd], .int .i64 5, .int .i64 4] (by rfl) rfl rfl (by first | (simp only [List.map_toArray, List.map_cons, List.map_nil, Act.eval, Array.getD_eq_getD_getElem?, Option.getD_some, e31]; done) | (simp only [List.map_toArray, List.map_cons, List.map_nil, Act.eval, Array.getD_eq_getD_getElem?, Option.getD_some, e31]; rfl)) ?_
      refine (make_go kk pd qd Ad cd ld 5 4 r1_0 r1_1 k1_ w' (fun k_ => (b 6 = true ∧ k_ = g6) ∨ (b 7 = true ∧ k_ = g7) ∨ (b 8 = true ∧ k_ = g8)) (fun k_ h_ => h_.elim (fun h_ => h_.2 ▸ (Q_Z6 h_.1).2) (fun h_ => h_.elim (fun h_ => h_.2 ▸ (Q_Z7 h_.1).2) (fun h_ => h_.2 ▸ (Q_Z8 h_.1).2))) (Kd.C_below HRd.out HB.out) HCd.out AH1.out).mono ?_
      rintro e w1 ⟨v_, rfl, hv, hb⟩
      refine ⟨_, rfl, ?_⟩
      refine hK.out _ _ ⟨v_, u3, u5, g6, g7, g8, (.agg #[.int .i64 r1_0, .int .i64 r1_1, v_]), m3_, m5_, m6_, m7_, m8_, (by rw [ha.out]; exact putSel_upk 1 hb_ rfl rfl rfl), below_step HB.out hb, fun _ => hv, fun h0_ => absurd ((hoff 3 (by kernel_rfl)).symm.trans h0_) (by decide), fun h0_ => absurd ((hoff 5 (by kernel_rfl)).symm.trans h0_) (by decide), fun h0_ => ⟨(Q_Z6 h0_).1, Nat.lt_of_lt_of_le (Q_Z6 h0_).2 hb.size⟩, fun h0_ h1_ => blk_below (Q_B6 h0_ h1_) hb, fun h0_ => absurd ((hoff 9 (by kernel_rfl)).symm.trans h0_) (by decide), fun h0_ => ⟨(Q_Z7 h0_).1, Nat.lt_of_lt_of_le (Q_Z7 h0_).2 hb.size⟩, fun h0_ h1_ => blk_below (Q_B7 h0_ h1_) hb, fun h0_ => absurd ((hoff 10 (by kernel_rfl)).symm.trans h0_) (by decide), fun h0_ => ⟨(Q_Z8 h0_).1, Nat.lt_of_lt_of_le (Q_Z8 h0_).2 hb.size⟩, fun h0_ h1_ => blk_below (Q_B8 h0_ h1_) hb, fun h0_ => absurd ((hoff 11 (by kernel_rfl)).symm.trans h0_) (by decide), Q_N6_7, Q_N6_8, Q_N7_8, fun _ => rfl, fun h0_ => absurd ((hoff 3 (by kernel_rfl)).symm.trans h0_) (by decide), fun h0_ => absurd ((hoff 5 (by kernel_rfl)).symm.trans h0_) (by decide), Q_X6_, Q_X7_, Q_X8_⟩
    refine steps_cons ?_ ?_
    · rintro b a w' ⟨u1, u3, u5, g6, g7, g8, m1_, m3_, m5_, m6_, m7_, m8_, ha, Q_HB, Q_F1, Q_F3, Q_F5, Q_Z6, Q_B6, Q_S6, Q_Z7, Q_B7, Q_S7, Q_Z8, Q_B8, Q_S8, Q_N6_7, Q_N6_8, Q_N7_8, Q_X1_, Q_X3_, Q_X5_, Q_X6_, Q_X7_, Q_X8_⟩ hb_ hon hoff
      refine ⟨_, rfl, fun K hK => ?_⟩
      have e5 : a.tmps[5]? = some (.pointer (some ⟨be, 0, none⟩)) := by rw [ha]; exact (putSel_off rfl).trans he
      replace ha := Aside0.mk ha
      have HB := Aside0.mk Q_HB
      have hc0_ : w'.cell? ⟨be, 0, none⟩ = some (.int .i64 pe) := (blk_cell (blk_below BKe.out HB.out) 0).trans rfl
      have hc1_ : w'.cell? ⟨be, 1, none⟩ = some (.int .i64 qe) := (blk_cell (blk_below BKe.out HB.out) 1).trans rfl
      have hc2_ : w'.cell? ⟨be, 2, none⟩ = some (.slice Ae le.length ce) := (blk_cell (blk_below BKe.out HB.out) 2).trans rfl
      refine value_ (w1 := w') (v := .agg #[.int .i64 pe, .int .i64 qe, .slice Ae le.length ce]) (by rfl) rfl ?_ ?_
      · go_simp
        (try simp only [i64_w])
        try rfl
      refine hK.out _ _ ⟨u1, u3, u5, g6, g7, g8, m1_, m3_, m5_, m6_, m7_, m8_, (by rw [ha.out]; exact putSel_upk 2 hb_ rfl rfl rfl), Q_HB, Q_F1, fun h0_ => absurd ((hoff 3 (by kernel_rfl)).symm.trans h0_) (by decide), fun h0_ => absurd ((hoff 5 (by kernel_rfl)).symm.trans h0_) (by decide), Q_Z6, Q_B6, fun h0_ => absurd ((hoff 9 (by kernel_rfl)).symm.trans h0_) (by decide), Q_Z7, Q_B7, fun h0_ => absurd ((hoff 10 (by kernel_rfl)).symm.trans h0_) (by decide), Q_Z8, Q_B8, fun h0_ => absurd ((hoff 11 (by kernel_rfl)).symm.trans h0_) (by decide), Q_N6_7, Q_N6_8, Q_N7_8, Q_X1_, fun h0_ => absurd ((hoff 3 (by kernel_rfl)).symm.trans h0_) (by decide), fun h0_ => absurd ((hoff 5 (by kernel_rfl)).symm.trans h0_) (by decide), Q_X6_, Q_X7_, Q_X8_⟩
    refine steps_cons ?_ ?_
    · rintro b a w' ⟨u1, u3, u5, g6, g7, g8, m1_, m3_, m5_, m6_, m7_, m8_, ha, Q_HB, Q_F1, Q_F3, Q_F5, Q_Z6, Q_B6, Q_S6, Q_Z7, Q_B7, Q_S7, Q_Z8, Q_B8, Q_S8, Q_N6_7, Q_N6_8, Q_N7_8, Q_X1_, Q_X3_, Q_X5_, Q_X6_, Q_X7_, Q_X8_⟩ hb_ hon hoff
      refine ⟨_, rfl, fun K hK => ?_⟩
      have e33 : a.tmps[33]? = some (.agg #[.int .i64 pe, .int .i64 qe, .slice Ae le.length ce]) := by rw [ha]; exact putSel_on (e := (2, 33, .agg #[.int .i64 pe, .int .i64 qe, .slice Ae le.length ce])) 2 rfl rfl (hon 2 (by kernel_rfl)) (by rw [hsz]; rfl)
      replace ha := Aside0.mk ha
      have HB := Aside0.mk Q_HB
      have F1 := Aside0.mk (Q_F1 (hon 1 (by kernel_rfl)))
      refine goes_ Tryd.func16 (by kernel_rfl) rfl #[.agg #[.int .i64 pe, .int .i64 qe, .slice Ae le.length ce], .int .i64 3, .int .i64 3] (by rfl) rfl rfl (by first | (simp only [List.map_toArray, List.map_cons, List.map_nil, Act.eval, Array.getD_eq_getD_getElem?, Option.getD_some, e33]; done) | (simp only [List.map_toArray, List.map_cons, List.map_nil, Act.eval, Array.getD_eq_getD_getElem?, Option.getD_some, e33]; rfl)) ?_
      refine (make_go kk pe qe Ae ce le 3 3 r3_0 r3_1 k3_ w' (fun k_ => (b 6 = true ∧ k_ = g6) ∨ (b 7 = true ∧ k_ = g7) ∨ (b 8 = true ∧ k_ = g8)) (fun k_ h_ => h_.elim (fun h_ => h_.2 ▸ (Q_Z6 h_.1).2) (fun h_ => h_.elim (fun h_ => h_.2 ▸ (Q_Z7 h_.1).2) (fun h_ => h_.2 ▸ (Q_Z8 h_.1).2))) (Kd.C_below HRe.out HB.out) HCe.out AH3.out).mono ?_
      rintro e w1 ⟨v_, rfl, hv, hb⟩
      refine ⟨_, rfl, ?_⟩
      refine hK.out _ _ ⟨u1, v_, u5, g6, g7, g8, m1_, (.agg #[.int .i64 r3_0, .int .i64 r3_1, v_]), m5_, m6_, m7_, m8_, (by rw [ha.out]; exact putSel_upk 3 hb_ rfl rfl rfl), below_step HB.out hb, fun _ => F1.out.step hb, fun _ => hv, fun h0_ => absurd ((hoff 5 (by kernel_rfl)).symm.trans h0_) (by decide), fun h0_ => ⟨(Q_Z6 h0_).1, Nat.lt_of_lt_of_le (Q_Z6 h0_).2 hb.size⟩, fun h0_ h1_ => blk_below (Q_B6 h0_ h1_) hb, fun h0_ => absurd ((hoff 9 (by kernel_rfl)).symm.trans h0_) (by decide), fun h0_ => ⟨(Q_Z7 h0_).1, Nat.lt_of_lt_of_le (Q_Z7 h0_).2 hb.size⟩, fun h0_ h1_ => blk_below (Q_B7 h0_ h1_) hb, fun h0_ => absurd ((hoff 10 (by kernel_rfl)).symm.trans h0_) (by decide), fun h0_ => ⟨(Q_Z8 h0_).1, Nat.lt_of_lt_of_le (Q_Z8 h0_).2 hb.size⟩, fun h0_ h1_ => blk_below (Q_B8 h0_ h1_) hb, fun h0_ => absurd ((hoff 11 (by kernel_rfl)).symm.trans h0_) (by decide), Q_N6_7, Q_N6_8, Q_N7_8, Q_X1_, fun _ => rfl, fun h0_ => absurd ((hoff 5 (by kernel_rfl)).symm.trans h0_) (by decide), Q_X6_, Q_X7_, Q_X8_⟩
    refine steps_cons ?_ ?_
    · rintro b a w' ⟨u1, u3, u5, g6, g7, g8, m1_, m3_, m5_, m6_, m7_, m8_, ha, Q_HB, Q_F1, Q_F3, Q_F5, Q_Z6, Q_B6, Q_S6, Q_Z7, Q_B7, Q_S7, Q_Z8, Q_B8, Q_S8, Q_N6_7, Q_N6_8, Q_N7_8, Q_X1_, Q_X3_, Q_X5_, Q_X6_, Q_X7_, Q_X8_⟩ hb_ hon hoff
      refine ⟨_, rfl, fun K hK => ?_⟩
      have e6 : a.tmps[6]? = some (.pointer (some ⟨bf, 0, none⟩)) := by rw [ha]; exact (putSel_off rfl).trans hf
      replace ha := Aside0.mk ha
      have HB := Aside0.mk Q_HB
      have hc0_ : w'.cell? ⟨bf, 0, none⟩ = some (.int .i64 pf) := (blk_cell (blk_below BKf.out HB.out) 0).trans rfl
      have hc1_ : w'.cell? ⟨bf, 1, none⟩ = some (.int .i64 qf) := (blk_cell (blk_below BKf.out HB.out) 1).trans rfl
      have hc2_ : w'.cell? ⟨bf, 2, none⟩ = some (.slice Af lf.length cf) := (blk_cell (blk_below BKf.out HB.out) 2).trans rfl
      refine value_ (w1 := w') (v := .agg #[.int .i64 pf, .int .i64 qf, .slice Af lf.length cf]) (by rfl) rfl ?_ ?_
      · go_simp
        (try simp only [i64_w])
        try rfl
      refine hK.out _ _ ⟨u1, u3, u5, g6, g7, g8, m1_, m3_, m5_, m6_, m7_, m8_, (by rw [ha.out]; exact putSel_upk 4 hb_ rfl rfl rfl), Q_HB, Q_F1, Q_F3, fun h0_ => absurd ((hoff 5 (by kernel_rfl)).symm.trans h0_) (by decide), Q_Z6, Q_B6, fun h0_ => absurd ((hoff 9 (by kernel_rfl)).symm.trans h0_) (by decide), Q_Z7, Q_B7, fun h0_ => absurd ((hoff 10 (by kernel_rfl)).symm.trans h0_) (by decide), Q_Z8, Q_B8, fun h0_ => absurd ((hoff 11 (by kernel_rfl)).symm.trans h0_) (by decide), Q_N6_7, Q_N6_8, Q_N7_8, Q_X1_, Q_X3_, fun h0_ => absurd ((hoff 5 (by kernel_rfl)).symm.trans h0_) (by decide), Q_X6_, Q_X7_, Q_X8_⟩
    refine steps_cons ?_ ?_
    · rintro b a w' ⟨u1, u3, u5, g6, g7, g8, m1_, m3_, m5_, m6_, m7_, m8_, ha, Q_HB, Q_F1, Q_F3, Q_F5, Q_Z6, Q_B6, Q_S6, Q_Z7, Q_B7, Q_S7, Q_Z8, Q_B8, Q_S8, Q_N6_7, Q_N6_8, Q_N7_8, Q_X1_, Q_X3_, Q_X5_, Q_X6_, Q_X7_, Q_X8_⟩ hb_ hon hoff
      refine ⟨_, rfl, fun K hK => ?_⟩
      have e35 : a.tmps[35]? = some (.agg #[.int .i64 pf, .int .i64 qf, .slice Af lf.length cf]) := by rw [ha]; exact putSel_on (e := (4, 35, .agg #[.int .i64 pf, .int .i64 qf, .slice Af lf.length cf])) 4 rfl rfl (hon 4 (by kernel_rfl)) (by rw [hsz]; rfl)
      replace ha := Aside0.mk ha
      have HB := Aside0.mk Q_HB
      have F1 := Aside0.mk (Q_F1 (hon 1 (by kernel_rfl)))
      have F3 := Aside0.mk (Q_F3 (hon 3 (by kernel_rfl)))
      refine goes_ Tryd.func16 (by kernel_rfl) rfl #[.agg #[.int .i64 pf, .int .i64 qf, .slice Af lf.length cf], .int .i64 3, .int .i64 3] (by rfl) rfl rfl (by first | (simp only [List.map_toArray, List.map_cons, List.map_nil, Act.eval, Array.getD_eq_getD_getElem?, Option.getD_some, e35]; done) | (simp only [List.map_toArray, List.map_cons, List.map_nil, Act.eval, Array.getD_eq_getD_getElem?, Option.getD_some, e35]; rfl)) ?_
      refine (make_go kk pf qf Af cf lf 3 3 r5_0 r5_1 k5_ w' (fun k_ => (b 6 = true ∧ k_ = g6) ∨ (b 7 = true ∧ k_ = g7) ∨ (b 8 = true ∧ k_ = g8)) (fun k_ h_ => h_.elim (fun h_ => h_.2 ▸ (Q_Z6 h_.1).2) (fun h_ => h_.elim (fun h_ => h_.2 ▸ (Q_Z7 h_.1).2) (fun h_ => h_.2 ▸ (Q_Z8 h_.1).2))) (Kd.C_below HRf.out HB.out) HCf.out AH5.out).mono ?_
      rintro e w1 ⟨v_, rfl, hv, hb⟩
      refine ⟨_, rfl, ?_⟩
      refine hK.out _ _ ⟨u1, u3, v_, g6, g7, g8, m1_, m3_, (.agg #[.int .i64 r5_0, .int .i64 r5_1, v_]), m6_, m7_, m8_, (by rw [ha.out]; exact putSel_upk 5 hb_ rfl rfl rfl), below_step HB.out hb, fun _ => F1.out.step hb, fun _ => F3.out.step hb, fun _ => hv, fun h0_ => ⟨(Q_Z6 h0_).1, Nat.lt_of_lt_of_le (Q_Z6 h0_).2 hb.size⟩, fun h0_ h1_ => blk_below (Q_B6 h0_ h1_) hb, fun h0_ => absurd ((hoff 9 (by kernel_rfl)).symm.trans h0_) (by decide), fun h0_ => ⟨(Q_Z7 h0_).1, Nat.lt_of_lt_of_le (Q_Z7 h0_).2 hb.size⟩, fun h0_ h1_ => blk_below (Q_B7 h0_ h1_) hb, fun h0_ => absurd ((hoff 10 (by kernel_rfl)).symm.trans h0_) (by decide), fun h0_ => ⟨(Q_Z8 h0_).1, Nat.lt_of_lt_of_le (Q_Z8 h0_).2 hb.size⟩, fun h0_ h1_ => blk_below (Q_B8 h0_ h1_) hb, fun h0_ => absurd ((hoff 11 (by kernel_rfl)).symm.trans h0_) (by decide), Q_N6_7, Q_N6_8, Q_N7_8, Q_X1_, Q_X3_, fun _ => rfl, Q_X6_, Q_X7_, Q_X8_⟩
    refine steps_cons ?_ ?_
    · rintro b a w' ⟨u1, u3, u5, g6, g7, g8, m1_, m3_, m5_, m6_, m7_, m8_, ha, Q_HB, Q_F1, Q_F3, Q_F5, Q_Z6, Q_B6, Q_S6, Q_Z7, Q_B7, Q_S7, Q_Z8, Q_B8, Q_S8, Q_N6_7, Q_N6_8, Q_N7_8, Q_X1_, Q_X3_, Q_X5_, Q_X6_, Q_X7_, Q_X8_⟩ hb_ hon hoff
      refine ⟨_, rfl, fun K hK => ?_⟩
      replace ha := Aside0.mk ha
      have HB := Aside0.mk Q_HB
      refine box_step ?hg (N := 9) ?hd (cs := #[.int .i64 0, .int .i64 0, .slice none 0 0]) (t := 29) ?hr ?_; (case hd => rfl); (case hg => rfl); (case hr => first | (go_simp; done) | (go_simp; rfl))
      intro gn hg w1 hbox hb
      refine hK.out _ _ ⟨u1, u3, u5, gn, g7, g8, m1_, m3_, m5_, (.pointer (some ⟨gn, 0, none⟩)), m7_, m8_, (by rw [ha.out]; exact putSel_upk 6 hb_ rfl rfl rfl), below_step HB.out hb, fun h0_ => (Q_F1 h0_).below hb (fun k_ h_ => h_.elim (fun h_ => .inr (by rw [h_.2, hg]; exact Nat.le_refl _)) (fun h_ => h_.elim (fun h_ => .inl (.inr (.inl h_))) (fun h_ => .inl (.inr (.inr h_))))), fun h0_ => (Q_F3 h0_).below hb (fun k_ h_ => h_.elim (fun h_ => .inr (by rw [h_.2, hg]; exact Nat.le_refl _)) (fun h_ => h_.elim (fun h_ => .inl (.inr (.inl h_))) (fun h_ => .inl (.inr (.inr h_))))), fun h0_ => (Q_F5 h0_).below hb (fun k_ h_ => h_.elim (fun h_ => .inr (by rw [h_.2, hg]; exact Nat.le_refl _)) (fun h_ => h_.elim (fun h_ => .inl (.inr (.inl h_))) (fun h_ => .inl (.inr (.inr h_))))), fun _ => ⟨by rw [hg]; exact below_size HB.out, blk_lt hbox⟩, fun _ _ => hbox, fun h0_ => absurd ((hoff 9 (by kernel_rfl)).symm.trans h0_) (by decide), fun h0_ => ⟨(Q_Z7 h0_).1, Nat.lt_of_lt_of_le (Q_Z7 h0_).2 hb.size⟩, fun h0_ h1_ => blk_below (Q_B7 h0_ h1_) hb, fun h0_ => absurd ((hoff 10 (by kernel_rfl)).symm.trans h0_) (by decide), fun h0_ => ⟨(Q_Z8 h0_).1, Nat.lt_of_lt_of_le (Q_Z8 h0_).2 hb.size⟩, fun h0_ h1_ => blk_below (Q_B8 h0_ h1_) hb, fun h0_ => absurd ((hoff 11 (by kernel_rfl)).symm.trans h0_) (by decide), fun (h0_ : up b 6 6 = true) (h1_ : up b 6 7 = true) => (by have := (Q_Z7 h1_).2; omega), fun (h0_ : up b 6 6 = true) (h1_ : up b 6 8 = true) => (by have := (Q_Z8 h1_).2; omega), Q_N7_8, Q_X1_, Q_X3_, Q_X5_, fun _ => rfl, Q_X7_, Q_X8_⟩
    refine steps_cons ?_ ?_
    · rintro b a w' ⟨u1, u3, u5, g6, g7, g8, m1_, m3_, m5_, m6_, m7_, m8_, ha, Q_HB, Q_F1, Q_F3, Q_F5, Q_Z6, Q_B6, Q_S6, Q_Z7, Q_B7, Q_S7, Q_Z8, Q_B8, Q_S8, Q_N6_7, Q_N6_8, Q_N7_8, Q_X1_, Q_X3_, Q_X5_, Q_X6_, Q_X7_, Q_X8_⟩ hb_ hon hoff
      refine ⟨_, rfl, fun K hK => ?_⟩
      replace ha := Aside0.mk ha
      have HB := Aside0.mk Q_HB
      refine box_step ?hg (N := 10) ?hd (cs := #[.int .i64 0, .int .i64 0, .slice none 0 0]) (t := 29) ?hr ?_; (case hd => rfl); (case hg => rfl); (case hr => first | (go_simp; done) | (go_simp; rfl))
      intro gn hg w1 hbox hb
      refine hK.out _ _ ⟨u1, u3, u5, g6, gn, g8, m1_, m3_, m5_, m6_, (.pointer (some ⟨gn, 0, none⟩)), m8_, (by rw [ha.out]; exact putSel_upk 7 hb_ rfl rfl rfl), below_step HB.out hb, fun h0_ => (Q_F1 h0_).below hb (fun k_ h_ => h_.elim (fun h_ => .inl (.inl h_)) (fun h_ => h_.elim (fun h_ => .inr (by rw [h_.2, hg]; exact Nat.le_refl _)) (fun h_ => .inl (.inr (.inr h_))))), fun h0_ => (Q_F3 h0_).below hb (fun k_ h_ => h_.elim (fun h_ => .inl (.inl h_)) (fun h_ => h_.elim (fun h_ => .inr (by rw [h_.2, hg]; exact Nat.le_refl _)) (fun h_ => .inl (.inr (.inr h_))))), fun h0_ => (Q_F5 h0_).below hb (fun k_ h_ => h_.elim (fun h_ => .inl (.inl h_)) (fun h_ => h_.elim (fun h_ => .inr (by rw [h_.2, hg]; exact Nat.le_refl _)) (fun h_ => .inl (.inr (.inr h_))))), fun h0_ => ⟨(Q_Z6 h0_).1, Nat.lt_of_lt_of_le (Q_Z6 h0_).2 hb.size⟩, fun h0_ h1_ => blk_below (Q_B6 h0_ h1_) hb, fun h0_ => absurd ((hoff 9 (by kernel_rfl)).symm.trans h0_) (by decide), fun _ => ⟨by rw [hg]; exact below_size HB.out, blk_lt hbox⟩, fun _ _ => hbox, fun h0_ => absurd ((hoff 10 (by kernel_rfl)).symm.trans h0_) (by decide), fun h0_ => ⟨(Q_Z8 h0_).1, Nat.lt_of_lt_of_le (Q_Z8 h0_).2 hb.size⟩, fun h0_ h1_ => blk_below (Q_B8 h0_ h1_) hb, fun h0_ => absurd ((hoff 11 (by kernel_rfl)).symm.trans h0_) (by decide), fun (h0_ : up b 7 6 = true) (h1_ : up b 7 7 = true) => (by have := (Q_Z6 h0_).2; omega), Q_N6_8, fun (h0_ : up b 7 7 = true) (h1_ : up b 7 8 = true) => (by have := (Q_Z8 h1_).2; omega), Q_X1_, Q_X3_, Q_X5_, Q_X6_, fun _ => rfl, Q_X8_⟩
    refine steps_cons ?_ ?_
    · rintro b a w' ⟨u1, u3, u5, g6, g7, g8, m1_, m3_, m5_, m6_, m7_, m8_, ha, Q_HB, Q_F1, Q_F3, Q_F5, Q_Z6, Q_B6, Q_S6, Q_Z7, Q_B7, Q_S7, Q_Z8, Q_B8, Q_S8, Q_N6_7, Q_N6_8, Q_N7_8, Q_X1_, Q_X3_, Q_X5_, Q_X6_, Q_X7_, Q_X8_⟩ hb_ hon hoff
      refine ⟨_, rfl, fun K hK => ?_⟩
      replace ha := Aside0.mk ha
      have HB := Aside0.mk Q_HB
      refine box_step ?hg (N := 11) ?hd (cs := #[.int .i64 0, .int .i64 0, .slice none 0 0]) (t := 29) ?hr ?_; (case hd => rfl); (case hg => rfl); (case hr => first | (go_simp; done) | (go_simp; rfl))
      intro gn hg w1 hbox hb
      refine hK.out _ _ ⟨u1, u3, u5, g6, g7, gn, m1_, m3_, m5_, m6_, m7_, (.pointer (some ⟨gn, 0, none⟩)), (by rw [ha.out]; exact putSel_upk 8 hb_ rfl rfl rfl), below_step HB.out hb, fun h0_ => (Q_F1 h0_).below hb (fun k_ h_ => h_.elim (fun h_ => .inl (.inl h_)) (fun h_ => h_.elim (fun h_ => .inl (.inr (.inl h_))) (fun h_ => .inr (by rw [h_.2, hg]; exact Nat.le_refl _)))), fun h0_ => (Q_F3 h0_).below hb (fun k_ h_ => h_.elim (fun h_ => .inl (.inl h_)) (fun h_ => h_.elim (fun h_ => .inl (.inr (.inl h_))) (fun h_ => .inr (by rw [h_.2, hg]; exact Nat.le_refl _)))), fun h0_ => (Q_F5 h0_).below hb (fun k_ h_ => h_.elim (fun h_ => .inl (.inl h_)) (fun h_ => h_.elim (fun h_ => .inl (.inr (.inl h_))) (fun h_ => .inr (by rw [h_.2, hg]; exact Nat.le_refl _)))), fun h0_ => ⟨(Q_Z6 h0_).1, Nat.lt_of_lt_of_le (Q_Z6 h0_).2 hb.size⟩, fun h0_ h1_ => blk_below (Q_B6 h0_ h1_) hb, fun h0_ => absurd ((hoff 9 (by kernel_rfl)).symm.trans h0_) (by decide), fun h0_ => ⟨(Q_Z7 h0_).1, Nat.lt_of_lt_of_le (Q_Z7 h0_).2 hb.size⟩, fun h0_ h1_ => blk_below (Q_B7 h0_ h1_) hb, fun h0_ => absurd ((hoff 10 (by kernel_rfl)).symm.trans h0_) (by decide), fun _ => ⟨by rw [hg]; exact below_size HB.out, blk_lt hbox⟩, fun _ _ => hbox, fun h0_ => absurd ((hoff 11 (by kernel_rfl)).symm.trans h0_) (by decide), Q_N6_7, fun (h0_ : up b 8 6 = true) (h1_ : up b 8 8 = true) => (by have := (Q_Z6 h0_).2; omega), fun (h0_ : up b 8 7 = true) (h1_ : up b 8 8 = true) => (by have := (Q_Z7 h0_).2; omega), Q_X1_, Q_X3_, Q_X5_, Q_X6_, Q_X7_, fun _ => rfl⟩
    refine steps_cons ?_ ?_
    · rintro b a w' ⟨u1, u3, u5, g6, g7, g8, m1_, m3_, m5_, m6_, m7_, m8_, ha, Q_HB, Q_F1, Q_F3, Q_F5, Q_Z6, Q_B6, Q_S6, Q_Z7, Q_B7, Q_S7, Q_Z8, Q_B8, Q_S8, Q_N6_7, Q_N6_8, Q_N7_8, Q_X1_, Q_X3_, Q_X5_, Q_X6_, Q_X7_, Q_X8_⟩ hb_ hon hoff
      refine ⟨_, rfl, fun K hK => ?_⟩
      have e9 : a.tmps[9]? = some (m6_) := by rw [ha]; exact putSel_on (e := (6, 9, m6_)) 6 rfl rfl (hon 6 (by kernel_rfl)) (by rw [hsz]; rfl)
      rw [Q_X6_ (hon 6 (by kernel_rfl))] at e9
      have e32 : a.tmps[32]? = some (m1_) := by rw [ha]; exact putSel_on (e := (1, 32, m1_)) 1 rfl rfl (hon 1 (by kernel_rfl)) (by rw [hsz]; rfl)
      rw [Q_X1_ (hon 1 (by kernel_rfl))] at e32
      replace ha := Aside0.mk ha
      have HB := Aside0.mk Q_HB
      have F1 := Aside0.mk (Q_F1 (hon 1 (by kernel_rfl)))
      have F3 := Aside0.mk (Q_F3 (hon 3 (by kernel_rfl)))
      have F5 := Aside0.mk (Q_F5 (hon 5 (by kernel_rfl)))
      have Z6 := Aside0.mk (Q_Z6 (hon 6 (by kernel_rfl)))
      have B6 := Aside0.mk (Q_B6 (hon 6 (by kernel_rfl)) hb_)
      have Z7 := Aside0.mk (Q_Z7 (hon 7 (by kernel_rfl)))
      have B7 := Aside0.mk (Q_B7 (hon 7 (by kernel_rfl)) (hoff 10 (by kernel_rfl)))
      have Z8 := Aside0.mk (Q_Z8 (hon 8 (by kernel_rfl)))
      have B8 := Aside0.mk (Q_B8 (hon 8 (by kernel_rfl)) (hoff 11 (by kernel_rfl)))
      have N6_7 := Aside0.mk (Q_N6_7 (hon 6 (by kernel_rfl)) (hon 7 (by kernel_rfl)))
      have N6_8 := Aside0.mk (Q_N6_8 (hon 6 (by kernel_rfl)) (hon 8 (by kernel_rfl)))
      have N7_8 := Aside0.mk (Q_N7_8 (hon 7 (by kernel_rfl)) (hon 8 (by kernel_rfl)))
      have hs0_ : w'.cell? ⟨g6, 0, none⟩ = some (.int .i64 0) := (blk_cell B6.out 0).trans rfl
      have hs1_ : w'.cell? ⟨g6, 1, none⟩ = some (.int .i64 0) := (blk_cell B6.out 1).trans rfl
      have hs2_ : w'.cell? ⟨g6, 2, none⟩ = some (.slice none 0 0) := (blk_cell B6.out 2).trans rfl
      have hf0_ := blk_frozen B6.out 0
      have hf1_ := blk_frozen B6.out 1
      have hf2_ := blk_frozen B6.out 2
      obtain ⟨As_, cs_, hu_⟩ := Kd.V_slice F1.out
      subst hu_
      refine skip_ (w1 := ?_) (by rfl) rfl ?_ ?_
      rotate_left
      · go_simp
        rfl
      refine hK.out _ _ ⟨.slice As_ k1_.length cs_, u3, u5, g6, g7, g8, m1_, m3_, m5_, m6_, m7_, m8_, (by rw [ha.out]; exact putSel_none (v := undef) rfl), below_set3 HB.out Z6.out.1 (.int .i64 r1_0) (.int .i64 r1_1) (.slice As_ k1_.length cs_), fun _ => F1.out.set3 (.inl ⟨hon 6 (by kernel_rfl), rfl⟩) (.int .i64 r1_0) (.int .i64 r1_1) (.slice As_ k1_.length cs_), fun _ => F3.out.set3 (.inl ⟨hon 6 (by kernel_rfl), rfl⟩) (.int .i64 r1_0) (.int .i64 r1_1) (.slice As_ k1_.length cs_), fun _ => F5.out.set3 (.inl ⟨hon 6 (by kernel_rfl), rfl⟩) (.int .i64 r1_0) (.int .i64 r1_1) (.slice As_ k1_.length cs_), fun _ => ⟨Z6.out.1, by rw [size_set3]; exact Z6.out.2⟩, fun _ h1_ => absurd ((up_self b 9).symm.trans h1_) (by decide), fun _ => blk_set3 B6.out rfl (.int .i64 r1_0) (.int .i64 r1_1) (.slice As_ k1_.length cs_), fun _ => ⟨Z7.out.1, by rw [size_set3]; exact Z7.out.2⟩, fun _ _ => blk_far3 B7.out (N6_7.out.symm) (.int .i64 r1_0) (.int .i64 r1_1) (.slice As_ k1_.length cs_), fun h0_ => absurd ((hoff 10 (by kernel_rfl)).symm.trans h0_) (by decide), fun _ => ⟨Z8.out.1, by rw [size_set3]; exact Z8.out.2⟩, fun _ _ => blk_far3 B8.out (N6_8.out.symm) (.int .i64 r1_0) (.int .i64 r1_1) (.slice As_ k1_.length cs_), fun h0_ => absurd ((hoff 11 (by kernel_rfl)).symm.trans h0_) (by decide), Q_N6_7, Q_N6_8, Q_N7_8, Q_X1_, Q_X3_, Q_X5_, Q_X6_, Q_X7_, Q_X8_⟩
    refine steps_cons ?_ ?_
    · rintro b a w' ⟨u1, u3, u5, g6, g7, g8, m1_, m3_, m5_, m6_, m7_, m8_, ha, Q_HB, Q_F1, Q_F3, Q_F5, Q_Z6, Q_B6, Q_S6, Q_Z7, Q_B7, Q_S7, Q_Z8, Q_B8, Q_S8, Q_N6_7, Q_N6_8, Q_N7_8, Q_X1_, Q_X3_, Q_X5_, Q_X6_, Q_X7_, Q_X8_⟩ hb_ hon hoff
      refine ⟨_, rfl, fun K hK => ?_⟩
      have e10 : a.tmps[10]? = some (m7_) := by rw [ha]; exact putSel_on (e := (7, 10, m7_)) 7 rfl rfl (hon 7 (by kernel_rfl)) (by rw [hsz]; rfl)
      rw [Q_X7_ (hon 7 (by kernel_rfl))] at e10
      have e34 : a.tmps[34]? = some (m3_) := by rw [ha]; exact putSel_on (e := (3, 34, m3_)) 3 rfl rfl (hon 3 (by kernel_rfl)) (by rw [hsz]; rfl)
      rw [Q_X3_ (hon 3 (by kernel_rfl))] at e34
      replace ha := Aside0.mk ha
      have HB := Aside0.mk Q_HB
      have F1 := Aside0.mk (Q_F1 (hon 1 (by kernel_rfl)))
      have F3 := Aside0.mk (Q_F3 (hon 3 (by kernel_rfl)))
      have F5 := Aside0.mk (Q_F5 (hon 5 (by kernel_rfl)))
      have Z6 := Aside0.mk (Q_Z6 (hon 6 (by kernel_rfl)))
      have S6 := Aside0.mk (Q_S6 (hon 9 (by kernel_rfl)))
      have Z7 := Aside0.mk (Q_Z7 (hon 7 (by kernel_rfl)))
      have B7 := Aside0.mk (Q_B7 (hon 7 (by kernel_rfl)) hb_)
      have Z8 := Aside0.mk (Q_Z8 (hon 8 (by kernel_rfl)))
      have B8 := Aside0.mk (Q_B8 (hon 8 (by kernel_rfl)) (hoff 11 (by kernel_rfl)))
      have N6_7 := Aside0.mk (Q_N6_7 (hon 6 (by kernel_rfl)) (hon 7 (by kernel_rfl)))
      have N6_8 := Aside0.mk (Q_N6_8 (hon 6 (by kernel_rfl)) (hon 8 (by kernel_rfl)))
      have N7_8 := Aside0.mk (Q_N7_8 (hon 7 (by kernel_rfl)) (hon 8 (by kernel_rfl)))
      have hs0_ : w'.cell? ⟨g7, 0, none⟩ = some (.int .i64 0) := (blk_cell B7.out 0).trans rfl
      have hs1_ : w'.cell? ⟨g7, 1, none⟩ = some (.int .i64 0) := (blk_cell B7.out 1).trans rfl
      have hs2_ : w'.cell? ⟨g7, 2, none⟩ = some (.slice none 0 0) := (blk_cell B7.out 2).trans rfl
      have hf0_ := blk_frozen B7.out 0
      have hf1_ := blk_frozen B7.out 1
      have hf2_ := blk_frozen B7.out 2
      obtain ⟨As_, cs_, hu_⟩ := Kd.V_slice F3.out
      subst hu_
      refine skip_ (w1 := ?_) (by rfl) rfl ?_ ?_
      rotate_left
      · go_simp
        rfl
      refine hK.out _ _ ⟨u1, .slice As_ k3_.length cs_, u5, g6, g7, g8, m1_, m3_, m5_, m6_, m7_, m8_, (by rw [ha.out]; exact putSel_none (v := undef) rfl), below_set3 HB.out Z7.out.1 (.int .i64 r3_0) (.int .i64 r3_1) (.slice As_ k3_.length cs_), fun _ => F1.out.set3 (.inr (.inl ⟨hon 7 (by kernel_rfl), rfl⟩)) (.int .i64 r3_0) (.int .i64 r3_1) (.slice As_ k3_.length cs_), fun _ => F3.out.set3 (.inr (.inl ⟨hon 7 (by kernel_rfl), rfl⟩)) (.int .i64 r3_0) (.int .i64 r3_1) (.slice As_ k3_.length cs_), fun _ => F5.out.set3 (.inr (.inl ⟨hon 7 (by kernel_rfl), rfl⟩)) (.int .i64 r3_0) (.int .i64 r3_1) (.slice As_ k3_.length cs_), fun _ => ⟨Z6.out.1, by rw [size_set3]; exact Z6.out.2⟩, fun _ h1_ => absurd ((hon 9 (by kernel_rfl)).symm.trans h1_) (by decide), fun _ => blk_far3 S6.out (N6_7.out) (.int .i64 r3_0) (.int .i64 r3_1) (.slice As_ k3_.length cs_), fun _ => ⟨Z7.out.1, by rw [size_set3]; exact Z7.out.2⟩, fun _ h1_ => absurd ((up_self b 10).symm.trans h1_) (by decide), fun _ => blk_set3 B7.out rfl (.int .i64 r3_0) (.int .i64 r3_1) (.slice As_ k3_.length cs_), fun _ => ⟨Z8.out.1, by rw [size_set3]; exact Z8.out.2⟩, fun _ _ => blk_far3 B8.out (N7_8.out.symm) (.int .i64 r3_0) (.int .i64 r3_1) (.slice As_ k3_.length cs_), fun h0_ => absurd ((hoff 11 (by kernel_rfl)).symm.trans h0_) (by decide), Q_N6_7, Q_N6_8, Q_N7_8, Q_X1_, Q_X3_, Q_X5_, Q_X6_, Q_X7_, Q_X8_⟩
    refine steps_cons ?_ ?_
    · rintro b a w' ⟨u1, u3, u5, g6, g7, g8, m1_, m3_, m5_, m6_, m7_, m8_, ha, Q_HB, Q_F1, Q_F3, Q_F5, Q_Z6, Q_B6, Q_S6, Q_Z7, Q_B7, Q_S7, Q_Z8, Q_B8, Q_S8, Q_N6_7, Q_N6_8, Q_N7_8, Q_X1_, Q_X3_, Q_X5_, Q_X6_, Q_X7_, Q_X8_⟩ hb_ hon hoff
      refine ⟨_, rfl, fun K hK => ?_⟩
      have e11 : a.tmps[11]? = some (m8_) := by rw [ha]; exact putSel_on (e := (8, 11, m8_)) 8 rfl rfl (hon 8 (by kernel_rfl)) (by rw [hsz]; rfl)
      rw [Q_X8_ (hon 8 (by kernel_rfl))] at e11
      have e36 : a.tmps[36]? = some (m5_) := by rw [ha]; exact putSel_on (e := (5, 36, m5_)) 5 rfl rfl (hon 5 (by kernel_rfl)) (by rw [hsz]; rfl)
      rw [Q_X5_ (hon 5 (by kernel_rfl))] at e36
      replace ha := Aside0.mk ha
      have HB := Aside0.mk Q_HB
      have F1 := Aside0.mk (Q_F1 (hon 1 (by kernel_rfl)))
      have F3 := Aside0.mk (Q_F3 (hon 3 (by kernel_rfl)))
      have F5 := Aside0.mk (Q_F5 (hon 5 (by kernel_rfl)))
      have Z6 := Aside0.mk (Q_Z6 (hon 6 (by kernel_rfl)))
      have S6 := Aside0.mk (Q_S6 (hon 9 (by kernel_rfl)))
      have Z7 := Aside0.mk (Q_Z7 (hon 7 (by kernel_rfl)))
      have S7 := Aside0.mk (Q_S7 (hon 10 (by kernel_rfl)))
      have Z8 := Aside0.mk (Q_Z8 (hon 8 (by kernel_rfl)))
      have B8 := Aside0.mk (Q_B8 (hon 8 (by kernel_rfl)) hb_)
      have N6_7 := Aside0.mk (Q_N6_7 (hon 6 (by kernel_rfl)) (hon 7 (by kernel_rfl)))
      have N6_8 := Aside0.mk (Q_N6_8 (hon 6 (by kernel_rfl)) (hon 8 (by kernel_rfl)))
      have N7_8 := Aside0.mk (Q_N7_8 (hon 7 (by kernel_rfl)) (hon 8 (by kernel_rfl)))
      have hs0_ : w'.cell? ⟨g8, 0, none⟩ = some (.int .i64 0) := (blk_cell B8.out 0).trans rfl
      have hs1_ : w'.cell? ⟨g8, 1, none⟩ = some (.int .i64 0) := (blk_cell B8.out 1).trans rfl
      have hs2_ : w'.cell? ⟨g8, 2, none⟩ = some (.slice none 0 0) := (blk_cell B8.out 2).trans rfl
      have hf0_ := blk_frozen B8.out 0
      have hf1_ := blk_frozen B8.out 1
      have hf2_ := blk_frozen B8.out 2
      obtain ⟨As_, cs_, hu_⟩ := Kd.V_slice F5.out
      subst hu_
      refine skip_ (w1 := ?_) (by rfl) rfl ?_ ?_
      rotate_left
      · go_simp
        rfl
      refine hK.out _ _ ⟨u1, u3, .slice As_ k5_.length cs_, g6, g7, g8, m1_, m3_, m5_, m6_, m7_, m8_, (by rw [ha.out]; exact putSel_none (v := undef) rfl), below_set3 HB.out Z8.out.1 (.int .i64 r5_0) (.int .i64 r5_1) (.slice As_ k5_.length cs_), fun _ => F1.out.set3 (.inr (.inr ⟨hon 8 (by kernel_rfl), rfl⟩)) (.int .i64 r5_0) (.int .i64 r5_1) (.slice As_ k5_.length cs_), fun _ => F3.out.set3 (.inr (.inr ⟨hon 8 (by kernel_rfl), rfl⟩)) (.int .i64 r5_0) (.int .i64 r5_1) (.slice As_ k5_.length cs_), fun _ => F5.out.set3 (.inr (.inr ⟨hon 8 (by kernel_rfl), rfl⟩)) (.int .i64 r5_0) (.int .i64 r5_1) (.slice As_ k5_.length cs_), fun _ => ⟨Z6.out.1, by rw [size_set3]; exact Z6.out.2⟩, fun _ h1_ => absurd ((hon 9 (by kernel_rfl)).symm.trans h1_) (by decide), fun _ => blk_far3 S6.out (N6_8.out) (.int .i64 r5_0) (.int .i64 r5_1) (.slice As_ k5_.length cs_), fun _ => ⟨Z7.out.1, by rw [size_set3]; exact Z7.out.2⟩, fun _ h1_ => absurd ((hon 10 (by kernel_rfl)).symm.trans h1_) (by decide), fun _ => blk_far3 S7.out (N7_8.out) (.int .i64 r5_0) (.int .i64 r5_1) (.slice As_ k5_.length cs_), fun _ => ⟨Z8.out.1, by rw [size_set3]; exact Z8.out.2⟩, fun _ h1_ => absurd ((up_self b 11).symm.trans h1_) (by decide), fun _ => blk_set3 B8.out rfl (.int .i64 r5_0) (.int .i64 r5_1) (.slice As_ k5_.length cs_), Q_N6_7, Q_N6_8, Q_N7_8, Q_X1_, Q_X3_, Q_X5_, Q_X6_, Q_X7_, Q_X8_⟩
    exact steps_nil
  · rintro b a w' hall ⟨u1, u3, u5, g6, g7, g8, m1_, m3_, m5_, m6_, m7_, m8_, ha, Q_HB, Q_F1, Q_F3, Q_F5, Q_Z6, Q_B6, Q_S6, Q_Z7, Q_B7, Q_S7, Q_Z8, Q_B8, Q_S8, Q_N6_7, Q_N6_8, Q_N7_8, Q_X1_, Q_X3_, Q_X5_, Q_X6_, Q_X7_, Q_X8_⟩
    clear HB
    have hb0_ := hall 0 (by kernel_rfl)
    have hb1_ := hall 1 (by kernel_rfl)
    have hb2_ := hall 2 (by kernel_rfl)
    have hb3_ := hall 3 (by kernel_rfl)
    have hb4_ := hall 4 (by kernel_rfl)
    have hb5_ := hall 5 (by kernel_rfl)
    have hb6_ := hall 6 (by kernel_rfl)
    have hb7_ := hall 7 (by kernel_rfl)
    have hb8_ := hall 8 (by kernel_rfl)
    have hb9_ := hall 9 (by kernel_rfl)
    have hb10_ := hall 10 (by kernel_rfl)
    have hb11_ := hall 11 (by kernel_rfl)
    subst ha
    obtain rfl := Q_X1_ hb1_
    obtain rfl := Q_X3_ hb3_
    obtain rfl := Q_X5_ hb5_
    obtain rfl := Q_X6_ hb6_
    obtain rfl := Q_X7_ hb7_
    obtain rfl := Q_X8_ hb8_
    simp only [putSel, hb0_, hb1_, hb2_, hb3_, hb4_, hb5_, hb6_, hb7_, hb8_, hb9_, hb10_, hb11_, if_true]
    have HB := Aside0.mk Q_HB
    clear Q_HB
    have F1 := Aside0.mk (Q_F1 hb1_)
    clear Q_F1
    have F3 := Aside0.mk (Q_F3 hb3_)
    clear Q_F3
    have F5 := Aside0.mk (Q_F5 hb5_)
    clear Q_F5
    have Z6 := Aside0.mk (Q_Z6 hb6_)
    clear Q_Z6
    clear Q_B6
    have S6 := Aside0.mk (Q_S6 hb9_)
    clear Q_S6
    have Z7 := Aside0.mk (Q_Z7 hb7_)
    clear Q_Z7
    clear Q_B7
    have S7 := Aside0.mk (Q_S7 hb10_)
    clear Q_S7
    have Z8 := Aside0.mk (Q_Z8 hb8_)
    clear Q_Z8
    clear Q_B8
    have S8 := Aside0.mk (Q_S8 hb11_)
    clear Q_S8
    have N6_7 := Aside0.mk (Q_N6_7 hb6_ hb7_)
    clear Q_N6_7
    have N6_8 := Aside0.mk (Q_N6_8 hb6_ hb8_)
    clear Q_N6_8
    have N7_8 := Aside0.mk (Q_N7_8 hb7_ hb8_)
    clear Q_N7_8
    clear hall hb0_ hb1_ hb2_ hb3_ hb4_ hb5_ hb6_ hb7_ hb8_ hb9_ hb10_ hb11_
    exact hQ u1 u3 u5 g6 g7 g8 w' HB.out Z6.out.1 S6.out F1.out.free Z7.out.1 S7.out F3.out.free Z8.out.1 S8.out F5.out.free
set_option maxHeartbeats 4000000 in
set_option maxRecDepth 100000 in
theorem substs_r7 {Q : Exit → Act → World → Prop} {a : Act} {W : World} (hsz : a.tmps.size = 71) (kk : Nat) (xt yt : Int) (vt : Value) (kt : List S29) (bt : Nat) (ht : a.tmps[9]? = some (.pointer (some ⟨bt, 0, none⟩))) (Bt_ : W.heap[bt]? = some (.cells #[.int .i64 xt, .int .i64 yt, vt] 29 (0, 0))) (Tt_ : TV W (fun _ => False) vt kt)
    (xs ys : Int) (vs : Value) (ks : List S29) (bs : Nat) (hs : a.tmps[10]? = some (.pointer (some ⟨bs, 0, none⟩))) (Bs_ : W.heap[bs]? = some (.cells #[.int .i64 xs, .int .i64 ys, vs] 29 (0, 0))) (Ts_ : TV W (fun _ => False) vs ks)
    (xz yz : Int) (vz : Value) (kz : List S29) (bz : Nat) (hz : a.tmps[11]? = some (.pointer (some ⟨bz, 0, none⟩))) (Bz_ : W.heap[bz]? = some (.cells #[.int .i64 xz, .int .i64 yz, vz] 29 (0, 0))) (Tz_ : TV W (fun _ => False) vz kz)
    (r2_0 r2_1 : Int) (k2_ : List S29)
    (r3_0 r3_1 : Int) (k3_ : List S29)
    (r5_0 r5_1 : Int) (k5_ : List S29)
    (H2 : term_Shift.f kk xs ys ks 1 0 = some (r2_0, r2_1, k2_))
    (H3 : term_Subst.f kk xt yt kt 0 r2_0 r2_1 k2_ = some (r3_0, r3_1, k3_))
    (H5 : term_Subst.f kk r3_0 r3_1 k3_ 0 xz yz kz = some (r5_0, r5_1, k5_))
    (hQ : ∀ (u2 u3 u5 : Value) (g6 : Nat) (w' : World), Below W.heap.size W w' → W.heap.size ≤ g6 → w'.heap[g6]? = some (.cells #[.int .i64 r5_0, .int .i64 r5_1, u5] 29 (0, 0)) → TV w' (fun _ => False) u5 k5_ → Q .normal (((((((a.put (some 39) (.agg #[.int .i64 xt, .int .i64 yt, vt])).put (some 40) (.agg #[.int .i64 xs, .int .i64 ys, vs])).put (some 41) (.agg #[.int .i64 r2_0, .int .i64 r2_1, u2])).put (some 42) (.agg #[.int .i64 r3_0, .int .i64 r3_1, u3])).put (some 43) (.agg #[.int .i64 xz, .int .i64 yz, vz])).put (some 44) (.agg #[.int .i64 r5_0, .int .i64 r5_1, u5])).put (some 12) (.pointer (some ⟨g6, 0, none⟩))) w') :
    (Code.region 7 (opsOf Tryd.f5 7) true).wp Tryd.prog Q a W := by
  have HT_ := Aside0.mk thyrsuslaw4_TermSubsts.tab7
  have HW_ := Aside0.mk thyrsuslaw4_TermSubsts.bits7
  have BKt := Aside0.mk Bt_
  have Tt := Aside0.mk Tt_
  clear Bt_ Tt_
  have BKs := Aside0.mk Bs_
  have Ts := Aside0.mk Ts_
  clear Bs_ Ts_
  have BKz := Aside0.mk Bz_
  have Tz := Aside0.mk Tz_
  clear Bz_ Tz_
  have AH2 := Aside0.mk H2
  clear H2
  have AH3 := Aside0.mk H3
  clear H3
  have AH5 := Aside0.mk H5
  clear H5
  have HB := Aside0.mk (below_drew1 (Below.refl W.heap.size W))
  conv in (opsOf Tryd.f5 7) => whnf
  refine start_ (n := 8) (S := fun w' => True) (ds := []) #[false, false, false, false, false, false, false, false] (by kernel_rfl) rfl rfl trivial (fun hHeld => ?_)
  clear hHeld
  generalize W.drew = W1 at HB ⊢
  refine inv_at [0, 1, 2, 3, 4, 5, 6, 7] (fun a0_ b a w' => ∃ (u2 : Value) (u3 : Value) (u5 : Value) (g6 : Nat) (m2_ : Value) (m3_ : Value) (m5_ : Value) (m6_ : Value), a = putSel a0_ b [(0, 39, .agg #[.int .i64 xt, .int .i64 yt, vt]), (1, 40, .agg #[.int .i64 xs, .int .i64 ys, vs]), (2, 41, m2_), (3, 42, m3_), (4, 43, .agg #[.int .i64 xz, .int .i64 yz, vz]), (5, 44, m5_), (6, 12, m6_)] ∧ (Below W.heap.size W w') ∧ (b 2 = true → TV w' (fun k_ => (b 6 = true ∧ k_ = g6)) u2 k2_) ∧ (b 3 = true → TV w' (fun k_ => (b 6 = true ∧ k_ = g6)) u3 k3_) ∧ (b 5 = true → TV w' (fun k_ => (b 6 = true ∧ k_ = g6)) u5 k5_) ∧ (b 6 = true → W.heap.size ≤ g6 ∧ g6 < w'.heap.size) ∧ (b 6 = true → b 7 = false → w'.heap[g6]? = some (.cells #[.int .i64 0, .int .i64 0, .slice none 0 0] 29 (0, 0))) ∧ (b 7 = true → w'.heap[g6]? = some (.cells #[.int .i64 r5_0, .int .i64 r5_1, u5] 29 (0, 0))) ∧ (b 2 = true → (m2_ : Value) = .agg #[.int .i64 r2_0, .int .i64 r2_1, u2]) ∧ (b 3 = true → (m3_ : Value) = .agg #[.int .i64 r3_0, .int .i64 r3_1, u3]) ∧ (b 5 = true → (m5_ : Value) = .agg #[.int .i64 r5_0, .int .i64 r5_1, u5]) ∧ (b 6 = true → (m6_ : Value) = .pointer (some ⟨g6, 0, none⟩))) HT_.out HW_.out (by kernel_rfl) (by kernel_rfl) ?_ ?_ ?_
  · exact ⟨.bool false, .bool false, .bool false, 0, .bool false, .bool false, .bool false, .bool false, by simp only [putSel, Bool.false_eq_true, if_false], HB.out, fun h_ => absurd h_ (by decide), fun h_ => absurd h_ (by decide), fun h_ => absurd h_ (by decide), fun h_ => absurd h_ (by decide), fun h_ => absurd h_ (by decide), fun h_ => absurd h_ (by decide), fun h_ => absurd h_ (by decide), fun h_ => absurd h_ (by decide), fun h_ => absurd h_ (by decide), fun h_ => absurd h_ (by decide)⟩
  · skip
    clear HB
    refine steps_cons ?_ ?_
    · rintro b a w' ⟨u2, u3, u5, g6, m2_, m3_, m5_, m6_, ha, Q_HB, Q_F2, Q_F3, Q_F5, Q_Z6, Q_B6, Q_S6, Q_X2_, Q_X3_, Q_X5_, Q_X6_⟩ hb_ hon hoff
      refine ⟨_, rfl, fun K hK => ?_⟩
      have e9 : a.tmps[9]? = some (.pointer (some ⟨bt, 0, none⟩)) := by rw [ha]; exact (putSel_off rfl).trans ht
      replace ha := Aside0.mk ha
      have HB := Aside0.mk Q_HB
      have hc0_ : w'.cell? ⟨bt, 0, none⟩ = some (.int .i64 xt) := (blk_cell (blk_below BKt.out HB.out) 0).trans rfl
      have hc1_ : w'.cell? ⟨bt, 1, none⟩ = some (.int .i64 yt) := (blk_cell (blk_below BKt.out HB.out) 1).trans rfl
      have hc2_ : w'.cell? ⟨bt, 2, none⟩ = some (vt) := (blk_cell (blk_below BKt.out HB.out) 2).trans rfl
      refine value_ (w1 := w') (v := .agg #[.int .i64 xt, .int .i64 yt, vt]) (by rfl) rfl ?_ ?_
      · go_simp
        (try simp only [i64_w])
        try rfl
      refine hK.out _ _ ⟨u2, u3, u5, g6, m2_, m3_, m5_, m6_, (by rw [ha.out]; exact putSel_upk 0 hb_ rfl rfl rfl), Q_HB, Q_F2, fun h0_ => absurd ((hoff 3 (by kernel_rfl)).symm.trans h0_) (by decide), fun h0_ => absurd ((hoff 5 (by kernel_rfl)).symm.trans h0_) (by decide), Q_Z6, Q_B6, fun h0_ => absurd ((hoff 7 (by kernel_rfl)).symm.trans h0_) (by decide), Q_X2_, fun h0_ => absurd ((hoff 3 (by kernel_rfl)).symm.trans h0_) (by decide), fun h0_ => absurd ((hoff 5 (by kernel_rfl)).symm.trans h0_) (by decide), Q_X6_⟩
    refine steps_cons ?_ ?_
    · rintro b a w' ⟨u2, u3, u5, g6, m2_, m3_, m5_, m6_, ha, Q_HB, Q_F2, Q_F3, Q_F5, Q_Z6, Q_B6, Q_S6, Q_X2_, Q_X3_, Q_X5_, Q_X6_⟩ hb_ hon hoff
      refine ⟨_, rfl, fun K hK => ?_⟩
      have e10 : a.tmps[10]? = some (.pointer (some ⟨bs, 0, none⟩)) := by rw [ha]; exact (putSel_off rfl).trans hs
      replace ha := Aside0.mk ha
      have HB := Aside0.mk Q_HB
      have hc0_ : w'.cell? ⟨bs, 0, none⟩ = some (.int .i64 xs) := (blk_cell (blk_below BKs.out HB.out) 0).trans rfl
      have hc1_ : w'.cell? ⟨bs, 1, none⟩ = some (.int .i64 ys) := (blk_cell (blk_below BKs.out HB.out) 1).trans rfl
      have hc2_ : w'.cell? ⟨bs, 2, none⟩ = some (vs) := (blk_cell (blk_below BKs.out HB.out) 2).trans rfl
      refine value_ (w1 := w') (v := .agg #[.int .i64 xs, .int .i64 ys, vs]) (by rfl) rfl ?_ ?_
      · go_simp
        (try simp only [i64_w])
        try rfl
      refine hK.out _ _ ⟨u2, u3, u5, g6, m2_, m3_, m5_, m6_, (by rw [ha.out]; exact putSel_upk 1 hb_ rfl rfl rfl), Q_HB, fun h0_ => absurd ((hoff 2 (by kernel_rfl)).symm.trans h0_) (by decide), fun h0_ => absurd ((hoff 3 (by kernel_rfl)).symm.trans h0_) (by decide), fun h0_ => absurd ((hoff 5 (by kernel_rfl)).symm.trans h0_) (by decide), Q_Z6, Q_B6, fun h0_ => absurd ((hoff 7 (by kernel_rfl)).symm.trans h0_) (by decide), fun h0_ => absurd ((hoff 2 (by kernel_rfl)).symm.trans h0_) (by decide), fun h0_ => absurd ((hoff 3 (by kernel_rfl)).symm.trans h0_) (by decide), fun h0_ => absurd ((hoff 5 (by kernel_rfl)).symm.trans h0_) (by decide), Q_X6_⟩
    refine steps_cons ?_ ?_
    · rintro b a w' ⟨u2, u3, u5, g6, m2_, m3_, m5_, m6_, ha, Q_HB, Q_F2, Q_F3, Q_F5, Q_Z6, Q_B6, Q_S6, Q_X2_, Q_X3_, Q_X5_, Q_X6_⟩ hb_ hon hoff
      refine ⟨_, rfl, fun K hK => ?_⟩
      have e40 : a.tmps[40]? = some (.agg #[.int .i64 xs, .int .i64 ys, vs]) := by rw [ha]; exact putSel_on (e := (1, 40, .agg #[.int .i64 xs, .int .i64 ys, vs])) 1 rfl rfl (hon 1 (by kernel_rfl)) (by rw [hsz]; rfl)
      replace ha := Aside0.mk ha
      have HB := Aside0.mk Q_HB
      refine goes_ Tryd.func23 (by kernel_rfl) rfl #[.agg #[.int .i64 xs, .int .i64 ys, vs], .int .i64 1, .int .i64 0] (by rfl) rfl rfl (by first | (simp only [List.map_toArray, List.map_cons, List.map_nil, Act.eval, Array.getD_eq_getD_getElem?, Option.getD_some, e40]; done) | (simp only [List.map_toArray, List.map_cons, List.map_nil, Act.eval, Array.getD_eq_getD_getElem?, Option.getD_some, e40]; rfl)) ?_
      refine (shift_go kk xs ys vs ks 1 0 r2_0 r2_1 k2_ w' (fun k_ => (b 6 = true ∧ k_ = g6)) (fun k_ h_ => h_.2 ▸ (Q_Z6 h_.1).2) (TV.old Ts.out HB.out (fun k_ h_ => h_.2 ▸ (Q_Z6 h_.1).1)) AH2.out).mono ?_
      rintro e w1 ⟨v_, rfl, hv, hb⟩
      refine ⟨_, rfl, ?_⟩
      refine hK.out _ _ ⟨v_, u3, u5, g6, (.agg #[.int .i64 r2_0, .int .i64 r2_1, v_]), m3_, m5_, m6_, (by rw [ha.out]; exact putSel_upk 2 hb_ rfl rfl rfl), below_step HB.out hb, fun _ => hv, fun h0_ => absurd ((hoff 3 (by kernel_rfl)).symm.trans h0_) (by decide), fun h0_ => absurd ((hoff 5 (by kernel_rfl)).symm.trans h0_) (by decide), fun h0_ => ⟨(Q_Z6 h0_).1, Nat.lt_of_lt_of_le (Q_Z6 h0_).2 hb.size⟩, fun h0_ h1_ => blk_below (Q_B6 h0_ h1_) hb, fun h0_ => absurd ((hoff 7 (by kernel_rfl)).symm.trans h0_) (by decide), fun _ => rfl, fun h0_ => absurd ((hoff 3 (by kernel_rfl)).symm.trans h0_) (by decide), fun h0_ => absurd ((hoff 5 (by kernel_rfl)).symm.trans h0_) (by decide), Q_X6_⟩
    refine steps_cons ?_ ?_
    · rintro b a w' ⟨u2, u3, u5, g6, m2_, m3_, m5_, m6_, ha, Q_HB, Q_F2, Q_F3, Q_F5, Q_Z6, Q_B6, Q_S6, Q_X2_, Q_X3_, Q_X5_, Q_X6_⟩ hb_ hon hoff
      refine ⟨_, rfl, fun K hK => ?_⟩
      have e39 : a.tmps[39]? = some (.agg #[.int .i64 xt, .int .i64 yt, vt]) := by rw [ha]; exact putSel_on (e := (0, 39, .agg #[.int .i64 xt, .int .i64 yt, vt])) 0 rfl rfl (hon 0 (by kernel_rfl)) (by rw [hsz]; rfl)
      have e41 : a.tmps[41]? = some (m2_) := by rw [ha]; exact putSel_on (e := (2, 41, m2_)) 2 rfl rfl (hon 2 (by kernel_rfl)) (by rw [hsz]; rfl)
      rw [Q_X2_ (hon 2 (by kernel_rfl))] at e41
      replace ha := Aside0.mk ha
      have HB := Aside0.mk Q_HB
      have F2 := Aside0.mk (Q_F2 (hon 2 (by kernel_rfl)))
      refine goes_ Tryd.func22 (by kernel_rfl) rfl #[.agg #[.int .i64 xt, .int .i64 yt, vt], .int .i64 0, .agg #[.int .i64 r2_0, .int .i64 r2_1, u2]] (by rfl) rfl rfl (by first | (simp only [List.map_toArray, List.map_cons, List.map_nil, Act.eval, Array.getD_eq_getD_getElem?, Option.getD_some, e39, e41]; done) | (simp only [List.map_toArray, List.map_cons, List.map_nil, Act.eval, Array.getD_eq_getD_getElem?, Option.getD_some, e39, e41]; rfl)) ?_
      refine (subst_go kk xt yt vt kt 0 r2_0 r2_1 u2 k2_ r3_0 r3_1 k3_ w' (fun k_ => (b 6 = true ∧ k_ = g6)) (fun k_ h_ => h_.2 ▸ (Q_Z6 h_.1).2) (TV.old Tt.out HB.out (fun k_ h_ => h_.2 ▸ (Q_Z6 h_.1).1)) F2.out AH3.out).mono ?_
      rintro e w1 ⟨v_, rfl, hv, hb⟩
      refine ⟨_, rfl, ?_⟩
      refine hK.out _ _ ⟨u2, v_, u5, g6, m2_, (.agg #[.int .i64 r3_0, .int .i64 r3_1, v_]), m5_, m6_, (by rw [ha.out]; exact putSel_upk 3 hb_ rfl rfl rfl), below_step HB.out hb, fun _ => F2.out.step hb, fun _ => hv, fun h0_ => absurd ((hoff 5 (by kernel_rfl)).symm.trans h0_) (by decide), fun h0_ => ⟨(Q_Z6 h0_).1, Nat.lt_of_lt_of_le (Q_Z6 h0_).2 hb.size⟩, fun h0_ h1_ => blk_below (Q_B6 h0_ h1_) hb, fun h0_ => absurd ((hoff 7 (by kernel_rfl)).symm.trans h0_) (by decide), Q_X2_, fun _ => rfl, fun h0_ => absurd ((hoff 5 (by kernel_rfl)).symm.trans h0_) (by decide), Q_X6_⟩
    refine steps_cons ?_ ?_
    · rintro b a w' ⟨u2, u3, u5, g6, m2_, m3_, m5_, m6_, ha, Q_HB, Q_F2, Q_F3, Q_F5, Q_Z6, Q_B6, Q_S6, Q_X2_, Q_X3_, Q_X5_, Q_X6_⟩ hb_ hon hoff
      refine ⟨_, rfl, fun K hK => ?_⟩
      have e11 : a.tmps[11]? = some (.pointer (some ⟨bz, 0, none⟩)) := by rw [ha]; exact (putSel_off rfl).trans hz
      replace ha := Aside0.mk ha
      have HB := Aside0.mk Q_HB
      have hc0_ : w'.cell? ⟨bz, 0, none⟩ = some (.int .i64 xz) := (blk_cell (blk_below BKz.out HB.out) 0).trans rfl
      have hc1_ : w'.cell? ⟨bz, 1, none⟩ = some (.int .i64 yz) := (blk_cell (blk_below BKz.out HB.out) 1).trans rfl
      have hc2_ : w'.cell? ⟨bz, 2, none⟩ = some (vz) := (blk_cell (blk_below BKz.out HB.out) 2).trans rfl
      refine value_ (w1 := w') (v := .agg #[.int .i64 xz, .int .i64 yz, vz]) (by rfl) rfl ?_ ?_
      · go_simp
        (try simp only [i64_w])
        try rfl
      refine hK.out _ _ ⟨u2, u3, u5, g6, m2_, m3_, m5_, m6_, (by rw [ha.out]; exact putSel_upk 4 hb_ rfl rfl rfl), Q_HB, Q_F2, Q_F3, fun h0_ => absurd ((hoff 5 (by kernel_rfl)).symm.trans h0_) (by decide), Q_Z6, Q_B6, fun h0_ => absurd ((hoff 7 (by kernel_rfl)).symm.trans h0_) (by decide), Q_X2_, Q_X3_, fun h0_ => absurd ((hoff 5 (by kernel_rfl)).symm.trans h0_) (by decide), Q_X6_⟩
    refine steps_cons ?_ ?_
    · rintro b a w' ⟨u2, u3, u5, g6, m2_, m3_, m5_, m6_, ha, Q_HB, Q_F2, Q_F3, Q_F5, Q_Z6, Q_B6, Q_S6, Q_X2_, Q_X3_, Q_X5_, Q_X6_⟩ hb_ hon hoff
      refine ⟨_, rfl, fun K hK => ?_⟩
      have e42 : a.tmps[42]? = some (m3_) := by rw [ha]; exact putSel_on (e := (3, 42, m3_)) 3 rfl rfl (hon 3 (by kernel_rfl)) (by rw [hsz]; rfl)
      rw [Q_X3_ (hon 3 (by kernel_rfl))] at e42
      have e43 : a.tmps[43]? = some (.agg #[.int .i64 xz, .int .i64 yz, vz]) := by rw [ha]; exact putSel_on (e := (4, 43, .agg #[.int .i64 xz, .int .i64 yz, vz])) 4 rfl rfl (hon 4 (by kernel_rfl)) (by rw [hsz]; rfl)
      replace ha := Aside0.mk ha
      have HB := Aside0.mk Q_HB
      have F2 := Aside0.mk (Q_F2 (hon 2 (by kernel_rfl)))
      have F3 := Aside0.mk (Q_F3 (hon 3 (by kernel_rfl)))
      refine goes_ Tryd.func22 (by kernel_rfl) rfl #[.agg #[.int .i64 r3_0, .int .i64 r3_1, u3], .int .i64 0, .agg #[.int .i64 xz, .int .i64 yz, vz]] (by rfl) rfl rfl (by first | (simp only [List.map_toArray, List.map_cons, List.map_nil, Act.eval, Array.getD_eq_getD_getElem?, Option.getD_some, e42, e43]; done) | (simp only [List.map_toArray, List.map_cons, List.map_nil, Act.eval, Array.getD_eq_getD_getElem?, Option.getD_some, e42, e43]; rfl)) ?_
      refine (subst_go kk r3_0 r3_1 u3 k3_ 0 xz yz vz kz r5_0 r5_1 k5_ w' (fun k_ => (b 6 = true ∧ k_ = g6)) (fun k_ h_ => h_.2 ▸ (Q_Z6 h_.1).2) F3.out (TV.old Tz.out HB.out (fun k_ h_ => h_.2 ▸ (Q_Z6 h_.1).1)) AH5.out).mono ?_
      rintro e w1 ⟨v_, rfl, hv, hb⟩
      refine ⟨_, rfl, ?_⟩
      refine hK.out _ _ ⟨u2, u3, v_, g6, m2_, m3_, (.agg #[.int .i64 r5_0, .int .i64 r5_1, v_]), m6_, (by rw [ha.out]; exact putSel_upk 5 hb_ rfl rfl rfl), below_step HB.out hb, fun _ => F2.out.step hb, fun _ => F3.out.step hb, fun _ => hv, fun h0_ => ⟨(Q_Z6 h0_).1, Nat.lt_of_lt_of_le (Q_Z6 h0_).2 hb.size⟩, fun h0_ h1_ => blk_below (Q_B6 h0_ h1_) hb, fun h0_ => absurd ((hoff 7 (by kernel_rfl)).symm.trans h0_) (by decide), Q_X2_, Q_X3_, fun _ => rfl, Q_X6_⟩
    refine steps_cons ?_ ?_
    · rintro b a w' ⟨u2, u3, u5, g6, m2_, m3_, m5_, m6_, ha, Q_HB, Q_F2, Q_F3, Q_F5, Q_Z6, Q_B6, Q_S6, Q_X2_, Q_X3_, Q_X5_, Q_X6_⟩ hb_ hon hoff
      refine ⟨_, rfl, fun K hK => ?_⟩
      replace ha := Aside0.mk ha
      have HB := Aside0.mk Q_HB
      refine box_step ?hg (N := 12) ?hd (cs := #[.int .i64 0, .int .i64 0, .slice none 0 0]) (t := 29) ?hr ?_; (case hd => rfl); (case hg => rfl); (case hr => first | (go_simp; done) | (go_simp; rfl))
      intro gn hg w1 hbox hb
      refine hK.out _ _ ⟨u2, u3, u5, gn, m2_, m3_, m5_, (.pointer (some ⟨gn, 0, none⟩)), (by rw [ha.out]; exact putSel_upk 6 hb_ rfl rfl rfl), below_step HB.out hb, fun h0_ => (Q_F2 h0_).below hb (fun k_ h_ => .inr (by rw [h_.2, hg]; exact Nat.le_refl _)), fun h0_ => (Q_F3 h0_).below hb (fun k_ h_ => .inr (by rw [h_.2, hg]; exact Nat.le_refl _)), fun h0_ => (Q_F5 h0_).below hb (fun k_ h_ => .inr (by rw [h_.2, hg]; exact Nat.le_refl _)), fun _ => ⟨by rw [hg]; exact below_size HB.out, blk_lt hbox⟩, fun _ _ => hbox, fun h0_ => absurd ((hoff 7 (by kernel_rfl)).symm.trans h0_) (by decide), Q_X2_, Q_X3_, Q_X5_, fun _ => rfl⟩
    refine steps_cons ?_ ?_
    · rintro b a w' ⟨u2, u3, u5, g6, m2_, m3_, m5_, m6_, ha, Q_HB, Q_F2, Q_F3, Q_F5, Q_Z6, Q_B6, Q_S6, Q_X2_, Q_X3_, Q_X5_, Q_X6_⟩ hb_ hon hoff
      refine ⟨_, rfl, fun K hK => ?_⟩
      have e12 : a.tmps[12]? = some (m6_) := by rw [ha]; exact putSel_on (e := (6, 12, m6_)) 6 rfl rfl (hon 6 (by kernel_rfl)) (by rw [hsz]; rfl)
      rw [Q_X6_ (hon 6 (by kernel_rfl))] at e12
      have e44 : a.tmps[44]? = some (m5_) := by rw [ha]; exact putSel_on (e := (5, 44, m5_)) 5 rfl rfl (hon 5 (by kernel_rfl)) (by rw [hsz]; rfl)
      rw [Q_X5_ (hon 5 (by kernel_rfl))] at e44
      replace ha := Aside0.mk ha
      have HB := Aside0.mk Q_HB
      have F2 := Aside0.mk (Q_F2 (hon 2 (by kernel_rfl)))
      have F3 := Aside0.mk (Q_F3 (hon 3 (by kernel_rfl)))
      have F5 := Aside0.mk (Q_F5 (hon 5 (by kernel_rfl)))
      have Z6 := Aside0.mk (Q_Z6 (hon 6 (by kernel_rfl)))
      have B6 := Aside0.mk (Q_B6 (hon 6 (by kernel_rfl)) hb_)
      have hs0_ : w'.cell? ⟨g6, 0, none⟩ = some (.int .i64 0) := (blk_cell B6.out 0).trans rfl
      have hs1_ : w'.cell? ⟨g6, 1, none⟩ = some (.int .i64 0) := (blk_cell B6.out 1).trans rfl
      have hs2_ : w'.cell? ⟨g6, 2, none⟩ = some (.slice none 0 0) := (blk_cell B6.out 2).trans rfl
      have hf0_ := blk_frozen B6.out 0
      have hf1_ := blk_frozen B6.out 1
      have hf2_ := blk_frozen B6.out 2
      obtain ⟨As_, cs_, hu_⟩ := Kd.V_slice F5.out
      subst hu_
      refine skip_ (w1 := ?_) (by rfl) rfl ?_ ?_
      rotate_left
      · go_simp
        rfl
      refine hK.out _ _ ⟨u2, u3, .slice As_ k5_.length cs_, g6, m2_, m3_, m5_, m6_, (by rw [ha.out]; exact putSel_none (v := undef) rfl), below_set3 HB.out Z6.out.1 (.int .i64 r5_0) (.int .i64 r5_1) (.slice As_ k5_.length cs_), fun _ => F2.out.set3 (⟨hon 6 (by kernel_rfl), rfl⟩) (.int .i64 r5_0) (.int .i64 r5_1) (.slice As_ k5_.length cs_), fun _ => F3.out.set3 (⟨hon 6 (by kernel_rfl), rfl⟩) (.int .i64 r5_0) (.int .i64 r5_1) (.slice As_ k5_.length cs_), fun _ => F5.out.set3 (⟨hon 6 (by kernel_rfl), rfl⟩) (.int .i64 r5_0) (.int .i64 r5_1) (.slice As_ k5_.length cs_), fun _ => ⟨Z6.out.1, by rw [size_set3]; exact Z6.out.2⟩, fun _ h1_ => absurd ((up_self b 7).symm.trans h1_) (by decide), fun _ => blk_set3 B6.out rfl (.int .i64 r5_0) (.int .i64 r5_1) (.slice As_ k5_.length cs_), Q_X2_, Q_X3_, Q_X5_, Q_X6_⟩
    exact steps_nil
  · rintro b a w' hall ⟨u2, u3, u5, g6, m2_, m3_, m5_, m6_, ha, Q_HB, Q_F2, Q_F3, Q_F5, Q_Z6, Q_B6, Q_S6, Q_X2_, Q_X3_, Q_X5_, Q_X6_⟩
    clear HB
    have hb0_ := hall 0 (by kernel_rfl)
    have hb1_ := hall 1 (by kernel_rfl)
    have hb2_ := hall 2 (by kernel_rfl)
    have hb3_ := hall 3 (by kernel_rfl)
    have hb4_ := hall 4 (by kernel_rfl)
    have hb5_ := hall 5 (by kernel_rfl)
    have hb6_ := hall 6 (by kernel_rfl)
    have hb7_ := hall 7 (by kernel_rfl)
    subst ha
    obtain rfl := Q_X2_ hb2_
    obtain rfl := Q_X3_ hb3_
    obtain rfl := Q_X5_ hb5_
    obtain rfl := Q_X6_ hb6_
    simp only [putSel, hb0_, hb1_, hb2_, hb3_, hb4_, hb5_, hb6_, hb7_, if_true]
    have HB := Aside0.mk Q_HB
    clear Q_HB
    have F2 := Aside0.mk (Q_F2 hb2_)
    clear Q_F2
    have F3 := Aside0.mk (Q_F3 hb3_)
    clear Q_F3
    have F5 := Aside0.mk (Q_F5 hb5_)
    clear Q_F5
    have Z6 := Aside0.mk (Q_Z6 hb6_)
    clear Q_Z6
    clear Q_B6
    have S6 := Aside0.mk (Q_S6 hb7_)
    clear Q_S6
    clear hall hb0_ hb1_ hb2_ hb3_ hb4_ hb5_ hb6_ hb7_
    exact hQ u2 u3 u5 g6 w' HB.out Z6.out.1 S6.out F5.out.free
set_option maxHeartbeats 4000000 in
set_option maxRecDepth 100000 in
theorem substs_r8 {Q : Exit → Act → World → Prop} {a : Act} {W : World} (hsz : a.tmps.size = 71) (kk : Nat) (xt yt : Int) (vt : Value) (kt : List S29) (bt : Nat) (ht : a.tmps[9]? = some (.pointer (some ⟨bt, 0, none⟩))) (Bt_ : W.heap[bt]? = some (.cells #[.int .i64 xt, .int .i64 yt, vt] 29 (0, 0))) (Tt_ : TV W (fun _ => False) vt kt)
    (xs ys : Int) (vs : Value) (ks : List S29) (bs : Nat) (hs : a.tmps[10]? = some (.pointer (some ⟨bs, 0, none⟩))) (Bs_ : W.heap[bs]? = some (.cells #[.int .i64 xs, .int .i64 ys, vs] 29 (0, 0))) (Ts_ : TV W (fun _ => False) vs ks)
    (xz yz : Int) (vz : Value) (kz : List S29) (bz : Nat) (hz : a.tmps[11]? = some (.pointer (some ⟨bz, 0, none⟩))) (Bz_ : W.heap[bz]? = some (.cells #[.int .i64 xz, .int .i64 yz, vz] 29 (0, 0))) (Tz_ : TV W (fun _ => False) vz kz)
    (r2_0 r2_1 : Int) (k2_ : List S29)
    (r3_0 r3_1 : Int) (k3_ : List S29)
    (r5_0 r5_1 : Int) (k5_ : List S29)
    (H2 : term_Shift.f kk xz yz kz 1 0 = some (r2_0, r2_1, k2_))
    (H3 : term_Subst.f kk xt yt kt 1 r2_0 r2_1 k2_ = some (r3_0, r3_1, k3_))
    (H5 : term_Subst.f kk r3_0 r3_1 k3_ 0 xs ys ks = some (r5_0, r5_1, k5_))
    (hQ : ∀ (u2 u3 u5 : Value) (g6 : Nat) (w' : World), Below W.heap.size W w' → W.heap.size ≤ g6 → w'.heap[g6]? = some (.cells #[.int .i64 r5_0, .int .i64 r5_1, u5] 29 (0, 0)) → TV w' (fun _ => False) u5 k5_ → Q .normal (((((((a.put (some 45) (.agg #[.int .i64 xt, .int .i64 yt, vt])).put (some 46) (.agg #[.int .i64 xz, .int .i64 yz, vz])).put (some 47) (.agg #[.int .i64 r2_0, .int .i64 r2_1, u2])).put (some 48) (.agg #[.int .i64 r3_0, .int .i64 r3_1, u3])).put (some 49) (.agg #[.int .i64 xs, .int .i64 ys, vs])).put (some 50) (.agg #[.int .i64 r5_0, .int .i64 r5_1, u5])).put (some 13) (.pointer (some ⟨g6, 0, none⟩))) w') :
    (Code.region 8 (opsOf Tryd.f5 8) true).wp Tryd.prog Q a W := by
  have HT_ := Aside0.mk thyrsuslaw4_TermSubsts.tab8
  have HW_ := Aside0.mk thyrsuslaw4_TermSubsts.bits8
  have BKt := Aside0.mk Bt_
  have Tt := Aside0.mk Tt_
  clear Bt_ Tt_
  have BKs := Aside0.mk Bs_
  have Ts := Aside0.mk Ts_
  clear Bs_ Ts_
  have BKz := Aside0.mk Bz_
  have Tz := Aside0.mk Tz_
  clear Bz_ Tz_
  have AH2 := Aside0.mk H2
  clear H2
  have AH3 := Aside0.mk H3
  clear H3
  have AH5 := Aside0.mk H5
  clear H5
  have HB := Aside0.mk (below_drew1 (Below.refl W.heap.size W))
  conv in (opsOf Tryd.f5 8) => whnf
  refine start_ (n := 8) (S := fun w' => True) (ds := []) #[false, false, false, false, false, false, false, false] (by kernel_rfl) rfl rfl trivial (fun hHeld => ?_)
  clear hHeld
  generalize W.drew = W1 at HB ⊢
  refine inv_at [0, 1, 2, 3, 4, 5, 6, 7] (fun a0_ b a w' => ∃ (u2 : Value) (u3 : Value) (u5 : Value) (g6 : Nat) (m2_ : Value) (m3_ : Value) (m5_ : Value) (m6_ : Value), a = putSel a0_ b [(0, 45, .agg #[.int .i64 xt, .int .i64 yt, vt]), (1, 46, .agg #[.int .i64 xz, .int .i64 yz, vz]), (2, 47, m2_), (3, 48, m3_), (4, 49, .agg #[.int .i64 xs, .int .i64 ys, vs]), (5, 50, m5_), (6, 13, m6_)] ∧ (Below W.heap.size W w') ∧ (b 2 = true → TV w' (fun k_ => (b 6 = true ∧ k_ = g6)) u2 k2_) ∧ (b 3 = true → TV w' (fun k_ => (b 6 = true ∧ k_ = g6)) u3 k3_) ∧ (b 5 = true → TV w' (fun k_ => (b 6 = true ∧ k_ = g6)) u5 k5_) ∧ (b 6 = true → W.heap.size ≤ g6 ∧ g6 < w'.heap.size) ∧ (b 6 = true → b 7 = false → w'.heap[g6]? = some (.cells #[.int .i64 0, .int .i64 0, .slice none 0 0] 29 (0, 0))) ∧ (b 7 = true → w'.heap[g6]? = some (.cells #[.int .i64 r5_0, .int .i64 r5_1, u5] 29 (0, 0))) ∧ (b 2 = true → (m2_ : Value) = .agg #[.int .i64 r2_0, .int .i64 r2_1, u2]) ∧ (b 3 = true → (m3_ : Value) = .agg #[.int .i64 r3_0, .int .i64 r3_1, u3]) ∧ (b 5 = true → (m5_ : Value) = .agg #[.int .i64 r5_0, .int .i64 r5_1, u5]) ∧ (b 6 = true → (m6_ : Value) = .pointer (some ⟨g6, 0, none⟩))) HT_.out HW_.out (by kernel_rfl) (by kernel_rfl) ?_ ?_ ?_
  · exact ⟨.bool false, .bool false, .bool false, 0, .bool false, .bool false, .bool false, .bool false, by simp only [putSel, Bool.false_eq_true, if_false], HB.out, fun h_ => absurd h_ (by decide), fun h_ => absurd h_ (by decide), fun h_ => absurd h_ (by decide), fun h_ => absurd h_ (by decide), fun h_ => absurd h_ (by decide), fun h_ => absurd h_ (by decide), fun h_ => absurd h_ (by decide), fun h_ => absurd h_ (by decide), fun h_ => absurd h_ (by decide), fun h_ => absurd h_ (by decide)⟩
  · skip
    clear HB
    refine steps_cons ?_ ?_
    · rintro b a w' ⟨u2, u3, u5, g6, m2_, m3_, m5_, m6_, ha, Q_HB, Q_F2, Q_F3, Q_F5, Q_Z6, Q_B6, Q_S6, Q_X2_, Q_X3_, Q_X5_, Q_X6_⟩ hb_ hon hoff
      refine ⟨_, rfl, fun K hK => ?_⟩
      have e9 : a.tmps[9]? = some (.pointer (some ⟨bt, 0, none⟩)) := by rw [ha]; exact (putSel_off rfl).trans ht
      replace ha := Aside0.mk ha
      have HB := Aside0.mk Q_HB
      have hc0_ : w'.cell? ⟨bt, 0, none⟩ = some (.int .i64 xt) := (blk_cell (blk_below BKt.out HB.out) 0).trans rfl
      have hc1_ : w'.cell? ⟨bt, 1, none⟩ = some (.int .i64 yt) := (blk_cell (blk_below BKt.out HB.out) 1).trans rfl
      have hc2_ : w'.cell? ⟨bt, 2, none⟩ = some (vt) := (blk_cell (blk_below BKt.out HB.out) 2).trans rfl
      refine value_ (w1 := w') (v := .agg #[.int .i64 xt, .int .i64 yt, vt]) (by rfl) rfl ?_ ?_
      · go_simp
        (try simp only [i64_w])
        try rfl
      refine hK.out _ _ ⟨u2, u3, u5, g6, m2_, m3_, m5_, m6_, (by rw [ha.out]; exact putSel_upk 0 hb_ rfl rfl rfl), Q_HB, Q_F2, fun h0_ => absurd ((hoff 3 (by kernel_rfl)).symm.trans h0_) (by decide), fun h0_ => absurd ((hoff 5 (by kernel_rfl)).symm.trans h0_) (by decide), Q_Z6, Q_B6, fun h0_ => absurd ((hoff 7 (by kernel_rfl)).symm.trans h0_) (by decide), Q_X2_, fun h0_ => absurd ((hoff 3 (by kernel_rfl)).symm.trans h0_) (by decide), fun h0_ => absurd ((hoff 5 (by kernel_rfl)).symm.trans h0_) (by decide), Q_X6_⟩
    refine steps_cons ?_ ?_
    · rintro b a w' ⟨u2, u3, u5, g6, m2_, m3_, m5_, m6_, ha, Q_HB, Q_F2, Q_F3, Q_F5, Q_Z6, Q_B6, Q_S6, Q_X2_, Q_X3_, Q_X5_, Q_X6_⟩ hb_ hon hoff
      refine ⟨_, rfl, fun K hK => ?_⟩
      have e11 : a.tmps[11]? = some (.pointer (some ⟨bz, 0, none⟩)) := by rw [ha]; exact (putSel_off rfl).trans hz
      replace ha := Aside0.mk ha
      have HB := Aside0.mk Q_HB
      have hc0_ : w'.cell? ⟨bz, 0, none⟩ = some (.int .i64 xz) := (blk_cell (blk_below BKz.out HB.out) 0).trans rfl
      have hc1_ : w'.cell? ⟨bz, 1, none⟩ = some (.int .i64 yz) := (blk_cell (blk_below BKz.out HB.out) 1).trans rfl
      have hc2_ : w'.cell? ⟨bz, 2, none⟩ = some (vz) := (blk_cell (blk_below BKz.out HB.out) 2).trans rfl
      refine value_ (w1 := w') (v := .agg #[.int .i64 xz, .int .i64 yz, vz]) (by rfl) rfl ?_ ?_
      · go_simp
        (try simp only [i64_w])
        try rfl
      refine hK.out _ _ ⟨u2, u3, u5, g6, m2_, m3_, m5_, m6_, (by rw [ha.out]; exact putSel_upk 1 hb_ rfl rfl rfl), Q_HB, fun h0_ => absurd ((hoff 2 (by kernel_rfl)).symm.trans h0_) (by decide), fun h0_ => absurd ((hoff 3 (by kernel_rfl)).symm.trans h0_) (by decide), fun h0_ => absurd ((hoff 5 (by kernel_rfl)).symm.trans h0_) (by decide), Q_Z6, Q_B6, fun h0_ => absurd ((hoff 7 (by kernel_rfl)).symm.trans h0_) (by decide), fun h0_ => absurd ((hoff 2 (by kernel_rfl)).symm.trans h0_) (by decide), fun h0_ => absurd ((hoff 3 (by kernel_rfl)).symm.trans h0_) (by decide), fun h0_ => absurd ((hoff 5 (by kernel_rfl)).symm.trans h0_) (by decide), Q_X6_⟩
    refine steps_cons ?_ ?_
    · rintro b a w' ⟨u2, u3, u5, g6, m2_, m3_, m5_, m6_, ha, Q_HB, Q_F2, Q_F3, Q_F5, Q_Z6, Q_B6, Q_S6, Q_X2_, Q_X3_, Q_X5_, Q_X6_⟩ hb_ hon hoff
      refine ⟨_, rfl, fun K hK => ?_⟩
      have e46 : a.tmps[46]? = some (.agg #[.int .i64 xz, .int .i64 yz, vz]) := by rw [ha]; exact putSel_on (e := (1, 46, .agg #[.int .i64 xz, .int .i64 yz, vz])) 1 rfl rfl (hon 1 (by kernel_rfl)) (by rw [hsz]; rfl)
      replace ha := Aside0.mk ha
      have HB := Aside0.mk Q_HB
      refine goes_ Tryd.func23 (by kernel_rfl) rfl #[.agg #[.int .i64 xz, .int .i64 yz, vz], .int .i64 1, .int .i64 0] (by rfl) rfl rfl (by first | (simp only [List.map_toArray, List.map_cons, List.map_nil, Act.eval, Array.getD_eq_getD_getElem?, Option.getD_some, e46]; done) | (simp only [List.map_toArray, List.map_cons, List.map_nil, Act.eval, Array.getD_eq_getD_getElem?, Option.getD_some, e46]; rfl)) ?_
      refine (shift_go kk xz yz vz kz 1 0 r2_0 r2_1 k2_ w' (fun k_ => (b 6 = true ∧ k_ = g6)) (fun k_ h_ => h_.2 ▸ (Q_Z6 h_.1).2) (TV.old Tz.out HB.out (fun k_ h_ => h_.2 ▸ (Q_Z6 h_.1).1)) AH2.out).mono ?_
      rintro e w1 ⟨v_, rfl, hv, hb⟩
      refine ⟨_, rfl, ?_⟩
      refine hK.out _ _ ⟨v_, u3, u5, g6, (.agg #[.int .i64 r2_0, .int .i64 r2_1, v_]), m3_, m5_, m6_, (by rw [ha.out]; exact putSel_upk 2 hb_ rfl rfl rfl), below_step HB.out hb, fun _ => hv, fun h0_ => absurd ((hoff 3 (by kernel_rfl)).symm.trans h0_) (by decide), fun h0_ => absurd ((hoff 5 (by kernel_rfl)).symm.trans h0_) (by decide), fun h0_ => ⟨(Q_Z6 h0_).1, Nat.lt_of_lt_of_le (Q_Z6 h0_).2 hb.size⟩, fun h0_ h1_ => blk_below (Q_B6 h0_ h1_) hb, fun h0_ => absurd ((hoff 7 (by kernel_rfl)).symm.trans h0_) (by decide), fun _ => rfl, fun h0_ => absurd ((hoff 3 (by kernel_rfl)).symm.trans h0_) (by decide), fun h0_ => absurd ((hoff 5 (by kernel_rfl)).symm.trans h0_) (by decide), Q_X6_⟩
    refine steps_cons ?_ ?_
    · rintro b a w' ⟨u2, u3, u5, g6, m2_, m3_, m5_, m6_, ha, Q_HB, Q_F2, Q_F3, Q_F5, Q_Z6, Q_B6, Q_S6, Q_X2_, Q_X3_, Q_X5_, Q_X6_⟩ hb_ hon hoff
      refine ⟨_, rfl, fun K hK => ?_⟩
      have e45 : a.tmps[45]? = some (.agg #[.int .i64 xt, .int .i64 yt, vt]) := by rw [ha]; exact putSel_on (e := (0, 45, .agg #[.int .i64 xt, .int .i64 yt, vt])) 0 rfl rfl (hon 0 (by kernel_rfl)) (by rw [hsz]; rfl)
      have e47 : a.tmps[47]? = some (m2_) := by rw [ha]; exact putSel_on (e := (2, 47, m2_)) 2 rfl rfl (hon 2 (by kernel_rfl)) (by rw [hsz]; rfl)
      rw [Q_X2_ (hon 2 (by kernel_rfl))] at e47
      replace ha := Aside0.mk ha
      have HB := Aside0.mk Q_HB
      have F2 := Aside0.mk (Q_F2 (hon 2 (by kernel_rfl)))
      refine goes_ Tryd.func22 (by kernel_rfl) rfl #[.agg #[.int .i64 xt, .int .i64 yt, vt], .int .i64 1, .agg #[.int .i64 r2_0, .int .i64 r2_1, u2]] (by rfl) rfl rfl (by first | (simp only [List.map_toArray, List.map_cons, List.map_nil, Act.eval, Array.getD_eq_getD_getElem?, Option.getD_some, e45, e47]; done) | (simp only [List.map_toArray, List.map_cons, List.map_nil, Act.eval, Array.getD_eq_getD_getElem?, Option.getD_some, e45, e47]; rfl)) ?_
      refine (subst_go kk xt yt vt kt 1 r2_0 r2_1 u2 k2_ r3_0 r3_1 k3_ w' (fun k_ => (b 6 = true ∧ k_ = g6)) (fun k_ h_ => h_.2 ▸ (Q_Z6 h_.1).2) (TV.old Tt.out HB.out (fun k_ h_ => h_.2 ▸ (Q_Z6 h_.1).1)) F2.out AH3.out).mono ?_
      rintro e w1 ⟨v_, rfl, hv, hb⟩
      refine ⟨_, rfl, ?_⟩
      refine hK.out _ _ ⟨u2, v_, u5, g6, m2_, (.agg #[.int .i64 r3_0, .int .i64 r3_1, v_]), m5_, m6_, (by rw [ha.out]; exact putSel_upk 3 hb_ rfl rfl rfl), below_step HB.out hb, fun _ => F2.out.step hb, fun _ => hv, fun h0_ => absurd ((hoff 5 (by kernel_rfl)).symm.trans h0_) (by decide), fun h0_ => ⟨(Q_Z6 h0_).1, Nat.lt_of_lt_of_le (Q_Z6 h0_).2 hb.size⟩, fun h0_ h1_ => blk_below (Q_B6 h0_ h1_) hb, fun h0_ => absurd ((hoff 7 (by kernel_rfl)).symm.trans h0_) (by decide), Q_X2_, fun _ => rfl, fun h0_ => absurd ((hoff 5 (by kernel_rfl)).symm.trans h0_) (by decide), Q_X6_⟩
    refine steps_cons ?_ ?_
    · rintro b a w' ⟨u2, u3, u5, g6, m2_, m3_, m5_, m6_, ha, Q_HB, Q_F2, Q_F3, Q_F5, Q_Z6, Q_B6, Q_S6, Q_X2_, Q_X3_, Q_X5_, Q_X6_⟩ hb_ hon hoff
      refine ⟨_, rfl, fun K hK => ?_⟩
      have e10 : a.tmps[10]? = some (.pointer (some ⟨bs, 0, none⟩)) := by rw [ha]; exact (putSel_off rfl).trans hs
      replace ha := Aside0.mk ha
      have HB := Aside0.mk Q_HB
      have hc0_ : w'.cell? ⟨bs, 0, none⟩ = some (.int .i64 xs) := (blk_cell (blk_below BKs.out HB.out) 0).trans rfl
      have hc1_ : w'.cell? ⟨bs, 1, none⟩ = some (.int .i64 ys) := (blk_cell (blk_below BKs.out HB.out) 1).trans rfl
      have hc2_ : w'.cell? ⟨bs, 2, none⟩ = some (vs) := (blk_cell (blk_below BKs.out HB.out) 2).trans rfl
      refine value_ (w1 := w') (v := .agg #[.int .i64 xs, .int .i64 ys, vs]) (by rfl) rfl ?_ ?_
      · go_simp
        (try simp only [i64_w])
        try rfl
      refine hK.out _ _ ⟨u2, u3, u5, g6, m2_, m3_, m5_, m6_, (by rw [ha.out]; exact putSel_upk 4 hb_ rfl rfl rfl), Q_HB, Q_F2, Q_F3, fun h0_ => absurd ((hoff 5 (by kernel_rfl)).symm.trans h0_) (by decide), Q_Z6, Q_B6, fun h0_ => absurd ((hoff 7 (by kernel_rfl)).symm.trans h0_) (by decide), Q_X2_, Q_X3_, fun h0_ => absurd ((hoff 5 (by kernel_rfl)).symm.trans h0_) (by decide), Q_X6_⟩
    refine steps_cons ?_ ?_
    · rintro b a w' ⟨u2, u3, u5, g6, m2_, m3_, m5_, m6_, ha, Q_HB, Q_F2, Q_F3, Q_F5, Q_Z6, Q_B6, Q_S6, Q_X2_, Q_X3_, Q_X5_, Q_X6_⟩ hb_ hon hoff
      refine ⟨_, rfl, fun K hK => ?_⟩
      have e48 : a.tmps[48]? = some (m3_) := by rw [ha]; exact putSel_on (e := (3, 48, m3_)) 3 rfl rfl (hon 3 (by kernel_rfl)) (by rw [hsz]; rfl)
      rw [Q_X3_ (hon 3 (by kernel_rfl))] at e48
      have e49 : a.tmps[49]? = some (.agg #[.int .i64 xs, .int .i64 ys, vs]) := by rw [ha]; exact putSel_on (e := (4, 49, .agg #[.int .i64 xs, .int .i64 ys, vs])) 4 rfl rfl (hon 4 (by kernel_rfl)) (by rw [hsz]; rfl)
      replace ha := Aside0.mk ha
      have HB := Aside0.mk Q_HB
      have F2 := Aside0.mk (Q_F2 (hon 2 (by kernel_rfl)))
      have F3 := Aside0.mk (Q_F3 (hon 3 (by kernel_rfl)))
      refine goes_ Tryd.func22 (by kernel_rfl) rfl #[.agg #[.int .i64 r3_0, .int .i64 r3_1, u3], .int .i64 0, .agg #[.int .i64 xs, .int .i64 ys, vs]] (by rfl) rfl rfl (by first | (simp only [List.map_toArray, List.map_cons, List.map_nil, Act.eval, Array.getD_eq_getD_getElem?, Option.getD_some, e48, e49]; done) | (simp only [List.map_toArray, List.map_cons, List.map_nil, Act.eval, Array.getD_eq_getD_getElem?, Option.getD_some, e48, e49]; rfl)) ?_
      refine (subst_go kk r3_0 r3_1 u3 k3_ 0 xs ys vs ks r5_0 r5_1 k5_ w' (fun k_ => (b 6 = true ∧ k_ = g6)) (fun k_ h_ => h_.2 ▸ (Q_Z6 h_.1).2) F3.out (TV.old Ts.out HB.out (fun k_ h_ => h_.2 ▸ (Q_Z6 h_.1).1)) AH5.out).mono ?_
      rintro e w1 ⟨v_, rfl, hv, hb⟩
      refine ⟨_, rfl, ?_⟩
      refine hK.out _ _ ⟨u2, u3, v_, g6, m2_, m3_, (.agg #[.int .i64 r5_0, .int .i64 r5_1, v_]), m6_, (by rw [ha.out]; exact putSel_upk 5 hb_ rfl rfl rfl), below_step HB.out hb, fun _ => F2.out.step hb, fun _ => F3.out.step hb, fun _ => hv, fun h0_ => ⟨(Q_Z6 h0_).1, Nat.lt_of_lt_of_le (Q_Z6 h0_).2 hb.size⟩, fun h0_ h1_ => blk_below (Q_B6 h0_ h1_) hb, fun h0_ => absurd ((hoff 7 (by kernel_rfl)).symm.trans h0_) (by decide), Q_X2_, Q_X3_, fun _ => rfl, Q_X6_⟩
    refine steps_cons ?_ ?_
    · rintro b a w' ⟨u2, u3, u5, g6, m2_, m3_, m5_, m6_, ha, Q_HB, Q_F2, Q_F3, Q_F5, Q_Z6, Q_B6, Q_S6, Q_X2_, Q_X3_, Q_X5_, Q_X6_⟩ hb_ hon hoff
      refine ⟨_, rfl, fun K hK => ?_⟩
      replace ha := Aside0.mk ha
      have HB := Aside0.mk Q_HB
      refine box_step ?hg (N := 13) ?hd (cs := #[.int .i64 0, .int .i64 0, .slice none 0 0]) (t := 29) ?hr ?_; (case hd => rfl); (case hg => rfl); (case hr => first | (go_simp; done) | (go_simp; rfl))
      intro gn hg w1 hbox hb
      refine hK.out _ _ ⟨u2, u3, u5, gn, m2_, m3_, m5_, (.pointer (some ⟨gn, 0, none⟩)), (by rw [ha.out]; exact putSel_upk 6 hb_ rfl rfl rfl), below_step HB.out hb, fun h0_ => (Q_F2 h0_).below hb (fun k_ h_ => .inr (by rw [h_.2, hg]; exact Nat.le_refl _)), fun h0_ => (Q_F3 h0_).below hb (fun k_ h_ => .inr (by rw [h_.2, hg]; exact Nat.le_refl _)), fun h0_ => (Q_F5 h0_).below hb (fun k_ h_ => .inr (by rw [h_.2, hg]; exact Nat.le_refl _)), fun _ => ⟨by rw [hg]; exact below_size HB.out, blk_lt hbox⟩, fun _ _ => hbox, fun h0_ => absurd ((hoff 7 (by kernel_rfl)).symm.trans h0_) (by decide), Q_X2_, Q_X3_, Q_X5_, fun _ => rfl⟩
    refine steps_cons ?_ ?_
    · rintro b a w' ⟨u2, u3, u5, g6, m2_, m3_, m5_, m6_, ha, Q_HB, Q_F2, Q_F3, Q_F5, Q_Z6, Q_B6, Q_S6, Q_X2_, Q_X3_, Q_X5_, Q_X6_⟩ hb_ hon hoff
      refine ⟨_, rfl, fun K hK => ?_⟩
      have e13 : a.tmps[13]? = some (m6_) := by rw [ha]; exact putSel_on (e := (6, 13, m6_)) 6 rfl rfl (hon 6 (by kernel_rfl)) (by rw [hsz]; rfl)
      rw [Q_X6_ (hon 6 (by kernel_rfl))] at e13
      have e50 : a.tmps[50]? = some (m5_) := by rw [ha]; exact putSel_on (e := (5, 50, m5_)) 5 rfl rfl (hon 5 (by kernel_rfl)) (by rw [hsz]; rfl)
      rw [Q_X5_ (hon 5 (by kernel_rfl))] at e50
      replace ha := Aside0.mk ha
      have HB := Aside0.mk Q_HB
      have F2 := Aside0.mk (Q_F2 (hon 2 (by kernel_rfl)))
      have F3 := Aside0.mk (Q_F3 (hon 3 (by kernel_rfl)))
      have F5 := Aside0.mk (Q_F5 (hon 5 (by kernel_rfl)))
      have Z6 := Aside0.mk (Q_Z6 (hon 6 (by kernel_rfl)))
      have B6 := Aside0.mk (Q_B6 (hon 6 (by kernel_rfl)) hb_)
      have hs0_ : w'.cell? ⟨g6, 0, none⟩ = some (.int .i64 0) := (blk_cell B6.out 0).trans rfl
      have hs1_ : w'.cell? ⟨g6, 1, none⟩ = some (.int .i64 0) := (blk_cell B6.out 1).trans rfl
      have hs2_ : w'.cell? ⟨g6, 2, none⟩ = some (.slice none 0 0) := (blk_cell B6.out 2).trans rfl
      have hf0_ := blk_frozen B6.out 0
      have hf1_ := blk_frozen B6.out 1
      have hf2_ := blk_frozen B6.out 2
      obtain ⟨As_, cs_, hu_⟩ := Kd.V_slice F5.out
      subst hu_
      refine skip_ (w1 := ?_) (by rfl) rfl ?_ ?_
      rotate_left
      · go_simp
        rfl
      refine hK.out _ _ ⟨u2, u3, .slice As_ k5_.length cs_, g6, m2_, m3_, m5_, m6_, (by rw [ha.out]; exact putSel_none (v := undef) rfl), below_set3 HB.out Z6.out.1 (.int .i64 r5_0) (.int .i64 r5_1) (.slice As_ k5_.length cs_), fun _ => F2.out.set3 (⟨hon 6 (by kernel_rfl), rfl⟩) (.int .i64 r5_0) (.int .i64 r5_1) (.slice As_ k5_.length cs_), fun _ => F3.out.set3 (⟨hon 6 (by kernel_rfl), rfl⟩) (.int .i64 r5_0) (.int .i64 r5_1) (.slice As_ k5_.length cs_), fun _ => F5.out.set3 (⟨hon 6 (by kernel_rfl), rfl⟩) (.int .i64 r5_0) (.int .i64 r5_1) (.slice As_ k5_.length cs_), fun _ => ⟨Z6.out.1, by rw [size_set3]; exact Z6.out.2⟩, fun _ h1_ => absurd ((up_self b 7).symm.trans h1_) (by decide), fun _ => blk_set3 B6.out rfl (.int .i64 r5_0) (.int .i64 r5_1) (.slice As_ k5_.length cs_), Q_X2_, Q_X3_, Q_X5_, Q_X6_⟩
    exact steps_nil
  · rintro b a w' hall ⟨u2, u3, u5, g6, m2_, m3_, m5_, m6_, ha, Q_HB, Q_F2, Q_F3, Q_F5, Q_Z6, Q_B6, Q_S6, Q_X2_, Q_X3_, Q_X5_, Q_X6_⟩
    clear HB
    have hb0_ := hall 0 (by kernel_rfl)
    have hb1_ := hall 1 (by kernel_rfl)
    have hb2_ := hall 2 (by kernel_rfl)
    have hb3_ := hall 3 (by kernel_rfl)
    have hb4_ := hall 4 (by kernel_rfl)
    have hb5_ := hall 5 (by kernel_rfl)
    have hb6_ := hall 6 (by kernel_rfl)
    have hb7_ := hall 7 (by kernel_rfl)
    subst ha
    obtain rfl := Q_X2_ hb2_
    obtain rfl := Q_X3_ hb3_
    obtain rfl := Q_X5_ hb5_
    obtain rfl := Q_X6_ hb6_
    simp only [putSel, hb0_, hb1_, hb2_, hb3_, hb4_, hb5_, hb6_, hb7_, if_true]
    have HB := Aside0.mk Q_HB
    clear Q_HB
    have F2 := Aside0.mk (Q_F2 hb2_)
    clear Q_F2
    have F3 := Aside0.mk (Q_F3 hb3_)
    clear Q_F3
    have F5 := Aside0.mk (Q_F5 hb5_)
    clear Q_F5
    have Z6 := Aside0.mk (Q_Z6 hb6_)
    clear Q_Z6
    clear Q_B6
    have S6 := Aside0.mk (Q_S6 hb7_)
    clear Q_S6
    clear hall hb0_ hb1_ hb2_ hb3_ hb4_ hb5_ hb6_ hb7_
    exact hQ u2 u3 u5 g6 w' HB.out Z6.out.1 S6.out F5.out.free
set_option maxHeartbeats 4000000 in
set_option maxRecDepth 100000 in
theorem substs_r10 {Q : Exit → Act → World → Prop} {a : Act} {W : World} (hsz : a.tmps.size = 71) (kk : Nat) (xt yt : Int) (vt : Value) (kt : List S29) (bt : Nat) (ht : a.tmps[9]? = some (.pointer (some ⟨bt, 0, none⟩))) (Bt_ : W.heap[bt]? = some (.cells #[.int .i64 xt, .int .i64 yt, vt] 29 (0, 0))) (Tt_ : TV W (fun _ => False) vt kt)
    (xs ys : Int) (vs : Value) (ks : List S29) (bs : Nat) (hs : a.tmps[10]? = some (.pointer (some ⟨bs, 0, none⟩))) (Bs_ : W.heap[bs]? = some (.cells #[.int .i64 xs, .int .i64 ys, vs] 29 (0, 0))) (Ts_ : TV W (fun _ => False) vs ks)
    (n3 : Int) (hn3 : a.tmps[3]? = some (.int .i64 n3))
    (r2_0 r2_1 : Int) (k2_ : List S29)
    (r5_0 r5_1 : Int) (k5_ : List S29)
    (r6_0 r6_1 : Int) (k6_ : List S29)
    (H2 : term_Shift.f kk xt yt kt n3 1 = some (r2_0, r2_1, k2_))
    (H5 : term_Shift.f kk xs ys ks n3 0 = some (r5_0, r5_1, k5_))
    (H6 : term_Subst.f kk r2_0 r2_1 k2_ 0 r5_0 r5_1 k5_ = some (r6_0, r6_1, k6_))
    (hQ : ∀ (u2 u5 u6 : Value) (g7 : Nat) (w' : World), Below W.heap.size W w' → W.heap.size ≤ g7 → w'.heap[g7]? = some (.cells #[.int .i64 r6_0, .int .i64 r6_1, u6] 29 (0, 0)) → TV w' (fun _ => False) u6 k6_ → Q .normal ((((((((a.put (some 56) (.agg #[.int .i64 xt, .int .i64 yt, vt])).put (some 57) (.int .i64 n3)).put (some 58) (.agg #[.int .i64 r2_0, .int .i64 r2_1, u2])).put (some 59) (.agg #[.int .i64 xs, .int .i64 ys, vs])).put (some 60) (.int .i64 n3)).put (some 61) (.agg #[.int .i64 r5_0, .int .i64 r5_1, u5])).put (some 62) (.agg #[.int .i64 r6_0, .int .i64 r6_1, u6])).put (some 15) (.pointer (some ⟨g7, 0, none⟩))) w') :
    (Code.region 10 (opsOf Tryd.f5 10) true).wp Tryd.prog Q a W := by
  have HT_ := Aside0.mk thyrsuslaw4_TermSubsts.tab10
  have HW_ := Aside0.mk thyrsuslaw4_TermSubsts.bits10
  have BKt := Aside0.mk Bt_
  have Tt := Aside0.mk Tt_
  clear Bt_ Tt_
  have BKs := Aside0.mk Bs_
  have Ts := Aside0.mk Ts_
  clear Bs_ Ts_
  have AH2 := Aside0.mk H2
  clear H2
  have AH5 := Aside0.mk H5
  clear H5
  have AH6 := Aside0.mk H6
  clear H6
  have HB := Aside0.mk (below_drew1 (Below.refl W.heap.size W))
  conv in (opsOf Tryd.f5 10) => whnf
  refine start_ (n := 9) (S := fun w' => True) (ds := []) #[false, false, false, false, false, false, false, false, false] (by kernel_rfl) rfl rfl trivial (fun hHeld => ?_)
  clear hHeld
  generalize W.drew = W1 at HB ⊢
  refine inv_at [0, 1, 2, 3, 4, 5, 6, 7, 8] (fun a0_ b a w' => ∃ (u2 : Value) (u5 : Value) (u6 : Value) (g7 : Nat) (m2_ : Value) (m5_ : Value) (m6_ : Value) (m7_ : Value), a = putSel a0_ b [(0, 56, .agg #[.int .i64 xt, .int .i64 yt, vt]), (1, 57, .int .i64 n3), (2, 58, m2_), (3, 59, .agg #[.int .i64 xs, .int .i64 ys, vs]), (4, 60, .int .i64 n3), (5, 61, m5_), (6, 62, m6_), (7, 15, m7_)] ∧ (Below W.heap.size W w') ∧ (b 2 = true → TV w' (fun k_ => (b 7 = true ∧ k_ = g7)) u2 k2_) ∧ (b 5 = true → TV w' (fun k_ => (b 7 = true ∧ k_ = g7)) u5 k5_) ∧ (b 6 = true → TV w' (fun k_ => (b 7 = true ∧ k_ = g7)) u6 k6_) ∧ (b 7 = true → W.heap.size ≤ g7 ∧ g7 < w'.heap.size) ∧ (b 7 = true → b 8 = false → w'.heap[g7]? = some (.cells #[.int .i64 0, .int .i64 0, .slice none 0 0] 29 (0, 0))) ∧ (b 8 = true → w'.heap[g7]? = some (.cells #[.int .i64 r6_0, .int .i64 r6_1, u6] 29 (0, 0))) ∧ (b 2 = true → (m2_ : Value) = .agg #[.int .i64 r2_0, .int .i64 r2_1, u2]) ∧ (b 5 = true → (m5_ : Value) = .agg #[.int .i64 r5_0, .int .i64 r5_1, u5]) ∧ (b 6 = true → (m6_ : Value) = .agg #[.int .i64 r6_0, .int .i64 r6_1, u6]) ∧ (b 7 = true → (m7_ : Value) = .pointer (some ⟨g7, 0, none⟩))) HT_.out HW_.out (by kernel_rfl) (by kernel_rfl) ?_ ?_ ?_
  · exact ⟨.bool false, .bool false, .bool false, 0, .bool false, .bool false, .bool false, .bool false, by simp only [putSel, Bool.false_eq_true, if_false], HB.out, fun h_ => absurd h_ (by decide), fun h_ => absurd h_ (by decide), fun h_ => absurd h_ (by decide), fun h_ => absurd h_ (by decide), fun h_ => absurd h_ (by decide), fun h_ => absurd h_ (by decide), fun h_ => absurd h_ (by decide), fun h_ => absurd h_ (by decide), fun h_ => absurd h_ (by decide), fun h_ => absurd h_ (by decide)⟩
  · skip
    clear HB
    refine steps_cons ?_ ?_
    · rintro b a w' ⟨u2, u5, u6, g7, m2_, m5_, m6_, m7_, ha, Q_HB, Q_F2, Q_F5, Q_F6, Q_Z7, Q_B7, Q_S7, Q_X2_, Q_X5_, Q_X6_, Q_X7_⟩ hb_ hon hoff
      refine ⟨_, rfl, fun K hK => ?_⟩
      have e9 : a.tmps[9]? = some (.pointer (some ⟨bt, 0, none⟩)) := by rw [ha]; exact (putSel_off rfl).trans ht
      replace ha := Aside0.mk ha
      have HB := Aside0.mk Q_HB
      have hc0_ : w'.cell? ⟨bt, 0, none⟩ = some (.int .i64 xt) := (blk_cell (blk_below BKt.out HB.out) 0).trans rfl
      have hc1_ : w'.cell? ⟨bt, 1, none⟩ = some (.int .i64 yt) := (blk_cell (blk_below BKt.out HB.out) 1).trans rfl
      have hc2_ : w'.cell? ⟨bt, 2, none⟩ = some (vt) := (blk_cell (blk_below BKt.out HB.out) 2).trans rfl
      refine value_ (w1 := w') (v := .agg #[.int .i64 xt, .int .i64 yt, vt]) (by rfl) rfl ?_ ?_
      · go_simp
        (try simp only [i64_w])
        try rfl
      refine hK.out _ _ ⟨u2, u5, u6, g7, m2_, m5_, m6_, m7_, (by rw [ha.out]; exact putSel_upk 0 hb_ rfl rfl rfl), Q_HB, fun h0_ => absurd ((hoff 2 (by kernel_rfl)).symm.trans h0_) (by decide), fun h0_ => absurd ((hoff 5 (by kernel_rfl)).symm.trans h0_) (by decide), fun h0_ => absurd ((hoff 6 (by kernel_rfl)).symm.trans h0_) (by decide), Q_Z7, Q_B7, fun h0_ => absurd ((hoff 8 (by kernel_rfl)).symm.trans h0_) (by decide), fun h0_ => absurd ((hoff 2 (by kernel_rfl)).symm.trans h0_) (by decide), fun h0_ => absurd ((hoff 5 (by kernel_rfl)).symm.trans h0_) (by decide), fun h0_ => absurd ((hoff 6 (by kernel_rfl)).symm.trans h0_) (by decide), Q_X7_⟩
    refine steps_cons ?_ ?_
    · rintro b a w' ⟨u2, u5, u6, g7, m2_, m5_, m6_, m7_, ha, Q_HB, Q_F2, Q_F5, Q_F6, Q_Z7, Q_B7, Q_S7, Q_X2_, Q_X5_, Q_X6_, Q_X7_⟩ hb_ hon hoff
      refine ⟨_, rfl, fun K hK => ?_⟩
      have e3 : a.tmps[3]? = some (.int .i64 n3) := by rw [ha]; exact (putSel_off rfl).trans hn3
      replace ha := Aside0.mk ha
      have HB := Aside0.mk Q_HB
      refine value_ (w1 := w') (v := .int .i64 n3) (by rfl) rfl ?_ ?_
      · go_simp
        (try simp only [i64_w])
        try rfl
      refine hK.out _ _ ⟨u2, u5, u6, g7, m2_, m5_, m6_, m7_, (by rw [ha.out]; exact putSel_upk 1 hb_ rfl rfl rfl), Q_HB, fun h0_ => absurd ((hoff 2 (by kernel_rfl)).symm.trans h0_) (by decide), fun h0_ => absurd ((hoff 5 (by kernel_rfl)).symm.trans h0_) (by decide), fun h0_ => absurd ((hoff 6 (by kernel_rfl)).symm.trans h0_) (by decide), Q_Z7, Q_B7, fun h0_ => absurd ((hoff 8 (by kernel_rfl)).symm.trans h0_) (by decide), fun h0_ => absurd ((hoff 2 (by kernel_rfl)).symm.trans h0_) (by decide), fun h0_ => absurd ((hoff 5 (by kernel_rfl)).symm.trans h0_) (by decide), fun h0_ => absurd ((hoff 6 (by kernel_rfl)).symm.trans h0_) (by decide), Q_X7_⟩
    refine steps_cons ?_ ?_
    · rintro b a w' ⟨u2, u5, u6, g7, m2_, m5_, m6_, m7_, ha, Q_HB, Q_F2, Q_F5, Q_F6, Q_Z7, Q_B7, Q_S7, Q_X2_, Q_X5_, Q_X6_, Q_X7_⟩ hb_ hon hoff
      refine ⟨_, rfl, fun K hK => ?_⟩
      have e56 : a.tmps[56]? = some (.agg #[.int .i64 xt, .int .i64 yt, vt]) := by rw [ha]; exact putSel_on (e := (0, 56, .agg #[.int .i64 xt, .int .i64 yt, vt])) 0 rfl rfl (hon 0 (by kernel_rfl)) (by rw [hsz]; rfl)
      have e57 : a.tmps[57]? = some (.int .i64 n3) := by rw [ha]; exact putSel_on (e := (1, 57, .int .i64 n3)) 1 rfl rfl (hon 1 (by kernel_rfl)) (by rw [hsz]; rfl)
      replace ha := Aside0.mk ha
      have HB := Aside0.mk Q_HB
      refine goes_ Tryd.func23 (by kernel_rfl) rfl #[.agg #[.int .i64 xt, .int .i64 yt, vt], .int .i64 n3, .int .i64 1] (by rfl) rfl rfl (by first | (simp only [List.map_toArray, List.map_cons, List.map_nil, Act.eval, Array.getD_eq_getD_getElem?, Option.getD_some, e56, e57]; done) | (simp only [List.map_toArray, List.map_cons, List.map_nil, Act.eval, Array.getD_eq_getD_getElem?, Option.getD_some, e56, e57]; rfl)) ?_
      refine (shift_go kk xt yt vt kt n3 1 r2_0 r2_1 k2_ w' (fun k_ => (b 7 = true ∧ k_ = g7)) (fun k_ h_ => h_.2 ▸ (Q_Z7 h_.1).2) (TV.old Tt.out HB.out (fun k_ h_ => h_.2 ▸ (Q_Z7 h_.1).1)) AH2.out).mono ?_
      rintro e w1 ⟨v_, rfl, hv, hb⟩
      refine ⟨_, rfl, ?_⟩
      refine hK.out _ _ ⟨v_, u5, u6, g7, (.agg #[.int .i64 r2_0, .int .i64 r2_1, v_]), m5_, m6_, m7_, (by rw [ha.out]; exact putSel_upk 2 hb_ rfl rfl rfl), below_step HB.out hb, fun _ => hv, fun h0_ => absurd ((hoff 5 (by kernel_rfl)).symm.trans h0_) (by decide), fun h0_ => absurd ((hoff 6 (by kernel_rfl)).symm.trans h0_) (by decide), fun h0_ => ⟨(Q_Z7 h0_).1, Nat.lt_of_lt_of_le (Q_Z7 h0_).2 hb.size⟩, fun h0_ h1_ => blk_below (Q_B7 h0_ h1_) hb, fun h0_ => absurd ((hoff 8 (by kernel_rfl)).symm.trans h0_) (by decide), fun _ => rfl, fun h0_ => absurd ((hoff 5 (by kernel_rfl)).symm.trans h0_) (by decide), fun h0_ => absurd ((hoff 6 (by kernel_rfl)).symm.trans h0_) (by decide), Q_X7_⟩
    refine steps_cons ?_ ?_
    · rintro b a w' ⟨u2, u5, u6, g7, m2_, m5_, m6_, m7_, ha, Q_HB, Q_F2, Q_F5, Q_F6, Q_Z7, Q_B7, Q_S7, Q_X2_, Q_X5_, Q_X6_, Q_X7_⟩ hb_ hon hoff
      refine ⟨_, rfl, fun K hK => ?_⟩
      have e10 : a.tmps[10]? = some (.pointer (some ⟨bs, 0, none⟩)) := by rw [ha]; exact (putSel_off rfl).trans hs
      replace ha := Aside0.mk ha
      have HB := Aside0.mk Q_HB
      have hc0_ : w'.cell? ⟨bs, 0, none⟩ = some (.int .i64 xs) := (blk_cell (blk_below BKs.out HB.out) 0).trans rfl
      have hc1_ : w'.cell? ⟨bs, 1, none⟩ = some (.int .i64 ys) := (blk_cell (blk_below BKs.out HB.out) 1).trans rfl
      have hc2_ : w'.cell? ⟨bs, 2, none⟩ = some (vs) := (blk_cell (blk_below BKs.out HB.out) 2).trans rfl
      refine value_ (w1 := w') (v := .agg #[.int .i64 xs, .int .i64 ys, vs]) (by rfl) rfl ?_ ?_
      · go_simp
        (try simp only [i64_w])
        try rfl
      refine hK.out _ _ ⟨u2, u5, u6, g7, m2_, m5_, m6_, m7_, (by rw [ha.out]; exact putSel_upk 3 hb_ rfl rfl rfl), Q_HB, Q_F2, fun h0_ => absurd ((hoff 5 (by kernel_rfl)).symm.trans h0_) (by decide), fun h0_ => absurd ((hoff 6 (by kernel_rfl)).symm.trans h0_) (by decide), Q_Z7, Q_B7, fun h0_ => absurd ((hoff 8 (by kernel_rfl)).symm.trans h0_) (by decide), Q_X2_, fun h0_ => absurd ((hoff 5 (by kernel_rfl)).symm.trans h0_) (by decide), fun h0_ => absurd ((hoff 6 (by kernel_rfl)).symm.trans h0_) (by decide), Q_X7_⟩
    refine steps_cons ?_ ?_
    · rintro b a w' ⟨u2, u5, u6, g7, m2_, m5_, m6_, m7_, ha, Q_HB, Q_F2, Q_F5, Q_F6, Q_Z7, Q_B7, Q_S7, Q_X2_, Q_X5_, Q_X6_, Q_X7_⟩ hb_ hon hoff
      refine ⟨_, rfl, fun K hK => ?_⟩
      have e3 : a.tmps[3]? = some (.int .i64 n3) := by rw [ha]; exact (putSel_off rfl).trans hn3
      replace ha := Aside0.mk ha
      have HB := Aside0.mk Q_HB
      refine value_ (w1 := w') (v := .int .i64 n3) (by rfl) rfl ?_ ?_
      · go_simp
        (try simp only [i64_w])
        try rfl
      refine hK.out _ _ ⟨u2, u5, u6, g7, m2_, m5_, m6_, m7_, (by rw [ha.out]; exact putSel_upk 4 hb_ rfl rfl rfl), Q_HB, Q_F2, fun h0_ => absurd ((hoff 5 (by kernel_rfl)).symm.trans h0_) (by decide), fun h0_ => absurd ((hoff 6 (by kernel_rfl)).symm.trans h0_) (by decide), Q_Z7, Q_B7, fun h0_ => absurd ((hoff 8 (by kernel_rfl)).symm.trans h0_) (by decide), Q_X2_, fun h0_ => absurd ((hoff 5 (by kernel_rfl)).symm.trans h0_) (by decide), fun h0_ => absurd ((hoff 6 (by kernel_rfl)).symm.trans h0_) (by decide), Q_X7_⟩
    refine steps_cons ?_ ?_
    · rintro b a w' ⟨u2, u5, u6, g7, m2_, m5_, m6_, m7_, ha, Q_HB, Q_F2, Q_F5, Q_F6, Q_Z7, Q_B7, Q_S7, Q_X2_, Q_X5_, Q_X6_, Q_X7_⟩ hb_ hon hoff
      refine ⟨_, rfl, fun K hK => ?_⟩
      have e59 : a.tmps[59]? = some (.agg #[.int .i64 xs, .int .i64 ys, vs]) := by rw [ha]; exact putSel_on (e := (3, 59, .agg #[.int .i64 xs, .int .i64 ys, vs])) 3 rfl rfl (hon 3 (by kernel_rfl)) (by rw [hsz]; rfl)
      have e60 : a.tmps[60]? = some (.int .i64 n3) := by rw [ha]; exact putSel_on (e := (4, 60, .int .i64 n3)) 4 rfl rfl (hon 4 (by kernel_rfl)) (by rw [hsz]; rfl)
      replace ha := Aside0.mk ha
      have HB := Aside0.mk Q_HB
      have F2 := Aside0.mk (Q_F2 (hon 2 (by kernel_rfl)))
      refine goes_ Tryd.func23 (by kernel_rfl) rfl #[.agg #[.int .i64 xs, .int .i64 ys, vs], .int .i64 n3, .int .i64 0] (by rfl) rfl rfl (by first | (simp only [List.map_toArray, List.map_cons, List.map_nil, Act.eval, Array.getD_eq_getD_getElem?, Option.getD_some, e59, e60]; done) | (simp only [List.map_toArray, List.map_cons, List.map_nil, Act.eval, Array.getD_eq_getD_getElem?, Option.getD_some, e59, e60]; rfl)) ?_
      refine (shift_go kk xs ys vs ks n3 0 r5_0 r5_1 k5_ w' (fun k_ => (b 7 = true ∧ k_ = g7)) (fun k_ h_ => h_.2 ▸ (Q_Z7 h_.1).2) (TV.old Ts.out HB.out (fun k_ h_ => h_.2 ▸ (Q_Z7 h_.1).1)) AH5.out).mono ?_
      rintro e w1 ⟨v_, rfl, hv, hb⟩
      refine ⟨_, rfl, ?_⟩
      refine hK.out _ _ ⟨u2, v_, u6, g7, m2_, (.agg #[.int .i64 r5_0, .int .i64 r5_1, v_]), m6_, m7_, (by rw [ha.out]; exact putSel_upk 5 hb_ rfl rfl rfl), below_step HB.out hb, fun _ => F2.out.step hb, fun _ => hv, fun h0_ => absurd ((hoff 6 (by kernel_rfl)).symm.trans h0_) (by decide), fun h0_ => ⟨(Q_Z7 h0_).1, Nat.lt_of_lt_of_le (Q_Z7 h0_).2 hb.size⟩, fun h0_ h1_ => blk_below (Q_B7 h0_ h1_) hb, fun h0_ => absurd ((hoff 8 (by kernel_rfl)).symm.trans h0_) (by decide), Q_X2_, fun _ => rfl, fun h0_ => absurd ((hoff 6 (by kernel_rfl)).symm.trans h0_) (by decide), Q_X7_⟩
    refine steps_cons ?_ ?_
    · rintro b a w' ⟨u2, u5, u6, g7, m2_, m5_, m6_, m7_, ha, Q_HB, Q_F2, Q_F5, Q_F6, Q_Z7, Q_B7, Q_S7, Q_X2_, Q_X5_, Q_X6_, Q_X7_⟩ hb_ hon hoff
      refine ⟨_, rfl, fun K hK => ?_⟩
      have e58 : a.tmps[58]? = some (m2_) := by rw [ha]; exact putSel_on (e := (2, 58, m2_)) 2 rfl rfl (hon 2 (by kernel_rfl)) (by rw [hsz]; rfl)
      rw [Q_X2_ (hon 2 (by kernel_rfl))] at e58
      have e61 : a.tmps[61]? = some (m5_) := by rw [ha]; exact putSel_on (e := (5, 61, m5_)) 5 rfl rfl (hon 5 (by kernel_rfl)) (by rw [hsz]; rfl)
      rw [Q_X5_ (hon 5 (by kernel_rfl))] at e61
      replace ha := Aside0.mk ha
      have HB := Aside0.mk Q_HB
      have F2 := Aside0.mk (Q_F2 (hon 2 (by kernel_rfl)))
      have F5 := Aside0.mk (Q_F5 (hon 5 (by kernel_rfl)))
      refine goes_ Tryd.func22 (by kernel_rfl) rfl #[.agg #[.int .i64 r2_0, .int .i64 r2_1, u2], .int .i64 0, .agg #[.int .i64 r5_0, .int .i64 r5_1, u5]] (by rfl) rfl rfl (by first | (simp only [List.map_toArray, List.map_cons, List.map_nil, Act.eval, Array.getD_eq_getD_getElem?, Option.getD_some, e58, e61]; done) | (simp only [List.map_toArray, List.map_cons, List.map_nil, Act.eval, Array.getD_eq_getD_getElem?, Option.getD_some, e58, e61]; rfl)) ?_
      refine (subst_go kk r2_0 r2_1 u2 k2_ 0 r5_0 r5_1 u5 k5_ r6_0 r6_1 k6_ w' (fun k_ => (b 7 = true ∧ k_ = g7)) (fun k_ h_ => h_.2 ▸ (Q_Z7 h_.1).2) F2.out F5.out AH6.out).mono ?_
      rintro e w1 ⟨v_, rfl, hv, hb⟩
      refine ⟨_, rfl, ?_⟩
      refine hK.out _ _ ⟨u2, u5, v_, g7, m2_, m5_, (.agg #[.int .i64 r6_0, .int .i64 r6_1, v_]), m7_, (by rw [ha.out]; exact putSel_upk 6 hb_ rfl rfl rfl), below_step HB.out hb, fun _ => F2.out.step hb, fun _ => F5.out.step hb, fun _ => hv, fun h0_ => ⟨(Q_Z7 h0_).1, Nat.lt_of_lt_of_le (Q_Z7 h0_).2 hb.size⟩, fun h0_ h1_ => blk_below (Q_B7 h0_ h1_) hb, fun h0_ => absurd ((hoff 8 (by kernel_rfl)).symm.trans h0_) (by decide), Q_X2_, Q_X5_, fun _ => rfl, Q_X7_⟩
    refine steps_cons ?_ ?_
    · rintro b a w' ⟨u2, u5, u6, g7, m2_, m5_, m6_, m7_, ha, Q_HB, Q_F2, Q_F5, Q_F6, Q_Z7, Q_B7, Q_S7, Q_X2_, Q_X5_, Q_X6_, Q_X7_⟩ hb_ hon hoff
      refine ⟨_, rfl, fun K hK => ?_⟩
      replace ha := Aside0.mk ha
      have HB := Aside0.mk Q_HB
      refine box_step ?hg (N := 15) ?hd (cs := #[.int .i64 0, .int .i64 0, .slice none 0 0]) (t := 29) ?hr ?_; (case hd => rfl); (case hg => rfl); (case hr => first | (go_simp; done) | (go_simp; rfl))
      intro gn hg w1 hbox hb
      refine hK.out _ _ ⟨u2, u5, u6, gn, m2_, m5_, m6_, (.pointer (some ⟨gn, 0, none⟩)), (by rw [ha.out]; exact putSel_upk 7 hb_ rfl rfl rfl), below_step HB.out hb, fun h0_ => (Q_F2 h0_).below hb (fun k_ h_ => .inr (by rw [h_.2, hg]; exact Nat.le_refl _)), fun h0_ => (Q_F5 h0_).below hb (fun k_ h_ => .inr (by rw [h_.2, hg]; exact Nat.le_refl _)), fun h0_ => (Q_F6 h0_).below hb (fun k_ h_ => .inr (by rw [h_.2, hg]; exact Nat.le_refl _)), fun _ => ⟨by rw [hg]; exact below_size HB.out, blk_lt hbox⟩, fun _ _ => hbox, fun h0_ => absurd ((hoff 8 (by kernel_rfl)).symm.trans h0_) (by decide), Q_X2_, Q_X5_, Q_X6_, fun _ => rfl⟩
    refine steps_cons ?_ ?_
    · rintro b a w' ⟨u2, u5, u6, g7, m2_, m5_, m6_, m7_, ha, Q_HB, Q_F2, Q_F5, Q_F6, Q_Z7, Q_B7, Q_S7, Q_X2_, Q_X5_, Q_X6_, Q_X7_⟩ hb_ hon hoff
      refine ⟨_, rfl, fun K hK => ?_⟩
      have e15 : a.tmps[15]? = some (m7_) := by rw [ha]; exact putSel_on (e := (7, 15, m7_)) 7 rfl rfl (hon 7 (by kernel_rfl)) (by rw [hsz]; rfl)
      rw [Q_X7_ (hon 7 (by kernel_rfl))] at e15
      have e62 : a.tmps[62]? = some (m6_) := by rw [ha]; exact putSel_on (e := (6, 62, m6_)) 6 rfl rfl (hon 6 (by kernel_rfl)) (by rw [hsz]; rfl)
      rw [Q_X6_ (hon 6 (by kernel_rfl))] at e62
      replace ha := Aside0.mk ha
      have HB := Aside0.mk Q_HB
      have F2 := Aside0.mk (Q_F2 (hon 2 (by kernel_rfl)))
      have F5 := Aside0.mk (Q_F5 (hon 5 (by kernel_rfl)))
      have F6 := Aside0.mk (Q_F6 (hon 6 (by kernel_rfl)))
      have Z7 := Aside0.mk (Q_Z7 (hon 7 (by kernel_rfl)))
      have B7 := Aside0.mk (Q_B7 (hon 7 (by kernel_rfl)) hb_)
      have hs0_ : w'.cell? ⟨g7, 0, none⟩ = some (.int .i64 0) := (blk_cell B7.out 0).trans rfl
      have hs1_ : w'.cell? ⟨g7, 1, none⟩ = some (.int .i64 0) := (blk_cell B7.out 1).trans rfl
      have hs2_ : w'.cell? ⟨g7, 2, none⟩ = some (.slice none 0 0) := (blk_cell B7.out 2).trans rfl
      have hf0_ := blk_frozen B7.out 0
      have hf1_ := blk_frozen B7.out 1
      have hf2_ := blk_frozen B7.out 2
      obtain ⟨As_, cs_, hu_⟩ := Kd.V_slice F6.out
      subst hu_
      refine skip_ (w1 := ?_) (by rfl) rfl ?_ ?_
      rotate_left
      · go_simp
        rfl
      refine hK.out _ _ ⟨u2, u5, .slice As_ k6_.length cs_, g7, m2_, m5_, m6_, m7_, (by rw [ha.out]; exact putSel_none (v := undef) rfl), below_set3 HB.out Z7.out.1 (.int .i64 r6_0) (.int .i64 r6_1) (.slice As_ k6_.length cs_), fun _ => F2.out.set3 (⟨hon 7 (by kernel_rfl), rfl⟩) (.int .i64 r6_0) (.int .i64 r6_1) (.slice As_ k6_.length cs_), fun _ => F5.out.set3 (⟨hon 7 (by kernel_rfl), rfl⟩) (.int .i64 r6_0) (.int .i64 r6_1) (.slice As_ k6_.length cs_), fun _ => F6.out.set3 (⟨hon 7 (by kernel_rfl), rfl⟩) (.int .i64 r6_0) (.int .i64 r6_1) (.slice As_ k6_.length cs_), fun _ => ⟨Z7.out.1, by rw [size_set3]; exact Z7.out.2⟩, fun _ h1_ => absurd ((up_self b 8).symm.trans h1_) (by decide), fun _ => blk_set3 B7.out rfl (.int .i64 r6_0) (.int .i64 r6_1) (.slice As_ k6_.length cs_), Q_X2_, Q_X5_, Q_X6_, Q_X7_⟩
    exact steps_nil
  · rintro b a w' hall ⟨u2, u5, u6, g7, m2_, m5_, m6_, m7_, ha, Q_HB, Q_F2, Q_F5, Q_F6, Q_Z7, Q_B7, Q_S7, Q_X2_, Q_X5_, Q_X6_, Q_X7_⟩
    clear HB
    have hb0_ := hall 0 (by kernel_rfl)
    have hb1_ := hall 1 (by kernel_rfl)
    have hb2_ := hall 2 (by kernel_rfl)
    have hb3_ := hall 3 (by kernel_rfl)
    have hb4_ := hall 4 (by kernel_rfl)
    have hb5_ := hall 5 (by kernel_rfl)
    have hb6_ := hall 6 (by kernel_rfl)
    have hb7_ := hall 7 (by kernel_rfl)
    have hb8_ := hall 8 (by kernel_rfl)
    subst ha
    obtain rfl := Q_X2_ hb2_
    obtain rfl := Q_X5_ hb5_
    obtain rfl := Q_X6_ hb6_
    obtain rfl := Q_X7_ hb7_
    simp only [putSel, hb0_, hb1_, hb2_, hb3_, hb4_, hb5_, hb6_, hb7_, hb8_, if_true]
    have HB := Aside0.mk Q_HB
    clear Q_HB
    have F2 := Aside0.mk (Q_F2 hb2_)
    clear Q_F2
    have F5 := Aside0.mk (Q_F5 hb5_)
    clear Q_F5
    have F6 := Aside0.mk (Q_F6 hb6_)
    clear Q_F6
    have Z7 := Aside0.mk (Q_Z7 hb7_)
    clear Q_Z7
    clear Q_B7
    have S7 := Aside0.mk (Q_S7 hb8_)
    clear Q_S7
    clear hall hb0_ hb1_ hb2_ hb3_ hb4_ hb5_ hb6_ hb7_ hb8_
    exact hQ u2 u5 u6 g7 w' HB.out Z7.out.1 S7.out F6.out.free
end Go.Proofs.YtcchfblekaaalaaDoor.P
