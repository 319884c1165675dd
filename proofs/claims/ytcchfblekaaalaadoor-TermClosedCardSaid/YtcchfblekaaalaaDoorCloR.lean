/- TermClosed: its drawn regions, each by one relation (printed by genclo.py) -/
import Derived.Test.YtcchfblekaaalaaDoorHandGo
import Derived.Test.YtcchfblekaaalaaDoorHandFree
import Derived.Test.YtcchfblekaaalaaDoorWant
import Derived.Test.YtcchfblekaaalaaDoorCloA
namespace Go.Proofs.YtcchfblekaaalaaDoor.P
open Go.RowKit Go.Proofs.YtcchfblekaaalaaDoorW.PrintWords Go.Proofs.YtcchfblekaaalaaDoorW.PrintLast Go.Proofs.YtcchfblekaaalaaDoorW.PrintMore
set_option linter.unusedVariables false
set_option linter.unusedSimpArgs false
theorem free_go (k : Nat) (op n : Int) (v : Value) (kids : List S29) (x : Int) (r : Bool) (w : World) {G : Nat → Prop} (hs : TV w G v kids) (h : term_Free.f k op n kids x = some r) :
    Calls Tryd.prog 34 #[.agg #[.int .i64 op, .int .i64 n, v], .int .i64 x] w fun e w' => e = .returned (.bool r) ∧ Below w.heap.size w w' := by
  obtain ⟨A, c, rfl, hc, hC⟩ := hs.reads
  exact term_Free.calls k op n A c kids x r w hC hc h
theorem below_go (k : Nat) (op n : Int) (v : Value) (kids : List S29) (x : Int) (r : Bool) (w : World) {G : Nat → Prop} (hs : TV w G v kids) (h : term_Below.f k op n kids x = some r) :
    Calls Tryd.prog 36 #[.agg #[.int .i64 op, .int .i64 n, v], .int .i64 x] w fun e w' => e = .returned (.bool r) ∧ Below w.heap.size w w' := by
  obtain ⟨A, c, rfl, hc, hC⟩ := hs.reads
  exact term_Below.calls k op n A c kids x r w hC hc h
set_option maxHeartbeats 4000000 in
set_option maxRecDepth 100000 in
theorem closed_r5 {Q : Exit → Act → World → Prop} {a : Act} {W : World} (hsz : a.tmps.size = 70) (kk : Nat) (pd qd : Int) (Ad : Option Addr) (cd : Nat) (ld : List S24) (bd : Nat) (hd : a.tmps[4]? = some (.pointer (some ⟨bd, 0, none⟩))) (Bd_ : W.heap[bd]? = some (.cells #[.int .i64 pd, .int .i64 qd, .slice Ad ld.length cd] 24 (0, 0))) (Rd_ : Kd.C k24 W Ad ld.length ld) (Cd_ : ld.length ≤ cd)
    (pe qe : Int) (Ae : Option Addr) (ce : Nat) (le : List S24) (be : Nat) (he : a.tmps[5]? = some (.pointer (some ⟨be, 0, none⟩))) (Be_ : W.heap[be]? = some (.cells #[.int .i64 pe, .int .i64 qe, .slice Ae le.length ce] 24 (0, 0))) (Re_ : Kd.C k24 W Ae le.length le) (Ce_ : le.length ≤ ce)
    (pf qf : Int) (Af : Option Addr) (cf : Nat) (lf : List S24) (bf : Nat) (hf : a.tmps[6]? = some (.pointer (some ⟨bf, 0, none⟩))) (Bf_ : W.heap[bf]? = some (.cells #[.int .i64 pf, .int .i64 qf, .slice Af lf.length cf] 24 (0, 0))) (Rf_ : Kd.C k24 W Af lf.length lf) (Cf_ : lf.length ≤ cf)
    (r1_0 r1_1 : Int) (k1_ : List S29)
    (r3_0 r3_1 : Int) (k3_ : List S29)
    (r5_0 r5_1 : Int) (k5_ : List S29)
    (H1 : thyrsuslaw1_Make.f kk pd qd ld 6 3 = some (r1_0, r1_1, k1_))
    (H3 : thyrsuslaw1_Make.f kk pe qe le 3 2 = some (r3_0, r3_1, k3_))
    (H5 : thyrsuslaw1_Make.f kk pf qf lf 3 2 = some (r5_0, r5_1, k5_))
    (hQ : ∀ (u1 u3 u5 : Value) (g6 g7 g8 : Nat) (w' : World), Below W.heap.size W w' → W.heap.size ≤ g6 → w'.heap[g6]? = some (.cells #[.int .i64 r1_0, .int .i64 r1_1, u1] 29 (0, 0)) → TV w' (fun _ => False) u1 k1_ → W.heap.size ≤ g7 → w'.heap[g7]? = some (.cells #[.int .i64 r3_0, .int .i64 r3_1, u3] 29 (0, 0)) → TV w' (fun _ => False) u3 k3_ → W.heap.size ≤ g8 → w'.heap[g8]? = some (.cells #[.int .i64 r5_0, .int .i64 r5_1, u5] 29 (0, 0)) → TV w' (fun _ => False) u5 k5_ → Q .normal (((((((((a.put (some 27) (.agg #[.int .i64 pd, .int .i64 qd, .slice Ad ld.length cd])).put (some 28) (.agg #[.int .i64 r1_0, .int .i64 r1_1, u1])).put (some 29) (.agg #[.int .i64 pe, .int .i64 qe, .slice Ae le.length ce])).put (some 30) (.agg #[.int .i64 r3_0, .int .i64 r3_1, u3])).put (some 31) (.agg #[.int .i64 pf, .int .i64 qf, .slice Af lf.length cf])).put (some 32) (.agg #[.int .i64 r5_0, .int .i64 r5_1, u5])).put (some 9) (.pointer (some ⟨g6, 0, none⟩))).put (some 10) (.pointer (some ⟨g7, 0, none⟩))).put (some 11) (.pointer (some ⟨g8, 0, none⟩))) w') :
    (Code.region 5 (opsOf Tryd.f12 5) true).wp Tryd.prog Q a W := by
  have HT_ := Aside0.mk thyrsuslaw4_TermClosed.tab5
  have HW_ := Aside0.mk thyrsuslaw4_TermClosed.bits5
  have BKd := Aside0.mk Bd_
  have HRd := Aside0.mk Rd_
  have HCd := Aside0.mk Cd_
  clear Bd_ Rd_ Cd_
  have BKe := Aside0.mk Be_
  have HRe := Aside0.mk Re_
  have HCe := Aside0.mk Ce_
  clear Be_ Re_ Ce_
  have BKf := Aside0.mk Bf_
  have HRf := Aside0.mk Rf_
  have HCf := Aside0.mk Cf_
  clear Bf_ Rf_ Cf_
  have AH1 := Aside0.mk H1
  clear H1
  have AH3 := Aside0.mk H3
  clear H3
  have AH5 := Aside0.mk H5
  clear H5
  have HB := Aside0.mk (below_drew1 (Below.refl W.heap.size W))
  conv in (opsOf Tryd.f12 5) => whnf
  refine start_ (n := 12) (S := fun w' => True) (ds := []) #[false, false, false, false, false, false, false, false, false, false, false, false] (by kernel_rfl) rfl rfl trivial (fun hHeld => ?_)
  clear hHeld
  generalize W.drew = W1 at HB ⊢
  refine inv_at [0, 1, 2, 3, 4, 5, 6, 7, 8, 9, 10, 11] (fun a0_ b a w' => ∃ (u1 : Value) (u3 : Value) (u5 : Value) (g6 : Nat) (g7 : Nat) (g8 : Nat) (m1_ : Value) (m3_ : Value) (m5_ : Value) (m6_ : Value) (m7_ : Value) (m8_ : Value), a = putSel a0_ b [(0, 27, .agg #[.int .i64 pd, .int .i64 qd, .slice Ad ld.length cd]), (1, 28, m1_), (2, 29, .agg #[.int .i64 pe, .int .i64 qe, .slice Ae le.length ce]), (3, 30, m3_), (4, 31, .agg #[.int .i64 pf, .int .i64 qf, .slice Af lf.length cf]), (5, 32, m5_), (6, 9, m6_), (7, 10, m7_), (8, 11, m8_)] ∧ (Below W.heap.size W w') ∧ (b 1 = true → TV w' (fun k_ => (b 6 = true ∧ k_ = g6) ∨ (b 7 = true ∧ k_ = g7) ∨ (b 8 = true ∧ k_ = g8)) u1 k1_) ∧ (b 3 = true → TV w' (fun k_ => (b 6 = true ∧ k_ = g6) ∨ (b 7 = true ∧ k_ = g7) ∨ (b 8 = true ∧ k_ = g8)) u3 k3_) ∧ (b 5 = true → TV w' (fun k_ => (b 6 = true ∧ k_ = g6) ∨ (b 7 = true ∧ k_ = g7) ∨ (b 8 = true ∧ k_ = g8)) u5 k5_) ∧ (b 6 = true → W.heap.size ≤ g6 ∧ g6 < w'.heap.size) ∧ (b 6 = true → b 9 = false → w'.heap[g6]? = some (.cells #[.int .i64 0, .int .i64 0, .slice none 0 0] 29 (0, 0))) ∧ (b 9 = true → w'.heap[g6]? = some (.cells #[.int .i64 r1_0, .int .i64 r1_1, u1] 29 (0, 0))) ∧ (b 7 = true → W.heap.size ≤ g7 ∧ g7 < w'.heap.size) ∧ (b 7 = true → b 10 = false → w'.heap[g7]? = some (.cells #[.int .i64 0, .int .i64 0, .slice none 0 0] 29 (0, 0))) ∧ (b 10 = true → w'.heap[g7]? = some (.cells #[.int .i64 r3_0, .int .i64 r3_1, u3] 29 (0, 0))) ∧ (b 8 = true → W.heap.size ≤ g8 ∧ g8 < w'.heap.size) ∧ (b 8 = true → b 11 = false → w'.heap[g8]? = some (.cells #[.int .i64 0, .int .i64 0, .slice none 0 0] 29 (0, 0))) ∧ (b 11 = true → w'.heap[g8]? = some (.cells #[.int .i64 r5_0, .int .i64 r5_1, u5] 29 (0, 0))) ∧ (b 6 = true → b 7 = true → g6 ≠ g7) ∧ (b 6 = true → b 8 = true → g6 ≠ g8) ∧ (b 7 = true → b 8 = true → g7 ≠ g8) ∧ (b 1 = true → (m1_ : Value) = .agg #[.int .i64 r1_0, .int .i64 r1_1, u1]) ∧ (b 3 = true → (m3_ : Value) = .agg #[.int .i64 r3_0, .int .i64 r3_1, u3]) ∧ (b 5 = true → (m5_ : Value) = .agg #[.int .i64 r5_0, .int .i64 r5_1, u5]) ∧ (b 6 = true → (m6_ : Value) = .pointer (some ⟨g6, 0, none⟩)) ∧ (b 7 = true → (m7_ : Value) = .pointer (some ⟨g7, 0, none⟩)) ∧ (b 8 = true → (m8_ : Value) = .pointer (some ⟨g8, 0, none⟩))) HT_.out HW_.out (by kernel_rfl) (by kernel_rfl) ?_ ?_ ?_
  · exact ⟨.bool false, .bool false, .bool false, 0, 0, 0, .bool false, .bool false, .bool false, .bool false, .bool false, .bool false, by simp only [putSel, Bool.false_eq_true, if_false], HB.out, fun h_ => absurd h_ (by decide), fun h_ => absurd h_ (by decide), fun h_ => absurd h_ (by decide), fun h_ => absurd h_ (by decide), fun h_ => absurd h_ (by decide), fun h_ => absurd h_ (by decide), fun h_ => absurd h_ (by decide), fun h_ => absurd h_ (by decide), fun h_ => absurd h_ (by decide), fun h_ => absurd h_ (by decide), fun h_ => absurd h_ (by decide), fun h_ => absurd h_ (by decide), fun h_ => absurd h_ (by decide), fun h_ => absurd h_ (by decide), fun h_ => absurd h_ (by decide), fun h_ => absurd h_ (by decide), fun h_ => absurd h_ (by decide), fun h_ => absurd h_ (by decide), fun h_ => absurd h_ (by decide), fun h_ => absurd h_ (by decide), fun h_ => absurd h_ (by decide)⟩
  · skip
    clear HB
    refine steps_cons ?_ ?_
    · rintro b a w' ⟨u1, u3, u5, g6, g7, g8, m1_, m3_, m5_, m6_, m7_, m8_, ha, Q_HB, Q_F1, Q_F3, Q_F5, Q_Z6, Q_B6, Q_S6, Q_Z7, Q_B7, Q_S7, Q_Z8, Q_B8, Q_S8, Q_N6_7, Q_N6_8, Q_N7_8, Q_X1_, Q_X3_, Q_X5_, Q_X6_, Q_X7_, Q_X8_⟩ hb_ hon hoff
      refine ⟨_, rfl, fun K hK => ?_⟩
      have e4 : a.tmps[4]? = some (.pointer (some ⟨bd, 0, none⟩)) := by rw [ha]; exact (putSel_off rfl).trans hd
      replace ha := Aside0.mk ha
      have HB := Aside0.mk Q_HB
      have hc0_ : w'.cell? ⟨bd, 0, none⟩ = some (.int .i64 pd) := (blk_cell (blk_below BKd.out HB.out) 0).trans rfl
      have hc1_ : w'.cell? ⟨bd, 1, none⟩ = some (.int .i64 qd) := (blk_cell (blk_below BKd.out HB.out) 1).trans rfl
      have hc2_ : w'.cell? ⟨bd, 2, none⟩ = some (.slice Ad ld.length cd) := (blk_cell (blk_below BKd.out HB.out) 2).trans rfl
      refine value_ (w1 := w') (v := .agg #[.int .i64 pd, .int .i64 qd, .slice Ad ld.length cd]) (by rfl) rfl ?_ ?_
      · go_simp
        (try simp only [i64_w])
        try rfl
      refine hK.out _ _ ⟨u1, u3, u5, g6, g7, g8, m1_, m3_, m5_, m6_, m7_, m8_, (by rw [ha.out]; exact putSel_upk 0 hb_ rfl rfl rfl), Q_HB, fun h0_ => absurd ((hoff 1 (by kernel_rfl)).symm.trans h0_) (by decide), fun h0_ => absurd ((hoff 3 (by kernel_rfl)).symm.trans h0_) (by decide), fun h0_ => absurd ((hoff 5 (by kernel_rfl)).symm.trans h0_) (by decide), Q_Z6, Q_B6, fun h0_ => absurd ((hoff 9 (by kernel_rfl)).symm.trans h0_) (by decide), Q_Z7, Q_B7, fun h0_ => absurd ((hoff 10 (by kernel_rfl)).symm.trans h0_) (by decide), Q_Z8, Q_B8, fun h0_ => absurd ((hoff 11 (by kernel_rfl)).symm.trans h0_) (by decide), Q_N6_7, Q_N6_8, Q_N7_8, fun h0_ => absurd ((hoff 1 (by kernel_rfl)).symm.trans h0_) (by decide), fun h0_ => absurd ((hoff 3 (by kernel_rfl)).symm.trans h0_) (by decide), fun h0_ => absurd ((hoff 5 (by kernel_rfl)).symm.trans h0_) (by decide), Q_X6_, Q_X7_, Q_X8_⟩
    refine steps_cons ?_ ?_
    · rintro b a w' ⟨u1, u3, u5, g6, g7, g8, m1_, m3_, m5_, m6_, m7_, m8_, ha, Q_HB, Q_F1, Q_F3, Q_F5, Q_Z6, Q_B6, Q_S6, Q_Z7, Q_B7, Q_S7, Q_Z8, Q_B8, Q_S8, Q_N6_7, Q_N6_8, Q_N7_8, Q_X1_, Q_X3_, Q_X5_, Q_X6_, Q_X7_, Q_X8_⟩ hb_ hon hoff
      refine ⟨_, rfl, fun K hK => ?_⟩
      have e27 : a.tmps[27]? = some (.agg #[.int .i64 pd, .int .i64 qd, .slice Ad ld.length cd]) := by rw [ha]; exact putSel_on (e := (0, 27, .agg #[.int .i64 pd, .int .i64 qd, .slice Ad ld.length cd])) 0 rfl rfl (hon 0 (by kernel_rfl)) (by rw [hsz]; rfl)
      replace ha := Aside0.mk ha
      have HB := Aside0.mk Q_HB
      refine goes_ Tryd.func16 (by kernel_rfl) rfl #[.agg #[.int .i64 pd, .int .i64 qd, .slice Ad ld.length cd], .int .i64 6, .int .i64 3] (by rfl) rfl rfl (by first | (simp only [List.map_toArray, List.map_cons, List.map_nil, Act.eval, Array.getD_eq_getD_getElem?, Option.getD_some, e27]; done) | (simp only [List.map_toArray, List.map_cons, List.map_nil, Act.eval, Array.getD_eq_getD_getElem?, Option.getD_some, e27]; rfl)) ?_
      refine (make_go kk pd qd Ad cd ld 6 3 r1_0 r1_1 k1_ w' (fun k_ => (b 6 = true ∧ k_ = g6) ∨ (b 7 = true ∧ k_ = g7) ∨ (b 8 = true ∧ k_ = g8)) (fun k_ h_ => h_.elim (fun h_ => h_.2 ▸ (Q_Z6 h_.1).2) (fun h_ => h_.elim (fun h_ => h_.2 ▸ (Q_Z7 h_.1).2) (fun h_ => h_.2 ▸ (Q_Z8 h_.1).2))) (Kd.C_below HRd.out HB.out) HCd.out AH1.out).mono ?_
      rintro e w1 ⟨v_, rfl, hv, hb⟩
      refine ⟨_, rfl, ?_⟩
      refine hK.out _ _ ⟨v_, u3, u5, g6, g7, g8, (.agg #[.int .i64 r1_0, .int .i64 r1_1, v_]), m3_, m5_, m6_, m7_, m8_, (by rw [ha.out]; exact putSel_upk 1 hb_ rfl rfl rfl), below_step HB.out hb, fun _ => hv, fun h0_ => absurd ((hoff 3 (by kernel_rfl)).symm.trans h0_) (by decide), fun h0_ => absurd ((hoff 5 (by kernel_rfl)).symm.trans h0_) (by decide), fun h0_ => ⟨(Q_Z6 h0_).1, Nat.lt_of_lt_of_le (Q_Z6 h0_).2 hb.size⟩, fun h0_ h1_ => blk_below (Q_B6 h0_ h1_) hb, fun h0_ => absurd ((hoff 9 (by kernel_rfl)).symm.trans h0_) (by decide), fun h0_ => ⟨(Q_Z7 h0_).1, Nat.lt_of_lt_of_le (Q_Z7 h0_).2 hb.size⟩, fun h0_ h1_ => blk_below (Q_B7 h0_ h1_) hb, fun h0_ => absurd ((hoff 10 (by kernel_rfl)).symm.trans h0_) (by decide), fun h0_ => ⟨(Q_Z8 h0_).1, Nat.lt_of_lt_of_le (Q_Z8 h0_).2 hb.size⟩, fun h0_ h1_ => blk_below (Q_B8 h0_ h1_) hb, fun h0_ => absurd ((hoff 11 (by kernel_rfl)).symm.trans h0_) (by decide), Q_N6_7, Q_N6_8, Q_N7_8, fun _ => rfl, fun h0_ => absurd ((hoff 3 (by kernel_rfl)).symm.trans h0_) (by decide), fun h0_ => absurd ((hoff 5 (by kernel_rfl)).symm.trans h0_) (by decide), Q_X6_, Q_X7_, Q_X8_⟩
    refine steps_cons ?_ ?_
    · rintro b a w' ⟨u1, u3, u5, g6, g7, g8, m1_, m3_, m5_, m6_, m7_, m8_, ha, Q_HB, Q_F1, Q_F3, Q_F5, Q_Z6, Q_B6, Q_S6, Q_Z7, Q_B7, Q_S7, Q_Z8, Q_B8, Q_S8, Q_N6_7, Q_N6_8, Q_N7_8, Q_X1_, Q_X3_, Q_X5_, Q_X6_, Q_X7_, Q_X8_⟩ hb_ hon hoff
      refine ⟨_, rfl, fun K hK => ?_⟩
      have e5 : a.tmps[5]? = some (.pointer (some ⟨be, 0, none⟩)) := by rw [ha]; exact (putSel_off rfl).trans he
      replace ha := Aside0.mk ha
      have HB := Aside0.mk Q_HB
      have hc0_ : w'.cell? ⟨be, 0, none⟩ = some (.int .i64 pe) := (blk_cell (blk_below BKe.out HB.out) 0).trans rfl
      have hc1_ : w'.cell? ⟨be, 1, none⟩ = some (.int .i64 qe) := (blk_cell (blk_below BKe.out HB.out) 1).trans rfl
      have hc2_ : w'.cell? ⟨be, 2, none⟩ = some (.slice Ae le.length ce) := (blk_cell (blk_below BKe.out HB.out) 2).trans rfl
      refine value_ (w1 := w') (v := .agg #[.int .i64 pe, .int .i64 qe, .slice Ae le.length ce]) (by rfl) rfl ?_ ?_
      · go_simp
        (try simp only [i64_w])
        try rfl
      refine hK.out _ _ ⟨u1, u3, u5, g6, g7, g8, m1_, m3_, m5_, m6_, m7_, m8_, (by rw [ha.out]; exact putSel_upk 2 hb_ rfl rfl rfl), Q_HB, Q_F1, fun h0_ => absurd ((hoff 3 (by kernel_rfl)).symm.trans h0_) (by decide), fun h0_ => absurd ((hoff 5 (by kernel_rfl)).symm.trans h0_) (by decide), Q_Z6, Q_B6, fun h0_ => absurd ((hoff 9 (by kernel_rfl)).symm.trans h0_) (by decide), Q_Z7, Q_B7, fun h0_ => absurd ((hoff 10 (by kernel_rfl)).symm.trans h0_) (by decide), Q_Z8, Q_B8, fun h0_ => absurd ((hoff 11 (by kernel_rfl)).symm.trans h0_) (by decide), Q_N6_7, Q_N6_8, Q_N7_8, Q_X1_, fun h0_ => absurd ((hoff 3 (by kernel_rfl)).symm.trans h0_) (by decide), fun h0_ => absurd ((hoff 5 (by kernel_rfl)).symm.trans h0_) (by decide), Q_X6_, Q_X7_, Q_X8_⟩
    refine steps_cons ?_ ?_
    · rintro b a w' ⟨u1, u3, u5, g6, g7, g8, m1_, m3_, m5_, m6_, m7_, m8_, ha, Q_HB, Q_F1, Q_F3, Q_F5, Q_Z6, Q_B6, Q_S6, Q_Z7, Q_B7, Q_S7, Q_Z8, Q_B8, Q_S8, Q_N6_7, Q_N6_8, Q_N7_8, Q_X1_, Q_X3_, Q_X5_, Q_X6_, Q_X7_, Q_X8_⟩ hb_ hon hoff
      refine ⟨_, rfl, fun K hK => ?_⟩
      have e29 : a.tmps[29]? = some (.agg #[.int .i64 pe, .int .i64 qe, .slice Ae le.length ce]) := by rw [ha]; exact putSel_on (e := (2, 29, .agg #[.int .i64 pe, .int .i64 qe, .slice Ae le.length ce])) 2 rfl rfl (hon 2 (by kernel_rfl)) (by rw [hsz]; rfl)
      replace ha := Aside0.mk ha
      have HB := Aside0.mk Q_HB
      have F1 := Aside0.mk (Q_F1 (hon 1 (by kernel_rfl)))
      refine goes_ Tryd.func16 (by kernel_rfl) rfl #[.agg #[.int .i64 pe, .int .i64 qe, .slice Ae le.length ce], .int .i64 3, .int .i64 2] (by rfl) rfl rfl (by first | (simp only [List.map_toArray, List.map_cons, List.map_nil, Act.eval, Array.getD_eq_getD_getElem?, Option.getD_some, e29]; done) | (simp only [List.map_toArray, List.map_cons, List.map_nil, Act.eval, Array.getD_eq_getD_getElem?, Option.getD_some, e29]; rfl)) ?_
      refine (make_go kk pe qe Ae ce le 3 2 r3_0 r3_1 k3_ w' (fun k_ => (b 6 = true ∧ k_ = g6) ∨ (b 7 = true ∧ k_ = g7) ∨ (b 8 = true ∧ k_ = g8)) (fun k_ h_ => h_.elim (fun h_ => h_.2 ▸ (Q_Z6 h_.1).2) (fun h_ => h_.elim (fun h_ => h_.2 ▸ (Q_Z7 h_.1).2) (fun h_ => h_.2 ▸ (Q_Z8 h_.1).2))) (Kd.C_below HRe.out HB.out) HCe.out AH3.out).mono ?_
      rintro e w1 ⟨v_, rfl, hv, hb⟩
      refine ⟨_, rfl, ?_⟩
      refine hK.out _ _ ⟨u1, v_, u5, g6, g7, g8, m1_, (.agg #[.int .i64 r3_0, .int .i64 r3_1, v_]), m5_, m6_, m7_, m8_, (by rw [ha.out]; exact putSel_upk 3 hb_ rfl rfl rfl), below_step HB.out hb, fun _ => F1.out.step hb, fun _ => hv, fun h0_ => absurd ((hoff 5 (by kernel_rfl)).symm.trans h0_) (by decide), fun h0_ => ⟨(Q_Z6 h0_).1, Nat.lt_of_lt_of_le (Q_Z6 h0_).2 hb.size⟩, fun h0_ h1_ => blk_below (Q_B6 h0_ h1_) hb, fun h0_ => absurd ((hoff 9 (by kernel_rfl)).symm.trans h0_) (by decide), fun h0_ => ⟨(Q_Z7 h0_).1, Nat.lt_of_lt_of_le (Q_Z7 h0_).2 hb.size⟩, fun h0_ h1_ => blk_below (Q_B7 h0_ h1_) hb, fun h0_ => absurd ((hoff 10 (by kernel_rfl)).symm.trans h0_) (by decide), fun h0_ => ⟨(Q_Z8 h0_).1, Nat.lt_of_lt_of_le (Q_Z8 h0_).2 hb.size⟩, fun h0_ h1_ => blk_below (Q_B8 h0_ h1_) hb, fun h0_ => absurd ((hoff 11 (by kernel_rfl)).symm.trans h0_) (by decide), Q_N6_7, Q_N6_8, Q_N7_8, Q_X1_, fun _ => rfl, fun h0_ => absurd ((hoff 5 (by kernel_rfl)).symm.trans h0_) (by decide), Q_X6_, Q_X7_, Q_X8_⟩
    refine steps_cons ?_ ?_
    · rintro b a w' ⟨u1, u3, u5, g6, g7, g8, m1_, m3_, m5_, m6_, m7_, m8_, ha, Q_HB, Q_F1, Q_F3, Q_F5, Q_Z6, Q_B6, Q_S6, Q_Z7, Q_B7, Q_S7, Q_Z8, Q_B8, Q_S8, Q_N6_7, Q_N6_8, Q_N7_8, Q_X1_, Q_X3_, Q_X5_, Q_X6_, Q_X7_, Q_X8_⟩ hb_ hon hoff
      refine ⟨_, rfl, fun K hK => ?_⟩
      have e6 : a.tmps[6]? = some (.pointer (some ⟨bf, 0, none⟩)) := by rw [ha]; exact (putSel_off rfl).trans hf
      replace ha := Aside0.mk ha
      have HB := Aside0.mk Q_HB
      have hc0_ : w'.cell? ⟨bf, 0, none⟩ = some (.int .i64 pf) := (blk_cell (blk_below BKf.out HB.out) 0).trans rfl
      have hc1_ : w'.cell? ⟨bf, 1, none⟩ = some (.int .i64 qf) := (blk_cell (blk_below BKf.out HB.out) 1).trans rfl
      have hc2_ : w'.cell? ⟨bf, 2, none⟩ = some (.slice Af lf.length cf) := (blk_cell (blk_below BKf.out HB.out) 2).trans rfl
      refine value_ (w1 := w') (v := .agg #[.int .i64 pf, .int .i64 qf, .slice Af lf.length cf]) (by rfl) rfl ?_ ?_
      · go_simp
        (try simp only [i64_w])
        try rfl
      refine hK.out _ _ ⟨u1, u3, u5, g6, g7, g8, m1_, m3_, m5_, m6_, m7_, m8_, (by rw [ha.out]; exact putSel_upk 4 hb_ rfl rfl rfl), Q_HB, Q_F1, Q_F3, fun h0_ => absurd ((hoff 5 (by kernel_rfl)).symm.trans h0_) (by decide), Q_Z6, Q_B6, fun h0_ => absurd ((hoff 9 (by kernel_rfl)).symm.trans h0_) (by decide), Q_Z7, Q_B7, fun h0_ => absurd ((hoff 10 (by kernel_rfl)).symm.trans h0_) (by decide), Q_Z8, Q_B8, fun h0_ => absurd ((hoff 11 (by kernel_rfl)).symm.trans h0_) (by decide), Q_N6_7, Q_N6_8, Q_N7_8, Q_X1_, Q_X3_, fun h0_ => absurd ((hoff 5 (by kernel_rfl)).symm.trans h0_) (by decide), Q_X6_, Q_X7_, Q_X8_⟩
    refine steps_cons ?_ ?_
    · rintro b a w' ⟨u1, u3, u5, g6, g7, g8, m1_, m3_, m5_, m6_, m7_, m8_, ha, Q_HB, Q_F1, Q_F3, Q_F5, Q_Z6, Q_B6, Q_S6, Q_Z7, Q_B7, Q_S7, Q_Z8, Q_B8, Q_S8, Q_N6_7, Q_N6_8, Q_N7_8, Q_X1_, Q_X3_, Q_X5_, Q_X6_, Q_X7_, Q_X8_⟩ hb_ hon hoff
      refine ⟨_, rfl, fun K hK => ?_⟩
      have e31 : a.tmps[31]? = some (.agg #[.int .i64 pf, .int .i64 qf, .slice Af lf.length cf]) := by rw [ha]; exact putSel_on (e := (4, 31, .agg #[.int .i64 pf, .int .i64 qf, .slice Af lf.length cf])) 4 rfl rfl (hon 4 (by kernel_rfl)) (by rw [hsz]; rfl)
      replace ha := Aside0.mk ha
      have HB := Aside0.mk Q_HB
      have F1 := Aside0.mk (Q_F1 (hon 1 (by kernel_rfl)))
      have F3 := Aside0.mk (Q_F3 (hon 3 (by kernel_rfl)))
      refine goes_ Tryd.func16 (by kernel_rfl) rfl #[.agg #[.int .i64 pf, .int .i64 qf, .slice Af lf.length cf], .int .i64 3, .int .i64 2] (by rfl) rfl rfl (by first | (simp only [List.map_toArray, List.map_cons, List.map_nil, Act.eval, Array.getD_eq_getD_getElem?, Option.getD_some, e31]; done) | (simp only [List.map_toArray, List.map_cons, List.map_nil, Act.eval, Array.getD_eq_getD_getElem?, Option.getD_some, e31]; rfl)) ?_
      refine (make_go kk pf qf Af cf lf 3 2 r5_0 r5_1 k5_ w' (fun k_ => (b 6 = true ∧ k_ = g6) ∨ (b 7 = true ∧ k_ = g7) ∨ (b 8 = true ∧ k_ = g8)) (fun k_ h_ => h_.elim (fun h_ => h_.2 ▸ (Q_Z6 h_.1).2) (fun h_ => h_.elim (fun h_ => h_.2 ▸ (Q_Z7 h_.1).2) (fun h_ => h_.2 ▸ (Q_Z8 h_.1).2))) (Kd.C_below HRf.out HB.out) HCf.out AH5.out).mono ?_
      rintro e w1 ⟨v_, rfl, hv, hb⟩
      refine ⟨_, rfl, ?_⟩
      refine hK.out _ _ ⟨u1, u3, v_, g6, g7, g8, m1_, m3_, (.agg #[.int .i64 r5_0, .int .i64 r5_1, v_]), m6_, m7_, m8_, (by rw [ha.out]; exact putSel_upk 5 hb_ rfl rfl rfl), below_step HB.out hb, fun _ => F1.out.step hb, fun _ => F3.out.step hb, fun _ => hv, fun h0_ => ⟨(Q_Z6 h0_).1, Nat.lt_of_lt_of_le (Q_Z6 h0_).2 hb.size⟩, fun h0_ h1_ => blk_below (Q_B6 h0_ h1_) hb, fun h0_ => absurd ((hoff 9 (by kernel_rfl)).symm.trans h0_) (by decide), fun h0_ => ⟨(Q_Z7 h0_).1, Nat.lt_of_lt_of_le (Q_Z7 h0_).2 hb.size⟩, fun h0_ h1_ => blk_below (Q_B7 h0_ h1_) hb, fun h0_ => absurd ((hoff 10 (by kernel_rfl)).symm.trans h0_) (by decide), fun h0_ => ⟨(Q_Z8 h0_).1, Nat.lt_of_lt_of_le (Q_Z8 h0_).2 hb.size⟩, fun h0_ h1_ => blk_below (Q_B8 h0_ h1_) hb, fun h0_ => absurd ((hoff 11 (by kernel_rfl)).symm.trans h0_) (by decide), Q_N6_7, Q_N6_8, Q_N7_8, Q_X1_, Q_X3_, fun _ => rfl, Q_X6_, Q_X7_, Q_X8_⟩
    refine steps_cons ?_ ?_
    · rintro b a w' ⟨u1, u3, u5, g6, g7, g8, m1_, m3_, m5_, m6_, m7_, m8_, ha, Q_HB, Q_F1, Q_F3, Q_F5, Q_Z6, Q_B6, Q_S6, Q_Z7, Q_B7, Q_S7, Q_Z8, Q_B8, Q_S8, Q_N6_7, Q_N6_8, Q_N7_8, Q_X1_, Q_X3_, Q_X5_, Q_X6_, Q_X7_, Q_X8_⟩ hb_ hon hoff
      refine ⟨_, rfl, fun K hK => ?_⟩
      replace ha := Aside0.mk ha
      have HB := Aside0.mk Q_HB
      refine box_step ?hg (N := 9) ?hd (cs := #[.int .i64 0, .int .i64 0, .slice none 0 0]) (t := 29) ?hr ?_; (case hd => rfl); (case hg => rfl); (case hr => first | (go_simp; done) | (go_simp; rfl))
      intro gn hg w1 hbox hb
      refine hK.out _ _ ⟨u1, u3, u5, gn, g7, g8, m1_, m3_, m5_, (.pointer (some ⟨gn, 0, none⟩)), m7_, m8_, (by rw [ha.out]; exact putSel_upk 6 hb_ rfl rfl rfl), below_step HB.out hb, fun h0_ => (Q_F1 h0_).below hb (fun k_ h_ => h_.elim (fun h_ => .inr (by rw [h_.2, hg]; exact Nat.le_refl _)) (fun h_ => h_.elim (fun h_ => .inl (.inr (.inl h_))) (fun h_ => .inl (.inr (.inr h_))))), fun h0_ => (Q_F3 h0_).below hb (fun k_ h_ => h_.elim (fun h_ => .inr (by rw [h_.2, hg]; exact Nat.le_refl _)) (fun h_ => h_.elim (fun h_ => .inl (.inr (.inl h_))) (fun h_ => .inl (.inr (.inr h_))))), fun h0_ => (Q_F5 h0_).below hb (fun k_ h_ => h_.elim (fun h_ => .inr (by rw [h_.2, hg]; exact Nat.le_refl _)) (fun h_ => h_.elim (fun h_ => .inl (.inr (.inl h_))) (fun h_ => .inl (.inr (.inr h_))))), fun _ => ⟨by rw [hg]; exact below_size HB.out, blk_lt hbox⟩, fun _ _ => hbox, fun h0_ => absurd ((hoff 9 (by kernel_rfl)).symm.trans h0_) (by decide), fun h0_ => ⟨(Q_Z7 h0_).1, Nat.lt_of_lt_of_le (Q_Z7 h0_).2 hb.size⟩, fun h0_ h1_ => blk_below (Q_B7 h0_ h1_) hb, fun h0_ => absurd ((hoff 10 (by kernel_rfl)).symm.trans h0_) (by decide), fun h0_ => ⟨(Q_Z8 h0_).1, Nat.lt_of_lt_of_le (Q_Z8 h0_).2 hb.size⟩, fun h0_ h1_ => blk_below (Q_B8 h0_ h1_) hb, fun h0_ => absurd ((hoff 11 (by kernel_rfl)).symm.trans h0_) (by decide), fun (h0_ : up b 6 6 = true) (h1_ : up b 6 7 = true) => (by have := (Q_Z7 h1_).2; omega), fun (h0_ : up b 6 6 = true) (h1_ : up b 6 8 = true) => (by have := (Q_Z8 h1_).2; omega), Q_N7_8, Q_X1_, Q_X3_, Q_X5_, fun _ => rfl, Q_X7_, Q_X8_⟩
    refine steps_cons ?_ ?_
    · rintro b a w' ⟨u1, u3, u5, g6, g7, g8, m1_, m3_, m5_, m6_, m7_, m8_, ha, Q_HB, Q_F1, Q_F3, Q_F5, Q_Z6, Q_B6, Q_S6, Q_Z7, Q_B7, Q_S7, Q_Z8, Q_B8, Q_S8, Q_N6_7, Q_N6_8, Q_N7_8, Q_X1_, Q_X3_, Q_X5_, Q_X6_, Q_X7_, Q_X8_⟩ hb_ hon hoff
      refine ⟨_, rfl, fun K hK => ?_⟩
      replace ha := Aside0.mk ha
      have HB := Aside0.mk Q_HB
      refine box_step ?hg (N := 10) ?hd (cs := #[.int .i64 0, .int .i64 0, .slice none 0 0]) (t := 29) ?hr ?_; (case hd => rfl); (case hg => rfl); (case hr => first | (go_simp; done) | (go_simp; rfl))
      intro gn hg w1 hbox hb
      refine hK.out _ _ ⟨u1, u3, u5, g6, gn, g8, m1_, m3_, m5_, m6_, (.pointer (some ⟨gn, 0, none⟩)), m8_, (by rw [ha.out]; exact putSel_upk 7 hb_ rfl rfl rfl), below_step HB.out hb, fun h0_ => (Q_F1 h0_).below hb (fun k_ h_ => h_.elim (fun h_ => .inl (.inl h_)) (fun h_ => h_.elim (fun h_ => .inr (by rw [h_.2, hg]; exact Nat.le_refl _)) (fun h_ => .inl (.inr (.inr h_))))), fun h0_ => (Q_F3 h0_).below hb (fun k_ h_ => h_.elim (fun h_ => .inl (.inl h_)) (fun h_ => h_.elim (fun h_ => .inr (by rw [h_.2, hg]; exact Nat.le_refl _)) (fun h_ => .inl (.inr (.inr h_))))), fun h0_ => (Q_F5 h0_).below hb (fun k_ h_ => h_.elim (fun h_ => .inl (.inl h_)) (fun h_ => h_.elim (fun h_ => .inr (by rw [h_.2, hg]; exact Nat.le_refl _)) (fun h_ => .inl (.inr (.inr h_))))), fun h0_ => ⟨(Q_Z6 h0_).1, Nat.lt_of_lt_of_le (Q_Z6 h0_).2 hb.size⟩, fun h0_ h1_ => blk_below (Q_B6 h0_ h1_) hb, fun h0_ => absurd ((hoff 9 (by kernel_rfl)).symm.trans h0_) (by decide), fun _ => ⟨by rw [hg]; exact below_size HB.out, blk_lt hbox⟩, fun _ _ => hbox, fun h0_ => absurd ((hoff 10 (by kernel_rfl)).symm.trans h0_) (by decide), fun h0_ => ⟨(Q_Z8 h0_).1, Nat.lt_of_lt_of_le (Q_Z8 h0_).2 hb.size⟩, fun h0_ h1_ => blk_below (Q_B8 h0_ h1_) hb, fun h0_ => absurd ((hoff 11 (by kernel_rfl)).symm.trans h0_) (by decide), fun (h0_ : up b 7 6 = true) (h1_ : up b 7 7 = true) => (by have := (Q_Z6 h0_).2; omega), Q_N6_8, fun (h0_ : up b 7 7 = true) (h1_ : up b 7 8 = true) => (by have := (Q_Z8 h1_).2; omega), Q_X1_, Q_X3_, Q_X5_, Q_X6_, fun _ => rfl, Q_X8_⟩
    refine steps_cons ?_ ?_
    · rintro b a w' ⟨u1, u3, u5, g6, g7, g8, m1_, m3_, m5_, m6_, m7_, m8_, ha, Q_HB, Q_F1, Q_F3, Q_F5, Q_Z6, Q_B6, Q_S6, Q_Z7, Q_B7, Q_S7, Q_Z8, Q_B8, Q_S8, Q_N6_7, Q_N6_8, Q_N7_8, Q_X1_, Q_X3_, Q_X5_, Q_X6_, Q_X7_, Q_X8_⟩ hb_ hon hoff
      refine ⟨_, rfl, fun K hK => ?_⟩
      replace ha := Aside0.mk ha
      have HB := Aside0.mk Q_HB
      refine box_step ?hg (N := 11) ?hd (cs := #[.int .i64 0, .int .i64 0, .slice none 0 0]) (t := 29) ?hr ?_; (case hd => rfl); (case hg => rfl); (case hr => first | (go_simp; done) | (go_simp; rfl))
      intro gn hg w1 hbox hb
      refine hK.out _ _ ⟨u1, u3, u5, g6, g7, gn, m1_, m3_, m5_, m6_, m7_, (.pointer (some ⟨gn, 0, none⟩)), (by rw [ha.out]; exact putSel_upk 8 hb_ rfl rfl rfl), below_step HB.out hb, fun h0_ => (Q_F1 h0_).below hb (fun k_ h_ => h_.elim (fun h_ => .inl (.inl h_)) (fun h_ => h_.elim (fun h_ => .inl (.inr (.inl h_))) (fun h_ => .inr (by rw [h_.2, hg]; exact Nat.le_refl _)))), fun h0_ => (Q_F3 h0_).below hb (fun k_ h_ => h_.elim (fun h_ => .inl (.inl h_)) (fun h_ => h_.elim (fun h_ => .inl (.inr (.inl h_))) (fun h_ => .inr (by rw [h_.2, hg]; exact Nat.le_refl _)))), fun h0_ => (Q_F5 h0_).below hb (fun k_ h_ => h_.elim (fun h_ => .inl (.inl h_)) (fun h_ => h_.elim (fun h_ => .inl (.inr (.inl h_))) (fun h_ => .inr (by rw [h_.2, hg]; exact Nat.le_refl _)))), fun h0_ => ⟨(Q_Z6 h0_).1, Nat.lt_of_lt_of_le (Q_Z6 h0_).2 hb.size⟩, fun h0_ h1_ => blk_below (Q_B6 h0_ h1_) hb, fun h0_ => absurd ((hoff 9 (by kernel_rfl)).symm.trans h0_) (by decide), fun h0_ => ⟨(Q_Z7 h0_).1, Nat.lt_of_lt_of_le (Q_Z7 h0_).2 hb.size⟩, fun h0_ h1_ => blk_below (Q_B7 h0_ h1_) hb, fun h0_ => absurd ((hoff 10 (by kernel_rfl)).symm.trans h0_) (by decide), fun _ => ⟨by rw [hg]; exact below_size HB.out, blk_lt hbox⟩, fun _ _ => hbox, fun h0_ => absurd ((hoff 11 (by kernel_rfl)).symm.trans h0_) (by decide), Q_N6_7, fun (h0_ : up b 8 6 = true) (h1_ : up b 8 8 = true) => (by have := (Q_Z6 h0_).2; omega), fun (h0_ : up b 8 7 = true) (h1_ : up b 8 8 = true) => (by have := (Q_Z7 h0_).2; omega), Q_X1_, Q_X3_, Q_X5_, Q_X6_, Q_X7_, fun _ => rfl⟩
    refine steps_cons ?_ ?_
    · rintro b a w' ⟨u1, u3, u5, g6, g7, g8, m1_, m3_, m5_, m6_, m7_, m8_, ha, Q_HB, Q_F1, Q_F3, Q_F5, Q_Z6, Q_B6, Q_S6, Q_Z7, Q_B7, Q_S7, Q_Z8, Q_B8, Q_S8, Q_N6_7, Q_N6_8, Q_N7_8, Q_X1_, Q_X3_, Q_X5_, Q_X6_, Q_X7_, Q_X8_⟩ hb_ hon hoff
      refine ⟨_, rfl, fun K hK => ?_⟩
      have e9 : a.tmps[9]? = some (m6_) := by rw [ha]; exact putSel_on (e := (6, 9, m6_)) 6 rfl rfl (hon 6 (by kernel_rfl)) (by rw [hsz]; rfl)
      rw [Q_X6_ (hon 6 (by kernel_rfl))] at e9
      have e28 : a.tmps[28]? = some (m1_) := by rw [ha]; exact putSel_on (e := (1, 28, m1_)) 1 rfl rfl (hon 1 (by kernel_rfl)) (by rw [hsz]; rfl)
      rw [Q_X1_ (hon 1 (by kernel_rfl))] at e28
      replace ha := Aside0.mk ha
      have HB := Aside0.mk Q_HB
      have F1 := Aside0.mk (Q_F1 (hon 1 (by kernel_rfl)))
      have F3 := Aside0.mk (Q_F3 (hon 3 (by kernel_rfl)))
      have F5 := Aside0.mk (Q_F5 (hon 5 (by kernel_rfl)))
      have Z6 := Aside0.mk (Q_Z6 (hon 6 (by kernel_rfl)))
      have B6 := Aside0.mk (Q_B6 (hon 6 (by kernel_rfl)) hb_)
      have Z7 := Aside0.mk (Q_Z7 (hon 7 (by kernel_rfl)))
      have B7 := Aside0.mk (Q_B7 (hon 7 (by kernel_rfl)) (hoff 10 (by kernel_rfl)))
      have Z8 := Aside0.mk (Q_Z8 (hon 8 (by kernel_rfl)))
      have B8 := Aside0.mk (Q_B8 (hon 8 (by kernel_rfl)) (hoff 11 (by kernel_rfl)))
      have N6_7 := Aside0.mk (Q_N6_7 (hon 6 (by kernel_rfl)) (hon 7 (by kernel_rfl)))
      have N6_8 := Aside0.mk (Q_N6_8 (hon 6 (by kernel_rfl)) (hon 8 (by kernel_rfl)))
      have N7_8 := Aside0.mk (Q_N7_8 (hon 7 (by kernel_rfl)) (hon 8 (by kernel_rfl)))
      have hs0_ : w'.cell? ⟨g6, 0, none⟩ = some (.int .i64 0) := (blk_cell B6.out 0).trans rfl
      have hs1_ : w'.cell? ⟨g6, 1, none⟩ = some (.int .i64 0) := (blk_cell B6.out 1).trans rfl
      have hs2_ : w'.cell? ⟨g6, 2, none⟩ = some (.slice none 0 0) := (blk_cell B6.out 2).trans rfl
      have hf0_ := blk_frozen B6.out 0
      have hf1_ := blk_frozen B6.out 1
      have hf2_ := blk_frozen B6.out 2
      obtain ⟨As_, cs_, hu_⟩ := Kd.V_slice F1.out
      subst hu_
      refine skip_ (w1 := ?_) (by rfl) rfl ?_ ?_
      rotate_left
      · go_simp
        rfl
      refine hK.out _ _ ⟨.slice As_ k1_.length cs_, u3, u5, g6, g7, g8, m1_, m3_, m5_, m6_, m7_, m8_, (by rw [ha.out]; exact putSel_none (v := undef) rfl), below_set3 HB.out Z6.out.1 (.int .i64 r1_0) (.int .i64 r1_1) (.slice As_ k1_.length cs_), fun _ => F1.out.set3 (.inl ⟨hon 6 (by kernel_rfl), rfl⟩) (.int .i64 r1_0) (.int .i64 r1_1) (.slice As_ k1_.length cs_), fun _ => F3.out.set3 (.inl ⟨hon 6 (by kernel_rfl), rfl⟩) (.int .i64 r1_0) (.int .i64 r1_1) (.slice As_ k1_.length cs_), fun _ => F5.out.set3 (.inl ⟨hon 6 (by kernel_rfl), rfl⟩) (.int .i64 r1_0) (.int .i64 r1_1) (.slice As_ k1_.length cs_), fun _ => ⟨Z6.out.1, by rw [size_set3]; exact Z6.out.2⟩, fun _ h1_ => absurd ((up_self b 9).symm.trans h1_) (by decide), fun _ => blk_set3 B6.out rfl (.int .i64 r1_0) (.int .i64 r1_1) (.slice As_ k1_.length cs_), fun _ => ⟨Z7.out.1, by rw [size_set3]; exact Z7.out.2⟩, fun _ _ => blk_far3 B7.out (N6_7.out.symm) (.int .i64 r1_0) (.int .i64 r1_1) (.slice As_ k1_.length cs_), fun h0_ => absurd ((hoff 10 (by kernel_rfl)).symm.trans h0_) (by decide), fun _ => ⟨Z8.out.1, by rw [size_set3]; exact Z8.out.2⟩, fun _ _ => blk_far3 B8.out (N6_8.out.symm) (.int .i64 r1_0) (.int .i64 r1_1) (.slice As_ k1_.length cs_), fun h0_ => absurd ((hoff 11 (by kernel_rfl)).symm.trans h0_) (by decide), Q_N6_7, Q_N6_8, Q_N7_8, Q_X1_, Q_X3_, Q_X5_, Q_X6_, Q_X7_, Q_X8_⟩
    refine steps_cons ?_ ?_
    · rintro b a w' ⟨u1, u3, u5, g6, g7, g8, m1_, m3_, m5_, m6_, m7_, m8_, ha, Q_HB, Q_F1, Q_F3, Q_F5, Q_Z6, Q_B6, Q_S6, Q_Z7, Q_B7, Q_S7, Q_Z8, Q_B8, Q_S8, Q_N6_7, Q_N6_8, Q_N7_8, Q_X1_, Q_X3_, Q_X5_, Q_X6_, Q_X7_, Q_X8_⟩ hb_ hon hoff
      refine ⟨_, rfl, fun K hK => ?_⟩
      have e10 : a.tmps[10]? = some (m7_) := by rw [ha]; exact putSel_on (e := (7, 10, m7_)) 7 rfl rfl (hon 7 (by kernel_rfl)) (by rw [hsz]; rfl)
      rw [Q_X7_ (hon 7 (by kernel_rfl))] at e10
      have e30 : a.tmps[30]? = some (m3_) := by rw [ha]; exact putSel_on (e := (3, 30, m3_)) 3 rfl rfl (hon 3 (by kernel_rfl)) (by rw [hsz]; rfl)
      rw [Q_X3_ (hon 3 (by kernel_rfl))] at e30
      replace ha := Aside0.mk ha
      have HB := Aside0.mk Q_HB
      have F1 := Aside0.mk (Q_F1 (hon 1 (by kernel_rfl)))
      have F3 := Aside0.mk (Q_F3 (hon 3 (by kernel_rfl)))
      have F5 := Aside0.mk (Q_F5 (hon 5 (by kernel_rfl)))
      have Z6 := Aside0.mk (Q_Z6 (hon 6 (by kernel_rfl)))
      have S6 := Aside0.mk (Q_S6 (hon 9 (by kernel_rfl)))
      have Z7 := Aside0.mk (Q_Z7 (hon 7 (by kernel_rfl)))
      have B7 := Aside0.mk (Q_B7 (hon 7 (by kernel_rfl)) hb_)
      have Z8 := Aside0.mk (Q_Z8 (hon 8 (by kernel_rfl)))
      have B8 := Aside0.mk (Q_B8 (hon 8 (by kernel_rfl)) (hoff 11 (by kernel_rfl)))
      have N6_7 := Aside0.mk (Q_N6_7 (hon 6 (by kernel_rfl)) (hon 7 (by kernel_rfl)))
      have N6_8 := Aside0.mk (Q_N6_8 (hon 6 (by kernel_rfl)) (hon 8 (by kernel_rfl)))
      have N7_8 := Aside0.mk (Q_N7_8 (hon 7 (by kernel_rfl)) (hon 8 (by kernel_rfl)))
      have hs0_ : w'.cell? ⟨g7, 0, none⟩ = some (.int .i64 0) := (blk_cell B7.out 0).trans rfl
      have hs1_ : w'.cell? ⟨g7, 1, none⟩ = some (.int .i64 0) := (blk_cell B7.out 1).trans rfl
      have hs2_ : w'.cell? ⟨g7, 2, none⟩ = some (.slice none 0 0) := (blk_cell B7.out 2).trans rfl
      have hf0_ := blk_frozen B7.out 0
      have hf1_ := blk_frozen B7.out 1
      have hf2_ := blk_frozen B7.out 2
      obtain ⟨As_, cs_, hu_⟩ := Kd.V_slice F3.out
      subst hu_
      refine skip_ (w1 := ?_) (by rfl) rfl ?_ ?_
      rotate_left
      · go_simp
        rfl
      refine hK.out _ _ ⟨u1, .slice As_ k3_.length cs_, u5, g6, g7, g8, m1_, m3_, m5_, m6_, m7_, m8_, (by rw [ha.out]; exact putSel_none (v := undef) rfl), below_set3 HB.out Z7.out.1 (.int .i64 r3_0) (.int .i64 r3_1) (.slice As_ k3_.length cs_), fun _ => F1.out.set3 (.inr (.inl ⟨hon 7 (by kernel_rfl), rfl⟩)) (.int .i64 r3_0) (.int .i64 r3_1) (.slice As_ k3_.length cs_), fun _ => F3.out.set3 (.inr (.inl ⟨hon 7 (by kernel_rfl), rfl⟩)) (.int .i64 r3_0) (.int .i64 r3_1) (.slice As_ k3_.length cs_), fun _ => F5.out.set3 (.inr (.inl ⟨hon 7 (by kernel_rfl), rfl⟩)) (.int .i64 r3_0) (.int .i64 r3_1) (.slice As_ k3_.length cs_), fun _ => ⟨Z6.out.1, by rw [size_set3]; exact Z6.out.2⟩, fun _ h1_ => absurd ((hon 9 (by kernel_rfl)).symm.trans h1_) (by decide), fun _ => blk_far3 S6.out (N6_7.out) (.int .i64 r3_0) (.int .i64 r3_1) (.slice As_ k3_.length cs_), fun _ => ⟨Z7.out.1, by rw [size_set3]; exact Z7.out.2⟩, fun _ h1_ => absurd ((up_self b 10).symm.trans h1_) (by decide), fun _ => blk_set3 B7.out rfl (.int .i64 r3_0) (.int .i64 r3_1) (.slice As_ k3_.length cs_), fun _ => ⟨Z8.out.1, by rw [size_set3]; exact Z8.out.2⟩, fun _ _ => blk_far3 B8.out (N7_8.out.symm) (.int .i64 r3_0) (.int .i64 r3_1) (.slice As_ k3_.length cs_), fun h0_ => absurd ((hoff 11 (by kernel_rfl)).symm.trans h0_) (by decide), Q_N6_7, Q_N6_8, Q_N7_8, Q_X1_, Q_X3_, Q_X5_, Q_X6_, Q_X7_, Q_X8_⟩
    refine steps_cons ?_ ?_
    · rintro b a w' ⟨u1, u3, u5, g6, g7, g8, m1_, m3_, m5_, m6_, m7_, m8_, ha, Q_HB, Q_F1, Q_F3, Q_F5, Q_Z6, Q_B6, Q_S6, Q_Z7, Q_B7, Q_S7, Q_Z8, Q_B8, Q_S8, Q_N6_7, Q_N6_8, Q_N7_8, Q_X1_, Q_X3_, Q_X5_, Q_X6_, Q_X7_, Q_X8_⟩ hb_ hon hoff
      refine ⟨_, rfl, fun K hK => ?_⟩
      have e11 : a.tmps[11]? = some (m8_) := by rw [ha]; exact putSel_on (e := (8, 11, m8_)) 8 rfl rfl (hon 8 (by kernel_rfl)) (by rw [hsz]; rfl)
      rw [Q_X8_ (hon 8 (by kernel_rfl))] at e11
      have e32 : a.tmps[32]? = some (m5_) := by rw [ha]; exact putSel_on (e := (5, 32, m5_)) 5 rfl rfl (hon 5 (by kernel_rfl)) (by rw [hsz]; rfl)
      rw [Q_X5_ (hon 5 (by kernel_rfl))] at e32
      replace ha := Aside0.mk ha
      have HB := Aside0.mk Q_HB
      have F1 := Aside0.mk (Q_F1 (hon 1 (by kernel_rfl)))
      have F3 := Aside0.mk (Q_F3 (hon 3 (by kernel_rfl)))
      have F5 := Aside0.mk (Q_F5 (hon 5 (by kernel_rfl)))
      have Z6 := Aside0.mk (Q_Z6 (hon 6 (by kernel_rfl)))
      have S6 := Aside0.mk (Q_S6 (hon 9 (by kernel_rfl)))
      have Z7 := Aside0.mk (Q_Z7 (hon 7 (by kernel_rfl)))
      have S7 := Aside0.mk (Q_S7 (hon 10 (by kernel_rfl)))
      have Z8 := Aside0.mk (Q_Z8 (hon 8 (by kernel_rfl)))
      have B8 := Aside0.mk (Q_B8 (hon 8 (by kernel_rfl)) hb_)
      have N6_7 := Aside0.mk (Q_N6_7 (hon 6 (by kernel_rfl)) (hon 7 (by kernel_rfl)))
      have N6_8 := Aside0.mk (Q_N6_8 (hon 6 (by kernel_rfl)) (hon 8 (by kernel_rfl)))
      have N7_8 := Aside0.mk (Q_N7_8 (hon 7 (by kernel_rfl)) (hon 8 (by kernel_rfl)))
      have hs0_ : w'.cell? ⟨g8, 0, none⟩ = some (.int .i64 0) := (blk_cell B8.out 0).trans rfl
      have hs1_ : w'.cell? ⟨g8, 1, none⟩ = some (.int .i64 0) := (blk_cell B8.out 1).trans rfl
      have hs2_ : w'.cell? ⟨g8, 2, none⟩ = some (.slice none 0 0) := (blk_cell B8.out 2).trans rfl
      have hf0_ := blk_frozen B8.out 0
      have hf1_ := blk_frozen B8.out 1
      have hf2_ := blk_frozen B8.out 2
      obtain ⟨As_, cs_, hu_⟩ := Kd.V_slice F5.out
      subst hu_
      refine skip_ (w1 := ?_) (by rfl) rfl ?_ ?_
      rotate_left
      · go_simp
        rfl
      refine hK.out _ _ ⟨u1, u3, .slice As_ k5_.length cs_, g6, g7, g8, m1_, m3_, m5_, m6_, m7_, m8_, (by rw [ha.out]; exact putSel_none (v := undef) rfl), below_set3 HB.out Z8.out.1 (.int .i64 r5_0) (.int .i64 r5_1) (.slice As_ k5_.length cs_), fun _ => F1.out.set3 (.inr (.inr ⟨hon 8 (by kernel_rfl), rfl⟩)) (.int .i64 r5_0) (.int .i64 r5_1) (.slice As_ k5_.length cs_), fun _ => F3.out.set3 (.inr (.inr ⟨hon 8 (by kernel_rfl), rfl⟩)) (.int .i64 r5_0) (.int .i64 r5_1) (.slice As_ k5_.length cs_), fun _ => F5.out.set3 (.inr (.inr ⟨hon 8 (by kernel_rfl), rfl⟩)) (.int .i64 r5_0) (.int .i64 r5_1) (.slice As_ k5_.length cs_), fun _ => ⟨Z6.out.1, by rw [size_set3]; exact Z6.out.2⟩, fun _ h1_ => absurd ((hon 9 (by kernel_rfl)).symm.trans h1_) (by decide), fun _ => blk_far3 S6.out (N6_8.out) (.int .i64 r5_0) (.int .i64 r5_1) (.slice As_ k5_.length cs_), fun _ => ⟨Z7.out.1, by rw [size_set3]; exact Z7.out.2⟩, fun _ h1_ => absurd ((hon 10 (by kernel_rfl)).symm.trans h1_) (by decide), fun _ => blk_far3 S7.out (N7_8.out) (.int .i64 r5_0) (.int .i64 r5_1) (.slice As_ k5_.length cs_), fun _ => ⟨Z8.out.1, by rw [size_set3]; exact Z8.out.2⟩, fun _ h1_ => absurd ((up_self b 11).symm.trans h1_) (by decide), fun _ => blk_set3 B8.out rfl (.int .i64 r5_0) (.int .i64 r5_1) (.slice As_ k5_.length cs_), Q_N6_7, Q_N6_8, Q_N7_8, Q_X1_, Q_X3_, Q_X5_, Q_X6_, Q_X7_, Q_X8_⟩
    exact steps_nil
  · rintro b a w' hall ⟨u1, u3, u5, g6, g7, g8, m1_, m3_, m5_, m6_, m7_, m8_, ha, Q_HB, Q_F1, Q_F3, Q_F5, Q_Z6, Q_B6, Q_S6, Q_Z7, Q_B7, Q_S7, Q_Z8, Q_B8, Q_S8, Q_N6_7, Q_N6_8, Q_N7_8, Q_X1_, Q_X3_, Q_X5_, Q_X6_, Q_X7_, Q_X8_⟩
    clear HB
    have hb0_ := hall 0 (by kernel_rfl)
    have hb1_ := hall 1 (by kernel_rfl)
    have hb2_ := hall 2 (by kernel_rfl)
    have hb3_ := hall 3 (by kernel_rfl)
    have hb4_ := hall 4 (by kernel_rfl)
    have hb5_ := hall 5 (by kernel_rfl)
    have hb6_ := hall 6 (by kernel_rfl)
    have hb7_ := hall 7 (by kernel_rfl)
    have hb8_ := hall 8 (by kernel_rfl)
    have hb9_ := hall 9 (by kernel_rfl)
    have hb10_ := hall 10 (by kernel_rfl)
    have hb11_ := hall 11 (by kernel_rfl)
    subst ha
    obtain rfl := Q_X1_ hb1_
    obtain rfl := Q_X3_ hb3_
    obtain rfl := Q_X5_ hb5_
    obtain rfl := Q_X6_ hb6_
    obtain rfl := Q_X7_ hb7_
    obtain rfl := Q_X8_ hb8_
    simp only [putSel, hb0_, hb1_, hb2_, hb3_, hb4_, hb5_, hb6_, hb7_, hb8_, hb9_, hb10_, hb11_, if_true]
    have HB := Aside0.mk Q_HB
    clear Q_HB
    have F1 := Aside0.mk (Q_F1 hb1_)
    clear Q_F1
    have F3 := Aside0.mk (Q_F3 hb3_)
    clear Q_F3
    have F5 := Aside0.mk (Q_F5 hb5_)
    clear Q_F5
    have Z6 := Aside0.mk (Q_Z6 hb6_)
    clear Q_Z6
    clear Q_B6
    have S6 := Aside0.mk (Q_S6 hb9_)
    clear Q_S6
    have Z7 := Aside0.mk (Q_Z7 hb7_)
    clear Q_Z7
    clear Q_B7
    have S7 := Aside0.mk (Q_S7 hb10_)
    clear Q_S7
    have Z8 := Aside0.mk (Q_Z8 hb8_)
    clear Q_Z8
    clear Q_B8
    have S8 := Aside0.mk (Q_S8 hb11_)
    clear Q_S8
    have N6_7 := Aside0.mk (Q_N6_7 hb6_ hb7_)
    clear Q_N6_7
    have N6_8 := Aside0.mk (Q_N6_8 hb6_ hb8_)
    clear Q_N6_8
    have N7_8 := Aside0.mk (Q_N7_8 hb7_ hb8_)
    clear Q_N7_8
    clear hall hb0_ hb1_ hb2_ hb3_ hb4_ hb5_ hb6_ hb7_ hb8_ hb9_ hb10_ hb11_
    exact hQ u1 u3 u5 g6 g7 g8 w' HB.out Z6.out.1 S6.out F1.out.free Z7.out.1 S7.out F3.out.free Z8.out.1 S8.out F5.out.free
set_option maxHeartbeats 4000000 in
set_option maxRecDepth 100000 in
theorem closed_r7f {Q : Exit → Act → World → Prop} {a : Act} {W : World} (hsz : a.tmps.size = 70) (kk : Nat) (xt yt : Int) (vt : Value) (kt : List S29) (bt : Nat) (ht : a.tmps[9]? = some (.pointer (some ⟨bt, 0, none⟩))) (Bt_ : W.heap[bt]? = some (.cells #[.int .i64 xt, .int .i64 yt, vt] 29 (0, 0))) (Tt_ : TV W (fun _ => False) vt kt)
    (xs ys : Int) (vs : Value) (ks : List S29) (bs : Nat) (hs : a.tmps[10]? = some (.pointer (some ⟨bs, 0, none⟩))) (Bs_ : W.heap[bs]? = some (.cells #[.int .i64 xs, .int .i64 ys, vs] 29 (0, 0))) (Ts_ : TV W (fun _ => False) vs ks)
    (xz yz : Int) (vz : Value) (kz : List S29) (bz : Nat) (hz : a.tmps[11]? = some (.pointer (some ⟨bz, 0, none⟩))) (Bz_ : W.heap[bz]? = some (.cells #[.int .i64 xz, .int .i64 yz, vz] 29 (0, 0))) (Tz_ : TV W (fun _ => False) vz kz)
    (n3 : Int) (hn3 : a.tmps[3]? = some (.int .i64 n3))
    (H2 : term_Free.f kk xt yt kt n3 = some true)
    (hQ : ∀ (w' : World), Below W.heap.size W w' → Q .normal ((((((((((((((((a.put (some 35) (.agg #[.int .i64 xt, .int .i64 yt, vt])).put (some 36) (.int .i64 n3)).put (some 37) (.bool true)).put (some 38) (.bool false)).put (some 39) (.bool false)).put (some 40) (undef)).put (some 41) (undef)).put (some 42) (undef)).put (some 43) (undef)).put (some 44) (undef)).put (some 45) (undef)).put (some 46) (undef)).put (some 47) (undef)).put (some 48) (undef)).put (some 49) (undef)).put (some 50) (.bool false)) w') :
    (Code.region 7 (opsOf Tryd.f12 7) true).wp Tryd.prog Q a W := by
  have HT_ := Aside0.mk thyrsuslaw4_TermClosed.tab7
  have HW_ := Aside0.mk thyrsuslaw4_TermClosed.bits7
  have BKt := Aside0.mk Bt_
  have Tt := Aside0.mk Tt_
  clear Bt_ Tt_
  have BKs := Aside0.mk Bs_
  have Ts := Aside0.mk Ts_
  clear Bs_ Ts_
  have BKz := Aside0.mk Bz_
  have Tz := Aside0.mk Tz_
  clear Bz_ Tz_
  have AH2 := Aside0.mk H2
  clear H2
  have HB := Aside0.mk (below_drew1 (Below.refl W.heap.size W))
  conv in (opsOf Tryd.f12 7) => whnf
  refine start_ (n := 16) (S := fun w' => True) (ds := []) #[false, false, false, false, false, false, false, false, false, false, false, false, false, false, false, false] (by kernel_rfl) rfl rfl trivial (fun hHeld => ?_)
  clear hHeld
  generalize W.drew = W1 at HB ⊢
  refine inv_at [0, 1, 2, 3, 4, 5, 6, 7, 8, 9, 10, 11, 12, 13, 14, 15] (fun a0_ b a w' => a = putSel a0_ b [(0, 35, .agg #[.int .i64 xt, .int .i64 yt, vt]), (1, 36, .int .i64 n3), (2, 37, .bool true), (3, 38, .bool false), (4, 39, .bool false), (5, 40, undef), (6, 41, undef), (7, 42, undef), (8, 43, undef), (9, 44, undef), (10, 45, undef), (11, 46, undef), (12, 47, undef), (13, 48, undef), (14, 49, undef), (15, 50, .bool false)] ∧ (Below W.heap.size W w')) HT_.out HW_.out (by kernel_rfl) (by kernel_rfl) ?_ ?_ ?_
  · exact ⟨by simp only [putSel, Bool.false_eq_true, if_false], HB.out⟩
  · skip
    clear HB
    refine steps_cons ?_ ?_
    · rintro b a w' ⟨ha, Q_HB⟩ hb_ hon hoff
      refine ⟨_, rfl, fun K hK => ?_⟩
      have e9 : a.tmps[9]? = some (.pointer (some ⟨bt, 0, none⟩)) := by rw [ha]; exact (putSel_off rfl).trans ht
      replace ha := Aside0.mk ha
      have HB := Aside0.mk Q_HB
      have hc0_ : w'.cell? ⟨bt, 0, none⟩ = some (.int .i64 xt) := (blk_cell (blk_below BKt.out HB.out) 0).trans rfl
      have hc1_ : w'.cell? ⟨bt, 1, none⟩ = some (.int .i64 yt) := (blk_cell (blk_below BKt.out HB.out) 1).trans rfl
      have hc2_ : w'.cell? ⟨bt, 2, none⟩ = some (vt) := (blk_cell (blk_below BKt.out HB.out) 2).trans rfl
      refine value_ (w1 := w') (v := .agg #[.int .i64 xt, .int .i64 yt, vt]) (by rfl) rfl ?_ ?_
      · go_simp
        (try simp only [i64_w])
        try rfl
      refine hK.out _ _ ⟨(by rw [ha.out]; exact putSel_upk 0 hb_ rfl rfl rfl), Q_HB⟩
    refine steps_cons ?_ ?_
    · rintro b a w' ⟨ha, Q_HB⟩ hb_ hon hoff
      refine ⟨_, rfl, fun K hK => ?_⟩
      have e3 : a.tmps[3]? = some (.int .i64 n3) := by rw [ha]; exact (putSel_off rfl).trans hn3
      replace ha := Aside0.mk ha
      have HB := Aside0.mk Q_HB
      refine value_ (w1 := w') (v := .int .i64 n3) (by rfl) rfl ?_ ?_
      · go_simp
        (try simp only [i64_w])
        try rfl
      refine hK.out _ _ ⟨(by rw [ha.out]; exact putSel_upk 1 hb_ rfl rfl rfl), Q_HB⟩
    refine steps_cons ?_ ?_
    · rintro b a w' ⟨ha, Q_HB⟩ hb_ hon hoff
      refine ⟨_, rfl, fun K hK => ?_⟩
      have e35 : a.tmps[35]? = some (.agg #[.int .i64 xt, .int .i64 yt, vt]) := by rw [ha]; exact putSel_on (e := (0, 35, .agg #[.int .i64 xt, .int .i64 yt, vt])) 0 rfl rfl (hon 0 (by kernel_rfl)) (by rw [hsz]; rfl)
      have e36 : a.tmps[36]? = some (.int .i64 n3) := by rw [ha]; exact putSel_on (e := (1, 36, .int .i64 n3)) 1 rfl rfl (hon 1 (by kernel_rfl)) (by rw [hsz]; rfl)
      replace ha := Aside0.mk ha
      have HB := Aside0.mk Q_HB
      refine goes_ Tryd.func34 (by kernel_rfl) rfl #[.agg #[.int .i64 xt, .int .i64 yt, vt], .int .i64 n3] (by rfl) rfl rfl (by first | (simp only [List.map_toArray, List.map_cons, List.map_nil, Act.eval, Array.getD_eq_getD_getElem?, Option.getD_some, e35, e36]; done) | (simp only [List.map_toArray, List.map_cons, List.map_nil, Act.eval, Array.getD_eq_getD_getElem?, Option.getD_some, e35, e36]; rfl)) ?_
      refine (free_go kk xt yt vt kt n3 true w' (TV.old (G := fun _ => False) Tt.out HB.out (fun _ h_ => h_.elim)) AH2.out).mono ?_
      rintro e w1 ⟨rfl, hb⟩
      refine ⟨_, rfl, ?_⟩
      refine hK.out _ _ ⟨(by rw [ha.out]; exact putSel_upk 2 hb_ rfl rfl rfl), below_step HB.out hb⟩
    refine steps_cons ?_ ?_
    · rintro b a w' ⟨ha, Q_HB⟩ hb_ hon hoff
      refine ⟨_, rfl, fun K hK => ?_⟩
      have e37 : a.tmps[37]? = some (.bool true) := by rw [ha]; exact putSel_on (e := (2, 37, .bool true)) 2 rfl rfl (hon 2 (by kernel_rfl)) (by rw [hsz]; rfl)
      replace ha := Aside0.mk ha
      have HB := Aside0.mk Q_HB
      refine value_ (w1 := w') (v := .bool false) (by rfl) rfl ?_ ?_
      · go_simp
        (try simp only [i64_w])
        try rfl
      refine hK.out _ _ ⟨(by rw [ha.out]; exact putSel_upk 3 hb_ rfl rfl rfl), Q_HB⟩
    refine steps_cons ?_ ?_
    · rintro b a w' ⟨ha, Q_HB⟩ hb_ hon hoff
      refine ⟨_, rfl, fun K hK => ?_⟩
      have e38 : a.tmps[38]? = some (.bool false) := by rw [ha]; exact putSel_on (e := (3, 38, .bool false)) 3 rfl rfl (hon 3 (by kernel_rfl)) (by rw [hsz]; rfl)
      replace ha := Aside0.mk ha
      have HB := Aside0.mk Q_HB
      refine value_ (w1 := w') (v := .bool false) (by rfl) rfl ?_ ?_
      · go_simp
        (try simp only [i64_w])
        try rfl
      refine hK.out _ _ ⟨(by rw [ha.out]; exact putSel_upk 4 hb_ rfl rfl rfl), Q_HB⟩
    refine steps_cons ?_ ?_
    · rintro b a w' ⟨ha, Q_HB⟩ hb_ hon hoff
      refine ⟨_, rfl, fun K hK => ?_⟩
      have e39 : a.tmps[39]? = some (.bool false) := by rw [ha]; exact putSel_on (e := (4, 39, .bool false)) 4 rfl rfl (hon 4 (by kernel_rfl)) (by rw [hsz]; rfl)
      replace ha := Aside0.mk ha
      have HB := Aside0.mk Q_HB
      refine off_ (wanted_off rfl rfl rfl (e39.trans (by first | rfl | (simp [*]; done)))) ?_
      refine hK.out _ _ ⟨(by rw [ha.out]; exact putSel_upk 5 hb_ rfl rfl rfl), Q_HB⟩
    refine steps_cons ?_ ?_
    · rintro b a w' ⟨ha, Q_HB⟩ hb_ hon hoff
      refine ⟨_, rfl, fun K hK => ?_⟩
      have e39 : a.tmps[39]? = some (.bool false) := by rw [ha]; exact putSel_on (e := (4, 39, .bool false)) 4 rfl rfl (hon 4 (by kernel_rfl)) (by rw [hsz]; rfl)
      replace ha := Aside0.mk ha
      have HB := Aside0.mk Q_HB
      refine off_ (wanted_off rfl rfl rfl (e39.trans (by first | rfl | (simp [*]; done)))) ?_
      refine hK.out _ _ ⟨(by rw [ha.out]; exact putSel_upk 6 hb_ rfl rfl rfl), Q_HB⟩
    refine steps_cons ?_ ?_
    · rintro b a w' ⟨ha, Q_HB⟩ hb_ hon hoff
      refine ⟨_, rfl, fun K hK => ?_⟩
      have e39 : a.tmps[39]? = some (.bool false) := by rw [ha]; exact putSel_on (e := (4, 39, .bool false)) 4 rfl rfl (hon 4 (by kernel_rfl)) (by rw [hsz]; rfl)
      replace ha := Aside0.mk ha
      have HB := Aside0.mk Q_HB
      refine off_ (wanted_off rfl rfl rfl (e39.trans (by first | rfl | (simp [*]; done)))) ?_
      refine hK.out _ _ ⟨(by rw [ha.out]; exact putSel_upk 7 hb_ rfl rfl rfl), Q_HB⟩
    refine steps_cons ?_ ?_
    · rintro b a w' ⟨ha, Q_HB⟩ hb_ hon hoff
      refine ⟨_, rfl, fun K hK => ?_⟩
      have e39 : a.tmps[39]? = some (.bool false) := by rw [ha]; exact putSel_on (e := (4, 39, .bool false)) 4 rfl rfl (hon 4 (by kernel_rfl)) (by rw [hsz]; rfl)
      replace ha := Aside0.mk ha
      have HB := Aside0.mk Q_HB
      refine off_ (wanted_off rfl rfl rfl (e39.trans (by first | rfl | (simp [*]; done)))) ?_
      refine hK.out _ _ ⟨(by rw [ha.out]; exact putSel_upk 8 hb_ rfl rfl rfl), Q_HB⟩
    refine steps_cons ?_ ?_
    · rintro b a w' ⟨ha, Q_HB⟩ hb_ hon hoff
      refine ⟨_, rfl, fun K hK => ?_⟩
      have e39 : a.tmps[39]? = some (.bool false) := by rw [ha]; exact putSel_on (e := (4, 39, .bool false)) 4 rfl rfl (hon 4 (by kernel_rfl)) (by rw [hsz]; rfl)
      replace ha := Aside0.mk ha
      have HB := Aside0.mk Q_HB
      refine off_ (wanted_off rfl rfl rfl (e39.trans (by first | rfl | (simp [*]; done)))) ?_
      refine hK.out _ _ ⟨(by rw [ha.out]; exact putSel_upk 9 hb_ rfl rfl rfl), Q_HB⟩
    refine steps_cons ?_ ?_
    · rintro b a w' ⟨ha, Q_HB⟩ hb_ hon hoff
      refine ⟨_, rfl, fun K hK => ?_⟩
      have e39 : a.tmps[39]? = some (.bool false) := by rw [ha]; exact putSel_on (e := (4, 39, .bool false)) 4 rfl rfl (hon 4 (by kernel_rfl)) (by rw [hsz]; rfl)
      replace ha := Aside0.mk ha
      have HB := Aside0.mk Q_HB
      refine off_ (wanted_off rfl rfl rfl (e39.trans (by first | rfl | (simp [*]; done)))) ?_
      refine hK.out _ _ ⟨(by rw [ha.out]; exact putSel_upk 10 hb_ rfl rfl rfl), Q_HB⟩
    refine steps_cons ?_ ?_
    · rintro b a w' ⟨ha, Q_HB⟩ hb_ hon hoff
      refine ⟨_, rfl, fun K hK => ?_⟩
      have e39 : a.tmps[39]? = some (.bool false) := by rw [ha]; exact putSel_on (e := (4, 39, .bool false)) 4 rfl rfl (hon 4 (by kernel_rfl)) (by rw [hsz]; rfl)
      replace ha := Aside0.mk ha
      have HB := Aside0.mk Q_HB
      refine off_ (wanted_off rfl rfl rfl (e39.trans (by first | rfl | (simp [*]; done)))) ?_
      refine hK.out _ _ ⟨(by rw [ha.out]; exact putSel_upk 11 hb_ rfl rfl rfl), Q_HB⟩
    refine steps_cons ?_ ?_
    · rintro b a w' ⟨ha, Q_HB⟩ hb_ hon hoff
      refine ⟨_, rfl, fun K hK => ?_⟩
      have e39 : a.tmps[39]? = some (.bool false) := by rw [ha]; exact putSel_on (e := (4, 39, .bool false)) 4 rfl rfl (hon 4 (by kernel_rfl)) (by rw [hsz]; rfl)
      replace ha := Aside0.mk ha
      have HB := Aside0.mk Q_HB
      refine off_ (wanted_off rfl rfl rfl (e39.trans (by first | rfl | (simp [*]; done)))) ?_
      refine hK.out _ _ ⟨(by rw [ha.out]; exact putSel_upk 12 hb_ rfl rfl rfl), Q_HB⟩
    refine steps_cons ?_ ?_
    · rintro b a w' ⟨ha, Q_HB⟩ hb_ hon hoff
      refine ⟨_, rfl, fun K hK => ?_⟩
      have e39 : a.tmps[39]? = some (.bool false) := by rw [ha]; exact putSel_on (e := (4, 39, .bool false)) 4 rfl rfl (hon 4 (by kernel_rfl)) (by rw [hsz]; rfl)
      replace ha := Aside0.mk ha
      have HB := Aside0.mk Q_HB
      refine off_ (wanted_off rfl rfl rfl (e39.trans (by first | rfl | (simp [*]; done)))) ?_
      refine hK.out _ _ ⟨(by rw [ha.out]; exact putSel_upk 13 hb_ rfl rfl rfl), Q_HB⟩
    refine steps_cons ?_ ?_
    · rintro b a w' ⟨ha, Q_HB⟩ hb_ hon hoff
      refine ⟨_, rfl, fun K hK => ?_⟩
      have e39 : a.tmps[39]? = some (.bool false) := by rw [ha]; exact putSel_on (e := (4, 39, .bool false)) 4 rfl rfl (hon 4 (by kernel_rfl)) (by rw [hsz]; rfl)
      replace ha := Aside0.mk ha
      have HB := Aside0.mk Q_HB
      refine off_ (wanted_off rfl rfl rfl (e39.trans (by first | rfl | (simp [*]; done)))) ?_
      refine hK.out _ _ ⟨(by rw [ha.out]; exact putSel_upk 14 hb_ rfl rfl rfl), Q_HB⟩
    refine steps_cons ?_ ?_
    · rintro b a w' ⟨ha, Q_HB⟩ hb_ hon hoff
      refine ⟨_, rfl, fun K hK => ?_⟩
      have e39 : a.tmps[39]? = some (.bool false) := by rw [ha]; exact putSel_on (e := (4, 39, .bool false)) 4 rfl rfl (hon 4 (by kernel_rfl)) (by rw [hsz]; rfl)
      have e49 : a.tmps[49]? = some (undef) := by rw [ha]; exact putSel_on (e := (14, 49, undef)) 14 rfl rfl (hon 14 (by kernel_rfl)) (by rw [hsz]; rfl)
      replace ha := Aside0.mk ha
      have HB := Aside0.mk Q_HB
      refine value_ (w1 := w') (v := .bool false) (by rfl) rfl ?_ ?_
      · go_simp
        (try simp only [i64_w])
        try rfl
      refine hK.out _ _ ⟨(by rw [ha.out]; exact putSel_upk 15 hb_ rfl rfl rfl), Q_HB⟩
    exact steps_nil
  · rintro b a w' hall ⟨ha, Q_HB⟩
    clear HB
    have hb0_ := hall 0 (by kernel_rfl)
    have hb1_ := hall 1 (by kernel_rfl)
    have hb2_ := hall 2 (by kernel_rfl)
    have hb3_ := hall 3 (by kernel_rfl)
    have hb4_ := hall 4 (by kernel_rfl)
    have hb5_ := hall 5 (by kernel_rfl)
    have hb6_ := hall 6 (by kernel_rfl)
    have hb7_ := hall 7 (by kernel_rfl)
    have hb8_ := hall 8 (by kernel_rfl)
    have hb9_ := hall 9 (by kernel_rfl)
    have hb10_ := hall 10 (by kernel_rfl)
    have hb11_ := hall 11 (by kernel_rfl)
    have hb12_ := hall 12 (by kernel_rfl)
    have hb13_ := hall 13 (by kernel_rfl)
    have hb14_ := hall 14 (by kernel_rfl)
    have hb15_ := hall 15 (by kernel_rfl)
    subst ha
    simp only [putSel, hb0_, hb1_, hb2_, hb3_, hb4_, hb5_, hb6_, hb7_, hb8_, hb9_, hb10_, hb11_, hb12_, hb13_, hb14_, hb15_, if_true]
    have HB := Aside0.mk Q_HB
    clear Q_HB
    clear hall hb0_ hb1_ hb2_ hb3_ hb4_ hb5_ hb6_ hb7_ hb8_ hb9_ hb10_ hb11_ hb12_ hb13_ hb14_ hb15_
    exact hQ   w' HB.out 
set_option maxHeartbeats 4000000 in
set_option maxRecDepth 100000 in
theorem closed_r7t {Q : Exit → Act → World → Prop} {a : Act} {W : World} (hsz : a.tmps.size = 70) (kk : Nat) (xt yt : Int) (vt : Value) (kt : List S29) (bt : Nat) (ht : a.tmps[9]? = some (.pointer (some ⟨bt, 0, none⟩))) (Bt_ : W.heap[bt]? = some (.cells #[.int .i64 xt, .int .i64 yt, vt] 29 (0, 0))) (Tt_ : TV W (fun _ => False) vt kt)
    (xs ys : Int) (vs : Value) (ks : List S29) (bs : Nat) (hs : a.tmps[10]? = some (.pointer (some ⟨bs, 0, none⟩))) (Bs_ : W.heap[bs]? = some (.cells #[.int .i64 xs, .int .i64 ys, vs] 29 (0, 0))) (Ts_ : TV W (fun _ => False) vs ks)
    (xz yz : Int) (vz : Value) (kz : List S29) (bz : Nat) (hz : a.tmps[11]? = some (.pointer (some ⟨bz, 0, none⟩))) (Bz_ : W.heap[bz]? = some (.cells #[.int .i64 xz, .int .i64 yz, vz] 29 (0, 0))) (Tz_ : TV W (fun _ => False) vz kz)
    (n3 : Int) (hn3 : a.tmps[3]? = some (.int .i64 n3))
    (r8_0 r8_1 : Int) (k8_ : List S29)
    (r12_0 r12_1 : Int) (k12_ : List S29)
    (H2 : term_Free.f kk xt yt kt n3 = some false)
    (H8 : term_Subst.f kk xt yt kt n3 xs ys ks = some (r8_0, r8_1, k8_))
    (H12 : term_Subst.f kk xt yt kt n3 xz yz kz = some (r12_0, r12_1, k12_))
    (H13 : thyrsusref4_Same.f kk r8_0 r8_1 k8_ r12_0 r12_1 k12_ = some true)
    (hQ : ∀ (u8 u12 : Value) (w' : World), Below W.heap.size W w' → Q .normal ((((((((((((((((a.put (some 35) (.agg #[.int .i64 xt, .int .i64 yt, vt])).put (some 36) (.int .i64 n3)).put (some 37) (.bool false)).put (some 38) (.bool true)).put (some 39) (.bool true)).put (some 40) (.agg #[.int .i64 xt, .int .i64 yt, vt])).put (some 41) (.int .i64 n3)).put (some 42) (.agg #[.int .i64 xs, .int .i64 ys, vs])).put (some 43) (.agg #[.int .i64 r8_0, .int .i64 r8_1, u8])).put (some 44) (.agg #[.int .i64 xt, .int .i64 yt, vt])).put (some 45) (.int .i64 n3)).put (some 46) (.agg #[.int .i64 xz, .int .i64 yz, vz])).put (some 47) (.agg #[.int .i64 r12_0, .int .i64 r12_1, u12])).put (some 48) (.bool true)).put (some 49) (.bool false)).put (some 50) (.bool false)) w') :
    (Code.region 7 (opsOf Tryd.f12 7) true).wp Tryd.prog Q a W := by
  have HT_ := Aside0.mk thyrsuslaw4_TermClosed.tab7
  have HW_ := Aside0.mk thyrsuslaw4_TermClosed.bits7
  have BKt := Aside0.mk Bt_
  have Tt := Aside0.mk Tt_
  clear Bt_ Tt_
  have BKs := Aside0.mk Bs_
  have Ts := Aside0.mk Ts_
  clear Bs_ Ts_
  have BKz := Aside0.mk Bz_
  have Tz := Aside0.mk Tz_
  clear Bz_ Tz_
  have AH2 := Aside0.mk H2
  clear H2
  have AH13 := Aside0.mk H13
  clear H13
  have AH8 := Aside0.mk H8
  clear H8
  have AH12 := Aside0.mk H12
  clear H12
  have HB := Aside0.mk (below_drew1 (Below.refl W.heap.size W))
  conv in (opsOf Tryd.f12 7) => whnf
  refine start_ (n := 16) (S := fun w' => True) (ds := []) #[false, false, false, false, false, false, false, false, false, false, false, false, false, false, false, false] (by kernel_rfl) rfl rfl trivial (fun hHeld => ?_)
  clear hHeld
  generalize W.drew = W1 at HB ⊢
  refine inv_at [0, 1, 2, 3, 4, 5, 6, 7, 8, 9, 10, 11, 12, 13, 14, 15] (fun a0_ b a w' => ∃ (u8 : Value) (u12 : Value) (m8_ : Value) (m12_ : Value), a = putSel a0_ b [(0, 35, .agg #[.int .i64 xt, .int .i64 yt, vt]), (1, 36, .int .i64 n3), (2, 37, .bool false), (3, 38, .bool true), (4, 39, .bool true), (5, 40, .agg #[.int .i64 xt, .int .i64 yt, vt]), (6, 41, .int .i64 n3), (7, 42, .agg #[.int .i64 xs, .int .i64 ys, vs]), (8, 43, m8_), (9, 44, .agg #[.int .i64 xt, .int .i64 yt, vt]), (10, 45, .int .i64 n3), (11, 46, .agg #[.int .i64 xz, .int .i64 yz, vz]), (12, 47, m12_), (13, 48, .bool true), (14, 49, .bool false), (15, 50, .bool false)] ∧ (Below W.heap.size W w') ∧ (b 8 = true → TV w' (fun k_ => False) u8 k8_) ∧ (b 12 = true → TV w' (fun k_ => False) u12 k12_) ∧ (b 8 = true → (m8_ : Value) = .agg #[.int .i64 r8_0, .int .i64 r8_1, u8]) ∧ (b 12 = true → (m12_ : Value) = .agg #[.int .i64 r12_0, .int .i64 r12_1, u12])) HT_.out HW_.out (by kernel_rfl) (by kernel_rfl) ?_ ?_ ?_
  · exact ⟨.bool false, .bool false, .bool false, .bool false, by simp only [putSel, Bool.false_eq_true, if_false], HB.out, fun h_ => absurd h_ (by decide), fun h_ => absurd h_ (by decide), fun h_ => absurd h_ (by decide), fun h_ => absurd h_ (by decide)⟩
  · skip
    clear HB
    refine steps_cons ?_ ?_
    · rintro b a w' ⟨u8, u12, m8_, m12_, ha, Q_HB, Q_F8, Q_F12, Q_X8_, Q_X12_⟩ hb_ hon hoff
      refine ⟨_, rfl, fun K hK => ?_⟩
      have e9 : a.tmps[9]? = some (.pointer (some ⟨bt, 0, none⟩)) := by rw [ha]; exact (putSel_off rfl).trans ht
      replace ha := Aside0.mk ha
      have HB := Aside0.mk Q_HB
      have hc0_ : w'.cell? ⟨bt, 0, none⟩ = some (.int .i64 xt) := (blk_cell (blk_below BKt.out HB.out) 0).trans rfl
      have hc1_ : w'.cell? ⟨bt, 1, none⟩ = some (.int .i64 yt) := (blk_cell (blk_below BKt.out HB.out) 1).trans rfl
      have hc2_ : w'.cell? ⟨bt, 2, none⟩ = some (vt) := (blk_cell (blk_below BKt.out HB.out) 2).trans rfl
      refine value_ (w1 := w') (v := .agg #[.int .i64 xt, .int .i64 yt, vt]) (by rfl) rfl ?_ ?_
      · go_simp
        (try simp only [i64_w])
        try rfl
      refine hK.out _ _ ⟨u8, u12, m8_, m12_, (by rw [ha.out]; exact putSel_upk 0 hb_ rfl rfl rfl), Q_HB, fun h0_ => absurd ((hoff 8 (by kernel_rfl)).symm.trans h0_) (by decide), fun h0_ => absurd ((hoff 12 (by kernel_rfl)).symm.trans h0_) (by decide), fun h0_ => absurd ((hoff 8 (by kernel_rfl)).symm.trans h0_) (by decide), fun h0_ => absurd ((hoff 12 (by kernel_rfl)).symm.trans h0_) (by decide)⟩
    refine steps_cons ?_ ?_
    · rintro b a w' ⟨u8, u12, m8_, m12_, ha, Q_HB, Q_F8, Q_F12, Q_X8_, Q_X12_⟩ hb_ hon hoff
      refine ⟨_, rfl, fun K hK => ?_⟩
      have e3 : a.tmps[3]? = some (.int .i64 n3) := by rw [ha]; exact (putSel_off rfl).trans hn3
      replace ha := Aside0.mk ha
      have HB := Aside0.mk Q_HB
      refine value_ (w1 := w') (v := .int .i64 n3) (by rfl) rfl ?_ ?_
      · go_simp
        (try simp only [i64_w])
        try rfl
      refine hK.out _ _ ⟨u8, u12, m8_, m12_, (by rw [ha.out]; exact putSel_upk 1 hb_ rfl rfl rfl), Q_HB, fun h0_ => absurd ((hoff 8 (by kernel_rfl)).symm.trans h0_) (by decide), fun h0_ => absurd ((hoff 12 (by kernel_rfl)).symm.trans h0_) (by decide), fun h0_ => absurd ((hoff 8 (by kernel_rfl)).symm.trans h0_) (by decide), fun h0_ => absurd ((hoff 12 (by kernel_rfl)).symm.trans h0_) (by decide)⟩
    refine steps_cons ?_ ?_
    · rintro b a w' ⟨u8, u12, m8_, m12_, ha, Q_HB, Q_F8, Q_F12, Q_X8_, Q_X12_⟩ hb_ hon hoff
      refine ⟨_, rfl, fun K hK => ?_⟩
      have e35 : a.tmps[35]? = some (.agg #[.int .i64 xt, .int .i64 yt, vt]) := by rw [ha]; exact putSel_on (e := (0, 35, .agg #[.int .i64 xt, .int .i64 yt, vt])) 0 rfl rfl (hon 0 (by kernel_rfl)) (by rw [hsz]; rfl)
      have e36 : a.tmps[36]? = some (.int .i64 n3) := by rw [ha]; exact putSel_on (e := (1, 36, .int .i64 n3)) 1 rfl rfl (hon 1 (by kernel_rfl)) (by rw [hsz]; rfl)
      replace ha := Aside0.mk ha
      have HB := Aside0.mk Q_HB
      refine goes_ Tryd.func34 (by kernel_rfl) rfl #[.agg #[.int .i64 xt, .int .i64 yt, vt], .int .i64 n3] (by rfl) rfl rfl (by first | (simp only [List.map_toArray, List.map_cons, List.map_nil, Act.eval, Array.getD_eq_getD_getElem?, Option.getD_some, e35, e36]; done) | (simp only [List.map_toArray, List.map_cons, List.map_nil, Act.eval, Array.getD_eq_getD_getElem?, Option.getD_some, e35, e36]; rfl)) ?_
      refine (free_go kk xt yt vt kt n3 false w' (TV.old (G := fun _ => False) Tt.out HB.out (fun _ h_ => h_.elim)) AH2.out).mono ?_
      rintro e w1 ⟨rfl, hb⟩
      refine ⟨_, rfl, ?_⟩
      refine hK.out _ _ ⟨u8, u12, m8_, m12_, (by rw [ha.out]; exact putSel_upk 2 hb_ rfl rfl rfl), below_step HB.out hb, fun h0_ => absurd ((hoff 8 (by kernel_rfl)).symm.trans h0_) (by decide), fun h0_ => absurd ((hoff 12 (by kernel_rfl)).symm.trans h0_) (by decide), fun h0_ => absurd ((hoff 8 (by kernel_rfl)).symm.trans h0_) (by decide), fun h0_ => absurd ((hoff 12 (by kernel_rfl)).symm.trans h0_) (by decide)⟩
    refine steps_cons ?_ ?_
    · rintro b a w' ⟨u8, u12, m8_, m12_, ha, Q_HB, Q_F8, Q_F12, Q_X8_, Q_X12_⟩ hb_ hon hoff
      refine ⟨_, rfl, fun K hK => ?_⟩
      have e37 : a.tmps[37]? = some (.bool false) := by rw [ha]; exact putSel_on (e := (2, 37, .bool false)) 2 rfl rfl (hon 2 (by kernel_rfl)) (by rw [hsz]; rfl)
      replace ha := Aside0.mk ha
      have HB := Aside0.mk Q_HB
      refine value_ (w1 := w') (v := .bool true) (by rfl) rfl ?_ ?_
      · go_simp
        (try simp only [i64_w])
        try rfl
      refine hK.out _ _ ⟨u8, u12, m8_, m12_, (by rw [ha.out]; exact putSel_upk 3 hb_ rfl rfl rfl), Q_HB, fun h0_ => absurd ((hoff 8 (by kernel_rfl)).symm.trans h0_) (by decide), fun h0_ => absurd ((hoff 12 (by kernel_rfl)).symm.trans h0_) (by decide), fun h0_ => absurd ((hoff 8 (by kernel_rfl)).symm.trans h0_) (by decide), fun h0_ => absurd ((hoff 12 (by kernel_rfl)).symm.trans h0_) (by decide)⟩
    refine steps_cons ?_ ?_
    · rintro b a w' ⟨u8, u12, m8_, m12_, ha, Q_HB, Q_F8, Q_F12, Q_X8_, Q_X12_⟩ hb_ hon hoff
      refine ⟨_, rfl, fun K hK => ?_⟩
      have e38 : a.tmps[38]? = some (.bool true) := by rw [ha]; exact putSel_on (e := (3, 38, .bool true)) 3 rfl rfl (hon 3 (by kernel_rfl)) (by rw [hsz]; rfl)
      replace ha := Aside0.mk ha
      have HB := Aside0.mk Q_HB
      refine value_ (w1 := w') (v := .bool true) (by rfl) rfl ?_ ?_
      · go_simp
        (try simp only [i64_w])
        try rfl
      refine hK.out _ _ ⟨u8, u12, m8_, m12_, (by rw [ha.out]; exact putSel_upk 4 hb_ rfl rfl rfl), Q_HB, fun h0_ => absurd ((hoff 8 (by kernel_rfl)).symm.trans h0_) (by decide), fun h0_ => absurd ((hoff 12 (by kernel_rfl)).symm.trans h0_) (by decide), fun h0_ => absurd ((hoff 8 (by kernel_rfl)).symm.trans h0_) (by decide), fun h0_ => absurd ((hoff 12 (by kernel_rfl)).symm.trans h0_) (by decide)⟩
    refine steps_cons ?_ ?_
    · rintro b a w' ⟨u8, u12, m8_, m12_, ha, Q_HB, Q_F8, Q_F12, Q_X8_, Q_X12_⟩ hb_ hon hoff
      refine ⟨_, rfl, fun K hK => ?_⟩
      have e9 : a.tmps[9]? = some (.pointer (some ⟨bt, 0, none⟩)) := by rw [ha]; exact (putSel_off rfl).trans ht
      have e39 : a.tmps[39]? = some (.bool true) := by rw [ha]; exact putSel_on (e := (4, 39, .bool true)) 4 rfl rfl (hon 4 (by kernel_rfl)) (by rw [hsz]; rfl)
      replace ha := Aside0.mk ha
      have HB := Aside0.mk Q_HB
      have hc0_ : w'.cell? ⟨bt, 0, none⟩ = some (.int .i64 xt) := (blk_cell (blk_below BKt.out HB.out) 0).trans rfl
      have hc1_ : w'.cell? ⟨bt, 1, none⟩ = some (.int .i64 yt) := (blk_cell (blk_below BKt.out HB.out) 1).trans rfl
      have hc2_ : w'.cell? ⟨bt, 2, none⟩ = some (vt) := (blk_cell (blk_below BKt.out HB.out) 2).trans rfl
      refine value_ (w1 := w') (v := .agg #[.int .i64 xt, .int .i64 yt, vt]) (wanted_on rfl rfl rfl (e39.trans (by first | rfl | (simp [*]; done)))) rfl ?_ ?_
      · go_simp
        (try simp only [i64_w])
        try rfl
      refine hK.out _ _ ⟨u8, u12, m8_, m12_, (by rw [ha.out]; exact putSel_upk 5 hb_ rfl rfl rfl), Q_HB, fun h0_ => absurd ((hoff 8 (by kernel_rfl)).symm.trans h0_) (by decide), fun h0_ => absurd ((hoff 12 (by kernel_rfl)).symm.trans h0_) (by decide), fun h0_ => absurd ((hoff 8 (by kernel_rfl)).symm.trans h0_) (by decide), fun h0_ => absurd ((hoff 12 (by kernel_rfl)).symm.trans h0_) (by decide)⟩
    refine steps_cons ?_ ?_
    · rintro b a w' ⟨u8, u12, m8_, m12_, ha, Q_HB, Q_F8, Q_F12, Q_X8_, Q_X12_⟩ hb_ hon hoff
      refine ⟨_, rfl, fun K hK => ?_⟩
      have e3 : a.tmps[3]? = some (.int .i64 n3) := by rw [ha]; exact (putSel_off rfl).trans hn3
      have e39 : a.tmps[39]? = some (.bool true) := by rw [ha]; exact putSel_on (e := (4, 39, .bool true)) 4 rfl rfl (hon 4 (by kernel_rfl)) (by rw [hsz]; rfl)
      replace ha := Aside0.mk ha
      have HB := Aside0.mk Q_HB
      refine value_ (w1 := w') (v := .int .i64 n3) (wanted_on rfl rfl rfl (e39.trans (by first | rfl | (simp [*]; done)))) rfl ?_ ?_
      · go_simp
        (try simp only [i64_w])
        try rfl
      refine hK.out _ _ ⟨u8, u12, m8_, m12_, (by rw [ha.out]; exact putSel_upk 6 hb_ rfl rfl rfl), Q_HB, fun h0_ => absurd ((hoff 8 (by kernel_rfl)).symm.trans h0_) (by decide), fun h0_ => absurd ((hoff 12 (by kernel_rfl)).symm.trans h0_) (by decide), fun h0_ => absurd ((hoff 8 (by kernel_rfl)).symm.trans h0_) (by decide), fun h0_ => absurd ((hoff 12 (by kernel_rfl)).symm.trans h0_) (by decide)⟩
    refine steps_cons ?_ ?_
    · rintro b a w' ⟨u8, u12, m8_, m12_, ha, Q_HB, Q_F8, Q_F12, Q_X8_, Q_X12_⟩ hb_ hon hoff
      refine ⟨_, rfl, fun K hK => ?_⟩
      have e10 : a.tmps[10]? = some (.pointer (some ⟨bs, 0, none⟩)) := by rw [ha]; exact (putSel_off rfl).trans hs
      have e39 : a.tmps[39]? = some (.bool true) := by rw [ha]; exact putSel_on (e := (4, 39, .bool true)) 4 rfl rfl (hon 4 (by kernel_rfl)) (by rw [hsz]; rfl)
      replace ha := Aside0.mk ha
      have HB := Aside0.mk Q_HB
      have hc0_ : w'.cell? ⟨bs, 0, none⟩ = some (.int .i64 xs) := (blk_cell (blk_below BKs.out HB.out) 0).trans rfl
      have hc1_ : w'.cell? ⟨bs, 1, none⟩ = some (.int .i64 ys) := (blk_cell (blk_below BKs.out HB.out) 1).trans rfl
      have hc2_ : w'.cell? ⟨bs, 2, none⟩ = some (vs) := (blk_cell (blk_below BKs.out HB.out) 2).trans rfl
      refine value_ (w1 := w') (v := .agg #[.int .i64 xs, .int .i64 ys, vs]) (wanted_on rfl rfl rfl (e39.trans (by first | rfl | (simp [*]; done)))) rfl ?_ ?_
      · go_simp
        (try simp only [i64_w])
        try rfl
      refine hK.out _ _ ⟨u8, u12, m8_, m12_, (by rw [ha.out]; exact putSel_upk 7 hb_ rfl rfl rfl), Q_HB, fun h0_ => absurd ((hoff 8 (by kernel_rfl)).symm.trans h0_) (by decide), fun h0_ => absurd ((hoff 12 (by kernel_rfl)).symm.trans h0_) (by decide), fun h0_ => absurd ((hoff 8 (by kernel_rfl)).symm.trans h0_) (by decide), fun h0_ => absurd ((hoff 12 (by kernel_rfl)).symm.trans h0_) (by decide)⟩
    refine steps_cons ?_ ?_
    · rintro b a w' ⟨u8, u12, m8_, m12_, ha, Q_HB, Q_F8, Q_F12, Q_X8_, Q_X12_⟩ hb_ hon hoff
      refine ⟨_, rfl, fun K hK => ?_⟩
      have e40 : a.tmps[40]? = some (.agg #[.int .i64 xt, .int .i64 yt, vt]) := by rw [ha]; exact putSel_on (e := (5, 40, .agg #[.int .i64 xt, .int .i64 yt, vt])) 5 rfl rfl (hon 5 (by kernel_rfl)) (by rw [hsz]; rfl)
      have e41 : a.tmps[41]? = some (.int .i64 n3) := by rw [ha]; exact putSel_on (e := (6, 41, .int .i64 n3)) 6 rfl rfl (hon 6 (by kernel_rfl)) (by rw [hsz]; rfl)
      have e42 : a.tmps[42]? = some (.agg #[.int .i64 xs, .int .i64 ys, vs]) := by rw [ha]; exact putSel_on (e := (7, 42, .agg #[.int .i64 xs, .int .i64 ys, vs])) 7 rfl rfl (hon 7 (by kernel_rfl)) (by rw [hsz]; rfl)
      have e39 : a.tmps[39]? = some (.bool true) := by rw [ha]; exact putSel_on (e := (4, 39, .bool true)) 4 rfl rfl (hon 4 (by kernel_rfl)) (by rw [hsz]; rfl)
      replace ha := Aside0.mk ha
      have HB := Aside0.mk Q_HB
      refine goes_ Tryd.func22 (by kernel_rfl) rfl #[.agg #[.int .i64 xt, .int .i64 yt, vt], .int .i64 n3, .agg #[.int .i64 xs, .int .i64 ys, vs]] (wanted_on rfl rfl rfl (e39.trans (by first | rfl | (simp [*]; done)))) rfl rfl (by first | (simp only [List.map_toArray, List.map_cons, List.map_nil, Act.eval, Array.getD_eq_getD_getElem?, Option.getD_some, e40, e41, e42, e39]; done) | (simp only [List.map_toArray, List.map_cons, List.map_nil, Act.eval, Array.getD_eq_getD_getElem?, Option.getD_some, e40, e41, e42, e39]; rfl)) ?_
      refine (subst_go kk xt yt vt kt n3 xs ys vs ks r8_0 r8_1 k8_ w' (fun k_ => False) (fun k_ h_ => h_.elim) (TV.old Tt.out HB.out (fun k_ h_ => h_.elim)) (TV.old Ts.out HB.out (fun k_ h_ => h_.elim)) AH8.out).mono ?_
      rintro e w1 ⟨v_, rfl, hv, hb⟩
      refine ⟨_, rfl, ?_⟩
      refine hK.out _ _ ⟨v_, u12, (.agg #[.int .i64 r8_0, .int .i64 r8_1, v_]), m12_, (by rw [ha.out]; exact putSel_upk 8 hb_ rfl rfl rfl), below_step HB.out hb, fun _ => hv, fun h0_ => absurd ((hoff 12 (by kernel_rfl)).symm.trans h0_) (by decide), fun _ => rfl, fun h0_ => absurd ((hoff 12 (by kernel_rfl)).symm.trans h0_) (by decide)⟩
    refine steps_cons ?_ ?_
    · rintro b a w' ⟨u8, u12, m8_, m12_, ha, Q_HB, Q_F8, Q_F12, Q_X8_, Q_X12_⟩ hb_ hon hoff
      refine ⟨_, rfl, fun K hK => ?_⟩
      have e9 : a.tmps[9]? = some (.pointer (some ⟨bt, 0, none⟩)) := by rw [ha]; exact (putSel_off rfl).trans ht
      have e39 : a.tmps[39]? = some (.bool true) := by rw [ha]; exact putSel_on (e := (4, 39, .bool true)) 4 rfl rfl (hon 4 (by kernel_rfl)) (by rw [hsz]; rfl)
      replace ha := Aside0.mk ha
      have HB := Aside0.mk Q_HB
      have hc0_ : w'.cell? ⟨bt, 0, none⟩ = some (.int .i64 xt) := (blk_cell (blk_below BKt.out HB.out) 0).trans rfl
      have hc1_ : w'.cell? ⟨bt, 1, none⟩ = some (.int .i64 yt) := (blk_cell (blk_below BKt.out HB.out) 1).trans rfl
      have hc2_ : w'.cell? ⟨bt, 2, none⟩ = some (vt) := (blk_cell (blk_below BKt.out HB.out) 2).trans rfl
      refine value_ (w1 := w') (v := .agg #[.int .i64 xt, .int .i64 yt, vt]) (wanted_on rfl rfl rfl (e39.trans (by first | rfl | (simp [*]; done)))) rfl ?_ ?_
      · go_simp
        (try simp only [i64_w])
        try rfl
      refine hK.out _ _ ⟨u8, u12, m8_, m12_, (by rw [ha.out]; exact putSel_upk 9 hb_ rfl rfl rfl), Q_HB, Q_F8, fun h0_ => absurd ((hoff 12 (by kernel_rfl)).symm.trans h0_) (by decide), Q_X8_, fun h0_ => absurd ((hoff 12 (by kernel_rfl)).symm.trans h0_) (by decide)⟩
    refine steps_cons ?_ ?_
    · rintro b a w' ⟨u8, u12, m8_, m12_, ha, Q_HB, Q_F8, Q_F12, Q_X8_, Q_X12_⟩ hb_ hon hoff
      refine ⟨_, rfl, fun K hK => ?_⟩
      have e3 : a.tmps[3]? = some (.int .i64 n3) := by rw [ha]; exact (putSel_off rfl).trans hn3
      have e39 : a.tmps[39]? = some (.bool true) := by rw [ha]; exact putSel_on (e := (4, 39, .bool true)) 4 rfl rfl (hon 4 (by kernel_rfl)) (by rw [hsz]; rfl)
      replace ha := Aside0.mk ha
      have HB := Aside0.mk Q_HB
      refine value_ (w1 := w') (v := .int .i64 n3) (wanted_on rfl rfl rfl (e39.trans (by first | rfl | (simp [*]; done)))) rfl ?_ ?_
      · go_simp
        (try simp only [i64_w])
        try rfl
      refine hK.out _ _ ⟨u8, u12, m8_, m12_, (by rw [ha.out]; exact putSel_upk 10 hb_ rfl rfl rfl), Q_HB, Q_F8, fun h0_ => absurd ((hoff 12 (by kernel_rfl)).symm.trans h0_) (by decide), Q_X8_, fun h0_ => absurd ((hoff 12 (by kernel_rfl)).symm.trans h0_) (by decide)⟩
    refine steps_cons ?_ ?_
    · rintro b a w' ⟨u8, u12, m8_, m12_, ha, Q_HB, Q_F8, Q_F12, Q_X8_, Q_X12_⟩ hb_ hon hoff
      refine ⟨_, rfl, fun K hK => ?_⟩
      have e11 : a.tmps[11]? = some (.pointer (some ⟨bz, 0, none⟩)) := by rw [ha]; exact (putSel_off rfl).trans hz
      have e39 : a.tmps[39]? = some (.bool true) := by rw [ha]; exact putSel_on (e := (4, 39, .bool true)) 4 rfl rfl (hon 4 (by kernel_rfl)) (by rw [hsz]; rfl)
      replace ha := Aside0.mk ha
      have HB := Aside0.mk Q_HB
      have hc0_ : w'.cell? ⟨bz, 0, none⟩ = some (.int .i64 xz) := (blk_cell (blk_below BKz.out HB.out) 0).trans rfl
      have hc1_ : w'.cell? ⟨bz, 1, none⟩ = some (.int .i64 yz) := (blk_cell (blk_below BKz.out HB.out) 1).trans rfl
      have hc2_ : w'.cell? ⟨bz, 2, none⟩ = some (vz) := (blk_cell (blk_below BKz.out HB.out) 2).trans rfl
      refine value_ (w1 := w') (v := .agg #[.int .i64 xz, .int .i64 yz, vz]) (wanted_on rfl rfl rfl (e39.trans (by first | rfl | (simp [*]; done)))) rfl ?_ ?_
      · go_simp
        (try simp only [i64_w])
        try rfl
      refine hK.out _ _ ⟨u8, u12, m8_, m12_, (by rw [ha.out]; exact putSel_upk 11 hb_ rfl rfl rfl), Q_HB, Q_F8, fun h0_ => absurd ((hoff 12 (by kernel_rfl)).symm.trans h0_) (by decide), Q_X8_, fun h0_ => absurd ((hoff 12 (by kernel_rfl)).symm.trans h0_) (by decide)⟩
    refine steps_cons ?_ ?_
    · rintro b a w' ⟨u8, u12, m8_, m12_, ha, Q_HB, Q_F8, Q_F12, Q_X8_, Q_X12_⟩ hb_ hon hoff
      refine ⟨_, rfl, fun K hK => ?_⟩
      have e44 : a.tmps[44]? = some (.agg #[.int .i64 xt, .int .i64 yt, vt]) := by rw [ha]; exact putSel_on (e := (9, 44, .agg #[.int .i64 xt, .int .i64 yt, vt])) 9 rfl rfl (hon 9 (by kernel_rfl)) (by rw [hsz]; rfl)
      have e45 : a.tmps[45]? = some (.int .i64 n3) := by rw [ha]; exact putSel_on (e := (10, 45, .int .i64 n3)) 10 rfl rfl (hon 10 (by kernel_rfl)) (by rw [hsz]; rfl)
      have e46 : a.tmps[46]? = some (.agg #[.int .i64 xz, .int .i64 yz, vz]) := by rw [ha]; exact putSel_on (e := (11, 46, .agg #[.int .i64 xz, .int .i64 yz, vz])) 11 rfl rfl (hon 11 (by kernel_rfl)) (by rw [hsz]; rfl)
      have e39 : a.tmps[39]? = some (.bool true) := by rw [ha]; exact putSel_on (e := (4, 39, .bool true)) 4 rfl rfl (hon 4 (by kernel_rfl)) (by rw [hsz]; rfl)
      replace ha := Aside0.mk ha
      have HB := Aside0.mk Q_HB
      have F8 := Aside0.mk (Q_F8 (hon 8 (by kernel_rfl)))
      refine goes_ Tryd.func22 (by kernel_rfl) rfl #[.agg #[.int .i64 xt, .int .i64 yt, vt], .int .i64 n3, .agg #[.int .i64 xz, .int .i64 yz, vz]] (wanted_on rfl rfl rfl (e39.trans (by first | rfl | (simp [*]; done)))) rfl rfl (by first | (simp only [List.map_toArray, List.map_cons, List.map_nil, Act.eval, Array.getD_eq_getD_getElem?, Option.getD_some, e44, e45, e46, e39]; done) | (simp only [List.map_toArray, List.map_cons, List.map_nil, Act.eval, Array.getD_eq_getD_getElem?, Option.getD_some, e44, e45, e46, e39]; rfl)) ?_
      refine (subst_go kk xt yt vt kt n3 xz yz vz kz r12_0 r12_1 k12_ w' (fun k_ => False) (fun k_ h_ => h_.elim) (TV.old Tt.out HB.out (fun k_ h_ => h_.elim)) (TV.old Tz.out HB.out (fun k_ h_ => h_.elim)) AH12.out).mono ?_
      rintro e w1 ⟨v_, rfl, hv, hb⟩
      refine ⟨_, rfl, ?_⟩
      refine hK.out _ _ ⟨u8, v_, m8_, (.agg #[.int .i64 r12_0, .int .i64 r12_1, v_]), (by rw [ha.out]; exact putSel_upk 12 hb_ rfl rfl rfl), below_step HB.out hb, fun _ => F8.out.step hb, fun _ => hv, Q_X8_, fun _ => rfl⟩
    refine steps_cons ?_ ?_
    · rintro b a w' ⟨u8, u12, m8_, m12_, ha, Q_HB, Q_F8, Q_F12, Q_X8_, Q_X12_⟩ hb_ hon hoff
      refine ⟨_, rfl, fun K hK => ?_⟩
      have e43 : a.tmps[43]? = some (m8_) := by rw [ha]; exact putSel_on (e := (8, 43, m8_)) 8 rfl rfl (hon 8 (by kernel_rfl)) (by rw [hsz]; rfl)
      rw [Q_X8_ (hon 8 (by kernel_rfl))] at e43
      have e47 : a.tmps[47]? = some (m12_) := by rw [ha]; exact putSel_on (e := (12, 47, m12_)) 12 rfl rfl (hon 12 (by kernel_rfl)) (by rw [hsz]; rfl)
      rw [Q_X12_ (hon 12 (by kernel_rfl))] at e47
      have e39 : a.tmps[39]? = some (.bool true) := by rw [ha]; exact putSel_on (e := (4, 39, .bool true)) 4 rfl rfl (hon 4 (by kernel_rfl)) (by rw [hsz]; rfl)
      replace ha := Aside0.mk ha
      have HB := Aside0.mk Q_HB
      have F8 := Aside0.mk (Q_F8 (hon 8 (by kernel_rfl)))
      have F12 := Aside0.mk (Q_F12 (hon 12 (by kernel_rfl)))
      refine goes_ Tryd.func18 (by kernel_rfl) rfl #[.agg #[.int .i64 r8_0, .int .i64 r8_1, u8], .agg #[.int .i64 r12_0, .int .i64 r12_1, u12]] (wanted_on rfl rfl rfl (e39.trans (by first | rfl | (simp [*]; done)))) rfl rfl (by first | (simp only [List.map_toArray, List.map_cons, List.map_nil, Act.eval, Array.getD_eq_getD_getElem?, Option.getD_some, e43, e47, e39]; done) | (simp only [List.map_toArray, List.map_cons, List.map_nil, Act.eval, Array.getD_eq_getD_getElem?, Option.getD_some, e43, e47, e39]; rfl)) ?_
      refine (same_go kk r8_0 r8_1 u8 k8_ r12_0 r12_1 u12 k12_ true w' F8.out F12.out AH13.out).mono ?_
      rintro e w1 ⟨rfl, hb⟩
      refine ⟨_, rfl, ?_⟩
      refine hK.out _ _ ⟨u8, u12, m8_, m12_, (by rw [ha.out]; exact putSel_upk 13 hb_ rfl rfl rfl), below_step HB.out hb, fun _ => F8.out.step hb, fun _ => F12.out.step hb, Q_X8_, Q_X12_⟩
    refine steps_cons ?_ ?_
    · rintro b a w' ⟨u8, u12, m8_, m12_, ha, Q_HB, Q_F8, Q_F12, Q_X8_, Q_X12_⟩ hb_ hon hoff
      refine ⟨_, rfl, fun K hK => ?_⟩
      have e48 : a.tmps[48]? = some (.bool true) := by rw [ha]; exact putSel_on (e := (13, 48, .bool true)) 13 rfl rfl (hon 13 (by kernel_rfl)) (by rw [hsz]; rfl)
      have e39 : a.tmps[39]? = some (.bool true) := by rw [ha]; exact putSel_on (e := (4, 39, .bool true)) 4 rfl rfl (hon 4 (by kernel_rfl)) (by rw [hsz]; rfl)
      replace ha := Aside0.mk ha
      have HB := Aside0.mk Q_HB
      have F8 := Aside0.mk (Q_F8 (hon 8 (by kernel_rfl)))
      have F12 := Aside0.mk (Q_F12 (hon 12 (by kernel_rfl)))
      refine value_ (w1 := w') (v := .bool false) (wanted_on rfl rfl rfl (e39.trans (by first | rfl | (simp [*]; done)))) rfl ?_ ?_
      · go_simp
        (try simp only [i64_w])
        try rfl
      refine hK.out _ _ ⟨u8, u12, m8_, m12_, (by rw [ha.out]; exact putSel_upk 14 hb_ rfl rfl rfl), Q_HB, Q_F8, Q_F12, Q_X8_, Q_X12_⟩
    refine steps_cons ?_ ?_
    · rintro b a w' ⟨u8, u12, m8_, m12_, ha, Q_HB, Q_F8, Q_F12, Q_X8_, Q_X12_⟩ hb_ hon hoff
      refine ⟨_, rfl, fun K hK => ?_⟩
      have e39 : a.tmps[39]? = some (.bool true) := by rw [ha]; exact putSel_on (e := (4, 39, .bool true)) 4 rfl rfl (hon 4 (by kernel_rfl)) (by rw [hsz]; rfl)
      have e49 : a.tmps[49]? = some (.bool false) := by rw [ha]; exact putSel_on (e := (14, 49, .bool false)) 14 rfl rfl (hon 14 (by kernel_rfl)) (by rw [hsz]; rfl)
      replace ha := Aside0.mk ha
      have HB := Aside0.mk Q_HB
      have F8 := Aside0.mk (Q_F8 (hon 8 (by kernel_rfl)))
      have F12 := Aside0.mk (Q_F12 (hon 12 (by kernel_rfl)))
      refine value_ (w1 := w') (v := .bool false) (by rfl) rfl ?_ ?_
      · go_simp
        (try simp only [i64_w])
        try rfl
      refine hK.out _ _ ⟨u8, u12, m8_, m12_, (by rw [ha.out]; exact putSel_upk 15 hb_ rfl rfl rfl), Q_HB, Q_F8, Q_F12, Q_X8_, Q_X12_⟩
    exact steps_nil
  · rintro b a w' hall ⟨u8, u12, m8_, m12_, ha, Q_HB, Q_F8, Q_F12, Q_X8_, Q_X12_⟩
    clear HB
    have hb0_ := hall 0 (by kernel_rfl)
    have hb1_ := hall 1 (by kernel_rfl)
    have hb2_ := hall 2 (by kernel_rfl)
    have hb3_ := hall 3 (by kernel_rfl)
    have hb4_ := hall 4 (by kernel_rfl)
    have hb5_ := hall 5 (by kernel_rfl)
    have hb6_ := hall 6 (by kernel_rfl)
    have hb7_ := hall 7 (by kernel_rfl)
    have hb8_ := hall 8 (by kernel_rfl)
    have hb9_ := hall 9 (by kernel_rfl)
    have hb10_ := hall 10 (by kernel_rfl)
    have hb11_ := hall 11 (by kernel_rfl)
    have hb12_ := hall 12 (by kernel_rfl)
    have hb13_ := hall 13 (by kernel_rfl)
    have hb14_ := hall 14 (by kernel_rfl)
    have hb15_ := hall 15 (by kernel_rfl)
    subst ha
    obtain rfl := Q_X8_ hb8_
    obtain rfl := Q_X12_ hb12_
    simp only [putSel, hb0_, hb1_, hb2_, hb3_, hb4_, hb5_, hb6_, hb7_, hb8_, hb9_, hb10_, hb11_, hb12_, hb13_, hb14_, hb15_, if_true]
    have HB := Aside0.mk Q_HB
    clear Q_HB
    have F8 := Aside0.mk (Q_F8 hb8_)
    clear Q_F8
    have F12 := Aside0.mk (Q_F12 hb12_)
    clear Q_F12
    clear hall hb0_ hb1_ hb2_ hb3_ hb4_ hb5_ hb6_ hb7_ hb8_ hb9_ hb10_ hb11_ hb12_ hb13_ hb14_ hb15_
    exact hQ u8 u12  w' HB.out 
set_option maxHeartbeats 4000000 in
set_option maxRecDepth 100000 in
theorem closed_r9f {Q : Exit → Act → World → Prop} {a : Act} {W : World} (hsz : a.tmps.size = 70) (kk : Nat) (xt yt : Int) (vt : Value) (kt : List S29) (bt : Nat) (ht : a.tmps[9]? = some (.pointer (some ⟨bt, 0, none⟩))) (Bt_ : W.heap[bt]? = some (.cells #[.int .i64 xt, .int .i64 yt, vt] 29 (0, 0))) (Tt_ : TV W (fun _ => False) vt kt)
    (xs ys : Int) (vs : Value) (ks : List S29) (bs : Nat) (hs : a.tmps[10]? = some (.pointer (some ⟨bs, 0, none⟩))) (Bs_ : W.heap[bs]? = some (.cells #[.int .i64 xs, .int .i64 ys, vs] 29 (0, 0))) (Ts_ : TV W (fun _ => False) vs ks)
    (n3 : Int) (hn3 : a.tmps[3]? = some (.int .i64 n3))
    (H2 : term_Below.f kk xt yt kt n3 = some false)
    (hQ : ∀ (w' : World), Below W.heap.size W w' → Q .normal ((((((((((((((((((((a.put (some 51) (.agg #[.int .i64 xt, .int .i64 yt, vt])).put (some 52) (.int .i64 n3)).put (some 53) (.bool false)).put (some 54) (.bool true)).put (some 55) (.bool true)).put (some 56) (undef)).put (some 57) (undef)).put (some 58) (undef)).put (some 59) (undef)).put (some 60) (undef)).put (some 61) (undef)).put (some 62) (undef)).put (some 63) (undef)).put (some 64) (undef)).put (some 65) (undef)).put (some 66) (undef)).put (some 67) (undef)).put (some 68) (undef)).put (some 69) (.bool true)).put (some 8) (.bool true)) w') :
    (Code.region 9 (opsOf Tryd.f12 9) true).wp Tryd.prog Q a W := by
  have HT_ := Aside0.mk thyrsuslaw4_TermClosed.tab9
  have HW_ := Aside0.mk thyrsuslaw4_TermClosed.bits9
  have BKt := Aside0.mk Bt_
  have Tt := Aside0.mk Tt_
  clear Bt_ Tt_
  have BKs := Aside0.mk Bs_
  have Ts := Aside0.mk Ts_
  clear Bs_ Ts_
  have AH2 := Aside0.mk H2
  clear H2
  have HB := Aside0.mk (below_drew1 (Below.refl W.heap.size W))
  conv in (opsOf Tryd.f12 9) => whnf
  refine start_ (n := 20) (S := fun w' => True) (ds := []) #[false, false, false, false, false, false, false, false, false, false, false, false, false, false, false, false, false, false, false, false] (by kernel_rfl) rfl rfl trivial (fun hHeld => ?_)
  clear hHeld
  generalize W.drew = W1 at HB ⊢
  refine inv_at [0, 1, 2, 3, 4, 5, 6, 7, 8, 9, 10, 11, 12, 13, 14, 15, 16, 17, 18, 19] (fun a0_ b a w' => a = putSel a0_ b [(0, 51, .agg #[.int .i64 xt, .int .i64 yt, vt]), (1, 52, .int .i64 n3), (2, 53, .bool false), (3, 54, .bool true), (4, 55, .bool true), (5, 56, undef), (6, 57, undef), (7, 58, undef), (8, 59, undef), (9, 60, undef), (10, 61, undef), (11, 62, undef), (12, 63, undef), (13, 64, undef), (14, 65, undef), (15, 66, undef), (16, 67, undef), (17, 68, undef), (18, 69, .bool true), (19, 8, .bool true)] ∧ (Below W.heap.size W w')) HT_.out HW_.out (by kernel_rfl) (by kernel_rfl) ?_ ?_ ?_
  · exact ⟨by simp only [putSel, Bool.false_eq_true, if_false], HB.out⟩
  · skip
    clear HB
    refine steps_cons ?_ ?_
    · rintro b a w' ⟨ha, Q_HB⟩ hb_ hon hoff
      refine ⟨_, rfl, fun K hK => ?_⟩
      have e9 : a.tmps[9]? = some (.pointer (some ⟨bt, 0, none⟩)) := by rw [ha]; exact (putSel_off rfl).trans ht
      replace ha := Aside0.mk ha
      have HB := Aside0.mk Q_HB
      have hc0_ : w'.cell? ⟨bt, 0, none⟩ = some (.int .i64 xt) := (blk_cell (blk_below BKt.out HB.out) 0).trans rfl
      have hc1_ : w'.cell? ⟨bt, 1, none⟩ = some (.int .i64 yt) := (blk_cell (blk_below BKt.out HB.out) 1).trans rfl
      have hc2_ : w'.cell? ⟨bt, 2, none⟩ = some (vt) := (blk_cell (blk_below BKt.out HB.out) 2).trans rfl
      refine value_ (w1 := w') (v := .agg #[.int .i64 xt, .int .i64 yt, vt]) (by rfl) rfl ?_ ?_
      · go_simp
        (try simp only [i64_w])
        try rfl
      refine hK.out _ _ ⟨(by rw [ha.out]; exact putSel_upk 0 hb_ rfl rfl rfl), Q_HB⟩
    refine steps_cons ?_ ?_
    · rintro b a w' ⟨ha, Q_HB⟩ hb_ hon hoff
      refine ⟨_, rfl, fun K hK => ?_⟩
      have e3 : a.tmps[3]? = some (.int .i64 n3) := by rw [ha]; exact (putSel_off rfl).trans hn3
      replace ha := Aside0.mk ha
      have HB := Aside0.mk Q_HB
      refine value_ (w1 := w') (v := .int .i64 n3) (by rfl) rfl ?_ ?_
      · go_simp
        (try simp only [i64_w])
        try rfl
      refine hK.out _ _ ⟨(by rw [ha.out]; exact putSel_upk 1 hb_ rfl rfl rfl), Q_HB⟩
    refine steps_cons ?_ ?_
    · rintro b a w' ⟨ha, Q_HB⟩ hb_ hon hoff
      refine ⟨_, rfl, fun K hK => ?_⟩
      have e51 : a.tmps[51]? = some (.agg #[.int .i64 xt, .int .i64 yt, vt]) := by rw [ha]; exact putSel_on (e := (0, 51, .agg #[.int .i64 xt, .int .i64 yt, vt])) 0 rfl rfl (hon 0 (by kernel_rfl)) (by rw [hsz]; rfl)
      have e52 : a.tmps[52]? = some (.int .i64 n3) := by rw [ha]; exact putSel_on (e := (1, 52, .int .i64 n3)) 1 rfl rfl (hon 1 (by kernel_rfl)) (by rw [hsz]; rfl)
      replace ha := Aside0.mk ha
      have HB := Aside0.mk Q_HB
      refine goes_ Tryd.func36 (by kernel_rfl) rfl #[.agg #[.int .i64 xt, .int .i64 yt, vt], .int .i64 n3] (by rfl) rfl rfl (by first | (simp only [List.map_toArray, List.map_cons, List.map_nil, Act.eval, Array.getD_eq_getD_getElem?, Option.getD_some, e51, e52]; done) | (simp only [List.map_toArray, List.map_cons, List.map_nil, Act.eval, Array.getD_eq_getD_getElem?, Option.getD_some, e51, e52]; rfl)) ?_
      refine (below_go kk xt yt vt kt n3 false w' (TV.old (G := fun _ => False) Tt.out HB.out (fun _ h_ => h_.elim)) AH2.out).mono ?_
      rintro e w1 ⟨rfl, hb⟩
      refine ⟨_, rfl, ?_⟩
      refine hK.out _ _ ⟨(by rw [ha.out]; exact putSel_upk 2 hb_ rfl rfl rfl), below_step HB.out hb⟩
    refine steps_cons ?_ ?_
    · rintro b a w' ⟨ha, Q_HB⟩ hb_ hon hoff
      refine ⟨_, rfl, fun K hK => ?_⟩
      have e53 : a.tmps[53]? = some (.bool false) := by rw [ha]; exact putSel_on (e := (2, 53, .bool false)) 2 rfl rfl (hon 2 (by kernel_rfl)) (by rw [hsz]; rfl)
      replace ha := Aside0.mk ha
      have HB := Aside0.mk Q_HB
      refine value_ (w1 := w') (v := .bool true) (by rfl) rfl ?_ ?_
      · go_simp
        (try simp only [i64_w])
        try rfl
      refine hK.out _ _ ⟨(by rw [ha.out]; exact putSel_upk 3 hb_ rfl rfl rfl), Q_HB⟩
    refine steps_cons ?_ ?_
    · rintro b a w' ⟨ha, Q_HB⟩ hb_ hon hoff
      refine ⟨_, rfl, fun K hK => ?_⟩
      have e54 : a.tmps[54]? = some (.bool true) := by rw [ha]; exact putSel_on (e := (3, 54, .bool true)) 3 rfl rfl (hon 3 (by kernel_rfl)) (by rw [hsz]; rfl)
      replace ha := Aside0.mk ha
      have HB := Aside0.mk Q_HB
      refine value_ (w1 := w') (v := .bool true) (by rfl) rfl ?_ ?_
      · go_simp
        (try simp only [i64_w])
        try rfl
      refine hK.out _ _ ⟨(by rw [ha.out]; exact putSel_upk 4 hb_ rfl rfl rfl), Q_HB⟩
    refine steps_cons ?_ ?_
    · rintro b a w' ⟨ha, Q_HB⟩ hb_ hon hoff
      refine ⟨_, rfl, fun K hK => ?_⟩
      have e55 : a.tmps[55]? = some (.bool true) := by rw [ha]; exact putSel_on (e := (4, 55, .bool true)) 4 rfl rfl (hon 4 (by kernel_rfl)) (by rw [hsz]; rfl)
      replace ha := Aside0.mk ha
      have HB := Aside0.mk Q_HB
      refine off_ (wanted_off rfl rfl rfl (e55.trans (by first | rfl | (simp [*]; done)))) ?_
      refine hK.out _ _ ⟨(by rw [ha.out]; exact putSel_upk 5 hb_ rfl rfl rfl), Q_HB⟩
    refine steps_cons ?_ ?_
    · rintro b a w' ⟨ha, Q_HB⟩ hb_ hon hoff
      refine ⟨_, rfl, fun K hK => ?_⟩
      have e55 : a.tmps[55]? = some (.bool true) := by rw [ha]; exact putSel_on (e := (4, 55, .bool true)) 4 rfl rfl (hon 4 (by kernel_rfl)) (by rw [hsz]; rfl)
      replace ha := Aside0.mk ha
      have HB := Aside0.mk Q_HB
      refine off_ (wanted_off rfl rfl rfl (e55.trans (by first | rfl | (simp [*]; done)))) ?_
      refine hK.out _ _ ⟨(by rw [ha.out]; exact putSel_upk 6 hb_ rfl rfl rfl), Q_HB⟩
    refine steps_cons ?_ ?_
    · rintro b a w' ⟨ha, Q_HB⟩ hb_ hon hoff
      refine ⟨_, rfl, fun K hK => ?_⟩
      have e55 : a.tmps[55]? = some (.bool true) := by rw [ha]; exact putSel_on (e := (4, 55, .bool true)) 4 rfl rfl (hon 4 (by kernel_rfl)) (by rw [hsz]; rfl)
      replace ha := Aside0.mk ha
      have HB := Aside0.mk Q_HB
      refine off_ (wanted_off rfl rfl rfl (e55.trans (by first | rfl | (simp [*]; done)))) ?_
      refine hK.out _ _ ⟨(by rw [ha.out]; exact putSel_upk 7 hb_ rfl rfl rfl), Q_HB⟩
    refine steps_cons ?_ ?_
    · rintro b a w' ⟨ha, Q_HB⟩ hb_ hon hoff
      refine ⟨_, rfl, fun K hK => ?_⟩
      have e55 : a.tmps[55]? = some (.bool true) := by rw [ha]; exact putSel_on (e := (4, 55, .bool true)) 4 rfl rfl (hon 4 (by kernel_rfl)) (by rw [hsz]; rfl)
      replace ha := Aside0.mk ha
      have HB := Aside0.mk Q_HB
      refine off_ (wanted_off rfl rfl rfl (e55.trans (by first | rfl | (simp [*]; done)))) ?_
      refine hK.out _ _ ⟨(by rw [ha.out]; exact putSel_upk 8 hb_ rfl rfl rfl), Q_HB⟩
    refine steps_cons ?_ ?_
    · rintro b a w' ⟨ha, Q_HB⟩ hb_ hon hoff
      refine ⟨_, rfl, fun K hK => ?_⟩
      have e55 : a.tmps[55]? = some (.bool true) := by rw [ha]; exact putSel_on (e := (4, 55, .bool true)) 4 rfl rfl (hon 4 (by kernel_rfl)) (by rw [hsz]; rfl)
      replace ha := Aside0.mk ha
      have HB := Aside0.mk Q_HB
      refine off_ (wanted_off rfl rfl rfl (e55.trans (by first | rfl | (simp [*]; done)))) ?_
      refine hK.out _ _ ⟨(by rw [ha.out]; exact putSel_upk 9 hb_ rfl rfl rfl), Q_HB⟩
    refine steps_cons ?_ ?_
    · rintro b a w' ⟨ha, Q_HB⟩ hb_ hon hoff
      refine ⟨_, rfl, fun K hK => ?_⟩
      have e55 : a.tmps[55]? = some (.bool true) := by rw [ha]; exact putSel_on (e := (4, 55, .bool true)) 4 rfl rfl (hon 4 (by kernel_rfl)) (by rw [hsz]; rfl)
      replace ha := Aside0.mk ha
      have HB := Aside0.mk Q_HB
      refine off_ (wanted_off rfl rfl rfl (e55.trans (by first | rfl | (simp [*]; done)))) ?_
      refine hK.out _ _ ⟨(by rw [ha.out]; exact putSel_upk 10 hb_ rfl rfl rfl), Q_HB⟩
    refine steps_cons ?_ ?_
    · rintro b a w' ⟨ha, Q_HB⟩ hb_ hon hoff
      refine ⟨_, rfl, fun K hK => ?_⟩
      have e55 : a.tmps[55]? = some (.bool true) := by rw [ha]; exact putSel_on (e := (4, 55, .bool true)) 4 rfl rfl (hon 4 (by kernel_rfl)) (by rw [hsz]; rfl)
      replace ha := Aside0.mk ha
      have HB := Aside0.mk Q_HB
      refine off_ (wanted_off rfl rfl rfl (e55.trans (by first | rfl | (simp [*]; done)))) ?_
      refine hK.out _ _ ⟨(by rw [ha.out]; exact putSel_upk 11 hb_ rfl rfl rfl), Q_HB⟩
    refine steps_cons ?_ ?_
    · rintro b a w' ⟨ha, Q_HB⟩ hb_ hon hoff
      refine ⟨_, rfl, fun K hK => ?_⟩
      have e62 : a.tmps[62]? = some (undef) := by rw [ha]; exact putSel_on (e := (11, 62, undef)) 11 rfl rfl (hon 11 (by kernel_rfl)) (by rw [hsz]; rfl)
      replace ha := Aside0.mk ha
      have HB := Aside0.mk Q_HB
      refine off_ (wanted_undef rfl rfl rfl e62) ?_
      refine hK.out _ _ ⟨(by rw [ha.out]; exact putSel_upk 12 hb_ rfl rfl rfl), Q_HB⟩
    refine steps_cons ?_ ?_
    · rintro b a w' ⟨ha, Q_HB⟩ hb_ hon hoff
      refine ⟨_, rfl, fun K hK => ?_⟩
      have e62 : a.tmps[62]? = some (undef) := by rw [ha]; exact putSel_on (e := (11, 62, undef)) 11 rfl rfl (hon 11 (by kernel_rfl)) (by rw [hsz]; rfl)
      replace ha := Aside0.mk ha
      have HB := Aside0.mk Q_HB
      refine off_ (wanted_undef rfl rfl rfl e62) ?_
      refine hK.out _ _ ⟨(by rw [ha.out]; exact putSel_upk 13 hb_ rfl rfl rfl), Q_HB⟩
    refine steps_cons ?_ ?_
    · rintro b a w' ⟨ha, Q_HB⟩ hb_ hon hoff
      refine ⟨_, rfl, fun K hK => ?_⟩
      have e62 : a.tmps[62]? = some (undef) := by rw [ha]; exact putSel_on (e := (11, 62, undef)) 11 rfl rfl (hon 11 (by kernel_rfl)) (by rw [hsz]; rfl)
      replace ha := Aside0.mk ha
      have HB := Aside0.mk Q_HB
      refine off_ (wanted_undef rfl rfl rfl e62) ?_
      refine hK.out _ _ ⟨(by rw [ha.out]; exact putSel_upk 14 hb_ rfl rfl rfl), Q_HB⟩
    refine steps_cons ?_ ?_
    · rintro b a w' ⟨ha, Q_HB⟩ hb_ hon hoff
      refine ⟨_, rfl, fun K hK => ?_⟩
      have e62 : a.tmps[62]? = some (undef) := by rw [ha]; exact putSel_on (e := (11, 62, undef)) 11 rfl rfl (hon 11 (by kernel_rfl)) (by rw [hsz]; rfl)
      replace ha := Aside0.mk ha
      have HB := Aside0.mk Q_HB
      refine off_ (wanted_undef rfl rfl rfl e62) ?_
      refine hK.out _ _ ⟨(by rw [ha.out]; exact putSel_upk 15 hb_ rfl rfl rfl), Q_HB⟩
    refine steps_cons ?_ ?_
    · rintro b a w' ⟨ha, Q_HB⟩ hb_ hon hoff
      refine ⟨_, rfl, fun K hK => ?_⟩
      have e62 : a.tmps[62]? = some (undef) := by rw [ha]; exact putSel_on (e := (11, 62, undef)) 11 rfl rfl (hon 11 (by kernel_rfl)) (by rw [hsz]; rfl)
      replace ha := Aside0.mk ha
      have HB := Aside0.mk Q_HB
      refine off_ (wanted_undef rfl rfl rfl e62) ?_
      refine hK.out _ _ ⟨(by rw [ha.out]; exact putSel_upk 16 hb_ rfl rfl rfl), Q_HB⟩
    refine steps_cons ?_ ?_
    · rintro b a w' ⟨ha, Q_HB⟩ hb_ hon hoff
      refine ⟨_, rfl, fun K hK => ?_⟩
      have e55 : a.tmps[55]? = some (.bool true) := by rw [ha]; exact putSel_on (e := (4, 55, .bool true)) 4 rfl rfl (hon 4 (by kernel_rfl)) (by rw [hsz]; rfl)
      replace ha := Aside0.mk ha
      have HB := Aside0.mk Q_HB
      refine off_ (wanted_off rfl rfl rfl (e55.trans (by first | rfl | (simp [*]; done)))) ?_
      refine hK.out _ _ ⟨(by rw [ha.out]; exact putSel_upk 17 hb_ rfl rfl rfl), Q_HB⟩
    refine steps_cons ?_ ?_
    · rintro b a w' ⟨ha, Q_HB⟩ hb_ hon hoff
      refine ⟨_, rfl, fun K hK => ?_⟩
      have e55 : a.tmps[55]? = some (.bool true) := by rw [ha]; exact putSel_on (e := (4, 55, .bool true)) 4 rfl rfl (hon 4 (by kernel_rfl)) (by rw [hsz]; rfl)
      have e68 : a.tmps[68]? = some (undef) := by rw [ha]; exact putSel_on (e := (17, 68, undef)) 17 rfl rfl (hon 17 (by kernel_rfl)) (by rw [hsz]; rfl)
      replace ha := Aside0.mk ha
      have HB := Aside0.mk Q_HB
      refine value_ (w1 := w') (v := .bool true) (by rfl) rfl ?_ ?_
      · go_simp
        (try simp only [i64_w])
        try rfl
      refine hK.out _ _ ⟨(by rw [ha.out]; exact putSel_upk 18 hb_ rfl rfl rfl), Q_HB⟩
    refine steps_cons ?_ ?_
    · rintro b a w' ⟨ha, Q_HB⟩ hb_ hon hoff
      refine ⟨_, rfl, fun K hK => ?_⟩
      have e69 : a.tmps[69]? = some (.bool true) := by rw [ha]; exact putSel_on (e := (18, 69, .bool true)) 18 rfl rfl (hon 18 (by kernel_rfl)) (by rw [hsz]; rfl)
      replace ha := Aside0.mk ha
      have HB := Aside0.mk Q_HB
      refine value_ (w1 := w') (v := .bool true) (by rfl) rfl ?_ ?_
      · go_simp
        (try simp only [i64_w])
        try rfl
      refine hK.out _ _ ⟨(by rw [ha.out]; exact putSel_upk 19 hb_ rfl rfl rfl), Q_HB⟩
    exact steps_nil
  · rintro b a w' hall ⟨ha, Q_HB⟩
    clear HB
    have hb0_ := hall 0 (by kernel_rfl)
    have hb1_ := hall 1 (by kernel_rfl)
    have hb2_ := hall 2 (by kernel_rfl)
    have hb3_ := hall 3 (by kernel_rfl)
    have hb4_ := hall 4 (by kernel_rfl)
    have hb5_ := hall 5 (by kernel_rfl)
    have hb6_ := hall 6 (by kernel_rfl)
    have hb7_ := hall 7 (by kernel_rfl)
    have hb8_ := hall 8 (by kernel_rfl)
    have hb9_ := hall 9 (by kernel_rfl)
    have hb10_ := hall 10 (by kernel_rfl)
    have hb11_ := hall 11 (by kernel_rfl)
    have hb12_ := hall 12 (by kernel_rfl)
    have hb13_ := hall 13 (by kernel_rfl)
    have hb14_ := hall 14 (by kernel_rfl)
    have hb15_ := hall 15 (by kernel_rfl)
    have hb16_ := hall 16 (by kernel_rfl)
    have hb17_ := hall 17 (by kernel_rfl)
    have hb18_ := hall 18 (by kernel_rfl)
    have hb19_ := hall 19 (by kernel_rfl)
    subst ha
    simp only [putSel, hb0_, hb1_, hb2_, hb3_, hb4_, hb5_, hb6_, hb7_, hb8_, hb9_, hb10_, hb11_, hb12_, hb13_, hb14_, hb15_, hb16_, hb17_, hb18_, hb19_, if_true]
    have HB := Aside0.mk Q_HB
    clear Q_HB
    clear hall hb0_ hb1_ hb2_ hb3_ hb4_ hb5_ hb6_ hb7_ hb8_ hb9_ hb10_ hb11_ hb12_ hb13_ hb14_ hb15_ hb16_ hb17_ hb18_ hb19_
    exact hQ   w' HB.out 
set_option maxHeartbeats 4000000 in
set_option maxRecDepth 100000 in
theorem closed_r9t {Q : Exit → Act → World → Prop} {a : Act} {W : World} (hsz : a.tmps.size = 70) (kk : Nat) (xt yt : Int) (vt : Value) (kt : List S29) (bt : Nat) (ht : a.tmps[9]? = some (.pointer (some ⟨bt, 0, none⟩))) (Bt_ : W.heap[bt]? = some (.cells #[.int .i64 xt, .int .i64 yt, vt] 29 (0, 0))) (Tt_ : TV W (fun _ => False) vt kt)
    (xs ys : Int) (vs : Value) (ks : List S29) (bs : Nat) (hs : a.tmps[10]? = some (.pointer (some ⟨bs, 0, none⟩))) (Bs_ : W.heap[bs]? = some (.cells #[.int .i64 xs, .int .i64 ys, vs] 29 (0, 0))) (Ts_ : TV W (fun _ => False) vs ks)
    (n3 : Int) (hn3 : a.tmps[3]? = some (.int .i64 n3))
    (rb : Bool)
    (r8_0 r8_1 : Int) (k8_ : List S29)
    (r14_0 r14_1 : Int) (k14_ : List S29)
    (H2 : term_Below.f kk xt yt kt n3 = some true)
    (H8 : term_Subst.f kk xt yt kt n3 xs ys ks = some (r8_0, r8_1, k8_))
    (H10 : thyrsusref4_Same.f kk r8_0 r8_1 k8_ xt yt kt = some true)
    (H14 : term_Shift.f kk xt yt kt 5 n3 = some (r14_0, r14_1, k14_))
    (H16 : thyrsusref4_Same.f kk r14_0 r14_1 k14_ xt yt kt = some rb)
    (hQ : ∀ (u8 u14 : Value) (w' : World), Below W.heap.size W w' → Q .normal ((((((((((((((((((((a.put (some 51) (.agg #[.int .i64 xt, .int .i64 yt, vt])).put (some 52) (.int .i64 n3)).put (some 53) (.bool true)).put (some 54) (.bool false)).put (some 55) (.bool false)).put (some 56) (.agg #[.int .i64 xt, .int .i64 yt, vt])).put (some 57) (.int .i64 n3)).put (some 58) (.agg #[.int .i64 xs, .int .i64 ys, vs])).put (some 59) (.agg #[.int .i64 r8_0, .int .i64 r8_1, u8])).put (some 60) (.agg #[.int .i64 xt, .int .i64 yt, vt])).put (some 61) (.bool true)).put (some 62) (.bool true)).put (some 63) (.agg #[.int .i64 xt, .int .i64 yt, vt])).put (some 64) (.int .i64 n3)).put (some 65) (.agg #[.int .i64 r14_0, .int .i64 r14_1, u14])).put (some 66) (.agg #[.int .i64 xt, .int .i64 yt, vt])).put (some 67) (.bool rb)).put (some 68) (.bool rb)).put (some 69) (.bool rb)).put (some 8) (.bool rb)) w') :
    (Code.region 9 (opsOf Tryd.f12 9) true).wp Tryd.prog Q a W := by
  have HT_ := Aside0.mk thyrsuslaw4_TermClosed.tab9
  have HW_ := Aside0.mk thyrsuslaw4_TermClosed.bits9
  have BKt := Aside0.mk Bt_
  have Tt := Aside0.mk Tt_
  clear Bt_ Tt_
  have BKs := Aside0.mk Bs_
  have Ts := Aside0.mk Ts_
  clear Bs_ Ts_
  have AH2 := Aside0.mk H2
  clear H2
  have AH10 := Aside0.mk H10
  clear H10
  have AH16 := Aside0.mk H16
  clear H16
  have AH8 := Aside0.mk H8
  clear H8
  have AH14 := Aside0.mk H14
  clear H14
  have HB := Aside0.mk (below_drew1 (Below.refl W.heap.size W))
  conv in (opsOf Tryd.f12 9) => whnf
  refine start_ (n := 20) (S := fun w' => True) (ds := []) #[false, false, false, false, false, false, false, false, false, false, false, false, false, false, false, false, false, false, false, false] (by kernel_rfl) rfl rfl trivial (fun hHeld => ?_)
  clear hHeld
  generalize W.drew = W1 at HB ⊢
  refine inv_at [0, 1, 2, 3, 4, 5, 6, 7, 8, 9, 10, 11, 12, 13, 14, 15, 16, 17, 18, 19] (fun a0_ b a w' => ∃ (u8 : Value) (u14 : Value) (m8_ : Value) (m14_ : Value), a = putSel a0_ b [(0, 51, .agg #[.int .i64 xt, .int .i64 yt, vt]), (1, 52, .int .i64 n3), (2, 53, .bool true), (3, 54, .bool false), (4, 55, .bool false), (5, 56, .agg #[.int .i64 xt, .int .i64 yt, vt]), (6, 57, .int .i64 n3), (7, 58, .agg #[.int .i64 xs, .int .i64 ys, vs]), (8, 59, m8_), (9, 60, .agg #[.int .i64 xt, .int .i64 yt, vt]), (10, 61, .bool true), (11, 62, .bool true), (12, 63, .agg #[.int .i64 xt, .int .i64 yt, vt]), (13, 64, .int .i64 n3), (14, 65, m14_), (15, 66, .agg #[.int .i64 xt, .int .i64 yt, vt]), (16, 67, .bool rb), (17, 68, .bool rb), (18, 69, .bool rb), (19, 8, .bool rb)] ∧ (Below W.heap.size W w') ∧ (b 8 = true → TV w' (fun k_ => False) u8 k8_) ∧ (b 14 = true → TV w' (fun k_ => False) u14 k14_) ∧ (b 8 = true → (m8_ : Value) = .agg #[.int .i64 r8_0, .int .i64 r8_1, u8]) ∧ (b 14 = true → (m14_ : Value) = .agg #[.int .i64 r14_0, .int .i64 r14_1, u14])) HT_.out HW_.out (by kernel_rfl) (by kernel_rfl) ?_ ?_ ?_
  · exact ⟨.bool false, .bool false, .bool false, .bool false, by simp only [putSel, Bool.false_eq_true, if_false], HB.out, fun h_ => absurd h_ (by decide), fun h_ => absurd h_ (by decide), fun h_ => absurd h_ (by decide), fun h_ => absurd h_ (by decide)⟩
  · skip
    clear HB
    refine steps_cons ?_ ?_
    · rintro b a w' ⟨u8, u14, m8_, m14_, ha, Q_HB, Q_F8, Q_F14, Q_X8_, Q_X14_⟩ hb_ hon hoff
      refine ⟨_, rfl, fun K hK => ?_⟩
      have e9 : a.tmps[9]? = some (.pointer (some ⟨bt, 0, none⟩)) := by rw [ha]; exact (putSel_off rfl).trans ht
      replace ha := Aside0.mk ha
      have HB := Aside0.mk Q_HB
      have hc0_ : w'.cell? ⟨bt, 0, none⟩ = some (.int .i64 xt) := (blk_cell (blk_below BKt.out HB.out) 0).trans rfl
      have hc1_ : w'.cell? ⟨bt, 1, none⟩ = some (.int .i64 yt) := (blk_cell (blk_below BKt.out HB.out) 1).trans rfl
      have hc2_ : w'.cell? ⟨bt, 2, none⟩ = some (vt) := (blk_cell (blk_below BKt.out HB.out) 2).trans rfl
      refine value_ (w1 := w') (v := .agg #[.int .i64 xt, .int .i64 yt, vt]) (by rfl) rfl ?_ ?_
      · go_simp
        (try simp only [i64_w])
        try rfl
      refine hK.out _ _ ⟨u8, u14, m8_, m14_, (by rw [ha.out]; exact putSel_upk 0 hb_ rfl rfl rfl), Q_HB, fun h0_ => absurd ((hoff 8 (by kernel_rfl)).symm.trans h0_) (by decide), fun h0_ => absurd ((hoff 14 (by kernel_rfl)).symm.trans h0_) (by decide), fun h0_ => absurd ((hoff 8 (by kernel_rfl)).symm.trans h0_) (by decide), fun h0_ => absurd ((hoff 14 (by kernel_rfl)).symm.trans h0_) (by decide)⟩
    refine steps_cons ?_ ?_
    · rintro b a w' ⟨u8, u14, m8_, m14_, ha, Q_HB, Q_F8, Q_F14, Q_X8_, Q_X14_⟩ hb_ hon hoff
      refine ⟨_, rfl, fun K hK => ?_⟩
      have e3 : a.tmps[3]? = some (.int .i64 n3) := by rw [ha]; exact (putSel_off rfl).trans hn3
      replace ha := Aside0.mk ha
      have HB := Aside0.mk Q_HB
      refine value_ (w1 := w') (v := .int .i64 n3) (by rfl) rfl ?_ ?_
      · go_simp
        (try simp only [i64_w])
        try rfl
      refine hK.out _ _ ⟨u8, u14, m8_, m14_, (by rw [ha.out]; exact putSel_upk 1 hb_ rfl rfl rfl), Q_HB, fun h0_ => absurd ((hoff 8 (by kernel_rfl)).symm.trans h0_) (by decide), fun h0_ => absurd ((hoff 14 (by kernel_rfl)).symm.trans h0_) (by decide), fun h0_ => absurd ((hoff 8 (by kernel_rfl)).symm.trans h0_) (by decide), fun h0_ => absurd ((hoff 14 (by kernel_rfl)).symm.trans h0_) (by decide)⟩
    refine steps_cons ?_ ?_
    · rintro b a w' ⟨u8, u14, m8_, m14_, ha, Q_HB, Q_F8, Q_F14, Q_X8_, Q_X14_⟩ hb_ hon hoff
      refine ⟨_, rfl, fun K hK => ?_⟩
      have e51 : a.tmps[51]? = some (.agg #[.int .i64 xt, .int .i64 yt, vt]) := by rw [ha]; exact putSel_on (e := (0, 51, .agg #[.int .i64 xt, .int .i64 yt, vt])) 0 rfl rfl (hon 0 (by kernel_rfl)) (by rw [hsz]; rfl)
      have e52 : a.tmps[52]? = some (.int .i64 n3) := by rw [ha]; exact putSel_on (e := (1, 52, .int .i64 n3)) 1 rfl rfl (hon 1 (by kernel_rfl)) (by rw [hsz]; rfl)
      replace ha := Aside0.mk ha
      have HB := Aside0.mk Q_HB
      refine goes_ Tryd.func36 (by kernel_rfl) rfl #[.agg #[.int .i64 xt, .int .i64 yt, vt], .int .i64 n3] (by rfl) rfl rfl (by first | (simp only [List.map_toArray, List.map_cons, List.map_nil, Act.eval, Array.getD_eq_getD_getElem?, Option.getD_some, e51, e52]; done) | (simp only [List.map_toArray, List.map_cons, List.map_nil, Act.eval, Array.getD_eq_getD_getElem?, Option.getD_some, e51, e52]; rfl)) ?_
      refine (below_go kk xt yt vt kt n3 true w' (TV.old (G := fun _ => False) Tt.out HB.out (fun _ h_ => h_.elim)) AH2.out).mono ?_
      rintro e w1 ⟨rfl, hb⟩
      refine ⟨_, rfl, ?_⟩
      refine hK.out _ _ ⟨u8, u14, m8_, m14_, (by rw [ha.out]; exact putSel_upk 2 hb_ rfl rfl rfl), below_step HB.out hb, fun h0_ => absurd ((hoff 8 (by kernel_rfl)).symm.trans h0_) (by decide), fun h0_ => absurd ((hoff 14 (by kernel_rfl)).symm.trans h0_) (by decide), fun h0_ => absurd ((hoff 8 (by kernel_rfl)).symm.trans h0_) (by decide), fun h0_ => absurd ((hoff 14 (by kernel_rfl)).symm.trans h0_) (by decide)⟩
    refine steps_cons ?_ ?_
    · rintro b a w' ⟨u8, u14, m8_, m14_, ha, Q_HB, Q_F8, Q_F14, Q_X8_, Q_X14_⟩ hb_ hon hoff
      refine ⟨_, rfl, fun K hK => ?_⟩
      have e53 : a.tmps[53]? = some (.bool true) := by rw [ha]; exact putSel_on (e := (2, 53, .bool true)) 2 rfl rfl (hon 2 (by kernel_rfl)) (by rw [hsz]; rfl)
      replace ha := Aside0.mk ha
      have HB := Aside0.mk Q_HB
      refine value_ (w1 := w') (v := .bool false) (by rfl) rfl ?_ ?_
      · go_simp
        (try simp only [i64_w])
        try rfl
      refine hK.out _ _ ⟨u8, u14, m8_, m14_, (by rw [ha.out]; exact putSel_upk 3 hb_ rfl rfl rfl), Q_HB, fun h0_ => absurd ((hoff 8 (by kernel_rfl)).symm.trans h0_) (by decide), fun h0_ => absurd ((hoff 14 (by kernel_rfl)).symm.trans h0_) (by decide), fun h0_ => absurd ((hoff 8 (by kernel_rfl)).symm.trans h0_) (by decide), fun h0_ => absurd ((hoff 14 (by kernel_rfl)).symm.trans h0_) (by decide)⟩
    refine steps_cons ?_ ?_
    · rintro b a w' ⟨u8, u14, m8_, m14_, ha, Q_HB, Q_F8, Q_F14, Q_X8_, Q_X14_⟩ hb_ hon hoff
      refine ⟨_, rfl, fun K hK => ?_⟩
      have e54 : a.tmps[54]? = some (.bool false) := by rw [ha]; exact putSel_on (e := (3, 54, .bool false)) 3 rfl rfl (hon 3 (by kernel_rfl)) (by rw [hsz]; rfl)
      replace ha := Aside0.mk ha
      have HB := Aside0.mk Q_HB
      refine value_ (w1 := w') (v := .bool false) (by rfl) rfl ?_ ?_
      · go_simp
        (try simp only [i64_w])
        try rfl
      refine hK.out _ _ ⟨u8, u14, m8_, m14_, (by rw [ha.out]; exact putSel_upk 4 hb_ rfl rfl rfl), Q_HB, fun h0_ => absurd ((hoff 8 (by kernel_rfl)).symm.trans h0_) (by decide), fun h0_ => absurd ((hoff 14 (by kernel_rfl)).symm.trans h0_) (by decide), fun h0_ => absurd ((hoff 8 (by kernel_rfl)).symm.trans h0_) (by decide), fun h0_ => absurd ((hoff 14 (by kernel_rfl)).symm.trans h0_) (by decide)⟩
    refine steps_cons ?_ ?_
    · rintro b a w' ⟨u8, u14, m8_, m14_, ha, Q_HB, Q_F8, Q_F14, Q_X8_, Q_X14_⟩ hb_ hon hoff
      refine ⟨_, rfl, fun K hK => ?_⟩
      have e9 : a.tmps[9]? = some (.pointer (some ⟨bt, 0, none⟩)) := by rw [ha]; exact (putSel_off rfl).trans ht
      have e55 : a.tmps[55]? = some (.bool false) := by rw [ha]; exact putSel_on (e := (4, 55, .bool false)) 4 rfl rfl (hon 4 (by kernel_rfl)) (by rw [hsz]; rfl)
      replace ha := Aside0.mk ha
      have HB := Aside0.mk Q_HB
      have hc0_ : w'.cell? ⟨bt, 0, none⟩ = some (.int .i64 xt) := (blk_cell (blk_below BKt.out HB.out) 0).trans rfl
      have hc1_ : w'.cell? ⟨bt, 1, none⟩ = some (.int .i64 yt) := (blk_cell (blk_below BKt.out HB.out) 1).trans rfl
      have hc2_ : w'.cell? ⟨bt, 2, none⟩ = some (vt) := (blk_cell (blk_below BKt.out HB.out) 2).trans rfl
      refine value_ (w1 := w') (v := .agg #[.int .i64 xt, .int .i64 yt, vt]) (wanted_on rfl rfl rfl (e55.trans (by first | rfl | (simp [*]; done)))) rfl ?_ ?_
      · go_simp
        (try simp only [i64_w])
        try rfl
      refine hK.out _ _ ⟨u8, u14, m8_, m14_, (by rw [ha.out]; exact putSel_upk 5 hb_ rfl rfl rfl), Q_HB, fun h0_ => absurd ((hoff 8 (by kernel_rfl)).symm.trans h0_) (by decide), fun h0_ => absurd ((hoff 14 (by kernel_rfl)).symm.trans h0_) (by decide), fun h0_ => absurd ((hoff 8 (by kernel_rfl)).symm.trans h0_) (by decide), fun h0_ => absurd ((hoff 14 (by kernel_rfl)).symm.trans h0_) (by decide)⟩
    refine steps_cons ?_ ?_
    · rintro b a w' ⟨u8, u14, m8_, m14_, ha, Q_HB, Q_F8, Q_F14, Q_X8_, Q_X14_⟩ hb_ hon hoff
      refine ⟨_, rfl, fun K hK => ?_⟩
      have e3 : a.tmps[3]? = some (.int .i64 n3) := by rw [ha]; exact (putSel_off rfl).trans hn3
      have e55 : a.tmps[55]? = some (.bool false) := by rw [ha]; exact putSel_on (e := (4, 55, .bool false)) 4 rfl rfl (hon 4 (by kernel_rfl)) (by rw [hsz]; rfl)
      replace ha := Aside0.mk ha
      have HB := Aside0.mk Q_HB
      refine value_ (w1 := w') (v := .int .i64 n3) (wanted_on rfl rfl rfl (e55.trans (by first | rfl | (simp [*]; done)))) rfl ?_ ?_
      · go_simp
        (try simp only [i64_w])
        try rfl
      refine hK.out _ _ ⟨u8, u14, m8_, m14_, (by rw [ha.out]; exact putSel_upk 6 hb_ rfl rfl rfl), Q_HB, fun h0_ => absurd ((hoff 8 (by kernel_rfl)).symm.trans h0_) (by decide), fun h0_ => absurd ((hoff 14 (by kernel_rfl)).symm.trans h0_) (by decide), fun h0_ => absurd ((hoff 8 (by kernel_rfl)).symm.trans h0_) (by decide), fun h0_ => absurd ((hoff 14 (by kernel_rfl)).symm.trans h0_) (by decide)⟩
    refine steps_cons ?_ ?_
    · rintro b a w' ⟨u8, u14, m8_, m14_, ha, Q_HB, Q_F8, Q_F14, Q_X8_, Q_X14_⟩ hb_ hon hoff
      refine ⟨_, rfl, fun K hK => ?_⟩
      have e10 : a.tmps[10]? = some (.pointer (some ⟨bs, 0, none⟩)) := by rw [ha]; exact (putSel_off rfl).trans hs
      have e55 : a.tmps[55]? = some (.bool false) := by rw [ha]; exact putSel_on (e := (4, 55, .bool false)) 4 rfl rfl (hon 4 (by kernel_rfl)) (by rw [hsz]; rfl)
      replace ha := Aside0.mk ha
      have HB := Aside0.mk Q_HB
      have hc0_ : w'.cell? ⟨bs, 0, none⟩ = some (.int .i64 xs) := (blk_cell (blk_below BKs.out HB.out) 0).trans rfl
      have hc1_ : w'.cell? ⟨bs, 1, none⟩ = some (.int .i64 ys) := (blk_cell (blk_below BKs.out HB.out) 1).trans rfl
      have hc2_ : w'.cell? ⟨bs, 2, none⟩ = some (vs) := (blk_cell (blk_below BKs.out HB.out) 2).trans rfl
      refine value_ (w1 := w') (v := .agg #[.int .i64 xs, .int .i64 ys, vs]) (wanted_on rfl rfl rfl (e55.trans (by first | rfl | (simp [*]; done)))) rfl ?_ ?_
      · go_simp
        (try simp only [i64_w])
        try rfl
      refine hK.out _ _ ⟨u8, u14, m8_, m14_, (by rw [ha.out]; exact putSel_upk 7 hb_ rfl rfl rfl), Q_HB, fun h0_ => absurd ((hoff 8 (by kernel_rfl)).symm.trans h0_) (by decide), fun h0_ => absurd ((hoff 14 (by kernel_rfl)).symm.trans h0_) (by decide), fun h0_ => absurd ((hoff 8 (by kernel_rfl)).symm.trans h0_) (by decide), fun h0_ => absurd ((hoff 14 (by kernel_rfl)).symm.trans h0_) (by decide)⟩
    refine steps_cons ?_ ?_
    · rintro b a w' ⟨u8, u14, m8_, m14_, ha, Q_HB, Q_F8, Q_F14, Q_X8_, Q_X14_⟩ hb_ hon hoff
      refine ⟨_, rfl, fun K hK => ?_⟩
      have e56 : a.tmps[56]? = some (.agg #[.int .i64 xt, .int .i64 yt, vt]) := by rw [ha]; exact putSel_on (e := (5, 56, .agg #[.int .i64 xt, .int .i64 yt, vt])) 5 rfl rfl (hon 5 (by kernel_rfl)) (by rw [hsz]; rfl)
      have e57 : a.tmps[57]? = some (.int .i64 n3) := by rw [ha]; exact putSel_on (e := (6, 57, .int .i64 n3)) 6 rfl rfl (hon 6 (by kernel_rfl)) (by rw [hsz]; rfl)
      have e58 : a.tmps[58]? = some (.agg #[.int .i64 xs, .int .i64 ys, vs]) := by rw [ha]; exact putSel_on (e := (7, 58, .agg #[.int .i64 xs, .int .i64 ys, vs])) 7 rfl rfl (hon 7 (by kernel_rfl)) (by rw [hsz]; rfl)
      have e55 : a.tmps[55]? = some (.bool false) := by rw [ha]; exact putSel_on (e := (4, 55, .bool false)) 4 rfl rfl (hon 4 (by kernel_rfl)) (by rw [hsz]; rfl)
      replace ha := Aside0.mk ha
      have HB := Aside0.mk Q_HB
      refine goes_ Tryd.func22 (by kernel_rfl) rfl #[.agg #[.int .i64 xt, .int .i64 yt, vt], .int .i64 n3, .agg #[.int .i64 xs, .int .i64 ys, vs]] (wanted_on rfl rfl rfl (e55.trans (by first | rfl | (simp [*]; done)))) rfl rfl (by first | (simp only [List.map_toArray, List.map_cons, List.map_nil, Act.eval, Array.getD_eq_getD_getElem?, Option.getD_some, e56, e57, e58, e55]; done) | (simp only [List.map_toArray, List.map_cons, List.map_nil, Act.eval, Array.getD_eq_getD_getElem?, Option.getD_some, e56, e57, e58, e55]; rfl)) ?_
      refine (subst_go kk xt yt vt kt n3 xs ys vs ks r8_0 r8_1 k8_ w' (fun k_ => False) (fun k_ h_ => h_.elim) (TV.old Tt.out HB.out (fun k_ h_ => h_.elim)) (TV.old Ts.out HB.out (fun k_ h_ => h_.elim)) AH8.out).mono ?_
      rintro e w1 ⟨v_, rfl, hv, hb⟩
      refine ⟨_, rfl, ?_⟩
      refine hK.out _ _ ⟨v_, u14, (.agg #[.int .i64 r8_0, .int .i64 r8_1, v_]), m14_, (by rw [ha.out]; exact putSel_upk 8 hb_ rfl rfl rfl), below_step HB.out hb, fun _ => hv, fun h0_ => absurd ((hoff 14 (by kernel_rfl)).symm.trans h0_) (by decide), fun _ => rfl, fun h0_ => absurd ((hoff 14 (by kernel_rfl)).symm.trans h0_) (by decide)⟩
    refine steps_cons ?_ ?_
    · rintro b a w' ⟨u8, u14, m8_, m14_, ha, Q_HB, Q_F8, Q_F14, Q_X8_, Q_X14_⟩ hb_ hon hoff
      refine ⟨_, rfl, fun K hK => ?_⟩
      have e9 : a.tmps[9]? = some (.pointer (some ⟨bt, 0, none⟩)) := by rw [ha]; exact (putSel_off rfl).trans ht
      have e55 : a.tmps[55]? = some (.bool false) := by rw [ha]; exact putSel_on (e := (4, 55, .bool false)) 4 rfl rfl (hon 4 (by kernel_rfl)) (by rw [hsz]; rfl)
      replace ha := Aside0.mk ha
      have HB := Aside0.mk Q_HB
      have hc0_ : w'.cell? ⟨bt, 0, none⟩ = some (.int .i64 xt) := (blk_cell (blk_below BKt.out HB.out) 0).trans rfl
      have hc1_ : w'.cell? ⟨bt, 1, none⟩ = some (.int .i64 yt) := (blk_cell (blk_below BKt.out HB.out) 1).trans rfl
      have hc2_ : w'.cell? ⟨bt, 2, none⟩ = some (vt) := (blk_cell (blk_below BKt.out HB.out) 2).trans rfl
      refine value_ (w1 := w') (v := .agg #[.int .i64 xt, .int .i64 yt, vt]) (wanted_on rfl rfl rfl (e55.trans (by first | rfl | (simp [*]; done)))) rfl ?_ ?_
      · go_simp
        (try simp only [i64_w])
        try rfl
      refine hK.out _ _ ⟨u8, u14, m8_, m14_, (by rw [ha.out]; exact putSel_upk 9 hb_ rfl rfl rfl), Q_HB, Q_F8, fun h0_ => absurd ((hoff 14 (by kernel_rfl)).symm.trans h0_) (by decide), Q_X8_, fun h0_ => absurd ((hoff 14 (by kernel_rfl)).symm.trans h0_) (by decide)⟩
    refine steps_cons ?_ ?_
    · rintro b a w' ⟨u8, u14, m8_, m14_, ha, Q_HB, Q_F8, Q_F14, Q_X8_, Q_X14_⟩ hb_ hon hoff
      refine ⟨_, rfl, fun K hK => ?_⟩
      have e59 : a.tmps[59]? = some (m8_) := by rw [ha]; exact putSel_on (e := (8, 59, m8_)) 8 rfl rfl (hon 8 (by kernel_rfl)) (by rw [hsz]; rfl)
      rw [Q_X8_ (hon 8 (by kernel_rfl))] at e59
      have e60 : a.tmps[60]? = some (.agg #[.int .i64 xt, .int .i64 yt, vt]) := by rw [ha]; exact putSel_on (e := (9, 60, .agg #[.int .i64 xt, .int .i64 yt, vt])) 9 rfl rfl (hon 9 (by kernel_rfl)) (by rw [hsz]; rfl)
      have e55 : a.tmps[55]? = some (.bool false) := by rw [ha]; exact putSel_on (e := (4, 55, .bool false)) 4 rfl rfl (hon 4 (by kernel_rfl)) (by rw [hsz]; rfl)
      replace ha := Aside0.mk ha
      have HB := Aside0.mk Q_HB
      have F8 := Aside0.mk (Q_F8 (hon 8 (by kernel_rfl)))
      refine goes_ Tryd.func18 (by kernel_rfl) rfl #[.agg #[.int .i64 r8_0, .int .i64 r8_1, u8], .agg #[.int .i64 xt, .int .i64 yt, vt]] (wanted_on rfl rfl rfl (e55.trans (by first | rfl | (simp [*]; done)))) rfl rfl (by first | (simp only [List.map_toArray, List.map_cons, List.map_nil, Act.eval, Array.getD_eq_getD_getElem?, Option.getD_some, e59, e60, e55]; done) | (simp only [List.map_toArray, List.map_cons, List.map_nil, Act.eval, Array.getD_eq_getD_getElem?, Option.getD_some, e59, e60, e55]; rfl)) ?_
      refine (same_go kk r8_0 r8_1 u8 k8_ xt yt vt kt true w' F8.out (TV.old (G := fun _ => False) Tt.out HB.out (fun _ h_ => h_.elim)) AH10.out).mono ?_
      rintro e w1 ⟨rfl, hb⟩
      refine ⟨_, rfl, ?_⟩
      refine hK.out _ _ ⟨u8, u14, m8_, m14_, (by rw [ha.out]; exact putSel_upk 10 hb_ rfl rfl rfl), below_step HB.out hb, fun _ => F8.out.step hb, fun h0_ => absurd ((hoff 14 (by kernel_rfl)).symm.trans h0_) (by decide), Q_X8_, fun h0_ => absurd ((hoff 14 (by kernel_rfl)).symm.trans h0_) (by decide)⟩
    refine steps_cons ?_ ?_
    · rintro b a w' ⟨u8, u14, m8_, m14_, ha, Q_HB, Q_F8, Q_F14, Q_X8_, Q_X14_⟩ hb_ hon hoff
      refine ⟨_, rfl, fun K hK => ?_⟩
      have e61 : a.tmps[61]? = some (.bool true) := by rw [ha]; exact putSel_on (e := (10, 61, .bool true)) 10 rfl rfl (hon 10 (by kernel_rfl)) (by rw [hsz]; rfl)
      have e55 : a.tmps[55]? = some (.bool false) := by rw [ha]; exact putSel_on (e := (4, 55, .bool false)) 4 rfl rfl (hon 4 (by kernel_rfl)) (by rw [hsz]; rfl)
      replace ha := Aside0.mk ha
      have HB := Aside0.mk Q_HB
      have F8 := Aside0.mk (Q_F8 (hon 8 (by kernel_rfl)))
      refine value_ (w1 := w') (v := .bool true) (wanted_on rfl rfl rfl (e55.trans (by first | rfl | (simp [*]; done)))) rfl ?_ ?_
      · go_simp
        (try simp only [i64_w])
        try rfl
      refine hK.out _ _ ⟨u8, u14, m8_, m14_, (by rw [ha.out]; exact putSel_upk 11 hb_ rfl rfl rfl), Q_HB, Q_F8, fun h0_ => absurd ((hoff 14 (by kernel_rfl)).symm.trans h0_) (by decide), Q_X8_, fun h0_ => absurd ((hoff 14 (by kernel_rfl)).symm.trans h0_) (by decide)⟩
    refine steps_cons ?_ ?_
    · rintro b a w' ⟨u8, u14, m8_, m14_, ha, Q_HB, Q_F8, Q_F14, Q_X8_, Q_X14_⟩ hb_ hon hoff
      refine ⟨_, rfl, fun K hK => ?_⟩
      have e9 : a.tmps[9]? = some (.pointer (some ⟨bt, 0, none⟩)) := by rw [ha]; exact (putSel_off rfl).trans ht
      have e62 : a.tmps[62]? = some (.bool true) := by rw [ha]; exact putSel_on (e := (11, 62, .bool true)) 11 rfl rfl (hon 11 (by kernel_rfl)) (by rw [hsz]; rfl)
      replace ha := Aside0.mk ha
      have HB := Aside0.mk Q_HB
      have F8 := Aside0.mk (Q_F8 (hon 8 (by kernel_rfl)))
      have hc0_ : w'.cell? ⟨bt, 0, none⟩ = some (.int .i64 xt) := (blk_cell (blk_below BKt.out HB.out) 0).trans rfl
      have hc1_ : w'.cell? ⟨bt, 1, none⟩ = some (.int .i64 yt) := (blk_cell (blk_below BKt.out HB.out) 1).trans rfl
      have hc2_ : w'.cell? ⟨bt, 2, none⟩ = some (vt) := (blk_cell (blk_below BKt.out HB.out) 2).trans rfl
      refine value_ (w1 := w') (v := .agg #[.int .i64 xt, .int .i64 yt, vt]) (wanted_on rfl rfl rfl (e62.trans (by first | rfl | (simp [*]; done)))) rfl ?_ ?_
      · go_simp
        (try simp only [i64_w])
        try rfl
      refine hK.out _ _ ⟨u8, u14, m8_, m14_, (by rw [ha.out]; exact putSel_upk 12 hb_ rfl rfl rfl), Q_HB, Q_F8, fun h0_ => absurd ((hoff 14 (by kernel_rfl)).symm.trans h0_) (by decide), Q_X8_, fun h0_ => absurd ((hoff 14 (by kernel_rfl)).symm.trans h0_) (by decide)⟩
    refine steps_cons ?_ ?_
    · rintro b a w' ⟨u8, u14, m8_, m14_, ha, Q_HB, Q_F8, Q_F14, Q_X8_, Q_X14_⟩ hb_ hon hoff
      refine ⟨_, rfl, fun K hK => ?_⟩
      have e3 : a.tmps[3]? = some (.int .i64 n3) := by rw [ha]; exact (putSel_off rfl).trans hn3
      have e62 : a.tmps[62]? = some (.bool true) := by rw [ha]; exact putSel_on (e := (11, 62, .bool true)) 11 rfl rfl (hon 11 (by kernel_rfl)) (by rw [hsz]; rfl)
      replace ha := Aside0.mk ha
      have HB := Aside0.mk Q_HB
      have F8 := Aside0.mk (Q_F8 (hon 8 (by kernel_rfl)))
      refine value_ (w1 := w') (v := .int .i64 n3) (wanted_on rfl rfl rfl (e62.trans (by first | rfl | (simp [*]; done)))) rfl ?_ ?_
      · go_simp
        (try simp only [i64_w])
        try rfl
      refine hK.out _ _ ⟨u8, u14, m8_, m14_, (by rw [ha.out]; exact putSel_upk 13 hb_ rfl rfl rfl), Q_HB, Q_F8, fun h0_ => absurd ((hoff 14 (by kernel_rfl)).symm.trans h0_) (by decide), Q_X8_, fun h0_ => absurd ((hoff 14 (by kernel_rfl)).symm.trans h0_) (by decide)⟩
    refine steps_cons ?_ ?_
    · rintro b a w' ⟨u8, u14, m8_, m14_, ha, Q_HB, Q_F8, Q_F14, Q_X8_, Q_X14_⟩ hb_ hon hoff
      refine ⟨_, rfl, fun K hK => ?_⟩
      have e63 : a.tmps[63]? = some (.agg #[.int .i64 xt, .int .i64 yt, vt]) := by rw [ha]; exact putSel_on (e := (12, 63, .agg #[.int .i64 xt, .int .i64 yt, vt])) 12 rfl rfl (hon 12 (by kernel_rfl)) (by rw [hsz]; rfl)
      have e64 : a.tmps[64]? = some (.int .i64 n3) := by rw [ha]; exact putSel_on (e := (13, 64, .int .i64 n3)) 13 rfl rfl (hon 13 (by kernel_rfl)) (by rw [hsz]; rfl)
      have e62 : a.tmps[62]? = some (.bool true) := by rw [ha]; exact putSel_on (e := (11, 62, .bool true)) 11 rfl rfl (hon 11 (by kernel_rfl)) (by rw [hsz]; rfl)
      replace ha := Aside0.mk ha
      have HB := Aside0.mk Q_HB
      have F8 := Aside0.mk (Q_F8 (hon 8 (by kernel_rfl)))
      refine goes_ Tryd.func23 (by kernel_rfl) rfl #[.agg #[.int .i64 xt, .int .i64 yt, vt], .int .i64 5, .int .i64 n3] (wanted_on rfl rfl rfl (e62.trans (by first | rfl | (simp [*]; done)))) rfl rfl (by first | (simp only [List.map_toArray, List.map_cons, List.map_nil, Act.eval, Array.getD_eq_getD_getElem?, Option.getD_some, e63, e64, e62]; done) | (simp only [List.map_toArray, List.map_cons, List.map_nil, Act.eval, Array.getD_eq_getD_getElem?, Option.getD_some, e63, e64, e62]; rfl)) ?_
      refine (shift_go kk xt yt vt kt 5 n3 r14_0 r14_1 k14_ w' (fun k_ => False) (fun k_ h_ => h_.elim) (TV.old Tt.out HB.out (fun k_ h_ => h_.elim)) AH14.out).mono ?_
      rintro e w1 ⟨v_, rfl, hv, hb⟩
      refine ⟨_, rfl, ?_⟩
      refine hK.out _ _ ⟨u8, v_, m8_, (.agg #[.int .i64 r14_0, .int .i64 r14_1, v_]), (by rw [ha.out]; exact putSel_upk 14 hb_ rfl rfl rfl), below_step HB.out hb, fun _ => F8.out.step hb, fun _ => hv, Q_X8_, fun _ => rfl⟩
    refine steps_cons ?_ ?_
    · rintro b a w' ⟨u8, u14, m8_, m14_, ha, Q_HB, Q_F8, Q_F14, Q_X8_, Q_X14_⟩ hb_ hon hoff
      refine ⟨_, rfl, fun K hK => ?_⟩
      have e9 : a.tmps[9]? = some (.pointer (some ⟨bt, 0, none⟩)) := by rw [ha]; exact (putSel_off rfl).trans ht
      have e62 : a.tmps[62]? = some (.bool true) := by rw [ha]; exact putSel_on (e := (11, 62, .bool true)) 11 rfl rfl (hon 11 (by kernel_rfl)) (by rw [hsz]; rfl)
      replace ha := Aside0.mk ha
      have HB := Aside0.mk Q_HB
      have F8 := Aside0.mk (Q_F8 (hon 8 (by kernel_rfl)))
      have hc0_ : w'.cell? ⟨bt, 0, none⟩ = some (.int .i64 xt) := (blk_cell (blk_below BKt.out HB.out) 0).trans rfl
      have hc1_ : w'.cell? ⟨bt, 1, none⟩ = some (.int .i64 yt) := (blk_cell (blk_below BKt.out HB.out) 1).trans rfl
      have hc2_ : w'.cell? ⟨bt, 2, none⟩ = some (vt) := (blk_cell (blk_below BKt.out HB.out) 2).trans rfl
      refine value_ (w1 := w') (v := .agg #[.int .i64 xt, .int .i64 yt, vt]) (wanted_on rfl rfl rfl (e62.trans (by first | rfl | (simp [*]; done)))) rfl ?_ ?_
      · go_simp
        (try simp only [i64_w])
        try rfl
      refine hK.out _ _ ⟨u8, u14, m8_, m14_, (by rw [ha.out]; exact putSel_upk 15 hb_ rfl rfl rfl), Q_HB, Q_F8, Q_F14, Q_X8_, Q_X14_⟩
    refine steps_cons ?_ ?_
    · rintro b a w' ⟨u8, u14, m8_, m14_, ha, Q_HB, Q_F8, Q_F14, Q_X8_, Q_X14_⟩ hb_ hon hoff
      refine ⟨_, rfl, fun K hK => ?_⟩
      have e65 : a.tmps[65]? = some (m14_) := by rw [ha]; exact putSel_on (e := (14, 65, m14_)) 14 rfl rfl (hon 14 (by kernel_rfl)) (by rw [hsz]; rfl)
      rw [Q_X14_ (hon 14 (by kernel_rfl))] at e65
      have e66 : a.tmps[66]? = some (.agg #[.int .i64 xt, .int .i64 yt, vt]) := by rw [ha]; exact putSel_on (e := (15, 66, .agg #[.int .i64 xt, .int .i64 yt, vt])) 15 rfl rfl (hon 15 (by kernel_rfl)) (by rw [hsz]; rfl)
      have e62 : a.tmps[62]? = some (.bool true) := by rw [ha]; exact putSel_on (e := (11, 62, .bool true)) 11 rfl rfl (hon 11 (by kernel_rfl)) (by rw [hsz]; rfl)
      replace ha := Aside0.mk ha
      have HB := Aside0.mk Q_HB
      have F8 := Aside0.mk (Q_F8 (hon 8 (by kernel_rfl)))
      have F14 := Aside0.mk (Q_F14 (hon 14 (by kernel_rfl)))
      refine goes_ Tryd.func18 (by kernel_rfl) rfl #[.agg #[.int .i64 r14_0, .int .i64 r14_1, u14], .agg #[.int .i64 xt, .int .i64 yt, vt]] (wanted_on rfl rfl rfl (e62.trans (by first | rfl | (simp [*]; done)))) rfl rfl (by first | (simp only [List.map_toArray, List.map_cons, List.map_nil, Act.eval, Array.getD_eq_getD_getElem?, Option.getD_some, e65, e66, e62]; done) | (simp only [List.map_toArray, List.map_cons, List.map_nil, Act.eval, Array.getD_eq_getD_getElem?, Option.getD_some, e65, e66, e62]; rfl)) ?_
      refine (same_go kk r14_0 r14_1 u14 k14_ xt yt vt kt rb w' F14.out (TV.old (G := fun _ => False) Tt.out HB.out (fun _ h_ => h_.elim)) AH16.out).mono ?_
      rintro e w1 ⟨rfl, hb⟩
      refine ⟨_, rfl, ?_⟩
      refine hK.out _ _ ⟨u8, u14, m8_, m14_, (by rw [ha.out]; exact putSel_upk 16 hb_ rfl rfl rfl), below_step HB.out hb, fun _ => F8.out.step hb, fun _ => F14.out.step hb, Q_X8_, Q_X14_⟩
    refine steps_cons ?_ ?_
    · rintro b a w' ⟨u8, u14, m8_, m14_, ha, Q_HB, Q_F8, Q_F14, Q_X8_, Q_X14_⟩ hb_ hon hoff
      refine ⟨_, rfl, fun K hK => ?_⟩
      have e62 : a.tmps[62]? = some (.bool true) := by rw [ha]; exact putSel_on (e := (11, 62, .bool true)) 11 rfl rfl (hon 11 (by kernel_rfl)) (by rw [hsz]; rfl)
      have e67 : a.tmps[67]? = some (.bool rb) := by rw [ha]; exact putSel_on (e := (16, 67, .bool rb)) 16 rfl rfl (hon 16 (by kernel_rfl)) (by rw [hsz]; rfl)
      have e55 : a.tmps[55]? = some (.bool false) := by rw [ha]; exact putSel_on (e := (4, 55, .bool false)) 4 rfl rfl (hon 4 (by kernel_rfl)) (by rw [hsz]; rfl)
      replace ha := Aside0.mk ha
      have HB := Aside0.mk Q_HB
      have F8 := Aside0.mk (Q_F8 (hon 8 (by kernel_rfl)))
      have F14 := Aside0.mk (Q_F14 (hon 14 (by kernel_rfl)))
      refine value_ (w1 := w') (v := .bool rb) (wanted_on rfl rfl rfl (e55.trans (by first | rfl | (simp [*]; done)))) rfl ?_ ?_
      · go_simp
        (try simp only [i64_w])
        try rfl
      refine hK.out _ _ ⟨u8, u14, m8_, m14_, (by rw [ha.out]; exact putSel_upk 17 hb_ rfl rfl rfl), Q_HB, Q_F8, Q_F14, Q_X8_, Q_X14_⟩
    refine steps_cons ?_ ?_
    · rintro b a w' ⟨u8, u14, m8_, m14_, ha, Q_HB, Q_F8, Q_F14, Q_X8_, Q_X14_⟩ hb_ hon hoff
      refine ⟨_, rfl, fun K hK => ?_⟩
      have e55 : a.tmps[55]? = some (.bool false) := by rw [ha]; exact putSel_on (e := (4, 55, .bool false)) 4 rfl rfl (hon 4 (by kernel_rfl)) (by rw [hsz]; rfl)
      have e68 : a.tmps[68]? = some (.bool rb) := by rw [ha]; exact putSel_on (e := (17, 68, .bool rb)) 17 rfl rfl (hon 17 (by kernel_rfl)) (by rw [hsz]; rfl)
      replace ha := Aside0.mk ha
      have HB := Aside0.mk Q_HB
      have F8 := Aside0.mk (Q_F8 (hon 8 (by kernel_rfl)))
      have F14 := Aside0.mk (Q_F14 (hon 14 (by kernel_rfl)))
      refine value_ (w1 := w') (v := .bool rb) (by rfl) rfl ?_ ?_
      · go_simp
        (try simp only [i64_w])
        try rfl
      refine hK.out _ _ ⟨u8, u14, m8_, m14_, (by rw [ha.out]; exact putSel_upk 18 hb_ rfl rfl rfl), Q_HB, Q_F8, Q_F14, Q_X8_, Q_X14_⟩
    refine steps_cons ?_ ?_
    · rintro b a w' ⟨u8, u14, m8_, m14_, ha, Q_HB, Q_F8, Q_F14, Q_X8_, Q_X14_⟩ hb_ hon hoff
      refine ⟨_, rfl, fun K hK => ?_⟩
      have e69 : a.tmps[69]? = some (.bool rb) := by rw [ha]; exact putSel_on (e := (18, 69, .bool rb)) 18 rfl rfl (hon 18 (by kernel_rfl)) (by rw [hsz]; rfl)
      replace ha := Aside0.mk ha
      have HB := Aside0.mk Q_HB
      have F8 := Aside0.mk (Q_F8 (hon 8 (by kernel_rfl)))
      have F14 := Aside0.mk (Q_F14 (hon 14 (by kernel_rfl)))
      refine value_ (w1 := w') (v := .bool rb) (by rfl) rfl ?_ ?_
      · go_simp
        (try simp only [i64_w])
        try rfl
      refine hK.out _ _ ⟨u8, u14, m8_, m14_, (by rw [ha.out]; exact putSel_upk 19 hb_ rfl rfl rfl), Q_HB, Q_F8, Q_F14, Q_X8_, Q_X14_⟩
    exact steps_nil
  · rintro b a w' hall ⟨u8, u14, m8_, m14_, ha, Q_HB, Q_F8, Q_F14, Q_X8_, Q_X14_⟩
    clear HB
    have hb0_ := hall 0 (by kernel_rfl)
    have hb1_ := hall 1 (by kernel_rfl)
    have hb2_ := hall 2 (by kernel_rfl)
    have hb3_ := hall 3 (by kernel_rfl)
    have hb4_ := hall 4 (by kernel_rfl)
    have hb5_ := hall 5 (by kernel_rfl)
    have hb6_ := hall 6 (by kernel_rfl)
    have hb7_ := hall 7 (by kernel_rfl)
    have hb8_ := hall 8 (by kernel_rfl)
    have hb9_ := hall 9 (by kernel_rfl)
    have hb10_ := hall 10 (by kernel_rfl)
    have hb11_ := hall 11 (by kernel_rfl)
    have hb12_ := hall 12 (by kernel_rfl)
    have hb13_ := hall 13 (by kernel_rfl)
    have hb14_ := hall 14 (by kernel_rfl)
    have hb15_ := hall 15 (by kernel_rfl)
    have hb16_ := hall 16 (by kernel_rfl)
    have hb17_ := hall 17 (by kernel_rfl)
    have hb18_ := hall 18 (by kernel_rfl)
    have hb19_ := hall 19 (by kernel_rfl)
    subst ha
    obtain rfl := Q_X8_ hb8_
    obtain rfl := Q_X14_ hb14_
    simp only [putSel, hb0_, hb1_, hb2_, hb3_, hb4_, hb5_, hb6_, hb7_, hb8_, hb9_, hb10_, hb11_, hb12_, hb13_, hb14_, hb15_, hb16_, hb17_, hb18_, hb19_, if_true]
    have HB := Aside0.mk Q_HB
    clear Q_HB
    have F8 := Aside0.mk (Q_F8 hb8_)
    clear Q_F8
    have F14 := Aside0.mk (Q_F14 hb14_)
    clear Q_F14
    clear hall hb0_ hb1_ hb2_ hb3_ hb4_ hb5_ hb6_ hb7_ hb8_ hb9_ hb10_ hb11_ hb12_ hb13_ hb14_ hb15_ hb16_ hb17_ hb18_ hb19_
    exact hQ u8 u14  w' HB.out 
end Go.Proofs.YtcchfblekaaalaaDoor.P
