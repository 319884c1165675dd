/- TermUnder: its drawn regions, each by one relation (printed by genund.py) -/
import Derived.Test.YtcchfblekaaalaaDoorHandGo
import Derived.Test.YtcchfblekaaalaaDoorHandFree
import Derived.Test.YtcchfblekaaalaaDoorWant
import Derived.Test.YtcchfblekaaalaaDoorUndA
namespace Go.Proofs.YtcchfblekaaalaaDoor.P
open Go.RowKit Go.Proofs.YtcchfblekaaalaaDoorW.PrintWords Go.Proofs.YtcchfblekaaalaaDoorW.PrintLast Go.Proofs.YtcchfblekaaalaaDoorW.PrintMore
set_option linter.unusedVariables false
set_option linter.unusedSimpArgs false
theorem TV.elem {W : World} {v : Value} {ks : List S29} (h : TV W (fun _ => False) v ks) (i : Int) (h0 : 0 ≤ i) (h1 : i < (ks.length : Int)) :
    ∃ ad c ve, v = .slice (some ad) ks.length c ∧ ks.length ≤ c ∧ TV W (fun _ => False) ve (rd_T29 ks i).f2 ∧ ∀ w', Below W.heap.size W w' → w'.cell? (ad.add (i.toNat * 3)) = some (.int .i64 (rd_T29 ks i).f0) ∧ w'.cell? ⟨(ad.add (i.toNat * 3)).block, (ad.add (i.toNat * 3)).off + 1, none⟩ = some (.int .i64 (rd_T29 ks i).f1) ∧ w'.cell? ⟨(ad.add (i.toNat * 3)).block, (ad.add (i.toNat * 3)).off + 2, none⟩ = some ve := by
  obtain ⟨A, c, rfl⟩ := Kd.V_slice h
  obtain ⟨_, hc, hC⟩ := Kd.V_reads' h
  obtain ⟨ad, A2, c2, rfl, x0, x1, x2, l2, i2⟩ := at_T29 hC i h0 h1
  obtain ⟨ce, hce, hMe, hcc⟩ := Kd.V_get h z29 i h0 h1
  obtain ⟨ua, uc, rfl, ul, ge⟩ := k29_openF hMe
  have hv := hcc 2 _ rfl
  rw [add_field _ _ 2 (by omega)] at hv
  replace hv := Option.some.inj (hv.symm.trans x2)
  injection hv with hva hvn hvc
  rw [hva] at ge
  rw [hvc] at ul
  have at_ : ∀ {p u} {w' : World}, W.cell? p = some u → Below W.heap.size W w' → w'.cell? p = some u := fun hp hb => (hb.cell (World.block_lt_of_cell? W _ hp)).trans hp
  exact ⟨ad, c, .slice A2 (rd_T29 ks i).f2.length c2, rfl, hc, Kd.V_mk ul ge, fun w' hb => ⟨at_ x0 hb, at_ x1 hb, at_ x2 hb⟩⟩
set_option maxHeartbeats 4000000 in
set_option maxRecDepth 100000 in
theorem under_r5 {Q : Exit → Act → World → Prop} {a : Act} {W : World} (hsz : a.tmps.size = 123) (kk : Nat) (pd qd : Int) (Ad : Option Addr) (cd : Nat) (ld : List S24) (bd : Nat) (hd : a.tmps[4]? = some (.pointer (some ⟨bd, 0, none⟩))) (Bd_ : W.heap[bd]? = some (.cells #[.int .i64 pd, .int .i64 qd, .slice Ad ld.length cd] 24 (0, 0))) (Rd_ : Kd.C k24 W Ad ld.length ld) (Cd_ : ld.length ≤ cd)
    (pe qe : Int) (Ae : Option Addr) (ce : Nat) (le : List S24) (be : Nat) (he : a.tmps[5]? = some (.pointer (some ⟨be, 0, none⟩))) (Be_ : W.heap[be]? = some (.cells #[.int .i64 pe, .int .i64 qe, .slice Ae le.length ce] 24 (0, 0))) (Re_ : Kd.C k24 W Ae le.length le) (Ce_ : le.length ≤ ce)
    (r1_0 r1_1 : Int) (k1_ : List S29)
    (r3_0 r3_1 : Int) (k3_ : List S29)
    (H1 : thyrsuslaw1_Make.f kk pd qd ld 6 3 = some (r1_0, r1_1, k1_))
    (H3 : thyrsuslaw1_Make.f kk pe qe le 3 2 = some (r3_0, r3_1, k3_))
    (hQ : ∀ (u1 u3 : Value) (g4 g5 : Nat) (w' : World), Below W.heap.size W w' → W.heap.size ≤ g4 → w'.heap[g4]? = some (.cells #[.int .i64 r1_0, .int .i64 r1_1, u1] 29 (0, 0)) → TV w' (fun _ => False) u1 k1_ → W.heap.size ≤ g5 → w'.heap[g5]? = some (.cells #[.int .i64 r3_0, .int .i64 r3_1, u3] 29 (0, 0)) → TV w' (fun _ => False) u3 k3_ → Q .normal ((((((a.put (some 25) (.agg #[.int .i64 pd, .int .i64 qd, .slice Ad ld.length cd])).put (some 26) (.agg #[.int .i64 r1_0, .int .i64 r1_1, u1])).put (some 27) (.agg #[.int .i64 pe, .int .i64 qe, .slice Ae le.length ce])).put (some 28) (.agg #[.int .i64 r3_0, .int .i64 r3_1, u3])).put (some 9) (.pointer (some ⟨g4, 0, none⟩))).put (some 10) (.pointer (some ⟨g5, 0, none⟩))) w') :
    (Code.region 5 (opsOf Tryd.f7 5) true).wp Tryd.prog Q a W := by
  have HT_ := Aside0.mk thyrsuslaw4_TermUnder.tab5
  have HW_ := Aside0.mk thyrsuslaw4_TermUnder.bits5
  have BKd := Aside0.mk Bd_
  have HRd := Aside0.mk Rd_
  have HCd := Aside0.mk Cd_
  clear Bd_ Rd_ Cd_
  have BKe := Aside0.mk Be_
  have HRe := Aside0.mk Re_
  have HCe := Aside0.mk Ce_
  clear Be_ Re_ Ce_
  have AH1 := Aside0.mk H1
  clear H1
  have AH3 := Aside0.mk H3
  clear H3
  have HB := Aside0.mk (below_drew1 (Below.refl W.heap.size W))
  conv in (opsOf Tryd.f7 5) => whnf
  refine start_ (n := 8) (S := fun w' => True) (ds := []) #[false, false, false, false, false, false, false, false] (by kernel_rfl) rfl rfl trivial (fun hHeld => ?_)
  clear hHeld
  generalize W.drew = W1 at HB ⊢
  refine inv_at [0, 1, 2, 3, 4, 5, 6, 7] (fun a0_ b a w' => ∃ (u1 : Value) (u3 : Value) (g4 : Nat) (g5 : Nat) (m1_ : Value) (m3_ : Value) (m4_ : Value) (m5_ : Value), a = putSel a0_ b [(0, 25, .agg #[.int .i64 pd, .int .i64 qd, .slice Ad ld.length cd]), (1, 26, m1_), (2, 27, .agg #[.int .i64 pe, .int .i64 qe, .slice Ae le.length ce]), (3, 28, m3_), (4, 9, m4_), (5, 10, m5_)] ∧ (Below W.heap.size W w') ∧ (b 1 = true → TV w' (fun k_ => (b 4 = true ∧ k_ = g4) ∨ (b 5 = true ∧ k_ = g5)) u1 k1_) ∧ (b 3 = true → TV w' (fun k_ => (b 4 = true ∧ k_ = g4) ∨ (b 5 = true ∧ k_ = g5)) u3 k3_) ∧ (b 4 = true → W.heap.size ≤ g4 ∧ g4 < w'.heap.size) ∧ (b 4 = true → b 6 = false → w'.heap[g4]? = some (.cells #[.int .i64 0, .int .i64 0, .slice none 0 0] 29 (0, 0))) ∧ (b 6 = true → w'.heap[g4]? = some (.cells #[.int .i64 r1_0, .int .i64 r1_1, u1] 29 (0, 0))) ∧ (b 5 = true → W.heap.size ≤ g5 ∧ g5 < w'.heap.size) ∧ (b 5 = true → b 7 = false → w'.heap[g5]? = some (.cells #[.int .i64 0, .int .i64 0, .slice none 0 0] 29 (0, 0))) ∧ (b 7 = true → w'.heap[g5]? = some (.cells #[.int .i64 r3_0, .int .i64 r3_1, u3] 29 (0, 0))) ∧ (b 4 = true → b 5 = true → g4 ≠ g5) ∧ (b 1 = true → (m1_ : Value) = .agg #[.int .i64 r1_0, .int .i64 r1_1, u1]) ∧ (b 3 = true → (m3_ : Value) = .agg #[.int .i64 r3_0, .int .i64 r3_1, u3]) ∧ (b 4 = true → (m4_ : Value) = .pointer (some ⟨g4, 0, none⟩)) ∧ (b 5 = true → (m5_ : Value) = .pointer (some ⟨g5, 0, none⟩))) HT_.out HW_.out (by kernel_rfl) (by kernel_rfl) ?_ ?_ ?_
  · exact ⟨.bool false, .bool false, 0, 0, .bool false, .bool false, .bool false, .bool false, by simp only [putSel, Bool.false_eq_true, if_false], HB.out, fun h_ => absurd h_ (by decide), fun h_ => absurd h_ (by decide), fun h_ => absurd h_ (by decide), fun h_ => absurd h_ (by decide), fun h_ => absurd h_ (by decide), fun h_ => absurd h_ (by decide), fun h_ => absurd h_ (by decide), fun h_ => absurd h_ (by decide), fun h_ => absurd h_ (by decide), fun h_ => absurd h_ (by decide), fun h_ => absurd h_ (by decide), fun h_ => absurd h_ (by decide), fun h_ => absurd h_ (by decide)⟩
  · skip
    clear HB
    refine steps_cons ?_ ?_
    · rintro b a w' ⟨u1, u3, g4, g5, m1_, m3_, m4_, m5_, ha, Q_HB, Q_F1, Q_F3, Q_Z4, Q_B4, Q_S4, Q_Z5, Q_B5, Q_S5, Q_N4_5, Q_X1_, Q_X3_, Q_X4_, Q_X5_⟩ hb_ hon hoff
      refine ⟨_, rfl, fun K hK => ?_⟩
      have e4 : a.tmps[4]? = some (.pointer (some ⟨bd, 0, none⟩)) := by rw [ha]; exact (putSel_off rfl).trans hd
      replace ha := Aside0.mk ha
      have HB := Aside0.mk Q_HB
      have hc0_ : w'.cell? ⟨bd, 0, none⟩ = some (.int .i64 pd) := (blk_cell (blk_below BKd.out HB.out) 0).trans rfl
      have hc1_ : w'.cell? ⟨bd, 1, none⟩ = some (.int .i64 qd) := (blk_cell (blk_below BKd.out HB.out) 1).trans rfl
      have hc2_ : w'.cell? ⟨bd, 2, none⟩ = some (.slice Ad ld.length cd) := (blk_cell (blk_below BKd.out HB.out) 2).trans rfl
      refine value_ (w1 := w') (v := .agg #[.int .i64 pd, .int .i64 qd, .slice Ad ld.length cd]) (by rfl) rfl ?_ ?_
      · go_simp
        (try simp only [i64_w])
        try rfl
      refine hK.out _ _ ⟨u1, u3, g4, g5, m1_, m3_, m4_, m5_, (by rw [ha.out]; exact putSel_upk 0 hb_ rfl rfl rfl), Q_HB, fun h0_ => absurd ((hoff 1 (by kernel_rfl)).symm.trans h0_) (by decide), fun h0_ => absurd ((hoff 3 (by kernel_rfl)).symm.trans h0_) (by decide), Q_Z4, Q_B4, fun h0_ => absurd ((hoff 6 (by kernel_rfl)).symm.trans h0_) (by decide), Q_Z5, Q_B5, fun h0_ => absurd ((hoff 7 (by kernel_rfl)).symm.trans h0_) (by decide), Q_N4_5, fun h0_ => absurd ((hoff 1 (by kernel_rfl)).symm.trans h0_) (by decide), fun h0_ => absurd ((hoff 3 (by kernel_rfl)).symm.trans h0_) (by decide), Q_X4_, Q_X5_⟩
    refine steps_cons ?_ ?_
    · rintro b a w' ⟨u1, u3, g4, g5, m1_, m3_, m4_, m5_, ha, Q_HB, Q_F1, Q_F3, Q_Z4, Q_B4, Q_S4, Q_Z5, Q_B5, Q_S5, Q_N4_5, Q_X1_, Q_X3_, Q_X4_, Q_X5_⟩ hb_ hon hoff
      refine ⟨_, rfl, fun K hK => ?_⟩
      have e25 : a.tmps[25]? = some (.agg #[.int .i64 pd, .int .i64 qd, .slice Ad ld.length cd]) := by rw [ha]; exact putSel_on (e := (0, 25, .agg #[.int .i64 pd, .int .i64 qd, .slice Ad ld.length cd])) 0 rfl rfl (hon 0 (by kernel_rfl)) (by rw [hsz]; rfl)
      replace ha := Aside0.mk ha
      have HB := Aside0.mk Q_HB
      refine goes_ Tryd.func16 (by kernel_rfl) rfl #[.agg #[.int .i64 pd, .int .i64 qd, .slice Ad ld.length cd], .int .i64 6, .int .i64 3] (by rfl) rfl rfl (by first | (simp only [List.map_toArray, List.map_cons, List.map_nil, Act.eval, Array.getD_eq_getD_getElem?, Option.getD_some, e25]; done) | (simp only [List.map_toArray, List.map_cons, List.map_nil, Act.eval, Array.getD_eq_getD_getElem?, Option.getD_some, e25]; rfl)) ?_
      refine (make_go kk pd qd Ad cd ld 6 3 r1_0 r1_1 k1_ w' (fun k_ => (b 4 = true ∧ k_ = g4) ∨ (b 5 = true ∧ k_ = g5)) (fun k_ h_ => h_.elim (fun h_ => h_.2 ▸ (Q_Z4 h_.1).2) (fun h_ => h_.2 ▸ (Q_Z5 h_.1).2)) (Kd.C_below HRd.out HB.out) HCd.out AH1.out).mono ?_
      rintro e w1 ⟨v_, rfl, hv, hb⟩
      refine ⟨_, rfl, ?_⟩
      refine hK.out _ _ ⟨v_, u3, g4, g5, (.agg #[.int .i64 r1_0, .int .i64 r1_1, v_]), m3_, m4_, m5_, (by rw [ha.out]; exact putSel_upk 1 hb_ rfl rfl rfl), below_step HB.out hb, fun _ => hv, fun h0_ => absurd ((hoff 3 (by kernel_rfl)).symm.trans h0_) (by decide), fun h0_ => ⟨(Q_Z4 h0_).1, Nat.lt_of_lt_of_le (Q_Z4 h0_).2 hb.size⟩, fun h0_ h1_ => blk_below (Q_B4 h0_ h1_) hb, fun h0_ => absurd ((hoff 6 (by kernel_rfl)).symm.trans h0_) (by decide), fun h0_ => ⟨(Q_Z5 h0_).1, Nat.lt_of_lt_of_le (Q_Z5 h0_).2 hb.size⟩, fun h0_ h1_ => blk_below (Q_B5 h0_ h1_) hb, fun h0_ => absurd ((hoff 7 (by kernel_rfl)).symm.trans h0_) (by decide), Q_N4_5, fun _ => rfl, fun h0_ => absurd ((hoff 3 (by kernel_rfl)).symm.trans h0_) (by decide), Q_X4_, Q_X5_⟩
    refine steps_cons ?_ ?_
    · rintro b a w' ⟨u1, u3, g4, g5, m1_, m3_, m4_, m5_, ha, Q_HB, Q_F1, Q_F3, Q_Z4, Q_B4, Q_S4, Q_Z5, Q_B5, Q_S5, Q_N4_5, Q_X1_, Q_X3_, Q_X4_, Q_X5_⟩ hb_ hon hoff
      refine ⟨_, rfl, fun K hK => ?_⟩
      have e5 : a.tmps[5]? = some (.pointer (some ⟨be, 0, none⟩)) := by rw [ha]; exact (putSel_off rfl).trans he
      replace ha := Aside0.mk ha
      have HB := Aside0.mk Q_HB
      have hc0_ : w'.cell? ⟨be, 0, none⟩ = some (.int .i64 pe) := (blk_cell (blk_below BKe.out HB.out) 0).trans rfl
      have hc1_ : w'.cell? ⟨be, 1, none⟩ = some (.int .i64 qe) := (blk_cell (blk_below BKe.out HB.out) 1).trans rfl
      have hc2_ : w'.cell? ⟨be, 2, none⟩ = some (.slice Ae le.length ce) := (blk_cell (blk_below BKe.out HB.out) 2).trans rfl
      refine value_ (w1 := w') (v := .agg #[.int .i64 pe, .int .i64 qe, .slice Ae le.length ce]) (by rfl) rfl ?_ ?_
      · go_simp
        (try simp only [i64_w])
        try rfl
      refine hK.out _ _ ⟨u1, u3, g4, g5, m1_, m3_, m4_, m5_, (by rw [ha.out]; exact putSel_upk 2 hb_ rfl rfl rfl), Q_HB, Q_F1, fun h0_ => absurd ((hoff 3 (by kernel_rfl)).symm.trans h0_) (by decide), Q_Z4, Q_B4, fun h0_ => absurd ((hoff 6 (by kernel_rfl)).symm.trans h0_) (by decide), Q_Z5, Q_B5, fun h0_ => absurd ((hoff 7 (by kernel_rfl)).symm.trans h0_) (by decide), Q_N4_5, Q_X1_, fun h0_ => absurd ((hoff 3 (by kernel_rfl)).symm.trans h0_) (by decide), Q_X4_, Q_X5_⟩
    refine steps_cons ?_ ?_
    · rintro b a w' ⟨u1, u3, g4, g5, m1_, m3_, m4_, m5_, ha, Q_HB, Q_F1, Q_F3, Q_Z4, Q_B4, Q_S4, Q_Z5, Q_B5, Q_S5, Q_N4_5, Q_X1_, Q_X3_, Q_X4_, Q_X5_⟩ hb_ hon hoff
      refine ⟨_, rfl, fun K hK => ?_⟩
      have e27 : a.tmps[27]? = some (.agg #[.int .i64 pe, .int .i64 qe, .slice Ae le.length ce]) := by rw [ha]; exact putSel_on (e := (2, 27, .agg #[.int .i64 pe, .int .i64 qe, .slice Ae le.length ce])) 2 rfl rfl (hon 2 (by kernel_rfl)) (by rw [hsz]; rfl)
      replace ha := Aside0.mk ha
      have HB := Aside0.mk Q_HB
      have F1 := Aside0.mk (Q_F1 (hon 1 (by kernel_rfl)))
      refine goes_ Tryd.func16 (by kernel_rfl) rfl #[.agg #[.int .i64 pe, .int .i64 qe, .slice Ae le.length ce], .int .i64 3, .int .i64 2] (by rfl) rfl rfl (by first | (simp only [List.map_toArray, List.map_cons, List.map_nil, Act.eval, Array.getD_eq_getD_getElem?, Option.getD_some, e27]; done) | (simp only [List.map_toArray, List.map_cons, List.map_nil, Act.eval, Array.getD_eq_getD_getElem?, Option.getD_some, e27]; rfl)) ?_
      refine (make_go kk pe qe Ae ce le 3 2 r3_0 r3_1 k3_ w' (fun k_ => (b 4 = true ∧ k_ = g4) ∨ (b 5 = true ∧ k_ = g5)) (fun k_ h_ => h_.elim (fun h_ => h_.2 ▸ (Q_Z4 h_.1).2) (fun h_ => h_.2 ▸ (Q_Z5 h_.1).2)) (Kd.C_below HRe.out HB.out) HCe.out AH3.out).mono ?_
      rintro e w1 ⟨v_, rfl, hv, hb⟩
      refine ⟨_, rfl, ?_⟩
      refine hK.out _ _ ⟨u1, v_, g4, g5, m1_, (.agg #[.int .i64 r3_0, .int .i64 r3_1, v_]), m4_, m5_, (by rw [ha.out]; exact putSel_upk 3 hb_ rfl rfl rfl), below_step HB.out hb, fun _ => F1.out.step hb, fun _ => hv, fun h0_ => ⟨(Q_Z4 h0_).1, Nat.lt_of_lt_of_le (Q_Z4 h0_).2 hb.size⟩, fun h0_ h1_ => blk_below (Q_B4 h0_ h1_) hb, fun h0_ => absurd ((hoff 6 (by kernel_rfl)).symm.trans h0_) (by decide), fun h0_ => ⟨(Q_Z5 h0_).1, Nat.lt_of_lt_of_le (Q_Z5 h0_).2 hb.size⟩, fun h0_ h1_ => blk_below (Q_B5 h0_ h1_) hb, fun h0_ => absurd ((hoff 7 (by kernel_rfl)).symm.trans h0_) (by decide), Q_N4_5, Q_X1_, fun _ => rfl, Q_X4_, Q_X5_⟩
    refine steps_cons ?_ ?_
    · rintro b a w' ⟨u1, u3, g4, g5, m1_, m3_, m4_, m5_, ha, Q_HB, Q_F1, Q_F3, Q_Z4, Q_B4, Q_S4, Q_Z5, Q_B5, Q_S5, Q_N4_5, Q_X1_, Q_X3_, Q_X4_, Q_X5_⟩ hb_ hon hoff
      refine ⟨_, rfl, fun K hK => ?_⟩
      replace ha := Aside0.mk ha
      have HB := Aside0.mk Q_HB
      refine box_step ?hg (N := 9) ?hd (cs := #[.int .i64 0, .int .i64 0, .slice none 0 0]) (t := 29) ?hr ?_; (case hd => rfl); (case hg => rfl); (case hr => first | (go_simp; done) | (go_simp; rfl))
      intro gn hg w1 hbox hb
      refine hK.out _ _ ⟨u1, u3, gn, g5, m1_, m3_, (.pointer (some ⟨gn, 0, none⟩)), m5_, (by rw [ha.out]; exact putSel_upk 4 hb_ rfl rfl rfl), below_step HB.out hb, fun h0_ => (Q_F1 h0_).below hb (fun k_ h_ => h_.elim (fun h_ => .inr (by rw [h_.2, hg]; exact Nat.le_refl _)) (fun h_ => .inl (.inr h_))), fun h0_ => (Q_F3 h0_).below hb (fun k_ h_ => h_.elim (fun h_ => .inr (by rw [h_.2, hg]; exact Nat.le_refl _)) (fun h_ => .inl (.inr h_))), fun _ => ⟨by rw [hg]; exact below_size HB.out, blk_lt hbox⟩, fun _ _ => hbox, fun h0_ => absurd ((hoff 6 (by kernel_rfl)).symm.trans h0_) (by decide), fun h0_ => ⟨(Q_Z5 h0_).1, Nat.lt_of_lt_of_le (Q_Z5 h0_).2 hb.size⟩, fun h0_ h1_ => blk_below (Q_B5 h0_ h1_) hb, fun h0_ => absurd ((hoff 7 (by kernel_rfl)).symm.trans h0_) (by decide), fun (h0_ : up b 4 4 = true) (h1_ : up b 4 5 = true) => (by have := (Q_Z5 h1_).2; omega), Q_X1_, Q_X3_, fun _ => rfl, Q_X5_⟩
    refine steps_cons ?_ ?_
    · rintro b a w' ⟨u1, u3, g4, g5, m1_, m3_, m4_, m5_, ha, Q_HB, Q_F1, Q_F3, Q_Z4, Q_B4, Q_S4, Q_Z5, Q_B5, Q_S5, Q_N4_5, Q_X1_, Q_X3_, Q_X4_, Q_X5_⟩ hb_ hon hoff
      refine ⟨_, rfl, fun K hK => ?_⟩
      replace ha := Aside0.mk ha
      have HB := Aside0.mk Q_HB
      refine box_step ?hg (N := 10) ?hd (cs := #[.int .i64 0, .int .i64 0, .slice none 0 0]) (t := 29) ?hr ?_; (case hd => rfl); (case hg => rfl); (case hr => first | (go_simp; done) | (go_simp; rfl))
      intro gn hg w1 hbox hb
      refine hK.out _ _ ⟨u1, u3, g4, gn, m1_, m3_, m4_, (.pointer (some ⟨gn, 0, none⟩)), (by rw [ha.out]; exact putSel_upk 5 hb_ rfl rfl rfl), below_step HB.out hb, fun h0_ => (Q_F1 h0_).below hb (fun k_ h_ => h_.elim (fun h_ => .inl (.inl h_)) (fun h_ => .inr (by rw [h_.2, hg]; exact Nat.le_refl _))), fun h0_ => (Q_F3 h0_).below hb (fun k_ h_ => h_.elim (fun h_ => .inl (.inl h_)) (fun h_ => .inr (by rw [h_.2, hg]; exact Nat.le_refl _))), fun h0_ => ⟨(Q_Z4 h0_).1, Nat.lt_of_lt_of_le (Q_Z4 h0_).2 hb.size⟩, fun h0_ h1_ => blk_below (Q_B4 h0_ h1_) hb, fun h0_ => absurd ((hoff 6 (by kernel_rfl)).symm.trans h0_) (by decide), fun _ => ⟨by rw [hg]; exact below_size HB.out, blk_lt hbox⟩, fun _ _ => hbox, fun h0_ => absurd ((hoff 7 (by kernel_rfl)).symm.trans h0_) (by decide), fun (h0_ : up b 5 4 = true) (h1_ : up b 5 5 = true) => (by have := (Q_Z4 h0_).2; omega), Q_X1_, Q_X3_, Q_X4_, fun _ => rfl⟩
    refine steps_cons ?_ ?_
    · rintro b a w' ⟨u1, u3, g4, g5, m1_, m3_, m4_, m5_, ha, Q_HB, Q_F1, Q_F3, Q_Z4, Q_B4, Q_S4, Q_Z5, Q_B5, Q_S5, Q_N4_5, Q_X1_, Q_X3_, Q_X4_, Q_X5_⟩ hb_ hon hoff
      refine ⟨_, rfl, fun K hK => ?_⟩
      have e9 : a.tmps[9]? = some (m4_) := by rw [ha]; exact putSel_on (e := (4, 9, m4_)) 4 rfl rfl (hon 4 (by kernel_rfl)) (by rw [hsz]; rfl)
      rw [Q_X4_ (hon 4 (by kernel_rfl))] at e9
      have e26 : a.tmps[26]? = some (m1_) := by rw [ha]; exact putSel_on (e := (1, 26, m1_)) 1 rfl rfl (hon 1 (by kernel_rfl)) (by rw [hsz]; rfl)
      rw [Q_X1_ (hon 1 (by kernel_rfl))] at e26
      replace ha := Aside0.mk ha
      have HB := Aside0.mk Q_HB
      have F1 := Aside0.mk (Q_F1 (hon 1 (by kernel_rfl)))
      have F3 := Aside0.mk (Q_F3 (hon 3 (by kernel_rfl)))
      have Z4 := Aside0.mk (Q_Z4 (hon 4 (by kernel_rfl)))
      have B4 := Aside0.mk (Q_B4 (hon 4 (by kernel_rfl)) hb_)
      have Z5 := Aside0.mk (Q_Z5 (hon 5 (by kernel_rfl)))
      have B5 := Aside0.mk (Q_B5 (hon 5 (by kernel_rfl)) (hoff 7 (by kernel_rfl)))
      have N4_5 := Aside0.mk (Q_N4_5 (hon 4 (by kernel_rfl)) (hon 5 (by kernel_rfl)))
      have hs0_ : w'.cell? ⟨g4, 0, none⟩ = some (.int .i64 0) := (blk_cell B4.out 0).trans rfl
      have hs1_ : w'.cell? ⟨g4, 1, none⟩ = some (.int .i64 0) := (blk_cell B4.out 1).trans rfl
      have hs2_ : w'.cell? ⟨g4, 2, none⟩ = some (.slice none 0 0) := (blk_cell B4.out 2).trans rfl
      have hf0_ := blk_frozen B4.out 0
      have hf1_ := blk_frozen B4.out 1
      have hf2_ := blk_frozen B4.out 2
      obtain ⟨As_, cs_, hu_⟩ := Kd.V_slice F1.out
      subst hu_
      refine skip_ (w1 := ?_) (by rfl) rfl ?_ ?_
      rotate_left
      · go_simp
        rfl
      refine hK.out _ _ ⟨.slice As_ k1_.length cs_, u3, g4, g5, m1_, m3_, m4_, m5_, (by rw [ha.out]; exact putSel_none (v := undef) rfl), below_set3 HB.out Z4.out.1 (.int .i64 r1_0) (.int .i64 r1_1) (.slice As_ k1_.length cs_), fun _ => F1.out.set3 (.inl ⟨hon 4 (by kernel_rfl), rfl⟩) (.int .i64 r1_0) (.int .i64 r1_1) (.slice As_ k1_.length cs_), fun _ => F3.out.set3 (.inl ⟨hon 4 (by kernel_rfl), rfl⟩) (.int .i64 r1_0) (.int .i64 r1_1) (.slice As_ k1_.length cs_), fun _ => ⟨Z4.out.1, by rw [size_set3]; exact Z4.out.2⟩, fun _ h1_ => absurd ((up_self b 6).symm.trans h1_) (by decide), fun _ => blk_set3 B4.out rfl (.int .i64 r1_0) (.int .i64 r1_1) (.slice As_ k1_.length cs_), fun _ => ⟨Z5.out.1, by rw [size_set3]; exact Z5.out.2⟩, fun _ _ => blk_far3 B5.out (N4_5.out.symm) (.int .i64 r1_0) (.int .i64 r1_1) (.slice As_ k1_.length cs_), fun h0_ => absurd ((hoff 7 (by kernel_rfl)).symm.trans h0_) (by decide), Q_N4_5, Q_X1_, Q_X3_, Q_X4_, Q_X5_⟩
    refine steps_cons ?_ ?_
    · rintro b a w' ⟨u1, u3, g4, g5, m1_, m3_, m4_, m5_, ha, Q_HB, Q_F1, Q_F3, Q_Z4, Q_B4, Q_S4, Q_Z5, Q_B5, Q_S5, Q_N4_5, Q_X1_, Q_X3_, Q_X4_, Q_X5_⟩ hb_ hon hoff
      refine ⟨_, rfl, fun K hK => ?_⟩
      have e10 : a.tmps[10]? = some (m5_) := by rw [ha]; exact putSel_on (e := (5, 10, m5_)) 5 rfl rfl (hon 5 (by kernel_rfl)) (by rw [hsz]; rfl)
      rw [Q_X5_ (hon 5 (by kernel_rfl))] at e10
      have e28 : a.tmps[28]? = some (m3_) := by rw [ha]; exact putSel_on (e := (3, 28, m3_)) 3 rfl rfl (hon 3 (by kernel_rfl)) (by rw [hsz]; rfl)
      rw [Q_X3_ (hon 3 (by kernel_rfl))] at e28
      replace ha := Aside0.mk ha
      have HB := Aside0.mk Q_HB
      have F1 := Aside0.mk (Q_F1 (hon 1 (by kernel_rfl)))
      have F3 := Aside0.mk (Q_F3 (hon 3 (by kernel_rfl)))
      have Z4 := Aside0.mk (Q_Z4 (hon 4 (by kernel_rfl)))
      have S4 := Aside0.mk (Q_S4 (hon 6 (by kernel_rfl)))
      have Z5 := Aside0.mk (Q_Z5 (hon 5 (by kernel_rfl)))
      have B5 := Aside0.mk (Q_B5 (hon 5 (by kernel_rfl)) hb_)
      have N4_5 := Aside0.mk (Q_N4_5 (hon 4 (by kernel_rfl)) (hon 5 (by kernel_rfl)))
      have hs0_ : w'.cell? ⟨g5, 0, none⟩ = some (.int .i64 0) := (blk_cell B5.out 0).trans rfl
      have hs1_ : w'.cell? ⟨g5, 1, none⟩ = some (.int .i64 0) := (blk_cell B5.out 1).trans rfl
      have hs2_ : w'.cell? ⟨g5, 2, none⟩ = some (.slice none 0 0) := (blk_cell B5.out 2).trans rfl
      have hf0_ := blk_frozen B5.out 0
      have hf1_ := blk_frozen B5.out 1
      have hf2_ := blk_frozen B5.out 2
      obtain ⟨As_, cs_, hu_⟩ := Kd.V_slice F3.out
      subst hu_
      refine skip_ (w1 := ?_) (by rfl) rfl ?_ ?_
      rotate_left
      · go_simp
        rfl
      refine hK.out _ _ ⟨u1, .slice As_ k3_.length cs_, g4, g5, m1_, m3_, m4_, m5_, (by rw [ha.out]; exact putSel_none (v := undef) rfl), below_set3 HB.out Z5.out.1 (.int .i64 r3_0) (.int .i64 r3_1) (.slice As_ k3_.length cs_), fun _ => F1.out.set3 (.inr ⟨hon 5 (by kernel_rfl), rfl⟩) (.int .i64 r3_0) (.int .i64 r3_1) (.slice As_ k3_.length cs_), fun _ => F3.out.set3 (.inr ⟨hon 5 (by kernel_rfl), rfl⟩) (.int .i64 r3_0) (.int .i64 r3_1) (.slice As_ k3_.length cs_), fun _ => ⟨Z4.out.1, by rw [size_set3]; exact Z4.out.2⟩, fun _ h1_ => absurd ((hon 6 (by kernel_rfl)).symm.trans h1_) (by decide), fun _ => blk_far3 S4.out (N4_5.out) (.int .i64 r3_0) (.int .i64 r3_1) (.slice As_ k3_.length cs_), fun _ => ⟨Z5.out.1, by rw [size_set3]; exact Z5.out.2⟩, fun _ h1_ => absurd ((up_self b 7).symm.trans h1_) (by decide), fun _ => blk_set3 B5.out rfl (.int .i64 r3_0) (.int .i64 r3_1) (.slice As_ k3_.length cs_), Q_N4_5, Q_X1_, Q_X3_, Q_X4_, Q_X5_⟩
    exact steps_nil
  · rintro b a w' hall ⟨u1, u3, g4, g5, m1_, m3_, m4_, m5_, ha, Q_HB, Q_F1, Q_F3, Q_Z4, Q_B4, Q_S4, Q_Z5, Q_B5, Q_S5, Q_N4_5, Q_X1_, Q_X3_, Q_X4_, Q_X5_⟩
    clear HB
    have hb0_ := hall 0 (by kernel_rfl)
    have hb1_ := hall 1 (by kernel_rfl)
    have hb2_ := hall 2 (by kernel_rfl)
    have hb3_ := hall 3 (by kernel_rfl)
    have hb4_ := hall 4 (by kernel_rfl)
    have hb5_ := hall 5 (by kernel_rfl)
    have hb6_ := hall 6 (by kernel_rfl)
    have hb7_ := hall 7 (by kernel_rfl)
    subst ha
    obtain rfl := Q_X1_ hb1_
    obtain rfl := Q_X3_ hb3_
    obtain rfl := Q_X4_ hb4_
    obtain rfl := Q_X5_ hb5_
    simp only [putSel, hb0_, hb1_, hb2_, hb3_, hb4_, hb5_, hb6_, hb7_, if_true]
    have HB := Aside0.mk Q_HB
    clear Q_HB
    have F1 := Aside0.mk (Q_F1 hb1_)
    clear Q_F1
    have F3 := Aside0.mk (Q_F3 hb3_)
    clear Q_F3
    have Z4 := Aside0.mk (Q_Z4 hb4_)
    clear Q_Z4
    clear Q_B4
    have S4 := Aside0.mk (Q_S4 hb6_)
    clear Q_S4
    have Z5 := Aside0.mk (Q_Z5 hb5_)
    clear Q_Z5
    clear Q_B5
    have S5 := Aside0.mk (Q_S5 hb7_)
    clear Q_S5
    have N4_5 := Aside0.mk (Q_N4_5 hb4_ hb5_)
    clear Q_N4_5
    clear hall hb0_ hb1_ hb2_ hb3_ hb4_ hb5_ hb6_ hb7_
    exact hQ  u1 u3 g4 g5 w' HB.out Z4.out.1 S4.out F1.out.free Z5.out.1 S5.out F3.out.free
set_option maxHeartbeats 4000000 in
set_option maxRecDepth 100000 in
theorem under_r7 {Q : Exit → Act → World → Prop} {a : Act} {W : World} (hsz : a.tmps.size = 123) (kk : Nat) (xt yt : Int) (vt : Value) (kt : List S29) (bt : Nat) (ht : a.tmps[9]? = some (.pointer (some ⟨bt, 0, none⟩))) (Bt_ : W.heap[bt]? = some (.cells #[.int .i64 xt, .int .i64 yt, vt] 29 (0, 0))) (Tt_ : TV W (fun _ => False) vt kt)
    (xu yu : Int) (vu : Value) (ku : List S29) (bu : Nat) (hu : a.tmps[10]? = some (.pointer (some ⟨bu, 0, none⟩))) (Bu_ : W.heap[bu]? = some (.cells #[.int .i64 xu, .int .i64 yu, vu] 29 (0, 0))) (Tu_ : TV W (fun _ => False) vu ku)
    (n2 : Int) (hn2 : a.tmps[2]? = some (.int .i64 n2))
    (n3 : Int) (hn3 : a.tmps[3]? = some (.int .i64 n3))
    (r3_0 r3_1 : Int) (k3_ : List S29)
    (r7_0 r7_1 : Int) (k7_ : List S29)
    (H3 : term_Shift.f kk xt yt kt n3 n2 = some (r3_0, r3_1, k3_))
    (H7 : term_Subst.f kk xt yt kt n2 xu yu ku = some (r7_0, r7_1, k7_))
    (hQ : ∀ (u3 u7 : Value) (g8 g9 : Nat) (w' : World), Below W.heap.size W w' → W.heap.size ≤ g8 → w'.heap[g8]? = some (.cells #[.int .i64 r3_0, .int .i64 r3_1, u3] 29 (0, 0)) → TV w' (fun _ => False) u3 k3_ → W.heap.size ≤ g9 → w'.heap[g9]? = some (.cells #[.int .i64 r7_0, .int .i64 r7_1, u7] 29 (0, 0)) → TV w' (fun _ => False) u7 k7_ → Q .normal ((((((((((a.put (some 33) (.agg #[.int .i64 xt, .int .i64 yt, vt])).put (some 34) (.int .i64 n3)).put (some 35) (.int .i64 n2)).put (some 36) (.agg #[.int .i64 r3_0, .int .i64 r3_1, u3])).put (some 37) (.agg #[.int .i64 xt, .int .i64 yt, vt])).put (some 38) (.int .i64 n2)).put (some 39) (.agg #[.int .i64 xu, .int .i64 yu, vu])).put (some 40) (.agg #[.int .i64 r7_0, .int .i64 r7_1, u7])).put (some 11) (.pointer (some ⟨g8, 0, none⟩))).put (some 12) (.pointer (some ⟨g9, 0, none⟩))) w') :
    (Code.region 7 (opsOf Tryd.f7 7) true).wp Tryd.prog Q a W := by
  have HT_ := Aside0.mk thyrsuslaw4_TermUnder.tab7
  have HW_ := Aside0.mk thyrsuslaw4_TermUnder.bits7
  have BKt := Aside0.mk Bt_
  have Tt := Aside0.mk Tt_
  clear Bt_ Tt_
  have BKu := Aside0.mk Bu_
  have Tu := Aside0.mk Tu_
  clear Bu_ Tu_
  have AH3 := Aside0.mk H3
  clear H3
  have AH7 := Aside0.mk H7
  clear H7
  have HB := Aside0.mk (below_drew1 (Below.refl W.heap.size W))
  conv in (opsOf Tryd.f7 7) => whnf
  refine start_ (n := 12) (S := fun w' => True) (ds := []) #[false, false, false, false, false, false, false, false, false, false, false, false] (by kernel_rfl) rfl rfl trivial (fun hHeld => ?_)
  clear hHeld
  generalize W.drew = W1 at HB ⊢
  refine inv_at [0, 1, 2, 3, 4, 5, 6, 7, 8, 9, 10, 11] (fun a0_ b a w' => ∃ (u3 : Value) (u7 : Value) (g8 : Nat) (g9 : Nat) (m3_ : Value) (m7_ : Value) (m8_ : Value) (m9_ : Value), a = putSel a0_ b [(0, 33, .agg #[.int .i64 xt, .int .i64 yt, vt]), (1, 34, .int .i64 n3), (2, 35, .int .i64 n2), (3, 36, m3_), (4, 37, .agg #[.int .i64 xt, .int .i64 yt, vt]), (5, 38, .int .i64 n2), (6, 39, .agg #[.int .i64 xu, .int .i64 yu, vu]), (7, 40, m7_), (8, 11, m8_), (9, 12, m9_)] ∧ (Below W.heap.size W w') ∧ (b 3 = true → TV w' (fun k_ => (b 8 = true ∧ k_ = g8) ∨ (b 9 = true ∧ k_ = g9)) u3 k3_) ∧ (b 7 = true → TV w' (fun k_ => (b 8 = true ∧ k_ = g8) ∨ (b 9 = true ∧ k_ = g9)) u7 k7_) ∧ (b 8 = true → W.heap.size ≤ g8 ∧ g8 < w'.heap.size) ∧ (b 8 = true → b 10 = false → w'.heap[g8]? = some (.cells #[.int .i64 0, .int .i64 0, .slice none 0 0] 29 (0, 0))) ∧ (b 10 = true → w'.heap[g8]? = some (.cells #[.int .i64 r3_0, .int .i64 r3_1, u3] 29 (0, 0))) ∧ (b 9 = true → W.heap.size ≤ g9 ∧ g9 < w'.heap.size) ∧ (b 9 = true → b 11 = false → w'.heap[g9]? = some (.cells #[.int .i64 0, .int .i64 0, .slice none 0 0] 29 (0, 0))) ∧ (b 11 = true → w'.heap[g9]? = some (.cells #[.int .i64 r7_0, .int .i64 r7_1, u7] 29 (0, 0))) ∧ (b 8 = true → b 9 = true → g8 ≠ g9) ∧ (b 3 = true → (m3_ : Value) = .agg #[.int .i64 r3_0, .int .i64 r3_1, u3]) ∧ (b 7 = true → (m7_ : Value) = .agg #[.int .i64 r7_0, .int .i64 r7_1, u7]) ∧ (b 8 = true → (m8_ : Value) = .pointer (some ⟨g8, 0, none⟩)) ∧ (b 9 = true → (m9_ : Value) = .pointer (some ⟨g9, 0, none⟩))) HT_.out HW_.out (by kernel_rfl) (by kernel_rfl) ?_ ?_ ?_
  · exact ⟨.bool false, .bool false, 0, 0, .bool false, .bool false, .bool false, .bool false, by simp only [putSel, Bool.false_eq_true, if_false], HB.out, fun h_ => absurd h_ (by decide), fun h_ => absurd h_ (by decide), fun h_ => absurd h_ (by decide), fun h_ => absurd h_ (by decide), fun h_ => absurd h_ (by decide), fun h_ => absurd h_ (by decide), fun h_ => absurd h_ (by decide), fun h_ => absurd h_ (by decide), fun h_ => absurd h_ (by decide), fun h_ => absurd h_ (by decide), fun h_ => absurd h_ (by decide), fun h_ => absurd h_ (by decide), fun h_ => absurd h_ (by decide)⟩
  · skip
    clear HB
    refine steps_cons ?_ ?_
    · rintro b a w' ⟨u3, u7, g8, g9, m3_, m7_, m8_, m9_, ha, Q_HB, Q_F3, Q_F7, Q_Z8, Q_B8, Q_S8, Q_Z9, Q_B9, Q_S9, Q_N8_9, Q_X3_, Q_X7_, Q_X8_, Q_X9_⟩ hb_ hon hoff
      refine ⟨_, rfl, fun K hK => ?_⟩
      have e9 : a.tmps[9]? = some (.pointer (some ⟨bt, 0, none⟩)) := by rw [ha]; exact (putSel_off rfl).trans ht
      replace ha := Aside0.mk ha
      have HB := Aside0.mk Q_HB
      have hc0_ : w'.cell? ⟨bt, 0, none⟩ = some (.int .i64 xt) := (blk_cell (blk_below BKt.out HB.out) 0).trans rfl
      have hc1_ : w'.cell? ⟨bt, 1, none⟩ = some (.int .i64 yt) := (blk_cell (blk_below BKt.out HB.out) 1).trans rfl
      have hc2_ : w'.cell? ⟨bt, 2, none⟩ = some (vt) := (blk_cell (blk_below BKt.out HB.out) 2).trans rfl
      refine value_ (w1 := w') (v := .agg #[.int .i64 xt, .int .i64 yt, vt]) (by rfl) rfl ?_ ?_
      · go_simp
        (try simp only [i64_w])
        try rfl
      refine hK.out _ _ ⟨u3, u7, g8, g9, m3_, m7_, m8_, m9_, (by rw [ha.out]; exact putSel_upk 0 hb_ rfl rfl rfl), Q_HB, fun h0_ => absurd ((hoff 3 (by kernel_rfl)).symm.trans h0_) (by decide), fun h0_ => absurd ((hoff 7 (by kernel_rfl)).symm.trans h0_) (by decide), Q_Z8, Q_B8, fun h0_ => absurd ((hoff 10 (by kernel_rfl)).symm.trans h0_) (by decide), Q_Z9, Q_B9, fun h0_ => absurd ((hoff 11 (by kernel_rfl)).symm.trans h0_) (by decide), Q_N8_9, fun h0_ => absurd ((hoff 3 (by kernel_rfl)).symm.trans h0_) (by decide), fun h0_ => absurd ((hoff 7 (by kernel_rfl)).symm.trans h0_) (by decide), Q_X8_, Q_X9_⟩
    refine steps_cons ?_ ?_
    · rintro b a w' ⟨u3, u7, g8, g9, m3_, m7_, m8_, m9_, ha, Q_HB, Q_F3, Q_F7, Q_Z8, Q_B8, Q_S8, Q_Z9, Q_B9, Q_S9, Q_N8_9, Q_X3_, Q_X7_, Q_X8_, Q_X9_⟩ hb_ hon hoff
      refine ⟨_, rfl, fun K hK => ?_⟩
      have e3 : a.tmps[3]? = some (.int .i64 n3) := by rw [ha]; exact (putSel_off rfl).trans hn3
      replace ha := Aside0.mk ha
      have HB := Aside0.mk Q_HB
      refine value_ (w1 := w') (v := .int .i64 n3) (by rfl) rfl ?_ ?_
      · go_simp
        (try simp only [i64_w])
        try rfl
      refine hK.out _ _ ⟨u3, u7, g8, g9, m3_, m7_, m8_, m9_, (by rw [ha.out]; exact putSel_upk 1 hb_ rfl rfl rfl), Q_HB, fun h0_ => absurd ((hoff 3 (by kernel_rfl)).symm.trans h0_) (by decide), fun h0_ => absurd ((hoff 7 (by kernel_rfl)).symm.trans h0_) (by decide), Q_Z8, Q_B8, fun h0_ => absurd ((hoff 10 (by kernel_rfl)).symm.trans h0_) (by decide), Q_Z9, Q_B9, fun h0_ => absurd ((hoff 11 (by kernel_rfl)).symm.trans h0_) (by decide), Q_N8_9, fun h0_ => absurd ((hoff 3 (by kernel_rfl)).symm.trans h0_) (by decide), fun h0_ => absurd ((hoff 7 (by kernel_rfl)).symm.trans h0_) (by decide), Q_X8_, Q_X9_⟩
    refine steps_cons ?_ ?_
    · rintro b a w' ⟨u3, u7, g8, g9, m3_, m7_, m8_, m9_, ha, Q_HB, Q_F3, Q_F7, Q_Z8, Q_B8, Q_S8, Q_Z9, Q_B9, Q_S9, Q_N8_9, Q_X3_, Q_X7_, Q_X8_, Q_X9_⟩ hb_ hon hoff
      refine ⟨_, rfl, fun K hK => ?_⟩
      have e2 : a.tmps[2]? = some (.int .i64 n2) := by rw [ha]; exact (putSel_off rfl).trans hn2
      replace ha := Aside0.mk ha
      have HB := Aside0.mk Q_HB
      refine value_ (w1 := w') (v := .int .i64 n2) (by rfl) rfl ?_ ?_
      · go_simp
        (try simp only [i64_w])
        try rfl
      refine hK.out _ _ ⟨u3, u7, g8, g9, m3_, m7_, m8_, m9_, (by rw [ha.out]; exact putSel_upk 2 hb_ rfl rfl rfl), Q_HB, fun h0_ => absurd ((hoff 3 (by kernel_rfl)).symm.trans h0_) (by decide), fun h0_ => absurd ((hoff 7 (by kernel_rfl)).symm.trans h0_) (by decide), Q_Z8, Q_B8, fun h0_ => absurd ((hoff 10 (by kernel_rfl)).symm.trans h0_) (by decide), Q_Z9, Q_B9, fun h0_ => absurd ((hoff 11 (by kernel_rfl)).symm.trans h0_) (by decide), Q_N8_9, fun h0_ => absurd ((hoff 3 (by kernel_rfl)).symm.trans h0_) (by decide), fun h0_ => absurd ((hoff 7 (by kernel_rfl)).symm.trans h0_) (by decide), Q_X8_, Q_X9_⟩
    refine steps_cons ?_ ?_
    · rintro b a w' ⟨u3, u7, g8, g9, m3_, m7_, m8_, m9_, ha, Q_HB, Q_F3, Q_F7, Q_Z8, Q_B8, Q_S8, Q_Z9, Q_B9, Q_S9, Q_N8_9, Q_X3_, Q_X7_, Q_X8_, Q_X9_⟩ hb_ hon hoff
      refine ⟨_, rfl, fun K hK => ?_⟩
      have e33 : a.tmps[33]? = some (.agg #[.int .i64 xt, .int .i64 yt, vt]) := by rw [ha]; exact putSel_on (e := (0, 33, .agg #[.int .i64 xt, .int .i64 yt, vt])) 0 rfl rfl (hon 0 (by kernel_rfl)) (by rw [hsz]; rfl)
      have e34 : a.tmps[34]? = some (.int .i64 n3) := by rw [ha]; exact putSel_on (e := (1, 34, .int .i64 n3)) 1 rfl rfl (hon 1 (by kernel_rfl)) (by rw [hsz]; rfl)
      have e35 : a.tmps[35]? = some (.int .i64 n2) := by rw [ha]; exact putSel_on (e := (2, 35, .int .i64 n2)) 2 rfl rfl (hon 2 (by kernel_rfl)) (by rw [hsz]; rfl)
      replace ha := Aside0.mk ha
      have HB := Aside0.mk Q_HB
      refine goes_ Tryd.func23 (by kernel_rfl) rfl #[.agg #[.int .i64 xt, .int .i64 yt, vt], .int .i64 n3, .int .i64 n2] (by rfl) rfl rfl (by first | (simp only [List.map_toArray, List.map_cons, List.map_nil, Act.eval, Array.getD_eq_getD_getElem?, Option.getD_some, e33, e34, e35]; done) | (simp only [List.map_toArray, List.map_cons, List.map_nil, Act.eval, Array.getD_eq_getD_getElem?, Option.getD_some, e33, e34, e35]; rfl)) ?_
      refine (shift_go kk xt yt vt kt n3 n2 r3_0 r3_1 k3_ w' (fun k_ => (b 8 = true ∧ k_ = g8) ∨ (b 9 = true ∧ k_ = g9)) (fun k_ h_ => h_.elim (fun h_ => h_.2 ▸ (Q_Z8 h_.1).2) (fun h_ => h_.2 ▸ (Q_Z9 h_.1).2)) (TV.old Tt.out HB.out (fun k_ h_ => h_.elim (fun h_ => h_.2 ▸ (Q_Z8 h_.1).1) (fun h_ => h_.2 ▸ (Q_Z9 h_.1).1))) AH3.out).mono ?_
      rintro e w1 ⟨v_, rfl, hv, hb⟩
      refine ⟨_, rfl, ?_⟩
      refine hK.out _ _ ⟨v_, u7, g8, g9, (.agg #[.int .i64 r3_0, .int .i64 r3_1, v_]), m7_, m8_, m9_, (by rw [ha.out]; exact putSel_upk 3 hb_ rfl rfl rfl), below_step HB.out hb, fun _ => hv, fun h0_ => absurd ((hoff 7 (by kernel_rfl)).symm.trans h0_) (by decide), fun h0_ => ⟨(Q_Z8 h0_).1, Nat.lt_of_lt_of_le (Q_Z8 h0_).2 hb.size⟩, fun h0_ h1_ => blk_below (Q_B8 h0_ h1_) hb, fun h0_ => absurd ((hoff 10 (by kernel_rfl)).symm.trans h0_) (by decide), fun h0_ => ⟨(Q_Z9 h0_).1, Nat.lt_of_lt_of_le (Q_Z9 h0_).2 hb.size⟩, fun h0_ h1_ => blk_below (Q_B9 h0_ h1_) hb, fun h0_ => absurd ((hoff 11 (by kernel_rfl)).symm.trans h0_) (by decide), Q_N8_9, fun _ => rfl, fun h0_ => absurd ((hoff 7 (by kernel_rfl)).symm.trans h0_) (by decide), Q_X8_, Q_X9_⟩
    refine steps_cons ?_ ?_
    · rintro b a w' ⟨u3, u7, g8, g9, m3_, m7_, m8_, m9_, ha, Q_HB, Q_F3, Q_F7, Q_Z8, Q_B8, Q_S8, Q_Z9, Q_B9, Q_S9, Q_N8_9, Q_X3_, Q_X7_, Q_X8_, Q_X9_⟩ hb_ hon hoff
      refine ⟨_, rfl, fun K hK => ?_⟩
      have e9 : a.tmps[9]? = some (.pointer (some ⟨bt, 0, none⟩)) := by rw [ha]; exact (putSel_off rfl).trans ht
      replace ha := Aside0.mk ha
      have HB := Aside0.mk Q_HB
      have hc0_ : w'.cell? ⟨bt, 0, none⟩ = some (.int .i64 xt) := (blk_cell (blk_below BKt.out HB.out) 0).trans rfl
      have hc1_ : w'.cell? ⟨bt, 1, none⟩ = some (.int .i64 yt) := (blk_cell (blk_below BKt.out HB.out) 1).trans rfl
      have hc2_ : w'.cell? ⟨bt, 2, none⟩ = some (vt) := (blk_cell (blk_below BKt.out HB.out) 2).trans rfl
      refine value_ (w1 := w') (v := .agg #[.int .i64 xt, .int .i64 yt, vt]) (by rfl) rfl ?_ ?_
      · go_simp
        (try simp only [i64_w])
        try rfl
      refine hK.out _ _ ⟨u3, u7, g8, g9, m3_, m7_, m8_, m9_, (by rw [ha.out]; exact putSel_upk 4 hb_ rfl rfl rfl), Q_HB, Q_F3, fun h0_ => absurd ((hoff 7 (by kernel_rfl)).symm.trans h0_) (by decide), Q_Z8, Q_B8, fun h0_ => absurd ((hoff 10 (by kernel_rfl)).symm.trans h0_) (by decide), Q_Z9, Q_B9, fun h0_ => absurd ((hoff 11 (by kernel_rfl)).symm.trans h0_) (by decide), Q_N8_9, Q_X3_, fun h0_ => absurd ((hoff 7 (by kernel_rfl)).symm.trans h0_) (by decide), Q_X8_, Q_X9_⟩
    refine steps_cons ?_ ?_
    · rintro b a w' ⟨u3, u7, g8, g9, m3_, m7_, m8_, m9_, ha, Q_HB, Q_F3, Q_F7, Q_Z8, Q_B8, Q_S8, Q_Z9, Q_B9, Q_S9, Q_N8_9, Q_X3_, Q_X7_, Q_X8_, Q_X9_⟩ hb_ hon hoff
      refine ⟨_, rfl, fun K hK => ?_⟩
      have e2 : a.tmps[2]? = some (.int .i64 n2) := by rw [ha]; exact (putSel_off rfl).trans hn2
      replace ha := Aside0.mk ha
      have HB := Aside0.mk Q_HB
      refine value_ (w1 := w') (v := .int .i64 n2) (by rfl) rfl ?_ ?_
      · go_simp
        (try simp only [i64_w])
        try rfl
      refine hK.out _ _ ⟨u3, u7, g8, g9, m3_, m7_, m8_, m9_, (by rw [ha.out]; exact putSel_upk 5 hb_ rfl rfl rfl), Q_HB, Q_F3, fun h0_ => absurd ((hoff 7 (by kernel_rfl)).symm.trans h0_) (by decide), Q_Z8, Q_B8, fun h0_ => absurd ((hoff 10 (by kernel_rfl)).symm.trans h0_) (by decide), Q_Z9, Q_B9, fun h0_ => absurd ((hoff 11 (by kernel_rfl)).symm.trans h0_) (by decide), Q_N8_9, Q_X3_, fun h0_ => absurd ((hoff 7 (by kernel_rfl)).symm.trans h0_) (by decide), Q_X8_, Q_X9_⟩
    refine steps_cons ?_ ?_
    · rintro b a w' ⟨u3, u7, g8, g9, m3_, m7_, m8_, m9_, ha, Q_HB, Q_F3, Q_F7, Q_Z8, Q_B8, Q_S8, Q_Z9, Q_B9, Q_S9, Q_N8_9, Q_X3_, Q_X7_, Q_X8_, Q_X9_⟩ hb_ hon hoff
      refine ⟨_, rfl, fun K hK => ?_⟩
      have e10 : a.tmps[10]? = some (.pointer (some ⟨bu, 0, none⟩)) := by rw [ha]; exact (putSel_off rfl).trans hu
      replace ha := Aside0.mk ha
      have HB := Aside0.mk Q_HB
      have hc0_ : w'.cell? ⟨bu, 0, none⟩ = some (.int .i64 xu) := (blk_cell (blk_below BKu.out HB.out) 0).trans rfl
      have hc1_ : w'.cell? ⟨bu, 1, none⟩ = some (.int .i64 yu) := (blk_cell (blk_below BKu.out HB.out) 1).trans rfl
      have hc2_ : w'.cell? ⟨bu, 2, none⟩ = some (vu) := (blk_cell (blk_below BKu.out HB.out) 2).trans rfl
      refine value_ (w1 := w') (v := .agg #[.int .i64 xu, .int .i64 yu, vu]) (by rfl) rfl ?_ ?_
      · go_simp
        (try simp only [i64_w])
        try rfl
      refine hK.out _ _ ⟨u3, u7, g8, g9, m3_, m7_, m8_, m9_, (by rw [ha.out]; exact putSel_upk 6 hb_ rfl rfl rfl), Q_HB, Q_F3, fun h0_ => absurd ((hoff 7 (by kernel_rfl)).symm.trans h0_) (by decide), Q_Z8, Q_B8, fun h0_ => absurd ((hoff 10 (by kernel_rfl)).symm.trans h0_) (by decide), Q_Z9, Q_B9, fun h0_ => absurd ((hoff 11 (by kernel_rfl)).symm.trans h0_) (by decide), Q_N8_9, Q_X3_, fun h0_ => absurd ((hoff 7 (by kernel_rfl)).symm.trans h0_) (by decide), Q_X8_, Q_X9_⟩
    refine steps_cons ?_ ?_
    · rintro b a w' ⟨u3, u7, g8, g9, m3_, m7_, m8_, m9_, ha, Q_HB, Q_F3, Q_F7, Q_Z8, Q_B8, Q_S8, Q_Z9, Q_B9, Q_S9, Q_N8_9, Q_X3_, Q_X7_, Q_X8_, Q_X9_⟩ hb_ hon hoff
      refine ⟨_, rfl, fun K hK => ?_⟩
      have e37 : a.tmps[37]? = some (.agg #[.int .i64 xt, .int .i64 yt, vt]) := by rw [ha]; exact putSel_on (e := (4, 37, .agg #[.int .i64 xt, .int .i64 yt, vt])) 4 rfl rfl (hon 4 (by kernel_rfl)) (by rw [hsz]; rfl)
      have e38 : a.tmps[38]? = some (.int .i64 n2) := by rw [ha]; exact putSel_on (e := (5, 38, .int .i64 n2)) 5 rfl rfl (hon 5 (by kernel_rfl)) (by rw [hsz]; rfl)
      have e39 : a.tmps[39]? = some (.agg #[.int .i64 xu, .int .i64 yu, vu]) := by rw [ha]; exact putSel_on (e := (6, 39, .agg #[.int .i64 xu, .int .i64 yu, vu])) 6 rfl rfl (hon 6 (by kernel_rfl)) (by rw [hsz]; rfl)
      replace ha := Aside0.mk ha
      have HB := Aside0.mk Q_HB
      have F3 := Aside0.mk (Q_F3 (hon 3 (by kernel_rfl)))
      refine goes_ Tryd.func22 (by kernel_rfl) rfl #[.agg #[.int .i64 xt, .int .i64 yt, vt], .int .i64 n2, .agg #[.int .i64 xu, .int .i64 yu, vu]] (by rfl) rfl rfl (by first | (simp only [List.map_toArray, List.map_cons, List.map_nil, Act.eval, Array.getD_eq_getD_getElem?, Option.getD_some, e37, e38, e39]; done) | (simp only [List.map_toArray, List.map_cons, List.map_nil, Act.eval, Array.getD_eq_getD_getElem?, Option.getD_some, e37, e38, e39]; rfl)) ?_
      refine (subst_go kk xt yt vt kt n2 xu yu vu ku r7_0 r7_1 k7_ w' (fun k_ => (b 8 = true ∧ k_ = g8) ∨ (b 9 = true ∧ k_ = g9)) (fun k_ h_ => h_.elim (fun h_ => h_.2 ▸ (Q_Z8 h_.1).2) (fun h_ => h_.2 ▸ (Q_Z9 h_.1).2)) (TV.old Tt.out HB.out (fun k_ h_ => h_.elim (fun h_ => h_.2 ▸ (Q_Z8 h_.1).1) (fun h_ => h_.2 ▸ (Q_Z9 h_.1).1))) (TV.old Tu.out HB.out (fun k_ h_ => h_.elim (fun h_ => h_.2 ▸ (Q_Z8 h_.1).1) (fun h_ => h_.2 ▸ (Q_Z9 h_.1).1))) AH7.out).mono ?_
      rintro e w1 ⟨v_, rfl, hv, hb⟩
      refine ⟨_, rfl, ?_⟩
      refine hK.out _ _ ⟨u3, v_, g8, g9, m3_, (.agg #[.int .i64 r7_0, .int .i64 r7_1, v_]), m8_, m9_, (by rw [ha.out]; exact putSel_upk 7 hb_ rfl rfl rfl), below_step HB.out hb, fun _ => F3.out.step hb, fun _ => hv, fun h0_ => ⟨(Q_Z8 h0_).1, Nat.lt_of_lt_of_le (Q_Z8 h0_).2 hb.size⟩, fun h0_ h1_ => blk_below (Q_B8 h0_ h1_) hb, fun h0_ => absurd ((hoff 10 (by kernel_rfl)).symm.trans h0_) (by decide), fun h0_ => ⟨(Q_Z9 h0_).1, Nat.lt_of_lt_of_le (Q_Z9 h0_).2 hb.size⟩, fun h0_ h1_ => blk_below (Q_B9 h0_ h1_) hb, fun h0_ => absurd ((hoff 11 (by kernel_rfl)).symm.trans h0_) (by decide), Q_N8_9, Q_X3_, fun _ => rfl, Q_X8_, Q_X9_⟩
    refine steps_cons ?_ ?_
    · rintro b a w' ⟨u3, u7, g8, g9, m3_, m7_, m8_, m9_, ha, Q_HB, Q_F3, Q_F7, Q_Z8, Q_B8, Q_S8, Q_Z9, Q_B9, Q_S9, Q_N8_9, Q_X3_, Q_X7_, Q_X8_, Q_X9_⟩ hb_ hon hoff
      refine ⟨_, rfl, fun K hK => ?_⟩
      replace ha := Aside0.mk ha
      have HB := Aside0.mk Q_HB
      refine box_step ?hg (N := 11) ?hd (cs := #[.int .i64 0, .int .i64 0, .slice none 0 0]) (t := 29) ?hr ?_; (case hd => rfl); (case hg => rfl); (case hr => first | (go_simp; done) | (go_simp; rfl))
      intro gn hg w1 hbox hb
      refine hK.out _ _ ⟨u3, u7, gn, g9, m3_, m7_, (.pointer (some ⟨gn, 0, none⟩)), m9_, (by rw [ha.out]; exact putSel_upk 8 hb_ rfl rfl rfl), below_step HB.out hb, fun h0_ => (Q_F3 h0_).below hb (fun k_ h_ => h_.elim (fun h_ => .inr (by rw [h_.2, hg]; exact Nat.le_refl _)) (fun h_ => .inl (.inr h_))), fun h0_ => (Q_F7 h0_).below hb (fun k_ h_ => h_.elim (fun h_ => .inr (by rw [h_.2, hg]; exact Nat.le_refl _)) (fun h_ => .inl (.inr h_))), fun _ => ⟨by rw [hg]; exact below_size HB.out, blk_lt hbox⟩, fun _ _ => hbox, fun h0_ => absurd ((hoff 10 (by kernel_rfl)).symm.trans h0_) (by decide), fun h0_ => ⟨(Q_Z9 h0_).1, Nat.lt_of_lt_of_le (Q_Z9 h0_).2 hb.size⟩, fun h0_ h1_ => blk_below (Q_B9 h0_ h1_) hb, fun h0_ => absurd ((hoff 11 (by kernel_rfl)).symm.trans h0_) (by decide), fun (h0_ : up b 8 8 = true) (h1_ : up b 8 9 = true) => (by have := (Q_Z9 h1_).2; omega), Q_X3_, Q_X7_, fun _ => rfl, Q_X9_⟩
    refine steps_cons ?_ ?_
    · rintro b a w' ⟨u3, u7, g8, g9, m3_, m7_, m8_, m9_, ha, Q_HB, Q_F3, Q_F7, Q_Z8, Q_B8, Q_S8, Q_Z9, Q_B9, Q_S9, Q_N8_9, Q_X3_, Q_X7_, Q_X8_, Q_X9_⟩ hb_ hon hoff
      refine ⟨_, rfl, fun K hK => ?_⟩
      replace ha := Aside0.mk ha
      have HB := Aside0.mk Q_HB
      refine box_step ?hg (N := 12) ?hd (cs := #[.int .i64 0, .int .i64 0, .slice none 0 0]) (t := 29) ?hr ?_; (case hd => rfl); (case hg => rfl); (case hr => first | (go_simp; done) | (go_simp; rfl))
      intro gn hg w1 hbox hb
      refine hK.out _ _ ⟨u3, u7, g8, gn, m3_, m7_, m8_, (.pointer (some ⟨gn, 0, none⟩)), (by rw [ha.out]; exact putSel_upk 9 hb_ rfl rfl rfl), below_step HB.out hb, fun h0_ => (Q_F3 h0_).below hb (fun k_ h_ => h_.elim (fun h_ => .inl (.inl h_)) (fun h_ => .inr (by rw [h_.2, hg]; exact Nat.le_refl _))), fun h0_ => (Q_F7 h0_).below hb (fun k_ h_ => h_.elim (fun h_ => .inl (.inl h_)) (fun h_ => .inr (by rw [h_.2, hg]; exact Nat.le_refl _))), fun h0_ => ⟨(Q_Z8 h0_).1, Nat.lt_of_lt_of_le (Q_Z8 h0_).2 hb.size⟩, fun h0_ h1_ => blk_below (Q_B8 h0_ h1_) hb, fun h0_ => absurd ((hoff 10 (by kernel_rfl)).symm.trans h0_) (by decide), fun _ => ⟨by rw [hg]; exact below_size HB.out, blk_lt hbox⟩, fun _ _ => hbox, fun h0_ => absurd ((hoff 11 (by kernel_rfl)).symm.trans h0_) (by decide), fun (h0_ : up b 9 8 = true) (h1_ : up b 9 9 = true) => (by have := (Q_Z8 h0_).2; omega), Q_X3_, Q_X7_, Q_X8_, fun _ => rfl⟩
    refine steps_cons ?_ ?_
    · rintro b a w' ⟨u3, u7, g8, g9, m3_, m7_, m8_, m9_, ha, Q_HB, Q_F3, Q_F7, Q_Z8, Q_B8, Q_S8, Q_Z9, Q_B9, Q_S9, Q_N8_9, Q_X3_, Q_X7_, Q_X8_, Q_X9_⟩ hb_ hon hoff
      refine ⟨_, rfl, fun K hK => ?_⟩
      have e11 : a.tmps[11]? = some (m8_) := by rw [ha]; exact putSel_on (e := (8, 11, m8_)) 8 rfl rfl (hon 8 (by kernel_rfl)) (by rw [hsz]; rfl)
      rw [Q_X8_ (hon 8 (by kernel_rfl))] at e11
      have e36 : a.tmps[36]? = some (m3_) := by rw [ha]; exact putSel_on (e := (3, 36, m3_)) 3 rfl rfl (hon 3 (by kernel_rfl)) (by rw [hsz]; rfl)
      rw [Q_X3_ (hon 3 (by kernel_rfl))] at e36
      replace ha := Aside0.mk ha
      have HB := Aside0.mk Q_HB
      have F3 := Aside0.mk (Q_F3 (hon 3 (by kernel_rfl)))
      have F7 := Aside0.mk (Q_F7 (hon 7 (by kernel_rfl)))
      have Z8 := Aside0.mk (Q_Z8 (hon 8 (by kernel_rfl)))
      have B8 := Aside0.mk (Q_B8 (hon 8 (by kernel_rfl)) hb_)
      have Z9 := Aside0.mk (Q_Z9 (hon 9 (by kernel_rfl)))
      have B9 := Aside0.mk (Q_B9 (hon 9 (by kernel_rfl)) (hoff 11 (by kernel_rfl)))
      have N8_9 := Aside0.mk (Q_N8_9 (hon 8 (by kernel_rfl)) (hon 9 (by kernel_rfl)))
      have hs0_ : w'.cell? ⟨g8, 0, none⟩ = some (.int .i64 0) := (blk_cell B8.out 0).trans rfl
      have hs1_ : w'.cell? ⟨g8, 1, none⟩ = some (.int .i64 0) := (blk_cell B8.out 1).trans rfl
      have hs2_ : w'.cell? ⟨g8, 2, none⟩ = some (.slice none 0 0) := (blk_cell B8.out 2).trans rfl
      have hf0_ := blk_frozen B8.out 0
      have hf1_ := blk_frozen B8.out 1
      have hf2_ := blk_frozen B8.out 2
      obtain ⟨As_, cs_, hu_⟩ := Kd.V_slice F3.out
      subst hu_
      refine skip_ (w1 := ?_) (by rfl) rfl ?_ ?_
      rotate_left
      · go_simp
        rfl
      refine hK.out _ _ ⟨.slice As_ k3_.length cs_, u7, g8, g9, m3_, m7_, m8_, m9_, (by rw [ha.out]; exact putSel_none (v := undef) rfl), below_set3 HB.out Z8.out.1 (.int .i64 r3_0) (.int .i64 r3_1) (.slice As_ k3_.length cs_), fun _ => F3.out.set3 (.inl ⟨hon 8 (by kernel_rfl), rfl⟩) (.int .i64 r3_0) (.int .i64 r3_1) (.slice As_ k3_.length cs_), fun _ => F7.out.set3 (.inl ⟨hon 8 (by kernel_rfl), rfl⟩) (.int .i64 r3_0) (.int .i64 r3_1) (.slice As_ k3_.length cs_), fun _ => ⟨Z8.out.1, by rw [size_set3]; exact Z8.out.2⟩, fun _ h1_ => absurd ((up_self b 10).symm.trans h1_) (by decide), fun _ => blk_set3 B8.out rfl (.int .i64 r3_0) (.int .i64 r3_1) (.slice As_ k3_.length cs_), fun _ => ⟨Z9.out.1, by rw [size_set3]; exact Z9.out.2⟩, fun _ _ => blk_far3 B9.out (N8_9.out.symm) (.int .i64 r3_0) (.int .i64 r3_1) (.slice As_ k3_.length cs_), fun h0_ => absurd ((hoff 11 (by kernel_rfl)).symm.trans h0_) (by decide), Q_N8_9, Q_X3_, Q_X7_, Q_X8_, Q_X9_⟩
    refine steps_cons ?_ ?_
    · rintro b a w' ⟨u3, u7, g8, g9, m3_, m7_, m8_, m9_, ha, Q_HB, Q_F3, Q_F7, Q_Z8, Q_B8, Q_S8, Q_Z9, Q_B9, Q_S9, Q_N8_9, Q_X3_, Q_X7_, Q_X8_, Q_X9_⟩ hb_ hon hoff
      refine ⟨_, rfl, fun K hK => ?_⟩
      have e12 : a.tmps[12]? = some (m9_) := by rw [ha]; exact putSel_on (e := (9, 12, m9_)) 9 rfl rfl (hon 9 (by kernel_rfl)) (by rw [hsz]; rfl)
      rw [Q_X9_ (hon 9 (by kernel_rfl))] at e12
      have e40 : a.tmps[40]? = some (m7_) := by rw [ha]; exact putSel_on (e := (7, 40, m7_)) 7 rfl rfl (hon 7 (by kernel_rfl)) (by rw [hsz]; rfl)
      rw [Q_X7_ (hon 7 (by kernel_rfl))] at e40
      replace ha := Aside0.mk ha
      have HB := Aside0.mk Q_HB
      have F3 := Aside0.mk (Q_F3 (hon 3 (by kernel_rfl)))
      have F7 := Aside0.mk (Q_F7 (hon 7 (by kernel_rfl)))
      have Z8 := Aside0.mk (Q_Z8 (hon 8 (by kernel_rfl)))
      have S8 := Aside0.mk (Q_S8 (hon 10 (by kernel_rfl)))
      have Z9 := Aside0.mk (Q_Z9 (hon 9 (by kernel_rfl)))
      have B9 := Aside0.mk (Q_B9 (hon 9 (by kernel_rfl)) hb_)
      have N8_9 := Aside0.mk (Q_N8_9 (hon 8 (by kernel_rfl)) (hon 9 (by kernel_rfl)))
      have hs0_ : w'.cell? ⟨g9, 0, none⟩ = some (.int .i64 0) := (blk_cell B9.out 0).trans rfl
      have hs1_ : w'.cell? ⟨g9, 1, none⟩ = some (.int .i64 0) := (blk_cell B9.out 1).trans rfl
      have hs2_ : w'.cell? ⟨g9, 2, none⟩ = some (.slice none 0 0) := (blk_cell B9.out 2).trans rfl
      have hf0_ := blk_frozen B9.out 0
      have hf1_ := blk_frozen B9.out 1
      have hf2_ := blk_frozen B9.out 2
      obtain ⟨As_, cs_, hu_⟩ := Kd.V_slice F7.out
      subst hu_
      refine skip_ (w1 := ?_) (by rfl) rfl ?_ ?_
      rotate_left
      · go_simp
        rfl
      refine hK.out _ _ ⟨u3, .slice As_ k7_.length cs_, g8, g9, m3_, m7_, m8_, m9_, (by rw [ha.out]; exact putSel_none (v := undef) rfl), below_set3 HB.out Z9.out.1 (.int .i64 r7_0) (.int .i64 r7_1) (.slice As_ k7_.length cs_), fun _ => F3.out.set3 (.inr ⟨hon 9 (by kernel_rfl), rfl⟩) (.int .i64 r7_0) (.int .i64 r7_1) (.slice As_ k7_.length cs_), fun _ => F7.out.set3 (.inr ⟨hon 9 (by kernel_rfl), rfl⟩) (.int .i64 r7_0) (.int .i64 r7_1) (.slice As_ k7_.length cs_), fun _ => ⟨Z8.out.1, by rw [size_set3]; exact Z8.out.2⟩, fun _ h1_ => absurd ((hon 10 (by kernel_rfl)).symm.trans h1_) (by decide), fun _ => blk_far3 S8.out (N8_9.out) (.int .i64 r7_0) (.int .i64 r7_1) (.slice As_ k7_.length cs_), fun _ => ⟨Z9.out.1, by rw [size_set3]; exact Z9.out.2⟩, fun _ h1_ => absurd ((up_self b 11).symm.trans h1_) (by decide), fun _ => blk_set3 B9.out rfl (.int .i64 r7_0) (.int .i64 r7_1) (.slice As_ k7_.length cs_), Q_N8_9, Q_X3_, Q_X7_, Q_X8_, Q_X9_⟩
    exact steps_nil
  · rintro b a w' hall ⟨u3, u7, g8, g9, m3_, m7_, m8_, m9_, ha, Q_HB, Q_F3, Q_F7, Q_Z8, Q_B8, Q_S8, Q_Z9, Q_B9, Q_S9, Q_N8_9, Q_X3_, Q_X7_, Q_X8_, Q_X9_⟩
    clear HB
    have hb0_ := hall 0 (by kernel_rfl)
    have hb1_ := hall 1 (by kernel_rfl)
    have hb2_ := hall 2 (by kernel_rfl)
    have hb3_ := hall 3 (by kernel_rfl)
    have hb4_ := hall 4 (by kernel_rfl)
    have hb5_ := hall 5 (by kernel_rfl)
    have hb6_ := hall 6 (by kernel_rfl)
    have hb7_ := hall 7 (by kernel_rfl)
    have hb8_ := hall 8 (by kernel_rfl)
    have hb9_ := hall 9 (by kernel_rfl)
    have hb10_ := hall 10 (by kernel_rfl)
    have hb11_ := hall 11 (by kernel_rfl)
    subst ha
    obtain rfl := Q_X3_ hb3_
    obtain rfl := Q_X7_ hb7_
    obtain rfl := Q_X8_ hb8_
    obtain rfl := Q_X9_ hb9_
    simp only [putSel, hb0_, hb1_, hb2_, hb3_, hb4_, hb5_, hb6_, hb7_, hb8_, hb9_, hb10_, hb11_, if_true]
    have HB := Aside0.mk Q_HB
    clear Q_HB
    have F3 := Aside0.mk (Q_F3 hb3_)
    clear Q_F3
    have F7 := Aside0.mk (Q_F7 hb7_)
    clear Q_F7
    have Z8 := Aside0.mk (Q_Z8 hb8_)
    clear Q_Z8
    clear Q_B8
    have S8 := Aside0.mk (Q_S8 hb10_)
    clear Q_S8
    have Z9 := Aside0.mk (Q_Z9 hb9_)
    clear Q_Z9
    clear Q_B9
    have S9 := Aside0.mk (Q_S9 hb11_)
    clear Q_S9
    have N8_9 := Aside0.mk (Q_N8_9 hb8_ hb9_)
    clear Q_N8_9
    clear hall hb0_ hb1_ hb2_ hb3_ hb4_ hb5_ hb6_ hb7_ hb8_ hb9_ hb10_ hb11_
    exact hQ  u3 u7 g8 g9 w' HB.out Z8.out.1 S8.out F3.out.free Z9.out.1 S9.out F7.out.free
set_option maxHeartbeats 4000000 in
set_option maxRecDepth 100000 in
theorem under_r16 {Q : Exit → Act → World → Prop} {a : Act} {W : World} (hsz : a.tmps.size = 123) (kk : Nat) (n13 : Int) (hn13 : a.tmps[13]? = some (.int .i64 n13))
    (n3 : Int) (hn3 : a.tmps[3]? = some (.int .i64 n3))
    (n2 : Int) (hn2 : a.tmps[2]? = some (.int .i64 n2))
    (n14 : Int) (hn14 : a.tmps[14]? = some (.int .i64 n14))
    (hix : 0 ≤ n13)
    (xu yu : Int) (vu : Value) (ku : List S29) (bu : Nat) (hu : a.tmps[10]? = some (.pointer (some ⟨bu, 0, none⟩))) (Bu_ : W.heap[bu]? = some (.cells #[.int .i64 xu, .int .i64 yu, vu] 29 (0, 0))) (Tu_ : TV W (fun _ => False) vu ku)
    (xs ys : Int) (As : Option Addr) (cs : Nat) (ks : List S29) (bs : Nat) (hs : a.tmps[11]? = some (.pointer (some ⟨bs, 0, none⟩))) (Bs_ : W.heap[bs]? = some (.cells #[.int .i64 xs, .int .i64 ys, .slice As ks.length cs] 29 (0, 0))) (Ts_ : TV W (fun _ => False) (.slice As ks.length cs) ks) (his : n13 < (ks.length : Int))
    (xt yt : Int) (At : Option Addr) (ct : Nat) (kt : List S29) (bt : Nat) (ht : a.tmps[9]? = some (.pointer (some ⟨bt, 0, none⟩))) (Bt_ : W.heap[bt]? = some (.cells #[.int .i64 xt, .int .i64 yt, .slice At kt.length ct] 29 (0, 0))) (Tt_ : TV W (fun _ => False) (.slice At kt.length ct) kt) (hit : n13 < (kt.length : Int))
    (xm ym : Int) (Am : Option Addr) (cm : Nat) (km : List S29) (bm : Nat) (hm : a.tmps[12]? = some (.pointer (some ⟨bm, 0, none⟩))) (Bm_ : W.heap[bm]? = some (.cells #[.int .i64 xm, .int .i64 ym, .slice Am km.length cm] 29 (0, 0))) (Tm_ : TV W (fun _ => False) (.slice Am km.length cm) km) (him : n13 < (km.length : Int))
    (r14_0 r14_1 : Int) (k14_ : List S29)
    (r33_0 r33_1 : Int) (k33_ : List S29)
    (r34_0 r34_1 : Int) (k34_ : List S29)
    (H14 : term_Shift.f kk (rd_T29 kt n13).f0 (rd_T29 kt n13).f1 (rd_T29 kt n13).f2 n3 (wrap64 (n2 + n14)) = some (r14_0, r14_1, k14_))
    (H15 : thyrsusref4_Same.f kk (rd_T29 ks n13).f0 (rd_T29 ks n13).f1 (rd_T29 ks n13).f2 r14_0 r14_1 k14_ = some true)
    (H33 : term_Shift.f kk xu yu ku n14 0 = some (r33_0, r33_1, k33_))
    (H34 : term_Subst.f kk (rd_T29 kt n13).f0 (rd_T29 kt n13).f1 (rd_T29 kt n13).f2 (wrap64 (n2 + n14)) r33_0 r33_1 k33_ = some (r34_0, r34_1, k34_))
    (H35 : thyrsusref4_Same.f kk (rd_T29 km n13).f0 (rd_T29 km n13).f1 (rd_T29 km n13).f2 r34_0 r34_1 k34_ = some true)
    (hQ : ∀ (ads : Addr) (Es : Value) (adt : Addr) (Et : Value) (adm : Addr) (Em : Value) (u14 u33 u34 : Value) (w' : World), Below W.heap.size W w' → Q .normal ((((((((((((((((((((((((((((((((((((((a.put (some 85) (.pointer (some ⟨bs, 2, none⟩))).put (some 86) (.slice (some ads) ks.length cs)).put (some 87) (.int .i64 n13)).put (some 88) (.pointer (some (ads.add (n13.toNat * 3))))).put (some 89) (.agg #[.int .i64 (rd_T29 ks n13).f0, .int .i64 (rd_T29 ks n13).f1, Es])).put (some 90) (.pointer (some ⟨bt, 2, none⟩))).put (some 91) (.slice (some adt) kt.length ct)).put (some 92) (.int .i64 n13)).put (some 93) (.pointer (some (adt.add (n13.toNat * 3))))).put (some 94) (.agg #[.int .i64 (rd_T29 kt n13).f0, .int .i64 (rd_T29 kt n13).f1, Et])).put (some 95) (.int .i64 n3)).put (some 96) (.int .i64 n2)).put (some 97) (.int .i64 n14)).put (some 98) (.int .i64 (wrap64 (n2 + n14)))).put (some 99) (.agg #[.int .i64 r14_0, .int .i64 r14_1, u14])).put (some 100) (.bool true)).put (some 101) (.bool false)).put (some 102) (.bool false)).put (some 103) (.pointer (some ⟨bm, 2, none⟩))).put (some 104) (.slice (some adm) km.length cm)).put (some 105) (.int .i64 n13)).put (some 106) (.pointer (some (adm.add (n13.toNat * 3))))).put (some 107) (.agg #[.int .i64 (rd_T29 km n13).f0, .int .i64 (rd_T29 km n13).f1, Em])).put (some 108) (.pointer (some ⟨bt, 2, none⟩))).put (some 109) (.slice (some adt) kt.length ct)).put (some 110) (.int .i64 n13)).put (some 111) (.pointer (some (adt.add (n13.toNat * 3))))).put (some 112) (.agg #[.int .i64 (rd_T29 kt n13).f0, .int .i64 (rd_T29 kt n13).f1, Et])).put (some 113) (.int .i64 n2)).put (some 114) (.int .i64 n14)).put (some 115) (.int .i64 (wrap64 (n2 + n14)))).put (some 116) (.agg #[.int .i64 xu, .int .i64 yu, vu])).put (some 117) (.int .i64 n14)).put (some 118) (.agg #[.int .i64 r33_0, .int .i64 r33_1, u33])).put (some 119) (.agg #[.int .i64 r34_0, .int .i64 r34_1, u34])).put (some 120) (.bool true)).put (some 121) (.bool false)).put (some 122) (.bool false)) w') :
    (Code.region 16 (opsOf Tryd.f7 16) true).wp Tryd.prog Q a W := by
  have HT_ := Aside0.mk thyrsuslaw4_TermUnder.tab16
  have HW_ := Aside0.mk thyrsuslaw4_TermUnder.bits16
  have BKu := Aside0.mk Bu_
  have Tu := Aside0.mk Tu_
  clear Bu_ Tu_
  obtain ⟨ads, ca_, Es, ev_, hls, te_, he_⟩ := TV.elem Ts_ n13 hix his
  injection ev_ with ev_ _ ec_
  subst ev_
  subst ec_
  have BKs := Aside0.mk Bs_
  have TEs := Aside0.mk te_
  have HEs := Aside0.mk he_
  replace his := eq_true his
  clear Bs_ Ts_ te_ he_
  obtain ⟨adt, ca_, Et, ev_, hlt, te_, he_⟩ := TV.elem Tt_ n13 hix hit
  injection ev_ with ev_ _ ec_
  subst ev_
  subst ec_
  have BKt := Aside0.mk Bt_
  have TEt := Aside0.mk te_
  have HEt := Aside0.mk he_
  replace hit := eq_true hit
  clear Bt_ Tt_ te_ he_
  obtain ⟨adm, ca_, Em, ev_, hlm, te_, he_⟩ := TV.elem Tm_ n13 hix him
  injection ev_ with ev_ _ ec_
  subst ev_
  subst ec_
  have BKm := Aside0.mk Bm_
  have TEm := Aside0.mk te_
  have HEm := Aside0.mk he_
  replace him := eq_true him
  clear Bm_ Tm_ te_ he_
  replace hix := eq_true hix
  have AH15 := Aside0.mk H15
  clear H15
  have AH35 := Aside0.mk H35
  clear H35
  have AH14 := Aside0.mk H14
  clear H14
  have AH33 := Aside0.mk H33
  clear H33
  have AH34 := Aside0.mk H34
  clear H34
  have HB := Aside0.mk (below_drew1 (Below.refl W.heap.size W))
  conv in (opsOf Tryd.f7 16) => whnf
  refine start_ (n := 38) (S := fun w' => True) (ds := []) #[false, false, false, false, false, false, false, false, false, false, false, false, false, false, false, false, false, false, false, false, false, false, false, false, false, false, false, false, false, false, false, false, false, false, false, false, false, false] (by kernel_rfl) rfl rfl trivial (fun hHeld => ?_)
  clear hHeld
  generalize W.drew = W1 at HB ⊢
  refine inv_at [0, 1, 2, 3, 4, 5, 6, 7, 8, 9, 10, 11, 12, 13, 14, 15, 16, 17, 18, 19, 20, 21, 22, 23, 24, 25, 26, 27, 28, 29, 30, 31, 32, 33, 34, 35, 36, 37] (fun a0_ b a w' => ∃ (u14 : Value) (u33 : Value) (u34 : Value) (m14_ : Value) (m33_ : Value) (m34_ : Value), a = putSel a0_ b [(0, 85, .pointer (some ⟨bs, 2, none⟩)), (1, 86, .slice (some ads) ks.length cs), (2, 87, .int .i64 n13), (3, 88, .pointer (some (ads.add (n13.toNat * 3)))), (4, 89, .agg #[.int .i64 (rd_T29 ks n13).f0, .int .i64 (rd_T29 ks n13).f1, Es]), (5, 90, .pointer (some ⟨bt, 2, none⟩)), (6, 91, .slice (some adt) kt.length ct), (7, 92, .int .i64 n13), (8, 93, .pointer (some (adt.add (n13.toNat * 3)))), (9, 94, .agg #[.int .i64 (rd_T29 kt n13).f0, .int .i64 (rd_T29 kt n13).f1, Et]), (10, 95, .int .i64 n3), (11, 96, .int .i64 n2), (12, 97, .int .i64 n14), (13, 98, .int .i64 (wrap64 (n2 + n14))), (14, 99, m14_), (15, 100, .bool true), (16, 101, .bool false), (17, 102, .bool false), (18, 103, .pointer (some ⟨bm, 2, none⟩)), (19, 104, .slice (some adm) km.length cm), (20, 105, .int .i64 n13), (21, 106, .pointer (some (adm.add (n13.toNat * 3)))), (22, 107, .agg #[.int .i64 (rd_T29 km n13).f0, .int .i64 (rd_T29 km n13).f1, Em]), (23, 108, .pointer (some ⟨bt, 2, none⟩)), (24, 109, .slice (some adt) kt.length ct), (25, 110, .int .i64 n13), (26, 111, .pointer (some (adt.add (n13.toNat * 3)))), (27, 112, .agg #[.int .i64 (rd_T29 kt n13).f0, .int .i64 (rd_T29 kt n13).f1, Et]), (28, 113, .int .i64 n2), (29, 114, .int .i64 n14), (30, 115, .int .i64 (wrap64 (n2 + n14))), (31, 116, .agg #[.int .i64 xu, .int .i64 yu, vu]), (32, 117, .int .i64 n14), (33, 118, m33_), (34, 119, m34_), (35, 120, .bool true), (36, 121, .bool false), (37, 122, .bool false)] ∧ (Below W.heap.size W w') ∧ (b 14 = true → TV w' (fun k_ => False) u14 k14_) ∧ (b 33 = true → TV w' (fun k_ => False) u33 k33_) ∧ (b 34 = true → TV w' (fun k_ => False) u34 k34_) ∧ (b 14 = true → (m14_ : Value) = .agg #[.int .i64 r14_0, .int .i64 r14_1, u14]) ∧ (b 33 = true → (m33_ : Value) = .agg #[.int .i64 r33_0, .int .i64 r33_1, u33]) ∧ (b 34 = true → (m34_ : Value) = .agg #[.int .i64 r34_0, .int .i64 r34_1, u34])) HT_.out HW_.out (by kernel_rfl) (by kernel_rfl) ?_ ?_ ?_
  · exact ⟨.bool false, .bool false, .bool false, .bool false, .bool false, .bool false, by simp only [putSel, Bool.false_eq_true, if_false], HB.out, fun h_ => absurd h_ (by decide), fun h_ => absurd h_ (by decide), fun h_ => absurd h_ (by decide), fun h_ => absurd h_ (by decide), fun h_ => absurd h_ (by decide), fun h_ => absurd h_ (by decide)⟩
  · skip
    clear HB
    refine steps_cons ?_ ?_
    · rintro b a w' ⟨u14, u33, u34, m14_, m33_, m34_, ha, Q_HB, Q_F14, Q_F33, Q_F34, Q_X14_, Q_X33_, Q_X34_⟩ hb_ hon hoff
      refine ⟨_, rfl, fun K hK => ?_⟩
      have e11 : a.tmps[11]? = some (.pointer (some ⟨bs, 0, none⟩)) := by rw [ha]; exact (putSel_off rfl).trans hs
      replace ha := Aside0.mk ha
      have HB := Aside0.mk Q_HB
      refine value_ (w1 := w') (v := .pointer (some ⟨bs, 2, none⟩)) (by rfl) rfl ?_ ?_
      · go_simp
        (try simp only [i64_w])
        try rfl
      refine hK.out _ _ ⟨u14, u33, u34, m14_, m33_, m34_, (by rw [ha.out]; exact putSel_upk 0 hb_ rfl rfl rfl), Q_HB, Q_F14, fun h0_ => absurd ((hoff 33 (by kernel_rfl)).symm.trans h0_) (by decide), fun h0_ => absurd ((hoff 34 (by kernel_rfl)).symm.trans h0_) (by decide), Q_X14_, fun h0_ => absurd ((hoff 33 (by kernel_rfl)).symm.trans h0_) (by decide), fun h0_ => absurd ((hoff 34 (by kernel_rfl)).symm.trans h0_) (by decide)⟩
    refine steps_cons ?_ ?_
    · rintro b a w' ⟨u14, u33, u34, m14_, m33_, m34_, ha, Q_HB, Q_F14, Q_F33, Q_F34, Q_X14_, Q_X33_, Q_X34_⟩ hb_ hon hoff
      refine ⟨_, rfl, fun K hK => ?_⟩
      have e85 : a.tmps[85]? = some (.pointer (some ⟨bs, 2, none⟩)) := by rw [ha]; exact putSel_on (e := (0, 85, .pointer (some ⟨bs, 2, none⟩))) 0 rfl rfl (hon 0 (by kernel_rfl)) (by rw [hsz]; rfl)
      replace ha := Aside0.mk ha
      have HB := Aside0.mk Q_HB
      have hc2_ : w'.cell? ⟨bs, 2, none⟩ = some (.slice (some ads) ks.length cs) := (blk_cell (blk_below BKs.out HB.out) 2).trans rfl
      refine value_ (w1 := w') (v := .slice (some ads) ks.length cs) (by rfl) rfl ?_ ?_
      · go_simp
        (try simp only [i64_w])
        try rfl
      refine hK.out _ _ ⟨u14, u33, u34, m14_, m33_, m34_, (by rw [ha.out]; exact putSel_upk 1 hb_ rfl rfl rfl), Q_HB, Q_F14, fun h0_ => absurd ((hoff 33 (by kernel_rfl)).symm.trans h0_) (by decide), fun h0_ => absurd ((hoff 34 (by kernel_rfl)).symm.trans h0_) (by decide), Q_X14_, fun h0_ => absurd ((hoff 33 (by kernel_rfl)).symm.trans h0_) (by decide), fun h0_ => absurd ((hoff 34 (by kernel_rfl)).symm.trans h0_) (by decide)⟩
    refine steps_cons ?_ ?_
    · rintro b a w' ⟨u14, u33, u34, m14_, m33_, m34_, ha, Q_HB, Q_F14, Q_F33, Q_F34, Q_X14_, Q_X33_, Q_X34_⟩ hb_ hon hoff
      refine ⟨_, rfl, fun K hK => ?_⟩
      have e13 : a.tmps[13]? = some (.int .i64 n13) := by rw [ha]; exact (putSel_off rfl).trans hn13
      replace ha := Aside0.mk ha
      have HB := Aside0.mk Q_HB
      refine value_ (w1 := w') (v := .int .i64 n13) (by rfl) rfl ?_ ?_
      · go_simp
        (try simp only [i64_w])
        try rfl
      refine hK.out _ _ ⟨u14, u33, u34, m14_, m33_, m34_, (by rw [ha.out]; exact putSel_upk 2 hb_ rfl rfl rfl), Q_HB, Q_F14, fun h0_ => absurd ((hoff 33 (by kernel_rfl)).symm.trans h0_) (by decide), fun h0_ => absurd ((hoff 34 (by kernel_rfl)).symm.trans h0_) (by decide), Q_X14_, fun h0_ => absurd ((hoff 33 (by kernel_rfl)).symm.trans h0_) (by decide), fun h0_ => absurd ((hoff 34 (by kernel_rfl)).symm.trans h0_) (by decide)⟩
    refine steps_cons ?_ ?_
    · rintro b a w' ⟨u14, u33, u34, m14_, m33_, m34_, ha, Q_HB, Q_F14, Q_F33, Q_F34, Q_X14_, Q_X33_, Q_X34_⟩ hb_ hon hoff
      refine ⟨_, rfl, fun K hK => ?_⟩
      have e86 : a.tmps[86]? = some (.slice (some ads) ks.length cs) := by rw [ha]; exact putSel_on (e := (1, 86, .slice (some ads) ks.length cs)) 1 rfl rfl (hon 1 (by kernel_rfl)) (by rw [hsz]; rfl)
      have e87 : a.tmps[87]? = some (.int .i64 n13) := by rw [ha]; exact putSel_on (e := (2, 87, .int .i64 n13)) 2 rfl rfl (hon 2 (by kernel_rfl)) (by rw [hsz]; rfl)
      replace ha := Aside0.mk ha
      have HB := Aside0.mk Q_HB
      refine value_ (w1 := w') (v := .pointer (some (ads.add (n13.toNat * 3)))) (by rfl) rfl ?_ ?_
      · go_simp
        (try simp only [i64_w])
        try rfl
      refine hK.out _ _ ⟨u14, u33, u34, m14_, m33_, m34_, (by rw [ha.out]; exact putSel_upk 3 hb_ rfl rfl rfl), Q_HB, Q_F14, fun h0_ => absurd ((hoff 33 (by kernel_rfl)).symm.trans h0_) (by decide), fun h0_ => absurd ((hoff 34 (by kernel_rfl)).symm.trans h0_) (by decide), Q_X14_, fun h0_ => absurd ((hoff 33 (by kernel_rfl)).symm.trans h0_) (by decide), fun h0_ => absurd ((hoff 34 (by kernel_rfl)).symm.trans h0_) (by decide)⟩
    refine steps_cons ?_ ?_
    · rintro b a w' ⟨u14, u33, u34, m14_, m33_, m34_, ha, Q_HB, Q_F14, Q_F33, Q_F34, Q_X14_, Q_X33_, Q_X34_⟩ hb_ hon hoff
      refine ⟨_, rfl, fun K hK => ?_⟩
      have e88 : a.tmps[88]? = some (.pointer (some (ads.add (n13.toNat * 3)))) := by rw [ha]; exact putSel_on (e := (3, 88, .pointer (some (ads.add (n13.toNat * 3))))) 3 rfl rfl (hon 3 (by kernel_rfl)) (by rw [hsz]; rfl)
      replace ha := Aside0.mk ha
      have HB := Aside0.mk Q_HB
      obtain ⟨hx0_, hx1_, hx2_⟩ := HEs.out _ HB.out
      refine value_ (w1 := w') (v := .agg #[.int .i64 (rd_T29 ks n13).f0, .int .i64 (rd_T29 ks n13).f1, Es]) (by rfl) rfl ?_ ?_
      · go_simp
        (try simp only [i64_w])
        try rfl
      refine hK.out _ _ ⟨u14, u33, u34, m14_, m33_, m34_, (by rw [ha.out]; exact putSel_upk 4 hb_ rfl rfl rfl), Q_HB, Q_F14, fun h0_ => absurd ((hoff 33 (by kernel_rfl)).symm.trans h0_) (by decide), fun h0_ => absurd ((hoff 34 (by kernel_rfl)).symm.trans h0_) (by decide), Q_X14_, fun h0_ => absurd ((hoff 33 (by kernel_rfl)).symm.trans h0_) (by decide), fun h0_ => absurd ((hoff 34 (by kernel_rfl)).symm.trans h0_) (by decide)⟩
    refine steps_cons ?_ ?_
    · rintro b a w' ⟨u14, u33, u34, m14_, m33_, m34_, ha, Q_HB, Q_F14, Q_F33, Q_F34, Q_X14_, Q_X33_, Q_X34_⟩ hb_ hon hoff
      refine ⟨_, rfl, fun K hK => ?_⟩
      have e9 : a.tmps[9]? = some (.pointer (some ⟨bt, 0, none⟩)) := by rw [ha]; exact (putSel_off rfl).trans ht
      replace ha := Aside0.mk ha
      have HB := Aside0.mk Q_HB
      refine value_ (w1 := w') (v := .pointer (some ⟨bt, 2, none⟩)) (by rfl) rfl ?_ ?_
      · go_simp
        (try simp only [i64_w])
        try rfl
      refine hK.out _ _ ⟨u14, u33, u34, m14_, m33_, m34_, (by rw [ha.out]; exact putSel_upk 5 hb_ rfl rfl rfl), Q_HB, fun h0_ => absurd ((hoff 14 (by kernel_rfl)).symm.trans h0_) (by decide), fun h0_ => absurd ((hoff 33 (by kernel_rfl)).symm.trans h0_) (by decide), fun h0_ => absurd ((hoff 34 (by kernel_rfl)).symm.trans h0_) (by decide), fun h0_ => absurd ((hoff 14 (by kernel_rfl)).symm.trans h0_) (by decide), fun h0_ => absurd ((hoff 33 (by kernel_rfl)).symm.trans h0_) (by decide), fun h0_ => absurd ((hoff 34 (by kernel_rfl)).symm.trans h0_) (by decide)⟩
    refine steps_cons ?_ ?_
    · rintro b a w' ⟨u14, u33, u34, m14_, m33_, m34_, ha, Q_HB, Q_F14, Q_F33, Q_F34, Q_X14_, Q_X33_, Q_X34_⟩ hb_ hon hoff
      refine ⟨_, rfl, fun K hK => ?_⟩
      have e90 : a.tmps[90]? = some (.pointer (some ⟨bt, 2, none⟩)) := by rw [ha]; exact putSel_on (e := (5, 90, .pointer (some ⟨bt, 2, none⟩))) 5 rfl rfl (hon 5 (by kernel_rfl)) (by rw [hsz]; rfl)
      replace ha := Aside0.mk ha
      have HB := Aside0.mk Q_HB
      have hc2_ : w'.cell? ⟨bt, 2, none⟩ = some (.slice (some adt) kt.length ct) := (blk_cell (blk_below BKt.out HB.out) 2).trans rfl
      refine value_ (w1 := w') (v := .slice (some adt) kt.length ct) (by rfl) rfl ?_ ?_
      · go_simp
        (try simp only [i64_w])
        try rfl
      refine hK.out _ _ ⟨u14, u33, u34, m14_, m33_, m34_, (by rw [ha.out]; exact putSel_upk 6 hb_ rfl rfl rfl), Q_HB, fun h0_ => absurd ((hoff 14 (by kernel_rfl)).symm.trans h0_) (by decide), fun h0_ => absurd ((hoff 33 (by kernel_rfl)).symm.trans h0_) (by decide), fun h0_ => absurd ((hoff 34 (by kernel_rfl)).symm.trans h0_) (by decide), fun h0_ => absurd ((hoff 14 (by kernel_rfl)).symm.trans h0_) (by decide), fun h0_ => absurd ((hoff 33 (by kernel_rfl)).symm.trans h0_) (by decide), fun h0_ => absurd ((hoff 34 (by kernel_rfl)).symm.trans h0_) (by decide)⟩
    refine steps_cons ?_ ?_
    · rintro b a w' ⟨u14, u33, u34, m14_, m33_, m34_, ha, Q_HB, Q_F14, Q_F33, Q_F34, Q_X14_, Q_X33_, Q_X34_⟩ hb_ hon hoff
      refine ⟨_, rfl, fun K hK => ?_⟩
      have e13 : a.tmps[13]? = some (.int .i64 n13) := by rw [ha]; exact (putSel_off rfl).trans hn13
      replace ha := Aside0.mk ha
      have HB := Aside0.mk Q_HB
      refine value_ (w1 := w') (v := .int .i64 n13) (by rfl) rfl ?_ ?_
      · go_simp
        (try simp only [i64_w])
        try rfl
      refine hK.out _ _ ⟨u14, u33, u34, m14_, m33_, m34_, (by rw [ha.out]; exact putSel_upk 7 hb_ rfl rfl rfl), Q_HB, fun h0_ => absurd ((hoff 14 (by kernel_rfl)).symm.trans h0_) (by decide), fun h0_ => absurd ((hoff 33 (by kernel_rfl)).symm.trans h0_) (by decide), fun h0_ => absurd ((hoff 34 (by kernel_rfl)).symm.trans h0_) (by decide), fun h0_ => absurd ((hoff 14 (by kernel_rfl)).symm.trans h0_) (by decide), fun h0_ => absurd ((hoff 33 (by kernel_rfl)).symm.trans h0_) (by decide), fun h0_ => absurd ((hoff 34 (by kernel_rfl)).symm.trans h0_) (by decide)⟩
    refine steps_cons ?_ ?_
    · rintro b a w' ⟨u14, u33, u34, m14_, m33_, m34_, ha, Q_HB, Q_F14, Q_F33, Q_F34, Q_X14_, Q_X33_, Q_X34_⟩ hb_ hon hoff
      refine ⟨_, rfl, fun K hK => ?_⟩
      have e91 : a.tmps[91]? = some (.slice (some adt) kt.length ct) := by rw [ha]; exact putSel_on (e := (6, 91, .slice (some adt) kt.length ct)) 6 rfl rfl (hon 6 (by kernel_rfl)) (by rw [hsz]; rfl)
      have e92 : a.tmps[92]? = some (.int .i64 n13) := by rw [ha]; exact putSel_on (e := (7, 92, .int .i64 n13)) 7 rfl rfl (hon 7 (by kernel_rfl)) (by rw [hsz]; rfl)
      replace ha := Aside0.mk ha
      have HB := Aside0.mk Q_HB
      refine value_ (w1 := w') (v := .pointer (some (adt.add (n13.toNat * 3)))) (by rfl) rfl ?_ ?_
      · go_simp
        (try simp only [i64_w])
        try rfl
      refine hK.out _ _ ⟨u14, u33, u34, m14_, m33_, m34_, (by rw [ha.out]; exact putSel_upk 8 hb_ rfl rfl rfl), Q_HB, fun h0_ => absurd ((hoff 14 (by kernel_rfl)).symm.trans h0_) (by decide), fun h0_ => absurd ((hoff 33 (by kernel_rfl)).symm.trans h0_) (by decide), fun h0_ => absurd ((hoff 34 (by kernel_rfl)).symm.trans h0_) (by decide), fun h0_ => absurd ((hoff 14 (by kernel_rfl)).symm.trans h0_) (by decide), fun h0_ => absurd ((hoff 33 (by kernel_rfl)).symm.trans h0_) (by decide), fun h0_ => absurd ((hoff 34 (by kernel_rfl)).symm.trans h0_) (by decide)⟩
    refine steps_cons ?_ ?_
    · rintro b a w' ⟨u14, u33, u34, m14_, m33_, m34_, ha, Q_HB, Q_F14, Q_F33, Q_F34, Q_X14_, Q_X33_, Q_X34_⟩ hb_ hon hoff
      refine ⟨_, rfl, fun K hK => ?_⟩
      have e93 : a.tmps[93]? = some (.pointer (some (adt.add (n13.toNat * 3)))) := by rw [ha]; exact putSel_on (e := (8, 93, .pointer (some (adt.add (n13.toNat * 3))))) 8 rfl rfl (hon 8 (by kernel_rfl)) (by rw [hsz]; rfl)
      replace ha := Aside0.mk ha
      have HB := Aside0.mk Q_HB
      obtain ⟨hx0_, hx1_, hx2_⟩ := HEt.out _ HB.out
      refine value_ (w1 := w') (v := .agg #[.int .i64 (rd_T29 kt n13).f0, .int .i64 (rd_T29 kt n13).f1, Et]) (by rfl) rfl ?_ ?_
      · go_simp
        (try simp only [i64_w])
        try rfl
      refine hK.out _ _ ⟨u14, u33, u34, m14_, m33_, m34_, (by rw [ha.out]; exact putSel_upk 9 hb_ rfl rfl rfl), Q_HB, fun h0_ => absurd ((hoff 14 (by kernel_rfl)).symm.trans h0_) (by decide), fun h0_ => absurd ((hoff 33 (by kernel_rfl)).symm.trans h0_) (by decide), fun h0_ => absurd ((hoff 34 (by kernel_rfl)).symm.trans h0_) (by decide), fun h0_ => absurd ((hoff 14 (by kernel_rfl)).symm.trans h0_) (by decide), fun h0_ => absurd ((hoff 33 (by kernel_rfl)).symm.trans h0_) (by decide), fun h0_ => absurd ((hoff 34 (by kernel_rfl)).symm.trans h0_) (by decide)⟩
    refine steps_cons ?_ ?_
    · rintro b a w' ⟨u14, u33, u34, m14_, m33_, m34_, ha, Q_HB, Q_F14, Q_F33, Q_F34, Q_X14_, Q_X33_, Q_X34_⟩ hb_ hon hoff
      refine ⟨_, rfl, fun K hK => ?_⟩
      have e3 : a.tmps[3]? = some (.int .i64 n3) := by rw [ha]; exact (putSel_off rfl).trans hn3
      replace ha := Aside0.mk ha
      have HB := Aside0.mk Q_HB
      refine value_ (w1 := w') (v := .int .i64 n3) (by rfl) rfl ?_ ?_
      · go_simp
        (try simp only [i64_w])
        try rfl
      refine hK.out _ _ ⟨u14, u33, u34, m14_, m33_, m34_, (by rw [ha.out]; exact putSel_upk 10 hb_ rfl rfl rfl), Q_HB, fun h0_ => absurd ((hoff 14 (by kernel_rfl)).symm.trans h0_) (by decide), fun h0_ => absurd ((hoff 33 (by kernel_rfl)).symm.trans h0_) (by decide), fun h0_ => absurd ((hoff 34 (by kernel_rfl)).symm.trans h0_) (by decide), fun h0_ => absurd ((hoff 14 (by kernel_rfl)).symm.trans h0_) (by decide), fun h0_ => absurd ((hoff 33 (by kernel_rfl)).symm.trans h0_) (by decide), fun h0_ => absurd ((hoff 34 (by kernel_rfl)).symm.trans h0_) (by decide)⟩
    refine steps_cons ?_ ?_
    · rintro b a w' ⟨u14, u33, u34, m14_, m33_, m34_, ha, Q_HB, Q_F14, Q_F33, Q_F34, Q_X14_, Q_X33_, Q_X34_⟩ hb_ hon hoff
      refine ⟨_, rfl, fun K hK => ?_⟩
      have e2 : a.tmps[2]? = some (.int .i64 n2) := by rw [ha]; exact (putSel_off rfl).trans hn2
      replace ha := Aside0.mk ha
      have HB := Aside0.mk Q_HB
      refine value_ (w1 := w') (v := .int .i64 n2) (by rfl) rfl ?_ ?_
      · go_simp
        (try simp only [i64_w])
        try rfl
      refine hK.out _ _ ⟨u14, u33, u34, m14_, m33_, m34_, (by rw [ha.out]; exact putSel_upk 11 hb_ rfl rfl rfl), Q_HB, fun h0_ => absurd ((hoff 14 (by kernel_rfl)).symm.trans h0_) (by decide), fun h0_ => absurd ((hoff 33 (by kernel_rfl)).symm.trans h0_) (by decide), fun h0_ => absurd ((hoff 34 (by kernel_rfl)).symm.trans h0_) (by decide), fun h0_ => absurd ((hoff 14 (by kernel_rfl)).symm.trans h0_) (by decide), fun h0_ => absurd ((hoff 33 (by kernel_rfl)).symm.trans h0_) (by decide), fun h0_ => absurd ((hoff 34 (by kernel_rfl)).symm.trans h0_) (by decide)⟩
    refine steps_cons ?_ ?_
    · rintro b a w' ⟨u14, u33, u34, m14_, m33_, m34_, ha, Q_HB, Q_F14, Q_F33, Q_F34, Q_X14_, Q_X33_, Q_X34_⟩ hb_ hon hoff
      refine ⟨_, rfl, fun K hK => ?_⟩
      have e14 : a.tmps[14]? = some (.int .i64 n14) := by rw [ha]; exact (putSel_off rfl).trans hn14
      replace ha := Aside0.mk ha
      have HB := Aside0.mk Q_HB
      refine value_ (w1 := w') (v := .int .i64 n14) (by rfl) rfl ?_ ?_
      · go_simp
        (try simp only [i64_w])
        try rfl
      refine hK.out _ _ ⟨u14, u33, u34, m14_, m33_, m34_, (by rw [ha.out]; exact putSel_upk 12 hb_ rfl rfl rfl), Q_HB, fun h0_ => absurd ((hoff 14 (by kernel_rfl)).symm.trans h0_) (by decide), fun h0_ => absurd ((hoff 33 (by kernel_rfl)).symm.trans h0_) (by decide), fun h0_ => absurd ((hoff 34 (by kernel_rfl)).symm.trans h0_) (by decide), fun h0_ => absurd ((hoff 14 (by kernel_rfl)).symm.trans h0_) (by decide), fun h0_ => absurd ((hoff 33 (by kernel_rfl)).symm.trans h0_) (by decide), fun h0_ => absurd ((hoff 34 (by kernel_rfl)).symm.trans h0_) (by decide)⟩
    refine steps_cons ?_ ?_
    · rintro b a w' ⟨u14, u33, u34, m14_, m33_, m34_, ha, Q_HB, Q_F14, Q_F33, Q_F34, Q_X14_, Q_X33_, Q_X34_⟩ hb_ hon hoff
      refine ⟨_, rfl, fun K hK => ?_⟩
      have e96 : a.tmps[96]? = some (.int .i64 n2) := by rw [ha]; exact putSel_on (e := (11, 96, .int .i64 n2)) 11 rfl rfl (hon 11 (by kernel_rfl)) (by rw [hsz]; rfl)
      have e97 : a.tmps[97]? = some (.int .i64 n14) := by rw [ha]; exact putSel_on (e := (12, 97, .int .i64 n14)) 12 rfl rfl (hon 12 (by kernel_rfl)) (by rw [hsz]; rfl)
      replace ha := Aside0.mk ha
      have HB := Aside0.mk Q_HB
      refine value_ (w1 := w') (v := .int .i64 (wrap64 (n2 + n14))) (by rfl) rfl ?_ ?_
      · go_simp
        (try simp only [i64_w])
        try rfl
      refine hK.out _ _ ⟨u14, u33, u34, m14_, m33_, m34_, (by rw [ha.out]; exact putSel_upk 13 hb_ rfl rfl rfl), Q_HB, fun h0_ => absurd ((hoff 14 (by kernel_rfl)).symm.trans h0_) (by decide), fun h0_ => absurd ((hoff 33 (by kernel_rfl)).symm.trans h0_) (by decide), fun h0_ => absurd ((hoff 34 (by kernel_rfl)).symm.trans h0_) (by decide), fun h0_ => absurd ((hoff 14 (by kernel_rfl)).symm.trans h0_) (by decide), fun h0_ => absurd ((hoff 33 (by kernel_rfl)).symm.trans h0_) (by decide), fun h0_ => absurd ((hoff 34 (by kernel_rfl)).symm.trans h0_) (by decide)⟩
    refine steps_cons ?_ ?_
    · rintro b a w' ⟨u14, u33, u34, m14_, m33_, m34_, ha, Q_HB, Q_F14, Q_F33, Q_F34, Q_X14_, Q_X33_, Q_X34_⟩ hb_ hon hoff
      refine ⟨_, rfl, fun K hK => ?_⟩
      have e94 : a.tmps[94]? = some (.agg #[.int .i64 (rd_T29 kt n13).f0, .int .i64 (rd_T29 kt n13).f1, Et]) := by rw [ha]; exact putSel_on (e := (9, 94, .agg #[.int .i64 (rd_T29 kt n13).f0, .int .i64 (rd_T29 kt n13).f1, Et])) 9 rfl rfl (hon 9 (by kernel_rfl)) (by rw [hsz]; rfl)
      have e95 : a.tmps[95]? = some (.int .i64 n3) := by rw [ha]; exact putSel_on (e := (10, 95, .int .i64 n3)) 10 rfl rfl (hon 10 (by kernel_rfl)) (by rw [hsz]; rfl)
      have e98 : a.tmps[98]? = some (.int .i64 (wrap64 (n2 + n14))) := by rw [ha]; exact putSel_on (e := (13, 98, .int .i64 (wrap64 (n2 + n14)))) 13 rfl rfl (hon 13 (by kernel_rfl)) (by rw [hsz]; rfl)
      replace ha := Aside0.mk ha
      have HB := Aside0.mk Q_HB
      refine goes_ Tryd.func23 (by kernel_rfl) rfl #[.agg #[.int .i64 (rd_T29 kt n13).f0, .int .i64 (rd_T29 kt n13).f1, Et], .int .i64 n3, .int .i64 (wrap64 (n2 + n14))] (by rfl) rfl rfl (by first | (simp only [List.map_toArray, List.map_cons, List.map_nil, Act.eval, Array.getD_eq_getD_getElem?, Option.getD_some, e94, e95, e98]; done) | (simp only [List.map_toArray, List.map_cons, List.map_nil, Act.eval, Array.getD_eq_getD_getElem?, Option.getD_some, e94, e95, e98]; rfl)) ?_
      refine (shift_go kk (rd_T29 kt n13).f0 (rd_T29 kt n13).f1 Et (rd_T29 kt n13).f2 n3 (wrap64 (n2 + n14)) r14_0 r14_1 k14_ w' (fun k_ => False) (fun k_ h_ => h_.elim) (TV.old TEt.out HB.out (fun k_ h_ => h_.elim)) AH14.out).mono ?_
      rintro e w1 ⟨v_, rfl, hv, hb⟩
      refine ⟨_, rfl, ?_⟩
      refine hK.out _ _ ⟨v_, u33, u34, (.agg #[.int .i64 r14_0, .int .i64 r14_1, v_]), m33_, m34_, (by rw [ha.out]; exact putSel_upk 14 hb_ rfl rfl rfl), below_step HB.out hb, fun _ => hv, fun h0_ => absurd ((hoff 33 (by kernel_rfl)).symm.trans h0_) (by decide), fun h0_ => absurd ((hoff 34 (by kernel_rfl)).symm.trans h0_) (by decide), fun _ => rfl, fun h0_ => absurd ((hoff 33 (by kernel_rfl)).symm.trans h0_) (by decide), fun h0_ => absurd ((hoff 34 (by kernel_rfl)).symm.trans h0_) (by decide)⟩
    refine steps_cons ?_ ?_
    · rintro b a w' ⟨u14, u33, u34, m14_, m33_, m34_, ha, Q_HB, Q_F14, Q_F33, Q_F34, Q_X14_, Q_X33_, Q_X34_⟩ hb_ hon hoff
      refine ⟨_, rfl, fun K hK => ?_⟩
      have e89 : a.tmps[89]? = some (.agg #[.int .i64 (rd_T29 ks n13).f0, .int .i64 (rd_T29 ks n13).f1, Es]) := by rw [ha]; exact putSel_on (e := (4, 89, .agg #[.int .i64 (rd_T29 ks n13).f0, .int .i64 (rd_T29 ks n13).f1, Es])) 4 rfl rfl (hon 4 (by kernel_rfl)) (by rw [hsz]; rfl)
      have e99 : a.tmps[99]? = some (m14_) := by rw [ha]; exact putSel_on (e := (14, 99, m14_)) 14 rfl rfl (hon 14 (by kernel_rfl)) (by rw [hsz]; rfl)
      rw [Q_X14_ (hon 14 (by kernel_rfl))] at e99
      replace ha := Aside0.mk ha
      have HB := Aside0.mk Q_HB
      have F14 := Aside0.mk (Q_F14 (hon 14 (by kernel_rfl)))
      refine goes_ Tryd.func18 (by kernel_rfl) rfl #[.agg #[.int .i64 (rd_T29 ks n13).f0, .int .i64 (rd_T29 ks n13).f1, Es], .agg #[.int .i64 r14_0, .int .i64 r14_1, u14]] (by rfl) rfl rfl (by first | (simp only [List.map_toArray, List.map_cons, List.map_nil, Act.eval, Array.getD_eq_getD_getElem?, Option.getD_some, e89, e99]; done) | (simp only [List.map_toArray, List.map_cons, List.map_nil, Act.eval, Array.getD_eq_getD_getElem?, Option.getD_some, e89, e99]; rfl)) ?_
      refine (same_go kk (rd_T29 ks n13).f0 (rd_T29 ks n13).f1 Es (rd_T29 ks n13).f2 r14_0 r14_1 u14 k14_ true w' (TV.old (G := fun _ => False) TEs.out HB.out (fun _ h_ => h_.elim)) F14.out AH15.out).mono ?_
      rintro e w1 ⟨rfl, hb⟩
      refine ⟨_, rfl, ?_⟩
      refine hK.out _ _ ⟨u14, u33, u34, m14_, m33_, m34_, (by rw [ha.out]; exact putSel_upk 15 hb_ rfl rfl rfl), below_step HB.out hb, fun _ => F14.out.step hb, fun h0_ => absurd ((hoff 33 (by kernel_rfl)).symm.trans h0_) (by decide), fun h0_ => absurd ((hoff 34 (by kernel_rfl)).symm.trans h0_) (by decide), Q_X14_, fun h0_ => absurd ((hoff 33 (by kernel_rfl)).symm.trans h0_) (by decide), fun h0_ => absurd ((hoff 34 (by kernel_rfl)).symm.trans h0_) (by decide)⟩
    refine steps_cons ?_ ?_
    · rintro b a w' ⟨u14, u33, u34, m14_, m33_, m34_, ha, Q_HB, Q_F14, Q_F33, Q_F34, Q_X14_, Q_X33_, Q_X34_⟩ hb_ hon hoff
      refine ⟨_, rfl, fun K hK => ?_⟩
      have e100 : a.tmps[100]? = some (.bool true) := by rw [ha]; exact putSel_on (e := (15, 100, .bool true)) 15 rfl rfl (hon 15 (by kernel_rfl)) (by rw [hsz]; rfl)
      replace ha := Aside0.mk ha
      have HB := Aside0.mk Q_HB
      have F14 := Aside0.mk (Q_F14 (hon 14 (by kernel_rfl)))
      refine value_ (w1 := w') (v := .bool false) (by rfl) rfl ?_ ?_
      · go_simp
        (try simp only [i64_w])
        try rfl
      refine hK.out _ _ ⟨u14, u33, u34, m14_, m33_, m34_, (by rw [ha.out]; exact putSel_upk 16 hb_ rfl rfl rfl), Q_HB, Q_F14, fun h0_ => absurd ((hoff 33 (by kernel_rfl)).symm.trans h0_) (by decide), fun h0_ => absurd ((hoff 34 (by kernel_rfl)).symm.trans h0_) (by decide), Q_X14_, fun h0_ => absurd ((hoff 33 (by kernel_rfl)).symm.trans h0_) (by decide), fun h0_ => absurd ((hoff 34 (by kernel_rfl)).symm.trans h0_) (by decide)⟩
    refine steps_cons ?_ ?_
    · rintro b a w' ⟨u14, u33, u34, m14_, m33_, m34_, ha, Q_HB, Q_F14, Q_F33, Q_F34, Q_X14_, Q_X33_, Q_X34_⟩ hb_ hon hoff
      refine ⟨_, rfl, fun K hK => ?_⟩
      have e101 : a.tmps[101]? = some (.bool false) := by rw [ha]; exact putSel_on (e := (16, 101, .bool false)) 16 rfl rfl (hon 16 (by kernel_rfl)) (by rw [hsz]; rfl)
      replace ha := Aside0.mk ha
      have HB := Aside0.mk Q_HB
      have F14 := Aside0.mk (Q_F14 (hon 14 (by kernel_rfl)))
      refine value_ (w1 := w') (v := .bool false) (by rfl) rfl ?_ ?_
      · go_simp
        (try simp only [i64_w])
        try rfl
      refine hK.out _ _ ⟨u14, u33, u34, m14_, m33_, m34_, (by rw [ha.out]; exact putSel_upk 17 hb_ rfl rfl rfl), Q_HB, Q_F14, fun h0_ => absurd ((hoff 33 (by kernel_rfl)).symm.trans h0_) (by decide), fun h0_ => absurd ((hoff 34 (by kernel_rfl)).symm.trans h0_) (by decide), Q_X14_, fun h0_ => absurd ((hoff 33 (by kernel_rfl)).symm.trans h0_) (by decide), fun h0_ => absurd ((hoff 34 (by kernel_rfl)).symm.trans h0_) (by decide)⟩
    refine steps_cons ?_ ?_
    · rintro b a w' ⟨u14, u33, u34, m14_, m33_, m34_, ha, Q_HB, Q_F14, Q_F33, Q_F34, Q_X14_, Q_X33_, Q_X34_⟩ hb_ hon hoff
      refine ⟨_, rfl, fun K hK => ?_⟩
      have e12 : a.tmps[12]? = some (.pointer (some ⟨bm, 0, none⟩)) := by rw [ha]; exact (putSel_off rfl).trans hm
      have e102 : a.tmps[102]? = some (.bool false) := by rw [ha]; exact putSel_on (e := (17, 102, .bool false)) 17 rfl rfl (hon 17 (by kernel_rfl)) (by rw [hsz]; rfl)
      replace ha := Aside0.mk ha
      have HB := Aside0.mk Q_HB
      have F14 := Aside0.mk (Q_F14 (hon 14 (by kernel_rfl)))
      refine value_ (w1 := w') (v := .pointer (some ⟨bm, 2, none⟩)) (wanted_on rfl rfl rfl (e102.trans (by first | rfl | (simp [*]; done)))) rfl ?_ ?_
      · go_simp
        (try simp only [i64_w])
        try rfl
      refine hK.out _ _ ⟨u14, u33, u34, m14_, m33_, m34_, (by rw [ha.out]; exact putSel_upk 18 hb_ rfl rfl rfl), Q_HB, Q_F14, Q_F33, Q_F34, Q_X14_, Q_X33_, Q_X34_⟩
    refine steps_cons ?_ ?_
    · rintro b a w' ⟨u14, u33, u34, m14_, m33_, m34_, ha, Q_HB, Q_F14, Q_F33, Q_F34, Q_X14_, Q_X33_, Q_X34_⟩ hb_ hon hoff
      refine ⟨_, rfl, fun K hK => ?_⟩
      have e103 : a.tmps[103]? = some (.pointer (some ⟨bm, 2, none⟩)) := by rw [ha]; exact putSel_on (e := (18, 103, .pointer (some ⟨bm, 2, none⟩))) 18 rfl rfl (hon 18 (by kernel_rfl)) (by rw [hsz]; rfl)
      have e102 : a.tmps[102]? = some (.bool false) := by rw [ha]; exact putSel_on (e := (17, 102, .bool false)) 17 rfl rfl (hon 17 (by kernel_rfl)) (by rw [hsz]; rfl)
      replace ha := Aside0.mk ha
      have HB := Aside0.mk Q_HB
      have F14 := Aside0.mk (Q_F14 (hon 14 (by kernel_rfl)))
      have hc2_ : w'.cell? ⟨bm, 2, none⟩ = some (.slice (some adm) km.length cm) := (blk_cell (blk_below BKm.out HB.out) 2).trans rfl
      refine value_ (w1 := w') (v := .slice (some adm) km.length cm) (wanted_on rfl rfl rfl (e102.trans (by first | rfl | (simp [*]; done)))) rfl ?_ ?_
      · go_simp
        (try simp only [i64_w])
        try rfl
      refine hK.out _ _ ⟨u14, u33, u34, m14_, m33_, m34_, (by rw [ha.out]; exact putSel_upk 19 hb_ rfl rfl rfl), Q_HB, Q_F14, Q_F33, Q_F34, Q_X14_, Q_X33_, Q_X34_⟩
    refine steps_cons ?_ ?_
    · rintro b a w' ⟨u14, u33, u34, m14_, m33_, m34_, ha, Q_HB, Q_F14, Q_F33, Q_F34, Q_X14_, Q_X33_, Q_X34_⟩ hb_ hon hoff
      refine ⟨_, rfl, fun K hK => ?_⟩
      have e13 : a.tmps[13]? = some (.int .i64 n13) := by rw [ha]; exact (putSel_off rfl).trans hn13
      have e102 : a.tmps[102]? = some (.bool false) := by rw [ha]; exact putSel_on (e := (17, 102, .bool false)) 17 rfl rfl (hon 17 (by kernel_rfl)) (by rw [hsz]; rfl)
      replace ha := Aside0.mk ha
      have HB := Aside0.mk Q_HB
      have F14 := Aside0.mk (Q_F14 (hon 14 (by kernel_rfl)))
      refine value_ (w1 := w') (v := .int .i64 n13) (wanted_on rfl rfl rfl (e102.trans (by first | rfl | (simp [*]; done)))) rfl ?_ ?_
      · go_simp
        (try simp only [i64_w])
        try rfl
      refine hK.out _ _ ⟨u14, u33, u34, m14_, m33_, m34_, (by rw [ha.out]; exact putSel_upk 20 hb_ rfl rfl rfl), Q_HB, Q_F14, Q_F33, Q_F34, Q_X14_, Q_X33_, Q_X34_⟩
    refine steps_cons ?_ ?_
    · rintro b a w' ⟨u14, u33, u34, m14_, m33_, m34_, ha, Q_HB, Q_F14, Q_F33, Q_F34, Q_X14_, Q_X33_, Q_X34_⟩ hb_ hon hoff
      refine ⟨_, rfl, fun K hK => ?_⟩
      have e104 : a.tmps[104]? = some (.slice (some adm) km.length cm) := by rw [ha]; exact putSel_on (e := (19, 104, .slice (some adm) km.length cm)) 19 rfl rfl (hon 19 (by kernel_rfl)) (by rw [hsz]; rfl)
      have e105 : a.tmps[105]? = some (.int .i64 n13) := by rw [ha]; exact putSel_on (e := (20, 105, .int .i64 n13)) 20 rfl rfl (hon 20 (by kernel_rfl)) (by rw [hsz]; rfl)
      have e102 : a.tmps[102]? = some (.bool false) := by rw [ha]; exact putSel_on (e := (17, 102, .bool false)) 17 rfl rfl (hon 17 (by kernel_rfl)) (by rw [hsz]; rfl)
      replace ha := Aside0.mk ha
      have HB := Aside0.mk Q_HB
      have F14 := Aside0.mk (Q_F14 (hon 14 (by kernel_rfl)))
      refine value_ (w1 := w') (v := .pointer (some (adm.add (n13.toNat * 3)))) (wanted_on rfl rfl rfl (e102.trans (by first | rfl | (simp [*]; done)))) rfl ?_ ?_
      · go_simp
        (try simp only [i64_w])
        try rfl
      refine hK.out _ _ ⟨u14, u33, u34, m14_, m33_, m34_, (by rw [ha.out]; exact putSel_upk 21 hb_ rfl rfl rfl), Q_HB, Q_F14, Q_F33, Q_F34, Q_X14_, Q_X33_, Q_X34_⟩
    refine steps_cons ?_ ?_
    · rintro b a w' ⟨u14, u33, u34, m14_, m33_, m34_, ha, Q_HB, Q_F14, Q_F33, Q_F34, Q_X14_, Q_X33_, Q_X34_⟩ hb_ hon hoff
      refine ⟨_, rfl, fun K hK => ?_⟩
      have e106 : a.tmps[106]? = some (.pointer (some (adm.add (n13.toNat * 3)))) := by rw [ha]; exact putSel_on (e := (21, 106, .pointer (some (adm.add (n13.toNat * 3))))) 21 rfl rfl (hon 21 (by kernel_rfl)) (by rw [hsz]; rfl)
      have e102 : a.tmps[102]? = some (.bool false) := by rw [ha]; exact putSel_on (e := (17, 102, .bool false)) 17 rfl rfl (hon 17 (by kernel_rfl)) (by rw [hsz]; rfl)
      replace ha := Aside0.mk ha
      have HB := Aside0.mk Q_HB
      have F14 := Aside0.mk (Q_F14 (hon 14 (by kernel_rfl)))
      obtain ⟨hx0_, hx1_, hx2_⟩ := HEm.out _ HB.out
      refine value_ (w1 := w') (v := .agg #[.int .i64 (rd_T29 km n13).f0, .int .i64 (rd_T29 km n13).f1, Em]) (wanted_on rfl rfl rfl (e102.trans (by first | rfl | (simp [*]; done)))) rfl ?_ ?_
      · go_simp
        (try simp only [i64_w])
        try rfl
      refine hK.out _ _ ⟨u14, u33, u34, m14_, m33_, m34_, (by rw [ha.out]; exact putSel_upk 22 hb_ rfl rfl rfl), Q_HB, Q_F14, Q_F33, Q_F34, Q_X14_, Q_X33_, Q_X34_⟩
    refine steps_cons ?_ ?_
    · rintro b a w' ⟨u14, u33, u34, m14_, m33_, m34_, ha, Q_HB, Q_F14, Q_F33, Q_F34, Q_X14_, Q_X33_, Q_X34_⟩ hb_ hon hoff
      refine ⟨_, rfl, fun K hK => ?_⟩
      have e9 : a.tmps[9]? = some (.pointer (some ⟨bt, 0, none⟩)) := by rw [ha]; exact (putSel_off rfl).trans ht
      have e102 : a.tmps[102]? = some (.bool false) := by rw [ha]; exact putSel_on (e := (17, 102, .bool false)) 17 rfl rfl (hon 17 (by kernel_rfl)) (by rw [hsz]; rfl)
      replace ha := Aside0.mk ha
      have HB := Aside0.mk Q_HB
      have F14 := Aside0.mk (Q_F14 (hon 14 (by kernel_rfl)))
      refine value_ (w1 := w') (v := .pointer (some ⟨bt, 2, none⟩)) (wanted_on rfl rfl rfl (e102.trans (by first | rfl | (simp [*]; done)))) rfl ?_ ?_
      · go_simp
        (try simp only [i64_w])
        try rfl
      refine hK.out _ _ ⟨u14, u33, u34, m14_, m33_, m34_, (by rw [ha.out]; exact putSel_upk 23 hb_ rfl rfl rfl), Q_HB, Q_F14, Q_F33, fun h0_ => absurd ((hoff 34 (by kernel_rfl)).symm.trans h0_) (by decide), Q_X14_, Q_X33_, fun h0_ => absurd ((hoff 34 (by kernel_rfl)).symm.trans h0_) (by decide)⟩
    refine steps_cons ?_ ?_
    · rintro b a w' ⟨u14, u33, u34, m14_, m33_, m34_, ha, Q_HB, Q_F14, Q_F33, Q_F34, Q_X14_, Q_X33_, Q_X34_⟩ hb_ hon hoff
      refine ⟨_, rfl, fun K hK => ?_⟩
      have e108 : a.tmps[108]? = some (.pointer (some ⟨bt, 2, none⟩)) := by rw [ha]; exact putSel_on (e := (23, 108, .pointer (some ⟨bt, 2, none⟩))) 23 rfl rfl (hon 23 (by kernel_rfl)) (by rw [hsz]; rfl)
      have e102 : a.tmps[102]? = some (.bool false) := by rw [ha]; exact putSel_on (e := (17, 102, .bool false)) 17 rfl rfl (hon 17 (by kernel_rfl)) (by rw [hsz]; rfl)
      replace ha := Aside0.mk ha
      have HB := Aside0.mk Q_HB
      have F14 := Aside0.mk (Q_F14 (hon 14 (by kernel_rfl)))
      have hc2_ : w'.cell? ⟨bt, 2, none⟩ = some (.slice (some adt) kt.length ct) := (blk_cell (blk_below BKt.out HB.out) 2).trans rfl
      refine value_ (w1 := w') (v := .slice (some adt) kt.length ct) (wanted_on rfl rfl rfl (e102.trans (by first | rfl | (simp [*]; done)))) rfl ?_ ?_
      · go_simp
        (try simp only [i64_w])
        try rfl
      refine hK.out _ _ ⟨u14, u33, u34, m14_, m33_, m34_, (by rw [ha.out]; exact putSel_upk 24 hb_ rfl rfl rfl), Q_HB, Q_F14, Q_F33, fun h0_ => absurd ((hoff 34 (by kernel_rfl)).symm.trans h0_) (by decide), Q_X14_, Q_X33_, fun h0_ => absurd ((hoff 34 (by kernel_rfl)).symm.trans h0_) (by decide)⟩
    refine steps_cons ?_ ?_
    · rintro b a w' ⟨u14, u33, u34, m14_, m33_, m34_, ha, Q_HB, Q_F14, Q_F33, Q_F34, Q_X14_, Q_X33_, Q_X34_⟩ hb_ hon hoff
      refine ⟨_, rfl, fun K hK => ?_⟩
      have e13 : a.tmps[13]? = some (.int .i64 n13) := by rw [ha]; exact (putSel_off rfl).trans hn13
      have e102 : a.tmps[102]? = some (.bool false) := by rw [ha]; exact putSel_on (e := (17, 102, .bool false)) 17 rfl rfl (hon 17 (by kernel_rfl)) (by rw [hsz]; rfl)
      replace ha := Aside0.mk ha
      have HB := Aside0.mk Q_HB
      have F14 := Aside0.mk (Q_F14 (hon 14 (by kernel_rfl)))
      refine value_ (w1 := w') (v := .int .i64 n13) (wanted_on rfl rfl rfl (e102.trans (by first | rfl | (simp [*]; done)))) rfl ?_ ?_
      · go_simp
        (try simp only [i64_w])
        try rfl
      refine hK.out _ _ ⟨u14, u33, u34, m14_, m33_, m34_, (by rw [ha.out]; exact putSel_upk 25 hb_ rfl rfl rfl), Q_HB, Q_F14, Q_F33, fun h0_ => absurd ((hoff 34 (by kernel_rfl)).symm.trans h0_) (by decide), Q_X14_, Q_X33_, fun h0_ => absurd ((hoff 34 (by kernel_rfl)).symm.trans h0_) (by decide)⟩
    refine steps_cons ?_ ?_
    · rintro b a w' ⟨u14, u33, u34, m14_, m33_, m34_, ha, Q_HB, Q_F14, Q_F33, Q_F34, Q_X14_, Q_X33_, Q_X34_⟩ hb_ hon hoff
      refine ⟨_, rfl, fun K hK => ?_⟩
      have e109 : a.tmps[109]? = some (.slice (some adt) kt.length ct) := by rw [ha]; exact putSel_on (e := (24, 109, .slice (some adt) kt.length ct)) 24 rfl rfl (hon 24 (by kernel_rfl)) (by rw [hsz]; rfl)
      have e110 : a.tmps[110]? = some (.int .i64 n13) := by rw [ha]; exact putSel_on (e := (25, 110, .int .i64 n13)) 25 rfl rfl (hon 25 (by kernel_rfl)) (by rw [hsz]; rfl)
      have e102 : a.tmps[102]? = some (.bool false) := by rw [ha]; exact putSel_on (e := (17, 102, .bool false)) 17 rfl rfl (hon 17 (by kernel_rfl)) (by rw [hsz]; rfl)
      replace ha := Aside0.mk ha
      have HB := Aside0.mk Q_HB
      have F14 := Aside0.mk (Q_F14 (hon 14 (by kernel_rfl)))
      refine value_ (w1 := w') (v := .pointer (some (adt.add (n13.toNat * 3)))) (wanted_on rfl rfl rfl (e102.trans (by first | rfl | (simp [*]; done)))) rfl ?_ ?_
      · go_simp
        (try simp only [i64_w])
        try rfl
      refine hK.out _ _ ⟨u14, u33, u34, m14_, m33_, m34_, (by rw [ha.out]; exact putSel_upk 26 hb_ rfl rfl rfl), Q_HB, Q_F14, Q_F33, fun h0_ => absurd ((hoff 34 (by kernel_rfl)).symm.trans h0_) (by decide), Q_X14_, Q_X33_, fun h0_ => absurd ((hoff 34 (by kernel_rfl)).symm.trans h0_) (by decide)⟩
    refine steps_cons ?_ ?_
    · rintro b a w' ⟨u14, u33, u34, m14_, m33_, m34_, ha, Q_HB, Q_F14, Q_F33, Q_F34, Q_X14_, Q_X33_, Q_X34_⟩ hb_ hon hoff
      refine ⟨_, rfl, fun K hK => ?_⟩
      have e111 : a.tmps[111]? = some (.pointer (some (adt.add (n13.toNat * 3)))) := by rw [ha]; exact putSel_on (e := (26, 111, .pointer (some (adt.add (n13.toNat * 3))))) 26 rfl rfl (hon 26 (by kernel_rfl)) (by rw [hsz]; rfl)
      have e102 : a.tmps[102]? = some (.bool false) := by rw [ha]; exact putSel_on (e := (17, 102, .bool false)) 17 rfl rfl (hon 17 (by kernel_rfl)) (by rw [hsz]; rfl)
      replace ha := Aside0.mk ha
      have HB := Aside0.mk Q_HB
      have F14 := Aside0.mk (Q_F14 (hon 14 (by kernel_rfl)))
      obtain ⟨hx0_, hx1_, hx2_⟩ := HEt.out _ HB.out
      refine value_ (w1 := w') (v := .agg #[.int .i64 (rd_T29 kt n13).f0, .int .i64 (rd_T29 kt n13).f1, Et]) (wanted_on rfl rfl rfl (e102.trans (by first | rfl | (simp [*]; done)))) rfl ?_ ?_
      · go_simp
        (try simp only [i64_w])
        try rfl
      refine hK.out _ _ ⟨u14, u33, u34, m14_, m33_, m34_, (by rw [ha.out]; exact putSel_upk 27 hb_ rfl rfl rfl), Q_HB, Q_F14, Q_F33, fun h0_ => absurd ((hoff 34 (by kernel_rfl)).symm.trans h0_) (by decide), Q_X14_, Q_X33_, fun h0_ => absurd ((hoff 34 (by kernel_rfl)).symm.trans h0_) (by decide)⟩
    refine steps_cons ?_ ?_
    · rintro b a w' ⟨u14, u33, u34, m14_, m33_, m34_, ha, Q_HB, Q_F14, Q_F33, Q_F34, Q_X14_, Q_X33_, Q_X34_⟩ hb_ hon hoff
      refine ⟨_, rfl, fun K hK => ?_⟩
      have e2 : a.tmps[2]? = some (.int .i64 n2) := by rw [ha]; exact (putSel_off rfl).trans hn2
      have e102 : a.tmps[102]? = some (.bool false) := by rw [ha]; exact putSel_on (e := (17, 102, .bool false)) 17 rfl rfl (hon 17 (by kernel_rfl)) (by rw [hsz]; rfl)
      replace ha := Aside0.mk ha
      have HB := Aside0.mk Q_HB
      have F14 := Aside0.mk (Q_F14 (hon 14 (by kernel_rfl)))
      refine value_ (w1 := w') (v := .int .i64 n2) (wanted_on rfl rfl rfl (e102.trans (by first | rfl | (simp [*]; done)))) rfl ?_ ?_
      · go_simp
        (try simp only [i64_w])
        try rfl
      refine hK.out _ _ ⟨u14, u33, u34, m14_, m33_, m34_, (by rw [ha.out]; exact putSel_upk 28 hb_ rfl rfl rfl), Q_HB, Q_F14, Q_F33, fun h0_ => absurd ((hoff 34 (by kernel_rfl)).symm.trans h0_) (by decide), Q_X14_, Q_X33_, fun h0_ => absurd ((hoff 34 (by kernel_rfl)).symm.trans h0_) (by decide)⟩
    refine steps_cons ?_ ?_
    · rintro b a w' ⟨u14, u33, u34, m14_, m33_, m34_, ha, Q_HB, Q_F14, Q_F33, Q_F34, Q_X14_, Q_X33_, Q_X34_⟩ hb_ hon hoff
      refine ⟨_, rfl, fun K hK => ?_⟩
      have e14 : a.tmps[14]? = some (.int .i64 n14) := by rw [ha]; exact (putSel_off rfl).trans hn14
      have e102 : a.tmps[102]? = some (.bool false) := by rw [ha]; exact putSel_on (e := (17, 102, .bool false)) 17 rfl rfl (hon 17 (by kernel_rfl)) (by rw [hsz]; rfl)
      replace ha := Aside0.mk ha
      have HB := Aside0.mk Q_HB
      have F14 := Aside0.mk (Q_F14 (hon 14 (by kernel_rfl)))
      refine value_ (w1 := w') (v := .int .i64 n14) (wanted_on rfl rfl rfl (e102.trans (by first | rfl | (simp [*]; done)))) rfl ?_ ?_
      · go_simp
        (try simp only [i64_w])
        try rfl
      refine hK.out _ _ ⟨u14, u33, u34, m14_, m33_, m34_, (by rw [ha.out]; exact putSel_upk 29 hb_ rfl rfl rfl), Q_HB, Q_F14, Q_F33, fun h0_ => absurd ((hoff 34 (by kernel_rfl)).symm.trans h0_) (by decide), Q_X14_, Q_X33_, fun h0_ => absurd ((hoff 34 (by kernel_rfl)).symm.trans h0_) (by decide)⟩
    refine steps_cons ?_ ?_
    · rintro b a w' ⟨u14, u33, u34, m14_, m33_, m34_, ha, Q_HB, Q_F14, Q_F33, Q_F34, Q_X14_, Q_X33_, Q_X34_⟩ hb_ hon hoff
      refine ⟨_, rfl, fun K hK => ?_⟩
      have e113 : a.tmps[113]? = some (.int .i64 n2) := by rw [ha]; exact putSel_on (e := (28, 113, .int .i64 n2)) 28 rfl rfl (hon 28 (by kernel_rfl)) (by rw [hsz]; rfl)
      have e114 : a.tmps[114]? = some (.int .i64 n14) := by rw [ha]; exact putSel_on (e := (29, 114, .int .i64 n14)) 29 rfl rfl (hon 29 (by kernel_rfl)) (by rw [hsz]; rfl)
      have e102 : a.tmps[102]? = some (.bool false) := by rw [ha]; exact putSel_on (e := (17, 102, .bool false)) 17 rfl rfl (hon 17 (by kernel_rfl)) (by rw [hsz]; rfl)
      replace ha := Aside0.mk ha
      have HB := Aside0.mk Q_HB
      have F14 := Aside0.mk (Q_F14 (hon 14 (by kernel_rfl)))
      refine value_ (w1 := w') (v := .int .i64 (wrap64 (n2 + n14))) (wanted_on rfl rfl rfl (e102.trans (by first | rfl | (simp [*]; done)))) rfl ?_ ?_
      · go_simp
        (try simp only [i64_w])
        try rfl
      refine hK.out _ _ ⟨u14, u33, u34, m14_, m33_, m34_, (by rw [ha.out]; exact putSel_upk 30 hb_ rfl rfl rfl), Q_HB, Q_F14, Q_F33, fun h0_ => absurd ((hoff 34 (by kernel_rfl)).symm.trans h0_) (by decide), Q_X14_, Q_X33_, fun h0_ => absurd ((hoff 34 (by kernel_rfl)).symm.trans h0_) (by decide)⟩
    refine steps_cons ?_ ?_
    · rintro b a w' ⟨u14, u33, u34, m14_, m33_, m34_, ha, Q_HB, Q_F14, Q_F33, Q_F34, Q_X14_, Q_X33_, Q_X34_⟩ hb_ hon hoff
      refine ⟨_, rfl, fun K hK => ?_⟩
      have e10 : a.tmps[10]? = some (.pointer (some ⟨bu, 0, none⟩)) := by rw [ha]; exact (putSel_off rfl).trans hu
      have e102 : a.tmps[102]? = some (.bool false) := by rw [ha]; exact putSel_on (e := (17, 102, .bool false)) 17 rfl rfl (hon 17 (by kernel_rfl)) (by rw [hsz]; rfl)
      replace ha := Aside0.mk ha
      have HB := Aside0.mk Q_HB
      have F14 := Aside0.mk (Q_F14 (hon 14 (by kernel_rfl)))
      have hc0_ : w'.cell? ⟨bu, 0, none⟩ = some (.int .i64 xu) := (blk_cell (blk_below BKu.out HB.out) 0).trans rfl
      have hc1_ : w'.cell? ⟨bu, 1, none⟩ = some (.int .i64 yu) := (blk_cell (blk_below BKu.out HB.out) 1).trans rfl
      have hc2_ : w'.cell? ⟨bu, 2, none⟩ = some (vu) := (blk_cell (blk_below BKu.out HB.out) 2).trans rfl
      refine value_ (w1 := w') (v := .agg #[.int .i64 xu, .int .i64 yu, vu]) (wanted_on rfl rfl rfl (e102.trans (by first | rfl | (simp [*]; done)))) rfl ?_ ?_
      · go_simp
        (try simp only [i64_w])
        try rfl
      refine hK.out _ _ ⟨u14, u33, u34, m14_, m33_, m34_, (by rw [ha.out]; exact putSel_upk 31 hb_ rfl rfl rfl), Q_HB, Q_F14, fun h0_ => absurd ((hoff 33 (by kernel_rfl)).symm.trans h0_) (by decide), fun h0_ => absurd ((hoff 34 (by kernel_rfl)).symm.trans h0_) (by decide), Q_X14_, fun h0_ => absurd ((hoff 33 (by kernel_rfl)).symm.trans h0_) (by decide), fun h0_ => absurd ((hoff 34 (by kernel_rfl)).symm.trans h0_) (by decide)⟩
    refine steps_cons ?_ ?_
    · rintro b a w' ⟨u14, u33, u34, m14_, m33_, m34_, ha, Q_HB, Q_F14, Q_F33, Q_F34, Q_X14_, Q_X33_, Q_X34_⟩ hb_ hon hoff
      refine ⟨_, rfl, fun K hK => ?_⟩
      have e14 : a.tmps[14]? = some (.int .i64 n14) := by rw [ha]; exact (putSel_off rfl).trans hn14
      have e102 : a.tmps[102]? = some (.bool false) := by rw [ha]; exact putSel_on (e := (17, 102, .bool false)) 17 rfl rfl (hon 17 (by kernel_rfl)) (by rw [hsz]; rfl)
      replace ha := Aside0.mk ha
      have HB := Aside0.mk Q_HB
      have F14 := Aside0.mk (Q_F14 (hon 14 (by kernel_rfl)))
      refine value_ (w1 := w') (v := .int .i64 n14) (wanted_on rfl rfl rfl (e102.trans (by first | rfl | (simp [*]; done)))) rfl ?_ ?_
      · go_simp
        (try simp only [i64_w])
        try rfl
      refine hK.out _ _ ⟨u14, u33, u34, m14_, m33_, m34_, (by rw [ha.out]; exact putSel_upk 32 hb_ rfl rfl rfl), Q_HB, Q_F14, fun h0_ => absurd ((hoff 33 (by kernel_rfl)).symm.trans h0_) (by decide), fun h0_ => absurd ((hoff 34 (by kernel_rfl)).symm.trans h0_) (by decide), Q_X14_, fun h0_ => absurd ((hoff 33 (by kernel_rfl)).symm.trans h0_) (by decide), fun h0_ => absurd ((hoff 34 (by kernel_rfl)).symm.trans h0_) (by decide)⟩
    refine steps_cons ?_ ?_
    · rintro b a w' ⟨u14, u33, u34, m14_, m33_, m34_, ha, Q_HB, Q_F14, Q_F33, Q_F34, Q_X14_, Q_X33_, Q_X34_⟩ hb_ hon hoff
      refine ⟨_, rfl, fun K hK => ?_⟩
      have e116 : a.tmps[116]? = some (.agg #[.int .i64 xu, .int .i64 yu, vu]) := by rw [ha]; exact putSel_on (e := (31, 116, .agg #[.int .i64 xu, .int .i64 yu, vu])) 31 rfl rfl (hon 31 (by kernel_rfl)) (by rw [hsz]; rfl)
      have e117 : a.tmps[117]? = some (.int .i64 n14) := by rw [ha]; exact putSel_on (e := (32, 117, .int .i64 n14)) 32 rfl rfl (hon 32 (by kernel_rfl)) (by rw [hsz]; rfl)
      have e102 : a.tmps[102]? = some (.bool false) := by rw [ha]; exact putSel_on (e := (17, 102, .bool false)) 17 rfl rfl (hon 17 (by kernel_rfl)) (by rw [hsz]; rfl)
      replace ha := Aside0.mk ha
      have HB := Aside0.mk Q_HB
      have F14 := Aside0.mk (Q_F14 (hon 14 (by kernel_rfl)))
      refine goes_ Tryd.func23 (by kernel_rfl) rfl #[.agg #[.int .i64 xu, .int .i64 yu, vu], .int .i64 n14, .int .i64 0] (wanted_on rfl rfl rfl (e102.trans (by first | rfl | (simp [*]; done)))) rfl rfl (by first | (simp only [List.map_toArray, List.map_cons, List.map_nil, Act.eval, Array.getD_eq_getD_getElem?, Option.getD_some, e116, e117, e102]; done) | (simp only [List.map_toArray, List.map_cons, List.map_nil, Act.eval, Array.getD_eq_getD_getElem?, Option.getD_some, e116, e117, e102]; rfl)) ?_
      refine (shift_go kk xu yu vu ku n14 0 r33_0 r33_1 k33_ w' (fun k_ => False) (fun k_ h_ => h_.elim) (TV.old Tu.out HB.out (fun k_ h_ => h_.elim)) AH33.out).mono ?_
      rintro e w1 ⟨v_, rfl, hv, hb⟩
      refine ⟨_, rfl, ?_⟩
      refine hK.out _ _ ⟨u14, v_, u34, m14_, (.agg #[.int .i64 r33_0, .int .i64 r33_1, v_]), m34_, (by rw [ha.out]; exact putSel_upk 33 hb_ rfl rfl rfl), below_step HB.out hb, fun _ => F14.out.step hb, fun _ => hv, fun h0_ => absurd ((hoff 34 (by kernel_rfl)).symm.trans h0_) (by decide), Q_X14_, fun _ => rfl, fun h0_ => absurd ((hoff 34 (by kernel_rfl)).symm.trans h0_) (by decide)⟩
    refine steps_cons ?_ ?_
    · rintro b a w' ⟨u14, u33, u34, m14_, m33_, m34_, ha, Q_HB, Q_F14, Q_F33, Q_F34, Q_X14_, Q_X33_, Q_X34_⟩ hb_ hon hoff
      refine ⟨_, rfl, fun K hK => ?_⟩
      have e112 : a.tmps[112]? = some (.agg #[.int .i64 (rd_T29 kt n13).f0, .int .i64 (rd_T29 kt n13).f1, Et]) := by rw [ha]; exact putSel_on (e := (27, 112, .agg #[.int .i64 (rd_T29 kt n13).f0, .int .i64 (rd_T29 kt n13).f1, Et])) 27 rfl rfl (hon 27 (by kernel_rfl)) (by rw [hsz]; rfl)
      have e115 : a.tmps[115]? = some (.int .i64 (wrap64 (n2 + n14))) := by rw [ha]; exact putSel_on (e := (30, 115, .int .i64 (wrap64 (n2 + n14)))) 30 rfl rfl (hon 30 (by kernel_rfl)) (by rw [hsz]; rfl)
      have e118 : a.tmps[118]? = some (m33_) := by rw [ha]; exact putSel_on (e := (33, 118, m33_)) 33 rfl rfl (hon 33 (by kernel_rfl)) (by rw [hsz]; rfl)
      rw [Q_X33_ (hon 33 (by kernel_rfl))] at e118
      have e102 : a.tmps[102]? = some (.bool false) := by rw [ha]; exact putSel_on (e := (17, 102, .bool false)) 17 rfl rfl (hon 17 (by kernel_rfl)) (by rw [hsz]; rfl)
      replace ha := Aside0.mk ha
      have HB := Aside0.mk Q_HB
      have F14 := Aside0.mk (Q_F14 (hon 14 (by kernel_rfl)))
      have F33 := Aside0.mk (Q_F33 (hon 33 (by kernel_rfl)))
      refine goes_ Tryd.func22 (by kernel_rfl) rfl #[.agg #[.int .i64 (rd_T29 kt n13).f0, .int .i64 (rd_T29 kt n13).f1, Et], .int .i64 (wrap64 (n2 + n14)), .agg #[.int .i64 r33_0, .int .i64 r33_1, u33]] (wanted_on rfl rfl rfl (e102.trans (by first | rfl | (simp [*]; done)))) rfl rfl (by first | (simp only [List.map_toArray, List.map_cons, List.map_nil, Act.eval, Array.getD_eq_getD_getElem?, Option.getD_some, e112, e115, e118, e102]; done) | (simp only [List.map_toArray, List.map_cons, List.map_nil, Act.eval, Array.getD_eq_getD_getElem?, Option.getD_some, e112, e115, e118, e102]; rfl)) ?_
      refine (subst_go kk (rd_T29 kt n13).f0 (rd_T29 kt n13).f1 Et (rd_T29 kt n13).f2 (wrap64 (n2 + n14)) r33_0 r33_1 u33 k33_ r34_0 r34_1 k34_ w' (fun k_ => False) (fun k_ h_ => h_.elim) (TV.old TEt.out HB.out (fun k_ h_ => h_.elim)) F33.out AH34.out).mono ?_
      rintro e w1 ⟨v_, rfl, hv, hb⟩
      refine ⟨_, rfl, ?_⟩
      refine hK.out _ _ ⟨u14, u33, v_, m14_, m33_, (.agg #[.int .i64 r34_0, .int .i64 r34_1, v_]), (by rw [ha.out]; exact putSel_upk 34 hb_ rfl rfl rfl), below_step HB.out hb, fun _ => F14.out.step hb, fun _ => F33.out.step hb, fun _ => hv, Q_X14_, Q_X33_, fun _ => rfl⟩
    refine steps_cons ?_ ?_
    · rintro b a w' ⟨u14, u33, u34, m14_, m33_, m34_, ha, Q_HB, Q_F14, Q_F33, Q_F34, Q_X14_, Q_X33_, Q_X34_⟩ hb_ hon hoff
      refine ⟨_, rfl, fun K hK => ?_⟩
      have e107 : a.tmps[107]? = some (.agg #[.int .i64 (rd_T29 km n13).f0, .int .i64 (rd_T29 km n13).f1, Em]) := by rw [ha]; exact putSel_on (e := (22, 107, .agg #[.int .i64 (rd_T29 km n13).f0, .int .i64 (rd_T29 km n13).f1, Em])) 22 rfl rfl (hon 22 (by kernel_rfl)) (by rw [hsz]; rfl)
      have e119 : a.tmps[119]? = some (m34_) := by rw [ha]; exact putSel_on (e := (34, 119, m34_)) 34 rfl rfl (hon 34 (by kernel_rfl)) (by rw [hsz]; rfl)
      rw [Q_X34_ (hon 34 (by kernel_rfl))] at e119
      have e102 : a.tmps[102]? = some (.bool false) := by rw [ha]; exact putSel_on (e := (17, 102, .bool false)) 17 rfl rfl (hon 17 (by kernel_rfl)) (by rw [hsz]; rfl)
      replace ha := Aside0.mk ha
      have HB := Aside0.mk Q_HB
      have F14 := Aside0.mk (Q_F14 (hon 14 (by kernel_rfl)))
      have F33 := Aside0.mk (Q_F33 (hon 33 (by kernel_rfl)))
      have F34 := Aside0.mk (Q_F34 (hon 34 (by kernel_rfl)))
      refine goes_ Tryd.func18 (by kernel_rfl) rfl #[.agg #[.int .i64 (rd_T29 km n13).f0, .int .i64 (rd_T29 km n13).f1, Em], .agg #[.int .i64 r34_0, .int .i64 r34_1, u34]] (wanted_on rfl rfl rfl (e102.trans (by first | rfl | (simp [*]; done)))) rfl rfl (by first | (simp only [List.map_toArray, List.map_cons, List.map_nil, Act.eval, Array.getD_eq_getD_getElem?, Option.getD_some, e107, e119, e102]; done) | (simp only [List.map_toArray, List.map_cons, List.map_nil, Act.eval, Array.getD_eq_getD_getElem?, Option.getD_some, e107, e119, e102]; rfl)) ?_
      refine (same_go kk (rd_T29 km n13).f0 (rd_T29 km n13).f1 Em (rd_T29 km n13).f2 r34_0 r34_1 u34 k34_ true w' (TV.old (G := fun _ => False) TEm.out HB.out (fun _ h_ => h_.elim)) F34.out AH35.out).mono ?_
      rintro e w1 ⟨rfl, hb⟩
      refine ⟨_, rfl, ?_⟩
      refine hK.out _ _ ⟨u14, u33, u34, m14_, m33_, m34_, (by rw [ha.out]; exact putSel_upk 35 hb_ rfl rfl rfl), below_step HB.out hb, fun _ => F14.out.step hb, fun _ => F33.out.step hb, fun _ => F34.out.step hb, Q_X14_, Q_X33_, Q_X34_⟩
    refine steps_cons ?_ ?_
    · rintro b a w' ⟨u14, u33, u34, m14_, m33_, m34_, ha, Q_HB, Q_F14, Q_F33, Q_F34, Q_X14_, Q_X33_, Q_X34_⟩ hb_ hon hoff
      refine ⟨_, rfl, fun K hK => ?_⟩
      have e120 : a.tmps[120]? = some (.bool true) := by rw [ha]; exact putSel_on (e := (35, 120, .bool true)) 35 rfl rfl (hon 35 (by kernel_rfl)) (by rw [hsz]; rfl)
      have e102 : a.tmps[102]? = some (.bool false) := by rw [ha]; exact putSel_on (e := (17, 102, .bool false)) 17 rfl rfl (hon 17 (by kernel_rfl)) (by rw [hsz]; rfl)
      replace ha := Aside0.mk ha
      have HB := Aside0.mk Q_HB
      have F14 := Aside0.mk (Q_F14 (hon 14 (by kernel_rfl)))
      have F33 := Aside0.mk (Q_F33 (hon 33 (by kernel_rfl)))
      have F34 := Aside0.mk (Q_F34 (hon 34 (by kernel_rfl)))
      refine value_ (w1 := w') (v := .bool false) (wanted_on rfl rfl rfl (e102.trans (by first | rfl | (simp [*]; done)))) rfl ?_ ?_
      · go_simp
        (try simp only [i64_w])
        try rfl
      refine hK.out _ _ ⟨u14, u33, u34, m14_, m33_, m34_, (by rw [ha.out]; exact putSel_upk 36 hb_ rfl rfl rfl), Q_HB, Q_F14, Q_F33, Q_F34, Q_X14_, Q_X33_, Q_X34_⟩
    refine steps_cons ?_ ?_
    · rintro b a w' ⟨u14, u33, u34, m14_, m33_, m34_, ha, Q_HB, Q_F14, Q_F33, Q_F34, Q_X14_, Q_X33_, Q_X34_⟩ hb_ hon hoff
      refine ⟨_, rfl, fun K hK => ?_⟩
      have e102 : a.tmps[102]? = some (.bool false) := by rw [ha]; exact putSel_on (e := (17, 102, .bool false)) 17 rfl rfl (hon 17 (by kernel_rfl)) (by rw [hsz]; rfl)
      have e121 : a.tmps[121]? = some (.bool false) := by rw [ha]; exact putSel_on (e := (36, 121, .bool false)) 36 rfl rfl (hon 36 (by kernel_rfl)) (by rw [hsz]; rfl)
      replace ha := Aside0.mk ha
      have HB := Aside0.mk Q_HB
      have F14 := Aside0.mk (Q_F14 (hon 14 (by kernel_rfl)))
      have F33 := Aside0.mk (Q_F33 (hon 33 (by kernel_rfl)))
      have F34 := Aside0.mk (Q_F34 (hon 34 (by kernel_rfl)))
      refine value_ (w1 := w') (v := .bool false) (by rfl) rfl ?_ ?_
      · go_simp
        (try simp only [i64_w])
        try rfl
      refine hK.out _ _ ⟨u14, u33, u34, m14_, m33_, m34_, (by rw [ha.out]; exact putSel_upk 37 hb_ rfl rfl rfl), Q_HB, Q_F14, Q_F33, Q_F34, Q_X14_, Q_X33_, Q_X34_⟩
    exact steps_nil
  · rintro b a w' hall ⟨u14, u33, u34, m14_, m33_, m34_, ha, Q_HB, Q_F14, Q_F33, Q_F34, Q_X14_, Q_X33_, Q_X34_⟩
    clear HB
    have hb0_ := hall 0 (by kernel_rfl)
    have hb1_ := hall 1 (by kernel_rfl)
    have hb2_ := hall 2 (by kernel_rfl)
    have hb3_ := hall 3 (by kernel_rfl)
    have hb4_ := hall 4 (by kernel_rfl)
    have hb5_ := hall 5 (by kernel_rfl)
    have hb6_ := hall 6 (by kernel_rfl)
    have hb7_ := hall 7 (by kernel_rfl)
    have hb8_ := hall 8 (by kernel_rfl)
    have hb9_ := hall 9 (by kernel_rfl)
    have hb10_ := hall 10 (by kernel_rfl)
    have hb11_ := hall 11 (by kernel_rfl)
    have hb12_ := hall 12 (by kernel_rfl)
    have hb13_ := hall 13 (by kernel_rfl)
    have hb14_ := hall 14 (by kernel_rfl)
    have hb15_ := hall 15 (by kernel_rfl)
    have hb16_ := hall 16 (by kernel_rfl)
    have hb17_ := hall 17 (by kernel_rfl)
    have hb18_ := hall 18 (by kernel_rfl)
    have hb19_ := hall 19 (by kernel_rfl)
    have hb20_ := hall 20 (by kernel_rfl)
    have hb21_ := hall 21 (by kernel_rfl)
    have hb22_ := hall 22 (by kernel_rfl)
    have hb23_ := hall 23 (by kernel_rfl)
    have hb24_ := hall 24 (by kernel_rfl)
    have hb25_ := hall 25 (by kernel_rfl)
    have hb26_ := hall 26 (by kernel_rfl)
    have hb27_ := hall 27 (by kernel_rfl)
    have hb28_ := hall 28 (by kernel_rfl)
    have hb29_ := hall 29 (by kernel_rfl)
    have hb30_ := hall 30 (by kernel_rfl)
    have hb31_ := hall 31 (by kernel_rfl)
    have hb32_ := hall 32 (by kernel_rfl)
    have hb33_ := hall 33 (by kernel_rfl)
    have hb34_ := hall 34 (by kernel_rfl)
    have hb35_ := hall 35 (by kernel_rfl)
    have hb36_ := hall 36 (by kernel_rfl)
    have hb37_ := hall 37 (by kernel_rfl)
    subst ha
    obtain rfl := Q_X14_ hb14_
    obtain rfl := Q_X33_ hb33_
    obtain rfl := Q_X34_ hb34_
    simp only [putSel, hb0_, hb1_, hb2_, hb3_, hb4_, hb5_, hb6_, hb7_, hb8_, hb9_, hb10_, hb11_, hb12_, hb13_, hb14_, hb15_, hb16_, hb17_, hb18_, hb19_, hb20_, hb21_, hb22_, hb23_, hb24_, hb25_, hb26_, hb27_, hb28_, hb29_, hb30_, hb31_, hb32_, hb33_, hb34_, hb35_, hb36_, hb37_, if_true]
    have HB := Aside0.mk Q_HB
    clear Q_HB
    have F14 := Aside0.mk (Q_F14 hb14_)
    clear Q_F14
    have F33 := Aside0.mk (Q_F33 hb33_)
    clear Q_F33
    have F34 := Aside0.mk (Q_F34 hb34_)
    clear Q_F34
    clear hall hb0_ hb1_ hb2_ hb3_ hb4_ hb5_ hb6_ hb7_ hb8_ hb9_ hb10_ hb11_ hb12_ hb13_ hb14_ hb15_ hb16_ hb17_ hb18_ hb19_ hb20_ hb21_ hb22_ hb23_ hb24_ hb25_ hb26_ hb27_ hb28_ hb29_ hb30_ hb31_ hb32_ hb33_ hb34_ hb35_ hb36_ hb37_
    exact hQ ads Es adt Et adm Em u14 u33 u34  w' HB.out 
end Go.Proofs.YtcchfblekaaalaaDoor.P
