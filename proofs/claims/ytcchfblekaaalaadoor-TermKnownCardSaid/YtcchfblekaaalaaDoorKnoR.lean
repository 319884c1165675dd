/- TermKnown: its drawn region, by one relation (printed by genkno.py) -/
import Derived.Test.YtcchfblekaaalaaDoorKnoA
import Derived.Test.YtcchfblekaaalaaDoorHandGo
import Derived.Test.YtcchfblekaaalaaDoorWant
namespace Go.Proofs.YtcchfblekaaalaaDoor.P
open Go.RowKit Go.Proofs.YtcchfblekaaalaaDoorW.PrintWords Go.Proofs.YtcchfblekaaalaaDoorW.PrintLast Go.Proofs.YtcchfblekaaalaaDoorW.PrintMore
set_option linter.unusedVariables false
set_option linter.unusedSimpArgs false
def thyrsuslaw4_TermKnown.T8 : Bool × List (List Nat × List Nat) := (true, [([], []), ([], []), ([0, 1], [0, 1]), ([2], [2]), ([3], [3]), ([4, 4], [4]), ([], []), ([], []), ([6, 7], [6, 7]), ([8], [8]), ([5, 9], [5, 9]), ([10, 5], [10]), ([11], [11]), ([11], [11]), ([12, 13, 11], [11, 12, 13]), ([14, 11], [11, 14]), ([11], [11]), ([15, 16, 11, 11], [11, 15, 16]), ([17, 17, 11], [11, 17]), ([11], [11]), ([11], [11]), ([19, 20, 11], [11, 19, 20]), ([21, 11], [11, 21]), ([18, 22, 11], [11, 18, 22]), ([11, 23], [11, 23]), ([24, 18, 0, 1, 2, 3, 4, 5, 6, 7, 8, 9, 10, 11, 12, 13, 14, 15, 16, 17, 18, 19, 20, 21, 22, 23, 24], [24])])
def thyrsuslaw4_TermKnown.B8 : List Nat := [0, 0, 3, 7, 15, 31, 0, 0, 192, 448, 1023, 2047, 4095, 4095, 16383, 32767, 4095, 131071, 262143, 4095, 4095, 1576959, 3674111, 8388607, 16777215, 33554431]
theorem thyrsuslaw4_TermKnown.tab8 : rtab .any (opsOf Tryd.f6 8) = thyrsuslaw4_TermKnown.T8 := by kernel_rfl
theorem thyrsuslaw4_TermKnown.bits8 : waitsOk thyrsuslaw4_TermKnown.T8.2 thyrsuslaw4_TermKnown.B8 = true := by kernel_rfl
theorem stext_go (k : Nat) (op n : Int) (v : Value) (kids : List S29) (r : ByteArray) (w : World) {G : Nat → Prop} (hs : TV w G v kids) (h : term_Text.f k op n kids = some r) :
    Calls Tryd.prog 17 #[.agg #[.int .i64 op, .int .i64 n, v]] w fun e w' => e = .returned (.string r) ∧ Below w.heap.size w w' := by
  obtain ⟨A, c, rfl, hc, hC⟩ := hs.reads
  exact term_Text.calls k op n A c kids r w hC hc h
set_option maxHeartbeats 4000000 in
set_option maxRecDepth 100000 in
theorem known_r8 {Q : Exit → Act → World → Prop} {a : Act} {W : World} (hsz : a.tmps.size = 86) (kk : Nat) (xz yz : Int) (vz : Value) (kz : List S29) (bz : Nat) (hz : a.tmps[4]? = some (.pointer (some ⟨bz, 0, none⟩))) (Bz_ : W.heap[bz]? = some (.cells #[.int .i64 xz, .int .i64 yz, vz] 29 (0, 0))) (Tz_ : TV W (fun _ => False) vz kz)
    (n8 : Int) (hn8 : a.tmps[8]? = some (.int .i64 n8))
    (tx : ByteArray)
    (ty : ByteArray)
    (ks : List S29) (ck : Nat) (adk : Addr) (Ek : Value) (h5 : a.tmps[5]? = some (.slice (some adk) ks.length ck)) (TE_ : TV W (fun _ => False) Ek (rd_T29 ks n8).f2) (HE_ : ∀ w', Below W.heap.size W w' → w'.cell? (adk.add (n8.toNat * 3)) = some (.int .i64 (rd_T29 ks n8).f0) ∧ w'.cell? ⟨(adk.add (n8.toNat * 3)).block, (adk.add (n8.toNat * 3)).off + 1, none⟩ = some (.int .i64 (rd_T29 ks n8).f1) ∧ w'.cell? ⟨(adk.add (n8.toNat * 3)).block, (adk.add (n8.toNat * 3)).off + 2, none⟩ = some Ek)
    (hix : 0 ≤ n8) (hik : n8 < (ks.length : Int)) (hi6 : n8 < 6)
    (ada adb : Addr) (sa sb : ByteArray) (h6 : a.tmps[6]? = some (.slice (some ada) 6 6)) (h7 : a.tmps[7]? = some (.slice (some adb) 6 6)) (SA_ : ∀ w', Below W.heap.size W w' → w'.cell? (ada.add n8.toNat) = some (.string sa)) (SB_ : ∀ w', Below W.heap.size W w' → w'.cell? (adb.add n8.toNat) = some (.string sb))
    (htx : (tx.toList == sa.toList) = true) (hty : (ty.toList == sb.toList) = true)
    (r4_0 r4_1 : Int) (k4_ : List S29)
    (r17_0 r17_1 : Int) (k17_ : List S29)
    (H4 : term_Shift.f kk (rd_T29 ks n8).f0 (rd_T29 ks n8).f1 (rd_T29 ks n8).f2 2 0 = some (r4_0, r4_1, k4_))
    (H5 : term_Text.f kk r4_0 r4_1 k4_  = some tx)
    (H17 : term_Subst.f kk (rd_T29 ks n8).f0 (rd_T29 ks n8).f1 (rd_T29 ks n8).f2 0 xz yz kz = some (r17_0, r17_1, k17_))
    (H18 : term_Text.f kk r17_0 r17_1 k17_  = some ty)
    (hQ : ∀ (u4 u17 : Value) (w' : World), Below W.heap.size W w' → Q .normal ((((((((((((((((((((((((((a.put (some 61) (.slice (some adk) ks.length ck)).put (some 62) (.int .i64 n8)).put (some 63) (.pointer (some (adk.add (n8.toNat * 3))))).put (some 64) (.agg #[.int .i64 (rd_T29 ks n8).f0, .int .i64 (rd_T29 ks n8).f1, Ek])).put (some 65) (.agg #[.int .i64 r4_0, .int .i64 r4_1, u4])).put (some 66) (.string tx)).put (some 67) (.slice (some ada) 6 6)).put (some 68) (.int .i64 n8)).put (some 69) (.pointer (some (ada.add n8.toNat)))).put (some 70) (.string sa)).put (some 71) (.bool true)).put (some 72) (.bool true)).put (some 73) (.slice (some adk) ks.length ck)).put (some 74) (.int .i64 n8)).put (some 75) (.pointer (some (adk.add (n8.toNat * 3))))).put (some 76) (.agg #[.int .i64 (rd_T29 ks n8).f0, .int .i64 (rd_T29 ks n8).f1, Ek])).put (some 77) (.agg #[.int .i64 xz, .int .i64 yz, vz])).put (some 78) (.agg #[.int .i64 r17_0, .int .i64 r17_1, u17])).put (some 79) (.string ty)).put (some 80) (.slice (some adb) 6 6)).put (some 81) (.int .i64 n8)).put (some 82) (.pointer (some (adb.add n8.toNat)))).put (some 83) (.string sb)).put (some 84) (.bool true)).put (some 85) (.bool true)).put (some 2) (.bool true)) w') :
    (Code.region 8 (opsOf Tryd.f6 8) true).wp Tryd.prog Q a W := by
  have HT_ := Aside0.mk thyrsuslaw4_TermKnown.tab8
  have HW_ := Aside0.mk thyrsuslaw4_TermKnown.bits8
  have BKz := Aside0.mk Bz_
  have Tz := Aside0.mk Tz_
  clear Bz_ Tz_
  have AH5 := Aside0.mk H5
  clear H5
  have AH18 := Aside0.mk H18
  clear H18
  have TEk := Aside0.mk TE_
  have HEk := Aside0.mk HE_
  have HSa := Aside0.mk SA_
  have HSb := Aside0.mk SB_
  clear TE_ HE_ SA_ SB_
  replace hix := eq_true hix
  replace hik := eq_true hik
  replace hi6 := eq_true hi6
  have AH4 := Aside0.mk H4
  clear H4
  have AH17 := Aside0.mk H17
  clear H17
  have HB := Aside0.mk (below_drew1 (Below.refl W.heap.size W))
  conv in (opsOf Tryd.f6 8) => whnf
  refine start_ (n := 26) (S := fun w' => True) (ds := []) #[false, false, false, false, false, false, false, false, false, false, false, false, false, false, false, false, false, false, false, false, false, false, false, false, false, false] (by kernel_rfl) rfl rfl trivial (fun hHeld => ?_)
  clear hHeld
  generalize W.drew = W1 at HB ⊢
  refine inv_at [0, 1, 2, 3, 4, 5, 6, 7, 8, 9, 10, 11, 12, 13, 14, 15, 16, 17, 18, 19, 20, 21, 22, 23, 24, 25] (fun a0_ b a w' => ∃ (u4 : Value) (u17 : Value) (m4_ : Value) (m17_ : Value), a = putSel a0_ b [(0, 61, .slice (some adk) ks.length ck), (1, 62, .int .i64 n8), (2, 63, .pointer (some (adk.add (n8.toNat * 3)))), (3, 64, .agg #[.int .i64 (rd_T29 ks n8).f0, .int .i64 (rd_T29 ks n8).f1, Ek]), (4, 65, m4_), (5, 66, .string tx), (6, 67, .slice (some ada) 6 6), (7, 68, .int .i64 n8), (8, 69, .pointer (some (ada.add n8.toNat))), (9, 70, .string sa), (10, 71, .bool true), (11, 72, .bool true), (12, 73, .slice (some adk) ks.length ck), (13, 74, .int .i64 n8), (14, 75, .pointer (some (adk.add (n8.toNat * 3)))), (15, 76, .agg #[.int .i64 (rd_T29 ks n8).f0, .int .i64 (rd_T29 ks n8).f1, Ek]), (16, 77, .agg #[.int .i64 xz, .int .i64 yz, vz]), (17, 78, m17_), (18, 79, .string ty), (19, 80, .slice (some adb) 6 6), (20, 81, .int .i64 n8), (21, 82, .pointer (some (adb.add n8.toNat))), (22, 83, .string sb), (23, 84, .bool true), (24, 85, .bool true), (25, 2, .bool true)] ∧ (Below W.heap.size W w') ∧ (b 4 = true → TV w' (fun k_ => False) u4 k4_) ∧ (b 17 = true → TV w' (fun k_ => False) u17 k17_) ∧ (b 4 = true → (m4_ : Value) = .agg #[.int .i64 r4_0, .int .i64 r4_1, u4]) ∧ (b 17 = true → (m17_ : Value) = .agg #[.int .i64 r17_0, .int .i64 r17_1, u17])) HT_.out HW_.out (by kernel_rfl) (by kernel_rfl) ?_ ?_ ?_
  · exact ⟨.bool false, .bool false, .bool false, .bool false, by simp only [putSel, Bool.false_eq_true, if_false], HB.out, fun h_ => absurd h_ (by decide), fun h_ => absurd h_ (by decide), fun h_ => absurd h_ (by decide), fun h_ => absurd h_ (by decide)⟩
  · skip
    clear HB
    refine steps_cons ?_ ?_
    · rintro b a w' ⟨u4, u17, m4_, m17_, ha, Q_HB, Q_F4, Q_F17, Q_X4_, Q_X17_⟩ hb_ hon hoff
      refine ⟨_, rfl, fun K hK => ?_⟩
      have e5 : a.tmps[5]? = some (.slice (some adk) ks.length ck) := by rw [ha]; exact (putSel_off rfl).trans h5
      replace ha := Aside0.mk ha
      have HB := Aside0.mk Q_HB
      refine value_ (w1 := w') (v := .slice (some adk) ks.length ck) (by rfl) rfl ?_ ?_
      · go_simp
        (try simp only [i64_w])
        try rfl
      refine hK.out _ _ ⟨u4, u17, m4_, m17_, (by rw [ha.out]; exact putSel_upk 0 hb_ rfl rfl rfl), Q_HB, fun h0_ => absurd ((hoff 4 (by kernel_rfl)).symm.trans h0_) (by decide), fun h0_ => absurd ((hoff 17 (by kernel_rfl)).symm.trans h0_) (by decide), fun h0_ => absurd ((hoff 4 (by kernel_rfl)).symm.trans h0_) (by decide), fun h0_ => absurd ((hoff 17 (by kernel_rfl)).symm.trans h0_) (by decide)⟩
    refine steps_cons ?_ ?_
    · rintro b a w' ⟨u4, u17, m4_, m17_, ha, Q_HB, Q_F4, Q_F17, Q_X4_, Q_X17_⟩ hb_ hon hoff
      refine ⟨_, rfl, fun K hK => ?_⟩
      have e8 : a.tmps[8]? = some (.int .i64 n8) := by rw [ha]; exact (putSel_off rfl).trans hn8
      replace ha := Aside0.mk ha
      have HB := Aside0.mk Q_HB
      refine value_ (w1 := w') (v := .int .i64 n8) (by rfl) rfl ?_ ?_
      · go_simp
        (try simp only [i64_w])
        try rfl
      refine hK.out _ _ ⟨u4, u17, m4_, m17_, (by rw [ha.out]; exact putSel_upk 1 hb_ rfl rfl rfl), Q_HB, fun h0_ => absurd ((hoff 4 (by kernel_rfl)).symm.trans h0_) (by decide), fun h0_ => absurd ((hoff 17 (by kernel_rfl)).symm.trans h0_) (by decide), fun h0_ => absurd ((hoff 4 (by kernel_rfl)).symm.trans h0_) (by decide), fun h0_ => absurd ((hoff 17 (by kernel_rfl)).symm.trans h0_) (by decide)⟩
    refine steps_cons ?_ ?_
    · rintro b a w' ⟨u4, u17, m4_, m17_, ha, Q_HB, Q_F4, Q_F17, Q_X4_, Q_X17_⟩ hb_ hon hoff
      refine ⟨_, rfl, fun K hK => ?_⟩
      have e61 : a.tmps[61]? = some (.slice (some adk) ks.length ck) := by rw [ha]; exact putSel_on (e := (0, 61, .slice (some adk) ks.length ck)) 0 rfl rfl (hon 0 (by kernel_rfl)) (by rw [hsz]; rfl)
      have e62 : a.tmps[62]? = some (.int .i64 n8) := by rw [ha]; exact putSel_on (e := (1, 62, .int .i64 n8)) 1 rfl rfl (hon 1 (by kernel_rfl)) (by rw [hsz]; rfl)
      replace ha := Aside0.mk ha
      have HB := Aside0.mk Q_HB
      refine value_ (w1 := w') (v := .pointer (some (adk.add (n8.toNat * 3)))) (by rfl) rfl ?_ ?_
      · go_simp
        (try simp only [i64_w])
        try rfl
      refine hK.out _ _ ⟨u4, u17, m4_, m17_, (by rw [ha.out]; exact putSel_upk 2 hb_ rfl rfl rfl), Q_HB, fun h0_ => absurd ((hoff 4 (by kernel_rfl)).symm.trans h0_) (by decide), fun h0_ => absurd ((hoff 17 (by kernel_rfl)).symm.trans h0_) (by decide), fun h0_ => absurd ((hoff 4 (by kernel_rfl)).symm.trans h0_) (by decide), fun h0_ => absurd ((hoff 17 (by kernel_rfl)).symm.trans h0_) (by decide)⟩
    refine steps_cons ?_ ?_
    · rintro b a w' ⟨u4, u17, m4_, m17_, ha, Q_HB, Q_F4, Q_F17, Q_X4_, Q_X17_⟩ hb_ hon hoff
      refine ⟨_, rfl, fun K hK => ?_⟩
      have e63 : a.tmps[63]? = some (.pointer (some (adk.add (n8.toNat * 3)))) := by rw [ha]; exact putSel_on (e := (2, 63, .pointer (some (adk.add (n8.toNat * 3))))) 2 rfl rfl (hon 2 (by kernel_rfl)) (by rw [hsz]; rfl)
      replace ha := Aside0.mk ha
      have HB := Aside0.mk Q_HB
      obtain ⟨hx0_, hx1_, hx2_⟩ := HEk.out _ HB.out
      refine value_ (w1 := w') (v := .agg #[.int .i64 (rd_T29 ks n8).f0, .int .i64 (rd_T29 ks n8).f1, Ek]) (by rfl) rfl ?_ ?_
      · go_simp
        (try simp only [i64_w])
        try rfl
      refine hK.out _ _ ⟨u4, u17, m4_, m17_, (by rw [ha.out]; exact putSel_upk 3 hb_ rfl rfl rfl), Q_HB, fun h0_ => absurd ((hoff 4 (by kernel_rfl)).symm.trans h0_) (by decide), fun h0_ => absurd ((hoff 17 (by kernel_rfl)).symm.trans h0_) (by decide), fun h0_ => absurd ((hoff 4 (by kernel_rfl)).symm.trans h0_) (by decide), fun h0_ => absurd ((hoff 17 (by kernel_rfl)).symm.trans h0_) (by decide)⟩
    refine steps_cons ?_ ?_
    · rintro b a w' ⟨u4, u17, m4_, m17_, ha, Q_HB, Q_F4, Q_F17, Q_X4_, Q_X17_⟩ hb_ hon hoff
      refine ⟨_, rfl, fun K hK => ?_⟩
      have e64 : a.tmps[64]? = some (.agg #[.int .i64 (rd_T29 ks n8).f0, .int .i64 (rd_T29 ks n8).f1, Ek]) := by rw [ha]; exact putSel_on (e := (3, 64, .agg #[.int .i64 (rd_T29 ks n8).f0, .int .i64 (rd_T29 ks n8).f1, Ek])) 3 rfl rfl (hon 3 (by kernel_rfl)) (by rw [hsz]; rfl)
      replace ha := Aside0.mk ha
      have HB := Aside0.mk Q_HB
      refine goes_ Tryd.func23 (by kernel_rfl) rfl #[.agg #[.int .i64 (rd_T29 ks n8).f0, .int .i64 (rd_T29 ks n8).f1, Ek], .int .i64 2, .int .i64 0] (by rfl) rfl rfl (by first | (simp only [List.map_toArray, List.map_cons, List.map_nil, Act.eval, Array.getD_eq_getD_getElem?, Option.getD_some, e64]; done) | (simp only [List.map_toArray, List.map_cons, List.map_nil, Act.eval, Array.getD_eq_getD_getElem?, Option.getD_some, e64]; rfl)) ?_
      refine (shift_go kk (rd_T29 ks n8).f0 (rd_T29 ks n8).f1 Ek (rd_T29 ks n8).f2 2 0 r4_0 r4_1 k4_ w' (fun k_ => False) (fun k_ h_ => h_.elim) (TV.old TEk.out HB.out (fun k_ h_ => h_.elim)) AH4.out).mono ?_
      rintro e w1 ⟨v_, rfl, hv, hb⟩
      refine ⟨_, rfl, ?_⟩
      refine hK.out _ _ ⟨v_, u17, (.agg #[.int .i64 r4_0, .int .i64 r4_1, v_]), m17_, (by rw [ha.out]; exact putSel_upk 4 hb_ rfl rfl rfl), below_step HB.out hb, fun _ => hv, fun h0_ => absurd ((hoff 17 (by kernel_rfl)).symm.trans h0_) (by decide), fun _ => rfl, fun h0_ => absurd ((hoff 17 (by kernel_rfl)).symm.trans h0_) (by decide)⟩
    refine steps_cons ?_ ?_
    · rintro b a w' ⟨u4, u17, m4_, m17_, ha, Q_HB, Q_F4, Q_F17, Q_X4_, Q_X17_⟩ hb_ hon hoff
      refine ⟨_, rfl, fun K hK => ?_⟩
      have e65 : a.tmps[65]? = some (m4_) := by rw [ha]; exact putSel_on (e := (4, 65, m4_)) 4 rfl rfl (hon 4 (by kernel_rfl)) (by rw [hsz]; rfl)
      rw [Q_X4_ (hon 4 (by kernel_rfl))] at e65
      replace ha := Aside0.mk ha
      have HB := Aside0.mk Q_HB
      have F4 := Aside0.mk (Q_F4 (hon 4 (by kernel_rfl)))
      refine goes_ Tryd.func17 (by kernel_rfl) rfl #[.agg #[.int .i64 r4_0, .int .i64 r4_1, u4]] (by rfl) rfl rfl (by first | (simp only [List.map_toArray, List.map_cons, List.map_nil, Act.eval, Array.getD_eq_getD_getElem?, Option.getD_some, e65]; done) | (simp only [List.map_toArray, List.map_cons, List.map_nil, Act.eval, Array.getD_eq_getD_getElem?, Option.getD_some, e65]; rfl)) ?_
      refine (stext_go kk r4_0 r4_1 u4 k4_  tx w' F4.out AH5.out).mono ?_
      rintro e w1 ⟨rfl, hb⟩
      refine ⟨_, rfl, ?_⟩
      refine hK.out _ _ ⟨u4, u17, m4_, m17_, (by rw [ha.out]; exact putSel_upk 5 hb_ rfl rfl rfl), below_step HB.out hb, fun _ => F4.out.step hb, fun h0_ => absurd ((hoff 17 (by kernel_rfl)).symm.trans h0_) (by decide), Q_X4_, fun h0_ => absurd ((hoff 17 (by kernel_rfl)).symm.trans h0_) (by decide)⟩
    refine steps_cons ?_ ?_
    · rintro b a w' ⟨u4, u17, m4_, m17_, ha, Q_HB, Q_F4, Q_F17, Q_X4_, Q_X17_⟩ hb_ hon hoff
      refine ⟨_, rfl, fun K hK => ?_⟩
      have e6 : a.tmps[6]? = some (.slice (some ada) 6 6) := by rw [ha]; exact (putSel_off rfl).trans h6
      replace ha := Aside0.mk ha
      have HB := Aside0.mk Q_HB
      refine value_ (w1 := w') (v := .slice (some ada) 6 6) (by rfl) rfl ?_ ?_
      · go_simp
        (try simp only [i64_w])
        try rfl
      refine hK.out _ _ ⟨u4, u17, m4_, m17_, (by rw [ha.out]; exact putSel_upk 6 hb_ rfl rfl rfl), Q_HB, Q_F4, fun h0_ => absurd ((hoff 17 (by kernel_rfl)).symm.trans h0_) (by decide), Q_X4_, fun h0_ => absurd ((hoff 17 (by kernel_rfl)).symm.trans h0_) (by decide)⟩
    refine steps_cons ?_ ?_
    · rintro b a w' ⟨u4, u17, m4_, m17_, ha, Q_HB, Q_F4, Q_F17, Q_X4_, Q_X17_⟩ hb_ hon hoff
      refine ⟨_, rfl, fun K hK => ?_⟩
      have e8 : a.tmps[8]? = some (.int .i64 n8) := by rw [ha]; exact (putSel_off rfl).trans hn8
      replace ha := Aside0.mk ha
      have HB := Aside0.mk Q_HB
      refine value_ (w1 := w') (v := .int .i64 n8) (by rfl) rfl ?_ ?_
      · go_simp
        (try simp only [i64_w])
        try rfl
      refine hK.out _ _ ⟨u4, u17, m4_, m17_, (by rw [ha.out]; exact putSel_upk 7 hb_ rfl rfl rfl), Q_HB, Q_F4, fun h0_ => absurd ((hoff 17 (by kernel_rfl)).symm.trans h0_) (by decide), Q_X4_, fun h0_ => absurd ((hoff 17 (by kernel_rfl)).symm.trans h0_) (by decide)⟩
    refine steps_cons ?_ ?_
    · rintro b a w' ⟨u4, u17, m4_, m17_, ha, Q_HB, Q_F4, Q_F17, Q_X4_, Q_X17_⟩ hb_ hon hoff
      refine ⟨_, rfl, fun K hK => ?_⟩
      have e67 : a.tmps[67]? = some (.slice (some ada) 6 6) := by rw [ha]; exact putSel_on (e := (6, 67, .slice (some ada) 6 6)) 6 rfl rfl (hon 6 (by kernel_rfl)) (by rw [hsz]; rfl)
      have e68 : a.tmps[68]? = some (.int .i64 n8) := by rw [ha]; exact putSel_on (e := (7, 68, .int .i64 n8)) 7 rfl rfl (hon 7 (by kernel_rfl)) (by rw [hsz]; rfl)
      replace ha := Aside0.mk ha
      have HB := Aside0.mk Q_HB
      refine value_ (w1 := w') (v := .pointer (some (ada.add n8.toNat))) (by rfl) rfl ?_ ?_
      · go_simp
        (try simp only [i64_w])
        try rfl
      refine hK.out _ _ ⟨u4, u17, m4_, m17_, (by rw [ha.out]; exact putSel_upk 8 hb_ rfl rfl rfl), Q_HB, Q_F4, fun h0_ => absurd ((hoff 17 (by kernel_rfl)).symm.trans h0_) (by decide), Q_X4_, fun h0_ => absurd ((hoff 17 (by kernel_rfl)).symm.trans h0_) (by decide)⟩
    refine steps_cons ?_ ?_
    · rintro b a w' ⟨u4, u17, m4_, m17_, ha, Q_HB, Q_F4, Q_F17, Q_X4_, Q_X17_⟩ hb_ hon hoff
      refine ⟨_, rfl, fun K hK => ?_⟩
      have e69 : a.tmps[69]? = some (.pointer (some (ada.add n8.toNat))) := by rw [ha]; exact putSel_on (e := (8, 69, .pointer (some (ada.add n8.toNat)))) 8 rfl rfl (hon 8 (by kernel_rfl)) (by rw [hsz]; rfl)
      replace ha := Aside0.mk ha
      have HB := Aside0.mk Q_HB
      have hsx_ := HSa.out _ HB.out
      refine value_ (w1 := w') (v := .string sa) (by rfl) rfl ?_ ?_
      · go_simp
        (try simp only [i64_w])
        try rfl
      refine hK.out _ _ ⟨u4, u17, m4_, m17_, (by rw [ha.out]; exact putSel_upk 9 hb_ rfl rfl rfl), Q_HB, Q_F4, fun h0_ => absurd ((hoff 17 (by kernel_rfl)).symm.trans h0_) (by decide), Q_X4_, fun h0_ => absurd ((hoff 17 (by kernel_rfl)).symm.trans h0_) (by decide)⟩
    refine steps_cons ?_ ?_
    · rintro b a w' ⟨u4, u17, m4_, m17_, ha, Q_HB, Q_F4, Q_F17, Q_X4_, Q_X17_⟩ hb_ hon hoff
      refine ⟨_, rfl, fun K hK => ?_⟩
      have e66 : a.tmps[66]? = some (.string tx) := by rw [ha]; exact putSel_on (e := (5, 66, .string tx)) 5 rfl rfl (hon 5 (by kernel_rfl)) (by rw [hsz]; rfl)
      have e70 : a.tmps[70]? = some (.string sa) := by rw [ha]; exact putSel_on (e := (9, 70, .string sa)) 9 rfl rfl (hon 9 (by kernel_rfl)) (by rw [hsz]; rfl)
      replace ha := Aside0.mk ha
      have HB := Aside0.mk Q_HB
      have F4 := Aside0.mk (Q_F4 (hon 4 (by kernel_rfl)))
      refine value_ (w1 := w') (v := .bool true) (by rfl) rfl ?_ ?_
      · go_simp
        (try simp only [i64_w])
        try rfl
      refine hK.out _ _ ⟨u4, u17, m4_, m17_, (by rw [ha.out]; exact putSel_upk 10 hb_ rfl rfl rfl), Q_HB, Q_F4, fun h0_ => absurd ((hoff 17 (by kernel_rfl)).symm.trans h0_) (by decide), Q_X4_, fun h0_ => absurd ((hoff 17 (by kernel_rfl)).symm.trans h0_) (by decide)⟩
    refine steps_cons ?_ ?_
    · rintro b a w' ⟨u4, u17, m4_, m17_, ha, Q_HB, Q_F4, Q_F17, Q_X4_, Q_X17_⟩ hb_ hon hoff
      refine ⟨_, rfl, fun K hK => ?_⟩
      have e71 : a.tmps[71]? = some (.bool true) := by rw [ha]; exact putSel_on (e := (10, 71, .bool true)) 10 rfl rfl (hon 10 (by kernel_rfl)) (by rw [hsz]; rfl)
      replace ha := Aside0.mk ha
      have HB := Aside0.mk Q_HB
      have F4 := Aside0.mk (Q_F4 (hon 4 (by kernel_rfl)))
      refine value_ (w1 := w') (v := .bool true) (by rfl) rfl ?_ ?_
      · go_simp
        (try simp only [i64_w])
        try rfl
      refine hK.out _ _ ⟨u4, u17, m4_, m17_, (by rw [ha.out]; exact putSel_upk 11 hb_ rfl rfl rfl), Q_HB, Q_F4, fun h0_ => absurd ((hoff 17 (by kernel_rfl)).symm.trans h0_) (by decide), Q_X4_, fun h0_ => absurd ((hoff 17 (by kernel_rfl)).symm.trans h0_) (by decide)⟩
    refine steps_cons ?_ ?_
    · rintro b a w' ⟨u4, u17, m4_, m17_, ha, Q_HB, Q_F4, Q_F17, Q_X4_, Q_X17_⟩ hb_ hon hoff
      refine ⟨_, rfl, fun K hK => ?_⟩
      have e5 : a.tmps[5]? = some (.slice (some adk) ks.length ck) := by rw [ha]; exact (putSel_off rfl).trans h5
      have e72 : a.tmps[72]? = some (.bool true) := by rw [ha]; exact putSel_on (e := (11, 72, .bool true)) 11 rfl rfl (hon 11 (by kernel_rfl)) (by rw [hsz]; rfl)
      replace ha := Aside0.mk ha
      have HB := Aside0.mk Q_HB
      have F4 := Aside0.mk (Q_F4 (hon 4 (by kernel_rfl)))
      refine value_ (w1 := w') (v := .slice (some adk) ks.length ck) (wanted_on rfl rfl rfl (e72.trans (by first | rfl | (simp [*]; done)))) rfl ?_ ?_
      · go_simp
        (try simp only [i64_w])
        try rfl
      refine hK.out _ _ ⟨u4, u17, m4_, m17_, (by rw [ha.out]; exact putSel_upk 12 hb_ rfl rfl rfl), Q_HB, Q_F4, fun h0_ => absurd ((hoff 17 (by kernel_rfl)).symm.trans h0_) (by decide), Q_X4_, fun h0_ => absurd ((hoff 17 (by kernel_rfl)).symm.trans h0_) (by decide)⟩
    refine steps_cons ?_ ?_
    · rintro b a w' ⟨u4, u17, m4_, m17_, ha, Q_HB, Q_F4, Q_F17, Q_X4_, Q_X17_⟩ hb_ hon hoff
      refine ⟨_, rfl, fun K hK => ?_⟩
      have e8 : a.tmps[8]? = some (.int .i64 n8) := by rw [ha]; exact (putSel_off rfl).trans hn8
      have e72 : a.tmps[72]? = some (.bool true) := by rw [ha]; exact putSel_on (e := (11, 72, .bool true)) 11 rfl rfl (hon 11 (by kernel_rfl)) (by rw [hsz]; rfl)
      replace ha := Aside0.mk ha
      have HB := Aside0.mk Q_HB
      have F4 := Aside0.mk (Q_F4 (hon 4 (by kernel_rfl)))
      refine value_ (w1 := w') (v := .int .i64 n8) (wanted_on rfl rfl rfl (e72.trans (by first | rfl | (simp [*]; done)))) rfl ?_ ?_
      · go_simp
        (try simp only [i64_w])
        try rfl
      refine hK.out _ _ ⟨u4, u17, m4_, m17_, (by rw [ha.out]; exact putSel_upk 13 hb_ rfl rfl rfl), Q_HB, Q_F4, fun h0_ => absurd ((hoff 17 (by kernel_rfl)).symm.trans h0_) (by decide), Q_X4_, fun h0_ => absurd ((hoff 17 (by kernel_rfl)).symm.trans h0_) (by decide)⟩
    refine steps_cons ?_ ?_
    · rintro b a w' ⟨u4, u17, m4_, m17_, ha, Q_HB, Q_F4, Q_F17, Q_X4_, Q_X17_⟩ hb_ hon hoff
      refine ⟨_, rfl, fun K hK => ?_⟩
      have e73 : a.tmps[73]? = some (.slice (some adk) ks.length ck) := by rw [ha]; exact putSel_on (e := (12, 73, .slice (some adk) ks.length ck)) 12 rfl rfl (hon 12 (by kernel_rfl)) (by rw [hsz]; rfl)
      have e74 : a.tmps[74]? = some (.int .i64 n8) := by rw [ha]; exact putSel_on (e := (13, 74, .int .i64 n8)) 13 rfl rfl (hon 13 (by kernel_rfl)) (by rw [hsz]; rfl)
      have e72 : a.tmps[72]? = some (.bool true) := by rw [ha]; exact putSel_on (e := (11, 72, .bool true)) 11 rfl rfl (hon 11 (by kernel_rfl)) (by rw [hsz]; rfl)
      replace ha := Aside0.mk ha
      have HB := Aside0.mk Q_HB
      have F4 := Aside0.mk (Q_F4 (hon 4 (by kernel_rfl)))
      refine value_ (w1 := w') (v := .pointer (some (adk.add (n8.toNat * 3)))) (wanted_on rfl rfl rfl (e72.trans (by first | rfl | (simp [*]; done)))) rfl ?_ ?_
      · go_simp
        (try simp only [i64_w])
        try rfl
      refine hK.out _ _ ⟨u4, u17, m4_, m17_, (by rw [ha.out]; exact putSel_upk 14 hb_ rfl rfl rfl), Q_HB, Q_F4, fun h0_ => absurd ((hoff 17 (by kernel_rfl)).symm.trans h0_) (by decide), Q_X4_, fun h0_ => absurd ((hoff 17 (by kernel_rfl)).symm.trans h0_) (by decide)⟩
    refine steps_cons ?_ ?_
    · rintro b a w' ⟨u4, u17, m4_, m17_, ha, Q_HB, Q_F4, Q_F17, Q_X4_, Q_X17_⟩ hb_ hon hoff
      refine ⟨_, rfl, fun K hK => ?_⟩
      have e75 : a.tmps[75]? = some (.pointer (some (adk.add (n8.toNat * 3)))) := by rw [ha]; exact putSel_on (e := (14, 75, .pointer (some (adk.add (n8.toNat * 3))))) 14 rfl rfl (hon 14 (by kernel_rfl)) (by rw [hsz]; rfl)
      have e72 : a.tmps[72]? = some (.bool true) := by rw [ha]; exact putSel_on (e := (11, 72, .bool true)) 11 rfl rfl (hon 11 (by kernel_rfl)) (by rw [hsz]; rfl)
      replace ha := Aside0.mk ha
      have HB := Aside0.mk Q_HB
      have F4 := Aside0.mk (Q_F4 (hon 4 (by kernel_rfl)))
      obtain ⟨hx0_, hx1_, hx2_⟩ := HEk.out _ HB.out
      refine value_ (w1 := w') (v := .agg #[.int .i64 (rd_T29 ks n8).f0, .int .i64 (rd_T29 ks n8).f1, Ek]) (wanted_on rfl rfl rfl (e72.trans (by first | rfl | (simp [*]; done)))) rfl ?_ ?_
      · go_simp
        (try simp only [i64_w])
        try rfl
      refine hK.out _ _ ⟨u4, u17, m4_, m17_, (by rw [ha.out]; exact putSel_upk 15 hb_ rfl rfl rfl), Q_HB, Q_F4, fun h0_ => absurd ((hoff 17 (by kernel_rfl)).symm.trans h0_) (by decide), Q_X4_, fun h0_ => absurd ((hoff 17 (by kernel_rfl)).symm.trans h0_) (by decide)⟩
    refine steps_cons ?_ ?_
    · rintro b a w' ⟨u4, u17, m4_, m17_, ha, Q_HB, Q_F4, Q_F17, Q_X4_, Q_X17_⟩ hb_ hon hoff
      refine ⟨_, rfl, fun K hK => ?_⟩
      have e4 : a.tmps[4]? = some (.pointer (some ⟨bz, 0, none⟩)) := by rw [ha]; exact (putSel_off rfl).trans hz
      have e72 : a.tmps[72]? = some (.bool true) := by rw [ha]; exact putSel_on (e := (11, 72, .bool true)) 11 rfl rfl (hon 11 (by kernel_rfl)) (by rw [hsz]; rfl)
      replace ha := Aside0.mk ha
      have HB := Aside0.mk Q_HB
      have F4 := Aside0.mk (Q_F4 (hon 4 (by kernel_rfl)))
      have hc0_ : w'.cell? ⟨bz, 0, none⟩ = some (.int .i64 xz) := (blk_cell (blk_below BKz.out HB.out) 0).trans rfl
      have hc1_ : w'.cell? ⟨bz, 1, none⟩ = some (.int .i64 yz) := (blk_cell (blk_below BKz.out HB.out) 1).trans rfl
      have hc2_ : w'.cell? ⟨bz, 2, none⟩ = some (vz) := (blk_cell (blk_below BKz.out HB.out) 2).trans rfl
      refine value_ (w1 := w') (v := .agg #[.int .i64 xz, .int .i64 yz, vz]) (wanted_on rfl rfl rfl (e72.trans (by first | rfl | (simp [*]; done)))) rfl ?_ ?_
      · go_simp
        (try simp only [i64_w])
        try rfl
      refine hK.out _ _ ⟨u4, u17, m4_, m17_, (by rw [ha.out]; exact putSel_upk 16 hb_ rfl rfl rfl), Q_HB, Q_F4, fun h0_ => absurd ((hoff 17 (by kernel_rfl)).symm.trans h0_) (by decide), Q_X4_, fun h0_ => absurd ((hoff 17 (by kernel_rfl)).symm.trans h0_) (by decide)⟩
    refine steps_cons ?_ ?_
    · rintro b a w' ⟨u4, u17, m4_, m17_, ha, Q_HB, Q_F4, Q_F17, Q_X4_, Q_X17_⟩ hb_ hon hoff
      refine ⟨_, rfl, fun K hK => ?_⟩
      have e76 : a.tmps[76]? = some (.agg #[.int .i64 (rd_T29 ks n8).f0, .int .i64 (rd_T29 ks n8).f1, Ek]) := by rw [ha]; exact putSel_on (e := (15, 76, .agg #[.int .i64 (rd_T29 ks n8).f0, .int .i64 (rd_T29 ks n8).f1, Ek])) 15 rfl rfl (hon 15 (by kernel_rfl)) (by rw [hsz]; rfl)
      have e77 : a.tmps[77]? = some (.agg #[.int .i64 xz, .int .i64 yz, vz]) := by rw [ha]; exact putSel_on (e := (16, 77, .agg #[.int .i64 xz, .int .i64 yz, vz])) 16 rfl rfl (hon 16 (by kernel_rfl)) (by rw [hsz]; rfl)
      have e72 : a.tmps[72]? = some (.bool true) := by rw [ha]; exact putSel_on (e := (11, 72, .bool true)) 11 rfl rfl (hon 11 (by kernel_rfl)) (by rw [hsz]; rfl)
      replace ha := Aside0.mk ha
      have HB := Aside0.mk Q_HB
      have F4 := Aside0.mk (Q_F4 (hon 4 (by kernel_rfl)))
      refine goes_ Tryd.func22 (by kernel_rfl) rfl #[.agg #[.int .i64 (rd_T29 ks n8).f0, .int .i64 (rd_T29 ks n8).f1, Ek], .int .i64 0, .agg #[.int .i64 xz, .int .i64 yz, vz]] (wanted_on rfl rfl rfl (e72.trans (by first | rfl | (simp [*]; done)))) rfl rfl (by first | (simp only [List.map_toArray, List.map_cons, List.map_nil, Act.eval, Array.getD_eq_getD_getElem?, Option.getD_some, e76, e77, e72]; done) | (simp only [List.map_toArray, List.map_cons, List.map_nil, Act.eval, Array.getD_eq_getD_getElem?, Option.getD_some, e76, e77, e72]; rfl)) ?_
      refine (subst_go kk (rd_T29 ks n8).f0 (rd_T29 ks n8).f1 Ek (rd_T29 ks n8).f2 0 xz yz vz kz r17_0 r17_1 k17_ w' (fun k_ => False) (fun k_ h_ => h_.elim) (TV.old TEk.out HB.out (fun k_ h_ => h_.elim)) (TV.old Tz.out HB.out (fun k_ h_ => h_.elim)) AH17.out).mono ?_
      rintro e w1 ⟨v_, rfl, hv, hb⟩
      refine ⟨_, rfl, ?_⟩
      refine hK.out _ _ ⟨u4, v_, m4_, (.agg #[.int .i64 r17_0, .int .i64 r17_1, v_]), (by rw [ha.out]; exact putSel_upk 17 hb_ rfl rfl rfl), below_step HB.out hb, fun _ => F4.out.step hb, fun _ => hv, Q_X4_, fun _ => rfl⟩
    refine steps_cons ?_ ?_
    · rintro b a w' ⟨u4, u17, m4_, m17_, ha, Q_HB, Q_F4, Q_F17, Q_X4_, Q_X17_⟩ hb_ hon hoff
      refine ⟨_, rfl, fun K hK => ?_⟩
      have e78 : a.tmps[78]? = some (m17_) := by rw [ha]; exact putSel_on (e := (17, 78, m17_)) 17 rfl rfl (hon 17 (by kernel_rfl)) (by rw [hsz]; rfl)
      rw [Q_X17_ (hon 17 (by kernel_rfl))] at e78
      have e72 : a.tmps[72]? = some (.bool true) := by rw [ha]; exact putSel_on (e := (11, 72, .bool true)) 11 rfl rfl (hon 11 (by kernel_rfl)) (by rw [hsz]; rfl)
      replace ha := Aside0.mk ha
      have HB := Aside0.mk Q_HB
      have F4 := Aside0.mk (Q_F4 (hon 4 (by kernel_rfl)))
      have F17 := Aside0.mk (Q_F17 (hon 17 (by kernel_rfl)))
      refine goes_ Tryd.func17 (by kernel_rfl) rfl #[.agg #[.int .i64 r17_0, .int .i64 r17_1, u17]] (wanted_on rfl rfl rfl (e72.trans (by first | rfl | (simp [*]; done)))) rfl rfl (by first | (simp only [List.map_toArray, List.map_cons, List.map_nil, Act.eval, Array.getD_eq_getD_getElem?, Option.getD_some, e78, e72]; done) | (simp only [List.map_toArray, List.map_cons, List.map_nil, Act.eval, Array.getD_eq_getD_getElem?, Option.getD_some, e78, e72]; rfl)) ?_
      refine (stext_go kk r17_0 r17_1 u17 k17_  ty w' F17.out AH18.out).mono ?_
      rintro e w1 ⟨rfl, hb⟩
      refine ⟨_, rfl, ?_⟩
      refine hK.out _ _ ⟨u4, u17, m4_, m17_, (by rw [ha.out]; exact putSel_upk 18 hb_ rfl rfl rfl), below_step HB.out hb, fun _ => F4.out.step hb, fun _ => F17.out.step hb, Q_X4_, Q_X17_⟩
    refine steps_cons ?_ ?_
    · rintro b a w' ⟨u4, u17, m4_, m17_, ha, Q_HB, Q_F4, Q_F17, Q_X4_, Q_X17_⟩ hb_ hon hoff
      refine ⟨_, rfl, fun K hK => ?_⟩
      have e7 : a.tmps[7]? = some (.slice (some adb) 6 6) := by rw [ha]; exact (putSel_off rfl).trans h7
      have e72 : a.tmps[72]? = some (.bool true) := by rw [ha]; exact putSel_on (e := (11, 72, .bool true)) 11 rfl rfl (hon 11 (by kernel_rfl)) (by rw [hsz]; rfl)
      replace ha := Aside0.mk ha
      have HB := Aside0.mk Q_HB
      have F4 := Aside0.mk (Q_F4 (hon 4 (by kernel_rfl)))
      refine value_ (w1 := w') (v := .slice (some adb) 6 6) (wanted_on rfl rfl rfl (e72.trans (by first | rfl | (simp [*]; done)))) rfl ?_ ?_
      · go_simp
        (try simp only [i64_w])
        try rfl
      refine hK.out _ _ ⟨u4, u17, m4_, m17_, (by rw [ha.out]; exact putSel_upk 19 hb_ rfl rfl rfl), Q_HB, Q_F4, Q_F17, Q_X4_, Q_X17_⟩
    refine steps_cons ?_ ?_
    · rintro b a w' ⟨u4, u17, m4_, m17_, ha, Q_HB, Q_F4, Q_F17, Q_X4_, Q_X17_⟩ hb_ hon hoff
      refine ⟨_, rfl, fun K hK => ?_⟩
      have e8 : a.tmps[8]? = some (.int .i64 n8) := by rw [ha]; exact (putSel_off rfl).trans hn8
      have e72 : a.tmps[72]? = some (.bool true) := by rw [ha]; exact putSel_on (e := (11, 72, .bool true)) 11 rfl rfl (hon 11 (by kernel_rfl)) (by rw [hsz]; rfl)
      replace ha := Aside0.mk ha
      have HB := Aside0.mk Q_HB
      have F4 := Aside0.mk (Q_F4 (hon 4 (by kernel_rfl)))
      refine value_ (w1 := w') (v := .int .i64 n8) (wanted_on rfl rfl rfl (e72.trans (by first | rfl | (simp [*]; done)))) rfl ?_ ?_
      · go_simp
        (try simp only [i64_w])
        try rfl
      refine hK.out _ _ ⟨u4, u17, m4_, m17_, (by rw [ha.out]; exact putSel_upk 20 hb_ rfl rfl rfl), Q_HB, Q_F4, Q_F17, Q_X4_, Q_X17_⟩
    refine steps_cons ?_ ?_
    · rintro b a w' ⟨u4, u17, m4_, m17_, ha, Q_HB, Q_F4, Q_F17, Q_X4_, Q_X17_⟩ hb_ hon hoff
      refine ⟨_, rfl, fun K hK => ?_⟩
      have e80 : a.tmps[80]? = some (.slice (some adb) 6 6) := by rw [ha]; exact putSel_on (e := (19, 80, .slice (some adb) 6 6)) 19 rfl rfl (hon 19 (by kernel_rfl)) (by rw [hsz]; rfl)
      have e81 : a.tmps[81]? = some (.int .i64 n8) := by rw [ha]; exact putSel_on (e := (20, 81, .int .i64 n8)) 20 rfl rfl (hon 20 (by kernel_rfl)) (by rw [hsz]; rfl)
      have e72 : a.tmps[72]? = some (.bool true) := by rw [ha]; exact putSel_on (e := (11, 72, .bool true)) 11 rfl rfl (hon 11 (by kernel_rfl)) (by rw [hsz]; rfl)
      replace ha := Aside0.mk ha
      have HB := Aside0.mk Q_HB
      have F4 := Aside0.mk (Q_F4 (hon 4 (by kernel_rfl)))
      refine value_ (w1 := w') (v := .pointer (some (adb.add n8.toNat))) (wanted_on rfl rfl rfl (e72.trans (by first | rfl | (simp [*]; done)))) rfl ?_ ?_
      · go_simp
        (try simp only [i64_w])
        try rfl
      refine hK.out _ _ ⟨u4, u17, m4_, m17_, (by rw [ha.out]; exact putSel_upk 21 hb_ rfl rfl rfl), Q_HB, Q_F4, Q_F17, Q_X4_, Q_X17_⟩
    refine steps_cons ?_ ?_
    · rintro b a w' ⟨u4, u17, m4_, m17_, ha, Q_HB, Q_F4, Q_F17, Q_X4_, Q_X17_⟩ hb_ hon hoff
      refine ⟨_, rfl, fun K hK => ?_⟩
      have e82 : a.tmps[82]? = some (.pointer (some (adb.add n8.toNat))) := by rw [ha]; exact putSel_on (e := (21, 82, .pointer (some (adb.add n8.toNat)))) 21 rfl rfl (hon 21 (by kernel_rfl)) (by rw [hsz]; rfl)
      have e72 : a.tmps[72]? = some (.bool true) := by rw [ha]; exact putSel_on (e := (11, 72, .bool true)) 11 rfl rfl (hon 11 (by kernel_rfl)) (by rw [hsz]; rfl)
      replace ha := Aside0.mk ha
      have HB := Aside0.mk Q_HB
      have F4 := Aside0.mk (Q_F4 (hon 4 (by kernel_rfl)))
      have hsx_ := HSb.out _ HB.out
      refine value_ (w1 := w') (v := .string sb) (wanted_on rfl rfl rfl (e72.trans (by first | rfl | (simp [*]; done)))) rfl ?_ ?_
      · go_simp
        (try simp only [i64_w])
        try rfl
      refine hK.out _ _ ⟨u4, u17, m4_, m17_, (by rw [ha.out]; exact putSel_upk 22 hb_ rfl rfl rfl), Q_HB, Q_F4, Q_F17, Q_X4_, Q_X17_⟩
    refine steps_cons ?_ ?_
    · rintro b a w' ⟨u4, u17, m4_, m17_, ha, Q_HB, Q_F4, Q_F17, Q_X4_, Q_X17_⟩ hb_ hon hoff
      refine ⟨_, rfl, fun K hK => ?_⟩
      have e79 : a.tmps[79]? = some (.string ty) := by rw [ha]; exact putSel_on (e := (18, 79, .string ty)) 18 rfl rfl (hon 18 (by kernel_rfl)) (by rw [hsz]; rfl)
      have e83 : a.tmps[83]? = some (.string sb) := by rw [ha]; exact putSel_on (e := (22, 83, .string sb)) 22 rfl rfl (hon 22 (by kernel_rfl)) (by rw [hsz]; rfl)
      have e72 : a.tmps[72]? = some (.bool true) := by rw [ha]; exact putSel_on (e := (11, 72, .bool true)) 11 rfl rfl (hon 11 (by kernel_rfl)) (by rw [hsz]; rfl)
      replace ha := Aside0.mk ha
      have HB := Aside0.mk Q_HB
      have F4 := Aside0.mk (Q_F4 (hon 4 (by kernel_rfl)))
      have F17 := Aside0.mk (Q_F17 (hon 17 (by kernel_rfl)))
      refine value_ (w1 := w') (v := .bool true) (wanted_on rfl rfl rfl (e72.trans (by first | rfl | (simp [*]; done)))) rfl ?_ ?_
      · go_simp
        (try simp only [i64_w])
        try rfl
      refine hK.out _ _ ⟨u4, u17, m4_, m17_, (by rw [ha.out]; exact putSel_upk 23 hb_ rfl rfl rfl), Q_HB, Q_F4, Q_F17, Q_X4_, Q_X17_⟩
    refine steps_cons ?_ ?_
    · rintro b a w' ⟨u4, u17, m4_, m17_, ha, Q_HB, Q_F4, Q_F17, Q_X4_, Q_X17_⟩ hb_ hon hoff
      refine ⟨_, rfl, fun K hK => ?_⟩
      have e72 : a.tmps[72]? = some (.bool true) := by rw [ha]; exact putSel_on (e := (11, 72, .bool true)) 11 rfl rfl (hon 11 (by kernel_rfl)) (by rw [hsz]; rfl)
      have e84 : a.tmps[84]? = some (.bool true) := by rw [ha]; exact putSel_on (e := (23, 84, .bool true)) 23 rfl rfl (hon 23 (by kernel_rfl)) (by rw [hsz]; rfl)
      replace ha := Aside0.mk ha
      have HB := Aside0.mk Q_HB
      have F4 := Aside0.mk (Q_F4 (hon 4 (by kernel_rfl)))
      have F17 := Aside0.mk (Q_F17 (hon 17 (by kernel_rfl)))
      refine value_ (w1 := w') (v := .bool true) (by rfl) rfl ?_ ?_
      · go_simp
        (try simp only [i64_w])
        try rfl
      refine hK.out _ _ ⟨u4, u17, m4_, m17_, (by rw [ha.out]; exact putSel_upk 24 hb_ rfl rfl rfl), Q_HB, Q_F4, Q_F17, Q_X4_, Q_X17_⟩
    refine steps_cons ?_ ?_
    · rintro b a w' ⟨u4, u17, m4_, m17_, ha, Q_HB, Q_F4, Q_F17, Q_X4_, Q_X17_⟩ hb_ hon hoff
      refine ⟨_, rfl, fun K hK => ?_⟩
      have e85 : a.tmps[85]? = some (.bool true) := by rw [ha]; exact putSel_on (e := (24, 85, .bool true)) 24 rfl rfl (hon 24 (by kernel_rfl)) (by rw [hsz]; rfl)
      replace ha := Aside0.mk ha
      have HB := Aside0.mk Q_HB
      have F4 := Aside0.mk (Q_F4 (hon 4 (by kernel_rfl)))
      have F17 := Aside0.mk (Q_F17 (hon 17 (by kernel_rfl)))
      refine value_ (w1 := w') (v := .bool true) (by rfl) rfl ?_ ?_
      · go_simp
        (try simp only [i64_w])
        try rfl
      refine hK.out _ _ ⟨u4, u17, m4_, m17_, (by rw [ha.out]; exact putSel_upk 25 hb_ rfl rfl rfl), Q_HB, Q_F4, Q_F17, Q_X4_, Q_X17_⟩
    exact steps_nil
  · rintro b a w' hall ⟨u4, u17, m4_, m17_, ha, Q_HB, Q_F4, Q_F17, Q_X4_, Q_X17_⟩
    clear HB
    have hb0_ := hall 0 (by kernel_rfl)
    have hb1_ := hall 1 (by kernel_rfl)
    have hb2_ := hall 2 (by kernel_rfl)
    have hb3_ := hall 3 (by kernel_rfl)
    have hb4_ := hall 4 (by kernel_rfl)
    have hb5_ := hall 5 (by kernel_rfl)
    have hb6_ := hall 6 (by kernel_rfl)
    have hb7_ := hall 7 (by kernel_rfl)
    have hb8_ := hall 8 (by kernel_rfl)
    have hb9_ := hall 9 (by kernel_rfl)
    have hb10_ := hall 10 (by kernel_rfl)
    have hb11_ := hall 11 (by kernel_rfl)
    have hb12_ := hall 12 (by kernel_rfl)
    have hb13_ := hall 13 (by kernel_rfl)
    have hb14_ := hall 14 (by kernel_rfl)
    have hb15_ := hall 15 (by kernel_rfl)
    have hb16_ := hall 16 (by kernel_rfl)
    have hb17_ := hall 17 (by kernel_rfl)
    have hb18_ := hall 18 (by kernel_rfl)
    have hb19_ := hall 19 (by kernel_rfl)
    have hb20_ := hall 20 (by kernel_rfl)
    have hb21_ := hall 21 (by kernel_rfl)
    have hb22_ := hall 22 (by kernel_rfl)
    have hb23_ := hall 23 (by kernel_rfl)
    have hb24_ := hall 24 (by kernel_rfl)
    have hb25_ := hall 25 (by kernel_rfl)
    subst ha
    obtain rfl := Q_X4_ hb4_
    obtain rfl := Q_X17_ hb17_
    simp only [putSel, hb0_, hb1_, hb2_, hb3_, hb4_, hb5_, hb6_, hb7_, hb8_, hb9_, hb10_, hb11_, hb12_, hb13_, hb14_, hb15_, hb16_, hb17_, hb18_, hb19_, hb20_, hb21_, hb22_, hb23_, hb24_, hb25_, if_true]
    have HB := Aside0.mk Q_HB
    clear Q_HB
    have F4 := Aside0.mk (Q_F4 hb4_)
    clear Q_F4
    have F17 := Aside0.mk (Q_F17 hb17_)
    clear Q_F17
    clear hall hb0_ hb1_ hb2_ hb3_ hb4_ hb5_ hb6_ hb7_ hb8_ hb9_ hb10_ hb11_ hb12_ hb13_ hb14_ hb15_ hb16_ hb17_ hb18_ hb19_ hb20_ hb21_ hb22_ hb23_ hb24_ hb25_
    exact hQ   u4 u17  w' HB.out 
end Go.Proofs.YtcchfblekaaalaaDoor.P
