/- The reference's checker: walk's drawn region, by one relation (printed by genchk.py) -/
import Derived.Test.YtcchfblekaaalaaDoorCQx2
import Derived.Test.YtcchfblekaaalaaDoorCChkB
import Derived.Test.YtcchfblekaaalaaDoorCWant
namespace Go.Proofs.YtcchfblekaaalaaDoor.P
open Go.RowKit Go.Proofs.YtcchfblekaaalaaDoorW.PrintWords Go.Proofs.YtcchfblekaaalaaDoorW.PrintLast Go.Proofs.YtcchfblekaaalaaDoorW.PrintMore
set_option linter.unusedVariables false
set_option linter.unusedSimpArgs false
def checker_walk.T4 : Bool × List (List Nat × List Nat) := (true, [([], []), ([0], [0]), ([1], [1]), ([], []), ([3], [3]), ([4], [4]), ([2, 5], [2, 5]), ([6, 2], [6]), ([7], [7]), ([8, 7], [7, 8]), ([7], [7]), ([10, 7], [7, 10]), ([9, 11, 7, 7], [7, 9, 11]), ([12, 7], [7, 12]), ([7, 13], [7, 13]), ([14, 12], [14])])
def checker_walk.B4 : List Nat := [0, 1, 3, 0, 8, 24, 63, 127, 255, 511, 255, 1279, 4095, 8191, 16383, 32767]
theorem checker_walk.tab4 : rtab .any (opsOf Tryd.f54 4) = checker_walk.T4 := by kernel_rfl
theorem checker_walk.bits4 : waitsOk checker_walk.T4.2 checker_walk.B4 = true := by kernel_rfl
theorem arity_go (k : Nat) (a r : Int) (w : World) (h : thyrsusref4_Arity.f k a = some r) : Calls Tryd.prog 43 #[.int .i64 a] w fun e w' => e = .returned (.int .i64 r) ∧ Below w.heap.size w w' :=
  (thyrsusref4_Arity.calls k a r w h).mono fun e w' ⟨he, nd, hd⟩ => ⟨he, hd ▸ pw_below_drewN (Below.refl _ _) nd⟩
theorem number_go (a n : Int) (r : Bool) (w : World) (h : thyrsusref4_number.f a n = some r) : Calls Tryd.prog 66 #[.int .i64 a, .int .i64 n] w fun e w' => e = .returned (.bool r) ∧ Below w.heap.size w w' :=
  (thyrsusref4_number.calls a n r w h).mono fun e w' ⟨he, nd, hd⟩ => ⟨he, hd ▸ pw_below_drewN (Below.refl _ _) nd⟩
set_option maxHeartbeats 4000000 in
set_option maxRecDepth 100000 in
theorem walk_r4b {Q : Exit → Act → World → Prop} {a : Act} {W : World} (hsz : a.tmps.size = 69) (kk : Nat) (x y : Int) (A : Option Addr) (cc : Nat) (l : List S29) (bx4 : Nat) (hbx : a.tmps[4]? = some (.pointer (some ⟨bx4, 0, none⟩))) (BX_ : W.heap[bx4]? = some (.cells #[.int .i64 x, .int .i64 y, .slice A l.length cc] 29 (0, 0)))
    (ka : Nat) (ar : Int) (HA_ : thyrsusref4_Arity.f ka x = some ar) (nm : Bool) (HM_ : thyrsusref4_number.f x y = some nm) (hne : (ar != (l.length : Int)) = true)
    (hQ : ∀ (w' : World), Below W.heap.size W w' → Q .normal ((((((((((((((((a.put (some 28) (.pointer (some ⟨bx4, 0, none⟩))).put (some 29) (.int .i64 x)).put (some 30) (.int .i64 ar)).put (some 31) (.pointer (some ⟨bx4, 2, none⟩))).put (some 32) (.slice A l.length cc)).put (some 33) (.int .i64 l.length)).put (some 34) (.bool true)).put (some 35) (.bool true)).put (some 36) (undef)).put (some 37) (undef)).put (some 38) (undef)).put (some 39) (undef)).put (some 40) (undef)).put (some 41) (undef)).put (some 42) (.bool true)).put (some 27) (.bool true)) w') :
    (Code.region 4 (opsOf Tryd.f54 4) true).wp Tryd.prog Q a W := by
  have HT_ := Aside0.mk checker_walk.tab4
  have HW_ := Aside0.mk checker_walk.bits4
  have BX := Aside0.mk BX_
  have HA := Aside0.mk HA_
  have HM := Aside0.mk HM_
  clear BX_ HA_ HM_
  have HB := Aside0.mk (below_drew1 (Below.refl W.heap.size W))
  conv in (opsOf Tryd.f54 4) => whnf
  refine start_ (n := 16) (S := fun w' => True) (ds := []) #[false, false, false, false, false, false, false, false, false, false, false, false, false, false, false, false] (by kernel_rfl) rfl rfl trivial (fun hHeld => ?_)
  clear hHeld
  generalize W.drew = W1 at HB ⊢
  refine inv_at [0, 1, 2, 3, 4, 5, 6, 7, 8, 9, 10, 11, 12, 13, 14, 15] (fun a0_ b a w' => a = putSel a0_ b [(0, 28, .pointer (some ⟨bx4, 0, none⟩)), (1, 29, .int .i64 x), (2, 30, .int .i64 ar), (3, 31, .pointer (some ⟨bx4, 2, none⟩)), (4, 32, .slice A l.length cc), (5, 33, .int .i64 l.length), (6, 34, .bool true), (7, 35, .bool true), (8, 36, undef), (9, 37, undef), (10, 38, undef), (11, 39, undef), (12, 40, undef), (13, 41, undef), (14, 42, .bool true), (15, 27, .bool true)] ∧ (Below W.heap.size W w')) HT_.out HW_.out (by kernel_rfl) (by kernel_rfl) ?_ ?_ ?_
  · exact ⟨by simp only [putSel, Bool.false_eq_true, if_false], HB.out⟩
  · skip
    clear HB
    refine steps_cons ?_ ?_
    · rintro b a w' ⟨ha, Q_HB⟩ hb_ hon hoff
      refine ⟨_, rfl, fun K hK => ?_⟩
      have e4 : a.tmps[4]? = some (.pointer (some ⟨bx4, 0, none⟩)) := by rw [ha]; exact (putSel_off rfl).trans hbx
      replace ha := Aside0.mk ha
      have HB := Aside0.mk Q_HB
      refine value_ (w1 := w') (v := .pointer (some ⟨bx4, 0, none⟩)) (by rfl) rfl ?_ ?_
      · go_simp
        (try simp only [i64_w])
        try rfl
      refine hK.out _ _ ⟨(by rw [ha.out]; exact putSel_upk 0 hb_ rfl rfl rfl), Q_HB⟩
    refine steps_cons ?_ ?_
    · rintro b a w' ⟨ha, Q_HB⟩ hb_ hon hoff
      refine ⟨_, rfl, fun K hK => ?_⟩
      have e28 : a.tmps[28]? = some (.pointer (some ⟨bx4, 0, none⟩)) := by rw [ha]; exact putSel_on (e := (0, 28, .pointer (some ⟨bx4, 0, none⟩))) 0 rfl rfl (hon 0 (by kernel_rfl)) (by rw [hsz]; rfl)
      replace ha := Aside0.mk ha
      have HB := Aside0.mk Q_HB
      have hc0_ : w'.cell? ⟨bx4, 0, none⟩ = some (.int .i64 x) := (blk_cell (blk_below BX.out HB.out) 0).trans rfl
      refine value_ (w1 := w') (v := .int .i64 x) (by rfl) rfl ?_ ?_
      · go_simp
        (try simp only [i64_w])
        try rfl
      refine hK.out _ _ ⟨(by rw [ha.out]; exact putSel_upk 1 hb_ rfl rfl rfl), Q_HB⟩
    refine steps_cons ?_ ?_
    · rintro b a w' ⟨ha, Q_HB⟩ hb_ hon hoff
      refine ⟨_, rfl, fun K hK => ?_⟩
      have e29 : a.tmps[29]? = some (.int .i64 x) := by rw [ha]; exact putSel_on (e := (1, 29, .int .i64 x)) 1 rfl rfl (hon 1 (by kernel_rfl)) (by rw [hsz]; rfl)
      replace ha := Aside0.mk ha
      have HB := Aside0.mk Q_HB
      refine goes_ Tryd.func43 (by kernel_rfl) rfl #[.int .i64 x] (by rfl) rfl rfl (by first | (simp only [List.map_toArray, List.map_cons, List.map_nil, Act.eval, Array.getD_eq_getD_getElem?, Option.getD_some, e29]; done) | (simp only [List.map_toArray, List.map_cons, List.map_nil, Act.eval, Array.getD_eq_getD_getElem?, Option.getD_some, e29]; rfl)) ?_
      refine (arity_go ka x ar w' HA.out).mono ?_
      rintro e w1 ⟨rfl, hb⟩
      refine ⟨_, rfl, ?_⟩
      refine hK.out _ _ ⟨(by rw [ha.out]; exact putSel_upk 2 hb_ rfl rfl rfl), below_step HB.out hb⟩
    refine steps_cons ?_ ?_
    · rintro b a w' ⟨ha, Q_HB⟩ hb_ hon hoff
      refine ⟨_, rfl, fun K hK => ?_⟩
      have e4 : a.tmps[4]? = some (.pointer (some ⟨bx4, 0, none⟩)) := by rw [ha]; exact (putSel_off rfl).trans hbx
      replace ha := Aside0.mk ha
      have HB := Aside0.mk Q_HB
      refine value_ (w1 := w') (v := .pointer (some ⟨bx4, 2, none⟩)) (by rfl) rfl ?_ ?_
      · go_simp
        (try simp only [i64_w])
        try rfl
      refine hK.out _ _ ⟨(by rw [ha.out]; exact putSel_upk 3 hb_ rfl rfl rfl), Q_HB⟩
    refine steps_cons ?_ ?_
    · rintro b a w' ⟨ha, Q_HB⟩ hb_ hon hoff
      refine ⟨_, rfl, fun K hK => ?_⟩
      have e31 : a.tmps[31]? = some (.pointer (some ⟨bx4, 2, none⟩)) := by rw [ha]; exact putSel_on (e := (3, 31, .pointer (some ⟨bx4, 2, none⟩))) 3 rfl rfl (hon 3 (by kernel_rfl)) (by rw [hsz]; rfl)
      replace ha := Aside0.mk ha
      have HB := Aside0.mk Q_HB
      have hc2_ : w'.cell? ⟨bx4, 2, none⟩ = some (.slice A l.length cc) := (blk_cell (blk_below BX.out HB.out) 2).trans rfl
      refine value_ (w1 := w') (v := .slice A l.length cc) (by rfl) rfl ?_ ?_
      · go_simp
        (try simp only [i64_w])
        try rfl
      refine hK.out _ _ ⟨(by rw [ha.out]; exact putSel_upk 4 hb_ rfl rfl rfl), Q_HB⟩
    refine steps_cons ?_ ?_
    · rintro b a w' ⟨ha, Q_HB⟩ hb_ hon hoff
      refine ⟨_, rfl, fun K hK => ?_⟩
      have e32 : a.tmps[32]? = some (.slice A l.length cc) := by rw [ha]; exact putSel_on (e := (4, 32, .slice A l.length cc)) 4 rfl rfl (hon 4 (by kernel_rfl)) (by rw [hsz]; rfl)
      replace ha := Aside0.mk ha
      have HB := Aside0.mk Q_HB
      refine value_ (w1 := w') (v := .int .i64 l.length) (by rfl) rfl ?_ ?_
      · go_simp
        (try simp only [i64_w])
        try rfl
      refine hK.out _ _ ⟨(by rw [ha.out]; exact putSel_upk 5 hb_ rfl rfl rfl), Q_HB⟩
    refine steps_cons ?_ ?_
    · rintro b a w' ⟨ha, Q_HB⟩ hb_ hon hoff
      refine ⟨_, rfl, fun K hK => ?_⟩
      have e30 : a.tmps[30]? = some (.int .i64 ar) := by rw [ha]; exact putSel_on (e := (2, 30, .int .i64 ar)) 2 rfl rfl (hon 2 (by kernel_rfl)) (by rw [hsz]; rfl)
      have e33 : a.tmps[33]? = some (.int .i64 l.length) := by rw [ha]; exact putSel_on (e := (5, 33, .int .i64 l.length)) 5 rfl rfl (hon 5 (by kernel_rfl)) (by rw [hsz]; rfl)
      replace ha := Aside0.mk ha
      have HB := Aside0.mk Q_HB
      refine value_ (w1 := w') (v := .bool true) (by rfl) rfl ?_ ?_
      · go_simp
        (try simp only [i64_w])
        try rfl
      refine hK.out _ _ ⟨(by rw [ha.out]; exact putSel_upk 6 hb_ rfl rfl rfl), Q_HB⟩
    refine steps_cons ?_ ?_
    · rintro b a w' ⟨ha, Q_HB⟩ hb_ hon hoff
      refine ⟨_, rfl, fun K hK => ?_⟩
      have e34 : a.tmps[34]? = some (.bool true) := by rw [ha]; exact putSel_on (e := (6, 34, .bool true)) 6 rfl rfl (hon 6 (by kernel_rfl)) (by rw [hsz]; rfl)
      replace ha := Aside0.mk ha
      have HB := Aside0.mk Q_HB
      refine value_ (w1 := w') (v := .bool true) (by rfl) rfl ?_ ?_
      · go_simp
        (try simp only [i64_w])
        try rfl
      refine hK.out _ _ ⟨(by rw [ha.out]; exact putSel_upk 7 hb_ rfl rfl rfl), Q_HB⟩
    refine steps_cons ?_ ?_
    · rintro b a w' ⟨ha, Q_HB⟩ hb_ hon hoff
      refine ⟨_, rfl, fun K hK => ?_⟩
      have e35 : a.tmps[35]? = some (.bool true) := by rw [ha]; exact putSel_on (e := (7, 35, .bool true)) 7 rfl rfl (hon 7 (by kernel_rfl)) (by rw [hsz]; rfl)
      replace ha := Aside0.mk ha
      have HB := Aside0.mk Q_HB
      refine off_ (wanted_off rfl rfl rfl (e35.trans (by first | rfl | (simp [*]; done)))) ?_
      refine hK.out _ _ ⟨(by rw [ha.out]; exact putSel_upk 8 hb_ rfl rfl rfl), Q_HB⟩
    refine steps_cons ?_ ?_
    · rintro b a w' ⟨ha, Q_HB⟩ hb_ hon hoff
      refine ⟨_, rfl, fun K hK => ?_⟩
      have e35 : a.tmps[35]? = some (.bool true) := by rw [ha]; exact putSel_on (e := (7, 35, .bool true)) 7 rfl rfl (hon 7 (by kernel_rfl)) (by rw [hsz]; rfl)
      replace ha := Aside0.mk ha
      have HB := Aside0.mk Q_HB
      refine off_ (wanted_off rfl rfl rfl (e35.trans (by first | rfl | (simp [*]; done)))) ?_
      refine hK.out _ _ ⟨(by rw [ha.out]; exact putSel_upk 9 hb_ rfl rfl rfl), Q_HB⟩
    refine steps_cons ?_ ?_
    · rintro b a w' ⟨ha, Q_HB⟩ hb_ hon hoff
      refine ⟨_, rfl, fun K hK => ?_⟩
      have e35 : a.tmps[35]? = some (.bool true) := by rw [ha]; exact putSel_on (e := (7, 35, .bool true)) 7 rfl rfl (hon 7 (by kernel_rfl)) (by rw [hsz]; rfl)
      replace ha := Aside0.mk ha
      have HB := Aside0.mk Q_HB
      refine off_ (wanted_off rfl rfl rfl (e35.trans (by first | rfl | (simp [*]; done)))) ?_
      refine hK.out _ _ ⟨(by rw [ha.out]; exact putSel_upk 10 hb_ rfl rfl rfl), Q_HB⟩
    refine steps_cons ?_ ?_
    · rintro b a w' ⟨ha, Q_HB⟩ hb_ hon hoff
      refine ⟨_, rfl, fun K hK => ?_⟩
      have e35 : a.tmps[35]? = some (.bool true) := by rw [ha]; exact putSel_on (e := (7, 35, .bool true)) 7 rfl rfl (hon 7 (by kernel_rfl)) (by rw [hsz]; rfl)
      replace ha := Aside0.mk ha
      have HB := Aside0.mk Q_HB
      refine off_ (wanted_off rfl rfl rfl (e35.trans (by first | rfl | (simp [*]; done)))) ?_
      refine hK.out _ _ ⟨(by rw [ha.out]; exact putSel_upk 11 hb_ rfl rfl rfl), Q_HB⟩
    refine steps_cons ?_ ?_
    · rintro b a w' ⟨ha, Q_HB⟩ hb_ hon hoff
      refine ⟨_, rfl, fun K hK => ?_⟩
      have e35 : a.tmps[35]? = some (.bool true) := by rw [ha]; exact putSel_on (e := (7, 35, .bool true)) 7 rfl rfl (hon 7 (by kernel_rfl)) (by rw [hsz]; rfl)
      replace ha := Aside0.mk ha
      have HB := Aside0.mk Q_HB
      refine off_ (wanted_off rfl rfl rfl (e35.trans (by first | rfl | (simp [*]; done)))) ?_
      refine hK.out _ _ ⟨(by rw [ha.out]; exact putSel_upk 12 hb_ rfl rfl rfl), Q_HB⟩
    refine steps_cons ?_ ?_
    · rintro b a w' ⟨ha, Q_HB⟩ hb_ hon hoff
      refine ⟨_, rfl, fun K hK => ?_⟩
      have e35 : a.tmps[35]? = some (.bool true) := by rw [ha]; exact putSel_on (e := (7, 35, .bool true)) 7 rfl rfl (hon 7 (by kernel_rfl)) (by rw [hsz]; rfl)
      replace ha := Aside0.mk ha
      have HB := Aside0.mk Q_HB
      refine off_ (wanted_off rfl rfl rfl (e35.trans (by first | rfl | (simp [*]; done)))) ?_
      refine hK.out _ _ ⟨(by rw [ha.out]; exact putSel_upk 13 hb_ rfl rfl rfl), Q_HB⟩
    refine steps_cons ?_ ?_
    · rintro b a w' ⟨ha, Q_HB⟩ hb_ hon hoff
      refine ⟨_, rfl, fun K hK => ?_⟩
      have e35 : a.tmps[35]? = some (.bool true) := by rw [ha]; exact putSel_on (e := (7, 35, .bool true)) 7 rfl rfl (hon 7 (by kernel_rfl)) (by rw [hsz]; rfl)
      have e41 : a.tmps[41]? = some (undef) := by rw [ha]; exact putSel_on (e := (13, 41, undef)) 13 rfl rfl (hon 13 (by kernel_rfl)) (by rw [hsz]; rfl)
      replace ha := Aside0.mk ha
      have HB := Aside0.mk Q_HB
      refine value_ (w1 := w') (v := .bool true) (by rfl) rfl ?_ ?_
      · go_simp
        (try simp only [i64_w])
        try rfl
      refine hK.out _ _ ⟨(by rw [ha.out]; exact putSel_upk 14 hb_ rfl rfl rfl), Q_HB⟩
    refine steps_cons ?_ ?_
    · rintro b a w' ⟨ha, Q_HB⟩ hb_ hon hoff
      refine ⟨_, rfl, fun K hK => ?_⟩
      have e42 : a.tmps[42]? = some (.bool true) := by rw [ha]; exact putSel_on (e := (14, 42, .bool true)) 14 rfl rfl (hon 14 (by kernel_rfl)) (by rw [hsz]; rfl)
      replace ha := Aside0.mk ha
      have HB := Aside0.mk Q_HB
      refine value_ (w1 := w') (v := .bool true) (by rfl) rfl ?_ ?_
      · go_simp
        (try simp only [i64_w])
        try rfl
      refine hK.out _ _ ⟨(by rw [ha.out]; exact putSel_upk 15 hb_ rfl rfl rfl), Q_HB⟩
    exact steps_nil
  · rintro b a w' hall ⟨ha, Q_HB⟩
    clear HB
    have hb0_ := hall 0 (by kernel_rfl)
    have hb1_ := hall 1 (by kernel_rfl)
    have hb2_ := hall 2 (by kernel_rfl)
    have hb3_ := hall 3 (by kernel_rfl)
    have hb4_ := hall 4 (by kernel_rfl)
    have hb5_ := hall 5 (by kernel_rfl)
    have hb6_ := hall 6 (by kernel_rfl)
    have hb7_ := hall 7 (by kernel_rfl)
    have hb8_ := hall 8 (by kernel_rfl)
    have hb9_ := hall 9 (by kernel_rfl)
    have hb10_ := hall 10 (by kernel_rfl)
    have hb11_ := hall 11 (by kernel_rfl)
    have hb12_ := hall 12 (by kernel_rfl)
    have hb13_ := hall 13 (by kernel_rfl)
    have hb14_ := hall 14 (by kernel_rfl)
    have hb15_ := hall 15 (by kernel_rfl)
    subst ha
    simp only [putSel, hb0_, hb1_, hb2_, hb3_, hb4_, hb5_, hb6_, hb7_, hb8_, hb9_, hb10_, hb11_, hb12_, hb13_, hb14_, hb15_, if_true]
    have HB := Aside0.mk Q_HB
    clear Q_HB
    clear hall hb0_ hb1_ hb2_ hb3_ hb4_ hb5_ hb6_ hb7_ hb8_ hb9_ hb10_ hb11_ hb12_ hb13_ hb14_ hb15_
    exact hQ     w' HB.out 
set_option maxHeartbeats 4000000 in
set_option maxRecDepth 100000 in
theorem walk_r4gf {Q : Exit → Act → World → Prop} {a : Act} {W : World} (hsz : a.tmps.size = 69) (kk : Nat) (x y : Int) (A : Option Addr) (cc : Nat) (l : List S29) (bx4 : Nat) (hbx : a.tmps[4]? = some (.pointer (some ⟨bx4, 0, none⟩))) (BX_ : W.heap[bx4]? = some (.cells #[.int .i64 x, .int .i64 y, .slice A l.length cc] 29 (0, 0)))
    (ka : Nat) (ar : Int) (HA_ : thyrsusref4_Arity.f ka x = some ar) (HM_ : thyrsusref4_number.f x y = some false) (hne : (ar != (l.length : Int)) = false)
    (hQ : ∀ (w' : World), Below W.heap.size W w' → Q .normal ((((((((((((((((a.put (some 28) (.pointer (some ⟨bx4, 0, none⟩))).put (some 29) (.int .i64 x)).put (some 30) (.int .i64 ar)).put (some 31) (.pointer (some ⟨bx4, 2, none⟩))).put (some 32) (.slice A l.length cc)).put (some 33) (.int .i64 l.length)).put (some 34) (.bool false)).put (some 35) (.bool false)).put (some 36) (.pointer (some ⟨bx4, 0, none⟩))).put (some 37) (.int .i64 x)).put (some 38) (.pointer (some ⟨bx4, 1, none⟩))).put (some 39) (.int .i64 y)).put (some 40) (.bool false)).put (some 41) (.bool true)).put (some 42) (.bool true)).put (some 27) (.bool true)) w') :
    (Code.region 4 (opsOf Tryd.f54 4) true).wp Tryd.prog Q a W := by
  have HT_ := Aside0.mk checker_walk.tab4
  have HW_ := Aside0.mk checker_walk.bits4
  have BX := Aside0.mk BX_
  have HA := Aside0.mk HA_
  have HM := Aside0.mk HM_
  clear BX_ HA_ HM_
  have HB := Aside0.mk (below_drew1 (Below.refl W.heap.size W))
  conv in (opsOf Tryd.f54 4) => whnf
  refine start_ (n := 16) (S := fun w' => True) (ds := []) #[false, false, false, false, false, false, false, false, false, false, false, false, false, false, false, false] (by kernel_rfl) rfl rfl trivial (fun hHeld => ?_)
  clear hHeld
  generalize W.drew = W1 at HB ⊢
  refine inv_at [0, 1, 2, 3, 4, 5, 6, 7, 8, 9, 10, 11, 12, 13, 14, 15] (fun a0_ b a w' => a = putSel a0_ b [(0, 28, .pointer (some ⟨bx4, 0, none⟩)), (1, 29, .int .i64 x), (2, 30, .int .i64 ar), (3, 31, .pointer (some ⟨bx4, 2, none⟩)), (4, 32, .slice A l.length cc), (5, 33, .int .i64 l.length), (6, 34, .bool false), (7, 35, .bool false), (8, 36, .pointer (some ⟨bx4, 0, none⟩)), (9, 37, .int .i64 x), (10, 38, .pointer (some ⟨bx4, 1, none⟩)), (11, 39, .int .i64 y), (12, 40, .bool false), (13, 41, .bool true), (14, 42, .bool true), (15, 27, .bool true)] ∧ (Below W.heap.size W w')) HT_.out HW_.out (by kernel_rfl) (by kernel_rfl) ?_ ?_ ?_
  · exact ⟨by simp only [putSel, Bool.false_eq_true, if_false], HB.out⟩
  · skip
    clear HB
    refine steps_cons ?_ ?_
    · rintro b a w' ⟨ha, Q_HB⟩ hb_ hon hoff
      refine ⟨_, rfl, fun K hK => ?_⟩
      have e4 : a.tmps[4]? = some (.pointer (some ⟨bx4, 0, none⟩)) := by rw [ha]; exact (putSel_off rfl).trans hbx
      replace ha := Aside0.mk ha
      have HB := Aside0.mk Q_HB
      refine value_ (w1 := w') (v := .pointer (some ⟨bx4, 0, none⟩)) (by rfl) rfl ?_ ?_
      · go_simp
        (try simp only [i64_w])
        try rfl
      refine hK.out _ _ ⟨(by rw [ha.out]; exact putSel_upk 0 hb_ rfl rfl rfl), Q_HB⟩
    refine steps_cons ?_ ?_
    · rintro b a w' ⟨ha, Q_HB⟩ hb_ hon hoff
      refine ⟨_, rfl, fun K hK => ?_⟩
      have e28 : a.tmps[28]? = some (.pointer (some ⟨bx4, 0, none⟩)) := by rw [ha]; exact putSel_on (e := (0, 28, .pointer (some ⟨bx4, 0, none⟩))) 0 rfl rfl (hon 0 (by kernel_rfl)) (by rw [hsz]; rfl)
      replace ha := Aside0.mk ha
      have HB := Aside0.mk Q_HB
      have hc0_ : w'.cell? ⟨bx4, 0, none⟩ = some (.int .i64 x) := (blk_cell (blk_below BX.out HB.out) 0).trans rfl
      refine value_ (w1 := w') (v := .int .i64 x) (by rfl) rfl ?_ ?_
      · go_simp
        (try simp only [i64_w])
        try rfl
      refine hK.out _ _ ⟨(by rw [ha.out]; exact putSel_upk 1 hb_ rfl rfl rfl), Q_HB⟩
    refine steps_cons ?_ ?_
    · rintro b a w' ⟨ha, Q_HB⟩ hb_ hon hoff
      refine ⟨_, rfl, fun K hK => ?_⟩
      have e29 : a.tmps[29]? = some (.int .i64 x) := by rw [ha]; exact putSel_on (e := (1, 29, .int .i64 x)) 1 rfl rfl (hon 1 (by kernel_rfl)) (by rw [hsz]; rfl)
      replace ha := Aside0.mk ha
      have HB := Aside0.mk Q_HB
      refine goes_ Tryd.func43 (by kernel_rfl) rfl #[.int .i64 x] (by rfl) rfl rfl (by first | (simp only [List.map_toArray, List.map_cons, List.map_nil, Act.eval, Array.getD_eq_getD_getElem?, Option.getD_some, e29]; done) | (simp only [List.map_toArray, List.map_cons, List.map_nil, Act.eval, Array.getD_eq_getD_getElem?, Option.getD_some, e29]; rfl)) ?_
      refine (arity_go ka x ar w' HA.out).mono ?_
      rintro e w1 ⟨rfl, hb⟩
      refine ⟨_, rfl, ?_⟩
      refine hK.out _ _ ⟨(by rw [ha.out]; exact putSel_upk 2 hb_ rfl rfl rfl), below_step HB.out hb⟩
    refine steps_cons ?_ ?_
    · rintro b a w' ⟨ha, Q_HB⟩ hb_ hon hoff
      refine ⟨_, rfl, fun K hK => ?_⟩
      have e4 : a.tmps[4]? = some (.pointer (some ⟨bx4, 0, none⟩)) := by rw [ha]; exact (putSel_off rfl).trans hbx
      replace ha := Aside0.mk ha
      have HB := Aside0.mk Q_HB
      refine value_ (w1 := w') (v := .pointer (some ⟨bx4, 2, none⟩)) (by rfl) rfl ?_ ?_
      · go_simp
        (try simp only [i64_w])
        try rfl
      refine hK.out _ _ ⟨(by rw [ha.out]; exact putSel_upk 3 hb_ rfl rfl rfl), Q_HB⟩
    refine steps_cons ?_ ?_
    · rintro b a w' ⟨ha, Q_HB⟩ hb_ hon hoff
      refine ⟨_, rfl, fun K hK => ?_⟩
      have e31 : a.tmps[31]? = some (.pointer (some ⟨bx4, 2, none⟩)) := by rw [ha]; exact putSel_on (e := (3, 31, .pointer (some ⟨bx4, 2, none⟩))) 3 rfl rfl (hon 3 (by kernel_rfl)) (by rw [hsz]; rfl)
      replace ha := Aside0.mk ha
      have HB := Aside0.mk Q_HB
      have hc2_ : w'.cell? ⟨bx4, 2, none⟩ = some (.slice A l.length cc) := (blk_cell (blk_below BX.out HB.out) 2).trans rfl
      refine value_ (w1 := w') (v := .slice A l.length cc) (by rfl) rfl ?_ ?_
      · go_simp
        (try simp only [i64_w])
        try rfl
      refine hK.out _ _ ⟨(by rw [ha.out]; exact putSel_upk 4 hb_ rfl rfl rfl), Q_HB⟩
    refine steps_cons ?_ ?_
    · rintro b a w' ⟨ha, Q_HB⟩ hb_ hon hoff
      refine ⟨_, rfl, fun K hK => ?_⟩
      have e32 : a.tmps[32]? = some (.slice A l.length cc) := by rw [ha]; exact putSel_on (e := (4, 32, .slice A l.length cc)) 4 rfl rfl (hon 4 (by kernel_rfl)) (by rw [hsz]; rfl)
      replace ha := Aside0.mk ha
      have HB := Aside0.mk Q_HB
      refine value_ (w1 := w') (v := .int .i64 l.length) (by rfl) rfl ?_ ?_
      · go_simp
        (try simp only [i64_w])
        try rfl
      refine hK.out _ _ ⟨(by rw [ha.out]; exact putSel_upk 5 hb_ rfl rfl rfl), Q_HB⟩
    refine steps_cons ?_ ?_
    · rintro b a w' ⟨ha, Q_HB⟩ hb_ hon hoff
      refine ⟨_, rfl, fun K hK => ?_⟩
      have e30 : a.tmps[30]? = some (.int .i64 ar) := by rw [ha]; exact putSel_on (e := (2, 30, .int .i64 ar)) 2 rfl rfl (hon 2 (by kernel_rfl)) (by rw [hsz]; rfl)
      have e33 : a.tmps[33]? = some (.int .i64 l.length) := by rw [ha]; exact putSel_on (e := (5, 33, .int .i64 l.length)) 5 rfl rfl (hon 5 (by kernel_rfl)) (by rw [hsz]; rfl)
      replace ha := Aside0.mk ha
      have HB := Aside0.mk Q_HB
      refine value_ (w1 := w') (v := .bool false) (by rfl) rfl ?_ ?_
      · go_simp
        (try simp only [i64_w])
        try rfl
      refine hK.out _ _ ⟨(by rw [ha.out]; exact putSel_upk 6 hb_ rfl rfl rfl), Q_HB⟩
    refine steps_cons ?_ ?_
    · rintro b a w' ⟨ha, Q_HB⟩ hb_ hon hoff
      refine ⟨_, rfl, fun K hK => ?_⟩
      have e34 : a.tmps[34]? = some (.bool false) := by rw [ha]; exact putSel_on (e := (6, 34, .bool false)) 6 rfl rfl (hon 6 (by kernel_rfl)) (by rw [hsz]; rfl)
      replace ha := Aside0.mk ha
      have HB := Aside0.mk Q_HB
      refine value_ (w1 := w') (v := .bool false) (by rfl) rfl ?_ ?_
      · go_simp
        (try simp only [i64_w])
        try rfl
      refine hK.out _ _ ⟨(by rw [ha.out]; exact putSel_upk 7 hb_ rfl rfl rfl), Q_HB⟩
    refine steps_cons ?_ ?_
    · rintro b a w' ⟨ha, Q_HB⟩ hb_ hon hoff
      refine ⟨_, rfl, fun K hK => ?_⟩
      have e4 : a.tmps[4]? = some (.pointer (some ⟨bx4, 0, none⟩)) := by rw [ha]; exact (putSel_off rfl).trans hbx
      have e35 : a.tmps[35]? = some (.bool false) := by rw [ha]; exact putSel_on (e := (7, 35, .bool false)) 7 rfl rfl (hon 7 (by kernel_rfl)) (by rw [hsz]; rfl)
      replace ha := Aside0.mk ha
      have HB := Aside0.mk Q_HB
      refine value_ (w1 := w') (v := .pointer (some ⟨bx4, 0, none⟩)) (wanted_on rfl rfl rfl (e35.trans (by first | rfl | (simp [*]; done)))) rfl ?_ ?_
      · go_simp
        (try simp only [i64_w])
        try rfl
      refine hK.out _ _ ⟨(by rw [ha.out]; exact putSel_upk 8 hb_ rfl rfl rfl), Q_HB⟩
    refine steps_cons ?_ ?_
    · rintro b a w' ⟨ha, Q_HB⟩ hb_ hon hoff
      refine ⟨_, rfl, fun K hK => ?_⟩
      have e36 : a.tmps[36]? = some (.pointer (some ⟨bx4, 0, none⟩)) := by rw [ha]; exact putSel_on (e := (8, 36, .pointer (some ⟨bx4, 0, none⟩))) 8 rfl rfl (hon 8 (by kernel_rfl)) (by rw [hsz]; rfl)
      have e35 : a.tmps[35]? = some (.bool false) := by rw [ha]; exact putSel_on (e := (7, 35, .bool false)) 7 rfl rfl (hon 7 (by kernel_rfl)) (by rw [hsz]; rfl)
      replace ha := Aside0.mk ha
      have HB := Aside0.mk Q_HB
      have hc0_ : w'.cell? ⟨bx4, 0, none⟩ = some (.int .i64 x) := (blk_cell (blk_below BX.out HB.out) 0).trans rfl
      refine value_ (w1 := w') (v := .int .i64 x) (wanted_on rfl rfl rfl (e35.trans (by first | rfl | (simp [*]; done)))) rfl ?_ ?_
      · go_simp
        (try simp only [i64_w])
        try rfl
      refine hK.out _ _ ⟨(by rw [ha.out]; exact putSel_upk 9 hb_ rfl rfl rfl), Q_HB⟩
    refine steps_cons ?_ ?_
    · rintro b a w' ⟨ha, Q_HB⟩ hb_ hon hoff
      refine ⟨_, rfl, fun K hK => ?_⟩
      have e4 : a.tmps[4]? = some (.pointer (some ⟨bx4, 0, none⟩)) := by rw [ha]; exact (putSel_off rfl).trans hbx
      have e35 : a.tmps[35]? = some (.bool false) := by rw [ha]; exact putSel_on (e := (7, 35, .bool false)) 7 rfl rfl (hon 7 (by kernel_rfl)) (by rw [hsz]; rfl)
      replace ha := Aside0.mk ha
      have HB := Aside0.mk Q_HB
      refine value_ (w1 := w') (v := .pointer (some ⟨bx4, 1, none⟩)) (wanted_on rfl rfl rfl (e35.trans (by first | rfl | (simp [*]; done)))) rfl ?_ ?_
      · go_simp
        (try simp only [i64_w])
        try rfl
      refine hK.out _ _ ⟨(by rw [ha.out]; exact putSel_upk 10 hb_ rfl rfl rfl), Q_HB⟩
    refine steps_cons ?_ ?_
    · rintro b a w' ⟨ha, Q_HB⟩ hb_ hon hoff
      refine ⟨_, rfl, fun K hK => ?_⟩
      have e38 : a.tmps[38]? = some (.pointer (some ⟨bx4, 1, none⟩)) := by rw [ha]; exact putSel_on (e := (10, 38, .pointer (some ⟨bx4, 1, none⟩))) 10 rfl rfl (hon 10 (by kernel_rfl)) (by rw [hsz]; rfl)
      have e35 : a.tmps[35]? = some (.bool false) := by rw [ha]; exact putSel_on (e := (7, 35, .bool false)) 7 rfl rfl (hon 7 (by kernel_rfl)) (by rw [hsz]; rfl)
      replace ha := Aside0.mk ha
      have HB := Aside0.mk Q_HB
      have hc1_ : w'.cell? ⟨bx4, 1, none⟩ = some (.int .i64 y) := (blk_cell (blk_below BX.out HB.out) 1).trans rfl
      refine value_ (w1 := w') (v := .int .i64 y) (wanted_on rfl rfl rfl (e35.trans (by first | rfl | (simp [*]; done)))) rfl ?_ ?_
      · go_simp
        (try simp only [i64_w])
        try rfl
      refine hK.out _ _ ⟨(by rw [ha.out]; exact putSel_upk 11 hb_ rfl rfl rfl), Q_HB⟩
    refine steps_cons ?_ ?_
    · rintro b a w' ⟨ha, Q_HB⟩ hb_ hon hoff
      refine ⟨_, rfl, fun K hK => ?_⟩
      have e37 : a.tmps[37]? = some (.int .i64 x) := by rw [ha]; exact putSel_on (e := (9, 37, .int .i64 x)) 9 rfl rfl (hon 9 (by kernel_rfl)) (by rw [hsz]; rfl)
      have e39 : a.tmps[39]? = some (.int .i64 y) := by rw [ha]; exact putSel_on (e := (11, 39, .int .i64 y)) 11 rfl rfl (hon 11 (by kernel_rfl)) (by rw [hsz]; rfl)
      have e35 : a.tmps[35]? = some (.bool false) := by rw [ha]; exact putSel_on (e := (7, 35, .bool false)) 7 rfl rfl (hon 7 (by kernel_rfl)) (by rw [hsz]; rfl)
      replace ha := Aside0.mk ha
      have HB := Aside0.mk Q_HB
      refine goes_ Tryd.func66 (by kernel_rfl) rfl #[.int .i64 x, .int .i64 y] (wanted_on rfl rfl rfl (e35.trans (by first | rfl | (simp [*]; done)))) rfl rfl (by first | (simp only [List.map_toArray, List.map_cons, List.map_nil, Act.eval, Array.getD_eq_getD_getElem?, Option.getD_some, e37, e39, e35]; done) | (simp only [List.map_toArray, List.map_cons, List.map_nil, Act.eval, Array.getD_eq_getD_getElem?, Option.getD_some, e37, e39, e35]; rfl)) ?_
      refine (number_go x y false w' HM.out).mono ?_
      rintro e w1 ⟨rfl, hb⟩
      refine ⟨_, rfl, ?_⟩
      refine hK.out _ _ ⟨(by rw [ha.out]; exact putSel_upk 12 hb_ rfl rfl rfl), below_step HB.out hb⟩
    refine steps_cons ?_ ?_
    · rintro b a w' ⟨ha, Q_HB⟩ hb_ hon hoff
      refine ⟨_, rfl, fun K hK => ?_⟩
      have e40 : a.tmps[40]? = some (.bool false) := by rw [ha]; exact putSel_on (e := (12, 40, .bool false)) 12 rfl rfl (hon 12 (by kernel_rfl)) (by rw [hsz]; rfl)
      have e35 : a.tmps[35]? = some (.bool false) := by rw [ha]; exact putSel_on (e := (7, 35, .bool false)) 7 rfl rfl (hon 7 (by kernel_rfl)) (by rw [hsz]; rfl)
      replace ha := Aside0.mk ha
      have HB := Aside0.mk Q_HB
      refine value_ (w1 := w') (v := .bool true) (wanted_on rfl rfl rfl (e35.trans (by first | rfl | (simp [*]; done)))) rfl ?_ ?_
      · go_simp
        (try simp only [i64_w])
        try rfl
      refine hK.out _ _ ⟨(by rw [ha.out]; exact putSel_upk 13 hb_ rfl rfl rfl), Q_HB⟩
    refine steps_cons ?_ ?_
    · rintro b a w' ⟨ha, Q_HB⟩ hb_ hon hoff
      refine ⟨_, rfl, fun K hK => ?_⟩
      have e35 : a.tmps[35]? = some (.bool false) := by rw [ha]; exact putSel_on (e := (7, 35, .bool false)) 7 rfl rfl (hon 7 (by kernel_rfl)) (by rw [hsz]; rfl)
      have e41 : a.tmps[41]? = some (.bool true) := by rw [ha]; exact putSel_on (e := (13, 41, .bool true)) 13 rfl rfl (hon 13 (by kernel_rfl)) (by rw [hsz]; rfl)
      replace ha := Aside0.mk ha
      have HB := Aside0.mk Q_HB
      refine value_ (w1 := w') (v := .bool true) (by rfl) rfl ?_ ?_
      · go_simp
        (try simp only [i64_w])
        try rfl
      refine hK.out _ _ ⟨(by rw [ha.out]; exact putSel_upk 14 hb_ rfl rfl rfl), Q_HB⟩
    refine steps_cons ?_ ?_
    · rintro b a w' ⟨ha, Q_HB⟩ hb_ hon hoff
      refine ⟨_, rfl, fun K hK => ?_⟩
      have e42 : a.tmps[42]? = some (.bool true) := by rw [ha]; exact putSel_on (e := (14, 42, .bool true)) 14 rfl rfl (hon 14 (by kernel_rfl)) (by rw [hsz]; rfl)
      replace ha := Aside0.mk ha
      have HB := Aside0.mk Q_HB
      refine value_ (w1 := w') (v := .bool true) (by rfl) rfl ?_ ?_
      · go_simp
        (try simp only [i64_w])
        try rfl
      refine hK.out _ _ ⟨(by rw [ha.out]; exact putSel_upk 15 hb_ rfl rfl rfl), Q_HB⟩
    exact steps_nil
  · rintro b a w' hall ⟨ha, Q_HB⟩
    clear HB
    have hb0_ := hall 0 (by kernel_rfl)
    have hb1_ := hall 1 (by kernel_rfl)
    have hb2_ := hall 2 (by kernel_rfl)
    have hb3_ := hall 3 (by kernel_rfl)
    have hb4_ := hall 4 (by kernel_rfl)
    have hb5_ := hall 5 (by kernel_rfl)
    have hb6_ := hall 6 (by kernel_rfl)
    have hb7_ := hall 7 (by kernel_rfl)
    have hb8_ := hall 8 (by kernel_rfl)
    have hb9_ := hall 9 (by kernel_rfl)
    have hb10_ := hall 10 (by kernel_rfl)
    have hb11_ := hall 11 (by kernel_rfl)
    have hb12_ := hall 12 (by kernel_rfl)
    have hb13_ := hall 13 (by kernel_rfl)
    have hb14_ := hall 14 (by kernel_rfl)
    have hb15_ := hall 15 (by kernel_rfl)
    subst ha
    simp only [putSel, hb0_, hb1_, hb2_, hb3_, hb4_, hb5_, hb6_, hb7_, hb8_, hb9_, hb10_, hb11_, hb12_, hb13_, hb14_, hb15_, if_true]
    have HB := Aside0.mk Q_HB
    clear Q_HB
    clear hall hb0_ hb1_ hb2_ hb3_ hb4_ hb5_ hb6_ hb7_ hb8_ hb9_ hb10_ hb11_ hb12_ hb13_ hb14_ hb15_
    exact hQ     w' HB.out 
set_option maxHeartbeats 4000000 in
set_option maxRecDepth 100000 in
theorem walk_r4gt {Q : Exit → Act → World → Prop} {a : Act} {W : World} (hsz : a.tmps.size = 69) (kk : Nat) (x y : Int) (A : Option Addr) (cc : Nat) (l : List S29) (bx4 : Nat) (hbx : a.tmps[4]? = some (.pointer (some ⟨bx4, 0, none⟩))) (BX_ : W.heap[bx4]? = some (.cells #[.int .i64 x, .int .i64 y, .slice A l.length cc] 29 (0, 0)))
    (ka : Nat) (ar : Int) (HA_ : thyrsusref4_Arity.f ka x = some ar) (HM_ : thyrsusref4_number.f x y = some true) (hne : (ar != (l.length : Int)) = false)
    (hQ : ∀ (w' : World), Below W.heap.size W w' → Q .normal ((((((((((((((((a.put (some 28) (.pointer (some ⟨bx4, 0, none⟩))).put (some 29) (.int .i64 x)).put (some 30) (.int .i64 ar)).put (some 31) (.pointer (some ⟨bx4, 2, none⟩))).put (some 32) (.slice A l.length cc)).put (some 33) (.int .i64 l.length)).put (some 34) (.bool false)).put (some 35) (.bool false)).put (some 36) (.pointer (some ⟨bx4, 0, none⟩))).put (some 37) (.int .i64 x)).put (some 38) (.pointer (some ⟨bx4, 1, none⟩))).put (some 39) (.int .i64 y)).put (some 40) (.bool true)).put (some 41) (.bool false)).put (some 42) (.bool false)).put (some 27) (.bool false)) w') :
    (Code.region 4 (opsOf Tryd.f54 4) true).wp Tryd.prog Q a W := by
  have HT_ := Aside0.mk checker_walk.tab4
  have HW_ := Aside0.mk checker_walk.bits4
  have BX := Aside0.mk BX_
  have HA := Aside0.mk HA_
  have HM := Aside0.mk HM_
  clear BX_ HA_ HM_
  have HB := Aside0.mk (below_drew1 (Below.refl W.heap.size W))
  conv in (opsOf Tryd.f54 4) => whnf
  refine start_ (n := 16) (S := fun w' => True) (ds := []) #[false, false, false, false, false, false, false, false, false, false, false, false, false, false, false, false] (by kernel_rfl) rfl rfl trivial (fun hHeld => ?_)
  clear hHeld
  generalize W.drew = W1 at HB ⊢
  refine inv_at [0, 1, 2, 3, 4, 5, 6, 7, 8, 9, 10, 11, 12, 13, 14, 15] (fun a0_ b a w' => a = putSel a0_ b [(0, 28, .pointer (some ⟨bx4, 0, none⟩)), (1, 29, .int .i64 x), (2, 30, .int .i64 ar), (3, 31, .pointer (some ⟨bx4, 2, none⟩)), (4, 32, .slice A l.length cc), (5, 33, .int .i64 l.length), (6, 34, .bool false), (7, 35, .bool false), (8, 36, .pointer (some ⟨bx4, 0, none⟩)), (9, 37, .int .i64 x), (10, 38, .pointer (some ⟨bx4, 1, none⟩)), (11, 39, .int .i64 y), (12, 40, .bool true), (13, 41, .bool false), (14, 42, .bool false), (15, 27, .bool false)] ∧ (Below W.heap.size W w')) HT_.out HW_.out (by kernel_rfl) (by kernel_rfl) ?_ ?_ ?_
  · exact ⟨by simp only [putSel, Bool.false_eq_true, if_false], HB.out⟩
  · skip
    clear HB
    refine steps_cons ?_ ?_
    · rintro b a w' ⟨ha, Q_HB⟩ hb_ hon hoff
      refine ⟨_, rfl, fun K hK => ?_⟩
      have e4 : a.tmps[4]? = some (.pointer (some ⟨bx4, 0, none⟩)) := by rw [ha]; exact (putSel_off rfl).trans hbx
      replace ha := Aside0.mk ha
      have HB := Aside0.mk Q_HB
      refine value_ (w1 := w') (v := .pointer (some ⟨bx4, 0, none⟩)) (by rfl) rfl ?_ ?_
      · go_simp
        (try simp only [i64_w])
        try rfl
      refine hK.out _ _ ⟨(by rw [ha.out]; exact putSel_upk 0 hb_ rfl rfl rfl), Q_HB⟩
    refine steps_cons ?_ ?_
    · rintro b a w' ⟨ha, Q_HB⟩ hb_ hon hoff
      refine ⟨_, rfl, fun K hK => ?_⟩
      have e28 : a.tmps[28]? = some (.pointer (some ⟨bx4, 0, none⟩)) := by rw [ha]; exact putSel_on (e := (0, 28, .pointer (some ⟨bx4, 0, none⟩))) 0 rfl rfl (hon 0 (by kernel_rfl)) (by rw [hsz]; rfl)
      replace ha := Aside0.mk ha
      have HB := Aside0.mk Q_HB
      have hc0_ : w'.cell? ⟨bx4, 0, none⟩ = some (.int .i64 x) := (blk_cell (blk_below BX.out HB.out) 0).trans rfl
      refine value_ (w1 := w') (v := .int .i64 x) (by rfl) rfl ?_ ?_
      · go_simp
        (try simp only [i64_w])
        try rfl
      refine hK.out _ _ ⟨(by rw [ha.out]; exact putSel_upk 1 hb_ rfl rfl rfl), Q_HB⟩
    refine steps_cons ?_ ?_
    · rintro b a w' ⟨ha, Q_HB⟩ hb_ hon hoff
      refine ⟨_, rfl, fun K hK => ?_⟩
      have e29 : a.tmps[29]? = some (.int .i64 x) := by rw [ha]; exact putSel_on (e := (1, 29, .int .i64 x)) 1 rfl rfl (hon 1 (by kernel_rfl)) (by rw [hsz]; rfl)
      replace ha := Aside0.mk ha
      have HB := Aside0.mk Q_HB
      refine goes_ Tryd.func43 (by kernel_rfl) rfl #[.int .i64 x] (by rfl) rfl rfl (by first | (simp only [List.map_toArray, List.map_cons, List.map_nil, Act.eval, Array.getD_eq_getD_getElem?, Option.getD_some, e29]; done) | (simp only [List.map_toArray, List.map_cons, List.map_nil, Act.eval, Array.getD_eq_getD_getElem?, Option.getD_some, e29]; rfl)) ?_
      refine (arity_go ka x ar w' HA.out).mono ?_
      rintro e w1 ⟨rfl, hb⟩
      refine ⟨_, rfl, ?_⟩
      refine hK.out _ _ ⟨(by rw [ha.out]; exact putSel_upk 2 hb_ rfl rfl rfl), below_step HB.out hb⟩
    refine steps_cons ?_ ?_
    · rintro b a w' ⟨ha, Q_HB⟩ hb_ hon hoff
      refine ⟨_, rfl, fun K hK => ?_⟩
      have e4 : a.tmps[4]? = some (.pointer (some ⟨bx4, 0, none⟩)) := by rw [ha]; exact (putSel_off rfl).trans hbx
      replace ha := Aside0.mk ha
      have HB := Aside0.mk Q_HB
      refine value_ (w1 := w') (v := .pointer (some ⟨bx4, 2, none⟩)) (by rfl) rfl ?_ ?_
      · go_simp
        (try simp only [i64_w])
        try rfl
      refine hK.out _ _ ⟨(by rw [ha.out]; exact putSel_upk 3 hb_ rfl rfl rfl), Q_HB⟩
    refine steps_cons ?_ ?_
    · rintro b a w' ⟨ha, Q_HB⟩ hb_ hon hoff
      refine ⟨_, rfl, fun K hK => ?_⟩
      have e31 : a.tmps[31]? = some (.pointer (some ⟨bx4, 2, none⟩)) := by rw [ha]; exact putSel_on (e := (3, 31, .pointer (some ⟨bx4, 2, none⟩))) 3 rfl rfl (hon 3 (by kernel_rfl)) (by rw [hsz]; rfl)
      replace ha := Aside0.mk ha
      have HB := Aside0.mk Q_HB
      have hc2_ : w'.cell? ⟨bx4, 2, none⟩ = some (.slice A l.length cc) := (blk_cell (blk_below BX.out HB.out) 2).trans rfl
      refine value_ (w1 := w') (v := .slice A l.length cc) (by rfl) rfl ?_ ?_
      · go_simp
        (try simp only [i64_w])
        try rfl
      refine hK.out _ _ ⟨(by rw [ha.out]; exact putSel_upk 4 hb_ rfl rfl rfl), Q_HB⟩
    refine steps_cons ?_ ?_
    · rintro b a w' ⟨ha, Q_HB⟩ hb_ hon hoff
      refine ⟨_, rfl, fun K hK => ?_⟩
      have e32 : a.tmps[32]? = some (.slice A l.length cc) := by rw [ha]; exact putSel_on (e := (4, 32, .slice A l.length cc)) 4 rfl rfl (hon 4 (by kernel_rfl)) (by rw [hsz]; rfl)
      replace ha := Aside0.mk ha
      have HB := Aside0.mk Q_HB
      refine value_ (w1 := w') (v := .int .i64 l.length) (by rfl) rfl ?_ ?_
      · go_simp
        (try simp only [i64_w])
        try rfl
      refine hK.out _ _ ⟨(by rw [ha.out]; exact putSel_upk 5 hb_ rfl rfl rfl), Q_HB⟩
    refine steps_cons ?_ ?_
    · rintro b a w' ⟨ha, Q_HB⟩ hb_ hon hoff
      refine ⟨_, rfl, fun K hK => ?_⟩
      have e30 : a.tmps[30]? = some (.int .i64 ar) := by rw [ha]; exact putSel_on (e := (2, 30, .int .i64 ar)) 2 rfl rfl (hon 2 (by kernel_rfl)) (by rw [hsz]; rfl)
      have e33 : a.tmps[33]? = some (.int .i64 l.length) := by rw [ha]; exact putSel_on (e := (5, 33, .int .i64 l.length)) 5 rfl rfl (hon 5 (by kernel_rfl)) (by rw [hsz]; rfl)
      replace ha := Aside0.mk ha
      have HB := Aside0.mk Q_HB
      refine value_ (w1 := w') (v := .bool false) (by rfl) rfl ?_ ?_
      · go_simp
        (try simp only [i64_w])
        try rfl
      refine hK.out _ _ ⟨(by rw [ha.out]; exact putSel_upk 6 hb_ rfl rfl rfl), Q_HB⟩
    refine steps_cons ?_ ?_
    · rintro b a w' ⟨ha, Q_HB⟩ hb_ hon hoff
      refine ⟨_, rfl, fun K hK => ?_⟩
      have e34 : a.tmps[34]? = some (.bool false) := by rw [ha]; exact putSel_on (e := (6, 34, .bool false)) 6 rfl rfl (hon 6 (by kernel_rfl)) (by rw [hsz]; rfl)
      replace ha := Aside0.mk ha
      have HB := Aside0.mk Q_HB
      refine value_ (w1 := w') (v := .bool false) (by rfl) rfl ?_ ?_
      · go_simp
        (try simp only [i64_w])
        try rfl
      refine hK.out _ _ ⟨(by rw [ha.out]; exact putSel_upk 7 hb_ rfl rfl rfl), Q_HB⟩
    refine steps_cons ?_ ?_
    · rintro b a w' ⟨ha, Q_HB⟩ hb_ hon hoff
      refine ⟨_, rfl, fun K hK => ?_⟩
      have e4 : a.tmps[4]? = some (.pointer (some ⟨bx4, 0, none⟩)) := by rw [ha]; exact (putSel_off rfl).trans hbx
      have e35 : a.tmps[35]? = some (.bool false) := by rw [ha]; exact putSel_on (e := (7, 35, .bool false)) 7 rfl rfl (hon 7 (by kernel_rfl)) (by rw [hsz]; rfl)
      replace ha := Aside0.mk ha
      have HB := Aside0.mk Q_HB
      refine value_ (w1 := w') (v := .pointer (some ⟨bx4, 0, none⟩)) (wanted_on rfl rfl rfl (e35.trans (by first | rfl | (simp [*]; done)))) rfl ?_ ?_
      · go_simp
        (try simp only [i64_w])
        try rfl
      refine hK.out _ _ ⟨(by rw [ha.out]; exact putSel_upk 8 hb_ rfl rfl rfl), Q_HB⟩
    refine steps_cons ?_ ?_
    · rintro b a w' ⟨ha, Q_HB⟩ hb_ hon hoff
      refine ⟨_, rfl, fun K hK => ?_⟩
      have e36 : a.tmps[36]? = some (.pointer (some ⟨bx4, 0, none⟩)) := by rw [ha]; exact putSel_on (e := (8, 36, .pointer (some ⟨bx4, 0, none⟩))) 8 rfl rfl (hon 8 (by kernel_rfl)) (by rw [hsz]; rfl)
      have e35 : a.tmps[35]? = some (.bool false) := by rw [ha]; exact putSel_on (e := (7, 35, .bool false)) 7 rfl rfl (hon 7 (by kernel_rfl)) (by rw [hsz]; rfl)
      replace ha := Aside0.mk ha
      have HB := Aside0.mk Q_HB
      have hc0_ : w'.cell? ⟨bx4, 0, none⟩ = some (.int .i64 x) := (blk_cell (blk_below BX.out HB.out) 0).trans rfl
      refine value_ (w1 := w') (v := .int .i64 x) (wanted_on rfl rfl rfl (e35.trans (by first | rfl | (simp [*]; done)))) rfl ?_ ?_
      · go_simp
        (try simp only [i64_w])
        try rfl
      refine hK.out _ _ ⟨(by rw [ha.out]; exact putSel_upk 9 hb_ rfl rfl rfl), Q_HB⟩
    refine steps_cons ?_ ?_
    · rintro b a w' ⟨ha, Q_HB⟩ hb_ hon hoff
      refine ⟨_, rfl, fun K hK => ?_⟩
      have e4 : a.tmps[4]? = some (.pointer (some ⟨bx4, 0, none⟩)) := by rw [ha]; exact (putSel_off rfl).trans hbx
      have e35 : a.tmps[35]? = some (.bool false) := by rw [ha]; exact putSel_on (e := (7, 35, .bool false)) 7 rfl rfl (hon 7 (by kernel_rfl)) (by rw [hsz]; rfl)
      replace ha := Aside0.mk ha
      have HB := Aside0.mk Q_HB
      refine value_ (w1 := w') (v := .pointer (some ⟨bx4, 1, none⟩)) (wanted_on rfl rfl rfl (e35.trans (by first | rfl | (simp [*]; done)))) rfl ?_ ?_
      · go_simp
        (try simp only [i64_w])
        try rfl
      refine hK.out _ _ ⟨(by rw [ha.out]; exact putSel_upk 10 hb_ rfl rfl rfl), Q_HB⟩
    refine steps_cons ?_ ?_
    · rintro b a w' ⟨ha, Q_HB⟩ hb_ hon hoff
      refine ⟨_, rfl, fun K hK => ?_⟩
      have e38 : a.tmps[38]? = some (.pointer (some ⟨bx4, 1, none⟩)) := by rw [ha]; exact putSel_on (e := (10, 38, .pointer (some ⟨bx4, 1, none⟩))) 10 rfl rfl (hon 10 (by kernel_rfl)) (by rw [hsz]; rfl)
      have e35 : a.tmps[35]? = some (.bool false) := by rw [ha]; exact putSel_on (e := (7, 35, .bool false)) 7 rfl rfl (hon 7 (by kernel_rfl)) (by rw [hsz]; rfl)
      replace ha := Aside0.mk ha
      have HB := Aside0.mk Q_HB
      have hc1_ : w'.cell? ⟨bx4, 1, none⟩ = some (.int .i64 y) := (blk_cell (blk_below BX.out HB.out) 1).trans rfl
      refine value_ (w1 := w') (v := .int .i64 y) (wanted_on rfl rfl rfl (e35.trans (by first | rfl | (simp [*]; done)))) rfl ?_ ?_
      · go_simp
        (try simp only [i64_w])
        try rfl
      refine hK.out _ _ ⟨(by rw [ha.out]; exact putSel_upk 11 hb_ rfl rfl rfl), Q_HB⟩
    refine steps_cons ?_ ?_
    · rintro b a w' ⟨ha, Q_HB⟩ hb_ hon hoff
      refine ⟨_, rfl, fun K hK => ?_⟩
      have e37 : a.tmps[37]? = some (.int .i64 x) := by rw [ha]; exact putSel_on (e := (9, 37, .int .i64 x)) 9 rfl rfl (hon 9 (by kernel_rfl)) (by rw [hsz]; rfl)
      have e39 : a.tmps[39]? = some (.int .i64 y) := by rw [ha]; exact putSel_on (e := (11, 39, .int .i64 y)) 11 rfl rfl (hon 11 (by kernel_rfl)) (by rw [hsz]; rfl)
      have e35 : a.tmps[35]? = some (.bool false) := by rw [ha]; exact putSel_on (e := (7, 35, .bool false)) 7 rfl rfl (hon 7 (by kernel_rfl)) (by rw [hsz]; rfl)
      replace ha := Aside0.mk ha
      have HB := Aside0.mk Q_HB
      refine goes_ Tryd.func66 (by kernel_rfl) rfl #[.int .i64 x, .int .i64 y] (wanted_on rfl rfl rfl (e35.trans (by first | rfl | (simp [*]; done)))) rfl rfl (by first | (simp only [List.map_toArray, List.map_cons, List.map_nil, Act.eval, Array.getD_eq_getD_getElem?, Option.getD_some, e37, e39, e35]; done) | (simp only [List.map_toArray, List.map_cons, List.map_nil, Act.eval, Array.getD_eq_getD_getElem?, Option.getD_some, e37, e39, e35]; rfl)) ?_
      refine (number_go x y true w' HM.out).mono ?_
      rintro e w1 ⟨rfl, hb⟩
      refine ⟨_, rfl, ?_⟩
      refine hK.out _ _ ⟨(by rw [ha.out]; exact putSel_upk 12 hb_ rfl rfl rfl), below_step HB.out hb⟩
    refine steps_cons ?_ ?_
    · rintro b a w' ⟨ha, Q_HB⟩ hb_ hon hoff
      refine ⟨_, rfl, fun K hK => ?_⟩
      have e40 : a.tmps[40]? = some (.bool true) := by rw [ha]; exact putSel_on (e := (12, 40, .bool true)) 12 rfl rfl (hon 12 (by kernel_rfl)) (by rw [hsz]; rfl)
      have e35 : a.tmps[35]? = some (.bool false) := by rw [ha]; exact putSel_on (e := (7, 35, .bool false)) 7 rfl rfl (hon 7 (by kernel_rfl)) (by rw [hsz]; rfl)
      replace ha := Aside0.mk ha
      have HB := Aside0.mk Q_HB
      refine value_ (w1 := w') (v := .bool false) (wanted_on rfl rfl rfl (e35.trans (by first | rfl | (simp [*]; done)))) rfl ?_ ?_
      · go_simp
        (try simp only [i64_w])
        try rfl
      refine hK.out _ _ ⟨(by rw [ha.out]; exact putSel_upk 13 hb_ rfl rfl rfl), Q_HB⟩
    refine steps_cons ?_ ?_
    · rintro b a w' ⟨ha, Q_HB⟩ hb_ hon hoff
      refine ⟨_, rfl, fun K hK => ?_⟩
      have e35 : a.tmps[35]? = some (.bool false) := by rw [ha]; exact putSel_on (e := (7, 35, .bool false)) 7 rfl rfl (hon 7 (by kernel_rfl)) (by rw [hsz]; rfl)
      have e41 : a.tmps[41]? = some (.bool false) := by rw [ha]; exact putSel_on (e := (13, 41, .bool false)) 13 rfl rfl (hon 13 (by kernel_rfl)) (by rw [hsz]; rfl)
      replace ha := Aside0.mk ha
      have HB := Aside0.mk Q_HB
      refine value_ (w1 := w') (v := .bool false) (by rfl) rfl ?_ ?_
      · go_simp
        (try simp only [i64_w])
        try rfl
      refine hK.out _ _ ⟨(by rw [ha.out]; exact putSel_upk 14 hb_ rfl rfl rfl), Q_HB⟩
    refine steps_cons ?_ ?_
    · rintro b a w' ⟨ha, Q_HB⟩ hb_ hon hoff
      refine ⟨_, rfl, fun K hK => ?_⟩
      have e42 : a.tmps[42]? = some (.bool false) := by rw [ha]; exact putSel_on (e := (14, 42, .bool false)) 14 rfl rfl (hon 14 (by kernel_rfl)) (by rw [hsz]; rfl)
      replace ha := Aside0.mk ha
      have HB := Aside0.mk Q_HB
      refine value_ (w1 := w') (v := .bool false) (by rfl) rfl ?_ ?_
      · go_simp
        (try simp only [i64_w])
        try rfl
      refine hK.out _ _ ⟨(by rw [ha.out]; exact putSel_upk 15 hb_ rfl rfl rfl), Q_HB⟩
    exact steps_nil
  · rintro b a w' hall ⟨ha, Q_HB⟩
    clear HB
    have hb0_ := hall 0 (by kernel_rfl)
    have hb1_ := hall 1 (by kernel_rfl)
    have hb2_ := hall 2 (by kernel_rfl)
    have hb3_ := hall 3 (by kernel_rfl)
    have hb4_ := hall 4 (by kernel_rfl)
    have hb5_ := hall 5 (by kernel_rfl)
    have hb6_ := hall 6 (by kernel_rfl)
    have hb7_ := hall 7 (by kernel_rfl)
    have hb8_ := hall 8 (by kernel_rfl)
    have hb9_ := hall 9 (by kernel_rfl)
    have hb10_ := hall 10 (by kernel_rfl)
    have hb11_ := hall 11 (by kernel_rfl)
    have hb12_ := hall 12 (by kernel_rfl)
    have hb13_ := hall 13 (by kernel_rfl)
    have hb14_ := hall 14 (by kernel_rfl)
    have hb15_ := hall 15 (by kernel_rfl)
    subst ha
    simp only [putSel, hb0_, hb1_, hb2_, hb3_, hb4_, hb5_, hb6_, hb7_, hb8_, hb9_, hb10_, hb11_, hb12_, hb13_, hb14_, hb15_, if_true]
    have HB := Aside0.mk Q_HB
    clear Q_HB
    clear hall hb0_ hb1_ hb2_ hb3_ hb4_ hb5_ hb6_ hb7_ hb8_ hb9_ hb10_ hb11_ hb12_ hb13_ hb14_ hb15_
    exact hQ     w' HB.out 
end Go.Proofs.YtcchfblekaaalaaDoor.P
