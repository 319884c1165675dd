/- TermSubsts, the plain law: two variables given way to, in one order or the other one, come to the same; shifting and putting in commute. -/
import Derived.Test.YtcchfblekaaalaaDoorMake2
import Derived.Test.YtcchfblekaaalaaDoorSubW
namespace Go.Proofs.YtcchfblekaaalaaDoor.Pure
open Go.RowKit Go.Proofs.YtcchfblekaaalaaDoor.P Go.Proofs.YtcchfblekaaalaaDoorW.PrintWords Go.Proofs.YtcchfblekaaalaaDoorW.PrintLast Go.Proofs.YtcchfblekaaalaaDoorW.PrintMore
set_option linter.unusedVariables false
/- what is put in for a variable that a shift made room for -/
mutual
theorem sb_lift {y : Int} (hy : 0 ≤ y) (v : S29) : ∀ (u : S29) (d : Int), sb 0 v (y + d) (sh (y + 1) 0 d u) = sh y 0 d u
  | ⟨a, b, l⟩, d => by
    by_cases h : a = 1
    · subst h
      show ea _ _ (ea _ _ _) = ea _ _ _
      rw [ea_var, ea_var, shQ, shQ]
      by_cases hc : 0 ≤ b - d
      · rw [if_pos hc, if_pos hc, ea_var, sbQ, if_pos (by omega), show b + (y + 1) - 1 = b + y by omega]
      · rw [if_neg hc, if_neg hc, ea_var, sbQ, if_neg (by omega), if_neg (by omega)]
    · show ea _ _ (ea _ _ _) = ea _ _ _
      rw [ea_node _ _ _ _ _ h, ea_node _ _ _ _ _ h, ea_node _ _ _ _ _ h, sbs_lift hy v l d a 0]
theorem sbs_lift {y : Int} (hy : 0 ≤ y) (v : S29) : ∀ (l : List S29) (d a : Int) (i : Nat), eas (sbQ 0 v) (y + d) a i (eas (shQ (y + 1) 0) d a i l) = eas (shQ y 0) d a i l
  | [], d, a, i => by rw [eas, eas, eas]
  | t :: l, d, a, i => by
    have h1 : ea (sbQ 0 v) (y + (d + bnd a i)) (ea (shQ (y + 1) 0) (d + bnd a i) t) = ea (shQ y 0) (d + bnd a i) t := sb_lift hy v t (d + bnd a i)
    rw [eas, eas, eas, Int.add_assoc, h1, sbs_lift hy v l d a (i + 1)]
end
mutual
theorem sh_lift {z y : Int} (hy : 0 ≤ y) : ∀ (u : S29) (d : Int), sh z 0 (y + d) (sh y 0 d u) = sh (y + z) 0 d u
  | ⟨a, b, l⟩, d => by
    by_cases h : a = 1
    · subst h
      show ea _ _ (ea _ _ _) = ea _ _ _
      rw [ea_var, ea_var, shQ, shQ]
      by_cases hc : 0 ≤ b - d
      · rw [if_pos hc, if_pos hc, ea_var, shQ, if_pos (by omega), Int.add_assoc]
      · rw [if_neg hc, if_neg hc, ea_var, shQ, if_neg (by omega)]
    · show ea _ _ (ea _ _ _) = ea _ _ _
      rw [ea_node _ _ _ _ _ h, ea_node _ _ _ _ _ h, ea_node _ _ _ _ _ h, shs_lift hy l d a 0]
theorem shs_lift {z y : Int} (hy : 0 ≤ y) : ∀ (l : List S29) (d a : Int) (i : Nat), eas (shQ z 0) (y + d) a i (eas (shQ y 0) d a i l) = eas (shQ (y + z) 0) d a i l
  | [], d, a, i => by rw [eas, eas, eas]
  | t :: l, d, a, i => by
    have h1 : ea (shQ z 0) (y + (d + bnd a i)) (ea (shQ y 0) (d + bnd a i) t) = ea (shQ (y + z) 0) (d + bnd a i) t := sh_lift hy t (d + bnd a i)
    rw [eas, eas, eas, Int.add_assoc, h1, shs_lift hy l d a (i + 1)]
end
/- two put in, in either order -/
mutual
theorem sb_sb (u v : S29) : ∀ (t : S29) (ah : Int), 0 ≤ ah → sb 0 v ah (sb 0 (sh 1 0 0 u) ah t) = sb 0 u ah (sb 1 (sh 1 0 0 v) ah t)
  | ⟨a, b, l⟩, ah, h0 => by
    have lift : ∀ p q : S29, sb 0 p ah (sh ah 0 0 (sh 1 0 0 q)) = sh ah 0 0 q := fun p q => by
      rw [sh_sh (show (0 : Int) ≤ 1 by omega), Int.add_comm 1 ah]
      have := sb_lift h0 p q 0
      rw [Int.add_zero] at this
      exact this
    by_cases h : a = 1
    · subst h
      show ea _ _ (ea _ _ _) = ea _ _ (ea _ _ _)
      rw [ea_var, ea_var, sbQ, sbQ]
      by_cases h1 : 1 < b - ah
      · rw [if_pos (by omega), if_pos h1, ea_var, ea_var, sbQ, sbQ, if_pos (by omega), if_pos (by omega)]
      · rw [if_neg h1]
        by_cases h2 : b - ah = 1
        · rw [if_pos (by omega), if_pos h2, ea_var, sbQ, if_neg (by omega), if_pos (by omega)]
          exact (lift u v).symm
        · rw [if_neg (by omega), if_neg h2]
          by_cases h3 : b - ah = 0
          · rw [if_pos h3, ea_var, sbQ, if_neg (by omega), if_pos h3]
            exact lift v u
          · rw [if_neg h3, ea_var, ea_var, sbQ, sbQ, if_neg (by omega), if_neg h3, if_neg (by omega), if_neg h3]
    · show ea _ _ (ea _ _ _) = ea _ _ (ea _ _ _)
      rw [ea_node _ _ _ _ _ h, ea_node _ _ _ _ _ h, ea_node _ _ _ _ _ h, ea_node _ _ _ _ _ h, sbs_sbs u v l ah a 0 h0]
theorem sbs_sbs (u v : S29) : ∀ (l : List S29) (ah a : Int) (i : Nat), 0 ≤ ah → eas (sbQ 0 v) ah a i (eas (sbQ 0 (sh 1 0 0 u)) ah a i l) = eas (sbQ 0 u) ah a i (eas (sbQ 1 (sh 1 0 0 v)) ah a i l)
  | [], ah, a, i, h0 => by rw [eas, eas, eas, eas]
  | t :: l, ah, a, i, h0 => by
    have hb := bnd_range a (i : Int)
    have h1 : ea (sbQ 0 v) (ah + bnd a i) (ea (sbQ 0 (sh 1 0 0 u)) (ah + bnd a i) t) = ea (sbQ 0 u) (ah + bnd a i) (ea (sbQ 1 (sh 1 0 0 v)) (ah + bnd a i) t) := sb_sb u v t (ah + bnd a i) (by omega)
    rw [eas, eas, eas, eas, h1, sbs_sbs u v l ah a (i + 1) h0]
end
/- shifting and putting in -/
mutual
theorem sh_sb {y : Int} (hy : 0 ≤ y) (u : S29) : ∀ (t : S29) (ah : Int), 0 ≤ ah → sh y 0 ah (sb 0 u ah t) = sb 0 (sh y 0 0 u) ah (sh y 1 ah t)
  | ⟨a, b, l⟩, ah, h0 => by
    by_cases h : a = 1
    · subst h
      show ea _ _ (ea _ _ _) = ea _ _ (ea _ _ _)
      rw [ea_var, ea_var, sbQ, shQ]
      by_cases h1 : 0 < b - ah
      · rw [if_pos h1, if_pos (show 1 ≤ b - ah by omega), ea_var, ea_var, shQ, sbQ, if_pos (show 0 ≤ b - 1 - ah by omega), if_pos (show 0 < b + y - ah by omega), show b - 1 + y = b + y - 1 by omega]
      · rw [if_neg h1, if_neg (show ¬ 1 ≤ b - ah by omega)]
        by_cases h2 : b - ah = 0
        · rw [if_pos h2, ea_var, sbQ, if_neg h1, if_pos h2]
          have e1 := sh_lift (z := y) h0 u 0
          rw [Int.add_zero] at e1
          have e2 : sh ah 0 0 (sh y 0 0 u) = sh (y + ah) 0 0 u := sh_sh hy u 0
          rw [Int.add_comm y ah] at e2
          exact e1.trans e2.symm
        · rw [if_neg h2, ea_var, ea_var, shQ, sbQ, if_neg (show ¬ 0 ≤ b - ah by omega), if_neg h1, if_neg h2]
    · show ea _ _ (ea _ _ _) = ea _ _ (ea _ _ _)
      rw [ea_node _ _ _ _ _ h, ea_node _ _ _ _ _ h, ea_node _ _ _ _ _ h, ea_node _ _ _ _ _ h, shs_sbs hy u l ah a 0 h0]
theorem shs_sbs {y : Int} (hy : 0 ≤ y) (u : S29) : ∀ (l : List S29) (ah a : Int) (i : Nat), 0 ≤ ah → eas (shQ y 0) ah a i (eas (sbQ 0 u) ah a i l) = eas (sbQ 0 (sh y 0 0 u)) ah a i (eas (shQ y 1) ah a i l)
  | [], ah, a, i, h0 => by rw [eas, eas, eas, eas]
  | t :: l, ah, a, i, h0 => by
    have hb := bnd_range a (i : Int)
    have h1 : ea (shQ y 0) (ah + bnd a i) (ea (sbQ 0 u) (ah + bnd a i) t) = ea (sbQ 0 (sh y 0 0 u)) (ah + bnd a i) (ea (shQ y 1) (ah + bnd a i) t) := sh_sb hy u t (ah + bnd a i) (by omega)
    rw [eas, eas, eas, eas, h1, shs_sbs hy u l ah a (i + 1) h0]
end
theorem mkS {x : S24} (hx : WF24 x) (n : Nat) (vars : Int) (hn : n ≤ 10) (hv : 0 ≤ vars) (hv2 : vars ≤ 100) :
    ∃ t : S29, Ev (fun k => thyrsuslaw1_Make.f k x.f0 x.f1 x.f2 (n : Int) vars) (t.f0, t.f1, t.f2) ∧ good 1000 t ∧ deep29 t ≤ 11 := by
  obtain ⟨t, h1, h2, h3, h4⟩ := make2_all n x hx (n : Int) vars (Int.le_refl _) (by omega) hv (by omega) (by omega)
  exact ⟨t, h1, mk_good (by omega) t h2 (by omega), by omega⟩
/-- A shift, in rounds. -/
theorem shE {B y f : Int} {t : S29} (hg : good B t) (hd : deep29 t ≤ 1000) (hB : B ≤ 1000000) (hy : 0 ≤ y) (hy2 : y ≤ 1000) (hf : 0 ≤ f) (hf2 : f ≤ 1000) : Ev (fun k => term_Shift.f k t.f0 t.f1 t.f2 y f) ((sh y f 0 t).f0, (sh y f 0 t).f1, (sh y f 0 t).f2) :=
  ⟨3 * size29 t, fun k hk => shift_run (B := B) (by omega) (by omega) (by omega) (by omega) (by omega) t hg (by omega) k hk⟩
theorem sbE {B C m : Int} {t u : S29} (hg : good B t) (hu : good C u) (hd : deep29 t ≤ 1000) (hdu : deep29 u ≤ 1000) (hB : B ≤ 1000000) (hC : C ≤ 1000000) (hm : 0 ≤ m) (hm2 : m ≤ 1000) : Ev (fun k => term_Subst.f k t.f0 t.f1 t.f2 m u.f0 u.f1 u.f2) ((sb m u 0 t).f0, (sb m u 0 t).f1, (sb m u 0 t).f2) :=
  ⟨3 * size29 t + 3 * size29 u, fun k hk => subst_run (B := B) (C := C) (by omega) (by omega) (by omega) (by omega) t u hg hu (by omega) (by omega) k (by omega) (by omega)⟩
theorem smE {B : Int} {t u : S29} (h : t = u) (hg : good B t) : Ev (fun k => thyrsusref4_Same.f k t.f0 t.f1 t.f2 u.f0 u.f1 u.f2) true := ⟨4 * size29 t, fun k hk => same_eq h hg k hk⟩
theorem TermSubsts {x y z : S24} (hx : WF24 x) (hy : WF24 y) (hz : WF24 z) {n : Int} (hn : (Lit.int .i64 n).wf = true) :
    Ev (fun k => thyrsuslaw4_TermSubsts.f k x.f0 x.f1 x.f2 y.f0 y.f1 y.f2 z.f0 z.f1 z.f2 n) true := by
  unfold thyrsuslaw4_TermSubsts.f
  refine Ev.bind ⟨10, fun k hk => known_k hk⟩ ?_
  simp only [if_true]
  obtain ⟨c1, e1, _⟩ := few_ev hx
  refine Ev.bind e1 ?_
  have out : ∀ c : Bool, Ev (fun k => thyrsuslaw4_TermSubsts.j0 k n c x.f0 x.f1 x.f2 y.f0 y.f1 y.f2 z.f0 z.f1 z.f2) true := by
    intro c
    cases c with
    | true => exact Ev.step (f := fun k => some true) (fun k => by simp only [thyrsuslaw4_TermSubsts.j0, if_true]) (Ev.now _)
    | false =>
      obtain ⟨t, m1, g1, d1⟩ := mkS hx 5 4 (by omega) (by omega) (by omega)
      obtain ⟨u, m2, g2, d2⟩ := mkS hy 3 3 (by omega) (by omega) (by omega)
      obtain ⟨v, m3, g3, d3⟩ := mkS hz 3 3 (by omega) (by omega) (by omega)
      obtain ⟨na, la, ea_⟩ := within_ex (i64_of hn) (n := 4) (by decide) (by decide)
      refine Ev.step (fun k => by simp only [thyrsuslaw4_TermSubsts.j0, Bool.false_eq_true, if_false]; rfl) ?_
      refine Ev.bind m1 (Ev.bind m2 (Ev.bind m3 ?_))
      simp only [ea_, Option.bind_some]
      have gu1 : good (1000 + 1) (sh 1 0 0 u) := sh_good (by omega) (by omega) u 0 g2
      have gv1 : good (1000 + 1) (sh 1 0 0 v) := sh_good (by omega) (by omega) v 0 g3
      have du1 : deep29 (sh 1 0 0 u) = deep29 u := sh_deep 1 0 u 0 g2
      have dv1 : deep29 (sh 1 0 0 v) = deep29 v := sh_deep 1 0 v 0 g3
      refine Ev.bind (shE g2 (by omega) (by omega) (by omega) (by omega) (by omega) (by omega)) ?_
      have gx : good 2000 (sb 0 (sh 1 0 0 u) 0 t) := sb_good (B := 1000) (C := 1000 + 1) (by omega) (by omega) _ gu1 t 0 g1 (by omega) (by omega)
      have dx : deep29 (sb 0 (sh 1 0 0 u) 0 t) ≤ deep29 t + deep29 (sh 1 0 0 u) := sb_deep _ gu1 t 0 g1
      refine Ev.bind (sbE g1 gu1 (by omega) (by omega) (by omega) (by omega) (by omega) (by omega)) ?_
      have gxx : good 4000 (sb 0 v 0 (sb 0 (sh 1 0 0 u) 0 t)) := sb_good (B := 2000) (C := 1000) (by omega) (by omega) _ g3 _ 0 gx (by omega) (by omega)
      refine Ev.bind (sbE gx g3 (by omega) (by omega) (by omega) (by omega) (by omega) (by omega)) ?_
      refine Ev.bind (shE g3 (by omega) (by omega) (by omega) (by omega) (by omega) (by omega)) ?_
      have gy : good 2000 (sb 1 (sh 1 0 0 v) 0 t) := sb_good (B := 1000) (C := 1000 + 1) (by omega) (by omega) _ gv1 t 0 g1 (by omega) (by omega)
      have dy : deep29 (sb 1 (sh 1 0 0 v) 0 t) ≤ deep29 t + deep29 (sh 1 0 0 v) := sb_deep _ gv1 t 0 g1
      refine Ev.bind (sbE g1 gv1 (by omega) (by omega) (by omega) (by omega) (by omega) (by omega)) ?_
      refine Ev.bind (sbE gy g2 (by omega) (by omega) (by omega) (by omega) (by omega) (by omega)) ?_
      have gs : good 2000 (sb 0 u 0 t) := sb_good (B := 1000) (C := 1000) (by omega) (by omega) _ g2 t 0 g1 (by omega) (by omega)
      have ds : deep29 (sb 0 u 0 t) ≤ deep29 t + deep29 u := sb_deep _ g2 t 0 g1
      refine Ev.bind (sbE g1 g2 (by omega) (by omega) (by omega) (by omega) (by omega) (by omega)) ?_
      have gss : good (2000 + na) (sh na 0 0 (sb 0 u 0 t)) := sh_good (by omega) (by omega) _ 0 gs
      refine Ev.bind (shE (y := na) gs (by omega) (by omega) (by omega) (by omega) (by omega) (by omega)) ?_
      have gt : good (1000 + na) (sh na 1 0 t) := sh_good (by omega) (by omega) t 0 g1
      have dt : deep29 (sh na 1 0 t) = deep29 t := sh_deep na 1 t 0 g1
      have gu : good (1000 + na) (sh na 0 0 u) := sh_good (by omega) (by omega) u 0 g2
      have du : deep29 (sh na 0 0 u) = deep29 u := sh_deep na 0 u 0 g2
      refine Ev.bind (shE (y := na) g1 (by omega) (by omega) (by omega) (by omega) (by omega) (by omega)) ?_
      refine Ev.bind (shE (y := na) g2 (by omega) (by omega) (by omega) (by omega) (by omega) (by omega)) ?_
      refine Ev.bind (sbE gt gu (by omega) (by omega) (by omega) (by omega) (by omega) (by omega)) ?_
      refine Ev.bind (smE (sb_sb u v t 0 (by omega)) gxx) ?_
      simp only [if_true]
      refine Ev.bind (smE (sh_sb (show (0 : Int) ≤ na by omega) u t 0 (by omega)) gss) ?_
      exact Ev.now _
  cases c1 with
  | true =>
    simp only [if_true]
    obtain ⟨c2, e2, _⟩ := few_ev hy
    refine Ev.bind e2 ?_
    cases c2 with
    | true =>
      simp only [if_true]
      obtain ⟨c3, e3, _⟩ := few_ev hz
      exact Ev.bind e3 (out (!c3))
    | false =>
      simp only [Bool.false_eq_true, if_false]
      exact out true
  | false =>
    simp only [Bool.false_eq_true, if_false]
    exact out true
end Go.Proofs.YtcchfblekaaalaaDoor.Pure
namespace Go.Proofs.YtcchfblekaaalaaDoor.P
open Go.RowKit Go.Proofs.YtcchfblekaaalaaDoorW.PrintWords Go.Proofs.YtcchfblekaaalaaDoorW.PrintLast Go.Proofs.YtcchfblekaaalaaDoorW.PrintMore
theorem termSubsts_walk (x0 : S24) (A0 : Option Addr) (c0 : Nat) {W : World} (hl0 : x0.f2.length ≤ c0) (hC0 : Kd.C k24 W A0 x0.f2.length x0.f2) (wf0 : WF24 x0) (x1 : S24) (A1 : Option Addr) (c1 : Nat) (hl1 : x1.f2.length ≤ c1) (hC1 : Kd.C k24 W A1 x1.f2.length x1.f2) (wf1 : WF24 x1) (x2 : S24) (A2 : Option Addr) (c2 : Nat) (hl2 : x2.f2.length ≤ c2) (hC2 : Kd.C k24 W A2 x2.f2.length x2.f2) (wf2 : WF24 x2) (a3 : Int) (w3 : (Lit.int .i64 a3).wf = true) :
    Calls Tryd.prog 5 #[.agg #[.int .i64 x0.f0, .int .i64 x0.f1, .slice A0 x0.f2.length c0], .agg #[.int .i64 x1.f0, .int .i64 x1.f1, .slice A1 x1.f2.length c1], .agg #[.int .i64 x2.f0, .int .i64 x2.f1, .slice A2 x2.f2.length c2], .int .i64 a3] W fun e w' => e = .returned (.bool true) ∧ Below W.heap.size W w' := by
  obtain ⟨k, h⟩ := (Pure.TermSubsts wf0 wf1 wf2 w3).rounds
  exact thyrsuslaw4_TermSubsts.calls k x0.f0 x0.f1 A0 c0 x0.f2 x1.f0 x1.f1 A1 c1 x1.f2 x2.f0 x2.f1 A2 c2 x2.f2 a3 true W hC0 hl0 hC1 hl1 hC2 hl2 h
end Go.Proofs.YtcchfblekaaalaaDoor.P
