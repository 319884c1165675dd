-- Printed by mkprint.py (a program of this session, over the kit's print). Lean checks it.
import Derived.Test.YtleepjnpnbkgdaaPx0
import Derived.Test.YtleepjnpnbkgdaaPx2
import Derived.Test.YtleepjnpnbkgdaaHandR
import Derived.Test.YtleepjnpnbkgdaaPx7
import Derived.Test.YtleepjnpnbkgdaaHandT
namespace Go.Proofs.Ytleepjnpnbkgdaa.P
open Go.RowKit Go.Proofs.YtleepjnpnbkgdaaW.PrintWords Go.Proofs.YtleepjnpnbkgdaaW.PrintLast Go.Proofs.YtleepjnpnbkgdaaW.PrintMore
attribute [local go_sem] max2_int min2_int max_two min_two max_three min_three max_four min_four   -- for this text's walks alone
set_option linter.unusedVariables false
set_option linter.unusedSimpArgs false

/-! ### thyrsuslaw2_LexPlaces: function 7 -/
mutual
def thyrsuslaw2_LexPlaces.l0 : Nat → ByteArray → List (S29) → Int → Int → Option (Bool)
  | 0, _, _, _, _ => none
  | k + 1, x3, x4, x10, x11 => if x11 < (x4.length : Int) then (if 0 ≤ x11 then (if ((rd_T29 x4 x11).f2) < x10 then (thyrsuslaw2_LexPlaces.j1 k x3 x4 x11 true ((rd_T29 x4 x11).f0) ((rd_T29 x4 x11).f1) ((rd_T29 x4 x11).f2) ((rd_T29 x4 x11).f3)) else (thyrsuslaw2_LexPlaces.j1 k x3 x4 x11 (decide (((rd_T29 x4 x11).f2) ≥ (x3.size : Int))) ((rd_T29 x4 x11).f0) ((rd_T29 x4 x11).f1) ((rd_T29 x4 x11).f2) ((rd_T29 x4 x11).f3))) else (none)) else (some true)
def thyrsuslaw2_LexPlaces.j1 : Nat → ByteArray → List (S29) → Int → Bool → Int → Int → Int → ByteArray → Option (Bool)
  | 0, _, _, _, _, _, _, _, _ => none
  | k + 1, x3, x4, x11, x54, x299000, x299001, x299002, x299003 => if x54 = true then (none) else (if x299000 = 1 then (thyrsuslaw2_LexPlaces.j2 k x3 x4 x11 x299000 (x299000 == 1) x299000 x299001 x299002 x299003) else (thyrsuslaw2_LexPlaces.j2 k x3 x4 x11 x299000 (x299000 == 2) x299000 x299001 x299002 x299003))
def thyrsuslaw2_LexPlaces.j2 : Nat → ByteArray → List (S29) → Int → Int → Bool → Int → Int → Int → ByteArray → Option (Bool)
  | 0, _, _, _, _, _, _, _, _, _ => none
  | k + 1, x3, x4, x11, x56, x68, x299000, x299001, x299002, x299003 => if x68 = true then (if 0 ≤ x299002 then (if x299002 < (x3.size : Int) then (if 0 ≤ (wrap64 (x299000 - 1)) then (if (wrap64 (x299000 - 1)) < 2 then (if (bt x3 x299002) = (bt (⟨#[40, 41]⟩ : ByteArray) (wrap64 (x299000 - 1))) then (if x299003.toList = ([] : List UInt8) then (thyrsuslaw2_LexPlaces.l0 k x3 x4 (wrap64 (x299002 + 1)) (wrap64 (x11 + 1))) else (none)) else (none)) else (none)) else (none)) else (none)) else (none)) else (if x56 = 3 then (if (wrap64 (x299002 + (x299003.size : Int))) > (x3.size : Int) then (none) else (if 0 ≤ x299002 then (if x299002 ≤ (wrap64 (x299002 + (x299003.size : Int))) then (if (wrap64 (x299002 + (x299003.size : Int))) ≤ (x3.size : Int) then (if (x3.extract (x299002 : Int).toNat ((wrap64 (x299002 + (x299003.size : Int))) : Int).toNat).toList = x299003.toList then (if x299003.toList = ([] : List UInt8) then (none) else (if x299001 = 0 then (thyrsuslaw2_LexPlaces.l0 k x3 x4 (wrap64 (x299002 + (x299003.size : Int))) (wrap64 (x11 + 1))) else (none))) else (none)) else (none)) else (none)) else (none))) else (if x299000 = 4 then (if x299003.toList = ([] : List UInt8) then (thyrsuslaw2_LexPlaces.l0 k x3 x4 (wrap64 (x299002 + 1)) (wrap64 (x11 + 1))) else (none)) else (none)))
end
def thyrsuslaw2_LexPlaces.f (k : Nat) (l0 : List Int) : Option (Bool) := (thyrsuslaw2_known.f).bind fun t285 => (if t285 = true then ((thyrsuslaw2_Text.f k l0).bind fun t286 => ((lex_Tokens.f t286).bind fun bt287 => (if bt287.2.2 = 0 then (thyrsuslaw2_LexPlaces.l0 k t286 bt287.1 0 0) else ((thyrsusref2_Tokens.f k t286).bind fun bt292 => (some (bt287.2.2 == bt292.2.2)))))) else (none))
theorem thyrsuslaw2_LexPlaces.mono_l : ∀ k, (∀ y0 y1 y2 y3, LeO (thyrsuslaw2_LexPlaces.l0 k y0 y1 y2 y3) (thyrsuslaw2_LexPlaces.l0 (k + 1) y0 y1 y2 y3)) ∧ (∀ y0 y1 y2 y3 y4 y5 y6 y7, LeO (thyrsuslaw2_LexPlaces.j1 k y0 y1 y2 y3 y4 y5 y6 y7) (thyrsuslaw2_LexPlaces.j1 (k + 1) y0 y1 y2 y3 y4 y5 y6 y7)) ∧ (∀ y0 y1 y2 y3 y4 y5 y6 y7 y8, LeO (thyrsuslaw2_LexPlaces.j2 k y0 y1 y2 y3 y4 y5 y6 y7 y8) (thyrsuslaw2_LexPlaces.j2 (k + 1) y0 y1 y2 y3 y4 y5 y6 y7 y8))
  | 0 => ⟨fun _ _ _ _ r h => by simp [thyrsuslaw2_LexPlaces.l0] at h, fun _ _ _ _ _ _ _ _ r h => by simp [thyrsuslaw2_LexPlaces.j1] at h, fun _ _ _ _ _ _ _ _ _ r h => by simp [thyrsuslaw2_LexPlaces.j2] at h⟩
  | k + 1 => by
    obtain ⟨ih0, ih1, ih2⟩ := thyrsuslaw2_LexPlaces.mono_l k
    refine ⟨?_, ?_, ?_⟩
    · intro y0 y1 y2 y3
      unfold thyrsuslaw2_LexPlaces.l0
      repeat' first
      | (with_reducible exact ih0 _ _ _ _)
      | (with_reducible exact ih1 _ _ _ _ _ _ _ _)
      | (with_reducible exact ih2 _ _ _ _ _ _ _ _ _)
      | (with_reducible exact thyrsuslaw2_Text.mono _ _)
      | (with_reducible exact thyrsusref2_Tokens.mono _ _)
      | (with_reducible exact LeO.refl _)
      | (with_reducible exact LeO.none _)
      | (with_reducible refine LeO.ite ?_ ?_)
      | (with_reducible refine LeO.bind ?_ (fun _ => ?_))
      | exact ih0 _ _ _ _
      | exact ih1 _ _ _ _ _ _ _ _
      | exact ih2 _ _ _ _ _ _ _ _ _
      | exact thyrsuslaw2_Text.mono _ _
      | exact thyrsusref2_Tokens.mono _ _
      | exact LeO.none _
      | refine LeO.ite ?_ ?_
      | refine LeO.bind ?_ (fun _ => ?_)
    · intro y0 y1 y2 y3 y4 y5 y6 y7
      unfold thyrsuslaw2_LexPlaces.j1
      repeat' first
      | (with_reducible exact ih0 _ _ _ _)
      | (with_reducible exact ih1 _ _ _ _ _ _ _ _)
      | (with_reducible exact ih2 _ _ _ _ _ _ _ _ _)
      | (with_reducible exact thyrsuslaw2_Text.mono _ _)
      | (with_reducible exact thyrsusref2_Tokens.mono _ _)
      | (with_reducible exact LeO.refl _)
      | (with_reducible exact LeO.none _)
      | (with_reducible refine LeO.ite ?_ ?_)
      | (with_reducible refine LeO.bind ?_ (fun _ => ?_))
      | exact ih0 _ _ _ _
      | exact ih1 _ _ _ _ _ _ _ _
      | exact ih2 _ _ _ _ _ _ _ _ _
      | exact thyrsuslaw2_Text.mono _ _
      | exact thyrsusref2_Tokens.mono _ _
      | exact LeO.none _
      | refine LeO.ite ?_ ?_
      | refine LeO.bind ?_ (fun _ => ?_)
    · intro y0 y1 y2 y3 y4 y5 y6 y7 y8
      unfold thyrsuslaw2_LexPlaces.j2
      repeat' first
      | (with_reducible exact ih0 _ _ _ _)
      | (with_reducible exact ih1 _ _ _ _ _ _ _ _)
      | (with_reducible exact ih2 _ _ _ _ _ _ _ _ _)
      | (with_reducible exact thyrsuslaw2_Text.mono _ _)
      | (with_reducible exact thyrsusref2_Tokens.mono _ _)
      | (with_reducible exact LeO.refl _)
      | (with_reducible exact LeO.none _)
      | (with_reducible refine LeO.ite ?_ ?_)
      | (with_reducible refine LeO.bind ?_ (fun _ => ?_))
      | exact ih0 _ _ _ _
      | exact ih1 _ _ _ _ _ _ _ _
      | exact ih2 _ _ _ _ _ _ _ _ _
      | exact thyrsuslaw2_Text.mono _ _
      | exact thyrsusref2_Tokens.mono _ _
      | exact LeO.none _
      | refine LeO.ite ?_ ?_
      | refine LeO.bind ?_ (fun _ => ?_)
theorem thyrsuslaw2_LexPlaces.mono : ∀ a0 k, LeO (thyrsuslaw2_LexPlaces.f k a0) (thyrsuslaw2_LexPlaces.f (k + 1) a0) := by
  intro a0 k
  obtain ⟨ih0, ih1, ih2⟩ := thyrsuslaw2_LexPlaces.mono_l k
  unfold thyrsuslaw2_LexPlaces.f
  repeat' first
      | (with_reducible exact ih0 _ _ _ _)
      | (with_reducible exact ih1 _ _ _ _ _ _ _ _)
      | (with_reducible exact ih2 _ _ _ _ _ _ _ _ _)
      | (with_reducible exact thyrsuslaw2_Text.mono _ _)
      | (with_reducible exact thyrsusref2_Tokens.mono _ _)
      | (with_reducible exact LeO.refl _)
      | (with_reducible exact LeO.none _)
      | (with_reducible refine LeO.ite ?_ ?_)
      | (with_reducible refine LeO.bind ?_ (fun _ => ?_))
      | exact ih0 _ _ _ _
      | exact ih1 _ _ _ _ _ _ _ _
      | exact ih2 _ _ _ _ _ _ _ _ _
      | exact thyrsuslaw2_Text.mono _ _
      | exact thyrsusref2_Tokens.mono _ _
      | exact LeO.none _
      | refine LeO.ite ?_ ?_
      | refine LeO.bind ?_ (fun _ => ?_)
set_option maxHeartbeats 8000000 in
set_option maxRecDepth 100000 in
theorem thyrsuslaw2_LexPlaces.calls (k : Nat) (A0 : Option Addr) (c0 : Nat) (l0 : List Int) (r : Bool) (w : World) (hr0 : Kd.C (Kd.int .i64) w A0 l0.length l0) (hc0 : l0.length ≤ c0) (h : thyrsuslaw2_LexPlaces.f k l0 = some r) :
    Calls Try.prog 7 #[.slice A0 l0.length c0] w fun e w' => e = .returned (.bool r) ∧ Below w.heap.size w w' := by
  have hu29 := Try.underlying29
  have HR0 := Aside0.mk hr0
  have HC0 := Aside0.mk hc0
  clear hr0 hc0
  have HB := Aside0.mk (Below.refl w.heap.size w)
  have H : ((thyrsuslaw2_known.f).bind fun t285 => (if t285 = true then ((thyrsuslaw2_Text.f k l0).bind fun t286 => ((lex_Tokens.f t286).bind fun bt287 => (if bt287.2.2 = 0 then (thyrsuslaw2_LexPlaces.l0 k t286 bt287.1 0 0) else ((thyrsusref2_Tokens.f k t286).bind fun bt292 => (some (bt287.2.2 == bt292.2.2)))))) else (none))) = some r := h
  clear h
  replace H := Option.bind_eq_some_iff.mp H
  obtain ⟨t285, A20, H⟩ := H
  replace H : (if t285 = true then ((thyrsuslaw2_Text.f k l0).bind fun t286 => ((lex_Tokens.f t286).bind fun bt287 => (if bt287.2.2 = 0 then (thyrsuslaw2_LexPlaces.l0 k t286 bt287.1 0 0) else ((thyrsusref2_Tokens.f k t286).bind fun bt292 => (some (bt287.2.2 == bt292.2.2)))))) else (none)) = some r := H
  have A2 := Aside0.mk A20
  clear A20
  by_cases c3 : t285 = true
  · subst c3
    have H1 : ((thyrsuslaw2_Text.f k l0).bind fun t286 => ((lex_Tokens.f t286).bind fun bt287 => (if bt287.2.2 = 0 then (thyrsuslaw2_LexPlaces.l0 k t286 bt287.1 0 0) else ((thyrsusref2_Tokens.f k t286).bind fun bt292 => (some (bt287.2.2 == bt292.2.2)))))) = some r := by rw [if_pos rfl] at H; exact H
    clear H
    have H := H1
    clear H1
    replace H := Option.bind_eq_some_iff.mp H
    obtain ⟨t286, A40, H⟩ := H
    replace H : ((lex_Tokens.f t286).bind fun bt287 => (if bt287.2.2 = 0 then (thyrsuslaw2_LexPlaces.l0 k t286 bt287.1 0 0) else ((thyrsusref2_Tokens.f k t286).bind fun bt292 => (some (bt287.2.2 == bt292.2.2))))) = some r := H
    have A4 := Aside0.mk A40
    clear A40
    replace H := Option.bind_eq_some_iff.mp H
    obtain ⟨⟨t287, t288, t289⟩, A50, H⟩ := H
    replace H : (if t289 = 0 then (thyrsuslaw2_LexPlaces.l0 k t286 t287 0 0) else ((thyrsusref2_Tokens.f k t286).bind fun bt292 => (some (t289 == bt292.2.2)))) = some r := H
    have A5 := Aside0.mk A50
    clear A50
    by_cases c6 : t289 = 0
    · rw [if_pos c6] at H
      have c6b0 : (t289 == 0) = true := beq_iff_eq.mpr c6
      have c6b1 : (t289 != 0) = false := bne_eq_false_iff_eq.mpr c6
      clear c6
      have H' := Aside0.mk H
      clear H
      go_enter Try.func7, Try.ntmps7
      go_wp2_with (first | (go_at_call 9; (with_reducible refine (thyrsuslaw2_known.calls  true _ A2.out).mono ?_); rintro e w7 ⟨rfl, hb⟩; have n0_ := Aside0.mk (below_step (by repeat (first | (with_reducible first | exact HB.out | apply below_alloc | apply pw_below_drewN | apply below_drew1) | exact HB.out)) hb); clear HB; have HB := n0_; clear n0_; (try clear hb); (try clear hb2); (try clear hk); (try clear hi)) | (go_at_call 10; (with_reducible refine (thyrsuslaw2_Text.calls k _ _ l0 t286 _ ?side1 ?side2 A4.out).mono ?_); (case side1 => repeat (first | exact (Kd.C_below HR0.out HB.out) | (with_reducible refine Kd.C_alloc ?_ _) | (with_reducible refine Kd.C_drewN ?_ _) | (with_reducible refine Kd.C_drew ?_))); (case side2 => exact HC0.out); rintro e w8 ⟨rfl, hb⟩; have n0_ := Aside0.mk (below_step (by repeat (first | (with_reducible first | exact HB.out | apply below_alloc | apply pw_below_drewN | apply below_drew1) | exact HB.out)) hb); clear HB; have HB := n0_; clear n0_; (try clear hb); (try clear hb2); (try clear hk); (try clear hi)) | (go_at_call 13; (with_reducible refine (lex_Tokens.calls t286 t287 t288 t289 _ A5.out).mono ?_); rintro e w9 ⟨v290, rfl, ho0, hb⟩; have n0_ := Aside0.mk (Kd.R_lower ho0 (below_size (by repeat (first | (with_reducible first | exact HB.out | apply below_alloc | apply pw_below_drewN | apply below_drew1) | exact HB.out)))); have n1_ := Aside0.mk (below_step (by repeat (first | (with_reducible first | exact HB.out | apply below_alloc | apply pw_below_drewN | apply below_drew1) | exact HB.out)) hb); clear HB; have HO291 := n0_; have HB := n1_; clear n0_ n1_; (try clear hb); (try clear hb2); (try clear hk); (try clear hi); (try clear ho0)))
      repeat (go_quiet (first | (go_at_call 9; (with_reducible refine (thyrsuslaw2_known.calls  true _ A2.out).mono ?_); rintro e w7 ⟨rfl, hb⟩; have n0_ := Aside0.mk (below_step (by repeat (first | (with_reducible first | exact HB.out | apply below_alloc | apply pw_below_drewN | apply below_drew1) | exact HB.out)) hb); clear HB; have HB := n0_; clear n0_; (try clear hb); (try clear hb2); (try clear hk); (try clear hi)) | (go_at_call 10; (with_reducible refine (thyrsuslaw2_Text.calls k _ _ l0 t286 _ ?side1 ?side2 A4.out).mono ?_); (case side1 => repeat (first | exact (Kd.C_below HR0.out HB.out) | (with_reducible refine Kd.C_alloc ?_ _) | (with_reducible refine Kd.C_drewN ?_ _) | (with_reducible refine Kd.C_drew ?_))); (case side2 => exact HC0.out); rintro e w8 ⟨rfl, hb⟩; have n0_ := Aside0.mk (below_step (by repeat (first | (with_reducible first | exact HB.out | apply below_alloc | apply pw_below_drewN | apply below_drew1) | exact HB.out)) hb); clear HB; have HB := n0_; clear n0_; (try clear hb); (try clear hb2); (try clear hk); (try clear hi)) | (go_at_call 13; (with_reducible refine (lex_Tokens.calls t286 t287 t288 t289 _ A5.out).mono ?_); rintro e w9 ⟨v290, rfl, ho0, hb⟩; have n0_ := Aside0.mk (Kd.R_lower ho0 (below_size (by repeat (first | (with_reducible first | exact HB.out | apply below_alloc | apply pw_below_drewN | apply below_drew1) | exact HB.out)))); have n1_ := Aside0.mk (below_step (by repeat (first | (with_reducible first | exact HB.out | apply below_alloc | apply pw_below_drewN | apply below_drew1) | exact HB.out)) hb); clear HB; have HO291 := n0_; have HB := n1_; clear n0_ n1_; (try clear hb); (try clear hb2); (try clear hk); (try clear hi); (try clear ho0))); try go_wp2_with (first | (go_at_call 9; (with_reducible refine (thyrsuslaw2_known.calls  true _ A2.out).mono ?_); rintro e w7 ⟨rfl, hb⟩; have n0_ := Aside0.mk (below_step (by repeat (first | (with_reducible first | exact HB.out | apply below_alloc | apply pw_below_drewN | apply below_drew1) | exact HB.out)) hb); clear HB; have HB := n0_; clear n0_; (try clear hb); (try clear hb2); (try clear hk); (try clear hi)) | (go_at_call 10; (with_reducible refine (thyrsuslaw2_Text.calls k _ _ l0 t286 _ ?side1 ?side2 A4.out).mono ?_); (case side1 => repeat (first | exact (Kd.C_below HR0.out HB.out) | (with_reducible refine Kd.C_alloc ?_ _) | (with_reducible refine Kd.C_drewN ?_ _) | (with_reducible refine Kd.C_drew ?_))); (case side2 => exact HC0.out); rintro e w8 ⟨rfl, hb⟩; have n0_ := Aside0.mk (below_step (by repeat (first | (with_reducible first | exact HB.out | apply below_alloc | apply pw_below_drewN | apply below_drew1) | exact HB.out)) hb); clear HB; have HB := n0_; clear n0_; (try clear hb); (try clear hb2); (try clear hk); (try clear hi)) | (go_at_call 13; (with_reducible refine (lex_Tokens.calls t286 t287 t288 t289 _ A5.out).mono ?_); rintro e w9 ⟨v290, rfl, ho0, hb⟩; have n0_ := Aside0.mk (Kd.R_lower ho0 (below_size (by repeat (first | (with_reducible first | exact HB.out | apply below_alloc | apply pw_below_drewN | apply below_drew1) | exact HB.out)))); have n1_ := Aside0.mk (below_step (by repeat (first | (with_reducible first | exact HB.out | apply below_alloc | apply pw_below_drewN | apply below_drew1) | exact HB.out)) hb); clear HB; have HO291 := n0_; have HB := n1_; clear n0_ n1_; (try clear hb); (try clear hb2); (try clear hk); (try clear hi); (try clear ho0))))
      go_loopg [10, 11] k (fun kq v10 v11 w' => ∃ (x10_1 : Int) (x11_1 : Int), v10 = .int .i64 x10_1 ∧ v11 = .int .i64 x11_1 ∧ Aside0 (thyrsuslaw2_LexPlaces.l0 kq t286 t287 x10_1 x11_1 = some r) ∧ Aside0 (kq ≤ k) ∧ Aside0 (Kd.R k29 29 w' w.heap.size (fun _ => True) v290 t287) ∧ Aside0 (Below w.heap.size w w'))
      case atStart => exact ⟨(0), (0), (by first | rfl | (simp; done) | (simp [*]; done)), (by first | rfl | (simp; done) | (simp [*]; done)), H', ⟨Nat.le_refl _⟩, ⟨by (with_reducible repeat (first | apply Kd.R_alloc | apply Kd.R_drewN | apply Kd.R_drew)); exact HO291.out⟩, ⟨by repeat (first | (with_reducible first | exact HB.out | apply below_alloc | apply pw_below_drewN | apply below_drew1) | exact HB.out)⟩⟩
      case round =>
        clear H'
        try clear p2
        try clear c3
        try clear c6
        try clear c6b0
        try clear c6b1
        try clear c7
        try clear HO_4
        try clear HB
        obtain ⟨x10_1, x11_1, rfl, rfl, HA, HK1, HO_4, HB⟩ := hrel
        cases gk with
        | zero => exact absurd HA.out (by simp [thyrsuslaw2_LexPlaces.l0])
        | succ k1 =>
          have H := HA.out
          clear HA
          simp only [thyrsuslaw2_LexPlaces.l0] at H
          by_cases c10 : x11_1 < (t287.length : Int)
          · rw [if_pos c10] at H
            have c10b0 : decide (x11_1 < (t287.length : Int)) = true := decide_eq_true c10
            clear c10
            by_cases c11 : 0 ≤ x11_1
            · rw [if_pos c11] at H
              have c11b0 : decide (0 ≤ x11_1) = true := decide_eq_true c11
              clear c11
              have HC12 := Aside0.mk H
              clear H
              obtain ⟨Ao13, co13, eo13⟩ := Kd.R_slice HO_4.out
              subst eo13
              have p297 : 0 ≤ (x11_1 : Int) := of_decide_eq_true (by first | (with_reducible assumption) | assumption)
              have q297 : x11_1 < (t287.length : Int) := of_decide_eq_true (by first | (with_reducible assumption) | assumption)
              obtain ⟨ad297, e297, hx297_0, hx297_1, hx297_2, hx297_3⟩ := at_T29 (Kd.R_reads' HO_4.out).2.2 x11_1 p297 q297
              cases e297
              replace p297 := eq_true p297
              replace q297 := eq_true q297
              go_upto_region 13 with (first | ((with_reducible refine gate_dst (N := 12) rfl ?_); (try (refine gate_guard (by rfl) ?_; dsimp only)); refine box_event ?hg (N := 12) ?hd (cs := #[.int .i64 0, .int .i64 0, .int .i64 0, .string (⟨#[]⟩ : ByteArray)]) (t := 29) ?hr ?_; (case hd => rfl); (case hg => rfl); (case hr => first | (go_simp; done) | (go_simp; rfl)); intro gb298 hg w14 hbox hb; have n0_ := Aside0.mk (Kd.R_below (Kd.R_elderB (by (with_reducible repeat (first | apply Kd.R_alloc | apply Kd.R_drewN | apply Kd.R_drew)); exact HO_4.out) gb298 (Nat.le_of_eq hg.symm)) hb); have n1_ := Aside0.mk (below_step (by repeat (first | (with_reducible first | exact HB.out | apply below_alloc | apply pw_below_drewN | apply below_drew1) | exact HB.out)) hb); have n2_ := Aside0.mk (hbox); have n3_ := Aside0.mk ((by rw [hg]; exact (below_size (by repeat (first | (with_reducible first | exact HB.out | apply below_alloc | apply pw_below_drewN | apply below_drew1) | exact HB.out))) : w.heap.size ≤ gb298)); have n4_ := Aside0.mk ((by rw [hg]; exact (below_size (by repeat (first | (with_reducible first | exact HB.out | apply below_alloc | apply pw_below_drewN | apply below_drew1) | exact HB.out))) : w.heap.size ≤ gb298)); clear HO_4; clear HB; have HO_4 := n0_; have HB := n1_; have BK298 := n2_; have GW298 := n3_; have GE298 := n4_; clear n0_ n1_ n2_ n3_ n4_; clear hb hbox hg; have hcz15_0 : w14.cell? ⟨gb298, 0, none⟩ = some (.int .i64 0) := (blk_cell BK298.out 0).trans rfl; have hcz15_1 : w14.cell? ⟨gb298, 1, none⟩ = some (.int .i64 0) := (blk_cell BK298.out 1).trans rfl; have hcz15_2 : w14.cell? ⟨gb298, 2, none⟩ = some (.int .i64 0) := (blk_cell BK298.out 2).trans rfl; have hcz15_3 : w14.cell? ⟨gb298, 3, none⟩ = some (.string (⟨#[]⟩ : ByteArray)) := (blk_cell BK298.out 3).trans rfl; have hfz15_0 := blk_frozen BK298.out 0; have hfz15_1 := blk_frozen BK298.out 1; have hfz15_2 := blk_frozen BK298.out 2; have hfz15_3 := blk_frozen BK298.out 3))
              repeat (go_quiet (first | ((with_reducible refine gate_dst (N := 12) rfl ?_); (try (refine gate_guard (by rfl) ?_; dsimp only)); refine box_event ?hg (N := 12) ?hd (cs := #[.int .i64 0, .int .i64 0, .int .i64 0, .string (⟨#[]⟩ : ByteArray)]) (t := 29) ?hr ?_; (case hd => rfl); (case hg => rfl); (case hr => first | (go_simp; done) | (go_simp; rfl)); intro gb298 hg w14 hbox hb; have n0_ := Aside0.mk (Kd.R_below (Kd.R_elderB (by (with_reducible repeat (first | apply Kd.R_alloc | apply Kd.R_drewN | apply Kd.R_drew)); exact HO_4.out) gb298 (Nat.le_of_eq hg.symm)) hb); have n1_ := Aside0.mk (below_step (by repeat (first | (with_reducible first | exact HB.out | apply below_alloc | apply pw_below_drewN | apply below_drew1) | exact HB.out)) hb); have n2_ := Aside0.mk (hbox); have n3_ := Aside0.mk ((by rw [hg]; exact (below_size (by repeat (first | (with_reducible first | exact HB.out | apply below_alloc | apply pw_below_drewN | apply below_drew1) | exact HB.out))) : w.heap.size ≤ gb298)); have n4_ := Aside0.mk ((by rw [hg]; exact (below_size (by repeat (first | (with_reducible first | exact HB.out | apply below_alloc | apply pw_below_drewN | apply below_drew1) | exact HB.out))) : w.heap.size ≤ gb298)); clear HO_4; clear HB; have HO_4 := n0_; have HB := n1_; have BK298 := n2_; have GW298 := n3_; have GE298 := n4_; clear n0_ n1_ n2_ n3_ n4_; clear hb hbox hg; have hcz15_0 : w14.cell? ⟨gb298, 0, none⟩ = some (.int .i64 0) := (blk_cell BK298.out 0).trans rfl; have hcz15_1 : w14.cell? ⟨gb298, 1, none⟩ = some (.int .i64 0) := (blk_cell BK298.out 1).trans rfl; have hcz15_2 : w14.cell? ⟨gb298, 2, none⟩ = some (.int .i64 0) := (blk_cell BK298.out 2).trans rfl; have hcz15_3 : w14.cell? ⟨gb298, 3, none⟩ = some (.string (⟨#[]⟩ : ByteArray)) := (blk_cell BK298.out 3).trans rfl; have hfz15_0 := blk_frozen BK298.out 0; have hfz15_1 := blk_frozen BK298.out 1; have hfz15_2 := blk_frozen BK298.out 2; have hfz15_3 := blk_frozen BK298.out 3)); go_upto_region 13 with (first | ((with_reducible refine gate_dst (N := 12) rfl ?_); (try (refine gate_guard (by rfl) ?_; dsimp only)); refine box_event ?hg (N := 12) ?hd (cs := #[.int .i64 0, .int .i64 0, .int .i64 0, .string (⟨#[]⟩ : ByteArray)]) (t := 29) ?hr ?_; (case hd => rfl); (case hg => rfl); (case hr => first | (go_simp; done) | (go_simp; rfl)); intro gb298 hg w14 hbox hb; have n0_ := Aside0.mk (Kd.R_below (Kd.R_elderB (by (with_reducible repeat (first | apply Kd.R_alloc | apply Kd.R_drewN | apply Kd.R_drew)); exact HO_4.out) gb298 (Nat.le_of_eq hg.symm)) hb); have n1_ := Aside0.mk (below_step (by repeat (first | (with_reducible first | exact HB.out | apply below_alloc | apply pw_below_drewN | apply below_drew1) | exact HB.out)) hb); have n2_ := Aside0.mk (hbox); have n3_ := Aside0.mk ((by rw [hg]; exact (below_size (by repeat (first | (with_reducible first | exact HB.out | apply below_alloc | apply pw_below_drewN | apply below_drew1) | exact HB.out))) : w.heap.size ≤ gb298)); have n4_ := Aside0.mk ((by rw [hg]; exact (below_size (by repeat (first | (with_reducible first | exact HB.out | apply below_alloc | apply pw_below_drewN | apply below_drew1) | exact HB.out))) : w.heap.size ≤ gb298)); clear HO_4; clear HB; have HO_4 := n0_; have HB := n1_; have BK298 := n2_; have GW298 := n3_; have GE298 := n4_; clear n0_ n1_ n2_ n3_ n4_; clear hb hbox hg; have hcz15_0 : w14.cell? ⟨gb298, 0, none⟩ = some (.int .i64 0) := (blk_cell BK298.out 0).trans rfl; have hcz15_1 : w14.cell? ⟨gb298, 1, none⟩ = some (.int .i64 0) := (blk_cell BK298.out 1).trans rfl; have hcz15_2 : w14.cell? ⟨gb298, 2, none⟩ = some (.int .i64 0) := (blk_cell BK298.out 2).trans rfl; have hcz15_3 : w14.cell? ⟨gb298, 3, none⟩ = some (.string (⟨#[]⟩ : ByteArray)) := (blk_cell BK298.out 3).trans rfl; have hfz15_0 := blk_frozen BK298.out 0; have hfz15_1 := blk_frozen BK298.out 1; have hfz15_2 := blk_frozen BK298.out 2; have hfz15_3 := blk_frozen BK298.out 3)))
              (try simp only [Act.put, List.setIfInBounds_toArray, List.set_cons_zero, List.set_cons_succ])
              go_cut [54] (fun v54 wc => ∃ (kq : Nat) (x54_11 : Bool), v54 = .bool x54_11 ∧ Aside0 (thyrsuslaw2_LexPlaces.j1 kq t286 t287 x11_1 x54_11 ((rd_T29 t287 x11_1).f0) ((rd_T29 t287 x11_1).f1) ((rd_T29 t287 x11_1).f2) ((rd_T29 t287 x11_1).f3) = some r) ∧ Aside0 (kq ≤ k1) ∧ Aside0 (Kd.R k29 29 wc w.heap.size (fun k_ => k_ ≠ gb298) (.slice (some ad297) t287.length co13) t287) ∧ Aside0 (wc.heap[gb298]? = some (.cells #[.int .i64 ((rd_T29 t287 x11_1).f0), .int .i64 ((rd_T29 t287 x11_1).f1), .int .i64 ((rd_T29 t287 x11_1).f2), .string ((rd_T29 t287 x11_1).f3)] 29 (0, 0))) ∧ Aside0 (Below w.heap.size w wc))
              case first =>
                have H := HC12.out
                clear HC12
                by_cases c16 : ((rd_T29 t287 x11_1).f2) < x10_1
                · rw [if_pos c16] at H
                  have c16b0 : decide (((rd_T29 t287 x11_1).f2) < x10_1) = true := decide_eq_true c16
                  clear c16
                  (first | rw [c16b0] | (simp only [i64_w, i32_w, u8_w, u32_w]; rw [c16b0]) | skip)
                  have H' := Aside0.mk H
                  clear H
                  have hcz17_0 : w14.cell? ⟨gb298, 0, none⟩ = some (.int .i64 0) := (blk_cell BK298.out 0).trans rfl
                  have hcz17_1 : w14.cell? ⟨gb298, 1, none⟩ = some (.int .i64 0) := (blk_cell BK298.out 1).trans rfl
                  have hcz17_2 : w14.cell? ⟨gb298, 2, none⟩ = some (.int .i64 0) := (blk_cell BK298.out 2).trans rfl
                  have hcz17_3 : w14.cell? ⟨gb298, 3, none⟩ = some (.string (⟨#[]⟩ : ByteArray)) := (blk_cell BK298.out 3).trans rfl
                  have hfz17_0 := blk_frozen BK298.out 0
                  have hfz17_1 := blk_frozen BK298.out 1
                  have hfz17_2 := blk_frozen BK298.out 2
                  have hfz17_3 := blk_frozen BK298.out 3
                  go_wp2
                  repeat (go_quiet (fail); try go_wp2)
                  go_meet
                  case rel => exact ⟨_, (true), (by first | rfl | (simp; done) | (simp [*]; done)), H', ⟨by have := HK1.out; first | omega | exact Nat.le_refl _⟩, ⟨by (with_reducible repeat (first | apply Kd.R_alloc | apply Kd.R_drewN | apply Kd.R_drew)); exact Kd.R_mono (Kd.R_far (p := ⟨gb298, 3, none⟩) (Kd.R_far (p := ⟨gb298, 2, none⟩) (Kd.R_far (p := ⟨gb298, 1, none⟩) (Kd.R_far (p := ⟨gb298, 0, none⟩) (Kd.R_mono HO_4.out (fun k_ hk => (⟨hk, hk.2⟩ : _ ∧ k_ ≠ gb298))) (fun _ hk => hk.2) (.int .i64 ((rd_T29 t287 x11_1).f0))) (fun _ hk => hk.2) (.int .i64 ((rd_T29 t287 x11_1).f1))) (fun _ hk => hk.2) (.int .i64 ((rd_T29 t287 x11_1).f2))) (fun _ hk => hk.2) (.string ((rd_T29 t287 x11_1).f3))) (fun _ hk => hk.1.2)⟩, ⟨by (with_reducible repeat (first | refine blk_drewN ?_ _ | refine blk_drew ?_ | refine blk_alloc ?_ _)); refine blk_put (cs := #[.int .i64 ((rd_T29 t287 x11_1).f0), .int .i64 ((rd_T29 t287 x11_1).f1), .int .i64 ((rd_T29 t287 x11_1).f2), .string (⟨#[]⟩ : ByteArray)]) ?_ 3 _ rfl; (with_reducible repeat (first | refine blk_drewN ?_ _ | refine blk_drew ?_ | refine blk_alloc ?_ _)); refine blk_put (cs := #[.int .i64 ((rd_T29 t287 x11_1).f0), .int .i64 ((rd_T29 t287 x11_1).f1), .int .i64 0, .string (⟨#[]⟩ : ByteArray)]) ?_ 2 _ rfl; (with_reducible repeat (first | refine blk_drewN ?_ _ | refine blk_drew ?_ | refine blk_alloc ?_ _)); refine blk_put (cs := #[.int .i64 ((rd_T29 t287 x11_1).f0), .int .i64 0, .int .i64 0, .string (⟨#[]⟩ : ByteArray)]) ?_ 1 _ rfl; (with_reducible repeat (first | refine blk_drewN ?_ _ | refine blk_drew ?_ | refine blk_alloc ?_ _)); refine blk_put (cs := #[.int .i64 0, .int .i64 0, .int .i64 0, .string (⟨#[]⟩ : ByteArray)]) ?_ 0 _ rfl; (with_reducible repeat (first | refine blk_drewN ?_ _ | refine blk_drew ?_ | refine blk_alloc ?_ _)); exact BK298.out⟩, ⟨by repeat (first | (with_reducible first | exact HB.out | apply below_alloc | apply pw_below_drewN | apply below_drew1 | refine below_set ?_ GE298.out) | exact HB.out)⟩⟩
                · rw [if_neg c16] at H
                  have c16b0 : decide (((rd_T29 t287 x11_1).f2) < x10_1) = false := decide_eq_false c16
                  clear c16
                  (first | rw [c16b0] | (simp only [i64_w, i32_w, u8_w, u32_w]; rw [c16b0]) | skip)
                  have H' := Aside0.mk H
                  clear H
                  have hcz18_0 : w14.cell? ⟨gb298, 0, none⟩ = some (.int .i64 0) := (blk_cell BK298.out 0).trans rfl
                  have hcz18_1 : w14.cell? ⟨gb298, 1, none⟩ = some (.int .i64 0) := (blk_cell BK298.out 1).trans rfl
                  have hcz18_2 : w14.cell? ⟨gb298, 2, none⟩ = some (.int .i64 0) := (blk_cell BK298.out 2).trans rfl
                  have hcz18_3 : w14.cell? ⟨gb298, 3, none⟩ = some (.string (⟨#[]⟩ : ByteArray)) := (blk_cell BK298.out 3).trans rfl
                  have hfz18_0 := blk_frozen BK298.out 0
                  have hfz18_1 := blk_frozen BK298.out 1
                  have hfz18_2 := blk_frozen BK298.out 2
                  have hfz18_3 := blk_frozen BK298.out 3
                  go_wp2
                  repeat (go_quiet (fail); try go_wp2)
                  go_meet
                  case rel => exact ⟨_, (decide (((rd_T29 t287 x11_1).f2) ≥ (t286.size : Int))), (by first | rfl | (simp; done) | (simp [*]; done)), H', ⟨by have := HK1.out; first | omega | exact Nat.le_refl _⟩, ⟨by (with_reducible repeat (first | apply Kd.R_alloc | apply Kd.R_drewN | apply Kd.R_drew)); exact Kd.R_mono (Kd.R_far (p := ⟨gb298, 3, none⟩) (Kd.R_far (p := ⟨gb298, 2, none⟩) (Kd.R_far (p := ⟨gb298, 1, none⟩) (Kd.R_far (p := ⟨gb298, 0, none⟩) (Kd.R_mono HO_4.out (fun k_ hk => (⟨hk, hk.2⟩ : _ ∧ k_ ≠ gb298))) (fun _ hk => hk.2) (.int .i64 ((rd_T29 t287 x11_1).f0))) (fun _ hk => hk.2) (.int .i64 ((rd_T29 t287 x11_1).f1))) (fun _ hk => hk.2) (.int .i64 ((rd_T29 t287 x11_1).f2))) (fun _ hk => hk.2) (.string ((rd_T29 t287 x11_1).f3))) (fun _ hk => hk.1.2)⟩, ⟨by (with_reducible repeat (first | refine blk_drewN ?_ _ | refine blk_drew ?_ | refine blk_alloc ?_ _)); refine blk_put (cs := #[.int .i64 ((rd_T29 t287 x11_1).f0), .int .i64 ((rd_T29 t287 x11_1).f1), .int .i64 ((rd_T29 t287 x11_1).f2), .string (⟨#[]⟩ : ByteArray)]) ?_ 3 _ rfl; (with_reducible repeat (first | refine blk_drewN ?_ _ | refine blk_drew ?_ | refine blk_alloc ?_ _)); refine blk_put (cs := #[.int .i64 ((rd_T29 t287 x11_1).f0), .int .i64 ((rd_T29 t287 x11_1).f1), .int .i64 0, .string (⟨#[]⟩ : ByteArray)]) ?_ 2 _ rfl; (with_reducible repeat (first | refine blk_drewN ?_ _ | refine blk_drew ?_ | refine blk_alloc ?_ _)); refine blk_put (cs := #[.int .i64 ((rd_T29 t287 x11_1).f0), .int .i64 0, .int .i64 0, .string (⟨#[]⟩ : ByteArray)]) ?_ 1 _ rfl; (with_reducible repeat (first | refine blk_drewN ?_ _ | refine blk_drew ?_ | refine blk_alloc ?_ _)); refine blk_put (cs := #[.int .i64 0, .int .i64 0, .int .i64 0, .string (⟨#[]⟩ : ByteArray)]) ?_ 0 _ rfl; (with_reducible repeat (first | refine blk_drewN ?_ _ | refine blk_drew ?_ | refine blk_alloc ?_ _)); exact BK298.out⟩, ⟨by repeat (first | (with_reducible first | exact HB.out | apply below_alloc | apply pw_below_drewN | apply below_drew1 | refine below_set ?_ GE298.out) | exact HB.out)⟩⟩
              case rest =>
                clear HC12
                try clear c1
                try clear p2
                try clear q2
                try clear hx2
                try clear c3
                try clear c6
                try clear c6b0
                try clear c6b1
                try clear c7
                try clear c10
                try clear c10b0
                try clear c11
                try clear c11b0
                try clear c16
                try clear c16b0
                try clear hcz15_0
                try clear hcz15_1
                try clear hcz15_2
                try clear hcz15_3
                try clear hcz17_0
                try clear hcz17_1
                try clear hcz17_2
                try clear hcz17_3
                try clear hcz18_0
                try clear hcz18_1
                try clear hcz18_2
                try clear hcz18_3
                try clear hfz15_0
                try clear hfz15_1
                try clear hfz15_2
                try clear hfz15_3
                try clear hfz17_0
                try clear hfz17_1
                try clear hfz17_2
                try clear hfz17_3
                try clear hfz18_0
                try clear hfz18_1
                try clear hfz18_2
                try clear hfz18_3
                try clear hx297_0
                try clear hx297_1
                try clear hx297_2
                try clear hx297_3
                try clear p2
                try clear p297
                try clear q297
                obtain ⟨kq, x54_11, rfl, HA, HJ11, HO_4, BK298, HB⟩ := hcut
                cases kq with
                | zero => exact absurd HA.out (by simp [thyrsuslaw2_LexPlaces.j1])
                | succ kj11 =>
                  have H := HA.out
                  clear HA
                  simp only [thyrsuslaw2_LexPlaces.j1] at H
                  by_cases c19 : x54_11 = true
                  · subst c19
                    have H1 : (none) = some r := by rw [if_pos rfl] at H; exact H
                    clear H
                    have H := H1
                    clear H1
                    exact absurd H (by simp)
                  · replace c19 := Bool.eq_false_iff.mpr c19
                    subst c19
                    have H1 : (if ((rd_T29 t287 x11_1).f0) = 1 then (thyrsuslaw2_LexPlaces.j2 kj11 t286 t287 x11_1 ((rd_T29 t287 x11_1).f0) (((rd_T29 t287 x11_1).f0) == 1) ((rd_T29 t287 x11_1).f0) ((rd_T29 t287 x11_1).f1) ((rd_T29 t287 x11_1).f2) ((rd_T29 t287 x11_1).f3)) else (thyrsuslaw2_LexPlaces.j2 kj11 t286 t287 x11_1 ((rd_T29 t287 x11_1).f0) (((rd_T29 t287 x11_1).f0) == 2) ((rd_T29 t287 x11_1).f0) ((rd_T29 t287 x11_1).f1) ((rd_T29 t287 x11_1).f2) ((rd_T29 t287 x11_1).f3))) = some r := by rw [if_neg (show ¬ (false = true) by decide)] at H; exact H
                    clear H
                    have H := H1
                    clear H1
                    have HC20 := Aside0.mk H
                    clear H
                    have hcz21_0 : wc.cell? ⟨gb298, 0, none⟩ = some (.int .i64 ((rd_T29 t287 x11_1).f0)) := (blk_cell BK298.out 0).trans rfl
                    have hcz21_1 : wc.cell? ⟨gb298, 1, none⟩ = some (.int .i64 ((rd_T29 t287 x11_1).f1)) := (blk_cell BK298.out 1).trans rfl
                    have hcz21_2 : wc.cell? ⟨gb298, 2, none⟩ = some (.int .i64 ((rd_T29 t287 x11_1).f2)) := (blk_cell BK298.out 2).trans rfl
                    have hcz21_3 : wc.cell? ⟨gb298, 3, none⟩ = some (.string ((rd_T29 t287 x11_1).f3)) := (blk_cell BK298.out 3).trans rfl
                    have hfz21_0 := blk_frozen BK298.out 0
                    have hfz21_1 := blk_frozen BK298.out 1
                    have hfz21_2 := blk_frozen BK298.out 2
                    have hfz21_3 := blk_frozen BK298.out 3
                    go_upto_if 68 with (fail)
                    repeat (go_quiet (fail); go_upto_if 68 with (fail))
                    go_cut [68] (fun v68 wc => ∃ (kq : Nat) (x68_19 : Bool), v68 = .bool x68_19 ∧ Aside0 (thyrsuslaw2_LexPlaces.j2 kq t286 t287 x11_1 ((rd_T29 t287 x11_1).f0) x68_19 ((rd_T29 t287 x11_1).f0) ((rd_T29 t287 x11_1).f1) ((rd_T29 t287 x11_1).f2) ((rd_T29 t287 x11_1).f3) = some r) ∧ Aside0 (kq ≤ kj11) ∧ Aside0 (Kd.R k29 29 wc w.heap.size (fun k_ => k_ ≠ gb298) (.slice (some ad297) t287.length co13) t287) ∧ Aside0 (wc.heap[gb298]? = some (.cells #[.int .i64 ((rd_T29 t287 x11_1).f0), .int .i64 ((rd_T29 t287 x11_1).f1), .int .i64 ((rd_T29 t287 x11_1).f2), .string ((rd_T29 t287 x11_1).f3)] 29 (0, 0))) ∧ Aside0 (Below w.heap.size w wc))
                    case first =>
                      have H := HC20.out
                      clear HC20
                      by_cases c22 : ((rd_T29 t287 x11_1).f0) = 1
                      · rw [if_pos c22] at H
                        have c22b0 : (((rd_T29 t287 x11_1).f0) == 1) = true := beq_iff_eq.mpr c22
                        have c22b1 : (((rd_T29 t287 x11_1).f0) != 1) = false := bne_eq_false_iff_eq.mpr c22
                        clear c22
                        (first | rw [c22b0] | (simp only [i64_w, i32_w, u8_w, u32_w]; rw [c22b0]) | skip)
                        have H' := Aside0.mk H
                        clear H
                        go_wp2
                        repeat (go_quiet (fail); try go_wp2)
                        go_meet
                        case rel => exact ⟨_, ((((rd_T29 t287 x11_1).f0) == 1)), (by first | rfl | (simp; done) | (simp [*]; done)), H', ⟨by have := HK1.out; have := HJ11.out; first | omega | exact Nat.le_refl _⟩, ⟨by (with_reducible repeat (first | apply Kd.R_alloc | apply Kd.R_drewN | apply Kd.R_drew)); exact HO_4.out⟩, ⟨by (with_reducible repeat (first | refine blk_drewN ?_ _ | refine blk_drew ?_ | refine blk_alloc ?_ _)); exact BK298.out⟩, ⟨by repeat (first | (with_reducible first | exact HB.out | apply below_alloc | apply pw_below_drewN | apply below_drew1 | refine below_set ?_ GE298.out) | exact HB.out)⟩⟩
                      · rw [if_neg c22] at H
                        have c22b0 : (((rd_T29 t287 x11_1).f0) == 1) = false := beq_eq_false_iff_ne.mpr c22
                        have c22b1 : (((rd_T29 t287 x11_1).f0) != 1) = true := bne_iff_ne.mpr c22
                        (first | rw [c22b0] | (simp only [i64_w, i32_w, u8_w, u32_w]; rw [c22b0]) | skip)
                        have H' := Aside0.mk H
                        clear H
                        go_wp2
                        repeat (go_quiet (fail); try go_wp2)
                        go_meet
                        case rel => exact ⟨_, ((((rd_T29 t287 x11_1).f0) == 2)), (by first | rfl | (simp; done) | (simp [*]; done)), H', ⟨by have := HK1.out; have := HJ11.out; first | omega | exact Nat.le_refl _⟩, ⟨by (with_reducible repeat (first | apply Kd.R_alloc | apply Kd.R_drewN | apply Kd.R_drew)); exact HO_4.out⟩, ⟨by (with_reducible repeat (first | refine blk_drewN ?_ _ | refine blk_drew ?_ | refine blk_alloc ?_ _)); exact BK298.out⟩, ⟨by repeat (first | (with_reducible first | exact HB.out | apply below_alloc | apply pw_below_drewN | apply below_drew1 | refine below_set ?_ GE298.out) | exact HB.out)⟩⟩
                    case rest =>
                      clear HC20
                      try clear c1
                      try clear c2
                      try clear p2
                      try clear q2
                      try clear hx2
                      try clear c3
                      try clear c6
                      try clear c6b0
                      try clear c6b1
                      try clear c7
                      try clear c10
                      try clear c10b0
                      try clear c11
                      try clear c11b0
                      try clear c16
                      try clear c16b0
                      try clear c19
                      try clear c22
                      try clear c22b0
                      try clear c22b1
                      try clear hcz15_0
                      try clear hcz15_1
                      try clear hcz15_2
                      try clear hcz15_3
                      try clear hcz17_0
                      try clear hcz17_1
                      try clear hcz17_2
                      try clear hcz17_3
                      try clear hcz18_0
                      try clear hcz18_1
                      try clear hcz18_2
                      try clear hcz18_3
                      try clear hcz21_0
                      try clear hcz21_1
                      try clear hcz21_2
                      try clear hcz21_3
                      try clear hfz15_0
                      try clear hfz15_1
                      try clear hfz15_2
                      try clear hfz15_3
                      try clear hfz17_0
                      try clear hfz17_1
                      try clear hfz17_2
                      try clear hfz17_3
                      try clear hfz18_0
                      try clear hfz18_1
                      try clear hfz18_2
                      try clear hfz18_3
                      try clear hfz21_0
                      try clear hfz21_1
                      try clear hfz21_2
                      try clear hfz21_3
                      try clear hx297_0
                      try clear hx297_1
                      try clear hx297_2
                      try clear hx297_3
                      try clear p2
                      try clear p297
                      try clear q2
                      try clear q297
                      obtain ⟨kq, x68_19, rfl, HA, HJ19, HO_4, BK298, HB⟩ := hcut
                      cases kq with
                      | zero => exact absurd HA.out (by simp [thyrsuslaw2_LexPlaces.j2])
                      | succ kj19 =>
                        have H := HA.out
                        clear HA
                        simp only [thyrsuslaw2_LexPlaces.j2] at H
                        by_cases c23 : x68_19 = true
                        · subst c23
                          have H1 : (if 0 ≤ ((rd_T29 t287 x11_1).f2) then (if ((rd_T29 t287 x11_1).f2) < (t286.size : Int) then (if 0 ≤ (wrap64 (((rd_T29 t287 x11_1).f0) - 1)) then (if (wrap64 (((rd_T29 t287 x11_1).f0) - 1)) < 2 then (if (bt t286 ((rd_T29 t287 x11_1).f2)) = (bt (⟨#[40, 41]⟩ : ByteArray) (wrap64 (((rd_T29 t287 x11_1).f0) - 1))) then (if ((rd_T29 t287 x11_1).f3).toList = ([] : List UInt8) then (thyrsuslaw2_LexPlaces.l0 kj19 t286 t287 (wrap64 (((rd_T29 t287 x11_1).f2) + 1)) (wrap64 (x11_1 + 1))) else (none)) else (none)) else (none)) else (none)) else (none)) else (none)) = some r := by rw [if_pos rfl] at H; exact H
                          clear H
                          have H := H1
                          clear H1
                          by_cases c24 : 0 ≤ ((rd_T29 t287 x11_1).f2)
                          · rw [if_pos c24] at H
                            have c24b0 : decide (0 ≤ ((rd_T29 t287 x11_1).f2)) = true := decide_eq_true c24
                            clear c24
                            by_cases c25 : ((rd_T29 t287 x11_1).f2) < (t286.size : Int)
                            · rw [if_pos c25] at H
                              have c25b0 : decide (((rd_T29 t287 x11_1).f2) < (t286.size : Int)) = true := decide_eq_true c25
                              clear c25
                              obtain ⟨ji27, hji27⟩ : ∃ j_ : Int, (wrap64 (((rd_T29 t287 x11_1).f0) - 1)) = j_ := ⟨_, rfl⟩
                              replace H : (if 0 ≤ (ji27) then (if (ji27) < 2 then (if (bt t286 ((rd_T29 t287 x11_1).f2)) = (bt (⟨#[40, 41]⟩ : ByteArray) (ji27)) then (if ((rd_T29 t287 x11_1).f3).toList = ([] : List UInt8) then (thyrsuslaw2_LexPlaces.l0 kj19 t286 t287 (wrap64 (((rd_T29 t287 x11_1).f2) + 1)) (wrap64 (x11_1 + 1))) else (none)) else (none)) else (none)) else (none)) = some r := by first | (rw [hji27] at H; exact H) | (simp only [hji27] at H ⊢; exact H)
                              have hji27w : (IntKind.i64.wrap (((rd_T29 t287 x11_1).f0) - 1)) = ji27 := (i64_w _).trans hji27
                              by_cases c28 : 0 ≤ (ji27)
                              · rw [if_pos c28] at H
                                have c28b0 : decide (0 ≤ (ji27)) = true := decide_eq_true c28
                                clear c28
                                by_cases c29 : (ji27) < 2
                                · rw [if_pos c29] at H
                                  have c29b0 : decide ((ji27) < 2) = true := decide_eq_true c29
                                  clear c29
                                  by_cases c31 : (bt t286 ((rd_T29 t287 x11_1).f2)) = (bt (⟨#[40, 41]⟩ : ByteArray) (ji27))
                                  · rw [if_pos c31] at H
                                    have c31b0 : ((bt t286 ((rd_T29 t287 x11_1).f2)) == (bt (⟨#[40, 41]⟩ : ByteArray) (ji27))) = true := beq_iff_eq.mpr c31
                                    have c31b1 : ((bt t286 ((rd_T29 t287 x11_1).f2)) != (bt (⟨#[40, 41]⟩ : ByteArray) (ji27))) = false := bne_eq_false_iff_eq.mpr c31
                                    clear c31
                                    by_cases c32 : ((rd_T29 t287 x11_1).f3).toList = ([] : List UInt8)
                                    · rw [if_pos c32] at H
                                      have c32b0 : (((rd_T29 t287 x11_1).f3).toList == ([] : List UInt8)) = true := beq_iff_eq.mpr c32
                                      have c32b1 : (((rd_T29 t287 x11_1).f3).toList != ([] : List UInt8)) = false := bne_eq_false_iff_eq.mpr c32
                                      clear c32
                                      have H' := Aside0.mk H
                                      clear H
                                      have hcz33_0 : wc.cell? ⟨gb298, 0, none⟩ = some (.int .i64 ((rd_T29 t287 x11_1).f0)) := (blk_cell BK298.out 0).trans rfl
                                      have hcz33_1 : wc.cell? ⟨gb298, 1, none⟩ = some (.int .i64 ((rd_T29 t287 x11_1).f1)) := (blk_cell BK298.out 1).trans rfl
                                      have hcz33_2 : wc.cell? ⟨gb298, 2, none⟩ = some (.int .i64 ((rd_T29 t287 x11_1).f2)) := (blk_cell BK298.out 2).trans rfl
                                      have hcz33_3 : wc.cell? ⟨gb298, 3, none⟩ = some (.string ((rd_T29 t287 x11_1).f3)) := (blk_cell BK298.out 3).trans rfl
                                      have hfz33_0 := blk_frozen BK298.out 0
                                      have hfz33_1 := blk_frozen BK298.out 1
                                      have hfz33_2 := blk_frozen BK298.out 2
                                      have hfz33_3 := blk_frozen BK298.out 3
                                      have p26 : 0 ≤ (((rd_T29 t287 x11_1).f2) : Int) := of_decide_eq_true (by first | (with_reducible assumption) | assumption)
                                      have q26 : ((rd_T29 t287 x11_1).f2) < (t286.size : Int) := of_decide_eq_true (by first | (with_reducible assumption) | assumption)
                                      have hx26 := bt_at t286 ((rd_T29 t287 x11_1).f2)
                                      replace p26 := eq_true p26
                                      replace q26 := eq_true q26
                                      have p30 : 0 ≤ ((ji27) : Int) := of_decide_eq_true (by first | (with_reducible assumption) | assumption)
                                      have q30 : (ji27) < (2 : Int) := of_decide_eq_true (by first | (with_reducible assumption) | assumption)
                                      have hx30 := bt_at (⟨#[40, 41]⟩ : ByteArray) (ji27)
                                      replace p30 := eq_true p30
                                      replace q30 := eq_true q30
                                      go_wp2
                                      repeat (go_quiet (fail); try go_wp2)
                                      go_roundg kj19
                                      case measure => have := HK1.out; have := HJ11.out; have := HJ19.out; omega
                                      case rel => exact ⟨(wrap64 (((rd_T29 t287 x11_1).f2) + 1)), (wrap64 (x11_1 + 1)), (by first | rfl | (simp; done) | (simp [*]; done)), (by first | rfl | (simp; done) | (simp [*]; done)), H', ⟨by have := HK1.out; have := HJ11.out; have := HJ19.out; omega⟩, ⟨by (with_reducible repeat (first | apply Kd.R_alloc | apply Kd.R_drewN | apply Kd.R_drew)); exact Kd.R_mono HO_4.out (fun _ hk => trivial)⟩, ⟨by repeat (first | (with_reducible first | exact HB.out | apply below_alloc | apply pw_below_drewN | apply below_drew1 | refine below_set ?_ GE298.out) | exact HB.out)⟩⟩
                                    · rw [if_neg c32] at H
                                      exact absurd H (by simp)
                                  · rw [if_neg c31] at H
                                    exact absurd H (by simp)
                                · rw [if_neg c29] at H
                                  exact absurd H (by simp)
                              · rw [if_neg c28] at H
                                exact absurd H (by simp)
                            · rw [if_neg c25] at H
                              exact absurd H (by simp)
                          · rw [if_neg c24] at H
                            exact absurd H (by simp)
                        · replace c23 := Bool.eq_false_iff.mpr c23
                          subst c23
                          have H1 : (if ((rd_T29 t287 x11_1).f0) = 3 then (if (wrap64 (((rd_T29 t287 x11_1).f2) + (((rd_T29 t287 x11_1).f3).size : Int))) > (t286.size : Int) then (none) else (if 0 ≤ ((rd_T29 t287 x11_1).f2) then (if ((rd_T29 t287 x11_1).f2) ≤ (wrap64 (((rd_T29 t287 x11_1).f2) + (((rd_T29 t287 x11_1).f3).size : Int))) then (if (wrap64 (((rd_T29 t287 x11_1).f2) + (((rd_T29 t287 x11_1).f3).size : Int))) ≤ (t286.size : Int) then (if (t286.extract (((rd_T29 t287 x11_1).f2) : Int).toNat ((wrap64 (((rd_T29 t287 x11_1).f2) + (((rd_T29 t287 x11_1).f3).size : Int))) : Int).toNat).toList = ((rd_T29 t287 x11_1).f3).toList then (if ((rd_T29 t287 x11_1).f3).toList = ([] : List UInt8) then (none) else (if ((rd_T29 t287 x11_1).f1) = 0 then (thyrsuslaw2_LexPlaces.l0 kj19 t286 t287 (wrap64 (((rd_T29 t287 x11_1).f2) + (((rd_T29 t287 x11_1).f3).size : Int))) (wrap64 (x11_1 + 1))) else (none))) else (none)) else (none)) else (none)) else (none))) else (if ((rd_T29 t287 x11_1).f0) = 4 then (if ((rd_T29 t287 x11_1).f3).toList = ([] : List UInt8) then (thyrsuslaw2_LexPlaces.l0 kj19 t286 t287 (wrap64 (((rd_T29 t287 x11_1).f2) + 1)) (wrap64 (x11_1 + 1))) else (none)) else (none))) = some r := by rw [if_neg (show ¬ (false = true) by decide)] at H; exact H
                          clear H
                          have H := H1
                          clear H1
                          by_cases c34 : ((rd_T29 t287 x11_1).f0) = 3
                          · rw [if_pos c34] at H
                            have c34b0 : (((rd_T29 t287 x11_1).f0) == 3) = true := beq_iff_eq.mpr c34
                            have c34b1 : (((rd_T29 t287 x11_1).f0) != 3) = false := bne_eq_false_iff_eq.mpr c34
                            clear c34
                            by_cases c35 : (wrap64 (((rd_T29 t287 x11_1).f2) + (((rd_T29 t287 x11_1).f3).size : Int))) > (t286.size : Int)
                            · rw [if_pos c35] at H
                              exact absurd H (by simp)
                            · rw [if_neg c35] at H
                              have c35b0 : decide ((t286.size : Int) < (wrap64 (((rd_T29 t287 x11_1).f2) + (((rd_T29 t287 x11_1).f3).size : Int)))) = false := decide_eq_false c35
                              clear c35
                              by_cases c36 : 0 ≤ ((rd_T29 t287 x11_1).f2)
                              · rw [if_pos c36] at H
                                have c36b0 := eq_true c36
                                have c36b1 : decide (0 ≤ ((rd_T29 t287 x11_1).f2)) = true := decide_eq_true c36
                                clear c36
                                by_cases c37 : ((rd_T29 t287 x11_1).f2) ≤ (wrap64 (((rd_T29 t287 x11_1).f2) + (((rd_T29 t287 x11_1).f3).size : Int)))
                                · rw [if_pos c37] at H
                                  have c37b0 := eq_true c37
                                  have c37b1 : decide (((rd_T29 t287 x11_1).f2) ≤ (wrap64 (((rd_T29 t287 x11_1).f2) + (((rd_T29 t287 x11_1).f3).size : Int)))) = true := decide_eq_true c37
                                  by_cases c38 : (wrap64 (((rd_T29 t287 x11_1).f2) + (((rd_T29 t287 x11_1).f3).size : Int))) ≤ (t286.size : Int)
                                  · rw [if_pos c38] at H
                                    have c38b0 := eq_true c38
                                    have c38b1 : decide ((wrap64 (((rd_T29 t287 x11_1).f2) + (((rd_T29 t287 x11_1).f3).size : Int))) ≤ (t286.size : Int)) = true := decide_eq_true c38
                                    by_cases c39 : (t286.extract (((rd_T29 t287 x11_1).f2) : Int).toNat ((wrap64 (((rd_T29 t287 x11_1).f2) + (((rd_T29 t287 x11_1).f3).size : Int))) : Int).toNat).toList = ((rd_T29 t287 x11_1).f3).toList
                                    · rw [if_pos c39] at H
                                      have c39b0 : ((t286.extract (((rd_T29 t287 x11_1).f2) : Int).toNat ((wrap64 (((rd_T29 t287 x11_1).f2) + (((rd_T29 t287 x11_1).f3).size : Int))) : Int).toNat).toList == ((rd_T29 t287 x11_1).f3).toList) = true := beq_iff_eq.mpr c39
                                      have c39b1 : ((t286.extract (((rd_T29 t287 x11_1).f2) : Int).toNat ((wrap64 (((rd_T29 t287 x11_1).f2) + (((rd_T29 t287 x11_1).f3).size : Int))) : Int).toNat).toList != ((rd_T29 t287 x11_1).f3).toList) = false := bne_eq_false_iff_eq.mpr c39
                                      clear c39
                                      by_cases c40 : ((rd_T29 t287 x11_1).f3).toList = ([] : List UInt8)
                                      · rw [if_pos c40] at H
                                        exact absurd H (by simp)
                                      · rw [if_neg c40] at H
                                        have c40b0 : (((rd_T29 t287 x11_1).f3).toList == ([] : List UInt8)) = false := beq_eq_false_iff_ne.mpr c40
                                        have c40b1 : (((rd_T29 t287 x11_1).f3).toList != ([] : List UInt8)) = true := bne_iff_ne.mpr c40
                                        by_cases c41 : ((rd_T29 t287 x11_1).f1) = 0
                                        · rw [if_pos c41] at H
                                          have c41b0 : (((rd_T29 t287 x11_1).f1) == 0) = true := beq_iff_eq.mpr c41
                                          have c41b1 : (((rd_T29 t287 x11_1).f1) != 0) = false := bne_eq_false_iff_eq.mpr c41
                                          clear c41
                                          have H' := Aside0.mk H
                                          clear H
                                          have hcz42_0 : wc.cell? ⟨gb298, 0, none⟩ = some (.int .i64 ((rd_T29 t287 x11_1).f0)) := (blk_cell BK298.out 0).trans rfl
                                          have hcz42_1 : wc.cell? ⟨gb298, 1, none⟩ = some (.int .i64 ((rd_T29 t287 x11_1).f1)) := (blk_cell BK298.out 1).trans rfl
                                          have hcz42_2 : wc.cell? ⟨gb298, 2, none⟩ = some (.int .i64 ((rd_T29 t287 x11_1).f2)) := (blk_cell BK298.out 2).trans rfl
                                          have hcz42_3 : wc.cell? ⟨gb298, 3, none⟩ = some (.string ((rd_T29 t287 x11_1).f3)) := (blk_cell BK298.out 3).trans rfl
                                          have hfz42_0 := blk_frozen BK298.out 0
                                          have hfz42_1 := blk_frozen BK298.out 1
                                          have hfz42_2 := blk_frozen BK298.out 2
                                          have hfz42_3 := blk_frozen BK298.out 3
                                          go_wp2
                                          repeat (go_quiet (fail); try go_wp2)
                                          go_roundg kj19
                                          case measure => have := HK1.out; have := HJ11.out; have := HJ19.out; omega
                                          case rel => exact ⟨(wrap64 (((rd_T29 t287 x11_1).f2) + (((rd_T29 t287 x11_1).f3).size : Int))), (wrap64 (x11_1 + 1)), (by first | rfl | (simp; done) | (simp [*]; done)), (by first | rfl | (simp; done) | (simp [*]; done)), H', ⟨by have := HK1.out; have := HJ11.out; have := HJ19.out; omega⟩, ⟨by (with_reducible repeat (first | apply Kd.R_alloc | apply Kd.R_drewN | apply Kd.R_drew)); exact Kd.R_mono HO_4.out (fun _ hk => trivial)⟩, ⟨by repeat (first | (with_reducible first | exact HB.out | apply below_alloc | apply pw_below_drewN | apply below_drew1 | refine below_set ?_ GE298.out) | exact HB.out)⟩⟩
                                        · rw [if_neg c41] at H
                                          exact absurd H (by simp)
                                    · rw [if_neg c39] at H
                                      exact absurd H (by simp)
                                  · rw [if_neg c38] at H
                                    exact absurd H (by simp)
                                · rw [if_neg c37] at H
                                  exact absurd H (by simp)
                              · rw [if_neg c36] at H
                                exact absurd H (by simp)
                          · rw [if_neg c34] at H
                            have c34b0 : (((rd_T29 t287 x11_1).f0) == 3) = false := beq_eq_false_iff_ne.mpr c34
                            have c34b1 : (((rd_T29 t287 x11_1).f0) != 3) = true := bne_iff_ne.mpr c34
                            by_cases c43 : ((rd_T29 t287 x11_1).f0) = 4
                            · rw [if_pos c43] at H
                              have c43b0 : (((rd_T29 t287 x11_1).f0) == 4) = true := beq_iff_eq.mpr c43
                              have c43b1 : (((rd_T29 t287 x11_1).f0) != 4) = false := bne_eq_false_iff_eq.mpr c43
                              clear c43
                              by_cases c44 : ((rd_T29 t287 x11_1).f3).toList = ([] : List UInt8)
                              · rw [if_pos c44] at H
                                have c44b0 : (((rd_T29 t287 x11_1).f3).toList == ([] : List UInt8)) = true := beq_iff_eq.mpr c44
                                have c44b1 : (((rd_T29 t287 x11_1).f3).toList != ([] : List UInt8)) = false := bne_eq_false_iff_eq.mpr c44
                                clear c44
                                have H' := Aside0.mk H
                                clear H
                                have hcz45_0 : wc.cell? ⟨gb298, 0, none⟩ = some (.int .i64 ((rd_T29 t287 x11_1).f0)) := (blk_cell BK298.out 0).trans rfl
                                have hcz45_1 : wc.cell? ⟨gb298, 1, none⟩ = some (.int .i64 ((rd_T29 t287 x11_1).f1)) := (blk_cell BK298.out 1).trans rfl
                                have hcz45_2 : wc.cell? ⟨gb298, 2, none⟩ = some (.int .i64 ((rd_T29 t287 x11_1).f2)) := (blk_cell BK298.out 2).trans rfl
                                have hcz45_3 : wc.cell? ⟨gb298, 3, none⟩ = some (.string ((rd_T29 t287 x11_1).f3)) := (blk_cell BK298.out 3).trans rfl
                                have hfz45_0 := blk_frozen BK298.out 0
                                have hfz45_1 := blk_frozen BK298.out 1
                                have hfz45_2 := blk_frozen BK298.out 2
                                have hfz45_3 := blk_frozen BK298.out 3
                                go_wp2
                                repeat (go_quiet (fail); try go_wp2)
                                go_roundg kj19
                                case measure => have := HK1.out; have := HJ11.out; have := HJ19.out; omega
                                case rel => exact ⟨(wrap64 (((rd_T29 t287 x11_1).f2) + 1)), (wrap64 (x11_1 + 1)), (by first | rfl | (simp; done) | (simp [*]; done)), (by first | rfl | (simp; done) | (simp [*]; done)), H', ⟨by have := HK1.out; have := HJ11.out; have := HJ19.out; omega⟩, ⟨by (with_reducible repeat (first | apply Kd.R_alloc | apply Kd.R_drewN | apply Kd.R_drew)); exact Kd.R_mono HO_4.out (fun _ hk => trivial)⟩, ⟨by repeat (first | (with_reducible first | exact HB.out | apply below_alloc | apply pw_below_drewN | apply below_drew1 | refine below_set ?_ GE298.out) | exact HB.out)⟩⟩
                              · rw [if_neg c44] at H
                                exact absurd H (by simp)
                            · rw [if_neg c43] at H
                              exact absurd H (by simp)
            · rw [if_neg c11] at H
              exact absurd H (by simp)
          · rw [if_neg c10] at H
            have c10b0 : decide (x11_1 < (t287.length : Int)) = false := decide_eq_false c10
            clear c10
            obtain rfl := Option.some.inj H
            obtain ⟨Ao46, co46, eo46⟩ := Kd.R_slice HO_4.out
            subst eo46
            go_wp2
            repeat (go_quiet (fail); try go_wp2)
            go_ret
            exact ⟨by first | rfl | (simp [errW_none, errW_some] <;> rfl) | (simp [*, errW_none, errW_some] <;> rfl), by repeat (first | (with_reducible first | exact HB.out | apply below_alloc | apply pw_below_drewN | apply below_drew1) | exact HB.out)⟩
    · rw [if_neg c6] at H
      have c6b0 : (t289 == 0) = false := beq_eq_false_iff_ne.mpr c6
      have c6b1 : (t289 != 0) = true := bne_iff_ne.mpr c6
      replace H := Option.bind_eq_some_iff.mp H
      obtain ⟨⟨t292, t293, t294⟩, A470, H⟩ := H
      replace H : (some (t289 == t294)) = some r := H
      have A47 := Aside0.mk A470
      clear A470
      obtain rfl := Option.some.inj H
      go_enter Try.func7, Try.ntmps7
      go_wp2_with (first | (go_at_call 9; (with_reducible refine (thyrsuslaw2_known.calls  true _ A2.out).mono ?_); rintro e w48 ⟨rfl, hb⟩; have n0_ := Aside0.mk (below_step (by repeat (first | (with_reducible first | exact HB.out | apply below_alloc | apply pw_below_drewN | apply below_drew1) | exact HB.out)) hb); clear HB; have HB := n0_; clear n0_; (try clear hb); (try clear hb2); (try clear hk); (try clear hi)) | (go_at_call 10; (with_reducible refine (thyrsuslaw2_Text.calls k _ _ l0 t286 _ ?side1 ?side2 A4.out).mono ?_); (case side1 => repeat (first | exact (Kd.C_below HR0.out HB.out) | (with_reducible refine Kd.C_alloc ?_ _) | (with_reducible refine Kd.C_drewN ?_ _) | (with_reducible refine Kd.C_drew ?_))); (case side2 => exact HC0.out); rintro e w49 ⟨rfl, hb⟩; have n0_ := Aside0.mk (below_step (by repeat (first | (with_reducible first | exact HB.out | apply below_alloc | apply pw_below_drewN | apply below_drew1) | exact HB.out)) hb); clear HB; have HB := n0_; clear n0_; (try clear hb); (try clear hb2); (try clear hk); (try clear hi)) | (go_at_call 13; (with_reducible refine (lex_Tokens.calls t286 t287 t288 t289 _ A5.out).mono ?_); rintro e w50 ⟨v290, rfl, ho0, hb⟩; have n0_ := Aside0.mk (Kd.R_lower ho0 (below_size (by repeat (first | (with_reducible first | exact HB.out | apply below_alloc | apply pw_below_drewN | apply below_drew1) | exact HB.out)))); have n1_ := Aside0.mk (below_step (by repeat (first | (with_reducible first | exact HB.out | apply below_alloc | apply pw_below_drewN | apply below_drew1) | exact HB.out)) hb); clear HB; have HO291 := n0_; have HB := n1_; clear n0_ n1_; (try clear hb); (try clear hb2); (try clear hk); (try clear hi); (try clear ho0)) | (go_at_call 11; (with_reducible refine (thyrsusref2_Tokens.calls k t286 t292 t293 t294 _ A47.out).mono ?_); rintro e w51 ⟨v295, rfl, ho0, hb⟩; have n0_ := Aside0.mk (Kd.R_elder' (by (with_reducible repeat (first | apply Kd.R_alloc | apply Kd.R_drewN | apply Kd.R_drew)); exact HO291.out) (Kd.R_base ho0) hb); have n1_ := Aside0.mk (Kd.R_lower (Kd.R_new' ho0 (Kd.R_lt (by (with_reducible repeat (first | apply Kd.R_alloc | apply Kd.R_drewN | apply Kd.R_drew)); exact HO291.out))) (below_size (by repeat (first | (with_reducible first | exact HB.out | apply below_alloc | apply pw_below_drewN | apply below_drew1) | exact HB.out)))); have n2_ := Aside0.mk (below_step (by repeat (first | (with_reducible first | exact HB.out | apply below_alloc | apply pw_below_drewN | apply below_drew1) | exact HB.out)) hb); clear HO291; clear HB; have HO291 := n0_; have HO296 := n1_; have HB := n2_; clear n0_ n1_ n2_; (try clear hb); (try clear hb2); (try clear hk); (try clear hi); (try clear ho0)))
      repeat (go_quiet (first | (go_at_call 9; (with_reducible refine (thyrsuslaw2_known.calls  true _ A2.out).mono ?_); rintro e w48 ⟨rfl, hb⟩; have n0_ := Aside0.mk (below_step (by repeat (first | (with_reducible first | exact HB.out | apply below_alloc | apply pw_below_drewN | apply below_drew1) | exact HB.out)) hb); clear HB; have HB := n0_; clear n0_; (try clear hb); (try clear hb2); (try clear hk); (try clear hi)) | (go_at_call 10; (with_reducible refine (thyrsuslaw2_Text.calls k _ _ l0 t286 _ ?side1 ?side2 A4.out).mono ?_); (case side1 => repeat (first | exact (Kd.C_below HR0.out HB.out) | (with_reducible refine Kd.C_alloc ?_ _) | (with_reducible refine Kd.C_drewN ?_ _) | (with_reducible refine Kd.C_drew ?_))); (case side2 => exact HC0.out); rintro e w49 ⟨rfl, hb⟩; have n0_ := Aside0.mk (below_step (by repeat (first | (with_reducible first | exact HB.out | apply below_alloc | apply pw_below_drewN | apply below_drew1) | exact HB.out)) hb); clear HB; have HB := n0_; clear n0_; (try clear hb); (try clear hb2); (try clear hk); (try clear hi)) | (go_at_call 13; (with_reducible refine (lex_Tokens.calls t286 t287 t288 t289 _ A5.out).mono ?_); rintro e w50 ⟨v290, rfl, ho0, hb⟩; have n0_ := Aside0.mk (Kd.R_lower ho0 (below_size (by repeat (first | (with_reducible first | exact HB.out | apply below_alloc | apply pw_below_drewN | apply below_drew1) | exact HB.out)))); have n1_ := Aside0.mk (below_step (by repeat (first | (with_reducible first | exact HB.out | apply below_alloc | apply pw_below_drewN | apply below_drew1) | exact HB.out)) hb); clear HB; have HO291 := n0_; have HB := n1_; clear n0_ n1_; (try clear hb); (try clear hb2); (try clear hk); (try clear hi); (try clear ho0)) | (go_at_call 11; (with_reducible refine (thyrsusref2_Tokens.calls k t286 t292 t293 t294 _ A47.out).mono ?_); rintro e w51 ⟨v295, rfl, ho0, hb⟩; have n0_ := Aside0.mk (Kd.R_elder' (by (with_reducible repeat (first | apply Kd.R_alloc | apply Kd.R_drewN | apply Kd.R_drew)); exact HO291.out) (Kd.R_base ho0) hb); have n1_ := Aside0.mk (Kd.R_lower (Kd.R_new' ho0 (Kd.R_lt (by (with_reducible repeat (first | apply Kd.R_alloc | apply Kd.R_drewN | apply Kd.R_drew)); exact HO291.out))) (below_size (by repeat (first | (with_reducible first | exact HB.out | apply below_alloc | apply pw_below_drewN | apply below_drew1) | exact HB.out)))); have n2_ := Aside0.mk (below_step (by repeat (first | (with_reducible first | exact HB.out | apply below_alloc | apply pw_below_drewN | apply below_drew1) | exact HB.out)) hb); clear HO291; clear HB; have HO291 := n0_; have HO296 := n1_; have HB := n2_; clear n0_ n1_ n2_; (try clear hb); (try clear hb2); (try clear hk); (try clear hi); (try clear ho0))); try go_wp2_with (first | (go_at_call 9; (with_reducible refine (thyrsuslaw2_known.calls  true _ A2.out).mono ?_); rintro e w48 ⟨rfl, hb⟩; have n0_ := Aside0.mk (below_step (by repeat (first | (with_reducible first | exact HB.out | apply below_alloc | apply pw_below_drewN | apply below_drew1) | exact HB.out)) hb); clear HB; have HB := n0_; clear n0_; (try clear hb); (try clear hb2); (try clear hk); (try clear hi)) | (go_at_call 10; (with_reducible refine (thyrsuslaw2_Text.calls k _ _ l0 t286 _ ?side1 ?side2 A4.out).mono ?_); (case side1 => repeat (first | exact (Kd.C_below HR0.out HB.out) | (with_reducible refine Kd.C_alloc ?_ _) | (with_reducible refine Kd.C_drewN ?_ _) | (with_reducible refine Kd.C_drew ?_))); (case side2 => exact HC0.out); rintro e w49 ⟨rfl, hb⟩; have n0_ := Aside0.mk (below_step (by repeat (first | (with_reducible first | exact HB.out | apply below_alloc | apply pw_below_drewN | apply below_drew1) | exact HB.out)) hb); clear HB; have HB := n0_; clear n0_; (try clear hb); (try clear hb2); (try clear hk); (try clear hi)) | (go_at_call 13; (with_reducible refine (lex_Tokens.calls t286 t287 t288 t289 _ A5.out).mono ?_); rintro e w50 ⟨v290, rfl, ho0, hb⟩; have n0_ := Aside0.mk (Kd.R_lower ho0 (below_size (by repeat (first | (with_reducible first | exact HB.out | apply below_alloc | apply pw_below_drewN | apply below_drew1) | exact HB.out)))); have n1_ := Aside0.mk (below_step (by repeat (first | (with_reducible first | exact HB.out | apply below_alloc | apply pw_below_drewN | apply below_drew1) | exact HB.out)) hb); clear HB; have HO291 := n0_; have HB := n1_; clear n0_ n1_; (try clear hb); (try clear hb2); (try clear hk); (try clear hi); (try clear ho0)) | (go_at_call 11; (with_reducible refine (thyrsusref2_Tokens.calls k t286 t292 t293 t294 _ A47.out).mono ?_); rintro e w51 ⟨v295, rfl, ho0, hb⟩; have n0_ := Aside0.mk (Kd.R_elder' (by (with_reducible repeat (first | apply Kd.R_alloc | apply Kd.R_drewN | apply Kd.R_drew)); exact HO291.out) (Kd.R_base ho0) hb); have n1_ := Aside0.mk (Kd.R_lower (Kd.R_new' ho0 (Kd.R_lt (by (with_reducible repeat (first | apply Kd.R_alloc | apply Kd.R_drewN | apply Kd.R_drew)); exact HO291.out))) (below_size (by repeat (first | (with_reducible first | exact HB.out | apply below_alloc | apply pw_below_drewN | apply below_drew1) | exact HB.out)))); have n2_ := Aside0.mk (below_step (by repeat (first | (with_reducible first | exact HB.out | apply below_alloc | apply pw_below_drewN | apply below_drew1) | exact HB.out)) hb); clear HO291; clear HB; have HO291 := n0_; have HO296 := n1_; have HB := n2_; clear n0_ n1_ n2_; (try clear hb); (try clear hb2); (try clear hk); (try clear hi); (try clear ho0))))
      go_ret
      exact ⟨by first | rfl | (simp [errW_none, errW_some] <;> rfl) | (simp [*, errW_none, errW_some] <;> rfl), by repeat (first | (with_reducible first | exact HB.out | apply below_alloc | apply pw_below_drewN | apply below_drew1) | exact HB.out)⟩
  · replace c3 := Bool.eq_false_iff.mpr c3
    subst c3
    have H1 : (none) = some r := by rw [if_neg (show ¬ (false = true) by decide)] at H; exact H
    clear H
    have H := H1
    clear H1
    exact absurd H (by simp)

/-- THE ONE PURE STATEMENT of thyrsuslaw2_LexPlaces: yours. -/
def thyrsuslaw2_LexPlaces.Pure : Prop := ∀ (l0 : List Int), l0.length ≤ maxLen → l0.length * 8 ≤ 140737488351232 → (∀ x ∈ l0, (Lit.int .i64 x).wf = true) → ∃ k, thyrsuslaw2_LexPlaces.f k l0 = some true
theorem thyrsuslaw2_LexPlaces.walk (P : thyrsuslaw2_LexPlaces.Pure) (a0 : Option Addr) (len0 cap0 : Nat) (z0 : List Int) (w : World) (w0 : (a0 = none ∧ len0 = 0 ∧ cap0 = 0 ∧ z0 = []) ∨ ∃ x, a0 = some x ∧ len0 ≤ cap0 ∧ cap0 ≤ maxLen ∧ z0.length = cap0 ∧ (∀ i, i < z0.length → w.cell? (x.add i) = some (.int .i64 (z0.getD i 0))) ∧ ∀ n ∈ z0, (Lit.int .i64 n).wf = true) (y0 : len0 * 8 ≤ 140737488351232) :
    Calls Try.prog 7 #[.slice a0 len0 cap0] w fun e w' => e = .returned (.bool true) ∧ Below w.heap.size w w' := by
  obtain ⟨l0, rfl, hr0, hm0, hw0, hc0⟩ := ReadsInt.ofRowC w0
  obtain ⟨k, h⟩ := P l0 hm0 y0 hw0
  refine (thyrsuslaw2_LexPlaces.calls k _ _ l0 true w (Kd.C_of_reads (d := (0 : Int)) (h1 := fun _ => rfl) hr0) hc0 h).mono ?_
  rintro e w' ⟨rfl, hd⟩
  exact ⟨rfl, hd⟩

/-! ### thyrsuslaw2_LexLong: function 8 -/
def thyrsuslaw2_LexLong.l0 : Nat → Int → Int → ByteArray → Option (Bool)
  | 0, _, _, _ => none
  | k + 1, x0, x1, x5 => if (x5.size : Int) < x0 then ((some (([(⟨#[32]⟩ : ByteArray), (⟨#[40]⟩ : ByteArray), (⟨#[97]⟩ : ByteArray), (⟨#[49, 32]⟩ : ByteArray), (⟨#[33]⟩ : ByteArray)] : List ByteArray) : List ByteArray)).bind fun y301 => ((thyrsuslaw2_within.f x1 5).bind fun t304 => (if 0 ≤ t304 then (if t304 < (y301.length : Int) then (if x5.size + (rdOf ByteArray.empty y301 t304).size ≤ 9223372036854775807 then (thyrsuslaw2_LexLong.l0 k x0 x1 (x5 ++ (rdOf ByteArray.empty y301 t304))) else (none)) else (none)) else (none)))) else (if 0 ≤ x0 then (if x0 ≤ (x5.size : Int) then ((lex_Tokens.f (x5.extract 0 (x0 : Int).toNat)).bind fun bt306 => (if x0 > 4000 then (if bt306.2.2 = 4 then (if bt306.2.1 = 0 then (some ((bt306.1.length : Int) == 0)) else (none)) else (none)) else ((thyrsusref2_Tokens.f k (x5.extract 0 (x0 : Int).toNat)).bind fun bt311 => ((thyrsuslaw2_same.f k bt306.1 bt311.1).bind fun t316 => (if t316 = true then (if bt306.2.1 = bt311.2.1 then (some (bt306.2.2 == bt311.2.2)) else (none)) else (none)))))) else (none)) else (none))
def thyrsuslaw2_LexLong.f (k : Nat) (a0 : Int) (a1 : Int) : Option (Bool) := (thyrsuslaw2_known.f).bind fun t299 => (if t299 = true then ((thyrsuslaw2_within.f a0 11).bind fun t300 => (thyrsuslaw2_LexLong.l0 k (wrap64 (3995 + t300)) a1 (⟨#[]⟩ : ByteArray))) else (none))
theorem thyrsuslaw2_LexLong.mono_l : ∀ k, (∀ y0 y1 y2, LeO (thyrsuslaw2_LexLong.l0 k y0 y1 y2) (thyrsuslaw2_LexLong.l0 (k + 1) y0 y1 y2))
  | 0 => fun _ _ _ r h => by simp [thyrsuslaw2_LexLong.l0] at h
  | k + 1 => by
    have ih0 := thyrsuslaw2_LexLong.mono_l k
    · intro y0 y1 y2
      unfold thyrsuslaw2_LexLong.l0
      repeat' first
      | (with_reducible exact ih0 _ _ _)
      | (with_reducible exact thyrsuslaw2_same.mono _ _ _)
      | (with_reducible exact thyrsusref2_Tokens.mono _ _)
      | (with_reducible exact LeO.refl _)
      | (with_reducible exact LeO.none _)
      | (with_reducible refine LeO.ite ?_ ?_)
      | (with_reducible refine LeO.bind ?_ (fun _ => ?_))
      | exact ih0 _ _ _
      | exact thyrsuslaw2_same.mono _ _ _
      | exact thyrsusref2_Tokens.mono _ _
      | exact LeO.none _
      | refine LeO.ite ?_ ?_
      | refine LeO.bind ?_ (fun _ => ?_)
theorem thyrsuslaw2_LexLong.mono : ∀ a0 a1 k, LeO (thyrsuslaw2_LexLong.f k a0 a1) (thyrsuslaw2_LexLong.f (k + 1) a0 a1) := by
  intro a0 a1 k
  have ih0 := thyrsuslaw2_LexLong.mono_l k
  unfold thyrsuslaw2_LexLong.f
  repeat' first
      | (with_reducible exact ih0 _ _ _)
      | (with_reducible exact thyrsuslaw2_same.mono _ _ _)
      | (with_reducible exact thyrsusref2_Tokens.mono _ _)
      | (with_reducible exact LeO.refl _)
      | (with_reducible exact LeO.none _)
      | (with_reducible refine LeO.ite ?_ ?_)
      | (with_reducible refine LeO.bind ?_ (fun _ => ?_))
      | exact ih0 _ _ _
      | exact thyrsuslaw2_same.mono _ _ _
      | exact thyrsusref2_Tokens.mono _ _
      | exact LeO.none _
      | refine LeO.ite ?_ ?_
      | refine LeO.bind ?_ (fun _ => ?_)
set_option maxHeartbeats 8000000 in
set_option maxRecDepth 100000 in
theorem thyrsuslaw2_LexLong.calls (k : Nat) (a0 : Int) (a1 : Int) (r : Bool) (w : World) (h : thyrsuslaw2_LexLong.f k a0 a1 = some r) :
    Calls Try.prog 8 #[.int .i64 a0, .int .i64 a1] w fun e w' => e = .returned (.bool r) ∧ Below w.heap.size w w' := by
  have HB := Aside0.mk (Below.refl w.heap.size w)
  have H : ((thyrsuslaw2_known.f).bind fun t299 => (if t299 = true then ((thyrsuslaw2_within.f a0 11).bind fun t300 => (thyrsuslaw2_LexLong.l0 k (wrap64 (3995 + t300)) a1 (⟨#[]⟩ : ByteArray))) else (none))) = some r := h
  clear h
  replace H := Option.bind_eq_some_iff.mp H
  obtain ⟨t299, A30, H⟩ := H
  replace H : (if t299 = true then ((thyrsuslaw2_within.f a0 11).bind fun t300 => (thyrsuslaw2_LexLong.l0 k (wrap64 (3995 + t300)) a1 (⟨#[]⟩ : ByteArray))) else (none)) = some r := H
  have A3 := Aside0.mk A30
  clear A30
  by_cases c4 : t299 = true
  · subst c4
    have H1 : ((thyrsuslaw2_within.f a0 11).bind fun t300 => (thyrsuslaw2_LexLong.l0 k (wrap64 (3995 + t300)) a1 (⟨#[]⟩ : ByteArray))) = some r := by rw [if_pos rfl] at H; exact H
    clear H
    have H := H1
    clear H1
    replace H := Option.bind_eq_some_iff.mp H
    obtain ⟨t300, A50, H⟩ := H
    replace H : (thyrsuslaw2_LexLong.l0 k (wrap64 (3995 + t300)) a1 (⟨#[]⟩ : ByteArray)) = some r := H
    have A5 := Aside0.mk A50
    clear A50
    have H' := Aside0.mk H
    clear H
    go_enter Try.func8, Try.ntmps8
    go_wp2_with (first | ((with_reducible refine gate_callee (f := 9) rfl ?_); refine goesL_ (some 12) rfl rfl Try.func9 (by kernel_rfl) rfl #[] rfl (by (try simp only [List.map_toArray, List.map_cons, List.map_nil]); first | done | rfl | (simp only [List.length_drop, List.length_take]; rfl)) ?_; (with_reducible refine (thyrsuslaw2_known.calls  true _ A3.out).mono ?_); rintro e w6 ⟨rfl, hb⟩; refine ⟨_, rfl, ?_⟩; have n0_ := Aside0.mk (below_step (by repeat (first | (with_reducible first | exact HB.out | apply below_alloc | apply pw_below_drewN | apply below_drew1) | exact HB.out)) hb); clear HB; have HB := n0_; clear n0_; (try clear hb); (try clear hb2); (try clear hk); (try clear hi)) | ((with_reducible refine gate_callee (f := 12) rfl ?_); refine goesL_ (some 15) rfl rfl Try.func12 (by kernel_rfl) rfl #[.int .i64 a0, .int .i64 11] rfl (by (try simp only [List.map_toArray, List.map_cons, List.map_nil]); first | done | rfl | (simp only [List.length_drop, List.length_take]; rfl)) ?_; (with_reducible refine (thyrsuslaw2_within.calls a0 11 t300 _ A5.out).mono ?_); rintro e w' ⟨rfl, ⟨nd, rfl⟩⟩; refine ⟨_, rfl, ?_⟩))
    go_loopg [5] k (fun kq v5 w' => ∃ (x5_1 : ByteArray), v5 = .string x5_1 ∧ Aside0 (thyrsuslaw2_LexLong.l0 kq (wrap64 (3995 + t300)) a1 x5_1 = some r) ∧ Aside0 (kq ≤ k) ∧ Aside0 (Below w.heap.size w w'))
    case atStart => exact ⟨((⟨#[]⟩ : ByteArray)), (by first | rfl | (simp; done) | (simp [*]; done)), H', ⟨Nat.le_refl _⟩, ⟨by repeat (first | (with_reducible first | exact HB.out | apply below_alloc | apply pw_below_drewN | apply below_drew1) | exact HB.out)⟩⟩
    case round =>
      clear H'
      try clear c1
      try clear p2
      try clear c4
      try clear p6
      try clear HB
      obtain ⟨x5_1, rfl, HA, HK1, HB⟩ := hrel
      cases gk with
      | zero => exact absurd HA.out (by simp [thyrsuslaw2_LexLong.l0])
      | succ k1 =>
        have H := HA.out
        clear HA
        simp only [thyrsuslaw2_LexLong.l0] at H
        by_cases c7 : (x5_1.size : Int) < (wrap64 (3995 + t300))
        · rw [if_pos c7] at H
          have c7b0 : decide ((x5_1.size : Int) < (wrap64 (3995 + t300))) = true := decide_eq_true c7
          clear c7
          obtain ⟨y301, hy301⟩ : ∃ y_ : List ByteArray, y_ = (([(⟨#[32]⟩ : ByteArray), (⟨#[40]⟩ : ByteArray), (⟨#[97]⟩ : ByteArray), (⟨#[49, 32]⟩ : ByteArray), (⟨#[33]⟩ : ByteArray)] : List ByteArray)) := ⟨_, rfl⟩
          replace H : ((thyrsuslaw2_within.f a1 5).bind fun t304 => (if 0 ≤ t304 then (if t304 < (y301.length : Int) then (if x5_1.size + (rdOf ByteArray.empty y301 t304).size ≤ 9223372036854775807 then (thyrsuslaw2_LexLong.l0 k1 (wrap64 (3995 + t300)) a1 (x5_1 ++ (rdOf ByteArray.empty y301 t304))) else (none)) else (none)) else (none))) = some r := by first | (rw [hy301]; with_reducible exact H) | (have H2_ := (Option.bind_some _ _).symm.trans H; rw [hy301]; with_reducible exact H2_) | (have H2_ := (Option.bind_some _ _).symm.trans H; with_reducible exact H2_) | with_reducible exact H | (rw [hy301]; exact H) | exact H
          have Ny301 := Aside0.mk hy301
          clear hy301
          replace H := Option.bind_eq_some_iff.mp H
          obtain ⟨t304, A80, H⟩ := H
          replace H : (if 0 ≤ t304 then (if t304 < (y301.length : Int) then (if x5_1.size + (rdOf ByteArray.empty y301 t304).size ≤ 9223372036854775807 then (thyrsuslaw2_LexLong.l0 k1 (wrap64 (3995 + t300)) a1 (x5_1 ++ (rdOf ByteArray.empty y301 t304))) else (none)) else (none)) else (none)) = some r := H
          have A8 := Aside0.mk A80
          clear A80
          by_cases c9 : 0 ≤ t304
          · rw [if_pos c9] at H
            have c9b0 : decide (0 ≤ t304) = true := decide_eq_true c9
            clear c9
            by_cases c10 : t304 < (y301.length : Int)
            · rw [if_pos c10] at H
              have c10b0 : decide (t304 < (y301.length : Int)) = true := decide_eq_true c10
              clear c10
              by_cases c11 : x5_1.size + (rdOf ByteArray.empty y301 t304).size ≤ 9223372036854775807
              · rw [if_pos c11] at H
                have c11b0 := eq_true c11
                have c11b1 : decide (x5_1.size + (rdOf ByteArray.empty y301 t304).size ≤ 9223372036854775807) = true := decide_eq_true c11
                try have c11b2 : (9223372036854775807 < x5_1.size + (rdOf ByteArray.empty y301 t304).size) = False := eq_false (Nat.not_lt.2 c11)
                have H' := Aside0.mk H
                clear H
                go_wp2_with (first | ((with_reducible refine gate_dst (N := 22) rfl ?_); (try (refine gate_guard (by rfl) ?_; dsimp only)); refine Kd.R_lit Kd.string _ 9 ?hg (N := 22) ?hd (xs := ([(⟨#[32]⟩ : ByteArray), (⟨#[40]⟩ : ByteArray), (⟨#[97]⟩ : ByteArray), (⟨#[49, 32]⟩ : ByteArray), (⟨#[33]⟩ : ByteArray)] : List ByteArray)) (inner := [.string (⟨#[32]⟩ : ByteArray), .string (⟨#[40]⟩ : ByteArray), .string (⟨#[97]⟩ : ByteArray), .string (⟨#[49, 32]⟩ : ByteArray), .string (⟨#[33]⟩ : ByteArray)]) (ok := fun _ => True) (okp := fun _ => True) ?hr ?hp (fun _ hk => hk) trivial (Below.refl _ _) (Nat.le_refl _) (by simp) ?_; (case hd => rfl); (case hg => rfl); (case hr => first | (go_simp; done) | (go_simp; rfl)); (case hp => exact (Reps.one (show Kd.M Kd.string _ _ _ (⟨#[32]⟩ : ByteArray) [.string (⟨#[32]⟩ : ByteArray)] from rfl) (Reps.one (show Kd.M Kd.string _ _ _ (⟨#[40]⟩ : ByteArray) [.string (⟨#[40]⟩ : ByteArray)] from rfl) (Reps.one (show Kd.M Kd.string _ _ _ (⟨#[97]⟩ : ByteArray) [.string (⟨#[97]⟩ : ByteArray)] from rfl) (Reps.one (show Kd.M Kd.string _ _ _ (⟨#[49, 32]⟩ : ByteArray) [.string (⟨#[49, 32]⟩ : ByteArray)] from rfl) (Reps.one (show Kd.M Kd.string _ _ _ (⟨#[33]⟩ : ByteArray) [.string (⟨#[33]⟩ : ByteArray)] from rfl) (Reps.none _ _))))))); intro v302 w12 ho13 hb hg_ hnew_; clear hg_ hnew_; (first | rw [← Ny301.out] at ho13 | (simp only [Int.reduceToNat] at ho13; rw [← Ny301.out] at ho13)); have n0_ := Aside0.mk (Kd.R_lower ho13 (below_size (by repeat (first | (with_reducible first | exact HB.out | apply below_alloc | apply pw_below_drewN | apply below_drew1) | exact HB.out)))); have n1_ := Aside0.mk (below_step (by repeat (first | (with_reducible first | exact HB.out | apply below_alloc | apply pw_below_drewN | apply below_drew1) | exact HB.out)) hb); clear HB; have HO303 := n0_; have HB := n1_; clear n0_ n1_; clear hb ho13) | ((with_reducible refine gate_callee (f := 12) rfl ?_); refine goesL_ (some 24) rfl rfl Try.func12 (by kernel_rfl) rfl #[.int .i64 a1, .int .i64 5] rfl (by (try simp only [List.map_toArray, List.map_cons, List.map_nil]); first | done | rfl | (simp only [List.length_drop, List.length_take]; rfl)) ?_; (with_reducible refine (thyrsuslaw2_within.calls a1 5 t304 _ A8.out).mono ?_); rintro e w' ⟨rfl, ⟨nd, rfl⟩⟩; refine ⟨_, rfl, ?_⟩; obtain ⟨Ao14, co14, eo14⟩ := Kd.R_slice HO303.out; subst eo14; have p305 : 0 ≤ (t304 : Int) := of_decide_eq_true (by first | (with_reducible assumption) | assumption); have q305 : t304 < (y301.length : Int) := of_decide_eq_true (by first | (with_reducible assumption) | assumption); obtain ⟨ad305, e305, hx305_0⟩ := Kd.at_string (Kd.R_reads' HO303.out).2.2 t304 p305 q305; cases e305; replace p305 := eq_true p305; replace q305 := eq_true q305))
                go_roundg k1
                case measure => have := HK1.out; omega
                case rel => exact ⟨(x5_1 ++ (rdOf ByteArray.empty y301 t304)), (by first | rfl | (simp; done) | (simp [*]; done)), H', ⟨by have := HK1.out; omega⟩, ⟨by repeat (first | (with_reducible first | exact HB.out | apply below_alloc | apply pw_below_drewN | apply below_drew1) | exact HB.out)⟩⟩
              · rw [if_neg c11] at H
                exact absurd H (by simp)
            · rw [if_neg c10] at H
              exact absurd H (by simp)
          · rw [if_neg c9] at H
            exact absurd H (by simp)
        · rw [if_neg c7] at H
          have c7b0 : decide ((x5_1.size : Int) < (wrap64 (3995 + t300))) = false := decide_eq_false c7
          clear c7
          obtain ⟨ji15, hji15⟩ : ∃ j_ : Int, (wrap64 (3995 + t300)) = j_ := ⟨_, rfl⟩
          replace H : (if 0 ≤ (ji15) then (if (ji15) ≤ (x5_1.size : Int) then ((lex_Tokens.f (x5_1.extract 0 ((ji15) : Int).toNat)).bind fun bt306 => (if (ji15) > 4000 then (if bt306.2.2 = 4 then (if bt306.2.1 = 0 then (some ((bt306.1.length : Int) == 0)) else (none)) else (none)) else ((thyrsusref2_Tokens.f k1 (x5_1.extract 0 ((ji15) : Int).toNat)).bind fun bt311 => ((thyrsuslaw2_same.f k1 bt306.1 bt311.1).bind fun t316 => (if t316 = true then (if bt306.2.1 = bt311.2.1 then (some (bt306.2.2 == bt311.2.2)) else (none)) else (none)))))) else (none)) else (none)) = some r := by first | (rw [hji15] at H; exact H) | (simp only [hji15] at H ⊢; exact H)
          (try rw [hji15] at c7b0)
          have hji15w : (IntKind.i64.wrap (3995 + t300)) = ji15 := (i64_w _).trans hji15
          by_cases c16 : 0 ≤ (ji15)
          · rw [if_pos c16] at H
            have c16b0 := eq_true c16
            have c16b1 : decide (0 ≤ (ji15)) = true := decide_eq_true c16
            clear c16
            by_cases c17 : (ji15) ≤ (x5_1.size : Int)
            · rw [if_pos c17] at H
              have c17b0 := eq_true c17
              have c17b1 : decide ((ji15) ≤ (x5_1.size : Int)) = true := decide_eq_true c17
              clear c17
              replace H := Option.bind_eq_some_iff.mp H
              obtain ⟨⟨t306, t307, t308⟩, A180, H⟩ := H
              replace H : (if (ji15) > 4000 then (if t308 = 4 then (if t307 = 0 then (some ((t306.length : Int) == 0)) else (none)) else (none)) else ((thyrsusref2_Tokens.f k1 (x5_1.extract 0 ((ji15) : Int).toNat)).bind fun bt311 => ((thyrsuslaw2_same.f k1 t306 bt311.1).bind fun t316 => (if t316 = true then (if t307 = bt311.2.1 then (some (t308 == bt311.2.2)) else (none)) else (none))))) = some r := H
              have A18 := Aside0.mk A180
              clear A180
              by_cases c19 : (ji15) > 4000
              · rw [if_pos c19] at H
                have c19b0 : decide (4000 < (ji15)) = true := decide_eq_true c19
                clear c19
                by_cases c20 : t308 = 4
                · rw [if_pos c20] at H
                  have c20b0 : (t308 == 4) = true := beq_iff_eq.mpr c20
                  have c20b1 : (t308 != 4) = false := bne_eq_false_iff_eq.mpr c20
                  clear c20
                  by_cases c21 : t307 = 0
                  · rw [if_pos c21] at H
                    have c21b0 : (t307 == 0) = true := beq_iff_eq.mpr c21
                    have c21b1 : (t307 != 0) = false := bne_eq_false_iff_eq.mpr c21
                    clear c21
                    obtain rfl := Option.some.inj H
                    go_wp2_with (first | ((with_reducible refine gate_callee (f := 13) rfl ?_); refine goesL_ (some 33) rfl rfl Try.func13 (by kernel_rfl) rfl #[.string (x5_1.extract 0 ((ji15) : Int).toNat)] rfl (by (try simp only [List.map_toArray, List.map_cons, List.map_nil]); first | done | (simp only [hji15]; rfl) | rfl | (simp only [List.length_drop, List.length_take]; rfl)) ?_; (with_reducible refine (lex_Tokens.calls (x5_1.extract 0 ((ji15) : Int).toNat) t306 t307 t308 _ A18.out).mono ?_); rintro e w22 ⟨v309, rfl, ho0, hb⟩; refine ⟨_, rfl, ?_⟩; have n0_ := Aside0.mk (Kd.R_lower ho0 (below_size (by repeat (first | (with_reducible first | exact HB.out | apply below_alloc | apply pw_below_drewN | apply below_drew1) | exact HB.out)))); have n1_ := Aside0.mk (below_step (by repeat (first | (with_reducible first | exact HB.out | apply below_alloc | apply pw_below_drewN | apply below_drew1) | exact HB.out)) hb); clear HB; have HO310 := n0_; have HB := n1_; clear n0_ n1_; (try clear hb); (try clear hb2); (try clear hk); (try clear hi); (try clear ho0); obtain ⟨Ao23, co23, eo23⟩ := Kd.R_slice HO310.out; subst eo23))
                    go_ret
                    exact ⟨by first | rfl | (simp [errW_none, errW_some] <;> rfl) | (simp only [← hji15]; first | rfl | (simp [errW_none, errW_some] <;> rfl)) | (simp [*, errW_none, errW_some] <;> rfl), by repeat (first | (with_reducible first | exact HB.out | apply below_alloc | apply pw_below_drewN | apply below_drew1) | exact HB.out)⟩
                  · rw [if_neg c21] at H
                    exact absurd H (by simp)
                · rw [if_neg c20] at H
                  exact absurd H (by simp)
              · rw [if_neg c19] at H
                have c19b0 : decide (4000 < (ji15)) = false := decide_eq_false c19
                clear c19
                replace H := Option.bind_eq_some_iff.mp H
                obtain ⟨⟨t311, t312, t313⟩, A240, H⟩ := H
                replace H : ((thyrsuslaw2_same.f k1 t306 t311).bind fun t316 => (if t316 = true then (if t307 = t312 then (some (t308 == t313)) else (none)) else (none))) = some r := H
                have A24 := Aside0.mk A240
                clear A240
                replace H := Option.bind_eq_some_iff.mp H
                obtain ⟨t316, A250, H⟩ := H
                replace H : (if t316 = true then (if t307 = t312 then (some (t308 == t313)) else (none)) else (none)) = some r := H
                have A25 := Aside0.mk A250
                clear A250
                by_cases c26 : t316 = true
                · subst c26
                  have H1 : (if t307 = t312 then (some (t308 == t313)) else (none)) = some r := by rw [if_pos rfl] at H; exact H
                  clear H
                  have H := H1
                  clear H1
                  by_cases c27 : t307 = t312
                  · rw [if_pos c27] at H
                    have c27b0 : (t307 == t312) = true := beq_iff_eq.mpr c27
                    have c27b1 : (t307 != t312) = false := bne_eq_false_iff_eq.mpr c27
                    clear c27
                    obtain rfl := Option.some.inj H
                    go_wp2_with (first | ((with_reducible refine gate_callee (f := 13) rfl ?_); refine goesL_ (some 33) rfl rfl Try.func13 (by kernel_rfl) rfl #[.string (x5_1.extract 0 ((ji15) : Int).toNat)] rfl (by (try simp only [List.map_toArray, List.map_cons, List.map_nil]); first | done | (simp only [hji15]; rfl) | rfl | (simp only [List.length_drop, List.length_take]; rfl)) ?_; (with_reducible refine (lex_Tokens.calls (x5_1.extract 0 ((ji15) : Int).toNat) t306 t307 t308 _ A18.out).mono ?_); rintro e w28 ⟨v309, rfl, ho0, hb⟩; refine ⟨_, rfl, ?_⟩; have n0_ := Aside0.mk (Kd.R_lower ho0 (below_size (by repeat (first | (with_reducible first | exact HB.out | apply below_alloc | apply pw_below_drewN | apply below_drew1) | exact HB.out)))); have n1_ := Aside0.mk (below_step (by repeat (first | (with_reducible first | exact HB.out | apply below_alloc | apply pw_below_drewN | apply below_drew1) | exact HB.out)) hb); clear HB; have HO310 := n0_; have HB := n1_; clear n0_ n1_; (try clear hb); (try clear hb2); (try clear hk); (try clear hi); (try clear ho0)) | ((with_reducible refine gate_callee (f := 11) rfl ?_); refine goesL_ (some 52) rfl rfl Try.func11 (by kernel_rfl) rfl #[.string (x5_1.extract 0 ((ji15) : Int).toNat)] rfl (by (try simp only [List.map_toArray, List.map_cons, List.map_nil]); first | done | (simp only [hji15]; rfl) | rfl | (simp only [List.length_drop, List.length_take]; rfl)) ?_; (with_reducible refine (thyrsusref2_Tokens.calls k1 (x5_1.extract 0 ((ji15) : Int).toNat) t311 t312 t313 _ A24.out).mono ?_); rintro e w29 ⟨v314, rfl, ho0, hb⟩; refine ⟨_, rfl, ?_⟩; have n0_ := Aside0.mk (Kd.R_elder' (by (with_reducible repeat (first | apply Kd.R_alloc | apply Kd.R_drewN | apply Kd.R_drew)); exact HO310.out) (Kd.R_base ho0) hb); have n1_ := Aside0.mk (Kd.R_lower (Kd.R_new' ho0 (Kd.R_lt (by (with_reducible repeat (first | apply Kd.R_alloc | apply Kd.R_drewN | apply Kd.R_drew)); exact HO310.out))) (below_size (by repeat (first | (with_reducible first | exact HB.out | apply below_alloc | apply pw_below_drewN | apply below_drew1) | exact HB.out)))); have n2_ := Aside0.mk (below_step (by repeat (first | (with_reducible first | exact HB.out | apply below_alloc | apply pw_below_drewN | apply below_drew1) | exact HB.out)) hb); clear HO310; clear HB; have HO310 := n0_; have HO315 := n1_; have HB := n2_; clear n0_ n1_ n2_; (try clear hb); (try clear hb2); (try clear hk); (try clear hi); (try clear ho0); obtain ⟨Ao30, co30, eo30⟩ := Kd.R_slice HO310.out; subst eo30; obtain ⟨Ao31, co31, eo31⟩ := Kd.R_slice HO315.out; subst eo31) | ((with_reducible refine gate_callee (f := 16) rfl ?_); refine goesL_ (some 58) rfl rfl Try.func16 (by kernel_rfl) rfl #[.slice Ao30 t306.length co30, .slice Ao31 t311.length co31] rfl (by (try simp only [List.map_toArray, List.map_cons, List.map_nil]); first | done | rfl | (simp only [List.length_drop, List.length_take]; rfl)) ?_; (with_reducible refine (thyrsuslaw2_same.calls k1 _ _ t306 _ _ t311 true _ ?side1 ?side2 ?side3 ?side4 A25.out).mono ?_); (case side1 => repeat (first | exact (Kd.R_reads' HO310.out).2.2 | (with_reducible refine Kd.C_alloc ?_ _) | (with_reducible refine Kd.C_drewN ?_ _) | (with_reducible refine Kd.C_drew ?_))); (case side2 => exact (Kd.R_reads' HO310.out).2.1); (case side3 => repeat (first | exact (Kd.R_reads' HO315.out).2.2 | (with_reducible refine Kd.C_alloc ?_ _) | (with_reducible refine Kd.C_drewN ?_ _) | (with_reducible refine Kd.C_drew ?_))); (case side4 => exact (Kd.R_reads' HO315.out).2.1); rintro e w' ⟨rfl, ⟨nd, rfl⟩⟩; refine ⟨_, rfl, ?_⟩))
                    go_ret
                    exact ⟨by first | rfl | (simp [errW_none, errW_some] <;> rfl) | (simp only [← hji15]; first | rfl | (simp [errW_none, errW_some] <;> rfl)) | (simp [*, errW_none, errW_some] <;> rfl), by repeat (first | (with_reducible first | exact HB.out | apply below_alloc | apply pw_below_drewN | apply below_drew1) | exact HB.out)⟩
                  · rw [if_neg c27] at H
                    exact absurd H (by simp)
                · replace c26 := Bool.eq_false_iff.mpr c26
                  subst c26
                  have H1 : (none) = some r := by rw [if_neg (show ¬ (false = true) by decide)] at H; exact H
                  clear H
                  have H := H1
                  clear H1
                  exact absurd H (by simp)
            · rw [if_neg c17] at H
              exact absurd H (by simp)
          · rw [if_neg c16] at H
            exact absurd H (by simp)
  · replace c4 := Bool.eq_false_iff.mpr c4
    subst c4
    have H1 : (none) = some r := by rw [if_neg (show ¬ (false = true) by decide)] at H; exact H
    clear H
    have H := H1
    clear H1
    exact absurd H (by simp)

/-- THE ONE PURE STATEMENT of thyrsuslaw2_LexLong: yours. -/
def thyrsuslaw2_LexLong.Pure : Prop := ∀ (a0 : Int) (a1 : Int), (Lit.int .i64 a0).wf = true → (Lit.int .i64 a1).wf = true → ∃ k, thyrsuslaw2_LexLong.f k a0 a1 = some true
theorem thyrsuslaw2_LexLong.walk (P : thyrsuslaw2_LexLong.Pure) (a0 : Int) (a1 : Int) (w : World) (w0 : (Lit.int .i64 a0).wf = true) (w1 : (Lit.int .i64 a1).wf = true) :
    Calls Try.prog 8 #[.int .i64 a0, .int .i64 a1] w fun e w' => e = .returned (.bool true) ∧ Below w.heap.size w w' := by
  obtain ⟨k, h⟩ := P a0 a1 w0 w1
  refine (thyrsuslaw2_LexLong.calls k a0 a1 true w h).mono ?_
  rintro e w' ⟨rfl, hd⟩
  exact ⟨rfl, hd⟩

end Go.Proofs.Ytleepjnpnbkgdaa.P
