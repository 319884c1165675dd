/- Chapter 3's law: FormsDeep, printed by mkprint.py, turned by toQ3.py (strconv's table stands: TabP). -/
-- Printed by mkprint.py (a program of this session, over the kit's print). Lean checks it.
import Derived.Test.YtkkmgahgejjhgaaDoorPx0
import Derived.Test.YtkkmgahgejjhgaaDoorTextF
import Derived.Test.YtkkmgahgejjhgaaDoorCheckF
import Derived.Test.YtkkmgahgejjhgaaDoorHandG
import Derived.Test.YtkkmgahgejjhgaaDoorPx1
import Derived.Test.YtkkmgahgejjhgaaDoorLwN
namespace Go.Proofs.YtkkmgahgejjhgaaDoor.P
open Go.RowKit Go.Proofs.YtkkmgahgejjhgaaDoorW.PrintWords Go.Proofs.YtkkmgahgejjhgaaDoorW.PrintLast Go.Proofs.YtkkmgahgejjhgaaDoorW.PrintMore
attribute [local go_sem] max2_int min2_int max_two min_two max_three min_three max_four min_four   -- for this text's walks alone
set_option linter.unusedVariables false
set_option linter.unusedSimpArgs false

/-! ### thyrsuslaw3_FormsDeep: function 8 -/
mutual
def thyrsuslaw3_FormsDeep.l0 : Nat → Int → Bool → ByteArray → ByteArray → Int → Int → Int → ByteArray → List (S42) → Option (Bool)
  | 0, _, _, _, _, _, _, _, _, _ => none
  | k + 1, x0, x1, x5, x6, x8, x142000, x142001, x142002, x142003 => if x8 < x0 then (if x5.size + 1 ≤ 9223372036854775807 then (if 1 + x6.size ≤ 9223372036854775807 then (thyrsuslaw3_FormsDeep.l0 k x0 x1 (x5 ++ (⟨#[40]⟩ : ByteArray)) ((⟨#[41]⟩ : ByteArray) ++ x6) (wrap64 (x8 + 1)) 3 0 (⟨#[]⟩ : ByteArray) (([(⟨x142000, x142001, x142002, x142003⟩ : S42)] : List (S42)))) else (none)) else (none)) else (if x5.size + 1 ≤ 9223372036854775807 then (if (x5 ++ (⟨#[97]⟩ : ByteArray)).size + x6.size ≤ 9223372036854775807 then (if x1 = true then (if 2 + ((x5 ++ (⟨#[97]⟩ : ByteArray)) ++ x6).size ≤ 9223372036854775807 then (if ((⟨#[98, 32]⟩ : ByteArray) ++ ((x5 ++ (⟨#[97]⟩ : ByteArray)) ++ x6)).size + 2 ≤ 9223372036854775807 then (thyrsuslaw3_FormsDeep.j1 k x0 (((⟨#[98, 32]⟩ : ByteArray) ++ ((x5 ++ (⟨#[97]⟩ : ByteArray)) ++ x6)) ++ (⟨#[32, 99]⟩ : ByteArray)) x142000 x142001 x142002 x142003) else (none)) else (none)) else (thyrsuslaw3_FormsDeep.j1 k x0 ((x5 ++ (⟨#[97]⟩ : ByteArray)) ++ x6) x142000 x142001 x142002 x142003)) else (none)) else (none))
def thyrsuslaw3_FormsDeep.j1 : Nat → Int → ByteArray → Int → Int → ByteArray → List (S42) → Option (Bool)
  | 0, _, _, _, _, _, _ => none
  | k + 1, x0, x9, x142000, x142001, x142002, x142003 => (forms_Parse.f x9).bind fun bt145 => (if x0 > 30 then (if bt145.2.2 = 5 then (if (bt145.1.length : Int) = 0 then (if bt145.2.1 ≥ 0 then (if bt145.2.1 < (x9.size : Int) then (if 0 ≤ bt145.2.1 then (if (bt x9 bt145.2.1) = 40 then ((forms_Check.f k x142000 x142001 x142002 x142003).bind fun t150 => (some (t150 == 5))) else (none)) else (none)) else (none)) else (none)) else (none)) else (none)) else (if bt145.2.2 = 0 then ((forms_Check.f k x142000 x142001 x142002 x142003).bind fun t151 => (if t151 = 0 then (some (decide ((bt145.1.length : Int) > 0))) else (none))) else (none)))
end
def thyrsuslaw3_FormsDeep.f (k : Nat) (a0 : Int) (a1 : Bool) : Option (Bool) := (thyrsuslaw3_known.f k).bind fun t139 => (if t139 = true then ((thyrsuslaw3_within.f a0 6).bind fun t140 => (thyrsuslaw3_FormsDeep.l0 k (wrap64 (28 + t140)) a1 (⟨#[]⟩ : ByteArray) (⟨#[]⟩ : ByteArray) 0 1 0 (⟨#[97]⟩ : ByteArray) ([] : List (S42)))) else (none))
theorem thyrsuslaw3_FormsDeep.mono_l : ∀ k, (∀ y0 y1 y2 y3 y4 y5 y6 y7 y8, LeO (thyrsuslaw3_FormsDeep.l0 k y0 y1 y2 y3 y4 y5 y6 y7 y8) (thyrsuslaw3_FormsDeep.l0 (k + 1) y0 y1 y2 y3 y4 y5 y6 y7 y8)) ∧ (∀ y0 y1 y2 y3 y4 y5, LeO (thyrsuslaw3_FormsDeep.j1 k y0 y1 y2 y3 y4 y5) (thyrsuslaw3_FormsDeep.j1 (k + 1) y0 y1 y2 y3 y4 y5))
  | 0 => ⟨fun _ _ _ _ _ _ _ _ _ r h => by simp [thyrsuslaw3_FormsDeep.l0] at h, fun _ _ _ _ _ _ r h => by simp [thyrsuslaw3_FormsDeep.j1] at h⟩
  | k + 1 => by
    obtain ⟨ih0, ih1⟩ := thyrsuslaw3_FormsDeep.mono_l k
    refine ⟨?_, ?_⟩
    · intro y0 y1 y2 y3 y4 y5 y6 y7 y8
      unfold thyrsuslaw3_FormsDeep.l0
      repeat' first
      | (with_reducible exact ih0 _ _ _ _ _ _ _ _ _)
      | (with_reducible exact ih1 _ _ _ _ _ _)
      | (with_reducible exact forms_Check.mono _ _ _ _ _)
      | (with_reducible exact thyrsuslaw3_known.mono _)
      | (with_reducible exact LeO.refl _)
      | (with_reducible exact LeO.none _)
      | (with_reducible refine LeO.ite ?_ ?_)
      | (with_reducible refine LeO.bind ?_ (fun _ => ?_))
      | exact ih0 _ _ _ _ _ _ _ _ _
      | exact ih1 _ _ _ _ _ _
      | exact forms_Check.mono _ _ _ _ _
      | exact thyrsuslaw3_known.mono _
      | exact LeO.none _
      | refine LeO.ite ?_ ?_
      | refine LeO.bind ?_ (fun _ => ?_)
    · intro y0 y1 y2 y3 y4 y5
      unfold thyrsuslaw3_FormsDeep.j1
      repeat' first
      | (with_reducible exact ih0 _ _ _ _ _ _ _ _ _)
      | (with_reducible exact ih1 _ _ _ _ _ _)
      | (with_reducible exact forms_Check.mono _ _ _ _ _)
      | (with_reducible exact thyrsuslaw3_known.mono _)
      | (with_reducible exact LeO.refl _)
      | (with_reducible exact LeO.none _)
      | (with_reducible refine LeO.ite ?_ ?_)
      | (with_reducible refine LeO.bind ?_ (fun _ => ?_))
      | exact ih0 _ _ _ _ _ _ _ _ _
      | exact ih1 _ _ _ _ _ _
      | exact forms_Check.mono _ _ _ _ _
      | exact thyrsuslaw3_known.mono _
      | exact LeO.none _
      | refine LeO.ite ?_ ?_
      | refine LeO.bind ?_ (fun _ => ?_)
theorem thyrsuslaw3_FormsDeep.mono : ∀ a0 a1 k, LeO (thyrsuslaw3_FormsDeep.f k a0 a1) (thyrsuslaw3_FormsDeep.f (k + 1) a0 a1) := by
  intro a0 a1 k
  obtain ⟨ih0, ih1⟩ := thyrsuslaw3_FormsDeep.mono_l k
  unfold thyrsuslaw3_FormsDeep.f
  repeat' first
      | (with_reducible exact ih0 _ _ _ _ _ _ _ _ _)
      | (with_reducible exact ih1 _ _ _ _ _ _)
      | (with_reducible exact forms_Check.mono _ _ _ _ _)
      | (with_reducible exact thyrsuslaw3_known.mono _)
      | (with_reducible exact LeO.refl _)
      | (with_reducible exact LeO.none _)
      | (with_reducible refine LeO.ite ?_ ?_)
      | (with_reducible refine LeO.bind ?_ (fun _ => ?_))
      | exact ih0 _ _ _ _ _ _ _ _ _
      | exact ih1 _ _ _ _ _ _
      | exact forms_Check.mono _ _ _ _ _
      | exact thyrsuslaw3_known.mono _
      | exact LeO.none _
      | refine LeO.ite ?_ ?_
      | refine LeO.bind ?_ (fun _ => ?_)
set_option maxHeartbeats 8000000 in
set_option maxRecDepth 100000 in
theorem thyrsuslaw3_FormsDeep.calls (k : Nat) (a0 : Int) (a1 : Bool) (r : Bool) (w : World) (hT : TabP w) (h : thyrsuslaw3_FormsDeep.f k a0 a1 = some r) :
    Calls Tryd.prog 8 #[.int .i64 a0, .bool a1] w fun e w' => e = .returned (.bool r) ∧ Below w.heap.size w w' := by
  have hu42 := Tryd.underlying42
  have HTB := Aside0.mk hT
  clear hT
  have HB := Aside0.mk (Below.refl w.heap.size w)
  have H : ((thyrsuslaw3_known.f k).bind fun t139 => (if t139 = true then ((thyrsuslaw3_within.f a0 6).bind fun t140 => (thyrsuslaw3_FormsDeep.l0 k (wrap64 (28 + t140)) a1 (⟨#[]⟩ : ByteArray) (⟨#[]⟩ : ByteArray) 0 1 0 (⟨#[97]⟩ : ByteArray) ([] : List (S42)))) else (none))) = some r := h
  clear h
  replace H := Option.bind_eq_some_iff.mp H
  obtain ⟨t139, A30, H⟩ := H
  replace H : (if t139 = true then ((thyrsuslaw3_within.f a0 6).bind fun t140 => (thyrsuslaw3_FormsDeep.l0 k (wrap64 (28 + t140)) a1 (⟨#[]⟩ : ByteArray) (⟨#[]⟩ : ByteArray) 0 1 0 (⟨#[97]⟩ : ByteArray) ([] : List (S42)))) else (none)) = some r := H
  have A3 := Aside0.mk A30
  clear A30
  by_cases c4 : t139 = true
  · subst c4
    have H1 : ((thyrsuslaw3_within.f a0 6).bind fun t140 => (thyrsuslaw3_FormsDeep.l0 k (wrap64 (28 + t140)) a1 (⟨#[]⟩ : ByteArray) (⟨#[]⟩ : ByteArray) 0 1 0 (⟨#[97]⟩ : ByteArray) ([] : List (S42)))) = some r := by rw [if_pos rfl] at H; exact H
    clear H
    have H := H1
    clear H1
    replace H := Option.bind_eq_some_iff.mp H
    obtain ⟨t140, A50, H⟩ := H
    replace H : (thyrsuslaw3_FormsDeep.l0 k (wrap64 (28 + t140)) a1 (⟨#[]⟩ : ByteArray) (⟨#[]⟩ : ByteArray) 0 1 0 (⟨#[97]⟩ : ByteArray) ([] : List (S42))) = some r := H
    have A5 := Aside0.mk A50
    clear A50
    have H' := Aside0.mk H
    clear H
    go_enter Tryd.func8, Tryd.ntmps8
    go_wp2_with (first | ((with_reducible refine gate_callee (f := 10) rfl ?_); refine goesL_ (some 13) rfl rfl Tryd.func10 (by kernel_rfl) rfl #[] rfl (by (try simp only [List.map_toArray, List.map_cons, List.map_nil]); first | done | rfl | (simp only [List.length_drop, List.length_take]; rfl)) ?_; (with_reducible refine (thyrsuslaw3_known.calls k  true _ ?sideT A3.out).mono ?_); (case sideT => exact TabP.below HTB.out (by repeat (first | (with_reducible first | exact HB.out | apply below_alloc | apply pw_below_drewN | apply below_drew1 | refine below_set ?_ GE141.out) | exact HB.out))); rintro e w6 ⟨rfl, hb⟩; refine ⟨_, rfl, ?_⟩; have n0_ := Aside0.mk (below_step (by repeat (first | (with_reducible first | exact HB.out | apply below_alloc | apply pw_below_drewN | apply below_drew1) | exact HB.out)) hb); clear HB; have HB := n0_; clear n0_; (try clear hb); (try clear hb2); (try clear hk); (try clear hi)) | ((with_reducible refine gate_callee (f := 12) rfl ?_); refine goesL_ (some 16) rfl rfl Tryd.func12 (by kernel_rfl) rfl #[.int .i64 a0, .int .i64 6] rfl (by (try simp only [List.map_toArray, List.map_cons, List.map_nil]); first | done | rfl | (simp only [List.length_drop, List.length_take]; rfl)) ?_; (with_reducible refine (thyrsuslaw3_within.calls a0 6 t140 _ A5.out).mono ?_); rintro e w' ⟨rfl, ⟨nd, rfl⟩⟩; refine ⟨_, rfl, ?_⟩; (try (rw [drewN_self w6]; generalize hq_ : World.drewN w6 _ = w6; have n0_ : Aside0 (Below w.heap.size w w6) := ⟨by rw [← hq_]; exact (by repeat (first | (with_reducible first | exact HB.out | apply below_alloc | apply pw_below_drewN | apply below_drew1) | exact HB.out))⟩; clear HB hq_; have HB := n0_; clear n0_))) | ((with_reducible refine gate_dst (N := 7) rfl ?_); (try (refine gate_guard (by rfl) ?_; dsimp only)); refine box_event ?hg (N := 7) ?hd (cs := #[.int .i64 0, .int .i64 0, .string (⟨#[]⟩ : ByteArray), .slice none 0 0]) (t := 42) ?hr ?_; (case hd => rfl); (case hg => rfl); (case hr => first | (go_simp; done) | (go_simp; rfl)); intro gb141 hg w7 hbox hb; have n0_ := Aside0.mk (below_step (by repeat (first | (with_reducible first | exact HB.out | apply below_alloc | apply pw_below_drewN | apply below_drew1) | exact HB.out)) hb); have n1_ := Aside0.mk (hbox); have n2_ := Aside0.mk ((by rw [hg]; exact (below_size (by repeat (first | (with_reducible first | exact HB.out | apply below_alloc | apply pw_below_drewN | apply below_drew1) | exact HB.out))) : w.heap.size ≤ gb141)); have n3_ := Aside0.mk ((by rw [hg]; exact (below_size (by repeat (first | (with_reducible first | exact HB.out | apply below_alloc | apply pw_below_drewN | apply below_drew1) | exact HB.out))) : w.heap.size ≤ gb141)); clear HB; have HB := n0_; have BK141 := n1_; have GW141 := n2_; have GE141 := n3_; clear n0_ n1_ n2_ n3_; clear hb hbox hg; have hcz8_0 : w7.cell? ⟨gb141, 0, none⟩ = some (.int .i64 0) := (blk_cell BK141.out 0).trans rfl; have hcz8_1 : w7.cell? ⟨gb141, 1, none⟩ = some (.int .i64 0) := (blk_cell BK141.out 1).trans rfl; have hcz8_2 : w7.cell? ⟨gb141, 2, none⟩ = some (.string (⟨#[]⟩ : ByteArray)) := (blk_cell BK141.out 2).trans rfl; have hcz8_3 : w7.cell? ⟨gb141, 3, none⟩ = some (.slice none 0 0) := (blk_cell BK141.out 3).trans rfl; have hfz8_0 := blk_frozen BK141.out 0; have hfz8_1 := blk_frozen BK141.out 1; have hfz8_2 := blk_frozen BK141.out 2; have hfz8_3 := blk_frozen BK141.out 3) | ((with_reducible refine gate_store (t := 42) (p := 7) rfl ?_); refine store_event (t := 42) (p := 7) (v := ?vo_w9) (w1 := ((((w7.setCell ⟨gb141, 0, none⟩ (.int .i64 1)).setCell ⟨gb141, 1, none⟩ (.int .i64 0)).setCell ⟨gb141, 2, none⟩ (.string (⟨#[97]⟩ : ByteArray))).setCell ⟨gb141, 3, none⟩ (.slice none 0 0))) ?hg ?ho ?hn ?hr ?_; (case ho => rfl); (case hg => rfl); (case hn => rfl); (case hr => first | (go_simp; done) | (go_simp; rfl)); intro w9 hw; have n0_ : Aside0 (w9.heap[gb141]? = some (.cells #[.int .i64 1, .int .i64 0, .string (⟨#[97]⟩ : ByteArray), .slice none 0 0] 42 (0, 0))) := ⟨(by rw [hw]; exact (by (with_reducible repeat (first | refine blk_drewN ?_ _ | refine blk_drew ?_ | refine blk_alloc ?_ _)); refine blk_put (cs := #[.int .i64 1, .int .i64 0, .string (⟨#[97]⟩ : ByteArray), .slice none 0 0]) ?_ 3 _ rfl; (with_reducible repeat (first | refine blk_drewN ?_ _ | refine blk_drew ?_ | refine blk_alloc ?_ _)); refine blk_put (cs := #[.int .i64 1, .int .i64 0, .string (⟨#[]⟩ : ByteArray), .slice none 0 0]) ?_ 2 _ rfl; (with_reducible repeat (first | refine blk_drewN ?_ _ | refine blk_drew ?_ | refine blk_alloc ?_ _)); refine blk_put (cs := #[.int .i64 1, .int .i64 0, .string (⟨#[]⟩ : ByteArray), .slice none 0 0]) ?_ 1 _ rfl; (with_reducible repeat (first | refine blk_drewN ?_ _ | refine blk_drew ?_ | refine blk_alloc ?_ _)); refine blk_put (cs := #[.int .i64 0, .int .i64 0, .string (⟨#[]⟩ : ByteArray), .slice none 0 0]) ?_ 0 _ rfl; (with_reducible repeat (first | refine blk_drewN ?_ _ | refine blk_drew ?_ | refine blk_alloc ?_ _)); exact BK141.out))⟩; have n1_ : Aside0 (Below w.heap.size w w9) := ⟨(by rw [hw]; exact (by repeat (first | (with_reducible first | exact HB.out | apply below_alloc | apply pw_below_drewN | apply below_drew1 | refine below_set ?_ GE141.out) | exact HB.out)))⟩; clear hw; clear BK141; clear HB; have BK141 := n0_; have HB := n1_; clear n0_ n1_))
    go_loopg [5, 6, 8] k (fun kq v5 v6 v8 w' => ∃ (x5_1 : ByteArray) (x6_1 : ByteArray) (x8_1 : Int) (x142000_1 : Int) (x142001_1 : Int) (x142002_1 : ByteArray) (x142003_1 : List (S42)) (u142003 : Value), v5 = .string x5_1 ∧ v6 = .string x6_1 ∧ v8 = .int .i64 x8_1 ∧ Aside0 (thyrsuslaw3_FormsDeep.l0 kq (wrap64 (28 + t140)) a1 x5_1 x6_1 x8_1 x142000_1 x142001_1 x142002_1 x142003_1 = some r) ∧ Aside0 (kq ≤ k) ∧ Aside0 (Kd.N k42 42 w' w.heap.size (fun k_ => k_ ≠ gb141) u142003 x142003_1) ∧ Aside0 (w'.heap[gb141]? = some (.cells #[.int .i64 x142000_1, .int .i64 x142001_1, .string x142002_1, u142003] 42 (0, 0))) ∧ Aside0 (Below w.heap.size w w'))
    case atStart => exact ⟨((⟨#[]⟩ : ByteArray)), ((⟨#[]⟩ : ByteArray)), (0), (1), (0), ((⟨#[97]⟩ : ByteArray)), (([] : List (S42))), (.slice none 0 0), (by first | rfl | (simp; done) | (simp [*]; done)), (by first | rfl | (simp; done) | (simp [*]; done)), (by first | rfl | (simp; done) | (simp [*]; done)), H', ⟨Nat.le_refl _⟩, ⟨by first | exact Kd.R_nil _ _ _ _ _ | exact Kd.N_nil _ _ _ _ _ | exact Kd.V_nil _ _ _ _ _ | exact Kd.Q_nil _ _ _ _ _ | exact Kd.S_nil _ _ _ _ _⟩, ⟨by (with_reducible repeat (first | refine blk_drewN ?_ _ | refine blk_drew ?_ | refine blk_alloc ?_ _)); exact BK141.out⟩, ⟨by repeat (first | (with_reducible first | exact HB.out | apply below_alloc | apply pw_below_drewN | apply below_drew1 | refine below_set ?_ GE141.out) | exact HB.out)⟩⟩
    case round =>
      clear H'
      try clear c1
      try clear p2
      try clear c4
      try clear p6
      try clear c8
      try clear hcz8_0
      try clear hcz8_1
      try clear hcz8_2
      try clear hcz8_3
      try clear hfz8_0
      try clear hfz8_1
      try clear hfz8_2
      try clear hfz8_3
      try clear HO_142003
      try clear BK141
      try clear HB
      obtain ⟨x5_1, x6_1, x8_1, x142000_1, x142001_1, x142002_1, x142003_1, u142003, rfl, rfl, rfl, HA, HK1, HO_142003, BK141, HB⟩ := hrel
      cases gk with
      | zero => exact absurd HA.out (by simp [thyrsuslaw3_FormsDeep.l0])
      | succ k1 =>
        have H := HA.out
        clear HA
        simp only [thyrsuslaw3_FormsDeep.l0] at H
        by_cases c10 : x8_1 < (wrap64 (28 + t140))
        · rw [if_pos c10] at H
          have c10b0 : decide (x8_1 < (wrap64 (28 + t140))) = true := decide_eq_true c10
          clear c10
          by_cases c11 : x5_1.size + 1 ≤ 9223372036854775807
          · rw [if_pos c11] at H
            have c11b0 := eq_true c11
            have c11b1 : decide (x5_1.size + 1 ≤ 9223372036854775807) = true := decide_eq_true c11
            try have c11b2 : (9223372036854775807 < x5_1.size + 1) = False := eq_false (Nat.not_lt.2 c11)
            by_cases c12 : 1 + x6_1.size ≤ 9223372036854775807
            · rw [if_pos c12] at H
              have c12b0 := eq_true c12
              have c12b1 : decide (1 + x6_1.size ≤ 9223372036854775807) = true := decide_eq_true c12
              try have c12b2 : (9223372036854775807 < 1 + x6_1.size) = False := eq_false (Nat.not_lt.2 c12)
              obtain ⟨y142, hy142⟩ : ∃ y_ : List (S42), y_ = (([(⟨x142000_1, x142001_1, x142002_1, x142003_1⟩ : S42)] : List (S42))) := ⟨_, rfl⟩
              replace H : (thyrsuslaw3_FormsDeep.l0 k1 (wrap64 (28 + t140)) a1 (x5_1 ++ (⟨#[40]⟩ : ByteArray)) ((⟨#[41]⟩ : ByteArray) ++ x6_1) (wrap64 (x8_1 + 1)) 3 0 (⟨#[]⟩ : ByteArray) y142) = some r := by first | (rw [hy142]; with_reducible exact H) | (have H2_ := (Option.bind_some _ _).symm.trans H; rw [hy142]; with_reducible exact H2_) | (have H2_ := (Option.bind_some _ _).symm.trans H; with_reducible exact H2_) | with_reducible exact H | (rw [hy142]; exact H) | exact H
              have Ny142 := Aside0.mk hy142
              clear hy142
              have H' := Aside0.mk H
              clear H
              have hcz13_0 : wr.cell? ⟨gb141, 0, none⟩ = some (.int .i64 x142000_1) := (blk_cell BK141.out 0).trans rfl
              have hcz13_1 : wr.cell? ⟨gb141, 1, none⟩ = some (.int .i64 x142001_1) := (blk_cell BK141.out 1).trans rfl
              have hcz13_2 : wr.cell? ⟨gb141, 2, none⟩ = some (.string x142002_1) := (blk_cell BK141.out 2).trans rfl
              have hcz13_3 : wr.cell? ⟨gb141, 3, none⟩ = some (u142003) := (blk_cell BK141.out 3).trans rfl
              have hfz13_0 := blk_frozen BK141.out 0
              have hfz13_1 := blk_frozen BK141.out 1
              have hfz13_2 := blk_frozen BK141.out 2
              have hfz13_3 := blk_frozen BK141.out 3
              obtain ⟨Ao14, co14, eo14⟩ := Kd.N_slice HO_142003.out
              subst eo14
              go_wp2_with (first | ((with_reducible refine gate_dst (N := 29) rfl ?_); (try (refine gate_guard (by rfl) ?_; dsimp only)); refine Kd.N_lit k42 _ 42 ?hg (N' := 29) ?hd (xs := ([(⟨x142000_1, x142001_1, x142002_1, x142003_1⟩ : S42)] : List (S42))) (inner := [.int .i64 x142000_1, .int .i64 x142001_1, .string x142002_1, .slice Ao14 x142003_1.length co14]) (ok := (fun k_ => k_ ≠ gb141)) (okp := (fun k_ => k_ ≠ gb141)) ?hr ?hp (fun _ hk => hk) ((show ∀ k_, wr.heap.size ≤ k_ → (fun k_ => k_ ≠ gb141) k_ from fun k_ hk => Kd.freshB (g := gb141) (o := .cells #[.int .i64 x142000_1, .int .i64 x142001_1, .string x142002_1, .slice Ao14 x142003_1.length co14] 42 (0, 0)) (by (with_reducible repeat (first | refine blk_drewN ?_ _ | refine blk_drew ?_ | refine blk_alloc ?_ _)); exact BK141.out) k_ hk) _ (Nat.le_refl _)) (Below.refl _ _) (Nat.le_refl _) (by simp) ?_; (case hd => rfl); (case hg => rfl); (case hr => first | (go_simp; done) | (go_simp; rfl)); (case hp => exact (Reps.c4 (show Kd.FK k42 _ _ (⟨x142000_1, x142001_1, x142002_1, x142003_1⟩ : S42) [.int .i64 x142000_1, .int .i64 x142001_1, .string x142002_1, .slice Ao14 x142003_1.length co14] from (k42_mkF _ _ (⟨x142000_1, x142001_1, x142002_1, x142003_1⟩ : S42) (Kd.N_reads' (Kd.N_mono (ok' := (fun k_ => k_ ≠ gb141)) (HO_142003.out) (fun k_ hk => hk))).2.1 (Kd.N_F (Kd.N_mono (ok' := (fun k_ => k_ ≠ gb141)) (HO_142003.out) (fun k_ hk => hk))))) (Reps.none _ _))); intro v143 w15 ho16 hb hg_ hnew_; clear hg_ hnew_; (first | rw [← Ny142.out] at ho16 | (simp only [Int.reduceToNat] at ho16; rw [← Ny142.out] at ho16)); have n0_ := Aside0.mk (Kd.N_lower ho16 (below_size (by repeat (first | (with_reducible first | exact HB.out | apply below_alloc | apply pw_below_drewN | apply below_drew1 | refine below_set ?_ GE141.out) | exact HB.out)))); have n1_ := Aside0.mk (blk_below (g := gb141) (o := .cells #[.int .i64 x142000_1, .int .i64 x142001_1, .string x142002_1, .slice Ao14 x142003_1.length co14] 42 (0, 0)) (by (with_reducible repeat (first | refine blk_drewN ?_ _ | refine blk_drew ?_ | refine blk_alloc ?_ _)); exact BK141.out) hb); have n2_ := Aside0.mk (below_step (by repeat (first | (with_reducible first | exact HB.out | apply below_alloc | apply pw_below_drewN | apply below_drew1 | refine below_set ?_ GE141.out) | exact HB.out)) hb); clear BK141; clear HB; clear HO_142003; have HO144 := n0_; have BK141 := n1_; have HB := n2_; clear n0_ n1_ n2_; clear hb ho16; obtain ⟨Ao17, co17, eo17⟩ := Kd.N_slice HO144.out; subst eo17; have hcz18_0 : w15.cell? ⟨gb141, 0, none⟩ = some (.int .i64 x142000_1) := (blk_cell BK141.out 0).trans rfl; have hcz18_1 : w15.cell? ⟨gb141, 1, none⟩ = some (.int .i64 x142001_1) := (blk_cell BK141.out 1).trans rfl; have hcz18_2 : w15.cell? ⟨gb141, 2, none⟩ = some (.string x142002_1) := (blk_cell BK141.out 2).trans rfl; have hcz18_3 : w15.cell? ⟨gb141, 3, none⟩ = some (.slice Ao14 x142003_1.length co14) := (blk_cell BK141.out 3).trans rfl; have hfz18_0 := blk_frozen BK141.out 0; have hfz18_1 := blk_frozen BK141.out 1; have hfz18_2 := blk_frozen BK141.out 2; have hfz18_3 := blk_frozen BK141.out 3) | ((with_reducible refine gate_store (t := 42) (p := 7) rfl ?_); refine store_event (t := 42) (p := 7) (v := ?vo_w19) (w1 := ((((w15.setCell ⟨gb141, 0, none⟩ (.int .i64 3)).setCell ⟨gb141, 1, none⟩ (.int .i64 0)).setCell ⟨gb141, 2, none⟩ (.string (⟨#[]⟩ : ByteArray))).setCell ⟨gb141, 3, none⟩ (.slice Ao17 y142.length co17))) ?hg ?ho ?hn ?hr ?_; (case ho => rfl); (case hg => rfl); (case hn => rfl); (case hr => first | (go_simp; done) | (go_simp; rfl)); intro w19 hw; have n0_ : Aside0 (Kd.N k42 42 w19 w.heap.size (fun k_ => k_ ≠ gb141) (.slice Ao17 y142.length co17) y142) := ⟨(by rw [hw]; exact (by (with_reducible repeat (first | apply Kd.N_alloc | apply Kd.N_drewN | apply Kd.N_drew)); exact Kd.N_mono (Kd.N_far (p := ⟨gb141, 3, none⟩) (Kd.N_far (p := ⟨gb141, 2, none⟩) (Kd.N_far (p := ⟨gb141, 1, none⟩) (Kd.N_far (p := ⟨gb141, 0, none⟩) (Kd.N_mono HO144.out (fun k_ hk => (⟨hk, hk⟩ : _ ∧ k_ ≠ gb141))) (fun _ hk => hk.2) (.int .i64 3)) (fun _ hk => hk.2) (.int .i64 0)) (fun _ hk => hk.2) (.string (⟨#[]⟩ : ByteArray))) (fun _ hk => hk.2) (.slice Ao17 y142.length co17)) (fun _ hk => hk.1)))⟩; have n1_ : Aside0 (w19.heap[gb141]? = some (.cells #[.int .i64 3, .int .i64 0, .string (⟨#[]⟩ : ByteArray), .slice Ao17 y142.length co17] 42 (0, 0))) := ⟨(by rw [hw]; exact (by (with_reducible repeat (first | refine blk_drewN ?_ _ | refine blk_drew ?_ | refine blk_alloc ?_ _)); refine blk_put (cs := #[.int .i64 3, .int .i64 0, .string (⟨#[]⟩ : ByteArray), .slice Ao14 x142003_1.length co14]) ?_ 3 _ rfl; (with_reducible repeat (first | refine blk_drewN ?_ _ | refine blk_drew ?_ | refine blk_alloc ?_ _)); refine blk_put (cs := #[.int .i64 3, .int .i64 0, .string x142002_1, .slice Ao14 x142003_1.length co14]) ?_ 2 _ rfl; (with_reducible repeat (first | refine blk_drewN ?_ _ | refine blk_drew ?_ | refine blk_alloc ?_ _)); refine blk_put (cs := #[.int .i64 3, .int .i64 x142001_1, .string x142002_1, .slice Ao14 x142003_1.length co14]) ?_ 1 _ rfl; (with_reducible repeat (first | refine blk_drewN ?_ _ | refine blk_drew ?_ | refine blk_alloc ?_ _)); refine blk_put (cs := #[.int .i64 x142000_1, .int .i64 x142001_1, .string x142002_1, .slice Ao14 x142003_1.length co14]) ?_ 0 _ rfl; (with_reducible repeat (first | refine blk_drewN ?_ _ | refine blk_drew ?_ | refine blk_alloc ?_ _)); exact BK141.out))⟩; have n2_ : Aside0 (Below w.heap.size w w19) := ⟨(by rw [hw]; exact (by repeat (first | (with_reducible first | exact HB.out | apply below_alloc | apply pw_below_drewN | apply below_drew1 | refine below_set ?_ GE141.out) | exact HB.out)))⟩; clear hw; clear HO144; clear BK141; clear HB; have HO144 := n0_; have BK141 := n1_; have HB := n2_; clear n0_ n1_ n2_))
              go_roundg k1
              case measure => have := HK1.out; omega
              case rel => exact ⟨(x5_1 ++ (⟨#[40]⟩ : ByteArray)), ((⟨#[41]⟩ : ByteArray) ++ x6_1), (wrap64 (x8_1 + 1)), (3), (0), ((⟨#[]⟩ : ByteArray)), (y142), (.slice Ao17 y142.length co17), (by first | rfl | (simp; done) | (simp [*]; done)), (by first | rfl | (simp; done) | (simp [*]; done)), (by first | rfl | (simp; done) | (simp [*]; done)), H', ⟨by have := HK1.out; omega⟩, ⟨by (with_reducible repeat (first | apply Kd.N_alloc | apply Kd.N_drewN | apply Kd.N_drew)); exact HO144.out⟩, ⟨by (with_reducible repeat (first | refine blk_drewN ?_ _ | refine blk_drew ?_ | refine blk_alloc ?_ _)); exact BK141.out⟩, ⟨by repeat (first | (with_reducible first | exact HB.out | apply below_alloc | apply pw_below_drewN | apply below_drew1 | refine below_set ?_ GE141.out) | exact HB.out)⟩⟩
            · rw [if_neg c12] at H
              exact absurd H (by simp)
          · rw [if_neg c11] at H
            exact absurd H (by simp)
        · rw [if_neg c10] at H
          have c10b0 : decide (x8_1 < (wrap64 (28 + t140))) = false := decide_eq_false c10
          clear c10
          by_cases c20 : x5_1.size + 1 ≤ 9223372036854775807
          · rw [if_pos c20] at H
            have c20b0 := eq_true c20
            have c20b1 : decide (x5_1.size + 1 ≤ 9223372036854775807) = true := decide_eq_true c20
            try have c20b2 : (9223372036854775807 < x5_1.size + 1) = False := eq_false (Nat.not_lt.2 c20)
            by_cases c21 : (x5_1 ++ (⟨#[97]⟩ : ByteArray)).size + x6_1.size ≤ 9223372036854775807
            · rw [if_pos c21] at H
              have c21b0 := eq_true c21
              have c21b1 : decide ((x5_1 ++ (⟨#[97]⟩ : ByteArray)).size + x6_1.size ≤ 9223372036854775807) = true := decide_eq_true c21
              try have c21b2 : (9223372036854775807 < (x5_1 ++ (⟨#[97]⟩ : ByteArray)).size + x6_1.size) = False := eq_false (Nat.not_lt.2 c21)
              have c21n := c21
              try simp only [ByteArray.size_append, szA1, szA2] at c21n
              have c21b3 := eq_false (Nat.not_lt.2 c21n)
              clear c21n
              have HC22 := Aside0.mk H
              clear H
              go_upto_if 35 with (fail)
              go_cut [9] (fun v9 wc => ∃ (kq : Nat) (x9_21 : ByteArray), v9 = .string x9_21 ∧ Aside0 (thyrsuslaw3_FormsDeep.j1 kq (wrap64 (28 + t140)) x9_21 x142000_1 x142001_1 x142002_1 x142003_1 = some r) ∧ Aside0 (kq ≤ k1) ∧ Aside0 (Kd.N k42 42 wc w.heap.size (fun k_ => k_ ≠ gb141) u142003 x142003_1) ∧ Aside0 (wc.heap[gb141]? = some (.cells #[.int .i64 x142000_1, .int .i64 x142001_1, .string x142002_1, u142003] 42 (0, 0))) ∧ Aside0 (Below w.heap.size w wc))
              case first =>
                have H := HC22.out
                clear HC22
                by_cases c23 : a1 = true
                · subst c23
                  have H1 : (if 2 + ((x5_1 ++ (⟨#[97]⟩ : ByteArray)) ++ x6_1).size ≤ 9223372036854775807 then (if ((⟨#[98, 32]⟩ : ByteArray) ++ ((x5_1 ++ (⟨#[97]⟩ : ByteArray)) ++ x6_1)).size + 2 ≤ 9223372036854775807 then (thyrsuslaw3_FormsDeep.j1 k1 (wrap64 (28 + t140)) (((⟨#[98, 32]⟩ : ByteArray) ++ ((x5_1 ++ (⟨#[97]⟩ : ByteArray)) ++ x6_1)) ++ (⟨#[32, 99]⟩ : ByteArray)) x142000_1 x142001_1 x142002_1 x142003_1) else (none)) else (none)) = some r := by rw [if_pos rfl] at H; exact H
                  clear H
                  have H := H1
                  clear H1
                  by_cases c24 : 2 + ((x5_1 ++ (⟨#[97]⟩ : ByteArray)) ++ x6_1).size ≤ 9223372036854775807
                  · rw [if_pos c24] at H
                    have c24b0 := eq_true c24
                    have c24b1 : decide (2 + ((x5_1 ++ (⟨#[97]⟩ : ByteArray)) ++ x6_1).size ≤ 9223372036854775807) = true := decide_eq_true c24
                    try have c24b2 : (9223372036854775807 < 2 + ((x5_1 ++ (⟨#[97]⟩ : ByteArray)) ++ x6_1).size) = False := eq_false (Nat.not_lt.2 c24)
                    have c24n := c24
                    try simp only [ByteArray.size_append, szA1, szA2] at c24n
                    have c24b3 := eq_false (Nat.not_lt.2 c24n)
                    clear c24n
                    by_cases c25 : ((⟨#[98, 32]⟩ : ByteArray) ++ ((x5_1 ++ (⟨#[97]⟩ : ByteArray)) ++ x6_1)).size + 2 ≤ 9223372036854775807
                    · rw [if_pos c25] at H
                      have c25b0 := eq_true c25
                      have c25b1 : decide (((⟨#[98, 32]⟩ : ByteArray) ++ ((x5_1 ++ (⟨#[97]⟩ : ByteArray)) ++ x6_1)).size + 2 ≤ 9223372036854775807) = true := decide_eq_true c25
                      try have c25b2 : (9223372036854775807 < ((⟨#[98, 32]⟩ : ByteArray) ++ ((x5_1 ++ (⟨#[97]⟩ : ByteArray)) ++ x6_1)).size + 2) = False := eq_false (Nat.not_lt.2 c25)
                      have c25n := c25
                      try simp only [ByteArray.size_append, szA1, szA2] at c25n
                      have c25b3 := eq_false (Nat.not_lt.2 c25n)
                      clear c25n
                      have H' := Aside0.mk H
                      clear H
                      go_wp2
                      go_meet
                      case rel => exact ⟨_, (((⟨#[98, 32]⟩ : ByteArray) ++ ((x5_1 ++ (⟨#[97]⟩ : ByteArray)) ++ x6_1)) ++ (⟨#[32, 99]⟩ : ByteArray)), (by first | rfl | (simp; done) | (simp [*]; done)), H', ⟨by have := HK1.out; first | omega | exact Nat.le_refl _⟩, ⟨by (with_reducible repeat (first | apply Kd.N_alloc | apply Kd.N_drewN | apply Kd.N_drew)); exact HO_142003.out⟩, ⟨by (with_reducible repeat (first | refine blk_drewN ?_ _ | refine blk_drew ?_ | refine blk_alloc ?_ _)); exact BK141.out⟩, ⟨by repeat (first | (with_reducible first | exact HB.out | apply below_alloc | apply pw_below_drewN | apply below_drew1 | refine below_set ?_ GE141.out) | exact HB.out)⟩⟩
                    · rw [if_neg c25] at H
                      exact absurd H (by simp)
                  · rw [if_neg c24] at H
                    exact absurd H (by simp)
                · replace c23 := Bool.eq_false_iff.mpr c23
                  subst c23
                  have H1 : (thyrsuslaw3_FormsDeep.j1 k1 (wrap64 (28 + t140)) ((x5_1 ++ (⟨#[97]⟩ : ByteArray)) ++ x6_1) x142000_1 x142001_1 x142002_1 x142003_1) = some r := by rw [if_neg (show ¬ (false = true) by decide)] at H; exact H
                  clear H
                  have H := H1
                  clear H1
                  have H' := Aside0.mk H
                  clear H
                  go_wp2
                  go_meet
                  case rel => exact ⟨_, ((x5_1 ++ (⟨#[97]⟩ : ByteArray)) ++ x6_1), (by first | rfl | (simp; done) | (simp [*]; done)), H', ⟨by have := HK1.out; first | omega | exact Nat.le_refl _⟩, ⟨by (with_reducible repeat (first | apply Kd.N_alloc | apply Kd.N_drewN | apply Kd.N_drew)); exact HO_142003.out⟩, ⟨by (with_reducible repeat (first | refine blk_drewN ?_ _ | refine blk_drew ?_ | refine blk_alloc ?_ _)); exact BK141.out⟩, ⟨by repeat (first | (with_reducible first | exact HB.out | apply below_alloc | apply pw_below_drewN | apply below_drew1 | refine below_set ?_ GE141.out) | exact HB.out)⟩⟩
              case rest =>
                clear HC22
                try clear c1
                try clear c2
                try clear p2
                try clear c4
                try clear p6
                try clear c8
                try clear c10
                try clear c10b0
                try clear c11
                try clear c11b0
                try clear c11b1
                try clear c11b2
                try clear c12
                try clear c12b0
                try clear c12b1
                try clear c12b2
                try clear c20
                try clear c20b0
                try clear c20b1
                try clear c20b2
                try clear c21
                try clear c21b0
                try clear c21b1
                try clear c21b2
                try clear c23
                try clear c24
                try clear c24b0
                try clear c24b1
                try clear c24b2
                try clear c25
                try clear c25b0
                try clear c25b1
                try clear c25b2
                try clear hcz13_0
                try clear hcz13_1
                try clear hcz13_2
                try clear hcz13_3
                try clear hcz18_0
                try clear hcz18_1
                try clear hcz18_2
                try clear hcz18_3
                try clear hcz8_0
                try clear hcz8_1
                try clear hcz8_2
                try clear hcz8_3
                try clear hfz13_0
                try clear hfz13_1
                try clear hfz13_2
                try clear hfz13_3
                try clear hfz18_0
                try clear hfz18_1
                try clear hfz18_2
                try clear hfz18_3
                try clear hfz8_0
                try clear hfz8_1
                try clear hfz8_2
                try clear hfz8_3
                try clear p2
                try clear p6
                obtain ⟨kq, x9_21, rfl, HA, HJ21, HO_142003, BK141, HB⟩ := hcut
                cases kq with
                | zero => exact absurd HA.out (by simp [thyrsuslaw3_FormsDeep.j1])
                | succ kj21 =>
                  have H := HA.out
                  clear HA
                  simp only [thyrsuslaw3_FormsDeep.j1] at H
                  replace H := Option.bind_eq_some_iff.mp H
                  obtain ⟨⟨t145, t146, t147⟩, A260, H⟩ := H
                  replace H : (if (wrap64 (28 + t140)) > 30 then (if t147 = 5 then (if (t145.length : Int) = 0 then (if t146 ≥ 0 then (if t146 < (x9_21.size : Int) then (if 0 ≤ t146 then (if (bt x9_21 t146) = 40 then ((forms_Check.f kj21 x142000_1 x142001_1 x142002_1 x142003_1).bind fun t150 => (some (t150 == 5))) else (none)) else (none)) else (none)) else (none)) else (none)) else (none)) else (if t147 = 0 then ((forms_Check.f kj21 x142000_1 x142001_1 x142002_1 x142003_1).bind fun t151 => (if t151 = 0 then (some (decide ((t145.length : Int) > 0))) else (none))) else (none))) = some r := H
                  have A26 := Aside0.mk A260
                  clear A260
                  by_cases c27 : (wrap64 (28 + t140)) > 30
                  · rw [if_pos c27] at H
                    have c27b0 : decide (30 < (wrap64 (28 + t140))) = true := decide_eq_true c27
                    clear c27
                    by_cases c28 : t147 = 5
                    · rw [if_pos c28] at H
                      have c28b0 : (t147 == 5) = true := beq_iff_eq.mpr c28
                      have c28b1 : (t147 != 5) = false := bne_eq_false_iff_eq.mpr c28
                      clear c28
                      by_cases c29 : (t145.length : Int) = 0
                      · rw [if_pos c29] at H
                        have c29b0 : ((t145.length : Int) == 0) = true := beq_iff_eq.mpr c29
                        have c29b1 : ((t145.length : Int) != 0) = false := bne_eq_false_iff_eq.mpr c29
                        clear c29
                        by_cases c30 : t146 ≥ 0
                        · rw [if_pos c30] at H
                          have c30b0 : decide (0 ≤ t146) = true := decide_eq_true c30
                          clear c30
                          by_cases c31 : t146 < (x9_21.size : Int)
                          · rw [if_pos c31] at H
                            have c31b0 : decide (t146 < (x9_21.size : Int)) = true := decide_eq_true c31
                            clear c31
                            by_cases c32 : 0 ≤ t146
                            · rw [if_pos c32] at H
                              have c32b0 : decide (0 ≤ t146) = true := decide_eq_true c32
                              clear c32
                              by_cases c34 : (bt x9_21 t146) = 40
                              · rw [if_pos c34] at H
                                have c34b0 : ((bt x9_21 t146) == 40) = true := beq_iff_eq.mpr c34
                                have c34b1 : ((bt x9_21 t146) != 40) = false := bne_eq_false_iff_eq.mpr c34
                                clear c34
                                replace H := Option.bind_eq_some_iff.mp H
                                obtain ⟨t150, A350, H⟩ := H
                                replace H : (some (t150 == 5)) = some r := H
                                have A35 := Aside0.mk A350
                                clear A350
                                obtain rfl := Option.some.inj H
                                go_wp2_with (first | ((with_reducible refine gate_callee (f := 13) rfl ?_); refine goesL_ (some 41) rfl rfl Tryd.func13 (by kernel_rfl) rfl #[.string x9_21] rfl (by (try simp only [List.map_toArray, List.map_cons, List.map_nil]); first | done | rfl | (simp only [List.length_drop, List.length_take]; rfl)) ?_; (with_reducible refine (forms_Parse.calls x9_21 t145 t146 t147 _ A26.out).mono ?_); rintro e w36 ⟨v148, rfl, ho0, hb⟩; refine ⟨_, rfl, ?_⟩; have n0_ := Aside0.mk (Kd.N_elder' (by (with_reducible repeat (first | apply Kd.N_alloc | apply Kd.N_drewN | apply Kd.N_drew)); exact HO_142003.out) (by first | exact Kd.N_base ho0 | exact Kd.R_base ho0) hb); have n1_ := Aside0.mk (Kd.N_lower (Kd.N_mono (ok' := fun k_ => some k_ ≠ (u142003 : Value).ownBlock ∧ k_ ≠ gb141) (Kd.R_N (Kd.R_bound ho0)) (fun k_ hk_ => ⟨(Kd.fresh' (Kd.N_lt (by (with_reducible repeat (first | apply Kd.N_alloc | apply Kd.N_drewN | apply Kd.N_drew)); exact HO_142003.out)) k_ hk_.2.1), (Kd.freshB (g := gb141) (o := .cells #[.int .i64 x142000_1, .int .i64 x142001_1, .string x142002_1, u142003] 42 (0, 0)) (by (with_reducible repeat (first | refine blk_drewN ?_ _ | refine blk_drew ?_ | refine blk_alloc ?_ _)); exact BK141.out) k_ hk_.2.1)⟩)) (below_size (by repeat (first | (with_reducible first | exact HB.out | apply below_alloc | apply pw_below_drewN | apply below_drew1 | refine below_set ?_ GE141.out) | exact HB.out)))); have n2_ := Aside0.mk (blk_below (g := gb141) (o := .cells #[.int .i64 x142000_1, .int .i64 x142001_1, .string x142002_1, u142003] 42 (0, 0)) (by (with_reducible repeat (first | refine blk_drewN ?_ _ | refine blk_drew ?_ | refine blk_alloc ?_ _)); exact BK141.out) hb); have n3_ := Aside0.mk (below_step (by repeat (first | (with_reducible first | exact HB.out | apply below_alloc | apply pw_below_drewN | apply below_drew1 | refine below_set ?_ GE141.out) | exact HB.out)) hb); clear HO_142003; clear BK141; clear HB; have HO_142003 := n0_; have HO149 := n1_; have BK141 := n2_; have HB := n3_; clear n0_ n1_ n2_ n3_; (try clear hb); (try clear hb2); (try clear hk); (try clear hi); (try clear ho0); obtain ⟨Ao37, co37, eo37⟩ := Kd.N_slice HO149.out; subst eo37; have p33 : 0 ≤ (t146 : Int) := of_decide_eq_true (by first | (with_reducible assumption) | assumption); have q33 : t146 < (x9_21.size : Int) := of_decide_eq_true (by first | (with_reducible assumption) | assumption); have hx33 := bt_at x9_21 t146; replace p33 := eq_true p33; replace q33 := eq_true q33; have hcz38_0 : w36.cell? ⟨gb141, 0, none⟩ = some (.int .i64 x142000_1) := (blk_cell BK141.out 0).trans rfl; have hcz38_1 : w36.cell? ⟨gb141, 1, none⟩ = some (.int .i64 x142001_1) := (blk_cell BK141.out 1).trans rfl; have hcz38_2 : w36.cell? ⟨gb141, 2, none⟩ = some (.string x142002_1) := (blk_cell BK141.out 2).trans rfl; have hcz38_3 : w36.cell? ⟨gb141, 3, none⟩ = some (u142003) := (blk_cell BK141.out 3).trans rfl; have hfz38_0 := blk_frozen BK141.out 0; have hfz38_1 := blk_frozen BK141.out 1; have hfz38_2 := blk_frozen BK141.out 2; have hfz38_3 := blk_frozen BK141.out 3; obtain ⟨Ao39, co39, eo39⟩ := Kd.N_slice HO_142003.out; subst eo39) | (go_at_call 21; (with_reducible refine (forms_Check.calls kj21 x142000_1 x142001_1 x142002_1 _ _ x142003_1 t150 _ ?side1 ?side2 A35.out).mono ?_); (case side1 => repeat (first | exact (Kd.N_reads' HO_142003.out).2.2 | (with_reducible refine Kd.C_alloc ?_ _) | (with_reducible refine Kd.C_drewN ?_ _) | (with_reducible refine Kd.C_drew ?_))); (case side2 => exact (Kd.N_reads' HO_142003.out).2.1); rintro e w40 ⟨rfl, hb⟩; have n0_ := Aside0.mk (Kd.N_below (by (with_reducible repeat (first | apply Kd.N_alloc | apply Kd.N_drewN | apply Kd.N_drew)); exact HO_142003.out) hb); have n1_ := Aside0.mk (Kd.N_below (by (with_reducible repeat (first | apply Kd.N_alloc | apply Kd.N_drewN | apply Kd.N_drew)); exact HO149.out) hb); have n2_ := Aside0.mk (blk_below (g := gb141) (o := .cells #[.int .i64 x142000_1, .int .i64 x142001_1, .string x142002_1, .slice Ao39 x142003_1.length co39] 42 (0, 0)) (by (with_reducible repeat (first | refine blk_drewN ?_ _ | refine blk_drew ?_ | refine blk_alloc ?_ _)); exact BK141.out) hb); have n3_ := Aside0.mk (below_step (by repeat (first | (with_reducible first | exact HB.out | apply below_alloc | apply pw_below_drewN | apply below_drew1 | refine below_set ?_ GE141.out) | exact HB.out)) hb); clear HO_142003; clear HO149; clear BK141; clear HB; have HO_142003 := n0_; have HO149 := n1_; have BK141 := n2_; have HB := n3_; clear n0_ n1_ n2_ n3_; (try clear hb); (try clear hb2); (try clear hk); (try clear hi)))
                                go_ret
                                exact ⟨by first | rfl | (simp [errW_none, errW_some] <;> rfl) | (simp [*, errW_none, errW_some] <;> rfl), by repeat (first | (with_reducible first | exact HB.out | apply below_alloc | apply pw_below_drewN | apply below_drew1 | refine below_set ?_ GE141.out) | exact HB.out)⟩
                              · rw [if_neg c34] at H
                                exact absurd H (by simp)
                            · rw [if_neg c32] at H
                              exact absurd H (by simp)
                          · rw [if_neg c31] at H
                            exact absurd H (by simp)
                        · rw [if_neg c30] at H
                          exact absurd H (by simp)
                      · rw [if_neg c29] at H
                        exact absurd H (by simp)
                    · rw [if_neg c28] at H
                      exact absurd H (by simp)
                  · rw [if_neg c27] at H
                    have c27b0 : decide (30 < (wrap64 (28 + t140))) = false := decide_eq_false c27
                    clear c27
                    by_cases c41 : t147 = 0
                    · rw [if_pos c41] at H
                      have c41b0 : (t147 == 0) = true := beq_iff_eq.mpr c41
                      have c41b1 : (t147 != 0) = false := bne_eq_false_iff_eq.mpr c41
                      clear c41
                      replace H := Option.bind_eq_some_iff.mp H
                      obtain ⟨t151, A420, H⟩ := H
                      replace H : (if t151 = 0 then (some (decide ((t145.length : Int) > 0))) else (none)) = some r := H
                      have A42 := Aside0.mk A420
                      clear A420
                      by_cases c43 : t151 = 0
                      · rw [if_pos c43] at H
                        have c43b0 : (t151 == 0) = true := beq_iff_eq.mpr c43
                        have c43b1 : (t151 != 0) = false := bne_eq_false_iff_eq.mpr c43
                        clear c43
                        obtain rfl := Option.some.inj H
                        go_wp2_with (first | ((with_reducible refine gate_callee (f := 13) rfl ?_); refine goesL_ (some 41) rfl rfl Tryd.func13 (by kernel_rfl) rfl #[.string x9_21] rfl (by (try simp only [List.map_toArray, List.map_cons, List.map_nil]); first | done | rfl | (simp only [List.length_drop, List.length_take]; rfl)) ?_; (with_reducible refine (forms_Parse.calls x9_21 t145 t146 t147 _ A26.out).mono ?_); rintro e w44 ⟨v148, rfl, ho0, hb⟩; refine ⟨_, rfl, ?_⟩; have n0_ := Aside0.mk (Kd.N_elder' (by (with_reducible repeat (first | apply Kd.N_alloc | apply Kd.N_drewN | apply Kd.N_drew)); exact HO_142003.out) (by first | exact Kd.N_base ho0 | exact Kd.R_base ho0) hb); have n1_ := Aside0.mk (Kd.N_lower (Kd.N_mono (ok' := fun k_ => some k_ ≠ (u142003 : Value).ownBlock ∧ k_ ≠ gb141) (Kd.R_N (Kd.R_bound ho0)) (fun k_ hk_ => ⟨(Kd.fresh' (Kd.N_lt (by (with_reducible repeat (first | apply Kd.N_alloc | apply Kd.N_drewN | apply Kd.N_drew)); exact HO_142003.out)) k_ hk_.2.1), (Kd.freshB (g := gb141) (o := .cells #[.int .i64 x142000_1, .int .i64 x142001_1, .string x142002_1, u142003] 42 (0, 0)) (by (with_reducible repeat (first | refine blk_drewN ?_ _ | refine blk_drew ?_ | refine blk_alloc ?_ _)); exact BK141.out) k_ hk_.2.1)⟩)) (below_size (by repeat (first | (with_reducible first | exact HB.out | apply below_alloc | apply pw_below_drewN | apply below_drew1 | refine below_set ?_ GE141.out) | exact HB.out)))); have n2_ := Aside0.mk (blk_below (g := gb141) (o := .cells #[.int .i64 x142000_1, .int .i64 x142001_1, .string x142002_1, u142003] 42 (0, 0)) (by (with_reducible repeat (first | refine blk_drewN ?_ _ | refine blk_drew ?_ | refine blk_alloc ?_ _)); exact BK141.out) hb); have n3_ := Aside0.mk (below_step (by repeat (first | (with_reducible first | exact HB.out | apply below_alloc | apply pw_below_drewN | apply below_drew1 | refine below_set ?_ GE141.out) | exact HB.out)) hb); clear HO_142003; clear BK141; clear HB; have HO_142003 := n0_; have HO149 := n1_; have BK141 := n2_; have HB := n3_; clear n0_ n1_ n2_ n3_; (try clear hb); (try clear hb2); (try clear hk); (try clear hi); (try clear ho0); have hcz45_0 : w44.cell? ⟨gb141, 0, none⟩ = some (.int .i64 x142000_1) := (blk_cell BK141.out 0).trans rfl; have hcz45_1 : w44.cell? ⟨gb141, 1, none⟩ = some (.int .i64 x142001_1) := (blk_cell BK141.out 1).trans rfl; have hcz45_2 : w44.cell? ⟨gb141, 2, none⟩ = some (.string x142002_1) := (blk_cell BK141.out 2).trans rfl; have hcz45_3 : w44.cell? ⟨gb141, 3, none⟩ = some (u142003) := (blk_cell BK141.out 3).trans rfl; have hfz45_0 := blk_frozen BK141.out 0; have hfz45_1 := blk_frozen BK141.out 1; have hfz45_2 := blk_frozen BK141.out 2; have hfz45_3 := blk_frozen BK141.out 3; obtain ⟨Ao46, co46, eo46⟩ := Kd.N_slice HO_142003.out; subst eo46) | (go_at_call 21; (with_reducible refine (forms_Check.calls kj21 x142000_1 x142001_1 x142002_1 _ _ x142003_1 t151 _ ?side1 ?side2 A42.out).mono ?_); (case side1 => repeat (first | exact (Kd.N_reads' HO_142003.out).2.2 | (with_reducible refine Kd.C_alloc ?_ _) | (with_reducible refine Kd.C_drewN ?_ _) | (with_reducible refine Kd.C_drew ?_))); (case side2 => exact (Kd.N_reads' HO_142003.out).2.1); rintro e w47 ⟨rfl, hb⟩; have n0_ := Aside0.mk (Kd.N_below (by (with_reducible repeat (first | apply Kd.N_alloc | apply Kd.N_drewN | apply Kd.N_drew)); exact HO_142003.out) hb); have n1_ := Aside0.mk (Kd.N_below (by (with_reducible repeat (first | apply Kd.N_alloc | apply Kd.N_drewN | apply Kd.N_drew)); exact HO149.out) hb); have n2_ := Aside0.mk (blk_below (g := gb141) (o := .cells #[.int .i64 x142000_1, .int .i64 x142001_1, .string x142002_1, .slice Ao46 x142003_1.length co46] 42 (0, 0)) (by (with_reducible repeat (first | refine blk_drewN ?_ _ | refine blk_drew ?_ | refine blk_alloc ?_ _)); exact BK141.out) hb); have n3_ := Aside0.mk (below_step (by repeat (first | (with_reducible first | exact HB.out | apply below_alloc | apply pw_below_drewN | apply below_drew1 | refine below_set ?_ GE141.out) | exact HB.out)) hb); clear HO_142003; clear HO149; clear BK141; clear HB; have HO_142003 := n0_; have HO149 := n1_; have BK141 := n2_; have HB := n3_; clear n0_ n1_ n2_ n3_; (try clear hb); (try clear hb2); (try clear hk); (try clear hi); obtain ⟨Ao48, co48, eo48⟩ := Kd.N_slice HO149.out; subst eo48))
                        go_ret
                        exact ⟨by first | rfl | (simp [errW_none, errW_some] <;> rfl) | (simp [*, errW_none, errW_some] <;> rfl), by repeat (first | (with_reducible first | exact HB.out | apply below_alloc | apply pw_below_drewN | apply below_drew1 | refine below_set ?_ GE141.out) | exact HB.out)⟩
                      · rw [if_neg c43] at H
                        exact absurd H (by simp)
                    · rw [if_neg c41] at H
                      exact absurd H (by simp)
            · rw [if_neg c21] at H
              exact absurd H (by simp)
          · rw [if_neg c20] at H
            exact absurd H (by simp)
  · replace c4 := Bool.eq_false_iff.mpr c4
    subst c4
    have H1 : (none) = some r := by rw [if_neg (show ¬ (false = true) by decide)] at H; exact H
    clear H
    have H := H1
    clear H1
    exact absurd H (by simp)

/-- THE ONE PURE STATEMENT of thyrsuslaw3_FormsDeep: yours. -/
def thyrsuslaw3_FormsDeep.Pure : Prop := ∀ (a0 : Int) (a1 : Bool), (Lit.int .i64 a0).wf = true → ∃ k, thyrsuslaw3_FormsDeep.f k a0 a1 = some true
theorem thyrsuslaw3_FormsDeep.walk (P : thyrsuslaw3_FormsDeep.Pure) (a0 : Int) (a1 : Bool) (w : World) (hT : TabP w) (w0 : (Lit.int .i64 a0).wf = true) :
    Calls Tryd.prog 8 #[.int .i64 a0, .bool a1] w fun e w' => e = .returned (.bool true) ∧ Below w.heap.size w w' := by
  obtain ⟨k, h⟩ := P a0 a1 w0
  refine (thyrsuslaw3_FormsDeep.calls k a0 a1 true w hT h).mono ?_
  rintro e w' ⟨rfl, hd⟩
  exact ⟨rfl, hd⟩
end Go.Proofs.YtkkmgahgejjhgaaDoor.P
