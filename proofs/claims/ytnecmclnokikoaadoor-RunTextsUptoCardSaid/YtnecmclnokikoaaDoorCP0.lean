/- Several texts in one. -/
import Derived.Shelf.Strconv.Itoa0
import Derived.Shelf.Strconv.Itoa1
import Derived.Shelf.LaysM
import Derived.Shelf.Strconv.Itoa2
import Derived.Shelf.Strconv.Itoa3
import Derived.Test.YtnecmclnokikoaaDoorProg
import Derived.Test.YtnecmclnokikoaaDoorCPx0
import Derived.Test.YtnecmclnokikoaaDoorCPx1
import Derived.Test.YtnecmclnokikoaaDoorCHandA
import Derived.Laws.Tables
import Derived.Test.YtnecmclnokikoaaDoorCHandG
import Derived.Deep.LoopGhost
import Derived.WalkMore
import Derived.Below
import Derived.Deep.Draws
import Derived.Deep.AppendLies
import Derived.Maps.AppendAt
import Derived.OwnWalk
import Derived.Laws.BytesArg
import Derived.Laws.MakeOwn
import Derived.Laws.OwnMore
import Derived.Deep.OwnRows
import Derived.Tactics
import Derived.Lib.ConvBytes
import Derived.Laws.Slices
import Derived.WalkKit
import Derived.KernelRfl
import Derived.RowKit3
import Derived.Deep.QuietTactic
import Derived.BigQuiet
import Derived.WideLaws
import Derived.Deep.DeepCutAuto
import Derived.Deep.CutBlock
import Derived.Deep.RegionHeld3
import Derived.Laws.Rows
import Derived.Lib.AppendStr
import Derived.ArgAppend
import Derived.Laws.IdiomCopy
import Derived.OrdersHeld
import Derived.Laws.BitsLemmas
import Derived.RowKit
import Derived.Test.YtnecmclnokikoaaDoorCWWords
import Derived.Test.YtnecmclnokikoaaDoorCWLast
import Derived.Test.YtnecmclnokikoaaDoorCWTab
import Derived.Test.YtnecmclnokikoaaDoorCWFour
import Derived.Test.YtnecmclnokikoaaDoorCWQPut
import Derived.Test.YtnecmclnokikoaaDoorCWApart
import Derived.Test.YtnecmclnokikoaaDoorCWArr
import Derived.Test.YtnecmclnokikoaaDoorCWZeros
import Derived.Test.YtnecmclnokikoaaDoorCWFoot
import Derived.Test.YtnecmclnokikoaaDoorCWKept
import Derived.Test.YtnecmclnokikoaaDoorCWShare
import Derived.Test.YtnecmclnokikoaaDoorCWN
import Derived.Test.YtnecmclnokikoaaDoorCWFootNe
import Derived.Test.YtnecmclnokikoaaDoorCWAt
import Derived.Test.YtnecmclnokikoaaDoorCWEqStruct
import Derived.Test.YtnecmclnokikoaaDoorCWRepsOne
import Derived.Test.YtnecmclnokikoaaDoorCWInv
import Derived.Test.YtnecmclnokikoaaDoorCWInvWords
import Derived.Test.YtnecmclnokikoaaDoorCWGuard
import Derived.Test.YtnecmclnokikoaaDoorCWNEv
import Derived.Test.YtnecmclnokikoaaDoorCWMore
import Derived.Test.YtnecmclnokikoaaDoorCHandB
import Derived.Test.YtnecmclnokikoaaDoorCHandE
/-
  DERIVED: THE SHELF's CONTRACTS AT THIS DUMP, IN PLAIN WORDS (tools/lay-plain.mjs out of 'TrydShelf.lean', which tools/lay-shelf.mjs wrote): THE SAME DECLARATIONS UNDER THE SAME NAMES: 'import', 'namespace', 'open', 'def', 'theorem' AND NOTHING ELSE: no command of the shelf's: FOR A HAND-IN. Each laying: the table of numbers ('.._ren') and one theorem, a field a fact of the dump's own or the kernel's comparison; each contract: ONE APPLICATION.
-/
namespace Go.Proofs
open Go.Shelf
def Tryd.laysM171_ren : Go.Shelf.Ren := ⟨fun | 171 => 33 | 243 => 55 | 246 => 76 | 283 => 86 | 284 => 87 | 285 => 88 | 286 => 89 | 129 => 93 | 317 => 92 | 318 => 94 | 319 => 95 | 320 => 96 | 337 => 97 | 338 => 98 | n => n, fun | 3 => 3 | 9 => 9 | 2 => 2 | 4 => 4 | 171 => 138 | 0 => 0 | 53 => 139 | 37 => 77 | 5 => 5 | 173 => 142 | 212 => 146 | 51 => 147 | 20 => 20 | 213 => 148 | 46 => 149 | 232 => 152 | 233 => 153 | n => n, fun | 17 => 0 | 18 => 1 | 19 => 2 | n => n⟩
theorem Tryd.laysM171 : Go.Proofs.LaysM.n171 Tryd.prog Tryd.laysM171_ren := {
  mixed := by kernel_rfl
  f129 := Tryd.func93.trans (congrArg some (by kernel_rfl))
  f171 := Tryd.func33.trans (congrArg some (by kernel_rfl))
  f243 := Tryd.func55.trans (congrArg some (by kernel_rfl))
  f246 := Tryd.func76.trans (congrArg some (by kernel_rfl))
  f283 := Tryd.func86.trans (congrArg some (by kernel_rfl))
  f284 := Tryd.func87.trans (congrArg some (by kernel_rfl))
  f285 := Tryd.func88.trans (congrArg some (by kernel_rfl))
  f286 := Tryd.func89.trans (congrArg some (by kernel_rfl))
  f317 := Tryd.func92.trans (congrArg some (by kernel_rfl))
  f318 := Tryd.func94.trans (congrArg some (by kernel_rfl))
  f319 := Tryd.func95.trans (congrArg some (by kernel_rfl))
  f320 := Tryd.func96.trans (congrArg some (by kernel_rfl))
  f337 := Tryd.func97.trans (congrArg some (by kernel_rfl))
  f338 := Tryd.func98.trans (congrArg some (by kernel_rfl))
  t0 := Tryd.underlying0
  a0 := Tryd.isAgg0
  z0 := Tryd.sizeOf0
  v0 := Tryd.zeroValue0
  t2 := Tryd.underlying2
  a2 := Tryd.isAgg2
  z2 := Tryd.sizeOf2
  v2 := Tryd.zeroValue2
  t3 := Tryd.underlying3
  a3 := Tryd.isAgg3
  z3 := Tryd.sizeOf3
  v3 := Tryd.zeroValue3
  t4 := Tryd.underlying4
  a4 := Tryd.isAgg4
  z4 := Tryd.sizeOf4
  v4 := Tryd.zeroValue4
  t5 := Tryd.underlying5
  a5 := Tryd.isAgg5
  z5 := Tryd.sizeOf5
  v5 := Tryd.zeroValue5
  t9 := Tryd.underlying9
  a9 := Tryd.isAgg9
  z9 := Tryd.sizeOf9
  v9 := Tryd.zeroValue9
  t20 := Tryd.underlying20
  a20 := Tryd.isAgg20
  z20 := Tryd.sizeOf20
  v20 := Tryd.zeroValue20
  t37 := Tryd.underlying77
  a37 := Tryd.isAgg77
  z37 := Tryd.sizeOf77
  v37 := Tryd.zeroValue77
  t46 := Tryd.underlying149
  a46 := Tryd.isAgg149
  z46 := Tryd.sizeOf149
  v46 := Tryd.zeroValue149
  t51 := Tryd.underlying147
  a51 := Tryd.isAgg147
  z51 := Tryd.sizeOf147
  v51 := Tryd.zeroValue147
  t53 := Tryd.underlying139
  a53 := Tryd.isAgg139
  z53 := Tryd.sizeOf139
  v53 := Tryd.zeroValue139
  t171 := Tryd.underlying138
  a171 := Tryd.isAgg138
  z171 := Tryd.sizeOf138
  v171 := Tryd.zeroValue138
  t173 := Tryd.underlying142
  a173 := Tryd.isAgg142
  z173 := Tryd.sizeOf142
  v173 := Tryd.zeroValue142
  t212 := Tryd.underlying146
  a212 := Tryd.isAgg146
  z212 := Tryd.sizeOf146
  v212 := Tryd.zeroValue146
  t213 := Tryd.underlying148
  a213 := Tryd.isAgg148
  z213 := Tryd.sizeOf148
  t232 := Tryd.underlying152
  a232 := Tryd.isAgg152
  z232 := Tryd.sizeOf152
  v232 := Tryd.zeroValue152
  t233 := Tryd.underlying153
  a233 := Tryd.isAgg153
  z233 := Tryd.sizeOf153
  v233 := Tryd.zeroValue153
  g17 := by kernel_rfl
  g18 := by kernel_rfl
  g19 := by kernel_rfl
  i0 := by kernel_rfl
  i2 := by kernel_rfl
  i3 := by kernel_rfl
  i4 := by kernel_rfl
  i5 := by kernel_rfl
  i9 := by kernel_rfl
  i20 := by kernel_rfl
  i37 := by kernel_rfl
  i46 := by kernel_rfl
  i51 := by kernel_rfl
  i53 := by kernel_rfl
  i171 := by kernel_rfl
  i173 := by kernel_rfl
  i212 := by kernel_rfl
  i232 := by kernel_rfl
  i233 := by kernel_rfl
  m17 := by kernel_rfl
  m18 := by kernel_rfl
  m19 := by kernel_rfl }
open Go.RowKit Go.Sort Go.Lib in
/-- strconv.Itoa: "Itoa is equivalent to FormatInt(int64(i), 10).": i's DECIMAL NUMERAL ('Lib.itoa': a '-' where i is negative, then the digits), FOR EVERY int. The world behind the call: the world before it, new blocks behind the heap (the library's 'var a [24]byte'), draws. (LAID: no walk: one application.) -/
theorem Tryd.strconv_Itoa (n : Int) (h0 : -9223372036854775808 ≤ n) (h1 : n ≤ 9223372036854775807) (w : World) (htab : Lib.TabIs Tryd.prog w "internal/strconv.uint64pow10" .u64 Lib.pow10Tab) :
    Calls Tryd.prog 33 #[.int .i64 n] w fun e w' => e = .returned (.string ⟨(Lib.itoa n).toArray⟩) ∧ ∃ k os, w' = grow (w.drewN k) os := Any.strconv_Itoa Tryd.laysM171 n h0 h1 w htab
end Go.Proofs
/- Go's library: strconv.Itoa (its table stands: TabP), in the print's form. -/
namespace Go.Proofs.YtnecmclnokikoaaDoor.P
open Go.RowKit Go.Proofs.YtnecmclnokikoaaDoorW.PrintWords Go.Proofs.YtnecmclnokikoaaDoorW.PrintLast Go.Proofs.YtnecmclnokikoaaDoorW.PrintMore
set_option linter.unusedVariables false
theorem szA1 (a : UInt8) : (⟨#[a]⟩ : ByteArray).size = 1 := rfl
theorem szA2 (a b : UInt8) : (⟨#[a, b]⟩ : ByteArray).size = 2 := rfl
/-- strconv's table of powers of ten holds what it was laid with. -/
def TabP (w : World) : Prop := Lib.TabIs Tryd.prog w "internal/strconv.uint64pow10" .u64 Lib.pow10Tab
theorem TabP.below {w w' : World} (h : TabP w) (hb : Below w.heap.size w w') : TabP w' := by
  obtain ⟨g, hg⟩ : ∃ g, Tryd.prog.globalNamed "internal/strconv.uint64pow10" = some g := by
    unfold TabP Lib.TabIs World.var? at h
    cases hg : Tryd.prog.globalNamed "internal/strconv.uint64pow10" with
    | none => rw [hg] at h; cases h
    | some g => exact ⟨g, rfl⟩
  unfold TabP Lib.TabIs World.var? at h ⊢
  rw [hg, Option.bind_some] at h ⊢
  have hlt : g < w.heap.size := Decidable.byContradiction fun hn => by
    rw [Array.getElem?_eq_none (Nat.le_of_not_lt hn)] at h
    cases h
  rw [hb.block g hlt]
  exact h
def strconv_Itoa.f (a0 : Int) : Option ByteArray := if -9223372036854775808 ≤ a0 ∧ a0 ≤ 9223372036854775807 then some ⟨(Lib.itoa a0).toArray⟩ else none
theorem strconv_Itoa.calls (a0 : Int) (r : ByteArray) (w : World) (hT : TabP w) (h : strconv_Itoa.f a0 = some r) :
    Calls Tryd.prog 33 #[.int .i64 a0] w fun e w' => e = .returned (.string r) ∧ Below w.heap.size w w' := by
  unfold strconv_Itoa.f at h
  by_cases h1 : -9223372036854775808 ≤ a0 ∧ a0 ≤ 9223372036854775807
  · rw [if_pos h1] at h
    cases Option.some.inj h
    refine (Tryd.strconv_Itoa a0 h1.1 h1.2 w hT).mono ?_
    rintro e w' ⟨rfl, k, os, rfl⟩
    exact ⟨rfl, rfl, rfl, rfl, (by show w.heap.size ≤ (w.heap ++ os).size; rw [Array.size_append]; omega), fun j hj => (show (w.heap ++ os)[j]? = w.heap[j]? from Array.getElem?_append_left hj)⟩
  · rw [if_neg h1] at h
    cases h
end Go.Proofs.YtnecmclnokikoaaDoor.P
-- Printed by mkprint.py (a program of this session, over the kit's print). Lean checks it.
namespace Go.Proofs.YtnecmclnokikoaaDoor.P
open Go.RowKit Go.Proofs.YtnecmclnokikoaaDoorW.PrintWords Go.Proofs.YtnecmclnokikoaaDoorW.PrintLast Go.Proofs.YtnecmclnokikoaaDoorW.PrintMore
attribute [local go_sem] max2_int min2_int max_two min_two max_three min_three max_four min_four   -- for this text's walks alone
set_option linter.unusedVariables false
set_option linter.unusedSimpArgs false

/-! ### thyrsuslaw4_within: function 35 -/
def thyrsuslaw4_within.f (a0 : Int) (a1 : Int) : Option (Int) := if a1 = 0 then (none) else (if (Int.tmod a0 a1) < 0 then (some (wrap64 ((Int.tmod a0 a1) + a1))) else (some (Int.tmod a0 a1)))
set_option maxHeartbeats 8000000 in
set_option maxRecDepth 100000 in
theorem thyrsuslaw4_within.calls (a0 : Int) (a1 : Int) (r : Int) (w : World) (h : thyrsuslaw4_within.f a0 a1 = some r) :
    Calls Tryd.prog 35 #[.int .i64 a0, .int .i64 a1] w fun e w' => e = .returned (.int .i64 r) ∧ Drawn0 w w' := by
  have H : (if a1 = 0 then (none) else (if (Int.tmod a0 a1) < 0 then (some (wrap64 ((Int.tmod a0 a1) + a1))) else (some (Int.tmod a0 a1)))) = some r := h
  clear h
  by_cases c3 : a1 = 0
  · rw [if_pos c3] at H
    exact absurd H (by simp)
  · rw [if_neg c3] at H
    have c3b0 : (a1 == 0) = false := beq_eq_false_iff_ne.mpr c3
    have c3b1 : (a1 != 0) = true := bne_iff_ne.mpr c3
    by_cases c4 : (Int.tmod a0 a1) < 0
    · rw [if_pos c4] at H
      have c4b0 : decide ((Int.tmod a0 a1) < 0) = true := decide_eq_true c4
      clear c4
      obtain rfl := Option.some.inj H
      go_enter Tryd.func35, Tryd.ntmps35
      go_wp2
      go_ret
      exact ⟨by first | rfl | (simp; done) | (simp [*]; done), by repeat (first | exact Drawn0.refl _ | apply Drawn0.step)⟩
    · rw [if_neg c4] at H
      have c4b0 : decide ((Int.tmod a0 a1) < 0) = false := decide_eq_false c4
      clear c4
      obtain rfl := Option.some.inj H
      go_enter Tryd.func35, Tryd.ntmps35
      go_wp2
      go_ret
      exact ⟨by first | rfl | (simp; done) | (simp [*]; done), by repeat (first | exact Drawn0.refl _ | apply Drawn0.step)⟩

/-! ### thyrsuslaw4_pick: function 36 -/
def thyrsuslaw4_pick.f (a0_0 : Int) (a0_1 : Int) (l0_2 : List (S24)) (a1 : Int) : Option (Int × Int × (List (S24))) := if a1 < (l0_2.length : Int) then (if 0 ≤ a1 then (some ((rd_T24 l0_2 a1).f0, (rd_T24 l0_2 a1).f1, (rd_T24 l0_2 a1).f2)) else (none)) else (some (wrap64 ((wrap64 (Int.tdiv a0_0 3)) + a1), wrap64 ((wrap64 (Int.tdiv a0_1 5)) + (wrap64 (7 * a1))), ([] : List (S24))))
set_option maxHeartbeats 8000000 in
set_option maxRecDepth 100000 in
theorem thyrsuslaw4_pick.calls (a0_0 : Int) (a0_1 : Int) (P0_2_ : Nat → Prop) (A0_2 : Option Addr) (c0_2 : Nat) (l0_2 : List (S24)) (a1 : Int) (r1 : Int) (r2 : Int) (r3 : List (S24)) (w : World) (hs0_2 : Kd.V k24 24 w w.heap.size (fun k_ => P0_2_ k_) (.slice A0_2 l0_2.length c0_2) l0_2) (h : thyrsuslaw4_pick.f a0_0 a0_1 l0_2 a1 = some (r1, r2, r3)) :
    Calls Tryd.prog 36 #[.agg #[.int .i64 a0_0, .int .i64 a0_1, .slice A0_2 l0_2.length c0_2], .int .i64 a1] w fun e w' => ∃ v2_ : Value, e = .returned (.agg #[.int .i64 r1, .int .i64 r2, v2_]) ∧ Kd.V k24 24 w' w.heap.size (fun k_ => (P0_2_ k_ ∨ w.heap.size ≤ k_)) v2_ r3 ∧ Below w.heap.size w w' := by
  have hu24 := Tryd.underlying24
  have HO0_2 := Aside0.mk (show Kd.V k24 24 w w.heap.size (fun k_ => (P0_2_ k_ ∨ w.heap.size ≤ k_)) (.slice A0_2 l0_2.length c0_2) l0_2 from Kd.V_mono hs0_2 (fun k_ hk => .inl hk))
  have HB := Aside0.mk (Below.refl w.heap.size w)
  have H : (if a1 < (l0_2.length : Int) then (if 0 ≤ a1 then (some ((rd_T24 l0_2 a1).f0, (rd_T24 l0_2 a1).f1, (rd_T24 l0_2 a1).f2)) else (none)) else (some (wrap64 ((wrap64 (Int.tdiv a0_0 3)) + a1), wrap64 ((wrap64 (Int.tdiv a0_1 5)) + (wrap64 (7 * a1))), ([] : List (S24))))) = some (r1, r2, r3) := h
  clear h
  by_cases c3 : a1 < (l0_2.length : Int)
  · rw [if_pos c3] at H
    have c3b0 : decide (a1 < (l0_2.length : Int)) = true := decide_eq_true c3
    clear c3
    by_cases c4 : 0 ≤ a1
    · rw [if_pos c4] at H
      have c4b0 : decide (0 ≤ a1) = true := decide_eq_true c4
      clear c4
      simp only [Option.some.injEq, Prod.mk.injEq] at H
      obtain ⟨rfl, rfl, rfl⟩ := H
      go_enter Tryd.func36, Tryd.ntmps36
      go_wp2_with (first | ((with_reducible refine gate_dst (N := 2) rfl ?_); refine box_event ?hg (N := 2) ?hd (cs := #[.int .i64 a0_0, .int .i64 a0_1, .slice A0_2 l0_2.length c0_2]) (t := 24) ?hr ?_; (case hd => rfl); (case hg => rfl); (case hr => first | (go_simp; done) | (go_simp; rfl)); intro gb143 hg w5 hbox hb; have n0_ := Aside0.mk (Kd.V_below (Kd.V_elderB (by (with_reducible repeat (first | apply Kd.V_alloc | apply Kd.V_drewN | apply Kd.V_drew)); exact HO0_2.out) gb143 (Nat.le_of_eq hg.symm)) hb); have n1_ := Aside0.mk (below_step (by repeat (first | (with_reducible first | exact HB.out | apply below_alloc | apply pw_below_drewN | apply below_drew1) | exact HB.out)) hb); have n2_ := Aside0.mk (hbox); have n3_ := Aside0.mk ((by rw [hg]; exact (below_size (by repeat (first | (with_reducible first | exact HB.out | apply below_alloc | apply pw_below_drewN | apply below_drew1) | exact HB.out))) : w.heap.size ≤ gb143)); have n4_ := Aside0.mk ((by rw [hg]; exact (below_size (by repeat (first | (with_reducible first | exact HB.out | apply below_alloc | apply pw_below_drewN | apply below_drew1) | exact HB.out))) : w.heap.size ≤ gb143)); clear HO0_2; clear HB; have HO0_2 := n0_; have HB := n1_; have BK143 := n2_; have GW143 := n3_; have GE143 := n4_; clear n0_ n1_ n2_ n3_ n4_; clear hb hbox hg) | ((with_reducible refine gate_dst (N := 4) rfl ?_); refine box_event ?hg (N := 4) ?hd (cs := #[.int .i64 0, .int .i64 0, .slice none 0 0]) (t := 24) ?hr ?_; (case hd => rfl); (case hg => rfl); (case hr => first | (go_simp; done) | (go_simp; rfl)); intro gb144 hg w6 hbox hb; have n0_ := Aside0.mk (Kd.V_below (Kd.V_elderB (by (with_reducible repeat (first | apply Kd.V_alloc | apply Kd.V_drewN | apply Kd.V_drew)); exact HO0_2.out) gb144 (Nat.le_of_eq hg.symm)) hb); have n1_ := Aside0.mk (blk_below (g := gb143) (o := .cells #[.int .i64 a0_0, .int .i64 a0_1, .slice A0_2 l0_2.length c0_2] 24 (0, 0)) (by (with_reducible repeat (first | refine blk_drewN ?_ _ | refine blk_drew ?_ | refine blk_alloc ?_ _)); exact BK143.out) hb); have n2_ := Aside0.mk (below_step (by repeat (first | (with_reducible first | exact HB.out | apply below_alloc | apply pw_below_drewN | apply below_drew1 | refine below_set ?_ GE143.out) | exact HB.out)) hb); have n3_ := Aside0.mk (hbox); have n4_ := Aside0.mk ((by rw [hg]; exact (below_size (by repeat (first | (with_reducible first | exact HB.out | apply below_alloc | apply pw_below_drewN | apply below_drew1 | refine below_set ?_ GE143.out) | exact HB.out))) : w.heap.size ≤ gb144)); have n5_ := Aside0.mk ((by rw [hg]; exact (below_size (by repeat (first | (with_reducible first | exact HB.out | apply below_alloc | apply pw_below_drewN | apply below_drew1 | refine below_set ?_ GE143.out) | exact HB.out))) : w.heap.size ≤ gb144)); have n6_ := Aside0.mk ((by rw [hg]; exact Nat.ne_of_lt (blk_lt (g := gb143) (o := .cells #[.int .i64 a0_0, .int .i64 a0_1, .slice A0_2 l0_2.length c0_2] 24 (0, 0)) (by (with_reducible repeat (first | refine blk_drewN ?_ _ | refine blk_drew ?_ | refine blk_alloc ?_ _)); exact BK143.out)) : gb143 ≠ gb144)); have n7_ := Aside0.mk ((by rw [hg]; exact Nat.ne_of_gt (blk_lt (g := gb143) (o := .cells #[.int .i64 a0_0, .int .i64 a0_1, .slice A0_2 l0_2.length c0_2] 24 (0, 0)) (by (with_reducible repeat (first | refine blk_drewN ?_ _ | refine blk_drew ?_ | refine blk_alloc ?_ _)); exact BK143.out)) : gb144 ≠ gb143)); clear HO0_2; clear BK143; clear HB; have HO0_2 := n0_; have BK143 := n1_; have HB := n2_; have BK144 := n3_; have GW144 := n4_; have GE144 := n5_; have NB143_144 := n6_; have NB144_143 := n7_; clear n0_ n1_ n2_ n3_ n4_ n5_ n6_ n7_; clear hb hbox hg; have hnb7 := NB143_144.out; have hnc7 := NB144_143.out; have hcz8_0 : w6.cell? ⟨gb143, 0, none⟩ = some (.int .i64 a0_0) := (blk_cell BK143.out 0).trans rfl; have hcz8_1 : w6.cell? ⟨gb143, 1, none⟩ = some (.int .i64 a0_1) := (blk_cell BK143.out 1).trans rfl; have hcz8_2 : w6.cell? ⟨gb143, 2, none⟩ = some (.slice A0_2 l0_2.length c0_2) := (blk_cell BK143.out 2).trans rfl; have hfz8_0 := blk_frozen BK143.out 0; have hfz8_1 := blk_frozen BK143.out 1; have hfz8_2 := blk_frozen BK143.out 2; have p145 : 0 ≤ (a1 : Int) := of_decide_eq_true (by first | (with_reducible assumption) | assumption); have q145 : a1 < (l0_2.length : Int) := of_decide_eq_true (by first | (with_reducible assumption) | assumption); obtain ⟨ad145, A145_2, c145_2, e145, hx145_0, hx145_1, hx145_2, hl145_2, hi145_2⟩ := at_T24 (Kd.V_reads' HO0_2.out).2.2 a1 p145 q145; cases e145; obtain ⟨ce145, hce145, hMe145, hcc145⟩ := Kd.V_get HO0_2.out z24 a1 p145 (by first | exact q145 | exact of_decide_eq_true (by first | (with_reducible assumption) | assumption) | (have e_ := (Kd.V_reads' HO0_2.out).1; omega)); obtain ⟨ua145_2, uc145_2, rfl, ul145_2, ge145_2⟩ := k24_openF hMe145; have hv145_2 := hcc145 2 _ rfl; rw [add_field _ _ 2 (by omega)] at hv145_2; replace hv145_2 := Option.some.inj (hv145_2.symm.trans hx145_2); injection hv145_2 with hva_ hvn_ hvc_; rw [hva_] at ge145_2; rw [hvc_] at ul145_2; have HL145_2 := Aside0.mk (show Kd.V k24 24 _ w.heap.size _ _ ((rd_T24 l0_2 a1).f2) from Kd.V_mk ul145_2 ge145_2); clear hva_ hvn_ hvc_ ge145_2 ul145_2; clear hcc145 hce145; have HR145_2 := Aside0.mk hi145_2; have HC145_2 := Aside0.mk hl145_2; clear hi145_2 hl145_2; replace p145 := eq_true p145; replace q145 := eq_true q145; have hcz9_0 : w6.cell? ⟨gb144, 0, none⟩ = some (.int .i64 0) := (blk_cell BK144.out 0).trans rfl; have hcz9_1 : w6.cell? ⟨gb144, 1, none⟩ = some (.int .i64 0) := (blk_cell BK144.out 1).trans rfl; have hcz9_2 : w6.cell? ⟨gb144, 2, none⟩ = some (.slice none 0 0) := (blk_cell BK144.out 2).trans rfl; have hfz9_0 := blk_frozen BK144.out 0; have hfz9_1 := blk_frozen BK144.out 1; have hfz9_2 := blk_frozen BK144.out 2))
      refine bodyPost_ret (results_cell_row rfl _ _ gb144 24 #[.int .i64 ((rd_T24 l0_2 a1).f0), .int .i64 ((rd_T24 l0_2 a1).f1), .slice A145_2 ((rd_T24 l0_2 a1).f2).length c145_2] (0, 0) _ rfl (by (with_reducible repeat (first | refine blk_drewN ?_ _ | refine blk_drew ?_ | refine blk_alloc ?_ _)); refine blk_put (cs := #[.int .i64 ((rd_T24 l0_2 a1).f0), .int .i64 ((rd_T24 l0_2 a1).f1), .slice none 0 0]) ?_ 2 _ rfl; (with_reducible repeat (first | refine blk_drewN ?_ _ | refine blk_drew ?_ | refine blk_alloc ?_ _)); refine blk_put (cs := #[.int .i64 ((rd_T24 l0_2 a1).f0), .int .i64 0, .slice none 0 0]) ?_ 1 _ rfl; (with_reducible repeat (first | refine blk_drewN ?_ _ | refine blk_drew ?_ | refine blk_alloc ?_ _)); refine blk_put (cs := #[.int .i64 0, .int .i64 0, .slice none 0 0]) ?_ 0 _ rfl; (with_reducible repeat (first | refine blk_drewN ?_ _ | refine blk_drew ?_ | refine blk_alloc ?_ _)); exact BK144.out) Tryd.underlying24 rfl (by kernel_rfl)) rfl ?_
      exact ⟨_, by first | rfl | (simp [errW_none, errW_some] <;> rfl) | (simp [*, errW_none, errW_some] <;> rfl), by (with_reducible repeat (first | apply Kd.V_alloc | apply Kd.V_drewN | apply Kd.V_drew)); exact Kd.V_mono (Kd.V_far (p := ⟨gb144, 2, none⟩) (Kd.V_far (p := ⟨gb144, 1, none⟩) (Kd.V_far (p := ⟨gb144, 0, none⟩) (Kd.V_mono HL145_2.out (fun k_ hk => (⟨hk, hk.2⟩ : _ ∧ k_ ≠ gb144))) (fun _ hk => hk.2) (.int .i64 ((rd_T24 l0_2 a1).f0))) (fun _ hk => hk.2) (.int .i64 ((rd_T24 l0_2 a1).f1))) (fun _ hk => hk.2) (.slice A145_2 ((rd_T24 l0_2 a1).f2).length c145_2)) (fun _ hk => hk.1.1.1), by repeat (first | (with_reducible first | exact HB.out | apply below_alloc | apply pw_below_drewN | apply below_drew1 | refine below_set ?_ GE143.out | refine below_set ?_ GE144.out) | exact HB.out)⟩
    · rw [if_neg c4] at H
      exact absurd H (by simp)
  · rw [if_neg c3] at H
    have c3b0 : decide (a1 < (l0_2.length : Int)) = false := decide_eq_false c3
    clear c3
    simp only [Option.some.injEq, Prod.mk.injEq] at H
    obtain ⟨rfl, rfl, rfl⟩ := H
    go_enter Tryd.func36, Tryd.ntmps36
    go_wp2_with (first | ((with_reducible refine gate_dst (N := 2) rfl ?_); refine box_event ?hg (N := 2) ?hd (cs := #[.int .i64 a0_0, .int .i64 a0_1, .slice A0_2 l0_2.length c0_2]) (t := 24) ?hr ?_; (case hd => rfl); (case hg => rfl); (case hr => first | (go_simp; done) | (go_simp; rfl)); intro gb143 hg w10 hbox hb; have n0_ := Aside0.mk (Kd.V_below (Kd.V_elderB (by (with_reducible repeat (first | apply Kd.V_alloc | apply Kd.V_drewN | apply Kd.V_drew)); exact HO0_2.out) gb143 (Nat.le_of_eq hg.symm)) hb); have n1_ := Aside0.mk (below_step (by repeat (first | (with_reducible first | exact HB.out | apply below_alloc | apply pw_below_drewN | apply below_drew1) | exact HB.out)) hb); have n2_ := Aside0.mk (hbox); have n3_ := Aside0.mk ((by rw [hg]; exact (below_size (by repeat (first | (with_reducible first | exact HB.out | apply below_alloc | apply pw_below_drewN | apply below_drew1) | exact HB.out))) : w.heap.size ≤ gb143)); have n4_ := Aside0.mk ((by rw [hg]; exact (below_size (by repeat (first | (with_reducible first | exact HB.out | apply below_alloc | apply pw_below_drewN | apply below_drew1) | exact HB.out))) : w.heap.size ≤ gb143)); clear HO0_2; clear HB; have HO0_2 := n0_; have HB := n1_; have BK143 := n2_; have GW143 := n3_; have GE143 := n4_; clear n0_ n1_ n2_ n3_ n4_; clear hb hbox hg) | ((with_reducible refine gate_dst (N := 4) rfl ?_); refine box_event ?hg (N := 4) ?hd (cs := #[.int .i64 0, .int .i64 0, .slice none 0 0]) (t := 24) ?hr ?_; (case hd => rfl); (case hg => rfl); (case hr => first | (go_simp; done) | (go_simp; rfl)); intro gb144 hg w11 hbox hb; have n0_ := Aside0.mk (Kd.V_below (Kd.V_elderB (by (with_reducible repeat (first | apply Kd.V_alloc | apply Kd.V_drewN | apply Kd.V_drew)); exact HO0_2.out) gb144 (Nat.le_of_eq hg.symm)) hb); have n1_ := Aside0.mk (blk_below (g := gb143) (o := .cells #[.int .i64 a0_0, .int .i64 a0_1, .slice A0_2 l0_2.length c0_2] 24 (0, 0)) (by (with_reducible repeat (first | refine blk_drewN ?_ _ | refine blk_drew ?_ | refine blk_alloc ?_ _)); exact BK143.out) hb); have n2_ := Aside0.mk (below_step (by repeat (first | (with_reducible first | exact HB.out | apply below_alloc | apply pw_below_drewN | apply below_drew1 | refine below_set ?_ GE143.out) | exact HB.out)) hb); have n3_ := Aside0.mk (hbox); have n4_ := Aside0.mk ((by rw [hg]; exact (below_size (by repeat (first | (with_reducible first | exact HB.out | apply below_alloc | apply pw_below_drewN | apply below_drew1 | refine below_set ?_ GE143.out) | exact HB.out))) : w.heap.size ≤ gb144)); have n5_ := Aside0.mk ((by rw [hg]; exact (below_size (by repeat (first | (with_reducible first | exact HB.out | apply below_alloc | apply pw_below_drewN | apply below_drew1 | refine below_set ?_ GE143.out) | exact HB.out))) : w.heap.size ≤ gb144)); have n6_ := Aside0.mk ((by rw [hg]; exact Nat.ne_of_lt (blk_lt (g := gb143) (o := .cells #[.int .i64 a0_0, .int .i64 a0_1, .slice A0_2 l0_2.length c0_2] 24 (0, 0)) (by (with_reducible repeat (first | refine blk_drewN ?_ _ | refine blk_drew ?_ | refine blk_alloc ?_ _)); exact BK143.out)) : gb143 ≠ gb144)); have n7_ := Aside0.mk ((by rw [hg]; exact Nat.ne_of_gt (blk_lt (g := gb143) (o := .cells #[.int .i64 a0_0, .int .i64 a0_1, .slice A0_2 l0_2.length c0_2] 24 (0, 0)) (by (with_reducible repeat (first | refine blk_drewN ?_ _ | refine blk_drew ?_ | refine blk_alloc ?_ _)); exact BK143.out)) : gb144 ≠ gb143)); clear HO0_2; clear BK143; clear HB; have HO0_2 := n0_; have BK143 := n1_; have HB := n2_; have BK144 := n3_; have GW144 := n4_; have GE144 := n5_; have NB143_144 := n6_; have NB144_143 := n7_; clear n0_ n1_ n2_ n3_ n4_ n5_ n6_ n7_; clear hb hbox hg; have hnb12 := NB143_144.out; have hnc12 := NB144_143.out; have hcz13_0 : w11.cell? ⟨gb143, 0, none⟩ = some (.int .i64 a0_0) := (blk_cell BK143.out 0).trans rfl; have hcz13_1 : w11.cell? ⟨gb143, 1, none⟩ = some (.int .i64 a0_1) := (blk_cell BK143.out 1).trans rfl; have hcz13_2 : w11.cell? ⟨gb143, 2, none⟩ = some (.slice A0_2 l0_2.length c0_2) := (blk_cell BK143.out 2).trans rfl; have hfz13_0 := blk_frozen BK143.out 0; have hfz13_1 := blk_frozen BK143.out 1; have hfz13_2 := blk_frozen BK143.out 2; have hcz14_0 : w11.cell? ⟨gb144, 0, none⟩ = some (.int .i64 0) := (blk_cell BK144.out 0).trans rfl; have hcz14_1 : w11.cell? ⟨gb144, 1, none⟩ = some (.int .i64 0) := (blk_cell BK144.out 1).trans rfl; have hcz14_2 : w11.cell? ⟨gb144, 2, none⟩ = some (.slice none 0 0) := (blk_cell BK144.out 2).trans rfl; have hfz14_0 := blk_frozen BK144.out 0; have hfz14_1 := blk_frozen BK144.out 1; have hfz14_2 := blk_frozen BK144.out 2))
    refine bodyPost_ret (results_cell_row rfl _ _ gb144 24 #[.int .i64 (wrap64 ((wrap64 (Int.tdiv a0_0 3)) + a1)), .int .i64 (wrap64 ((wrap64 (Int.tdiv a0_1 5)) + (wrap64 (7 * a1)))), .slice none 0 0] (0, 0) _ rfl (by (with_reducible repeat (first | refine blk_drewN ?_ _ | refine blk_drew ?_ | refine blk_alloc ?_ _)); refine blk_put (cs := #[.int .i64 (wrap64 ((wrap64 (Int.tdiv a0_0 3)) + a1)), .int .i64 (wrap64 ((wrap64 (Int.tdiv a0_1 5)) + (wrap64 (7 * a1)))), .slice none 0 0]) ?_ 2 _ rfl; (with_reducible repeat (first | refine blk_drewN ?_ _ | refine blk_drew ?_ | refine blk_alloc ?_ _)); refine blk_put (cs := #[.int .i64 (wrap64 ((wrap64 (Int.tdiv a0_0 3)) + a1)), .int .i64 0, .slice none 0 0]) ?_ 1 _ rfl; (with_reducible repeat (first | refine blk_drewN ?_ _ | refine blk_drew ?_ | refine blk_alloc ?_ _)); refine blk_put (cs := #[.int .i64 0, .int .i64 0, .slice none 0 0]) ?_ 0 _ rfl; (with_reducible repeat (first | refine blk_drewN ?_ _ | refine blk_drew ?_ | refine blk_alloc ?_ _)); exact BK144.out) Tryd.underlying24 rfl (by kernel_rfl)) rfl ?_
    exact ⟨_, by first | rfl | (simp [errW_none, errW_some] <;> rfl) | (simp [*, errW_none, errW_some] <;> rfl), Kd.V_nil _ _ _ _ _, by repeat (first | (with_reducible first | exact HB.out | apply below_alloc | apply pw_below_drewN | apply below_drew1 | refine below_set ?_ GE143.out | refine below_set ?_ GE144.out) | exact HB.out)⟩

-- NOT PRINTED: function 18 (thyrsuslaw4_Plain)

/-! ### thyrsusref3_Digits: function 19 -/
def thyrsusref3_Digits.f : Nat → Int → Option (ByteArray)
  | 0, _ => none
  | k + 1, a0 => if a0 < 0 then (if a0 = (-9223372036854775808) then (some (⟨#[45, 57, 50, 50, 51, 51, 55, 50, 48, 51, 54, 56, 53, 52, 55, 55, 53, 56, 48, 56]⟩ : ByteArray)) else ((thyrsusref3_Digits.f k (wrap64 (-a0))).bind fun t182 => (if 1 + t182.size ≤ 9223372036854775807 then (some ((⟨#[45]⟩ : ByteArray) ++ t182)) else (none)))) else (if a0 ≥ 10 then ((thyrsusref3_Digits.f k (wrap64 (Int.tdiv a0 10))).bind fun t183 => ((thyrsusref3_Digits.f k (Int.tmod a0 10)).bind fun t184 => (if t183.size + t184.size ≤ 9223372036854775807 then (some (t183 ++ t184)) else (none)))) else (some (strOfNums (([(wrap64 (48 + a0)) % 256] : List Int)))))
set_option maxHeartbeats 8000000 in
set_option maxRecDepth 100000 in
theorem thyrsusref3_Digits.calls (k : Nat) : ∀ (a0 : Int) (r : ByteArray) (w : World) (h : thyrsusref3_Digits.f k a0 = some r),
    Calls Tryd.prog 19 #[.int .i64 a0] w fun e w' => e = .returned (.string r) ∧ Below w.heap.size w w' := by
  induction k using Nat.strongRecOn with
  | _ k ih =>
  intro a0 r w h
  cases k with
  | zero => exact absurd h (by simp [thyrsusref3_Digits.f])
  | succ k =>
  simp only [thyrsusref3_Digits.f] at h
  have HB := Aside0.mk (Below.refl w.heap.size w)
  have H : (if a0 < 0 then (if a0 = (-9223372036854775808) then (some (⟨#[45, 57, 50, 50, 51, 51, 55, 50, 48, 51, 54, 56, 53, 52, 55, 55, 53, 56, 48, 56]⟩ : ByteArray)) else ((thyrsusref3_Digits.f k (wrap64 (-a0))).bind fun t182 => (if 1 + t182.size ≤ 9223372036854775807 then (some ((⟨#[45]⟩ : ByteArray) ++ t182)) else (none)))) else (if a0 ≥ 10 then ((thyrsusref3_Digits.f k (wrap64 (Int.tdiv a0 10))).bind fun t183 => ((thyrsusref3_Digits.f k (Int.tmod a0 10)).bind fun t184 => (if t183.size + t184.size ≤ 9223372036854775807 then (some (t183 ++ t184)) else (none)))) else (some (strOfNums (([(wrap64 (48 + a0)) % 256] : List Int)))))) = some r := h
  clear h
  by_cases c2 : a0 < 0
  · rw [if_pos c2] at H
    have c2b0 : decide (a0 < 0) = true := decide_eq_true c2
    clear c2
    by_cases c3 : a0 = (-9223372036854775808)
    · rw [if_pos c3] at H
      have c3b0 : (a0 == (-9223372036854775808)) = true := beq_iff_eq.mpr c3
      have c3b1 : (a0 != (-9223372036854775808)) = false := bne_eq_false_iff_eq.mpr c3
      clear c3
      obtain rfl := Option.some.inj H
      go_enter Tryd.func19, Tryd.ntmps19
      go_wp2
      go_ret
      exact ⟨by first | rfl | (simp [errW_none, errW_some] <;> rfl) | (simp [*, errW_none, errW_some] <;> rfl), by repeat (first | (with_reducible first | exact HB.out | apply below_alloc | apply pw_below_drewN | apply below_drew1) | exact HB.out)⟩
    · rw [if_neg c3] at H
      have c3b0 : (a0 == (-9223372036854775808)) = false := beq_eq_false_iff_ne.mpr c3
      have c3b1 : (a0 != (-9223372036854775808)) = true := bne_iff_ne.mpr c3
      replace H := Option.bind_eq_some_iff.mp H
      obtain ⟨t182, A40, H⟩ := H
      replace H : (if 1 + t182.size ≤ 9223372036854775807 then (some ((⟨#[45]⟩ : ByteArray) ++ t182)) else (none)) = some r := H
      have A4 := Aside0.mk A40
      clear A40
      by_cases c5 : 1 + t182.size ≤ 9223372036854775807
      · rw [if_pos c5] at H
        have c5b0 := eq_true c5
        have c5b1 : decide (1 + t182.size ≤ 9223372036854775807) = true := decide_eq_true c5
        try have c5b2 : (9223372036854775807 < 1 + t182.size) = False := eq_false (Nat.not_lt.2 c5)
        obtain rfl := Option.some.inj H
        go_enter Tryd.func19, Tryd.ntmps19
        go_wp2_with (first | ((with_reducible refine gate_callee (f := 19) rfl ?_); refine goesL_ (some 9) rfl rfl Tryd.func19 (by kernel_rfl) rfl #[.int .i64 (wrap64 (-a0))] rfl (by (try simp only [List.map_toArray, List.map_cons, List.map_nil]); first | done | rfl | (simp only [List.length_drop, List.length_take]; rfl)) ?_; (with_reducible refine (ih k (by omega) (wrap64 (-a0)) t182 _ A4.out).mono ?_); rintro e w6 ⟨rfl, hb⟩; refine ⟨_, rfl, ?_⟩; have n0_ := Aside0.mk (below_step (by repeat (first | (with_reducible first | exact HB.out | apply below_alloc | apply pw_below_drewN | apply below_drew1) | exact HB.out)) hb); clear HB; have HB := n0_; clear n0_; (try clear hb); (try clear hb2); (try clear hk); (try clear hi)))
        go_ret
        exact ⟨by first | rfl | (simp [errW_none, errW_some] <;> rfl) | (simp [*, errW_none, errW_some] <;> rfl), by repeat (first | (with_reducible first | exact HB.out | apply below_alloc | apply pw_below_drewN | apply below_drew1) | exact HB.out)⟩
      · rw [if_neg c5] at H
        exact absurd H (by simp)
  · rw [if_neg c2] at H
    have c2b0 : decide (a0 < 0) = false := decide_eq_false c2
    clear c2
    by_cases c7 : a0 ≥ 10
    · rw [if_pos c7] at H
      have c7b0 : decide (10 ≤ a0) = true := decide_eq_true c7
      clear c7
      replace H := Option.bind_eq_some_iff.mp H
      obtain ⟨t183, A80, H⟩ := H
      replace H : ((thyrsusref3_Digits.f k (Int.tmod a0 10)).bind fun t184 => (if t183.size + t184.size ≤ 9223372036854775807 then (some (t183 ++ t184)) else (none))) = some r := H
      have A8 := Aside0.mk A80
      clear A80
      replace H := Option.bind_eq_some_iff.mp H
      obtain ⟨t184, A90, H⟩ := H
      replace H : (if t183.size + t184.size ≤ 9223372036854775807 then (some (t183 ++ t184)) else (none)) = some r := H
      have A9 := Aside0.mk A90
      clear A90
      by_cases c10 : t183.size + t184.size ≤ 9223372036854775807
      · rw [if_pos c10] at H
        have c10b0 := eq_true c10
        have c10b1 : decide (t183.size + t184.size ≤ 9223372036854775807) = true := decide_eq_true c10
        try have c10b2 : (9223372036854775807 < t183.size + t184.size) = False := eq_false (Nat.not_lt.2 c10)
        obtain rfl := Option.some.inj H
        go_enter Tryd.func19, Tryd.ntmps19
        go_wp2_with (first | ((with_reducible refine gate_callee (f := 19) rfl ?_); refine goesL_ (some 15) rfl rfl Tryd.func19 (by kernel_rfl) rfl #[.int .i64 (wrap64 (Int.tdiv a0 10))] rfl (by (try simp only [List.map_toArray, List.map_cons, List.map_nil]); first | done | rfl | (simp only [List.length_drop, List.length_take]; rfl)) ?_; (with_reducible refine (ih k (by omega) (wrap64 (Int.tdiv a0 10)) t183 _ A8.out).mono ?_); rintro e w11 ⟨rfl, hb⟩; refine ⟨_, rfl, ?_⟩; have n0_ := Aside0.mk (below_step (by repeat (first | (with_reducible first | exact HB.out | apply below_alloc | apply pw_below_drewN | apply below_drew1) | exact HB.out)) hb); clear HB; have HB := n0_; clear n0_; (try clear hb); (try clear hb2); (try clear hk); (try clear hi)) | ((with_reducible refine gate_callee (f := 19) rfl ?_); refine goesL_ (some 18) rfl rfl Tryd.func19 (by kernel_rfl) rfl #[.int .i64 (Int.tmod a0 10)] rfl (by (try simp only [List.map_toArray, List.map_cons, List.map_nil]); first | done | rfl | (simp only [List.length_drop, List.length_take]; rfl)) ?_; (with_reducible refine (ih k (by omega) (Int.tmod a0 10) t184 _ A9.out).mono ?_); rintro e w12 ⟨rfl, hb⟩; refine ⟨_, rfl, ?_⟩; have n0_ := Aside0.mk (below_step (by repeat (first | (with_reducible first | exact HB.out | apply below_alloc | apply pw_below_drewN | apply below_drew1) | exact HB.out)) hb); clear HB; have HB := n0_; clear n0_; (try clear hb); (try clear hb2); (try clear hk); (try clear hi)))
        go_ret
        exact ⟨by first | rfl | (simp [errW_none, errW_some] <;> rfl) | (simp [*, errW_none, errW_some] <;> rfl), by repeat (first | (with_reducible first | exact HB.out | apply below_alloc | apply pw_below_drewN | apply below_drew1) | exact HB.out)⟩
      · rw [if_neg c10] at H
        exact absurd H (by simp)
    · rw [if_neg c7] at H
      have c7b0 : decide (10 ≤ a0) = false := decide_eq_false c7
      clear c7
      obtain ⟨y185, hy185⟩ : ∃ y_ : List Int, y_ = (([(wrap64 (48 + a0)) % 256] : List Int)) := ⟨_, rfl⟩
      replace H : (some (strOfNums y185)) = some r := by first | (rw [hy185]; with_reducible exact H) | (have H2_ := (Option.bind_some _ _).symm.trans H; rw [hy185]; with_reducible exact H2_) | (have H2_ := (Option.bind_some _ _).symm.trans H; with_reducible exact H2_) | with_reducible exact H | (rw [hy185]; exact H) | exact H
      have Ny185 := Aside0.mk hy185
      clear hy185
      obtain rfl := Option.some.inj H
      go_enter Tryd.func19, Tryd.ntmps19
      go_wp2_with (first | ((with_reducible refine gate_dst (N := 23) rfl ?_); refine Kd.R_lit (Kd.int .u8) _ 5 ?hg (N := 23) ?hd (xs := ([(wrap64 (48 + a0)) % 256] : List Int)) (inner := [.int .u8 ((wrap64 (48 + a0)) % 256)]) (ok := fun _ => True) (okp := fun _ => True) ?hr ?hp (fun _ hk => hk) trivial (Below.refl _ _) (Nat.le_refl _) (by simp) ?_; (case hd => rfl); (case hg => rfl); (case hr => first | (go_simp; done) | (go_simp; rfl)); (case hp => exact (Reps.one (show Kd.M (Kd.int .u8) _ _ _ ((wrap64 (48 + a0)) % 256) [.int .u8 ((wrap64 (48 + a0)) % 256)] from rfl) (Reps.none _ _))); intro v186 w13 ho14 hb hg_ hnew_; clear hg_ hnew_; (first | rw [← Ny185.out] at ho14 | (simp only [Int.reduceToNat] at ho14; rw [← Ny185.out] at ho14)); have n0_ := Aside0.mk (Kd.R_lower ho14 (below_size (by repeat (first | (with_reducible first | exact HB.out | apply below_alloc | apply pw_below_drewN | apply below_drew1) | exact HB.out)))); have n1_ := Aside0.mk (below_step (by repeat (first | (with_reducible first | exact HB.out | apply below_alloc | apply pw_below_drewN | apply below_drew1) | exact HB.out)) hb); clear HB; have HO187 := n0_; have HB := n1_; clear n0_ n1_; clear hb ho14; have hcv15 := own_string (P := Tryd.prog) Tryd.underlying77 Tryd.underlying5 Tryd.underlying9 (Kd.own_of_R HO187.out)))
      go_ret
      exact ⟨by first | rfl | (simp [errW_none, errW_some] <;> rfl) | (simp [*, errW_none, errW_some] <;> rfl), by repeat (first | (with_reducible first | exact HB.out | apply below_alloc | apply pw_below_drewN | apply below_drew1) | exact HB.out)⟩

/-! ### thyrsusref12_Text: function 14 -/
mutual
def thyrsusref12_Text.j0 : Nat → Bool → Int → Int → List (S36) → Option (ByteArray)
  | 0, _, _, _, _ => none
  | k + 1, x10, x189000, x189001, x189002 => if x10 = true then (if 0 < (x189002.length : Int) then ((thyrsusref12_Text.f k ((rd_T36 x189002 0).f0) ((rd_T36 x189002 0).f1) ((rd_T36 x189002 0).f2)).bind fun t191 => (if 1 + t191.size ≤ 9223372036854775807 then (if ((⟨#[40]⟩ : ByteArray) ++ t191).size + 2 ≤ 9223372036854775807 then (if 1 < (x189002.length : Int) then ((thyrsusref12_Text.f k ((rd_T36 x189002 1).f0) ((rd_T36 x189002 1).f1) ((rd_T36 x189002 1).f2)).bind fun t193 => (if (((⟨#[40]⟩ : ByteArray) ++ t191) ++ (⟨#[44, 32]⟩ : ByteArray)).size + t193.size ≤ 9223372036854775807 then (if ((((⟨#[40]⟩ : ByteArray) ++ t191) ++ (⟨#[44, 32]⟩ : ByteArray)) ++ t193).size + 1 ≤ 9223372036854775807 then (some (((((⟨#[40]⟩ : ByteArray) ++ t191) ++ (⟨#[44, 32]⟩ : ByteArray)) ++ t193) ++ (⟨#[41]⟩ : ByteArray))) else (none)) else (none))) else (none)) else (none)) else (none))) else (none)) else (some (⟨#[102, 110]⟩ : ByteArray))
def thyrsusref12_Text.f : Nat → Int → Int → List (S36) → Option (ByteArray)
  | 0, _, _, _ => none
  | k + 1, a0_0, a0_1, l0_2 => if a0_0 = 1 then ((thyrsusref3_Digits.f k a0_1).bind fun t189 => (some t189)) else (if a0_0 = 2 then (thyrsusref12_Text.j0 k ((l0_2.length : Int) == 2) a0_0 a0_1 l0_2) else (thyrsusref12_Text.j0 k false a0_0 a0_1 l0_2))
end
def thyrsusref12_Text.T4 : Bool × List (List Nat × List Nat) := (true, [([], []), ([0], [0]), ([1], [1]), ([2], [2]), ([3], [3]), ([4], [4]), ([5], [5]), ([], []), ([7], [7]), ([8], [8]), ([9], [9]), ([10, 4], [10]), ([6, 11], [6, 11]), ([12], [12]), ([13, 11, 0, 1, 2, 3, 4, 5, 6, 7, 8, 9, 10, 11, 12, 13], [13])])
def thyrsusref12_Text.B4 : List Nat := [0, 1, 3, 7, 15, 31, 63, 0, 128, 384, 896, 1951, 4095, 8191, 16383]
theorem thyrsusref12_Text.tab4 : rtab .any (opsOf Tryd.f14 4) = thyrsusref12_Text.T4 := by kernel_rfl
theorem thyrsusref12_Text.bits4 : waitsOk thyrsusref12_Text.T4.2 thyrsusref12_Text.B4 = true := by kernel_rfl
set_option maxHeartbeats 8000000 in
set_option maxRecDepth 100000 in
theorem thyrsusref12_Text.calls (k : Nat) : ∀ (a0_0 : Int) (a0_1 : Int) (A0_2 : Option Addr) (c0_2 : Nat) (l0_2 : List (S36)) (r : ByteArray) (w : World) (hr0_2 : Kd.C k36 w A0_2 l0_2.length l0_2) (hc0_2 : l0_2.length ≤ c0_2) (h : thyrsusref12_Text.f k a0_0 a0_1 l0_2 = some r),
    Calls Tryd.prog 14 #[.agg #[.int .i64 a0_0, .int .i64 a0_1, .slice A0_2 l0_2.length c0_2]] w fun e w' => e = .returned (.string r) ∧ Below w.heap.size w w' := by
  induction k using Nat.strongRecOn with
  | _ k ih =>
  intro a0_0 a0_1 A0_2 c0_2 l0_2 r w hr0_2 hc0_2 h
  cases k with
  | zero => exact absurd h (by simp [thyrsusref12_Text.f])
  | succ k =>
  simp only [thyrsusref12_Text.f] at h
  have hu36 := Tryd.underlying36
  have HR0_2 := Aside0.mk hr0_2
  have HC0_2 := Aside0.mk hc0_2
  clear hr0_2 hc0_2
  have HB := Aside0.mk (Below.refl w.heap.size w)
  have H : (if a0_0 = 1 then ((thyrsusref3_Digits.f k a0_1).bind fun t189 => (some t189)) else (if a0_0 = 2 then (thyrsusref12_Text.j0 k ((l0_2.length : Int) == 2) a0_0 a0_1 l0_2) else (thyrsusref12_Text.j0 k false a0_0 a0_1 l0_2))) = some r := h
  clear h
  by_cases c2 : a0_0 = 1
  · rw [if_pos c2] at H
    have c2b0 : (a0_0 == 1) = true := beq_iff_eq.mpr c2
    have c2b1 : (a0_0 != 1) = false := bne_eq_false_iff_eq.mpr c2
    clear c2
    replace H := Option.bind_eq_some_iff.mp H
    obtain ⟨t189, A30, H⟩ := H
    replace H : (some t189) = some r := H
    have A3 := Aside0.mk A30
    clear A30
    obtain rfl := Option.some.inj H
    go_enter Tryd.func14, Tryd.ntmps14
    go_wp2_with (first | ((with_reducible refine gate_dst (N := 1) rfl ?_); (try (refine gate_guard (by rfl) ?_; dsimp only)); refine box_event ?hg (N := 1) ?hd (cs := #[.int .i64 a0_0, .int .i64 a0_1, .slice A0_2 l0_2.length c0_2]) (t := 36) ?hr ?_; (case hd => rfl); (case hg => rfl); (case hr => first | (go_simp; done) | (go_simp; rfl)); intro gb188 hg w4 hbox hb; have n0_ := Aside0.mk (below_step (by repeat (first | (with_reducible first | exact HB.out | apply below_alloc | apply pw_below_drewN | apply below_drew1) | exact HB.out)) hb); have n1_ := Aside0.mk (hbox); have n2_ := Aside0.mk ((by rw [hg]; exact (below_size (by repeat (first | (with_reducible first | exact HB.out | apply below_alloc | apply pw_below_drewN | apply below_drew1) | exact HB.out))) : w.heap.size ≤ gb188)); have n3_ := Aside0.mk ((by rw [hg]; exact (below_size (by repeat (first | (with_reducible first | exact HB.out | apply below_alloc | apply pw_below_drewN | apply below_drew1) | exact HB.out))) : w.heap.size ≤ gb188)); clear HB; have HB := n0_; have BK188 := n1_; have GW188 := n2_; have GE188 := n3_; clear n0_ n1_ n2_ n3_; clear hb hbox hg; have hcz5_0 : w4.cell? ⟨gb188, 0, none⟩ = some (.int .i64 a0_0) := (blk_cell BK188.out 0).trans rfl; have hcz5_1 : w4.cell? ⟨gb188, 1, none⟩ = some (.int .i64 a0_1) := (blk_cell BK188.out 1).trans rfl; have hcz5_2 : w4.cell? ⟨gb188, 2, none⟩ = some (.slice A0_2 l0_2.length c0_2) := (blk_cell BK188.out 2).trans rfl; have hfz5_0 := blk_frozen BK188.out 0; have hfz5_1 := blk_frozen BK188.out 1; have hfz5_2 := blk_frozen BK188.out 2) | ((with_reducible refine gate_callee (f := 19) rfl ?_); refine goesL_ (some 9) rfl rfl Tryd.func19 (by kernel_rfl) rfl #[.int .i64 a0_1] rfl (by (try simp only [List.map_toArray, List.map_cons, List.map_nil]); first | done | rfl | (simp only [List.length_drop, List.length_take]; rfl)) ?_; (with_reducible refine (thyrsusref3_Digits.calls k a0_1 t189 _ A3.out).mono ?_); rintro e w6 ⟨rfl, hb⟩; refine ⟨_, rfl, ?_⟩; have n0_ := Aside0.mk (blk_below (g := gb188) (o := .cells #[.int .i64 a0_0, .int .i64 a0_1, .slice A0_2 l0_2.length c0_2] 36 (0, 0)) (by (with_reducible repeat (first | refine blk_drewN ?_ _ | refine blk_drew ?_ | refine blk_alloc ?_ _)); exact BK188.out) hb); have n1_ := Aside0.mk (below_step (by repeat (first | (with_reducible first | exact HB.out | apply below_alloc | apply pw_below_drewN | apply below_drew1 | refine below_set ?_ GE188.out) | exact HB.out)) hb); clear BK188; clear HB; have BK188 := n0_; have HB := n1_; clear n0_ n1_; (try clear hb); (try clear hb2); (try clear hk); (try clear hi)))
    go_ret
    exact ⟨by first | rfl | (simp [errW_none, errW_some] <;> rfl) | (simp [*, errW_none, errW_some] <;> rfl), by repeat (first | (with_reducible first | exact HB.out | apply below_alloc | apply pw_below_drewN | apply below_drew1 | refine below_set ?_ GE188.out) | exact HB.out)⟩
  · rw [if_neg c2] at H
    have c2b0 : (a0_0 == 1) = false := beq_eq_false_iff_ne.mpr c2
    have c2b1 : (a0_0 != 1) = true := bne_iff_ne.mpr c2
    have HC7 := Aside0.mk H
    clear H
    go_enter Tryd.func14, Tryd.ntmps14
    go_upto_region 3 with (first | ((with_reducible refine gate_dst (N := 1) rfl ?_); (try (refine gate_guard (by rfl) ?_; dsimp only)); refine box_event ?hg (N := 1) ?hd (cs := #[.int .i64 a0_0, .int .i64 a0_1, .slice A0_2 l0_2.length c0_2]) (t := 36) ?hr ?_; (case hd => rfl); (case hg => rfl); (case hr => first | (go_simp; done) | (go_simp; rfl)); intro gb188 hg w8 hbox hb; have n0_ := Aside0.mk (below_step (by repeat (first | (with_reducible first | exact HB.out | apply below_alloc | apply pw_below_drewN | apply below_drew1) | exact HB.out)) hb); have n1_ := Aside0.mk (hbox); have n2_ := Aside0.mk ((by rw [hg]; exact (below_size (by repeat (first | (with_reducible first | exact HB.out | apply below_alloc | apply pw_below_drewN | apply below_drew1) | exact HB.out))) : w.heap.size ≤ gb188)); have n3_ := Aside0.mk ((by rw [hg]; exact (below_size (by repeat (first | (with_reducible first | exact HB.out | apply below_alloc | apply pw_below_drewN | apply below_drew1) | exact HB.out))) : w.heap.size ≤ gb188)); clear HB; have HB := n0_; have BK188 := n1_; have GW188 := n2_; have GE188 := n3_; clear n0_ n1_ n2_ n3_; clear hb hbox hg; have hcz9_0 : w8.cell? ⟨gb188, 0, none⟩ = some (.int .i64 a0_0) := (blk_cell BK188.out 0).trans rfl; have hcz9_1 : w8.cell? ⟨gb188, 1, none⟩ = some (.int .i64 a0_1) := (blk_cell BK188.out 1).trans rfl; have hcz9_2 : w8.cell? ⟨gb188, 2, none⟩ = some (.slice A0_2 l0_2.length c0_2) := (blk_cell BK188.out 2).trans rfl; have hfz9_0 := blk_frozen BK188.out 0; have hfz9_1 := blk_frozen BK188.out 1; have hfz9_2 := blk_frozen BK188.out 2))
    (try simp only [Act.put, List.setIfInBounds_toArray, List.set_cons_zero, List.set_cons_succ])
    go_cut [10] (fun v10 wc => ∃ (kq : Nat) (x10_6 : Bool), v10 = .bool x10_6 ∧ Aside0 (thyrsusref12_Text.j0 kq x10_6 a0_0 a0_1 l0_2 = some r) ∧ Aside0 (kq ≤ k) ∧ Aside0 (wc.heap[gb188]? = some (.cells #[.int .i64 a0_0, .int .i64 a0_1, (.slice A0_2 l0_2.length c0_2)] 36 (0, 0))) ∧ Aside0 (Below w.heap.size w wc))
    case first =>
      have H := HC7.out
      clear HC7
      by_cases c10 : a0_0 = 2
      · rw [if_pos c10] at H
        have c10b0 : (a0_0 == 2) = true := beq_iff_eq.mpr c10
        have c10b1 : (a0_0 != 2) = false := bne_eq_false_iff_eq.mpr c10
        clear c10
        (first | rw [c10b0] | (simp only [i64_w, i32_w, u8_w, u32_w]; rw [c10b0]) | skip)
        have H' := Aside0.mk H
        clear H
        have hcz11_0 : w8.cell? ⟨gb188, 0, none⟩ = some (.int .i64 a0_0) := (blk_cell BK188.out 0).trans rfl
        have hcz11_1 : w8.cell? ⟨gb188, 1, none⟩ = some (.int .i64 a0_1) := (blk_cell BK188.out 1).trans rfl
        have hcz11_2 : w8.cell? ⟨gb188, 2, none⟩ = some (.slice A0_2 l0_2.length c0_2) := (blk_cell BK188.out 2).trans rfl
        have hfz11_0 := blk_frozen BK188.out 0
        have hfz11_1 := blk_frozen BK188.out 1
        have hfz11_2 := blk_frozen BK188.out 2
        go_wp2
        go_meet
        case rel => exact ⟨_, (((l0_2.length : Int) == 2)), (by first | rfl | (simp; done) | (simp [*]; done)), H', ⟨by first | omega | exact Nat.le_refl _⟩, ⟨by (with_reducible repeat (first | refine blk_drewN ?_ _ | refine blk_drew ?_ | refine blk_alloc ?_ _)); exact BK188.out⟩, ⟨by repeat (first | (with_reducible first | exact HB.out | apply below_alloc | apply pw_below_drewN | apply below_drew1 | refine below_set ?_ GE188.out) | exact HB.out)⟩⟩
      · rw [if_neg c10] at H
        have c10b0 : (a0_0 == 2) = false := beq_eq_false_iff_ne.mpr c10
        have c10b1 : (a0_0 != 2) = true := bne_iff_ne.mpr c10
        (first | rw [c10b0] | (simp only [i64_w, i32_w, u8_w, u32_w]; rw [c10b0]) | skip)
        have H' := Aside0.mk H
        clear H
        have hcz12_0 : w8.cell? ⟨gb188, 0, none⟩ = some (.int .i64 a0_0) := (blk_cell BK188.out 0).trans rfl
        have hcz12_1 : w8.cell? ⟨gb188, 1, none⟩ = some (.int .i64 a0_1) := (blk_cell BK188.out 1).trans rfl
        have hcz12_2 : w8.cell? ⟨gb188, 2, none⟩ = some (.slice A0_2 l0_2.length c0_2) := (blk_cell BK188.out 2).trans rfl
        have hfz12_0 := blk_frozen BK188.out 0
        have hfz12_1 := blk_frozen BK188.out 1
        have hfz12_2 := blk_frozen BK188.out 2
        go_wp2
        go_meet
        case rel => exact ⟨_, (false), (by first | rfl | (simp; done) | (simp [*]; done)), H', ⟨by first | omega | exact Nat.le_refl _⟩, ⟨by (with_reducible repeat (first | refine blk_drewN ?_ _ | refine blk_drew ?_ | refine blk_alloc ?_ _)); exact BK188.out⟩, ⟨by repeat (first | (with_reducible first | exact HB.out | apply below_alloc | apply pw_below_drewN | apply below_drew1 | refine below_set ?_ GE188.out) | exact HB.out)⟩⟩
    case rest =>
      clear HC7
      try clear c1
      try clear c2
      try clear c2b0
      try clear c2b1
      try clear p2
      try clear c10
      try clear c10b0
      try clear c10b1
      try clear hcz11_0
      try clear hcz11_1
      try clear hcz11_2
      try clear hcz12_0
      try clear hcz12_1
      try clear hcz12_2
      try clear hcz5_0
      try clear hcz5_1
      try clear hcz5_2
      try clear hcz9_0
      try clear hcz9_1
      try clear hcz9_2
      try clear hfz11_0
      try clear hfz11_1
      try clear hfz11_2
      try clear hfz12_0
      try clear hfz12_1
      try clear hfz12_2
      try clear hfz5_0
      try clear hfz5_1
      try clear hfz5_2
      try clear hfz9_0
      try clear hfz9_1
      try clear hfz9_2
      obtain ⟨kq, x10_6, rfl, HA, HJ6, BK188, HB⟩ := hcut
      cases kq with
      | zero => exact absurd HA.out (by simp [thyrsusref12_Text.j0])
      | succ kj6 =>
        have H := HA.out
        clear HA
        simp only [thyrsusref12_Text.j0] at H
        by_cases c13 : x10_6 = true
        · subst c13
          have H1 : (if 0 < (l0_2.length : Int) then ((thyrsusref12_Text.f kj6 ((rd_T36 l0_2 0).f0) ((rd_T36 l0_2 0).f1) ((rd_T36 l0_2 0).f2)).bind fun t191 => (if 1 + t191.size ≤ 9223372036854775807 then (if ((⟨#[40]⟩ : ByteArray) ++ t191).size + 2 ≤ 9223372036854775807 then (if 1 < (l0_2.length : Int) then ((thyrsusref12_Text.f kj6 ((rd_T36 l0_2 1).f0) ((rd_T36 l0_2 1).f1) ((rd_T36 l0_2 1).f2)).bind fun t193 => (if (((⟨#[40]⟩ : ByteArray) ++ t191) ++ (⟨#[44, 32]⟩ : ByteArray)).size + t193.size ≤ 9223372036854775807 then (if ((((⟨#[40]⟩ : ByteArray) ++ t191) ++ (⟨#[44, 32]⟩ : ByteArray)) ++ t193).size + 1 ≤ 9223372036854775807 then (some (((((⟨#[40]⟩ : ByteArray) ++ t191) ++ (⟨#[44, 32]⟩ : ByteArray)) ++ t193) ++ (⟨#[41]⟩ : ByteArray))) else (none)) else (none))) else (none)) else (none)) else (none))) else (none)) = some r := by rw [if_pos rfl] at H; exact H
          clear H
          have H := H1
          clear H1
          by_cases c14 : 0 < (l0_2.length : Int)
          · rw [if_pos c14] at H
            have c14b0 : decide (0 < (l0_2.length : Int)) = true := decide_eq_true c14
            have c14b1 : decide (0 < l0_2.length) = true := decide_eq_true (by omega)
            clear c14
            replace H := Option.bind_eq_some_iff.mp H
            obtain ⟨t191, A150, H⟩ := H
            replace H : (if 1 + t191.size ≤ 9223372036854775807 then (if ((⟨#[40]⟩ : ByteArray) ++ t191).size + 2 ≤ 9223372036854775807 then (if 1 < (l0_2.length : Int) then ((thyrsusref12_Text.f kj6 ((rd_T36 l0_2 1).f0) ((rd_T36 l0_2 1).f1) ((rd_T36 l0_2 1).f2)).bind fun t193 => (if (((⟨#[40]⟩ : ByteArray) ++ t191) ++ (⟨#[44, 32]⟩ : ByteArray)).size + t193.size ≤ 9223372036854775807 then (if ((((⟨#[40]⟩ : ByteArray) ++ t191) ++ (⟨#[44, 32]⟩ : ByteArray)) ++ t193).size + 1 ≤ 9223372036854775807 then (some (((((⟨#[40]⟩ : ByteArray) ++ t191) ++ (⟨#[44, 32]⟩ : ByteArray)) ++ t193) ++ (⟨#[41]⟩ : ByteArray))) else (none)) else (none))) else (none)) else (none)) else (none)) = some r := H
            have A15 := Aside0.mk A150
            clear A150
            by_cases c16 : 1 + t191.size ≤ 9223372036854775807
            · rw [if_pos c16] at H
              have c16b0 := eq_true c16
              have c16b1 : decide (1 + t191.size ≤ 9223372036854775807) = true := decide_eq_true c16
              try have c16b2 : (9223372036854775807 < 1 + t191.size) = False := eq_false (Nat.not_lt.2 c16)
              by_cases c17 : ((⟨#[40]⟩ : ByteArray) ++ t191).size + 2 ≤ 9223372036854775807
              · rw [if_pos c17] at H
                have c17b0 := eq_true c17
                have c17b1 : decide (((⟨#[40]⟩ : ByteArray) ++ t191).size + 2 ≤ 9223372036854775807) = true := decide_eq_true c17
                have c17b1x := c17b1
                try simp only [ByteArray.size_append, szA1, szA2] at c17b1x
                have c17b1y := c17b1x
                try simp only [Int.natCast_add, Int.cast_ofNat_Int] at c17b1y
                try have c17b2 : (9223372036854775807 < ((⟨#[40]⟩ : ByteArray) ++ t191).size + 2) = False := eq_false (Nat.not_lt.2 c17)
                have c17n := c17
                try simp only [ByteArray.size_append, szA1, szA2] at c17n
                have c17b3 := eq_false (Nat.not_lt.2 c17n)
                clear c17n
                by_cases c18 : 1 < (l0_2.length : Int)
                · rw [if_pos c18] at H
                  have c18b0 : decide (1 < (l0_2.length : Int)) = true := decide_eq_true c18
                  have c18b1 : decide (1 < l0_2.length) = true := decide_eq_true (by omega)
                  clear c18
                  replace H := Option.bind_eq_some_iff.mp H
                  obtain ⟨t193, A190, H⟩ := H
                  replace H : (if (((⟨#[40]⟩ : ByteArray) ++ t191) ++ (⟨#[44, 32]⟩ : ByteArray)).size + t193.size ≤ 9223372036854775807 then (if ((((⟨#[40]⟩ : ByteArray) ++ t191) ++ (⟨#[44, 32]⟩ : ByteArray)) ++ t193).size + 1 ≤ 9223372036854775807 then (some (((((⟨#[40]⟩ : ByteArray) ++ t191) ++ (⟨#[44, 32]⟩ : ByteArray)) ++ t193) ++ (⟨#[41]⟩ : ByteArray))) else (none)) else (none)) = some r := H
                  have A19 := Aside0.mk A190
                  clear A190
                  by_cases c20 : (((⟨#[40]⟩ : ByteArray) ++ t191) ++ (⟨#[44, 32]⟩ : ByteArray)).size + t193.size ≤ 9223372036854775807
                  · rw [if_pos c20] at H
                    have c20b0 := eq_true c20
                    have c20b1 : decide ((((⟨#[40]⟩ : ByteArray) ++ t191) ++ (⟨#[44, 32]⟩ : ByteArray)).size + t193.size ≤ 9223372036854775807) = true := decide_eq_true c20
                    have c20b1x := c20b1
                    try simp only [ByteArray.size_append, szA1, szA2] at c20b1x
                    have c20b1y := c20b1x
                    try simp only [Int.natCast_add, Int.cast_ofNat_Int] at c20b1y
                    try have c20b2 : (9223372036854775807 < (((⟨#[40]⟩ : ByteArray) ++ t191) ++ (⟨#[44, 32]⟩ : ByteArray)).size + t193.size) = False := eq_false (Nat.not_lt.2 c20)
                    have c20n := c20
                    try simp only [ByteArray.size_append, szA1, szA2] at c20n
                    have c20b3 := eq_false (Nat.not_lt.2 c20n)
                    clear c20n
                    by_cases c21 : ((((⟨#[40]⟩ : ByteArray) ++ t191) ++ (⟨#[44, 32]⟩ : ByteArray)) ++ t193).size + 1 ≤ 9223372036854775807
                    · rw [if_pos c21] at H
                      have c21b0 := eq_true c21
                      have c21b1 : decide (((((⟨#[40]⟩ : ByteArray) ++ t191) ++ (⟨#[44, 32]⟩ : ByteArray)) ++ t193).size + 1 ≤ 9223372036854775807) = true := decide_eq_true c21
                      have c21b1x := c21b1
                      try simp only [ByteArray.size_append, szA1, szA2] at c21b1x
                      have c21b1y := c21b1x
                      try simp only [Int.natCast_add, Int.cast_ofNat_Int] at c21b1y
                      try have c21b2 : (9223372036854775807 < ((((⟨#[40]⟩ : ByteArray) ++ t191) ++ (⟨#[44, 32]⟩ : ByteArray)) ++ t193).size + 1) = False := eq_false (Nat.not_lt.2 c21)
                      have c21n := c21
                      try simp only [ByteArray.size_append, szA1, szA2] at c21n
                      have c21b3 := eq_false (Nat.not_lt.2 c21n)
                      clear c21n
                      obtain rfl := Option.some.inj H
                      try go_wp2
                      have n0_ := Aside0.mk (blk_drew BK188.out)
                      have n1_ := Aside0.mk (below_drew1 HB.out)
                      clear BK188
                      clear HB
                      have BK188 := n0_
                      have HB := n1_
                      clear n0_ n1_
                      have p190 : 0 ≤ (0 : Int) := (by omega)
                      have q190 : 0 < (l0_2.length : Int) := of_decide_eq_true (by first | (with_reducible assumption) | assumption)
                      obtain ⟨ad190, A190_2, c190_2, e190, hx190_0, hx190_1, hx190_2, hl190_2, hi190_2⟩ := at_T36 HR0_2.out 0 p190 q190
                      have hw190_2 := hx190_2
                      (try rw [show ((0 : Int)).toNat = 0 from rfl] at hw190_2)
                      (try rw [show 0 * 3 = 0 from rfl] at hw190_2)
                      (try rw [Addr.add_zero'] at hw190_2)
                      have hw190_1 := hx190_1
                      (try rw [show ((0 : Int)).toNat = 0 from rfl] at hw190_1)
                      (try rw [show 0 * 3 = 0 from rfl] at hw190_1)
                      (try rw [Addr.add_zero'] at hw190_1)
                      have hw190_0 := hx190_0
                      (try rw [show ((0 : Int)).toNat = 0 from rfl] at hw190_0)
                      (try rw [show 0 * 3 = 0 from rfl] at hw190_0)
                      (try rw [Addr.add_zero'] at hw190_0)
                      cases e190
                      have qi190 : (0 < l0_2.length) = True := eq_true (by omega)
                      (try rw [show ((0 : Int)).toNat = 0 from rfl] at hx190_0)
                      (try rw [show 0 * 3 = 0 from rfl] at hx190_0)
                      (try rw [Addr.add_zero'] at hx190_0)
                      (try rw [show ((0 : Int)).toNat = 0 from rfl] at hx190_1)
                      (try rw [show 0 * 3 = 0 from rfl] at hx190_1)
                      (try rw [Addr.add_zero'] at hx190_1)
                      (try rw [show ((0 : Int)).toNat = 0 from rfl] at hx190_2)
                      (try rw [show 0 * 3 = 0 from rfl] at hx190_2)
                      (try rw [Addr.add_zero'] at hx190_2)
                      replace hx190_0 := (HB.out.cell (World.block_lt_of_cell? w _ hx190_0)).trans hx190_0
                      replace hx190_1 := (HB.out.cell (World.block_lt_of_cell? w _ hx190_1)).trans hx190_1
                      replace hx190_2 := (HB.out.cell (World.block_lt_of_cell? w _ hx190_2)).trans hx190_2
                      have HR190_2 := Aside0.mk hi190_2
                      have HC190_2 := Aside0.mk hl190_2
                      clear hi190_2 hl190_2
                      replace p190 := eq_true p190
                      replace q190 := eq_true q190
                      have p192 : 0 ≤ (1 : Int) := (by omega)
                      have q192 : 1 < (l0_2.length : Int) := of_decide_eq_true (by first | (with_reducible assumption) | assumption)
                      obtain ⟨ad192, A192_2, c192_2, e192, hx192_0, hx192_1, hx192_2, hl192_2, hi192_2⟩ := at_T36 HR0_2.out 1 p192 q192
                      have hw192_2 := hx192_2
                      (try rw [show ((1 : Int)).toNat = 1 from rfl] at hw192_2)
                      (try rw [show 1 * 3 = 3 from rfl] at hw192_2)
                      (try simp only [Nat.reduceMul, Nat.reduceEqDiff, Go.Addr.add, ↓reduceIte] at hw192_2)
                      have hw192_1 := hx192_1
                      (try rw [show ((1 : Int)).toNat = 1 from rfl] at hw192_1)
                      (try rw [show 1 * 3 = 3 from rfl] at hw192_1)
                      (try simp only [Nat.reduceMul, Nat.reduceEqDiff, Go.Addr.add, ↓reduceIte] at hw192_1)
                      have hw192_0 := hx192_0
                      (try rw [show ((1 : Int)).toNat = 1 from rfl] at hw192_0)
                      (try rw [show 1 * 3 = 3 from rfl] at hw192_0)
                      (try simp only [Nat.reduceMul, Nat.reduceEqDiff, Go.Addr.add, ↓reduceIte] at hw192_0)
                      obtain rfl : ad190 = ad192 := (by injection e192)
                      (try simp only [show (1 : Int).toNat = 1 from rfl, Nat.reduceMul, Nat.reduceEqDiff, Go.Addr.add, ↓reduceIte] at hx192_0)
                      (try simp only [show (1 : Int).toNat = 1 from rfl, Nat.reduceMul, Nat.reduceEqDiff, Go.Addr.add, ↓reduceIte] at hx192_1)
                      (try simp only [show (1 : Int).toNat = 1 from rfl, Nat.reduceMul, Nat.reduceEqDiff, Go.Addr.add, ↓reduceIte] at hx192_2)
                      have qi192 : (1 < l0_2.length) = True := eq_true (by omega)
                      (try rw [show ((1 : Int)).toNat = 1 from rfl] at hx192_0)
                      (try rw [show 1 * 3 = 3 from rfl] at hx192_0)
                      (try rw [show ((1 : Int)).toNat = 1 from rfl] at hx192_1)
                      (try rw [show 1 * 3 = 3 from rfl] at hx192_1)
                      (try rw [show ((1 : Int)).toNat = 1 from rfl] at hx192_2)
                      (try rw [show 1 * 3 = 3 from rfl] at hx192_2)
                      replace hx192_0 := (HB.out.cell (World.block_lt_of_cell? w _ hx192_0)).trans hx192_0
                      replace hx192_1 := (HB.out.cell (World.block_lt_of_cell? w _ hx192_1)).trans hx192_1
                      replace hx192_2 := (HB.out.cell (World.block_lt_of_cell? w _ hx192_2)).trans hx192_2
                      have HR192_2 := Aside0.mk hi192_2
                      have HC192_2 := Aside0.mk hl192_2
                      clear hi192_2 hl192_2
                      replace p192 := eq_true p192
                      replace q192 := eq_true q192
                      refine start_ (n := 15) (S := fun w' => w'.cell? ⟨gb188, 0, none⟩ = some (.int .i64 a0_0) ∧ w'.cell? ⟨gb188, 1, none⟩ = some (.int .i64 a0_1) ∧ w'.cell? ⟨gb188, 2, none⟩ = some (.slice (some ad190) l0_2.length c0_2) ∧ w'.cell? ad190 = some (.int .i64 ((rd_T36 l0_2 0).f0)) ∧ w'.cell? ⟨ad190.block, ad190.off + 1, none⟩ = some (.int .i64 ((rd_T36 l0_2 0).f1)) ∧ w'.cell? ⟨ad190.block, ad190.off + 2, none⟩ = some (.slice A190_2 ((rd_T36 l0_2 0).f2).length c190_2) ∧ w'.cell? ⟨ad190.block, ad190.off + 3, none⟩ = some (.int .i64 ((rd_T36 l0_2 1).f0)) ∧ w'.cell? ⟨ad190.block, ad190.off + 3 + 1, none⟩ = some (.int .i64 ((rd_T36 l0_2 1).f1)) ∧ w'.cell? ⟨ad190.block, ad190.off + 3 + 2, none⟩ = some (.slice A192_2 ((rd_T36 l0_2 1).f2).length c192_2)) (ds := []) #[false, false, false, false, false, false, false, false, false, false, false, false, false, false, false] (by kernel_rfl) rfl rfl ⟨(blk_cell BK188.out 0).trans rfl, (blk_cell BK188.out 1).trans rfl, (blk_cell BK188.out 2).trans rfl, ((HB.out.cell (World.block_lt_of_cell? w _ hw190_0)).trans hw190_0), ((HB.out.cell (World.block_lt_of_cell? w _ hw190_1)).trans hw190_1), ((HB.out.cell (World.block_lt_of_cell? w _ hw190_2)).trans hw190_2), ((HB.out.cell (World.block_lt_of_cell? w _ hw192_0)).trans hw192_0), ((HB.out.cell (World.block_lt_of_cell? w _ hw192_1)).trans hw192_1), ((HB.out.cell (World.block_lt_of_cell? w _ hw192_2)).trans hw192_2)⟩ (fun hHeld => ?_); refine with_tabW thyrsusref12_Text.tab4 thyrsusref12_Text.bits4 (fun HT_ HW_ => ?_)
                      generalize wc.drew = w22 at BK188 HB HR190_2 HR192_2 hx190_0 hx190_1 hx190_2 hx192_0 hx192_1 hx192_2 hHeld ⊢
                      refine pure_ (i := 0) (N := some 20) (v := ?_) (a' := ?_) #[true, false, false, false, false, false, false, false, false, false, false, false, false, false, false] rfl rfl (any_of HT_.out (by kernel_rfl)) (fun _ _ _ h => h) (Or.inl ⟨by rfl, ?_⟩) ?_ ?_
                      rotate_left
                      · intro w'
                        go_simp
                        with_reducible rfl
                      rotate_left
                      · simp only [Act.put, List.setIfInBounds_toArray, List.set_cons_zero, List.set_cons_succ, i64_w, i32_w, u8_w, u32_w]
                        rfl
                      refine pure_ (i := 7) (N := some 27) (v := ?_) (a' := ?_) #[true, false, false, false, false, false, false, true, false, false, false, false, false, false, false] rfl rfl (any_of HT_.out (by kernel_rfl)) (fun _ _ _ h => h) (Or.inl ⟨by rfl, ?_⟩) ?_ ?_
                      rotate_left
                      · intro w'
                        go_simp
                        with_reducible rfl
                      rotate_left
                      · simp only [Act.put, List.setIfInBounds_toArray, List.set_cons_zero, List.set_cons_succ, i64_w, i32_w, u8_w, u32_w]
                        rfl
                      refine take_ (i := 1) (N := some 21) (v := ?_) (a' := ?_) #[true, true, false, false, false, false, false, true, false, false, false, false, false, false, false] rfl rfl (take_ofW HT_.out HW_.out (by kernel_rfl)) (fun _ _ _ h => h) (Or.inl ⟨by rfl, ?_⟩) hHeld ?_ ?_
                      rotate_left
                      · rintro w' ⟨s0, s1, s2, s3, s4, s5, s6, s7, s8⟩
                        go_simp
                        with_reducible rfl
                      rotate_left
                      · simp only [Act.put, List.setIfInBounds_toArray, List.set_cons_zero, List.set_cons_succ, i64_w, i32_w, u8_w, u32_w]
                        rfl
                      refine pure_ (i := 2) (N := some 22) (v := ?_) (a' := ?_) #[true, true, true, false, false, false, false, true, false, false, false, false, false, false, false] rfl rfl (any_of HT_.out (by kernel_rfl)) (fun _ _ _ h => h) (Or.inl ⟨by rfl, ?_⟩) ?_ ?_
                      rotate_left
                      · intro w'
                        go_simp
                        with_reducible rfl
                      rotate_left
                      · simp only [Act.put, List.setIfInBounds_toArray, List.set_cons_zero, List.set_cons_succ, i64_w, i32_w, u8_w, u32_w]
                        rfl
                      refine take_ (i := 3) (N := some 23) (v := ?_) (a' := ?_) #[true, true, true, true, false, false, false, true, false, false, false, false, false, false, false] rfl rfl (take_ofW HT_.out HW_.out (by kernel_rfl)) (fun _ _ _ h => h) (Or.inl ⟨by rfl, ?_⟩) hHeld ?_ ?_
                      rotate_left
                      · rintro w' ⟨s0, s1, s2, s3, s4, s5, s6, s7, s8⟩
                        go_simp
                        with_reducible rfl
                      rotate_left
                      · simp only [Act.put, List.setIfInBounds_toArray, List.set_cons_zero, List.set_cons_succ, i64_w, i32_w, u8_w, u32_w]
                        rfl
                      refine take_ (i := 8) (N := some 28) (v := ?_) (a' := ?_) #[true, true, true, true, false, false, false, true, true, false, false, false, false, false, false] rfl rfl (take_ofW HT_.out HW_.out (by kernel_rfl)) (fun _ _ _ h => h) (Or.inl ⟨by rfl, ?_⟩) hHeld ?_ ?_
                      rotate_left
                      · rintro w' ⟨s0, s1, s2, s3, s4, s5, s6, s7, s8⟩
                        go_simp
                        with_reducible rfl
                      rotate_left
                      · simp only [Act.put, List.setIfInBounds_toArray, List.set_cons_zero, List.set_cons_succ, i64_w, i32_w, u8_w, u32_w]
                        rfl
                      refine pure_ (i := 9) (N := some 29) (v := ?_) (a' := ?_) #[true, true, true, true, false, false, false, true, true, true, false, false, false, false, false] rfl rfl (any_of HT_.out (by kernel_rfl)) (fun _ _ _ h => h) (Or.inl ⟨by rfl, ?_⟩) ?_ ?_
                      rotate_left
                      · intro w'
                        go_simp
                        with_reducible rfl
                      rotate_left
                      · simp only [Act.put, List.setIfInBounds_toArray, List.set_cons_zero, List.set_cons_succ, i64_w, i32_w, u8_w, u32_w]
                        rfl
                      refine take_ (i := 10) (N := some 30) (v := ?_) (a' := ?_) #[true, true, true, true, false, false, false, true, true, true, true, false, false, false, false] rfl rfl (take_ofW HT_.out HW_.out (by kernel_rfl)) (fun _ _ _ h => h) (Or.inl ⟨by rfl, ?_⟩) hHeld ?_ ?_
                      rotate_left
                      · rintro w' ⟨s0, s1, s2, s3, s4, s5, s6, s7, s8⟩
                        go_simp
                        with_reducible rfl
                      rotate_left
                      · simp only [Act.put, List.setIfInBounds_toArray, List.set_cons_zero, List.set_cons_succ, i64_w, i32_w, u8_w, u32_w]
                        rfl
                      refine one_ (i := 4) (N := some 24) #[true, true, true, true, true, false, false, true, true, true, true, false, false, false, false] rfl rfl (one_of HT_.out (by kernel_rfl)) (by decide) (fun K hK => ?_)
                      refine goes_ Tryd.func14 (by kernel_rfl) rfl #[.agg #[.int .i64 ((rd_T36 l0_2 0).f0), .int .i64 ((rd_T36 l0_2 0).f1), .slice A190_2 ((rd_T36 l0_2 0).f2).length c190_2]] (by rfl) rfl rfl (by (try simp only [List.map_toArray, List.map_cons, List.map_nil]); first | done | rfl | (simp only [List.length_drop, List.length_take]; rfl)) ?_
                      with_reducible refine (ih kj6 (by have := HJ6.out; omega) ((rd_T36 l0_2 0).f0) ((rd_T36 l0_2 0).f1) _ _ ((rd_T36 l0_2 0).f2) t191 _ ?side1 ?side2 A15.out).mono ?_
                      (case side1 => repeat (first | exact (Kd.C_below HR190_2.out HB.out) | (with_reducible refine Kd.C_alloc ?_ _) | (with_reducible refine Kd.C_drewN ?_ _) | (with_reducible refine Kd.C_drew ?_)))
                      (case side2 => exact HC190_2.out)
                      rintro e w23 ⟨rfl, hb⟩
                      refine ⟨_, rfl, ?_⟩
                      have n0_ := Aside0.mk (blk_below (g := gb188) (o := .cells #[.int .i64 a0_0, .int .i64 a0_1, .slice (some ad190) l0_2.length c0_2] 36 (0, 0)) (by (with_reducible repeat (first | refine blk_drewN ?_ _ | refine blk_drew ?_ | refine blk_alloc ?_ _)); exact BK188.out) hb)
                      have n1_ := Aside0.mk (below_step (by repeat (first | (with_reducible first | exact HB.out | apply below_alloc | apply pw_below_drewN | apply below_drew1 | refine below_set ?_ GE188.out) | exact HB.out)) hb)
                      clear BK188
                      clear HB
                      have BK188 := n0_
                      have HB := n1_
                      clear n0_ n1_
                      (try clear hb)
                      (try clear hb2)
                      (try clear hk)
                      (try clear hi)
                      refine hK.out _ _ ⟨(blk_cell BK188.out 0).trans rfl, (blk_cell BK188.out 1).trans rfl, (blk_cell BK188.out 2).trans rfl, ((HB.out.cell (World.block_lt_of_cell? w _ hw190_0)).trans hw190_0), ((HB.out.cell (World.block_lt_of_cell? w _ hw190_1)).trans hw190_1), ((HB.out.cell (World.block_lt_of_cell? w _ hw190_2)).trans hw190_2), ((HB.out.cell (World.block_lt_of_cell? w _ hw192_0)).trans hw192_0), ((HB.out.cell (World.block_lt_of_cell? w _ hw192_1)).trans hw192_1), ((HB.out.cell (World.block_lt_of_cell? w _ hw192_2)).trans hw192_2)⟩ (fun hHeld => ?_)
                      clear hK K
                      refine norm_ (a' := ?_) ?_ ?_
                      rotate_left
                      · show Act.put _ (some 24) _ = _
                        simp only [Act.put, List.setIfInBounds_toArray, List.set_cons_zero, List.set_cons_succ, i64_w, i32_w, u8_w, u32_w]
                        rfl
                      refine pure_ (i := 5) (N := some 25) (v := ?_) (a' := ?_) #[true, true, true, true, true, true, false, true, true, true, true, false, false, false, false] rfl rfl (any_of HT_.out (by kernel_rfl)) (fun _ _ _ h => h) (Or.inl ⟨by rfl, ?_⟩) ?_ ?_
                      rotate_left
                      · intro w'
                        go_simp
                        with_reducible rfl
                      rotate_left
                      · simp only [Act.put, List.setIfInBounds_toArray, List.set_cons_zero, List.set_cons_succ, i64_w, i32_w, u8_w, u32_w]
                        rfl
                      refine pure_ (i := 6) (N := some 26) (v := ?_) (a' := ?_) #[true, true, true, true, true, true, true, true, true, true, true, false, false, false, false] rfl rfl (any_of HT_.out (by kernel_rfl)) (fun _ _ _ h => h) (Or.inl ⟨by rfl, ?_⟩) ?_ ?_
                      rotate_left
                      · intro w'
                        go_simp
                        with_reducible rfl
                      rotate_left
                      · simp only [Act.put, List.setIfInBounds_toArray, List.set_cons_zero, List.set_cons_succ, i64_w, i32_w, u8_w, u32_w]
                        rfl
                      refine one_ (i := 11) (N := some 31) #[true, true, true, true, true, true, true, true, true, true, true, true, false, false, false] rfl rfl (one_of HT_.out (by kernel_rfl)) (by decide) (fun K hK => ?_)
                      refine goes_ Tryd.func14 (by kernel_rfl) rfl #[.agg #[.int .i64 ((rd_T36 l0_2 1).f0), .int .i64 ((rd_T36 l0_2 1).f1), .slice A192_2 ((rd_T36 l0_2 1).f2).length c192_2]] (by rfl) rfl rfl (by (try simp only [List.map_toArray, List.map_cons, List.map_nil]); first | done | rfl | (simp only [List.length_drop, List.length_take]; rfl)) ?_
                      with_reducible refine (ih kj6 (by have := HJ6.out; omega) ((rd_T36 l0_2 1).f0) ((rd_T36 l0_2 1).f1) _ _ ((rd_T36 l0_2 1).f2) t193 _ ?side1 ?side2 A19.out).mono ?_
                      (case side1 => repeat (first | exact (Kd.C_below HR192_2.out HB.out) | (with_reducible refine Kd.C_alloc ?_ _) | (with_reducible refine Kd.C_drewN ?_ _) | (with_reducible refine Kd.C_drew ?_)))
                      (case side2 => exact HC192_2.out)
                      rintro e w24 ⟨rfl, hb⟩
                      refine ⟨_, rfl, ?_⟩
                      have n0_ := Aside0.mk (blk_below (g := gb188) (o := .cells #[.int .i64 a0_0, .int .i64 a0_1, .slice (some ad190) l0_2.length c0_2] 36 (0, 0)) (by (with_reducible repeat (first | refine blk_drewN ?_ _ | refine blk_drew ?_ | refine blk_alloc ?_ _)); exact BK188.out) hb)
                      have n1_ := Aside0.mk (below_step (by repeat (first | (with_reducible first | exact HB.out | apply below_alloc | apply pw_below_drewN | apply below_drew1 | refine below_set ?_ GE188.out) | exact HB.out)) hb)
                      clear BK188
                      clear HB
                      have BK188 := n0_
                      have HB := n1_
                      clear n0_ n1_
                      (try clear hb)
                      (try clear hb2)
                      (try clear hk)
                      (try clear hi)
                      refine hK.out _ _ ⟨(blk_cell BK188.out 0).trans rfl, (blk_cell BK188.out 1).trans rfl, (blk_cell BK188.out 2).trans rfl, ((HB.out.cell (World.block_lt_of_cell? w _ hw190_0)).trans hw190_0), ((HB.out.cell (World.block_lt_of_cell? w _ hw190_1)).trans hw190_1), ((HB.out.cell (World.block_lt_of_cell? w _ hw190_2)).trans hw190_2), ((HB.out.cell (World.block_lt_of_cell? w _ hw192_0)).trans hw192_0), ((HB.out.cell (World.block_lt_of_cell? w _ hw192_1)).trans hw192_1), ((HB.out.cell (World.block_lt_of_cell? w _ hw192_2)).trans hw192_2)⟩ (fun hHeld => ?_)
                      clear hK K
                      refine norm_ (a' := ?_) ?_ ?_
                      rotate_left
                      · show Act.put _ (some 31) _ = _
                        simp only [Act.put, List.setIfInBounds_toArray, List.set_cons_zero, List.set_cons_succ, i64_w, i32_w, u8_w, u32_w]
                        rfl
                      refine pure_ (i := 12) (N := some 32) (v := ?_) (a' := ?_) #[true, true, true, true, true, true, true, true, true, true, true, true, true, false, false] rfl rfl (any_of HT_.out (by kernel_rfl)) (fun _ _ _ h => h) (Or.inl ⟨by rfl, ?_⟩) ?_ ?_
                      rotate_left
                      · intro w'
                        go_simp
                        with_reducible rfl
                      rotate_left
                      · simp only [Act.put, List.setIfInBounds_toArray, List.set_cons_zero, List.set_cons_succ, i64_w, i32_w, u8_w, u32_w]
                        rfl
                      refine pure_ (i := 13) (N := some 33) (v := ?_) (a' := ?_) #[true, true, true, true, true, true, true, true, true, true, true, true, true, true, false] rfl rfl (any_of HT_.out (by kernel_rfl)) (fun _ _ _ h => h) (Or.inl ⟨by rfl, ?_⟩) ?_ ?_
                      rotate_left
                      · intro w'
                        go_simp
                        with_reducible rfl
                      rotate_left
                      · simp only [Act.put, List.setIfInBounds_toArray, List.set_cons_zero, List.set_cons_succ, i64_w, i32_w, u8_w, u32_w]
                        rfl
                      refine pure_ (i := 14) (N := some 2) (v := ?_) (a' := ?_) #[true, true, true, true, true, true, true, true, true, true, true, true, true, true, true] rfl rfl (any_of HT_.out (by kernel_rfl)) (fun _ _ _ h => h) (Or.inl ⟨by rfl, ?_⟩) ?_ ?_
                      rotate_left
                      · intro w'
                        go_simp
                        with_reducible rfl
                      rotate_left
                      · simp only [Act.put, List.setIfInBounds_toArray, List.set_cons_zero, List.set_cons_succ, i64_w, i32_w, u8_w, u32_w]
                        rfl
                      refine done_ (done_of HT_.out (by kernel_rfl)) ?_
                      try go_wp2
                      go_ret
                      exact ⟨by first | rfl | (simp [errW_none, errW_some] <;> rfl) | (simp [*, errW_none, errW_some] <;> rfl), by repeat (first | (with_reducible first | exact HB.out | apply below_alloc | apply pw_below_drewN | apply below_drew1 | refine below_set ?_ GE188.out) | exact HB.out)⟩
                    · rw [if_neg c21] at H
                      exact absurd H (by simp)
                  · rw [if_neg c20] at H
                    exact absurd H (by simp)
                · rw [if_neg c18] at H
                  exact absurd H (by simp)
              · rw [if_neg c17] at H
                exact absurd H (by simp)
            · rw [if_neg c16] at H
              exact absurd H (by simp)
          · rw [if_neg c14] at H
            exact absurd H (by simp)
        · replace c13 := Bool.eq_false_iff.mpr c13
          subst c13
          have H1 : (some (⟨#[102, 110]⟩ : ByteArray)) = some r := by rw [if_neg (show ¬ (false = true) by decide)] at H; exact H
          clear H
          have H := H1
          clear H1
          obtain rfl := Option.some.inj H
          go_wp2
          go_ret
          exact ⟨by first | rfl | (simp [errW_none, errW_some] <;> rfl) | (simp [*, errW_none, errW_some] <;> rfl), by repeat (first | (with_reducible first | exact HB.out | apply below_alloc | apply pw_below_drewN | apply below_drew1 | refine below_set ?_ GE188.out) | exact HB.out)⟩

/-! ### thyrsusref4_V: function 20 -/
end Go.Proofs.YtnecmclnokikoaaDoor.P
/- Rows of terms that are read (TV); ref.V, ref.T over them; rows of terms built. -/
namespace Go.Proofs.YtnecmclnokikoaaDoor.P
open Go.RowKit Go.Proofs.YtnecmclnokikoaaDoorW.PrintWords Go.Proofs.YtnecmclnokikoaaDoorW.PrintLast Go.Proofs.YtnecmclnokikoaaDoorW.PrintMore
attribute [local go_sem] max2_int min2_int max_two min_two max_three min_three max_four min_four
set_option linter.unusedVariables false
set_option linter.unusedSimpArgs false
def TV (w : World) (G : Nat → Prop) (v : Value) (ks : List S29) : Prop := Kd.V k29 29 w 0 (fun k_ => ¬ G k_) v ks
section
variable {w w' W : World} {G G' ok : Nat → Prop} {v : Value} {ks : List S29} {g j n : Nat}
theorem TV.below (h : TV w G v ks) (hb : Below w.heap.size w w') (hG : ∀ k, G' k → G k ∨ w.heap.size ≤ k) : TV w' G' v ks :=
  Kd.V_mono (Kd.V_below (Kd.V_bound h) hb) (fun k hk h' => (hG k h').elim hk.1 (fun hle => by have := hk.2; omega))
theorem TV.step (h : TV w G v ks) (hb : Below w.heap.size w w') : TV w' G v ks := h.below hb (fun _ hk => .inl hk)
theorem TV.set (h : TV w G v ks) (hg : G g) (u : Value) : TV (w.setCell ⟨g, j, none⟩ u) G v ks := Kd.V_far h (fun k hk e => hk (by rw [e]; exact hg)) u
theorem TV.set3 (h : TV w G v ks) (hg : G g) (x y z : Value) : TV (((w.setCell ⟨g, 0, none⟩ x).setCell ⟨g, 1, none⟩ y).setCell ⟨g, 2, none⟩ z) G v ks := ((h.set hg x).set hg y).set hg z
theorem TV.ofN (h : Kd.N k29 29 w' n ok v ks) (hok : ∀ k, ok k → ¬ G k) : TV w' G v ks := Kd.V_mono (Kd.N_V h) hok
theorem TV.ofV (h : Kd.V k29 29 w' n ok v ks) (hok : ∀ k, ok k → ¬ G k) : TV w' G v ks := Kd.V_mono (Kd.V_map h (fun _ h => h)) hok
theorem TV.reads (h : TV w G v ks) : ∃ A c, v = .slice A ks.length c ∧ ks.length ≤ c ∧ Kd.C k29 w A ks.length ks := by
  obtain ⟨A, c, rfl⟩ := Kd.V_slice h
  exact ⟨A, c, rfl, (Kd.V_reads' h).2⟩
theorem blk_set3 {cs : Array Value} {t : TypeId} (h : w.heap[g]? = some (.cells cs t (0, 0))) (hs : cs.size = 3) (x y z : Value) : (((w.setCell ⟨g, 0, none⟩ x).setCell ⟨g, 1, none⟩ y).setCell ⟨g, 2, none⟩ z).heap[g]? = some (.cells #[x, y, z] t (0, 0)) := by
  refine blk_put (blk_put (blk_put h 0 x rfl) 1 y rfl) 2 z ?_
  obtain ⟨l⟩ := cs
  match l, hs with
  | [_, _, _], _ => rfl
theorem below_set3 (h : Below W.heap.size W w) (hg : W.heap.size ≤ g) (x y z : Value) : Below W.heap.size W (((w.setCell ⟨g, 0, none⟩ x).setCell ⟨g, 1, none⟩ y).setCell ⟨g, 2, none⟩ z) := below_set (below_set (below_set h hg) hg) hg
end
section
variable {P : Program} {ops : Array Oper} {Q : Exit → Act → World → Prop} {o : Oper} {rest : List Oper} {a : Act}
end
theorem T_goG (o : Int) (v : Value) (ks : List S29) (w : World) (G : Nat → Prop) (hG : ∀ k, G k → k < w.heap.size) (hv : TV w G v ks) : Calls Tryd.prog 21 #[.int .i64 o, v] w fun e w' => ∃ v2 : Value, e = .returned (.agg #[.int .i64 o, .int .i64 0, v2]) ∧ TV w' G v2 ks ∧ Below w.heap.size w w' := by
  obtain ⟨A, c, rfl⟩ := Kd.V_slice hv
  exact (thyrsusref4_T.calls o (fun k => ¬ G k) A c ks o 0 ks w (Kd.V_map hv (fun _ h => h)) rfl).mono fun e w' ⟨v, he, hV, hb⟩ => ⟨v, he, TV.ofV hV (fun k hk hg => hk.elim (fun h => h hg) (fun h => by have := hG k hg; omega)), hb⟩
theorem TV.fkG {w : World} {G : Nat → Prop} {v : Value} {x : S29} (h : TV w G v x.f2) : Kd.FK k29 w (fun k => ¬ G k) x [.int .i64 x.f0, .int .i64 x.f1, v] := by
  obtain ⟨A, c, rfl⟩ := Kd.V_slice h
  exact k29_mkF w (fun k => ¬ G k) x (Kd.V_at h).2.1 (Kd.V_F h)
/-- The kids of a node that is read may be read in every world in which the elder blocks are as they were. -/
theorem k24_foot {W W' : World} (hW : ∀ k, k < W.heap.size → W'.heap[k]? = W.heap[k]?) : ∀ (x : S24) (c : List Value), k24.K W x c → k24.K W' x c
  | ⟨f0, f1, l⟩, c, h => by
    obtain ⟨A, cc, e, hl, hC⟩ := k24_open h
    rw [e]
    refine k24_mk W' ⟨f0, f1, l⟩ hl ?_
    obtain ⟨h1, h2, h3⟩ := hC
    refine ⟨h1, h2, fun hne => ?_⟩
    obtain ⟨ad, ha, h4⟩ := h3 hne
    refine ⟨ad, ha, fun j p hj => ?_⟩
    obtain ⟨ci, hci, hk, hcell⟩ := h4 j p hj
    have hmem : p ∈ l := List.mem_of_getElem? hj
    refine ⟨ci, hci, k24_foot hW p ci hk, fun i u hi => ?_⟩
    have h5 := hcell i u hi
    have hlt := World.block_lt_of_cell? W _ h5
    rw [← h5]
    unfold World.cell?
    rw [hW _ hlt]
termination_by x => SizeOf.sizeOf x
decreasing_by
  have := List.sizeOf_lt_of_mem hmem
  simp_wf
  omega
theorem c24_V {W : World} {A : Option Addr} {c : Nat} {l : List S24} (hl : l.length ≤ c) (h : Kd.C k24 W A l.length l) (base : Nat) : Kd.V k24 24 W base (fun _ => True) (.slice A l.length c) l := by
  refine Kd.V_mk hl (fun W' hW => ?_)
  obtain ⟨h1, h2, h3⟩ := h
  refine ⟨h1, h2, fun hne => ?_⟩
  obtain ⟨ad, ha, h4⟩ := h3 hne
  refine ⟨ad, ha, fun j p hj => ?_⟩
  obtain ⟨ci, hci, hk, hcell⟩ := h4 j p hj
  refine ⟨ci, hci, k24_foot (fun k hk => hW k trivial hk) p ci hk, fun i u hi => ?_⟩
  have h5 := hcell i u hi
  have hlt := World.block_lt_of_cell? W _ h5
  rw [← h5]
  unfold World.cell?
  rw [hW _ trivial hlt]
end Go.Proofs.YtnecmclnokikoaaDoor.P
/- thyrsuslaw4.Plain: a type of object code, so deep at most (by hand; genplain.py). -/
namespace Go.Proofs.YtnecmclnokikoaaDoor.P
open Go.RowKit Go.Proofs.YtnecmclnokikoaaDoorW.PrintWords Go.Proofs.YtnecmclnokikoaaDoorW.PrintLast Go.Proofs.YtnecmclnokikoaaDoorW.PrintMore
attribute [local go_sem] max2_int min2_int max_two min_two max_three min_three max_four min_four
set_option linter.unusedVariables false
set_option linter.unusedSimpArgs false
/-- A type of object code, so deep at most. -/
def Ty : Nat → S29 → Prop
  | 0, t => t = ⟨15, 0, []⟩
  | d + 1, t => t = ⟨15, 0, []⟩ ∨ ∃ o a b, (o = 16 ∨ o = 17) ∧ t = ⟨o, 0, [a, b]⟩ ∧ Ty d a ∧ Ty d b
theorem Ty.int : ∀ d, Ty d ⟨15, 0, []⟩
  | 0 => rfl
  | _ + 1 => .inl rfl
theorem tm4 (n : Int) : -4 < Int.tmod n 4 ∧ Int.tmod n 4 < 4 := by
  by_cases h : 0 ≤ n
  · rw [Int.tmod_eq_emod_of_nonneg h]
    omega
  · have e : Int.tmod n 4 = - Int.tmod (-n) 4 := by rw [Int.neg_tmod, Int.neg_neg]
    rw [e, Int.tmod_eq_emod_of_nonneg (by omega)]
    omega
theorem within4 (n : Int) : ∃ t, thyrsuslaw4_within.f n 4 = some t ∧ 0 ≤ t ∧ t < 4 := by
  unfold thyrsuslaw4_within.f
  rw [if_neg (by decide)]
  by_cases h : Int.tmod n 4 < 0
  · rw [if_pos h]
    refine ⟨_, rfl, ?_⟩
    have h1 := tm4 n
    unfold wrap64
    omega
  · rw [if_neg h]
    refine ⟨_, rfl, ?_⟩
    have h1 := tm4 n
    omega
theorem within4_go (n t : Int) (w : World) (h : thyrsuslaw4_within.f n 4 = some t) : Calls Tryd.prog 35 #[.int .i64 n, .int .i64 4] w fun e w' => e = .returned (.int .i64 t) ∧ Below w.heap.size w w' :=
  (thyrsuslaw4_within.calls n 4 t w h).mono fun e w' ⟨he, nd, hd⟩ => ⟨he, hd ▸ pw_below_drewN (Below.refl _ _) nd⟩
/-- A row of raw terms that is read. -/
def RW (w : World) (v : Value) (l : List S24) : Prop := Kd.V k24 24 w 0 (fun _ => True) v l
theorem RW.below {w w' : World} {v : Value} {l : List S24} (h : RW w v l) (hb : Below w.heap.size w w') : RW w' v l := Kd.V_below h hb
theorem pick_go (a0 a1 : Int) (l : List S24) (i : Int) (v : Value) (w : World) (hv : RW w v l) (hi : 0 ≤ i) : Calls Tryd.prog 36 #[.agg #[.int .i64 a0, .int .i64 a1, v], .int .i64 i] w fun e w' => ∃ (x : S24) (v2 : Value), e = .returned (.agg #[.int .i64 x.f0, .int .i64 x.f1, v2]) ∧ RW w' v2 x.f2 ∧ Below w.heap.size w w' := by
  obtain ⟨A, c, rfl⟩ := Kd.V_slice hv
  obtain ⟨x, hx⟩ : ∃ x : S24, thyrsuslaw4_pick.f a0 a1 l i = some (x.f0, x.f1, x.f2) := by
    unfold thyrsuslaw4_pick.f
    by_cases h : i < (l.length : Int)
    · rw [if_pos h, if_pos hi]
      exact ⟨_, rfl⟩
    · rw [if_neg h]
      exact ⟨⟨_, _, []⟩, rfl⟩
  refine (thyrsuslaw4_pick.calls a0 a1 (fun _ => True) A c l i x.f0 x.f1 x.f2 w (Kd.V_map hv (fun _ h => h)) hx).mono fun e w' ⟨v2, he, hV, hb⟩ => ⟨x, v2, he, ?_, hb⟩
  exact Kd.V_mono (Kd.V_map hV (fun _ h => h)) (fun _ _ => trivial)
/-- Within Plain: the raw term's box, the result's box, what is read. -/
structure PF (w0 w : World) (gb g4 : Nat) (a0 a1 : Int) (A : Option Addr) (c : Nat) (l : List S24) : Prop where
  K : w.heap[gb]? = some (.cells #[.int .i64 a0, .int .i64 a1, .slice A l.length c] 24 (0, 0))
  R : w.heap[g4]? = some (.cells #[.int .i64 0, .int .i64 0, .slice none 0 0] 29 (0, 0))
  V : RW w (.slice A l.length c) l
  B : Below w0.heap.size w0 w
  G : w0.heap.size ≤ g4
  E : gb ≠ g4
theorem TV.less {w : World} {G G' : Nat → Prop} {v : Value} {ks : List S29} (h : TV w (fun k => G k ∨ G' k) v ks) : TV w G v ks := Kd.V_mono h (fun _ hk hg => hk (.inl hg))
theorem PF.lt {w0 w : World} {gb g4 : Nat} {a0 a1 : Int} {A : Option Addr} {c : Nat} {l : List S24} (h : PF w0 w gb g4 a0 a1 A c l) {G : Nat → Prop} (hG : ∀ k, G k → k < w0.heap.size) : ∀ k, (G k ∨ k = g4) → k < w.heap.size := by
  rintro k (hk | rfl)
  · have := hG k hk; have := h.B.size; omega
  · exact blk_lt h.R
theorem PF.below {w0 w w' : World} {gb g4 : Nat} {a0 a1 : Int} {A : Option Addr} {c : Nat} {l : List S24} (h : PF w0 w gb g4 a0 a1 A c l) (hb : Below w.heap.size w w') : PF w0 w' gb g4 a0 a1 A c l :=
  ⟨blk_below h.K hb, blk_below h.R hb, h.V.below hb, below_step h.B hb, h.G, h.E⟩
set_option maxHeartbeats 8000000 in
set_option maxRecDepth 100000 in
theorem plain_leaf (G : Nat → Prop) (d : Nat) (dd a0 a1 t : Int) (A : Option Addr) (c : Nat) (l : List S24) (w : World) (hV : RW w (.slice A l.length c) l) (ht : thyrsuslaw4_within.f a1 4 = some t) (hG : ∀ k, G k → k < w.heap.size) (h : dd ≤ 0 ∨ ¬ dd ≤ 0 ∧ t < 2) :
    Calls Tryd.prog 18 #[.agg #[.int .i64 a0, .int .i64 a1, .slice A l.length c], .int .i64 dd] w fun e w' => ∃ (t : S29) (v2 : Value), Ty d t ∧ e = .returned (.agg #[.int .i64 t.f0, .int .i64 t.f1, v2]) ∧ TV w' G v2 t.f2 ∧ Below w.heap.size w w' := by
  have hu24 := Tryd.underlying24
  have hu29 := Tryd.underlying29
  have VV := Aside0.mk hV
  have HT := Aside0.mk ht
  have HG := Aside0.mk hG
  clear hV ht hG
  rcases h with h1 | ⟨h1, h2⟩
  · have g1 := eq_true h1
    have g2 := decide_eq_true h1
    clear h1
    go_enter Tryd.func18, Tryd.ntmps18
    go_wp2_with (first | ((with_reducible refine gate_dst (N := 2) rfl ?_); refine box_event ?hg (N := 2) ?hd (cs := #[.int .i64 a0, .int .i64 a1, .slice A l.length c]) (t := 24) ?hr ?_; (case hd => rfl); (case hg => rfl); (case hr => first | (go_simp; done) | (go_simp; rfl)); intro gb hgb w1 hbox hb; have KB := Aside0.mk hbox; have VB := Aside0.mk (VV.out.below hb); have HB := Aside0.mk hb; clear hbox hb hgb) | ((with_reducible refine gate_dst (N := 4) rfl ?_); refine box_event ?hg (N := 4) ?hd (cs := #[.int .i64 0, .int .i64 0, .slice none 0 0]) (t := 29) ?hr ?_; (case hd => rfl); (case hg => rfl); (case hr => first | (go_simp; done) | (go_simp; rfl)); intro g4 hg4 w2 hbox hb; have J0 : Aside0 (PF w w2 gb g4 a0 a1 A c l) := ⟨⟨blk_below KB.out hb, hbox, VB.out.below hb, below_step HB.out hb, (by rw [hg4]; exact HB.out.size), (by have := blk_lt KB.out; omega)⟩⟩; have hc1 : w2.cell? ⟨gb, 1, none⟩ = some (.int .i64 a1) := (blk_cell J0.out.K 1).trans rfl; clear hbox hb hg4 VB HB KB) | ((with_reducible refine gate_callee (f := 35) rfl ?_); refine goesL_ (some 8) rfl rfl Tryd.func35 (by kernel_rfl) rfl #[.int .i64 a1, .int .i64 4] rfl (by (try simp only [List.map_toArray, List.map_cons, List.map_nil]); first | done | rfl | (simp only [List.length_drop, List.length_take]; rfl)) ?_; refine (within4_go a1 t _ HT.out).mono ?_; rintro e w3 ⟨rfl, hb⟩; refine ⟨_, rfl, ?_⟩; have J1 := Aside0.mk (J0.out.below hb); clear hb hc1 J0) | ((with_reducible refine gate_callee (f := 21) rfl ?_); refine goesL_ (some 15) rfl rfl Tryd.func21 (by kernel_rfl) rfl #[.int .i64 15, .slice none 0 0] rfl (by (try simp only [List.map_toArray, List.map_cons, List.map_nil]); first | done | rfl | (simp only [List.length_drop, List.length_take]; rfl)) ?_; refine (T_goG 15 (.slice none 0 0) [] _ (fun k => G k ∨ k = g4) (J1.out.lt HG.out) (Kd.V_nil _ _ _ _ _)).mono ?_; rintro e w4 ⟨v2, rfl, hv2, hb⟩; refine ⟨_, rfl, ?_⟩; have J2 := Aside0.mk (J1.out.below hb); obtain ⟨A7, c7, rfl⟩ := Kd.V_slice hv2; have T7 := Aside0.mk hv2; clear hv2 hb J1; have hs0 : w4.cell? ⟨g4, 0, none⟩ = some (.int .i64 0) := (blk_cell J2.out.R 0).trans rfl; have hs1 : w4.cell? ⟨g4, 1, none⟩ = some (.int .i64 0) := (blk_cell J2.out.R 1).trans rfl; have hs2 : w4.cell? ⟨g4, 2, none⟩ = some (.slice none 0 0) := (blk_cell J2.out.R 2).trans rfl; have hf0 := blk_frozen J2.out.R 0; have hf1 := blk_frozen J2.out.R 1; have hf2 := blk_frozen J2.out.R 2))
    refine bodyPost_ret (results_cell_row rfl _ _ g4 29 #[.int .i64 15, .int .i64 0, .slice A7 ([] : List S29).length c7] (0, 0) _ rfl (blk_set3 J2.out.R rfl _ _ _) Tryd.underlying29 rfl (by kernel_rfl)) rfl ?_
    exact ⟨⟨15, 0, []⟩, _, Ty.int d, rfl, (T7.out.set3 (g := g4) (.inr rfl) _ _ _).less, below_set3 J2.out.B J2.out.G _ _ _⟩
  · have g1 := eq_false h1
    have g2 := decide_eq_false h1
    have g3 := eq_true h2
    have g4 := decide_eq_true h2
    clear h1 h2
    go_enter Tryd.func18, Tryd.ntmps18
    go_wp2_with (first | ((with_reducible refine gate_dst (N := 2) rfl ?_); refine box_event ?hg (N := 2) ?hd (cs := #[.int .i64 a0, .int .i64 a1, .slice A l.length c]) (t := 24) ?hr ?_; (case hd => rfl); (case hg => rfl); (case hr => first | (go_simp; done) | (go_simp; rfl)); intro gb hgb w1 hbox hb; have KB := Aside0.mk hbox; have VB := Aside0.mk (VV.out.below hb); have HB := Aside0.mk hb; clear hbox hb hgb) | ((with_reducible refine gate_dst (N := 4) rfl ?_); refine box_event ?hg (N := 4) ?hd (cs := #[.int .i64 0, .int .i64 0, .slice none 0 0]) (t := 29) ?hr ?_; (case hd => rfl); (case hg => rfl); (case hr => first | (go_simp; done) | (go_simp; rfl)); intro g4 hg4 w2 hbox hb; have J0 : Aside0 (PF w w2 gb g4 a0 a1 A c l) := ⟨⟨blk_below KB.out hb, hbox, VB.out.below hb, below_step HB.out hb, (by rw [hg4]; exact HB.out.size), (by have := blk_lt KB.out; omega)⟩⟩; have hc1 : w2.cell? ⟨gb, 1, none⟩ = some (.int .i64 a1) := (blk_cell J0.out.K 1).trans rfl; clear hbox hb hg4 VB HB KB) | ((with_reducible refine gate_callee (f := 35) rfl ?_); refine goesL_ (some 8) rfl rfl Tryd.func35 (by kernel_rfl) rfl #[.int .i64 a1, .int .i64 4] rfl (by (try simp only [List.map_toArray, List.map_cons, List.map_nil]); first | done | rfl | (simp only [List.length_drop, List.length_take]; rfl)) ?_; refine (within4_go a1 t _ HT.out).mono ?_; rintro e w3 ⟨rfl, hb⟩; refine ⟨_, rfl, ?_⟩; have J1 := Aside0.mk (J0.out.below hb); clear hb hc1 J0) | ((with_reducible refine gate_callee (f := 21) rfl ?_); refine goesL_ (some 15) rfl rfl Tryd.func21 (by kernel_rfl) rfl #[.int .i64 15, .slice none 0 0] rfl (by (try simp only [List.map_toArray, List.map_cons, List.map_nil]); first | done | rfl | (simp only [List.length_drop, List.length_take]; rfl)) ?_; refine (T_goG 15 (.slice none 0 0) [] _ (fun k => G k ∨ k = g4) (J1.out.lt HG.out) (Kd.V_nil _ _ _ _ _)).mono ?_; rintro e w4 ⟨v2, rfl, hv2, hb⟩; refine ⟨_, rfl, ?_⟩; have J2 := Aside0.mk (J1.out.below hb); obtain ⟨A7, c7, rfl⟩ := Kd.V_slice hv2; have T7 := Aside0.mk hv2; clear hv2 hb J1; have hs0 : w4.cell? ⟨g4, 0, none⟩ = some (.int .i64 0) := (blk_cell J2.out.R 0).trans rfl; have hs1 : w4.cell? ⟨g4, 1, none⟩ = some (.int .i64 0) := (blk_cell J2.out.R 1).trans rfl; have hs2 : w4.cell? ⟨g4, 2, none⟩ = some (.slice none 0 0) := (blk_cell J2.out.R 2).trans rfl; have hf0 := blk_frozen J2.out.R 0; have hf1 := blk_frozen J2.out.R 1; have hf2 := blk_frozen J2.out.R 2))
    refine bodyPost_ret (results_cell_row rfl _ _ g4 29 #[.int .i64 15, .int .i64 0, .slice A7 ([] : List S29).length c7] (0, 0) _ rfl (blk_set3 J2.out.R rfl _ _ _) Tryd.underlying29 rfl (by kernel_rfl)) rfl ?_
    exact ⟨⟨15, 0, []⟩, _, Ty.int d, rfl, (T7.out.set3 (g := g4) (.inr rfl) _ _ _).less, below_set3 J2.out.B J2.out.G _ _ _⟩
def plain18.T4 : Bool × List (List Nat × List Nat) := (true, [([], []), ([0], [0]), ([1], [1]), ([], []), ([3], [3]), ([], []), ([5], [5]), ([4, 6, 4], [4, 6]), ([], []), ([8, 7], [8]), ([], []), ([10], [10]), ([9, 11, 9], [9, 11]), ([7, 12], [7, 12]), ([2, 13, 12], [2, 13]), ([14, 14, 0, 1, 2, 3, 4, 5, 6, 7, 8, 9, 10, 11, 12, 13, 14], [14])])
def plain18.B4 : List Nat := [0, 1, 3, 0, 8, 0, 32, 120, 0, 504, 0, 1024, 4088, 8184, 16383, 32767]
theorem plain18.tab4 : rtab .any (opsOf Tryd.f18 4) = plain18.T4 := by kernel_rfl
theorem plain18.bits4 : waitsOk plain18.T4.2 plain18.B4 = true := by kernel_rfl
set_option maxHeartbeats 8000000 in
set_option maxRecDepth 100000 in
theorem plain_node (G : Nat → Prop) (d : Nat) (dd a0 a1 t : Int) (A : Option Addr) (c : Nat) (l : List S24) (w : World) (hV : RW w (.slice A l.length c) l) (ht : thyrsuslaw4_within.f a1 4 = some t) (h1 : ¬ dd ≤ 0) (h2 : ¬ t < 2) (h4 : t < 4) (hG : ∀ k, G k → k < w.heap.size)
    (ih : ∀ (G : Nat → Prop) (a0 a1 : Int) (v : Value) (l : List S24) (w : World), (∀ k, G k → k < w.heap.size) → RW w v l → Calls Tryd.prog 18 #[.agg #[.int .i64 a0, .int .i64 a1, v], .int .i64 (wrap64 (dd - 1))] w fun e w' => ∃ (t : S29) (v2 : Value), Ty d t ∧ e = .returned (.agg #[.int .i64 t.f0, .int .i64 t.f1, v2]) ∧ TV w' G v2 t.f2 ∧ Below w.heap.size w w') :
    Calls Tryd.prog 18 #[.agg #[.int .i64 a0, .int .i64 a1, .slice A l.length c], .int .i64 dd] w fun e w' => ∃ (t : S29) (v2 : Value), Ty (d + 1) t ∧ e = .returned (.agg #[.int .i64 t.f0, .int .i64 t.f1, v2]) ∧ TV w' G v2 t.f2 ∧ Below w.heap.size w w' := by
  have hu24 := Tryd.underlying24
  have hu29 := Tryd.underlying29
  have VV := Aside0.mk hV
  have HT := Aside0.mk ht
  have HG := Aside0.mk hG
  have IH := Aside0.mk ih
  have O16 : Aside0 (wrap64 (wrap64 (16 + t) - 2) = 16 ∨ wrap64 (wrap64 (16 + t) - 2) = 17) := ⟨by
    have : t = 2 ∨ t = 3 := by omega
    rcases this with rfl | rfl
    · left; unfold wrap64; omega
    · right; unfold wrap64; omega⟩
  clear hV ht ih hG
  have g1 := eq_false h1
  have g2 := decide_eq_false h1
  have g3 := eq_false h2
  have g4' := decide_eq_false h2
  clear h1 h2 h4
  go_enter Tryd.func18, Tryd.ntmps18
  go_upto_region 4 with (first | ((with_reducible refine gate_dst (N := 2) rfl ?_); refine box_event ?hg (N := 2) ?hd (cs := #[.int .i64 a0, .int .i64 a1, .slice A l.length c]) (t := 24) ?hr ?_; (case hd => rfl); (case hg => rfl); (case hr => first | (go_simp; done) | (go_simp; rfl)); intro gb hgb w1 hbox hb; have KB := Aside0.mk hbox; have VB := Aside0.mk (VV.out.below hb); have HB := Aside0.mk hb; clear hbox hb hgb) | ((with_reducible refine gate_dst (N := 4) rfl ?_); refine box_event ?hg (N := 4) ?hd (cs := #[.int .i64 0, .int .i64 0, .slice none 0 0]) (t := 29) ?hr ?_; (case hd => rfl); (case hg => rfl); (case hr => first | (go_simp; done) | (go_simp; rfl)); intro g4 hg4 w2 hbox hb; have J0 : Aside0 (PF w w2 gb g4 a0 a1 A c l) := ⟨⟨blk_below KB.out hb, hbox, VB.out.below hb, below_step HB.out hb, (by rw [hg4]; exact HB.out.size), (by have := blk_lt KB.out; omega)⟩⟩; have hc1 : w2.cell? ⟨gb, 1, none⟩ = some (.int .i64 a1) := (blk_cell J0.out.K 1).trans rfl; clear hbox hb hg4 VB HB KB) | ((with_reducible refine gate_callee (f := 35) rfl ?_); refine goesL_ (some 8) rfl rfl Tryd.func35 (by kernel_rfl) rfl #[.int .i64 a1, .int .i64 4] rfl (by (try simp only [List.map_toArray, List.map_cons, List.map_nil]); first | done | rfl | (simp only [List.length_drop, List.length_take]; rfl)) ?_; refine (within4_go a1 t _ HT.out).mono ?_; rintro e w3 ⟨rfl, hb⟩; refine ⟨_, rfl, ?_⟩; have J1 := Aside0.mk (J0.out.below hb); clear hb hc1 J0))
  (try simp only [Act.put, List.setIfInBounds_toArray, List.set_cons_zero, List.set_cons_succ])
  refine start_ (n := 16) (S := (fun w' => w'.cell? ⟨gb, 0, none⟩ = some (.int .i64 a0) ∧ w'.cell? ⟨gb, 1, none⟩ = some (.int .i64 a1) ∧ w'.cell? ⟨gb, 2, none⟩ = some (.slice A l.length c))) (ds := [15]) #[false, false, false, false, false, false, false, false, false, false, false, false, false, false, false, false] (by kernel_rfl) rfl rfl ⟨(blk_cell (J1.out.below (w' := w3.drew) (below_drew1 (Below.refl _ _))).K 0).trans rfl, (blk_cell (J1.out.below (w' := w3.drew) (below_drew1 (Below.refl _ _))).K 1).trans rfl, (blk_cell (J1.out.below (w' := w3.drew) (below_drew1 (Below.refl _ _))).K 2).trans rfl⟩ (fun hHeld => ?_)
  refine with_tabW plain18.tab4 plain18.bits4 (fun HT_ HW_ => ?_)
  have J2 := Aside0.mk (J1.out.below (w' := w3.drew) (below_drew1 (Below.refl _ _)))
  clear J1
  generalize w3.drew = w4 at J2 hHeld ⊢
  refine pure_ (i := 0) (N := (some 16)) (v := ?_) (a' := ?_) #[true, false, false, false, false, false, false, false, false, false, false, false, false, false, false, false] rfl rfl (any_of HT_.out (by kernel_rfl)) (fun _ _ _ h => h) (Or.inl ⟨by rfl, ?_⟩) ?_ ?_
  rotate_left
  · intro w'
    go_simp
    try with_reducible rfl
  rotate_left
  · simp only [Act.put, List.setIfInBounds_toArray, List.set_cons_zero, List.set_cons_succ, i64_w, i32_w, u8_w, u32_w]
    rfl
  refine pure_ (i := 1) (N := (some 17)) (v := ?_) (a' := ?_) #[true, true, false, false, false, false, false, false, false, false, false, false, false, false, false, false] rfl rfl (any_of HT_.out (by kernel_rfl)) (fun _ _ _ h => h) (Or.inl ⟨by rfl, ?_⟩) ?_ ?_
  rotate_left
  · intro w'
    go_simp
    try with_reducible rfl
  rotate_left
  · simp only [Act.put, List.setIfInBounds_toArray, List.set_cons_zero, List.set_cons_succ, i64_w, i32_w, u8_w, u32_w]
    rfl
  refine pure_ (i := 2) (N := (some 18)) (v := ?_) (a' := ?_) #[true, true, true, false, false, false, false, false, false, false, false, false, false, false, false, false] rfl rfl (any_of HT_.out (by kernel_rfl)) (fun _ _ _ h => h) (Or.inl ⟨by rfl, ?_⟩) ?_ ?_
  rotate_left
  · intro w'
    go_simp
    try with_reducible rfl
  rotate_left
  · simp only [Act.put, List.setIfInBounds_toArray, List.set_cons_zero, List.set_cons_succ, i64_w, i32_w, u8_w, u32_w]
    rfl
  refine take_ (i := 3) (N := (some 19)) (v := ?_) (a' := ?_) #[true, true, true, true, false, false, false, false, false, false, false, false, false, false, false, false] rfl rfl (take_ofW HT_.out HW_.out (by kernel_rfl)) (fun _ _ _ h => h) (Or.inl ⟨by rfl, ?_⟩) hHeld ?_ ?_
  rotate_left
  · rintro w' ⟨s0, s1, s2⟩
    go_simp
    try with_reducible rfl
  rotate_left
  · simp only [Act.put, List.setIfInBounds_toArray, List.set_cons_zero, List.set_cons_succ, i64_w, i32_w, u8_w, u32_w]
    rfl
  refine pure_ (i := 5) (N := (some 21)) (v := ?_) (a' := ?_) #[true, true, true, true, false, true, false, false, false, false, false, false, false, false, false, false] rfl rfl (any_of HT_.out (by kernel_rfl)) (fun _ _ _ h => h) (Or.inl ⟨by rfl, ?_⟩) ?_ ?_
  rotate_left
  · intro w'
    go_simp
    try with_reducible rfl
  rotate_left
  · simp only [Act.put, List.setIfInBounds_toArray, List.set_cons_zero, List.set_cons_succ, i64_w, i32_w, u8_w, u32_w]
    rfl
  refine pure_ (i := 6) (N := (some 22)) (v := ?_) (a' := ?_) #[true, true, true, true, false, true, true, false, false, false, false, false, false, false, false, false] rfl rfl (any_of HT_.out (by kernel_rfl)) (fun _ _ _ h => h) (Or.inl ⟨by rfl, ?_⟩) ?_ ?_
  rotate_left
  · intro w'
    go_simp
    try with_reducible rfl
  rotate_left
  · simp only [Act.put, List.setIfInBounds_toArray, List.set_cons_zero, List.set_cons_succ, i64_w, i32_w, u8_w, u32_w]
    rfl
  refine take_ (i := 8) (N := (some 24)) (v := ?_) (a' := ?_) #[true, true, true, true, false, true, true, false, true, false, false, false, false, false, false, false] rfl rfl (take_ofW HT_.out HW_.out (by kernel_rfl)) (fun _ _ _ h => h) (Or.inl ⟨by rfl, ?_⟩) hHeld ?_ ?_
  rotate_left
  · rintro w' ⟨s0, s1, s2⟩
    go_simp
    try with_reducible rfl
  rotate_left
  · simp only [Act.put, List.setIfInBounds_toArray, List.set_cons_zero, List.set_cons_succ, i64_w, i32_w, u8_w, u32_w]
    rfl
  refine pure_ (i := 10) (N := (some 26)) (v := ?_) (a' := ?_) #[true, true, true, true, false, true, true, false, true, false, true, false, false, false, false, false] rfl rfl (any_of HT_.out (by kernel_rfl)) (fun _ _ _ h => h) (Or.inl ⟨by rfl, ?_⟩) ?_ ?_
  rotate_left
  · intro w'
    go_simp
    try with_reducible rfl
  rotate_left
  · simp only [Act.put, List.setIfInBounds_toArray, List.set_cons_zero, List.set_cons_succ, i64_w, i32_w, u8_w, u32_w]
    rfl
  refine pure_ (i := 11) (N := (some 27)) (v := ?_) (a' := ?_) #[true, true, true, true, false, true, true, false, true, false, true, true, false, false, false, false] rfl rfl (any_of HT_.out (by kernel_rfl)) (fun _ _ _ h => h) (Or.inl ⟨by rfl, ?_⟩) ?_ ?_
  rotate_left
  · intro w'
    go_simp
    try with_reducible rfl
  rotate_left
  · simp only [Act.put, List.setIfInBounds_toArray, List.set_cons_zero, List.set_cons_succ, i64_w, i32_w, u8_w, u32_w]
    rfl
  refine one_ (i := 4) (N := (some 20)) #[true, true, true, true, true, true, true, false, true, false, true, true, false, false, false, false] rfl rfl (one_of HT_.out (by kernel_rfl)) (by decide) (fun K hK => ?_)
  refine goes_ Tryd.func36 (by kernel_rfl) rfl #[.agg #[.int .i64 a0, .int .i64 a1, .slice A l.length c], .int .i64 0] (by rfl) rfl rfl (by (try simp only [List.map_toArray, List.map_cons, List.map_nil]); first | done | rfl | (simp only [List.length_drop, List.length_take]; rfl)) ?_
  refine (pick_go a0 a1 l 0 _ _ J2.out.V (by decide)).mono ?_
  rintro e w5 ⟨x, vx, rfl, hv, hb⟩
  refine ⟨_, rfl, ?_⟩
  have J3 := Aside0.mk (J2.out.below hb)
  have Vvx := Aside0.mk hv
  clear hv hb
  refine hK.out _ _ ⟨(blk_cell J3.out.K 0).trans rfl, (blk_cell J3.out.K 1).trans rfl, (blk_cell J3.out.K 2).trans rfl⟩ (fun hHeld => ?_)
  clear hK K
  refine norm_ (a' := ?_) ?_ ?_
  rotate_left
  · show Act.put _ (some 20) _ = _
    simp only [Act.put, List.setIfInBounds_toArray, List.set_cons_zero, List.set_cons_succ, i64_w, i32_w, u8_w, u32_w]
    rfl
  refine one_ (i := 7) (N := (some 23)) #[true, true, true, true, true, true, true, true, true, false, true, true, false, false, false, false] rfl rfl (one_of HT_.out (by kernel_rfl)) (by decide) (fun K hK => ?_)
  refine goes_ Tryd.func18 (by kernel_rfl) rfl #[.agg #[.int .i64 x.f0, .int .i64 x.f1, vx], .int .i64 (wrap64 (dd - 1))] (by rfl) rfl rfl (by (try simp only [List.map_toArray, List.map_cons, List.map_nil]); first | done | rfl | (simp only [List.length_drop, List.length_take]; rfl)) ?_
  refine (IH.out (fun k => G k ∨ k = g4) _ _ _ _ _ (J3.out.lt HG.out) Vvx.out).mono ?_
  rintro e w6 ⟨ta, u, hT_, rfl, hv, hb⟩
  refine ⟨_, rfl, ?_⟩
  have Yta := Aside0.mk hT_
  have J4 := Aside0.mk (J3.out.below hb)
  obtain ⟨Aa, ca, rfl⟩ := Kd.V_slice hv
  have Ta := Aside0.mk hv
  clear hv hb hT_
  refine hK.out _ _ ⟨(blk_cell J4.out.K 0).trans rfl, (blk_cell J4.out.K 1).trans rfl, (blk_cell J4.out.K 2).trans rfl⟩ (fun hHeld => ?_)
  clear hK K
  refine norm_ (a' := ?_) ?_ ?_
  rotate_left
  · show Act.put _ (some 23) _ = _
    simp only [Act.put, List.setIfInBounds_toArray, List.set_cons_zero, List.set_cons_succ, i64_w, i32_w, u8_w, u32_w]
    rfl
  refine one_ (i := 9) (N := (some 25)) #[true, true, true, true, true, true, true, true, true, true, true, true, false, false, false, false] rfl rfl (one_of HT_.out (by kernel_rfl)) (by decide) (fun K hK => ?_)
  refine goes_ Tryd.func36 (by kernel_rfl) rfl #[.agg #[.int .i64 a0, .int .i64 a1, .slice A l.length c], .int .i64 1] (by rfl) rfl rfl (by (try simp only [List.map_toArray, List.map_cons, List.map_nil]); first | done | rfl | (simp only [List.length_drop, List.length_take]; rfl)) ?_
  refine (pick_go a0 a1 l 1 _ _ J4.out.V (by decide)).mono ?_
  rintro e w7 ⟨y, vy, rfl, hv, hb⟩
  refine ⟨_, rfl, ?_⟩
  have J5 := Aside0.mk (J4.out.below hb)
  have Vvy := Aside0.mk hv
  have Ta7 := Aside0.mk (Ta.out.step hb)
  clear hv hb
  refine hK.out _ _ ⟨(blk_cell J5.out.K 0).trans rfl, (blk_cell J5.out.K 1).trans rfl, (blk_cell J5.out.K 2).trans rfl⟩ (fun hHeld => ?_)
  clear hK K
  refine norm_ (a' := ?_) ?_ ?_
  rotate_left
  · show Act.put _ (some 25) _ = _
    simp only [Act.put, List.setIfInBounds_toArray, List.set_cons_zero, List.set_cons_succ, i64_w, i32_w, u8_w, u32_w]
    rfl
  refine one_ (i := 12) (N := (some 28)) #[true, true, true, true, true, true, true, true, true, true, true, true, true, false, false, false] rfl rfl (one_of HT_.out (by kernel_rfl)) (by decide) (fun K hK => ?_)
  refine goes_ Tryd.func18 (by kernel_rfl) rfl #[.agg #[.int .i64 y.f0, .int .i64 y.f1, vy], .int .i64 (wrap64 (dd - 1))] (by rfl) rfl rfl (by (try simp only [List.map_toArray, List.map_cons, List.map_nil]); first | done | rfl | (simp only [List.length_drop, List.length_take]; rfl)) ?_
  refine (IH.out (fun k => G k ∨ k = g4) _ _ _ _ _ (J5.out.lt HG.out) Vvy.out).mono ?_
  rintro e w8 ⟨tb, u, hT_, rfl, hv, hb⟩
  refine ⟨_, rfl, ?_⟩
  have Ytb := Aside0.mk hT_
  have J6 := Aside0.mk (J5.out.below hb)
  obtain ⟨Ab, cb, rfl⟩ := Kd.V_slice hv
  have Tb := Aside0.mk hv
  have Ta8 := Aside0.mk (Ta7.out.step hb)
  clear hv hb hT_
  refine hK.out _ _ ⟨(blk_cell J6.out.K 0).trans rfl, (blk_cell J6.out.K 1).trans rfl, (blk_cell J6.out.K 2).trans rfl⟩ (fun hHeld => ?_)
  clear hK K
  refine norm_ (a' := ?_) ?_ ?_
  rotate_left
  · show Act.put _ (some 28) _ = _
    simp only [Act.put, List.setIfInBounds_toArray, List.set_cons_zero, List.set_cons_succ, i64_w, i32_w, u8_w, u32_w]
    rfl
  refine one_ (i := 13) (N := (some 29)) #[true, true, true, true, true, true, true, true, true, true, true, true, true, true, false, false] rfl rfl (one_of HT_.out (by kernel_rfl)) (by decide) (fun K hK => ?_)
  refine Kd.N_lit_step k29 _ 29 ?hg (N' := 29) ?hd (xs := ([ta, tb] : List S29)) (inner := [.int .i64 ta.f0, .int .i64 ta.f1, .slice Aa ta.f2.length ca, .int .i64 tb.f0, .int .i64 tb.f1, .slice Ab tb.f2.length cb]) (ok := fun k => ¬ (G k ∨ k = g4)) (okp := fun k => ¬ (G k ∨ k = g4)) ?hr ?hp (fun _ hk => hk) (fun hk => by have := J6.out.lt HG.out _ hk; omega) (Below.refl _ _) (Nat.le_refl _) (by simp) ?_
  (case hd => rfl)
  (case hg => rfl)
  (case hr => first | (go_simp; done) | (go_simp; rfl))
  (case hp => exact Reps.c3 Ta8.out.fkG (Reps.c3 Tb.out.fkG (Reps.none _ _)))
  intro vr w9 hN hb _ _
  have J7 := Aside0.mk (J6.out.below hb)
  have Tr : Aside0 (TV w9 (fun k => G k ∨ k = g4) vr [ta, tb]) := ⟨TV.ofN hN (fun _ hk => hk)⟩
  clear hN hb
  obtain ⟨Ar, cr, rfl⟩ := Kd.V_slice Tr.out
  refine hK.out _ _ ⟨(blk_cell J7.out.K 0).trans rfl, (blk_cell J7.out.K 1).trans rfl, (blk_cell J7.out.K 2).trans rfl⟩ (fun hHeld => ?_)
  clear hK K
  refine norm_ (a' := ?_) ?_ ?_
  rotate_left
  · show Act.put _ (some 29) _ = _
    simp only [Act.put, List.setIfInBounds_toArray, List.set_cons_zero, List.set_cons_succ, i64_w, i32_w, u8_w, u32_w]
    rfl
  refine one_ (i := 14) (N := (some 30)) #[true, true, true, true, true, true, true, true, true, true, true, true, true, true, true, false] rfl rfl (one_of HT_.out (by kernel_rfl)) (by decide) (fun K hK => ?_)
  refine goes_ Tryd.func21 (by kernel_rfl) rfl #[.int .i64 (wrap64 (wrap64 (16 + t) - 2)), .slice Ar ([ta, tb] : List S29).length cr] (by rfl) rfl rfl (by (try simp only [List.map_toArray, List.map_cons, List.map_nil]); first | done | rfl | (simp only [List.length_drop, List.length_take]; rfl)) ?_
  refine (T_goG _ _ _ _ (fun k => G k ∨ k = g4) (J7.out.lt HG.out) Tr.out).mono ?_
  rintro e w10 ⟨v2, rfl, hv2, hb⟩
  refine ⟨_, rfl, ?_⟩
  have J8 := Aside0.mk (J7.out.below hb)
  obtain ⟨A7, c7, rfl⟩ := Kd.V_slice hv2
  have T7 := Aside0.mk hv2
  clear hv2 hb
  refine hK.out _ _ ⟨(blk_cell J8.out.K 0).trans rfl, (blk_cell J8.out.K 1).trans rfl, (blk_cell J8.out.K 2).trans rfl⟩ (fun hHeld => ?_)
  clear hK K
  refine norm_ (a' := ?_) ?_ ?_
  rotate_left
  · show Act.put _ (some 30) _ = _
    simp only [Act.put, List.setIfInBounds_toArray, List.set_cons_zero, List.set_cons_succ, i64_w, i32_w, u8_w, u32_w]
    rfl
  refine last_ (i := 15) (N := none) #[true, true, true, true, true, true, true, true, true, true, true, true, true, true, true, true] rfl rfl (one_of HT_.out (by kernel_rfl)) (by decide) (fun K hK => ?_)
  have hs0 : w10.cell? ⟨g4, 0, none⟩ = some (.int .i64 0) := (blk_cell J8.out.R 0).trans rfl
  have hs1 : w10.cell? ⟨g4, 1, none⟩ = some (.int .i64 0) := (blk_cell J8.out.R 1).trans rfl
  have hs2 : w10.cell? ⟨g4, 2, none⟩ = some (.slice none 0 0) := (blk_cell J8.out.R 2).trans rfl
  have hf0 := blk_frozen J8.out.R 0
  have hf1 := blk_frozen J8.out.R 1
  have hf2 := blk_frozen J8.out.R 2
  refine skip_ (w1 := ?_) (by rfl) rfl ?_ ?_
  rotate_left
  · go_simp
    rfl
  refine hK.out _ _ ?_
  clear hK K
  refine done_ (done_of HT_.out (by kernel_rfl)) ?_
  try go_wp2
  refine bodyPost_ret (results_cell_row rfl _ _ g4 29 #[.int .i64 (wrap64 (wrap64 (16 + t) - 2)), .int .i64 0, .slice A7 ([ta, tb] : List S29).length c7] (0, 0) _ rfl (blk_set3 J8.out.R rfl _ _ _) Tryd.underlying29 rfl (by kernel_rfl)) rfl ?_
  exact ⟨⟨wrap64 (wrap64 (16 + t) - 2), 0, [ta, tb]⟩, _, .inr ⟨_, ta, tb, O16.out, rfl, Yta.out, Ytb.out⟩, rfl, (T7.out.set3 (g := g4) (.inr rfl) _ _ _).less, below_set3 J8.out.B J8.out.G _ _ _⟩
theorem plain_go : ∀ (d : Nat), d ≤ 100 → ∀ (G : Nat → Prop) (a0 a1 : Int) (v : Value) (l : List S24) (w : World), (∀ k, G k → k < w.heap.size) → RW w v l → Calls Tryd.prog 18 #[.agg #[.int .i64 a0, .int .i64 a1, v], .int .i64 (d : Int)] w fun e w' => ∃ (t : S29) (v2 : Value), Ty d t ∧ e = .returned (.agg #[.int .i64 t.f0, .int .i64 t.f1, v2]) ∧ TV w' G v2 t.f2 ∧ Below w.heap.size w w'
  | 0, _, G, a0, a1, v, l, w, hG, hv => by
    obtain ⟨A, c, rfl⟩ := Kd.V_slice hv
    obtain ⟨t, ht, _, _⟩ := within4 a1
    exact plain_leaf G 0 _ a0 a1 t A c l w hv ht hG (.inl (by omega))
  | d + 1, hd, G, a0, a1, v, l, w, hG, hv => by
    obtain ⟨A, c, rfl⟩ := Kd.V_slice hv
    obtain ⟨t, ht, h0, h4⟩ := within4 a1
    by_cases h2 : t < 2
    · exact plain_leaf G (d + 1) _ a0 a1 t A c l w hv ht hG (.inr ⟨by omega, h2⟩)
    · have e : wrap64 (((d + 1 : Nat) : Int) - 1) = (d : Int) := by unfold wrap64; omega
      exact plain_node G d _ a0 a1 t A c l w hv ht (by omega) h2 h4 hG (by rw [e]; exact plain_go d (by omega))
end Go.Proofs.YtnecmclnokikoaaDoor.P
/- Package term: how many kids an Op has. -/
namespace Go.Proofs.YtnecmclnokikoaaDoor.Run
open Go.RowKit Go.Proofs.YtnecmclnokikoaaDoor.P Go.Proofs.YtnecmclnokikoaaDoorW.PrintWords Go.Proofs.YtnecmclnokikoaaDoorW.PrintLast Go.Proofs.YtnecmclnokikoaaDoorW.PrintMore
set_option linter.unusedVariables false
set_option linter.unusedSimpArgs false
/-- The table's cells. -/
def CN : Array Value := (counts.map (Value.int .i64)).toArray
def ZN : Array Value := Array.replicate 31 (.int .i64 0)
theorem CN_one : CN.all (·.oneCell') = true := by kernel_rfl
theorem CN_info : (Tryd.prog.info? 137).map (·.size) = some CN.size := by kernel_rfl
theorem ZN_size : ZN.size = CN.size := by kernel_rfl
theorem CN_at (i : Nat) (h : i < 31) : CN[i]? = some (Value.int .i64 (counts.getD i 0)) := by
  show (counts.map (Value.int .i64)).toArray[i]? = _
  rw [List.getElem?_toArray, List.getElem?_map, List.getD_eq_getElem?_getD, List.getElem?_eq_getElem (show i < counts.length from h)]
  rfl
theorem gen_world {P : Program} {ops : Array Oper} {Q : Exit → Act → World → Prop} {rest : List Oper} {a : Act} {W : World} (R : World → Prop) (h : R W) (k : ∀ w, R w → wpList P ops Q rest a w) : wpList P ops Q rest a W := k W h
theorem build_as {P : Program} {ops : Array Oper} {Q : Exit → Act → World → Prop} {rest : List Oper} {o : Oper} {a : Act} {w : World} (hg : o.guard = none) (t : TypeId) (parts : Array (Nat × Operand)) (ho : o.op = .build t parts)
    (cells : Array Value) (hb : P.built t (parts.map fun (i, x) => (i, a.eval x)).toList = some cells) (h : wpList P ops Q rest (a.put o.dst (.agg cells)) w) : wpList P ops Q (o :: rest) a w :=
  wpList_build hg t parts ho (by rw [hb]; rfl) (by rw [hb]; exact h)
theorem below_setRow {B : Nat} {w W : World} {g : Nat} (h : Below B w W) (hg : B ≤ g) (cs : Array Value) : Below B w (W.setRow g cs) :=
  h.trans ⟨rfl, rfl, rfl, by rw [setRow_size]; exact Nat.le_refl _, fun i hi => setRow_other W g i cs (by omega)⟩
set_option maxHeartbeats 8000000 in
set_option maxRecDepth 100000 in
theorem kids62 (o : Int) (h0 : 0 ≤ o) (h1 : o < 31) (w : World) : Calls Tryd.prog 71 #[.int .i64 o] w fun en w' => en = .returned (.int .i64 (kidsOf o)) ∧ Below w.heap.size w w' := by
  have g1 : (o < 0) = False := eq_false (by omega)
  have g2 : decide (o < 0) = false := decide_eq_false (by omega)
  have g3 : (31 ≤ o) = False := eq_false (by omega)
  have g4 : decide (31 ≤ o) = false := decide_eq_false (by omega)
  have g5 : (0 ≤ o) = True := eq_true h0
  have g6 : (o < 31) = True := eq_true h1
  have HO := Aside0.mk (And.intro h0 h1)
  have hk : Aside0 (o.toNat < 31) := ⟨by omega⟩
  have g7 : (o.toNat < 31) = True := eq_true hk.out
  go_enter Tryd.func71, Tryd.ntmps71
  go_wp2_with (first | ((with_reducible refine gate_dst (N := 4) rfl ?_); refine build_as rfl 137 _ rfl CN (by kernel_rfl) ?_) | ((with_reducible refine gate_dst (N := 3) rfl ?_); refine box_event ?hg (N := 3) ?hd (cs := ZN) (t := 137) ?hr ?_; (case hd => rfl); (case hg => rfl); (case hr => first | (go_simp; done) | (go_simp; rfl)); intro g hg w2 hbox hb; have HG := Aside0.mk hg; have HBX := Aside0.mk hbox; have HB := Aside0.mk hb; clear hg hbox hb) | (refine wpList_plain rfl fun _ hK => wp_store_row 137 (.tmp 3) (.tmp 4) rfl g CN rfl rfl 137 ZN HBX.out CN_info ZN_size CN_one (hK _ _ ?_); clear hK; refine gen_world (fun w3 => w3.heap[g]? = some (.cells CN 137 (0, 0)) ∧ Below w.heap.size w w3) ⟨setRow_heap _ _ _ _ _ _ HBX.out, below_setRow HB.out (Nat.le_of_eq HG.out.symm) _⟩ ?_; rintro w3 ⟨h3, b3⟩; have K3 := Aside0.mk h3; have B3 := Aside0.mk b3; clear HBX HB HG h3 b3; have kc : w3.cell? ⟨g, o.toNat, none⟩ = some (.int .i64 (counts.getD o.toNat 0)) := (blk_cell K3.out _).trans (CN_at _ hk.out)))
  go_ret
  refine ⟨?_, B3.out⟩
  unfold kidsOf
  rw [if_pos HO.out]
  rfl
set_option maxHeartbeats 8000000 in
set_option maxRecDepth 100000 in
theorem kids62_none (o : Int) (h : o < 0 ∨ 31 ≤ o) (w : World) : Calls Tryd.prog 71 #[.int .i64 o] w fun en w' => en = .returned (.int .i64 (kidsOf o)) ∧ Below w.heap.size w w' := by
  have HK : Aside0 (kidsOf o = -1) := ⟨by unfold kidsOf; rw [if_neg (by omega)]⟩
  rcases h with h | h
  · have g1 : (o < 0) = True := eq_true h
    have g2 : decide (o < 0) = true := decide_eq_true h
    clear h
    go_enter Tryd.func71, Tryd.ntmps71
    go_wp2_with (first | ((with_reducible refine gate_dst (N := 4) rfl ?_); refine build_as rfl 137 _ rfl CN (by kernel_rfl) ?_) | ((with_reducible refine gate_dst (N := 3) rfl ?_); refine box_event ?hg (N := 3) ?hd (cs := ZN) (t := 137) ?hr ?_; (case hd => rfl); (case hg => rfl); (case hr => first | (go_simp; done) | (go_simp; rfl)); intro g hg w2 hbox hb; have HG := Aside0.mk hg; have HBX := Aside0.mk hbox; have HB := Aside0.mk hb; clear hg hbox hb) | (refine wpList_plain rfl fun _ hK => wp_store_row 137 (.tmp 3) (.tmp 4) rfl g CN rfl rfl 137 ZN HBX.out CN_info ZN_size CN_one (hK _ _ ?_); clear hK; refine gen_world (fun w3 => w3.heap[g]? = some (.cells CN 137 (0, 0)) ∧ Below w.heap.size w w3) ⟨setRow_heap _ _ _ _ _ _ HBX.out, below_setRow HB.out (Nat.le_of_eq HG.out.symm) _⟩ ?_; rintro w3 ⟨h3, b3⟩; have K3 := Aside0.mk h3; have B3 := Aside0.mk b3; clear HBX HB HG h3 b3))
    go_ret
    exact ⟨by rw [HK.out]; rfl, B3.out⟩
  · have g1 : (o < 0) = False := eq_false (by omega)
    have g2 : decide (o < 0) = false := decide_eq_false (by omega)
    have g3 : (31 ≤ o) = True := eq_true h
    have g4 : decide (31 ≤ o) = true := decide_eq_true h
    clear h
    go_enter Tryd.func71, Tryd.ntmps71
    go_wp2_with (first | ((with_reducible refine gate_dst (N := 4) rfl ?_); refine build_as rfl 137 _ rfl CN (by kernel_rfl) ?_) | ((with_reducible refine gate_dst (N := 3) rfl ?_); refine box_event ?hg (N := 3) ?hd (cs := ZN) (t := 137) ?hr ?_; (case hd => rfl); (case hg => rfl); (case hr => first | (go_simp; done) | (go_simp; rfl)); intro g hg w2 hbox hb; have HG := Aside0.mk hg; have HBX := Aside0.mk hbox; have HB := Aside0.mk hb; clear hg hbox hb) | (refine wpList_plain rfl fun _ hK => wp_store_row 137 (.tmp 3) (.tmp 4) rfl g CN rfl rfl 137 ZN HBX.out CN_info ZN_size CN_one (hK _ _ ?_); clear hK; refine gen_world (fun w3 => w3.heap[g]? = some (.cells CN 137 (0, 0)) ∧ Below w.heap.size w w3) ⟨setRow_heap _ _ _ _ _ _ HBX.out, below_setRow HB.out (Nat.le_of_eq HG.out.symm) _⟩ ?_; rintro w3 ⟨h3, b3⟩; have K3 := Aside0.mk h3; have B3 := Aside0.mk b3; clear HBX HB HG h3 b3))
    go_ret
    exact ⟨by rw [HK.out]; rfl, B3.out⟩
theorem kids_any (o : Int) (w : World) : Calls Tryd.prog 71 #[.int .i64 o] w fun en w' => en = .returned (.int .i64 (kidsOf o)) ∧ Below w.heap.size w w' := by
  by_cases h : 0 ≤ o ∧ o < 31
  · exact kids62 o h.1 h.2 w
  · exact kids62_none o (by omega) w
end Go.Proofs.YtnecmclnokikoaaDoor.Run
/- Package run: eval, by strong induction on how many rounds may be. -/
namespace Go.Proofs.YtnecmclnokikoaaDoor.Run
open Go.RowKit Go.Proofs.YtnecmclnokikoaaDoor.P Go.Proofs.YtnecmclnokikoaaDoorW.PrintWords Go.Proofs.YtnecmclnokikoaaDoorW.PrintLast Go.Proofs.YtnecmclnokikoaaDoorW.PrintMore
set_option linter.unusedVariables false
set_option linter.unusedSimpArgs false
mutual
theorem RV_lt {w0 w : World} {ok : Nat → Prop} : ∀ (v : V) (p : Value), RV w0 w ok v p → RV w0 w (fun k => ok k ∧ k < w.heap.size) v p
  | .int n, p, h => by
    obtain ⟨g, h1, h2, h3⟩ := h
    exact ⟨g, h1, ⟨h2, blk_lt h3⟩, h3⟩
  | .pair a b, p, h => by
    obtain ⟨g, r, pa, pb, h1, h2, h3, h4, h5, h6, h7⟩ := h
    exact ⟨g, r, pa, pb, h1, ⟨h2, blk_lt h3⟩, h3, ⟨h4, blk_lt h5⟩, h5, RV_lt a pa h6, RV_lt b pb h7⟩
  | .fn t e, p, h => by
    obtain ⟨g, A, c, pe, h1, h2, h3, h4, h5, h6⟩ := h
    exact ⟨g, A, c, pe, h1, ⟨h2, blk_lt h3⟩, h3, h4, h5, RE_lt e pe h6⟩
theorem RE_lt {w0 w : World} {ok : Nat → Prop} : ∀ (e : E) (p : Value), RE w0 w ok e p → RE w0 w (fun k => ok k ∧ k < w.heap.size) e p
  | .nil, p, h => h
  | .val v up, p, h => by
    obtain ⟨g, pv, pu, h1, h2, h3, h4, h5⟩ := h
    exact ⟨g, pv, pu, h1, ⟨h2, blk_lt h3⟩, h3, RV_lt v pv h4, RE_lt up pu h5⟩
  | .loop t up, p, h => by
    obtain ⟨g, q, A, c, pu, h1, h2, h3, h4, h5, h6, h7, h8⟩ := h
    exact ⟨g, q, A, c, pu, h1, ⟨h2, blk_lt h3⟩, h3, ⟨h4, blk_lt h5⟩, h5, h6, h7, RE_lt up pu h8⟩
end
/-- Where values lie inside eval: not in its own term's block. -/
def Ok2 (ok : Nat → Prop) (n k : Nat) : Prop := (ok k ∧ k < n) ∨ n < k
theorem Ok2.up {ok : Nat → Prop} {n k : Nat} (h : Ok2 ok n k) : ok k ∨ n ≤ k := h.elim (fun h => Or.inl h.1) (fun h => Or.inr (Nat.le_of_lt h))
theorem Ok2.ne {ok : Nat → Prop} {n k : Nat} (h : Ok2 ok n k) : k ≠ n := h.elim (fun h => Nat.ne_of_lt h.2) (fun h => Nat.ne_of_gt h)
theorem Ok2.gm {ok : Nat → Prop} {n k gm : Nat} (h : Ok2 ok n k) (hok : ∀ k, ok k → k ≠ gm) (hg : gm < n) : k ≠ gm := h.elim (fun h => hok k h.1) (fun h => by omega)
theorem Ok2.at {ok : Nat → Prop} {n m k : Nat} (h : Ok2 ok n k ∨ m ≤ k) (hm : n < m) : Ok2 ok n k := h.elim id (fun h => Or.inr (Nat.lt_of_lt_of_le hm h))
theorem RV_end {w0 w w1 w' : World} {ok : Nat → Prop} {v : V} {p : Value} (h : RV w0 w' (fun k => Ok2 ok w.heap.size k ∨ w1.heap.size ≤ k) v p) (hs : w.heap.size ≤ w1.heap.size) : RV w0 w' (fun k => ok k ∨ w.heap.size ≤ k) v p :=
  RV_step (w := w') (fun k hk => hk.elim (fun h => h.up) (fun h => Or.inr (Nat.le_trans hs h))) (fun _ _ _ => rfl) _ _ h
theorem RV_at {w0 w w1 w' : World} {ok : Nat → Prop} {v : V} {p : Value} (h : RV w0 w' (fun k => Ok2 ok w.heap.size k ∨ w1.heap.size ≤ k) v p) (hs : w.heap.size < w1.heap.size) : RV w0 w' (Ok2 ok w.heap.size) v p :=
  RV_step (w := w') (fun k hk => Ok2.at hk hs) (fun _ _ _ => rfl) _ _ h
theorem RV_out {w0 w' : World} {ok : Nat → Prop} {n : Nat} {v : V} {p : Value} (h : RV w0 w' (Ok2 ok n) v p) : RV w0 w' (fun k => ok k ∨ n ≤ k) v p :=
  RV_step (w := w') (fun k hk => hk.up) (fun _ _ _ => rfl) _ _ h
/-- What is to come, of n rounds: something is wrong already; or a term's value. -/
def Ahead (F : Int) (r : V × Int × Int) (n : Nat) (e : E) (t : S29) (st er : Int) : Prop := (er ≠ 0 ∧ r = (.int 0, st, er)) ∨ (er = 0 ∧ ev F n e t st 0 = some r)
theorem ahead_of {F : Int} {r : V × Int × Int} : ∀ {n : Nat} {e : E} {t : S29} {st er : Int}, ev F n e t st er = some r → Ahead F r n e t st er
  | 0, e, t, st, er, h => by cases h
  | n + 1, e, t, st, er, h => by
    by_cases hz : er = 0
    · exact Or.inr ⟨hz, hz ▸ h⟩
    · unfold ev at h
      rw [if_pos hz] at h
      exact Or.inl ⟨hz, (Option.some.inj h).symm⟩
/-- What a round keeps, but for the term's block. -/
structure Mid (w0 w : World) (ok : Nat → Prop) (gm : Nat) (F st er : Int) (e : E) (pe : Value) (wr : World) : Prop where
  hi : Inv w0 wr gm st F er
  he : RE w0 wr (Ok2 ok w.heap.size) e pe
  hk : KeepBut w wr gm none
  hs : w.heap.size < wr.heap.size
/-- What holds ahead of a round. -/
def LoopI (w0 w : World) (ok : Nat → Prop) (gm : Nat) (F : Int) (r : V × Int × Int) (k n : Nat) (pe : Value) (wr : World) : Prop := n ≤ k ∧ ∃ e t A c st er,
  Mid w0 w ok gm F st er e pe wr ∧ wr.heap[w.heap.size]? = some (.cells #[.int .i64 t.f0, .int .i64 t.f1, .slice A t.f2.length c] 29 (0, 0)) ∧ t.f2.length ≤ c ∧ Kd.C k29 w0 A t.f2.length t.f2 ∧ Ahead F r n e t st er
/-- The world with a term's block turned. -/
theorem put3 {w : World} {g : Nat} {a b c a' b' c' : Value} (h : w.heap[g]? = some (.cells #[a, b, c] 29 (0, 0))) :
    (((w.setCell ⟨g, 0, none⟩ a').setCell ⟨g, 1, none⟩ b').setCell ⟨g, 2, none⟩ c').heap[g]? = some (.cells #[a', b', c'] 29 (0, 0)) :=
  blk_put (blk_put (blk_put h 0 a' rfl) 1 b' rfl) 2 c' rfl
theorem mid_put {w0 w : World} {ok : Nat → Prop} {gm : Nat} {F st er : Int} {e : E} {pe : Value} {wr : World} (h : Mid w0 w ok gm F st er e pe wr) (hg : gm < w.heap.size) (i : Nat) (v : Value) : Mid w0 w ok gm F st er e pe (wr.setCell ⟨w.heap.size, i, none⟩ v) where
  hi := ⟨blk_far h.hi.1 (Nat.ne_of_lt hg) v, below_set h.hi.2.1 (Nat.le_trans h.hi.2.2 (Nat.le_of_lt hg)), h.hi.2.2⟩
  he := RE_step (fun _ h => h) (fun k hk _ => Below.heap_setCell wr ⟨w.heap.size, i, none⟩ v k hk.ne) _ _ h.he
  hk := keep_far h.hk (Nat.le_refl _) v
  hs := by have := h.hs; simpa [World.setCell] using this
theorem loop_put {w0 w : World} {ok : Nat → Prop} {gm : Nat} {F st er : Int} {e : E} {pe : Value} {wr : World} {r : V × Int × Int} {k n : Nat} {a b c0 : Value} {t : S29} {A : Option Addr} {c : Nat} (h : Mid w0 w ok gm F st er e pe wr) (hg : gm < w.heap.size)
    (hb : wr.heap[w.heap.size]? = some (.cells #[a, b, c0] 29 (0, 0))) (hc : t.f2.length ≤ c) (hC : Kd.C k29 w0 A t.f2.length t.f2) (ha : Ahead F r n e t st er) (hn : n ≤ k) :
    LoopI w0 w ok gm F r k n pe (((wr.setCell ⟨w.heap.size, 0, none⟩ (.int .i64 t.f0)).setCell ⟨w.heap.size, 1, none⟩ (.int .i64 t.f1)).setCell ⟨w.heap.size, 2, none⟩ (.slice A t.f2.length c)) :=
  ⟨hn, e, t, A, c, st, er, mid_put (mid_put (mid_put h hg 0 _) hg 1 _) hg 2 _, put3 hb, hc, hC, ha⟩
theorem mid_keep {w0 w : World} {ok : Nat → Prop} {gm : Nat} {F st er st' er' : Int} {e : E} {pe : Value} {wr w' : World} (h : Mid w0 w ok gm F st er e pe wr) (hok : ∀ k, ok k → k ≠ gm) (hg : gm < w.heap.size) (hk : KeepBut wr w' gm none) (hi : Inv w0 w' gm st' F er') : Mid w0 w ok gm F st' er' e pe w' where
  hi := hi
  he := RE_keep h.he hk (fun k hk => hk.gm hok hg) (fun _ h => h)
  hk := KeepBut.trans h.hk hk (.inl rfl)
  hs := Nat.lt_of_lt_of_le h.hs hk.1
theorem mid_below {w0 w : World} {ok : Nat → Prop} {gm : Nat} {F st er : Int} {e : E} {pe : Value} {wr w' : World} (h : Mid w0 w ok gm F st er e pe wr) (hb : Below wr.heap.size wr w') : Mid w0 w ok gm F st er e pe w' where
  hi := h.hi.below hb
  he := RE_below h.he hb (fun _ h => h)
  hk := KeepBut.trans h.hk (KeepBut.of_below hb gm none) (.inl rfl)
  hs := Nat.lt_of_lt_of_le h.hs hb.size
/-- Another block of its own turned, in which nothing of e lies. -/
theorem mid_far {w0 w : World} {ok : Nat → Prop} {gm g : Nat} {F st er : Int} {e : E} {pe : Value} {wr : World} (h : Mid w0 w ok gm F st er e pe wr ∧ RE w0 wr (fun k => Ok2 ok w.heap.size k ∧ k < g) e pe) (hg : gm < g) (hw : w.heap.size ≤ g) (i : Nat) (v : Value) : Mid w0 w ok gm F st er e pe (wr.setCell ⟨g, i, none⟩ v) ∧ RE w0 (wr.setCell ⟨g, i, none⟩ v) (fun k => Ok2 ok w.heap.size k ∧ k < g) e pe := by
  have he : RE w0 (wr.setCell ⟨g, i, none⟩ v) (fun k => Ok2 ok w.heap.size k ∧ k < g) e pe := RE_step (fun _ h => h) (fun k hk _ => Below.heap_setCell wr ⟨g, i, none⟩ v k (Nat.ne_of_lt hk.2)) _ _ h.2
  exact ⟨⟨⟨blk_far h.1.hi.1 (Nat.ne_of_lt hg) v, below_set h.1.hi.2.1 (Nat.le_trans h.1.hi.2.2 (Nat.le_of_lt hg)), h.1.hi.2.2⟩, RE_step (w := wr.setCell ⟨g, i, none⟩ v) (fun _ h => h.1) (fun _ _ _ => rfl) _ _ he, keep_far h.1.hk hw v, by have := h.1.hs; simpa [World.setCell] using this⟩, he⟩
theorem Mid.with {w0 w : World} {ok : Nat → Prop} {gm : Nat} {F st er : Int} {e e' : E} {pe pe' : Value} {wr : World} (h : Mid w0 w ok gm F st er e pe wr) (he : RE w0 wr (Ok2 ok w.heap.size) e' pe') : Mid w0 w ok gm F st er e' pe' wr := ⟨h.hi, he, h.hk, h.hs⟩
set_option maxHeartbeats 16000000 in
set_option maxRecDepth 100000 in
theorem eval_step {F : Int} {k : Nat} (ih : ∀ j, j < k → CEV F j) : CEV F k := by
  intro w0 w gm e t pe A c st er ok r hi he hok hc hC hr
  have HOK := Aside0.mk hok
  have HGM := Aside0.mk (blk_lt hi.1)
  have IH := Aside0.mk ih
  have HI0 := Aside0.mk hi
  have START : Aside0 (LoopI w0 w ok gm F r k k pe (w.alloc (.cells #[.int .i64 t.f0, .int .i64 t.f1, .slice A t.f2.length c] 29))) := ⟨⟨Nat.le_refl _, e, t, A, c, st, er, ⟨hi.below (below_alloc (Below.refl _ _) _), RE_below (ok' := Ok2 ok w.heap.size) (RE_lt _ _ he) (below_alloc (Below.refl _ _) _) (fun k h => Or.inl h), keep_alloc (KeepBut.refl w gm none) _, by rw [size_alloc]; exact Nat.lt_succ_self _⟩, blk_new w _, hc, hC, ahead_of hr⟩⟩
  clear ih hi he hok hc hC hr
  go_enter Tryd.func29, Tryd.ntmps29
  go_wp2
  go_step3
  go_wp2
  go_step3
  go_wp2
  go_loopg [1] k (fun n p wr => Aside0 (LoopI w0 w ok gm F r k n p wr))
  case atStart => exact START
  case round =>
    obtain ⟨hn, e, t, A, c, st, er, hm, hb, hc, hC, ha⟩ := hrel.out
    clear START hrel
    by_cases hz : er ≠ 0
    · have R : r = (.int 0, st, er) := ha.elim And.right (fun h => absurd h.1 hz)
      subst R
      have HM := Aside0.mk hm
      have HB := Aside0.mk hb
      have HT := Aside0.mk (And.intro hc hC)
      have gmLT := Aside0.mk (show w.heap.size < wr.heap.size from hm.hs)
      have m0 : wr.cell? ⟨gm, 0, none⟩ = some (.int .i64 st) := (blk_cell hm.hi.1 0).trans rfl
      have m2 : wr.cell? ⟨gm, 2, none⟩ = some (.int .i64 er) := (blk_cell hm.hi.1 2).trans rfl
      have x0 : wr.cell? ⟨w.heap.size, 0, none⟩ = some (.int .i64 t.f0) := (blk_cell hb 0).trans rfl
      have x1 : wr.cell? ⟨w.heap.size, 1, none⟩ = some (.int .i64 t.f1) := (blk_cell hb 1).trans rfl
      have x2 : wr.cell? ⟨w.heap.size, 2, none⟩ = some (.slice A t.f2.length c) := (blk_cell hb 2).trans rfl
      have fz0 := blk_frozen hb 0
      have fz1 := blk_frozen hb 1
      have fz2 := blk_frozen hb 2
      have y1 : (er = 0) = False := eq_false hz
      have y2 : (er == 0) = false := by simpa using hz
      have y3 : (er != 0) = true := by simpa using hz
      clear hz ha hm hb hc hC hn
      go_wp2_with (first | (go_at_call 45; (with_reducible refine (whole39 _ _).mono ?_); rintro en w2 ⟨p2, rfl, hv⟩; have HV := Aside0.mk hv; clear hv))
      (try rw [Exit.noGoto_ret]); (try go_step)
      go_ret
      exact Ans_up (Ans_NV HM.out.hi HV.out) HM.out.hk
    · have hz : er = 0 := by simpa using hz
      subst hz
      obtain hv : ev F gk e t st 0 = some r := ha.elim (fun h => absurd rfl h.1) And.right
      clear ha
      obtain ⟨j, rfl⟩ : ∃ j, gk = j + 1 := by
        cases gk with
        | zero => cases hv
        | succ j => exact ⟨j, rfl⟩
      have JN := Aside0.mk hn
      have CJ : Aside0 (CEV F j) := ⟨@Aside0.out _ IH j (by omega)⟩
      have HM := Aside0.mk hm
      have HB := Aside0.mk hb
      have HT := Aside0.mk (And.intro hc hC)
      have gmLT := Aside0.mk (show w.heap.size < wr.heap.size from hm.hs)
      have m0 : wr.cell? ⟨gm, 0, none⟩ = some (.int .i64 st) := (blk_cell hm.hi.1 0).trans rfl
      have m2 : wr.cell? ⟨gm, 2, none⟩ = some (.int .i64 0) := (blk_cell hm.hi.1 2).trans rfl
      have x0 : wr.cell? ⟨w.heap.size, 0, none⟩ = some (.int .i64 t.f0) := (blk_cell hb 0).trans rfl
      have x1 : wr.cell? ⟨w.heap.size, 1, none⟩ = some (.int .i64 t.f1) := (blk_cell hb 1).trans rfl
      have x2 : wr.cell? ⟨w.heap.size, 2, none⟩ = some (.slice A t.f2.length c) := (blk_cell hb 2).trans rfl
      have fz0 := blk_frozen hb 0
      have fz1 := blk_frozen hb 1
      have fz2 := blk_frozen hb 2
      unfold ev at hv
      rw [if_neg (by simp)] at hv
      by_cases n1 : t.f0 = 1
      · have ho := n1
        rw [if_pos n1] at hv
        have q0 : (t.f0 == 1) = true := by simpa using ho
        have z0 : (t.f0 = 1) = True := eq_true ho
        have hle : ¬ 9223372036854775807 < t.f1 := fun h => by rw [if_pos h] at hv; cases hv
        rw [if_neg hle] at hv
        have C40 := Aside0.mk (find40 (n := t.f1) hm.he (by omega))
        obtain ⟨fe, hfe⟩ : ∃ fe, fe = find e t.f1.toNat := ⟨_, rfl⟩
        rw [← hfe] at hv C40
        clear hfe
        cases fe with
        | nil =>
          obtain rfl : r = (.int 0, st, 1) := (Option.some.inj hv).symm
          clear hv hm hb hc hC hn n1 ho hle
          go_wp2_with (first | (go_at_call 46; (with_reducible refine C40.out.mono ?_); rintro en w2_ ⟨px, rfl, hx, rfl⟩; obtain rfl : px = .pointer none := hx) | (go_at_call 47; (with_reducible refine (must_no HM.out.hi).mono ?_); rintro en w3 ⟨rfl, hi_, hk_⟩; have M3 := Aside0.mk (mid_keep HM.out HOK.out HGM.out hk_ hi_); have B3 := Aside0.mk (hk_.blk HB.out (Nat.ne_of_gt HGM.out) (by simp)); clear hi_ hk_) | (go_at_call 48; (with_reducible refine (step_err M3.out.hi (by decide)).mono ?_); rintro en w4 ⟨rfl, hi_, hk_⟩; have M4 := Aside0.mk (mid_keep M3.out HOK.out HGM.out hk_ hi_); have B4 := Aside0.mk (hk_.blk B3.out (Nat.ne_of_gt HGM.out) (by simp)); clear hi_ hk_))
          go_roundg j
          case measure => exact Nat.lt_succ_self j
          case rel => exact ⟨Nat.le_of_succ_le JN.out, _, _, _, _, _, _, M4.out, B4.out, HT.out.1, HT.out.2, Or.inl ⟨by decide, rfl⟩⟩

        | val v up =>
          obtain rfl : r = (v, st, 0) := (Option.some.inj hv).symm
          clear hv hm hb hc hC hn n1 ho hle
          go_wp2_with (first | (go_at_call 46; (with_reducible refine C40.out.mono ?_); rintro en w2_ ⟨px, rfl, hx, rfl⟩; obtain ⟨gx, pv, pu, rfl, okx, hx0, hxv, hxu⟩ := hx; have HX0 := Aside0.mk hx0; have HXV := Aside0.mk hxv; have XN := Aside0.mk (okx.gm HOK.out HGM.out); clear hx0 hxv hxu okx) | (go_at_call 47; (with_reducible refine (must_ok HM.out.hi).mono ?_); rintro en w3 ⟨rfl, hi_, hk_⟩; have M3 := Aside0.mk (mid_keep HM.out HOK.out HGM.out hk_ hi_); have B3 := Aside0.mk (hk_.blk HB.out (Nat.ne_of_gt HGM.out) (by simp)); have K3 := Aside0.mk hk_; have y0 : w3.cell? ⟨gx, 0, none⟩ = some pv := (blk_cell (hk_.blk HX0.out XN.out (by simp)) 0).trans rfl; have y1 : w3.cell? ⟨gx, 1, none⟩ = some (.pointer none) := (blk_cell (hk_.blk HX0.out XN.out (by simp)) 1).trans rfl; clear hi_ hk_))
          (try rw [Exit.noGoto_ret]); (try go_step)
          go_ret
          exact ⟨_, rfl, RV_out (RV_keep HXV.out K3.out (fun k hk => hk.gm HOK.out HGM.out) (fun _ h => h)), M3.out.hi, M3.out.hk⟩
        | loop b up =>
          replace hv : stepped F st ((kid b 1).bind fun c => ev F j (.loop b up) c (st + 1) 0) = some r := hv
          by_cases hst : F ≤ st
          · obtain rfl : r = (.int 0, st, 17) := by
              unfold stepped at hv
              rw [if_pos hst] at hv
              exact (Option.some.inj hv).symm
            have HST := Aside0.mk hst
            clear hv hm hb hc hC hn n1 ho hle hst
            go_wp2_with (first | (go_at_call 46; (with_reducible refine C40.out.mono ?_); rintro en w2_ ⟨px, rfl, hx, rfl⟩; obtain ⟨gx, hb_, A1, c1, pu, rfl, okx, hx0, okh, hh0, hc1, hC1, hxu⟩ := hx; have HX0 := Aside0.mk hx0; have HH0 := Aside0.mk hh0; have XR := Aside0.mk (And.intro hc1 hC1); have HXU := Aside0.mk hxu; have OK_ := Aside0.mk (And.intro okx okh); have XN := Aside0.mk (okx.gm HOK.out HGM.out); have HN := Aside0.mk (okh.gm HOK.out HGM.out); clear hx0 hh0 hxu okx okh hc1 hC1) | (go_at_call 47; (with_reducible refine (must_ok HM.out.hi).mono ?_); rintro en w3 ⟨rfl, hi_, hk_⟩; have M3 := Aside0.mk (mid_keep HM.out HOK.out HGM.out hk_ hi_); have B3 := Aside0.mk (hk_.blk HB.out (Nat.ne_of_gt HGM.out) (by simp)); have HX3 := Aside0.mk (hk_.blk HX0.out XN.out (by simp)); have HH3 := Aside0.mk (hk_.blk HH0.out HN.out (by simp)); have XU3 := Aside0.mk (RE_keep HXU.out hk_ (fun k hk => hk.gm HOK.out HGM.out) (fun _ h => h)); have y1 : w3.cell? ⟨gx, 1, none⟩ = some (.pointer (some ⟨hb_, 0, none⟩)) := (blk_cell HX3.out 1).trans rfl; clear hi_ hk_) | (go_at_call 48; (with_reducible refine (step_no M3.out.hi HST.out).mono ?_); rintro en w4 ⟨rfl, hi_, hk_⟩; have M4 := Aside0.mk (mid_keep M3.out HOK.out HGM.out hk_ hi_); have B4 := Aside0.mk (hk_.blk B3.out (Nat.ne_of_gt HGM.out) (by simp)); clear hi_ hk_))
            go_roundg j
            case measure => exact Nat.lt_succ_self j
            case rel => exact ⟨Nat.le_of_succ_le JN.out, _, _, _, _, _, _, M4.out, B4.out, HT.out.1, HT.out.2, Or.inl ⟨by decide, rfl⟩⟩

          · unfold stepped at hv
            rw [if_neg hst] at hv
            have hsr : 0 ≤ st ∧ st < 65536 := Decidable.byContradiction fun h => by rw [if_neg h] at hv; cases hv
            rw [if_pos hsr] at hv
            obtain ⟨b1, hb1, hv⟩ := Option.bind_eq_some_iff.mp hv
            have XF := Aside0.mk (And.intro (show st < F by omega) hsr)
            have HV := Aside0.mk (ahead_of hv)
            have HB1 := Aside0.mk hb1
            clear hv hm hb hc hC hn n1 ho hle hst hsr hb1
            go_wp2_with (first | (go_at_call 46; (with_reducible refine C40.out.mono ?_); rintro en w2_ ⟨px, rfl, hx, rfl⟩; obtain ⟨gx, hb_, A1, c1, pu, rfl, okx, hx0, okh, hh0, hc1, hC1, hxu⟩ := hx; have HX0 := Aside0.mk hx0; have HH0 := Aside0.mk hh0; have XR := Aside0.mk (And.intro hc1 hC1); have HXU := Aside0.mk hxu; have OK_ := Aside0.mk (And.intro okx okh); have XN := Aside0.mk (okx.gm HOK.out HGM.out); have HN := Aside0.mk (okh.gm HOK.out HGM.out); clear hx0 hh0 hxu okx okh hc1 hC1) | (go_at_call 47; (with_reducible refine (must_ok HM.out.hi).mono ?_); rintro en w3 ⟨rfl, hi_, hk_⟩; have M3 := Aside0.mk (mid_keep HM.out HOK.out HGM.out hk_ hi_); have B3 := Aside0.mk (hk_.blk HB.out (Nat.ne_of_gt HGM.out) (by simp)); have HX3 := Aside0.mk (hk_.blk HX0.out XN.out (by simp)); have HH3 := Aside0.mk (hk_.blk HH0.out HN.out (by simp)); have XU3 := Aside0.mk (RE_keep HXU.out hk_ (fun k hk => hk.gm HOK.out HGM.out) (fun _ h => h)); have y1 : w3.cell? ⟨gx, 1, none⟩ = some (.pointer (some ⟨hb_, 0, none⟩)) := (blk_cell HX3.out 1).trans rfl; clear hi_ hk_) | (go_at_call 48; (with_reducible refine (step_ok M3.out.hi XF.out.1 XF.out.2.1 XF.out.2.2).mono ?_); rintro en w4 ⟨rfl, hi_, hk_⟩; have M4 := Aside0.mk (mid_keep M3.out HOK.out HGM.out hk_ hi_); have B4 := Aside0.mk (hk_.blk B3.out (Nat.ne_of_gt HGM.out) (by simp)); have HX4 := Aside0.mk (hk_.blk HX3.out XN.out (by simp)); have HH4 := Aside0.mk (hk_.blk HH3.out HN.out (by simp)); have XU4 := Aside0.mk (RE_keep XU3.out hk_ (fun k hk => hk.gm HOK.out HGM.out) (fun _ h => h)); clear y1; clear hi_ hk_))
            obtain ⟨hlt, ad, A2, c2, hA1, e0, e1, e2, hc2, hC2⟩ := kid_at XR.out.2 HB1.out
            subst hA1
            rw [Nat.one_mul, add_pos _ 3 (by decide)] at e0 e1 e2
            replace e0 := pw_cell_below M4.out.hi.2.1 e0
            replace e1 := pw_cell_below M4.out.hi.2.1 e1
            replace e2 := pw_cell_below M4.out.hi.2.1 e2
            have XC := Aside0.mk (And.intro hc2 hC2)
            clear hc2 hC2 m0 m2 x0 x1 x2 fz0 fz1 fz2
            have d1 : ((1 : Int) < (b.f2.length : Int)) = True := eq_true (by omega)
            have d2 : (1 < b.f2.length) = True := eq_true (by omega)
            have d3 : decide ((1 : Int) < (b.f2.length : Int)) = true := decide_eq_true (by omega)
            clear hlt
            have M5 := Aside0.mk (mid_below M4.out (below_drew (Below.refl _ _)))
            have B5 := Aside0.mk (blk_drew B4.out)
            have HX5 := Aside0.mk (blk_drew HX4.out)
            have HH5 := Aside0.mk (blk_drew HH4.out)
            have XU5 := Aside0.mk (RE_below XU4.out (below_drew (Below.refl _ _)) (fun _ h => h))
            have y1 : w4.cell? ⟨gx, 1, none⟩ = some (.pointer (some ⟨hb_, 0, none⟩)) := (blk_cell HX4.out 1).trans rfl
            have y2 : w4.cell? ⟨hb_, 2, none⟩ = some (.slice (some ad) b.f2.length c1) := (blk_cell HH4.out 2).trans rfl
            go_still_tail 11, (by kernel_rfl)
            change wpList _ _ _ _ _ w4.drew
            clear y1 y2 e0 e1 e2 M4 B4 HX4 HH4 XU4
            generalize w4.drew = w5 at M5 B5 HX5 HH5 XU5 ⊢
            have x0 : w5.cell? ⟨w.heap.size, 0, none⟩ = some (.int .i64 t.f0) := (blk_cell B5.out 0).trans rfl
            have x1 : w5.cell? ⟨w.heap.size, 1, none⟩ = some (.int .i64 t.f1) := (blk_cell B5.out 1).trans rfl
            have x2 : w5.cell? ⟨w.heap.size, 2, none⟩ = some (.slice A t.f2.length c) := (blk_cell B5.out 2).trans rfl
            have fz0 := blk_frozen B5.out 0
            have fz1 := blk_frozen B5.out 1
            have fz2 := blk_frozen B5.out 2
            go_wp2
            go_roundg j
            case measure => exact Nat.lt_succ_self j
            case rel => exact ⟨loop_put (M5.out.with (e' := .loop b up) ⟨gx, hb_, _, c1, pu, rfl, OK_.out.1, HX5.out, OK_.out.2, HH5.out, XR.out.1, XR.out.2, XU5.out⟩) HGM.out B5.out XC.out.1 XC.out.2 HV.out (Nat.le_of_succ_le JN.out)⟩
      rw [if_neg n1] at hv
      by_cases n29 : t.f0 = 29
      · have ho := n29
        rw [if_pos n29] at hv
        have q0 : (t.f0 == 1) = false := by rw [beq_eq_false_iff_ne]; exact n1
        have z0 : (t.f0 = 1) = False := eq_false n1
        have q1 : (t.f0 == 29) = true := by simpa using ho
        have z1 : (t.f0 = 29) = True := eq_true ho
        obtain ⟨pa, rfl⟩ := RE_ptr hm.he
        obtain ⟨b1, hb1, hv⟩ := Option.bind_eq_some_iff.mp hv
        obtain ⟨hlt, ad, A2, c2, hA1, e0, e1, e2, hc2, hC2⟩ := kid_at hC hb1
        subst hA1
        rw [Nat.one_mul, add_pos _ 3 (by decide)] at e0 e1 e2
        have E0 := Aside0.mk (And.intro e0 (And.intro e1 e2))
        have XC := Aside0.mk (And.intro hc2 hC2)
        have HV := Aside0.mk (ahead_of hv)
        have d1 : ((1 : Int) < (t.f2.length : Int)) = True := eq_true (by omega)
        have d2 : (1 < t.f2.length) = True := eq_true (by omega)
        have d3 : decide ((1 : Int) < (t.f2.length : Int)) = true := decide_eq_true (by omega)
        clear hlt hc2 hC2 e0 e1 e2 hb1 hv hm hb hc hC hn n1 n29 ho
        go_wp2
        have M6 := Aside0.mk (mid_below HM.out (below_drew (below_alloc (Below.refl wr.heap.size wr) (.cells #[.int .i64 t.f0, .int .i64 t.f1, .slice (some ad) t.f2.length c] 29))))
        have B6 := Aside0.mk (blk_drew (blk_alloc HB.out (.cells #[.int .i64 t.f0, .int .i64 t.f1, .slice (some ad) t.f2.length c] 29)))
        have N6 := Aside0.mk (blk_drew (blk_new wr (.cells #[.int .i64 t.f0, .int .i64 t.f1, .slice (some ad) t.f2.length c] 29)))
        clear m0 m2 x0 x1 x2 fz0 fz1 fz2
        refine start_ (n := 9) (S := fun w' => w'.cell? ⟨w.heap.size, 2, none⟩ = some (.slice (some ad) t.f2.length c) ∧ w'.cell? ⟨ad.block, ad.off + 3, none⟩ = some (.int .i64 b1.f0) ∧ w'.cell? ⟨ad.block, ad.off + 3 + 1, none⟩ = some (.int .i64 b1.f1) ∧ w'.cell? ⟨ad.block, ad.off + 3 + 2, none⟩ = some (.slice A2 b1.f2.length c2)) (ds := [8]) #[false, false, false, false, false, false, false, false, false] (by kernel_rfl) rfl rfl ⟨(blk_cell B6.out 2).trans rfl, pw_cell_below M6.out.hi.2.1 E0.out.1, pw_cell_below M6.out.hi.2.1 E0.out.2.1, pw_cell_below M6.out.hi.2.1 E0.out.2.2⟩ (fun hHeld => ?_)
        generalize (World.drew (World.alloc wr _)) = w6 at M6 B6 N6 hHeld ⊢
        refine pure_ (i := 0) (N := some 56) (v := ?_) (a' := ?_) #[true, false, false, false, false, false, false, false, false] rfl rfl (by kernel_rfl) (fun _ _ _ h => h) (Or.inl ⟨by rfl, ?_⟩) ?_ ?_
        rotate_left
        · intro w'
          go_simp
          with_reducible rfl
        rotate_left
        · simp only [Act.put, List.setIfInBounds_toArray, List.set_cons_zero, List.set_cons_succ, i64_w, i32_w, u8_w, u32_w]
          rfl
        refine pure_ (i := 1) (N := some 57) (v := ?_) (a' := ?_) #[true, true, false, false, false, false, false, false, false] rfl rfl (by kernel_rfl) (fun _ _ _ h => h) (Or.inl ⟨by rfl, ?_⟩) ?_ ?_
        rotate_left
        · intro w'
          go_simp
          with_reducible rfl
        rotate_left
        · simp only [Act.put, List.setIfInBounds_toArray, List.set_cons_zero, List.set_cons_succ, i64_w, i32_w, u8_w, u32_w]
          rfl
        refine pure_ (i := 3) (N := some 59) (v := ?_) (a' := ?_) #[true, true, false, true, false, false, false, false, false] rfl rfl (by kernel_rfl) (fun _ _ _ h => h) (Or.inl ⟨by rfl, ?_⟩) ?_ ?_
        rotate_left
        · intro w'
          go_simp
          with_reducible rfl
        rotate_left
        · simp only [Act.put, List.setIfInBounds_toArray, List.set_cons_zero, List.set_cons_succ, i64_w, i32_w, u8_w, u32_w]
          rfl
        refine take_ (i := 4) (N := some 60) (v := ?_) (a' := ?_) #[true, true, false, true, true, false, false, false, false] rfl rfl (by kernel_rfl) (fun _ _ _ h => h) (Or.inl ⟨by rfl, ?_⟩) hHeld ?_ ?_
        rotate_left
        · rintro w' ⟨s0, s1, s2, s3⟩
          go_simp
          with_reducible rfl
        rotate_left
        · simp only [Act.put, List.setIfInBounds_toArray, List.set_cons_zero, List.set_cons_succ, i64_w, i32_w, u8_w, u32_w]
          rfl
        refine pure_ (i := 5) (N := some 61) (v := ?_) (a' := ?_) #[true, true, false, true, true, true, false, false, false] rfl rfl (by kernel_rfl) (fun _ _ _ h => h) (Or.inl ⟨by rfl, ?_⟩) ?_ ?_
        rotate_left
        · intro w'
          go_simp
          with_reducible rfl
        rotate_left
        · simp only [Act.put, List.setIfInBounds_toArray, List.set_cons_zero, List.set_cons_succ, i64_w, i32_w, u8_w, u32_w]
          rfl
        refine take_ (i := 6) (N := some 62) (v := ?_) (a' := ?_) #[true, true, false, true, true, true, true, false, false] rfl rfl (by kernel_rfl) (fun _ _ _ h => h) (Or.inl ⟨by rfl, ?_⟩) hHeld ?_ ?_
        rotate_left
        · rintro w' ⟨s0, s1, s2, s3⟩
          go_simp
          with_reducible rfl
        rotate_left
        · simp only [Act.put, List.setIfInBounds_toArray, List.set_cons_zero, List.set_cons_succ, i64_w, i32_w, u8_w, u32_w]
          rfl
        refine one_ (i := 2) (N := some 58) #[true, true, true, true, true, true, true, false, false] rfl rfl (by kernel_rfl) (by decide) (fun K hK => ?_)
        refine box_step (N := 58) (by rfl) rfl (cs := #[.pointer none, .pointer (some ⟨wr.heap.size, 0, none⟩), .pointer pa]) (t := 92) ?hr ?_
        (case hr => first | (go_simp; done) | (go_simp; rfl))
        intro g7 hg7 w7 hbox hb7
        have M7 := Aside0.mk (mid_below M6.out hb7)
        have B7 := Aside0.mk (blk_below B6.out hb7)
        have X7 := Aside0.mk hbox
        have G7 := Aside0.mk hg7
        have N7 := Aside0.mk (blk_below N6.out hb7)
        clear hbox hb7 hg7
        refine hK.out _ _ ⟨(blk_cell B7.out 2).trans rfl, pw_cell_below M7.out.hi.2.1 E0.out.1, pw_cell_below M7.out.hi.2.1 E0.out.2.1, pw_cell_below M7.out.hi.2.1 E0.out.2.2⟩ (fun hHeld => ?_)
        clear hK K
        refine norm_ (a' := ?_) ?_ ?_
        rotate_left
        · show Act.put _ (some 58) _ = _
          simp only [Act.put, List.setIfInBounds_toArray, List.set_cons_zero, List.set_cons_succ, i64_w, i32_w, u8_w, u32_w]
          rfl
        refine pure_ (i := 7) (N := some 1) (v := ?_) (a' := ?_) #[true, true, true, true, true, true, true, true, false] rfl rfl (by kernel_rfl) (fun _ _ _ h => h) (Or.inl ⟨by rfl, ?_⟩) ?_ ?_
        rotate_left
        · intro w'
          go_simp
          with_reducible rfl
        rotate_left
        · simp only [Act.put, List.setIfInBounds_toArray, List.set_cons_zero, List.set_cons_succ, i64_w, i32_w, u8_w, u32_w]
          rfl
        refine last_ (i := 8) (N := none) #[true, true, true, true, true, true, true, true, true] rfl rfl (by kernel_rfl) (by decide) (fun K hK => ?_)
        have x0 : w7.cell? ⟨w.heap.size, 0, none⟩ = some (.int .i64 t.f0) := (blk_cell B7.out 0).trans rfl
        have x1 : w7.cell? ⟨w.heap.size, 1, none⟩ = some (.int .i64 t.f1) := (blk_cell B7.out 1).trans rfl
        have x2 : w7.cell? ⟨w.heap.size, 2, none⟩ = some (.slice (some ad) t.f2.length c) := (blk_cell B7.out 2).trans rfl
        have fz0 := blk_frozen B7.out 0
        have fz1 := blk_frozen B7.out 1
        have fz2 := blk_frozen B7.out 2
        refine skip_ (w1 := ?_) (by rfl) rfl ?_ ?_
        rotate_left
        · go_simp
          rfl
        refine hK.out _ _ ?_
        clear hK K
        refine done_ (by kernel_rfl) ?_
        go_wp2
        go_roundg j
        case measure => exact Nat.lt_succ_self j
        case rel => exact ⟨loop_put (M7.out.with (e' := .loop t e) ⟨g7, wr.heap.size, _, c, .pointer pa, rfl, Or.inr (by rw [G7.out]; exact M6.out.hs), X7.out, Or.inr HM.out.hs, N7.out, HT.out.1, HT.out.2, M7.out.he⟩) HGM.out B7.out XC.out.1 XC.out.2 HV.out (Nat.le_of_succ_le JN.out)⟩
      rw [if_neg n29] at hv
      by_cases n28 : t.f0 = 28
      · have ho := n28
        rw [if_pos n28] at hv
        have q0 : (t.f0 == 1) = false := by rw [beq_eq_false_iff_ne]; exact n1
        have z0 : (t.f0 = 1) = False := eq_false n1
        have q1 : (t.f0 == 29) = false := by rw [beq_eq_false_iff_ne]; exact n29
        have z1 : (t.f0 = 29) = False := eq_false n29
        have q2 : (t.f0 == 28) = true := by simpa using ho
        have z2 : (t.f0 = 28) = True := eq_true ho
        obtain ⟨pa, rfl⟩ := RE_ptr hm.he
        obtain ⟨x, hx, hv⟩ := Option.bind_eq_some_iff.mp hv
        obtain ⟨⟨va, s1, e1⟩, ha, hv⟩ := Option.bind_eq_some_iff.mp hv
        obtain ⟨hlt0, ad, A1, c1, hA0, i0, i1, i2, hc1, hC1⟩ := kid_at hC hx
        subst hA0
        have C26 := Aside0.mk (fun w1 (h1 : Inv w0 w1 gm st F 0) (h2 : RE w0 w1 (Ok2 ok w.heap.size) e (.pointer pa)) => CJ.out h1 h2 (fun k hk => hk.gm HOK.out HGM.out) hc1 hC1 ha)
        rw [Nat.zero_mul, show ad.add 0 = ad by cases ad; simp [Addr.add]] at i0 i1 i2
        have D0 := Aside0.mk (And.intro i0 (And.intro i1 i2))
        have d4 : ((0 : Int) < (t.f2.length : Int)) = True := eq_true (by omega)
        have d5 : (0 < t.f2.length) = True := eq_true (by omega)
        have d6 : decide ((0 : Int) < (t.f2.length : Int)) = true := decide_eq_true (by omega)
        clear hlt0 hc1 hC1 i0 i1 i2 hx ha
        obtain ⟨b1, hb1, hv⟩ := Option.bind_eq_some_iff.mp hv
        obtain ⟨hlt, ad', A2, c2, hA1, e0, e1_, e2, hc2, hC2⟩ := kid_at hC hb1
        cases hA1
        rw [Nat.one_mul, add_pos _ 3 (by decide)] at e0 e1_ e2
        have E0 := Aside0.mk (And.intro e0 (And.intro e1_ e2))
        have XC := Aside0.mk (And.intro hc2 hC2)
        have HV := Aside0.mk (ahead_of hv)
        have d1 : ((1 : Int) < (t.f2.length : Int)) = True := eq_true (by omega)
        have d2 : (1 < t.f2.length) = True := eq_true (by omega)
        have d3 : decide ((1 : Int) < (t.f2.length : Int)) = true := decide_eq_true (by omega)
        clear hlt hc2 hC2 e0 e1_ e2 hb1 hv
        clear hm hb hc hC hn n1 n29 n28 ho
        go_wp2
        have M6 := Aside0.mk (mid_below HM.out (below_drew (Below.refl wr.heap.size wr)))
        have B6 := Aside0.mk (blk_drew HB.out)
        clear m0 m2 x0 x1 x2 fz0 fz1 fz2
        refine start_ (n := 16) (S := fun w' => w'.cell? ⟨w.heap.size, 2, none⟩ = some (.slice (some ad) t.f2.length c) ∧ w'.cell? ⟨ad.block, ad.off + 3, none⟩ = some (.int .i64 b1.f0) ∧ w'.cell? ⟨ad.block, ad.off + 3 + 1, none⟩ = some (.int .i64 b1.f1) ∧ w'.cell? ⟨ad.block, ad.off + 3 + 2, none⟩ = some (.slice A2 b1.f2.length c2) ∧ w'.cell? ad = some (.int .i64 x.f0) ∧ w'.cell? ⟨ad.block, ad.off + 1, none⟩ = some (.int .i64 x.f1) ∧ w'.cell? ⟨ad.block, ad.off + 2, none⟩ = some (.slice A1 x.f2.length c1)) (ds := [15]) #[false, false, false, false, false, false, false, false, false, false, false, false, false, false, false, false] (by kernel_rfl) rfl rfl ⟨(blk_cell B6.out 2).trans rfl, pw_cell_below M6.out.hi.2.1 E0.out.1, pw_cell_below M6.out.hi.2.1 E0.out.2.1, pw_cell_below M6.out.hi.2.1 E0.out.2.2, pw_cell_below M6.out.hi.2.1 D0.out.1, pw_cell_below M6.out.hi.2.1 D0.out.2.1, pw_cell_below M6.out.hi.2.1 D0.out.2.2⟩ (fun hHeld => ?_)
        generalize (World.drew wr) = w6 at M6 B6 hHeld ⊢
        refine pure_ (i := 0) (N := some 65) (v := ?_) (a' := ?_) #[true, false, false, false, false, false, false, false, false, false, false, false, false, false, false, false] rfl rfl (by kernel_rfl) (fun _ _ _ h => h) (Or.inl ⟨by rfl, ?_⟩) ?_ ?_
        rotate_left
        · intro w'
          go_simp
          with_reducible rfl
        rotate_left
        · simp only [Act.put, List.setIfInBounds_toArray, List.set_cons_zero, List.set_cons_succ, i64_w, i32_w, u8_w, u32_w]
          rfl
        refine pure_ (i := 1) (N := some 66) (v := ?_) (a' := ?_) #[true, true, false, false, false, false, false, false, false, false, false, false, false, false, false, false] rfl rfl (by kernel_rfl) (fun _ _ _ h => h) (Or.inl ⟨by rfl, ?_⟩) ?_ ?_
        rotate_left
        · intro w'
          go_simp
          with_reducible rfl
        rotate_left
        · simp only [Act.put, List.setIfInBounds_toArray, List.set_cons_zero, List.set_cons_succ, i64_w, i32_w, u8_w, u32_w]
          rfl
        refine pure_ (i := 2) (N := some 67) (v := ?_) (a' := ?_) #[true, true, true, false, false, false, false, false, false, false, false, false, false, false, false, false] rfl rfl (by kernel_rfl) (fun _ _ _ h => h) (Or.inl ⟨by rfl, ?_⟩) ?_ ?_
        rotate_left
        · intro w'
          go_simp
          with_reducible rfl
        rotate_left
        · simp only [Act.put, List.setIfInBounds_toArray, List.set_cons_zero, List.set_cons_succ, i64_w, i32_w, u8_w, u32_w]
          rfl
        refine take_ (i := 3) (N := some 68) (v := ?_) (a' := ?_) #[true, true, true, true, false, false, false, false, false, false, false, false, false, false, false, false] rfl rfl (by kernel_rfl) (fun _ _ _ h => h) (Or.inl ⟨by rfl, ?_⟩) hHeld ?_ ?_
        rotate_left
        · rintro w' ⟨s0, s1, s2, s3, s4, s5, s6⟩
          go_simp
          with_reducible rfl
        rotate_left
        · simp only [Act.put, List.setIfInBounds_toArray, List.set_cons_zero, List.set_cons_succ, i64_w, i32_w, u8_w, u32_w]
          rfl
        refine pure_ (i := 4) (N := some 69) (v := ?_) (a' := ?_) #[true, true, true, true, true, false, false, false, false, false, false, false, false, false, false, false] rfl rfl (by kernel_rfl) (fun _ _ _ h => h) (Or.inl ⟨by rfl, ?_⟩) ?_ ?_
        rotate_left
        · intro w'
          go_simp
          with_reducible rfl
        rotate_left
        · simp only [Act.put, List.setIfInBounds_toArray, List.set_cons_zero, List.set_cons_succ, i64_w, i32_w, u8_w, u32_w]
          rfl
        refine take_ (i := 5) (N := some 70) (v := ?_) (a' := ?_) #[true, true, true, true, true, true, false, false, false, false, false, false, false, false, false, false] rfl rfl (by kernel_rfl) (fun _ _ _ h => h) (Or.inl ⟨by rfl, ?_⟩) hHeld ?_ ?_
        rotate_left
        · rintro w' ⟨s0, s1, s2, s3, s4, s5, s6⟩
          go_simp
          with_reducible rfl
        rotate_left
        · simp only [Act.put, List.setIfInBounds_toArray, List.set_cons_zero, List.set_cons_succ, i64_w, i32_w, u8_w, u32_w]
          rfl
        refine pure_ (i := 7) (N := some 72) (v := ?_) (a' := ?_) #[true, true, true, true, true, true, false, true, false, false, false, false, false, false, false, false] rfl rfl (by kernel_rfl) (fun _ _ _ h => h) (Or.inl ⟨by rfl, ?_⟩) ?_ ?_
        rotate_left
        · intro w'
          go_simp
          with_reducible rfl
        rotate_left
        · simp only [Act.put, List.setIfInBounds_toArray, List.set_cons_zero, List.set_cons_succ, i64_w, i32_w, u8_w, u32_w]
          rfl
        refine pure_ (i := 10) (N := some 75) (v := ?_) (a' := ?_) #[true, true, true, true, true, true, false, true, false, false, true, false, false, false, false, false] rfl rfl (by kernel_rfl) (fun _ _ _ h => h) (Or.inl ⟨by rfl, ?_⟩) ?_ ?_
        rotate_left
        · intro w'
          go_simp
          with_reducible rfl
        rotate_left
        · simp only [Act.put, List.setIfInBounds_toArray, List.set_cons_zero, List.set_cons_succ, i64_w, i32_w, u8_w, u32_w]
          rfl
        refine take_ (i := 11) (N := some 76) (v := ?_) (a' := ?_) #[true, true, true, true, true, true, false, true, false, false, true, true, false, false, false, false] rfl rfl (by kernel_rfl) (fun _ _ _ h => h) (Or.inl ⟨by rfl, ?_⟩) hHeld ?_ ?_
        rotate_left
        · rintro w' ⟨s0, s1, s2, s3, s4, s5, s6⟩
          go_simp
          with_reducible rfl
        rotate_left
        · simp only [Act.put, List.setIfInBounds_toArray, List.set_cons_zero, List.set_cons_succ, i64_w, i32_w, u8_w, u32_w]
          rfl
        refine pure_ (i := 12) (N := some 77) (v := ?_) (a' := ?_) #[true, true, true, true, true, true, false, true, false, false, true, true, true, false, false, false] rfl rfl (by kernel_rfl) (fun _ _ _ h => h) (Or.inl ⟨by rfl, ?_⟩) ?_ ?_
        rotate_left
        · intro w'
          go_simp
          with_reducible rfl
        rotate_left
        · simp only [Act.put, List.setIfInBounds_toArray, List.set_cons_zero, List.set_cons_succ, i64_w, i32_w, u8_w, u32_w]
          rfl
        refine take_ (i := 13) (N := some 78) (v := ?_) (a' := ?_) #[true, true, true, true, true, true, false, true, false, false, true, true, true, true, false, false] rfl rfl (by kernel_rfl) (fun _ _ _ h => h) (Or.inl ⟨by rfl, ?_⟩) hHeld ?_ ?_
        rotate_left
        · rintro w' ⟨s0, s1, s2, s3, s4, s5, s6⟩
          go_simp
          with_reducible rfl
        rotate_left
        · simp only [Act.put, List.setIfInBounds_toArray, List.set_cons_zero, List.set_cons_succ, i64_w, i32_w, u8_w, u32_w]
          rfl
        refine one_ (i := 6) (N := some 71) #[true, true, true, true, true, true, true, true, false, false, true, true, true, true, false, false] rfl rfl (by kernel_rfl) (by decide) (fun K hK => ?_)
        refine goes_ Tryd.func29 (by kernel_rfl) rfl #[.pointer (some ⟨gm, 0, none⟩), .pointer pa, .agg #[.int .i64 x.f0, .int .i64 x.f1, .slice A1 x.f2.length c1]] (by rfl) rfl rfl (by (try simp only [List.map_toArray, List.map_cons, List.map_nil]); rfl) ?_
        with_reducible refine (C26.out _ M6.out.hi M6.out.he).mono ?_
        rintro en w7 ⟨pv, rfl, hv_, hi_, hk_⟩
        refine ⟨_, rfl, ?_⟩
        have M7 := Aside0.mk (mid_keep M6.out HOK.out HGM.out hk_ hi_)
        have B7 := Aside0.mk (hk_.blk B6.out (Nat.ne_of_gt HGM.out) (by simp))
        have V7 := Aside0.mk (RV_at hv_ M6.out.hs)
        obtain ⟨gv, _, _, _, _, _, rfl, -, -⟩ := RV_ptr V7.out
        clear hv_ hi_ hk_
        refine hK.out _ _ ⟨(blk_cell B7.out 2).trans rfl, pw_cell_below M7.out.hi.2.1 E0.out.1, pw_cell_below M7.out.hi.2.1 E0.out.2.1, pw_cell_below M7.out.hi.2.1 E0.out.2.2, pw_cell_below M7.out.hi.2.1 D0.out.1, pw_cell_below M7.out.hi.2.1 D0.out.2.1, pw_cell_below M7.out.hi.2.1 D0.out.2.2⟩ (fun hHeld => ?_)
        clear hK K
        refine norm_ (a' := ?_) ?_ ?_
        rotate_left
        · show Act.put _ (some 71) _ = _
          simp only [Act.put, List.setIfInBounds_toArray, List.set_cons_zero, List.set_cons_succ, i64_w, i32_w, u8_w, u32_w]
          rfl
        refine pure_ (i := 8) (N := some 73) (v := ?_) (a' := ?_) #[true, true, true, true, true, true, true, true, true, false, true, true, true, true, false, false] rfl rfl (by kernel_rfl) (fun _ _ _ h => h) (Or.inl ⟨by rfl, ?_⟩) ?_ ?_
        rotate_left
        · intro w'
          go_simp
          with_reducible rfl
        rotate_left
        · simp only [Act.put, List.setIfInBounds_toArray, List.set_cons_zero, List.set_cons_succ, i64_w, i32_w, u8_w, u32_w]
          rfl
        refine one_ (i := 9) (N := some 74) #[true, true, true, true, true, true, true, true, true, true, true, true, true, true, false, false] rfl rfl (by kernel_rfl) (by decide) (fun K hK => ?_)
        refine box_step (N := 74) (by rfl) rfl (cs := #[.pointer (some ⟨gv, 0, none⟩), .pointer none, .pointer pa]) (t := 92) ?hr ?_
        (case hr => first | (go_simp; done) | (go_simp; rfl))
        intro g8 hg8 w8 hbox hb7
        have M8 := Aside0.mk (mid_below M7.out hb7)
        have B8 := Aside0.mk (blk_below B7.out hb7)
        have X8 := Aside0.mk hbox
        have G8 := Aside0.mk hg8
        have V8 := Aside0.mk (RV_below V7.out hb7 (fun _ h => h))
        clear hbox hb7 hg8
        refine hK.out _ _ ⟨(blk_cell B8.out 2).trans rfl, pw_cell_below M8.out.hi.2.1 E0.out.1, pw_cell_below M8.out.hi.2.1 E0.out.2.1, pw_cell_below M8.out.hi.2.1 E0.out.2.2, pw_cell_below M8.out.hi.2.1 D0.out.1, pw_cell_below M8.out.hi.2.1 D0.out.2.1, pw_cell_below M8.out.hi.2.1 D0.out.2.2⟩ (fun hHeld => ?_)
        clear hK K
        refine norm_ (a' := ?_) ?_ ?_
        rotate_left
        · show Act.put _ (some 74) _ = _
          simp only [Act.put, List.setIfInBounds_toArray, List.set_cons_zero, List.set_cons_succ, i64_w, i32_w, u8_w, u32_w]
          rfl
        refine pure_ (i := 14) (N := some 1) (v := ?_) (a' := ?_) #[true, true, true, true, true, true, true, true, true, true, true, true, true, true, true, false] rfl rfl (by kernel_rfl) (fun _ _ _ h => h) (Or.inl ⟨by rfl, ?_⟩) ?_ ?_
        rotate_left
        · intro w'
          go_simp
          with_reducible rfl
        rotate_left
        · simp only [Act.put, List.setIfInBounds_toArray, List.set_cons_zero, List.set_cons_succ, i64_w, i32_w, u8_w, u32_w]
          rfl
        refine last_ (i := 15) (N := none) #[true, true, true, true, true, true, true, true, true, true, true, true, true, true, true, true] rfl rfl (by kernel_rfl) (by decide) (fun K hK => ?_)
        have x0 : w8.cell? ⟨w.heap.size, 0, none⟩ = some (.int .i64 t.f0) := (blk_cell B8.out 0).trans rfl
        have x1 : w8.cell? ⟨w.heap.size, 1, none⟩ = some (.int .i64 t.f1) := (blk_cell B8.out 1).trans rfl
        have x2 : w8.cell? ⟨w.heap.size, 2, none⟩ = some (.slice (some ad) t.f2.length c) := (blk_cell B8.out 2).trans rfl
        have fz0 := blk_frozen B8.out 0
        have fz1 := blk_frozen B8.out 1
        have fz2 := blk_frozen B8.out 2
        refine skip_ (w1 := ?_) (by rfl) rfl ?_ ?_
        rotate_left
        · go_simp
          rfl
        refine hK.out _ _ ?_
        clear hK K
        refine done_ (by kernel_rfl) ?_
        go_wp2
        go_roundg j
        case measure => exact Nat.lt_succ_self j
        case rel => exact ⟨loop_put (M8.out.with (e' := .val va e) ⟨g8, .pointer (some ⟨gv, 0, none⟩), .pointer pa, rfl, Or.inr (by rw [G8.out]; exact M7.out.hs), X8.out, V8.out, M8.out.he⟩) HGM.out B8.out XC.out.1 XC.out.2 HV.out (Nat.le_of_succ_le JN.out)⟩
      rw [if_neg n28] at hv
      by_cases n27 : t.f0 = 27
      · have ho := n27
        rw [if_pos n27] at hv
        have q0 : (t.f0 == 1) = false := by rw [beq_eq_false_iff_ne]; exact n1
        have z0 : (t.f0 = 1) = False := eq_false n1
        have q1 : (t.f0 == 29) = false := by rw [beq_eq_false_iff_ne]; exact n29
        have z1 : (t.f0 = 29) = False := eq_false n29
        have q2 : (t.f0 == 28) = false := by rw [beq_eq_false_iff_ne]; exact n28
        have z2 : (t.f0 = 28) = False := eq_false n28
        have q3 : (t.f0 == 27) = true := by simpa using ho
        have z3 : (t.f0 = 27) = True := eq_true ho
        obtain ⟨y, hy, hv⟩ := Option.bind_eq_some_iff.mp hv
        obtain ⟨hlty, ad, A3, c3, hA3, k0, k1, k2, hc3, hC3⟩ := kid_at hC hy
        subst hA3
        rw [show 2 * 3 = 6 from rfl, add_pos _ 6 (by decide)] at k0 k1 k2
        replace k0 := pw_cell_below hm.hi.2.1 k0
        replace k1 := pw_cell_below hm.hi.2.1 k1
        replace k2 := pw_cell_below hm.hi.2.1 k2
        have YC := Aside0.mk (And.intro hc3 hC3)
        have d7 : ((2 : Int) < (t.f2.length : Int)) = True := eq_true (by omega)
        have d8 : (2 < t.f2.length) = True := eq_true (by omega)
        have d9 : decide ((2 : Int) < (t.f2.length : Int)) = true := decide_eq_true (by omega)
        clear hlty hc3 hC3 hy
        obtain ⟨pa, rfl⟩ := RE_ptr hm.he
        obtain ⟨x, hx, hv⟩ := Option.bind_eq_some_iff.mp hv
        obtain ⟨⟨va, s1, e1⟩, ha, hv⟩ := Option.bind_eq_some_iff.mp hv
        obtain ⟨hlt0, ad', A1, c1, hA0, i0, i1, i2, hc1, hC1⟩ := kid_at hC hx
        cases hA0
        have C26 := Aside0.mk (fun w1 (h1 : Inv w0 w1 gm st F 0) (h2 : RE w0 w1 (Ok2 ok w.heap.size) e (.pointer pa)) => CJ.out h1 h2 (fun k hk => hk.gm HOK.out HGM.out) hc1 hC1 ha)
        rw [Nat.zero_mul, show ad.add 0 = ad by cases ad; simp [Addr.add]] at i0 i1 i2
        have d4 : ((0 : Int) < (t.f2.length : Int)) = True := eq_true (by omega)
        have d5 : (0 < t.f2.length) = True := eq_true (by omega)
        have d6 : decide ((0 : Int) < (t.f2.length : Int)) = true := decide_eq_true (by omega)
        replace i0 := fun o => pw_cell_below (below_alloc (Below.refl wr.heap.size wr) o) (pw_cell_below hm.hi.2.1 i0)
        replace i1 := fun o => pw_cell_below (below_alloc (Below.refl wr.heap.size wr) o) (pw_cell_below hm.hi.2.1 i1)
        replace i2 := fun o => pw_cell_below (below_alloc (Below.refl wr.heap.size wr) o) (pw_cell_below hm.hi.2.1 i2)
        have j2 := fun o => pw_cell_below (below_alloc (Below.refl wr.heap.size wr) o) x2
        clear hlt0 hc1 hC1 hx ha
        by_cases hnz : va.num ≠ 0
        · rw [if_pos hnz] at hv
          obtain ⟨b1, hb1, hv⟩ := Option.bind_eq_some_iff.mp hv
          obtain ⟨hlt, ad', A2, c2, hA1, e0, e1_, e2, hc2, hC2⟩ := kid_at hC hb1
          cases hA1
          rw [Nat.one_mul, add_pos _ 3 (by decide)] at e0 e1_ e2
          have E0 := Aside0.mk (And.intro e0 (And.intro e1_ e2))
          have XC := Aside0.mk (And.intro hc2 hC2)
          have HV := Aside0.mk (ahead_of hv)
          have d1 : ((1 : Int) < (t.f2.length : Int)) = True := eq_true (by omega)
          have d2 : (1 < t.f2.length) = True := eq_true (by omega)
          have d3 : decide ((1 : Int) < (t.f2.length : Int)) = true := decide_eq_true (by omega)
          clear hlt hc2 hC2 e0 e1_ e2 hb1 hv
          have z91 : (va.num = 0) = False := eq_false hnz
          have z92 : (va.num == 0) = false := by simpa using hnz
          have z93 : (va.num != 0) = true := by simpa using hnz
          clear hnz hm hb hc hC hn n1 n29 n28 n27 ho
          go_wp2_with (first | ((with_reducible refine gate_dst (N := 100) rfl ?_); refine gen_world (fun w8 => Mid w0 w ok gm F s1 e1 e (.pointer pa) w8 ∧ w8.heap[w.heap.size]? = some (.cells #[.int .i64 t.f0, .int .i64 t.f1, .slice (some ad) t.f2.length c] 29 (0, 0)) ∧ w8.heap[wr.heap.size]? = some (.cells #[.int .i64 b1.f0, .int .i64 b1.f1, .slice A2 b1.f2.length c2] 29 (0, 0))) ⟨(mid_far (mid_far (mid_far ⟨M7.out, EX7.out⟩ (Nat.lt_trans HGM.out HM.out.hs) (Nat.le_of_lt HM.out.hs) 0 _) (Nat.lt_trans HGM.out HM.out.hs) (Nat.le_of_lt HM.out.hs) 1 _) (Nat.lt_trans HGM.out HM.out.hs) (Nat.le_of_lt HM.out.hs) 2 _).1, blk_far (blk_far (blk_far B7.out (Nat.ne_of_lt HM.out.hs) _) (Nat.ne_of_lt HM.out.hs) _) (Nat.ne_of_lt HM.out.hs) _, put3 N7.out⟩ ?_; rintro w8 ⟨hm8, hb8, hn8⟩; have M8 := Aside0.mk hm8; have B8 := Aside0.mk hb8; have N8 := Aside0.mk hn8; clear hm8 hb8 hn8 x0 x1 x2 n0_ n1_ n2_ fz0 fz1 fz2 gz0 gz1 gz2; have n0_ : w8.cell? ⟨wr.heap.size, 0, none⟩ = some (.int .i64 b1.f0) := (blk_cell N8.out 0).trans rfl; have n1_ : w8.cell? ⟨wr.heap.size, 1, none⟩ = some (.int .i64 b1.f1) := (blk_cell N8.out 1).trans rfl; have n2_ : w8.cell? ⟨wr.heap.size, 2, none⟩ = some (.slice A2 b1.f2.length c2) := (blk_cell N8.out 2).trans rfl; have x0 : w8.cell? ⟨w.heap.size, 0, none⟩ = some (.int .i64 t.f0) := (blk_cell B8.out 0).trans rfl; have x1 : w8.cell? ⟨w.heap.size, 1, none⟩ = some (.int .i64 t.f1) := (blk_cell B8.out 1).trans rfl; have x2 : w8.cell? ⟨w.heap.size, 2, none⟩ = some (.slice (some ad) t.f2.length c) := (blk_cell B8.out 2).trans rfl; have fz0 := blk_frozen B8.out 0; have fz1 := blk_frozen B8.out 1; have fz2 := blk_frozen B8.out 2) | (go_at_call 29; (with_reducible refine (C26.out _ (HM.out.hi.below (below_alloc (Below.refl _ _) _)) (RE_below HM.out.he (below_alloc (Below.refl _ _) _) (fun _ h => h))).mono ?_); rintro en w7 ⟨pv, rfl, hv_, hi_, hk_⟩; have M7 := Aside0.mk (mid_keep (mid_below HM.out (below_alloc (Below.refl _ _) (.cells #[.int .i64 y.f0, .int .i64 y.f1, .slice A3 y.f2.length c3] 29))) HOK.out HGM.out hk_ hi_); have B7 := Aside0.mk (hk_.blk (blk_alloc HB.out (.cells #[.int .i64 y.f0, .int .i64 y.f1, .slice A3 y.f2.length c3] 29)) (Nat.ne_of_gt HGM.out) (by simp)); have N7 := Aside0.mk (hk_.blk (blk_new wr (.cells #[.int .i64 y.f0, .int .i64 y.f1, .slice A3 y.f2.length c3] 29)) (Nat.ne_of_gt (Nat.lt_trans HGM.out HM.out.hs)) (by simp)); have EX7 := Aside0.mk (RE_keep (RE_below (RE_lt _ _ HM.out.he) (below_alloc (Below.refl _ _) (.cells #[.int .i64 y.f0, .int .i64 y.f1, .slice A3 y.f2.length c3] 29)) (fun _ h => h)) hk_ (fun k hk => hk.1.gm HOK.out HGM.out) (fun _ h => h)); obtain ⟨gv, v1, v2, v3, v4, v5, rfl, okv, hv0⟩ := RV_ptr hv_; have b1_ : w7.cell? ⟨gv, 1, none⟩ = some (.int .i64 va.num) := (blk_cell hv0 1).trans rfl; have n0_ : w7.cell? ⟨wr.heap.size, 0, none⟩ = some (.int .i64 y.f0) := (blk_cell N7.out 0).trans rfl; have n1_ : w7.cell? ⟨wr.heap.size, 1, none⟩ = some (.int .i64 y.f1) := (blk_cell N7.out 1).trans rfl; have n2_ : w7.cell? ⟨wr.heap.size, 2, none⟩ = some (.slice A3 y.f2.length c3) := (blk_cell N7.out 2).trans rfl; clear x0 x1 x2 fz0 fz1 fz2; have x0 : w7.cell? ⟨w.heap.size, 0, none⟩ = some (.int .i64 t.f0) := (blk_cell B7.out 0).trans rfl; have x1 : w7.cell? ⟨w.heap.size, 1, none⟩ = some (.int .i64 t.f1) := (blk_cell B7.out 1).trans rfl; have x2 : w7.cell? ⟨w.heap.size, 2, none⟩ = some (.slice (some ad) t.f2.length c) := (blk_cell B7.out 2).trans rfl; have fz0 := blk_frozen B7.out 0; have fz1 := blk_frozen B7.out 1; have fz2 := blk_frozen B7.out 2; have gz0 := blk_frozen N7.out 0; have gz1 := blk_frozen N7.out 1; have gz2 := blk_frozen N7.out 2; have f0_ := pw_cell_below M7.out.hi.2.1 E0.out.1; have f1_ := pw_cell_below M7.out.hi.2.1 E0.out.2.1; have f2_ := pw_cell_below M7.out.hi.2.1 E0.out.2.2; clear hv_ hi_ hk_ hv0 okv))
          go_roundg j
          case measure => exact Nat.lt_succ_self j
          case rel => exact ⟨loop_put M8.out HGM.out B8.out XC.out.1 XC.out.2 HV.out (Nat.le_of_succ_le JN.out)⟩
        · rw [if_neg hnz] at hv
          have HV := Aside0.mk (ahead_of hv)
          have hnz : va.num = 0 := by simpa using hnz
          have z91 : (va.num = 0) = True := eq_true hnz
          have z92 : (va.num == 0) = true := by simpa using hnz
          have z93 : (va.num != 0) = false := by simpa using hnz
          clear hv hnz hm hb hc hC hn n1 n29 n28 n27 ho
          go_wp2_with (first | (go_at_call 29; (with_reducible refine (C26.out _ (HM.out.hi.below (below_alloc (Below.refl _ _) _)) (RE_below HM.out.he (below_alloc (Below.refl _ _) _) (fun _ h => h))).mono ?_); rintro en w7 ⟨pv, rfl, hv_, hi_, hk_⟩; have M7 := Aside0.mk (mid_keep (mid_below HM.out (below_alloc (Below.refl _ _) (.cells #[.int .i64 y.f0, .int .i64 y.f1, .slice A3 y.f2.length c3] 29))) HOK.out HGM.out hk_ hi_); have B7 := Aside0.mk (hk_.blk (blk_alloc HB.out (.cells #[.int .i64 y.f0, .int .i64 y.f1, .slice A3 y.f2.length c3] 29)) (Nat.ne_of_gt HGM.out) (by simp)); have N7 := Aside0.mk (hk_.blk (blk_new wr (.cells #[.int .i64 y.f0, .int .i64 y.f1, .slice A3 y.f2.length c3] 29)) (Nat.ne_of_gt (Nat.lt_trans HGM.out HM.out.hs)) (by simp)); have EX7 := Aside0.mk (RE_keep (RE_below (RE_lt _ _ HM.out.he) (below_alloc (Below.refl _ _) (.cells #[.int .i64 y.f0, .int .i64 y.f1, .slice A3 y.f2.length c3] 29)) (fun _ h => h)) hk_ (fun k hk => hk.1.gm HOK.out HGM.out) (fun _ h => h)); obtain ⟨gv, v1, v2, v3, v4, v5, rfl, okv, hv0⟩ := RV_ptr hv_; have b1_ : w7.cell? ⟨gv, 1, none⟩ = some (.int .i64 va.num) := (blk_cell hv0 1).trans rfl; have n0_ : w7.cell? ⟨wr.heap.size, 0, none⟩ = some (.int .i64 y.f0) := (blk_cell N7.out 0).trans rfl; have n1_ : w7.cell? ⟨wr.heap.size, 1, none⟩ = some (.int .i64 y.f1) := (blk_cell N7.out 1).trans rfl; have n2_ : w7.cell? ⟨wr.heap.size, 2, none⟩ = some (.slice A3 y.f2.length c3) := (blk_cell N7.out 2).trans rfl; clear x0 x1 x2 fz0 fz1 fz2; have x0 : w7.cell? ⟨w.heap.size, 0, none⟩ = some (.int .i64 t.f0) := (blk_cell B7.out 0).trans rfl; have x1 : w7.cell? ⟨w.heap.size, 1, none⟩ = some (.int .i64 t.f1) := (blk_cell B7.out 1).trans rfl; have x2 : w7.cell? ⟨w.heap.size, 2, none⟩ = some (.slice (some ad) t.f2.length c) := (blk_cell B7.out 2).trans rfl; have fz0 := blk_frozen B7.out 0; have fz1 := blk_frozen B7.out 1; have fz2 := blk_frozen B7.out 2; have gz0 := blk_frozen N7.out 0; have gz1 := blk_frozen N7.out 1; have gz2 := blk_frozen N7.out 2; clear hv_ hi_ hk_ hv0 okv))
          go_roundg j
          case measure => exact Nat.lt_succ_self j
          case rel => exact ⟨loop_put M7.out HGM.out B7.out YC.out.1 YC.out.2 HV.out (Nat.le_of_succ_le JN.out)⟩
      rw [if_neg n27] at hv
      by_cases n21 : t.f0 = 21
      · have ho := n21
        rw [if_pos n21] at hv
        have q0 : (t.f0 == 1) = false := by rw [beq_eq_false_iff_ne]; exact n1
        have z0 : (t.f0 = 1) = False := eq_false n1
        have q1 : (t.f0 == 29) = false := by rw [beq_eq_false_iff_ne]; exact n29
        have z1 : (t.f0 = 29) = False := eq_false n29
        have q2 : (t.f0 == 28) = false := by rw [beq_eq_false_iff_ne]; exact n28
        have z2 : (t.f0 = 28) = False := eq_false n28
        have q3 : (t.f0 == 27) = false := by rw [beq_eq_false_iff_ne]; exact n27
        have z3 : (t.f0 = 27) = False := eq_false n27
        have q4 : (t.f0 == 21) = true := by simpa using ho
        have z4 : (t.f0 = 21) = True := eq_true ho
        obtain ⟨⟨va, ob, s1, e1⟩, ht, hv⟩ := Option.bind_eq_some_iff.mp hv
        have C43 := Aside0.mk (two43 (@Aside0.out _ CJ) hm.hi hm.he (fun k hk => hk.gm HOK.out HGM.out) hc hC ht)
        by_cases hz : e1 ≠ 0
        · obtain rfl : r = (.int 0, s1, e1) := by
            cases ob with
            | none => exact (Option.some.inj hv).symm
            | some x =>
              dsimp only at hv
              rw [if_pos hz] at hv
              exact (Option.some.inj hv).symm
          have HZ := Aside0.mk hz
          clear hv hm hb hc hC hn n1 n29 n28 n27 n21 ho ht hz
          go_wp2_with (first | (go_at_call 49; (with_reducible refine C43.out.mono ?_); rintro en w2 ⟨pa_, pb_, rfl, hva, hvb, hi_, hk_⟩; have M2 := Aside0.mk (mid_keep HM.out HOK.out HGM.out hk_ hi_); have B2 := Aside0.mk (hk_.blk HB.out (Nat.ne_of_gt HGM.out) (by simp)); have VA2 := Aside0.mk (RV_at hva HM.out.hs); obtain ⟨ga, v1, v2, v3, v4, v5, rfl, oka, ha0⟩ := RV_ptr VA2.out; have b0_ : w2.cell? ⟨ga, 0, none⟩ = some (.int .i64 va.kind) := (blk_cell ha0 0).trans rfl; clear hva hvb ha0 oka; clear hi_ hk_) | (go_at_call 47; (with_reducible refine (must_err M2.out.hi _ HZ.out).mono ?_); rintro en w3 ⟨rfl, hi_, hk_⟩; have M3 := Aside0.mk (mid_keep M2.out HOK.out HGM.out hk_ hi_); have B3 := Aside0.mk (hk_.blk B2.out (Nat.ne_of_gt HGM.out) (by simp)); clear hi_ hk_))
          go_roundg j
          case measure => exact Nat.lt_succ_self j
          case rel => exact ⟨Nat.le_of_succ_le JN.out, _, _, _, _, _, _, M3.out, B3.out, HT.out.1, HT.out.2, Or.inl ⟨HZ.out, rfl⟩⟩
        · have hz : e1 = 0 := by simpa using hz
          subst hz
          cases ob with
          | none => exact absurd rfl (two_none ht)
          | some x =>
            dsimp only at hv
            rw [if_neg (by simp)] at hv
            cases va with
            | int n =>
              obtain rfl : r = (.int 0, s1, 1) := (Option.some.inj hv).symm
              clear hv hm hb hc hC hn n1 n29 n28 n27 n21 ho ht
              go_wp2_with (first | (go_at_call 49; (with_reducible refine C43.out.mono ?_); rintro en w2 ⟨pa_, pb_, rfl, hva, hvb, hi_, hk_⟩; have M2 := Aside0.mk (mid_keep HM.out HOK.out HGM.out hk_ hi_); have B2 := Aside0.mk (hk_.blk HB.out (Nat.ne_of_gt HGM.out) (by simp)); have VA2 := Aside0.mk (RV_at hva HM.out.hs); obtain ⟨ga, v1, v2, v3, v4, v5, rfl, oka, ha0⟩ := RV_ptr VA2.out; have b0_ : w2.cell? ⟨ga, 0, none⟩ = some (.int .i64 1) := (blk_cell ha0 0).trans rfl; clear hva hvb ha0 oka; clear hi_ hk_) | (go_at_call 47; (with_reducible refine (must_no M2.out.hi).mono ?_); rintro en w3 ⟨rfl, hi_, hk_⟩; have M3 := Aside0.mk (mid_keep M2.out HOK.out HGM.out hk_ hi_); have B3 := Aside0.mk (hk_.blk B2.out (Nat.ne_of_gt HGM.out) (by simp)); clear hi_ hk_))
              go_roundg j
              case measure => exact Nat.lt_succ_self j
              case rel => exact ⟨Nat.le_of_succ_le JN.out, _, _, _, _, _, _, M3.out, B3.out, HT.out.1, HT.out.2, Or.inl ⟨by decide, rfl⟩⟩
            | pair a b =>
              obtain rfl : r = (.int 0, s1, 1) := (Option.some.inj hv).symm
              clear hv hm hb hc hC hn n1 n29 n28 n27 n21 ho ht
              go_wp2_with (first | (go_at_call 49; (with_reducible refine C43.out.mono ?_); rintro en w2 ⟨pa_, pb_, rfl, hva, hvb, hi_, hk_⟩; have M2 := Aside0.mk (mid_keep HM.out HOK.out HGM.out hk_ hi_); have B2 := Aside0.mk (hk_.blk HB.out (Nat.ne_of_gt HGM.out) (by simp)); have VA2 := Aside0.mk (RV_at hva HM.out.hs); obtain ⟨ga, v1, v2, v3, v4, v5, rfl, oka, ha0⟩ := RV_ptr VA2.out; have b0_ : w2.cell? ⟨ga, 0, none⟩ = some (.int .i64 2) := (blk_cell ha0 0).trans rfl; clear hva hvb ha0 oka; clear hi_ hk_) | (go_at_call 47; (with_reducible refine (must_no M2.out.hi).mono ?_); rintro en w3 ⟨rfl, hi_, hk_⟩; have M3 := Aside0.mk (mid_keep M2.out HOK.out HGM.out hk_ hi_); have B3 := Aside0.mk (hk_.blk B2.out (Nat.ne_of_gt HGM.out) (by simp)); clear hi_ hk_))
              go_roundg j
              case measure => exact Nat.lt_succ_self j
              case rel => exact ⟨Nat.le_of_succ_le JN.out, _, _, _, _, _, _, M3.out, B3.out, HT.out.1, HT.out.2, Or.inl ⟨by decide, rfl⟩⟩
            | fn b up =>
              replace hv : stepped F s1 (ev F j (.val x up) b (s1 + 1) 0) = some r := hv
              unfold stepped at hv
              by_cases hst : F ≤ s1
              · obtain rfl : r = (.int 0, s1, 17) := by
                  rw [if_pos hst] at hv
                  exact (Option.some.inj hv).symm
                have HST := Aside0.mk hst
                clear hv hm hb hc hC hn n1 n29 n28 n27 n21 ho ht hst
                go_wp2_with (first | (go_at_call 49; (with_reducible refine C43.out.mono ?_); rintro en w2 ⟨pa_, pb_, rfl, hva, hvb, hi_, hk_⟩; have M2 := Aside0.mk (mid_keep HM.out HOK.out HGM.out hk_ hi_); have B2 := Aside0.mk (hk_.blk HB.out (Nat.ne_of_gt HGM.out) (by simp)); have VA2 := Aside0.mk (RV_at hva HM.out.hs); obtain ⟨gf, Af, cf, pef, rfl, okf, hf0, hcf, hCf, huf⟩ := VA2.out; obtain ⟨pef, rfl⟩ := RE_ptr huf; have VX2 := Aside0.mk (RV_at (v := x) hvb HM.out.hs); obtain ⟨gx, x1_, x2_, x3_, x4_, x5_, rfl, -, -⟩ := RV_ptr VX2.out; have HF2 := Aside0.mk hf0; have FC := Aside0.mk (And.intro hcf hCf); have UP2 := Aside0.mk huf; have FN := Aside0.mk (okf.gm HOK.out HGM.out); have b0_ : w2.cell? ⟨gf, 0, none⟩ = some (.int .i64 3) := (blk_cell hf0 0).trans rfl; clear hva hvb hf0 huf okf hcf hCf; clear hi_ hk_) | (go_at_call 47; (with_reducible refine (must_ok M2.out.hi).mono ?_); rintro en w3 ⟨rfl, hi_, hk_⟩; have M3 := Aside0.mk (mid_keep M2.out HOK.out HGM.out hk_ hi_); have B3 := Aside0.mk (hk_.blk B2.out (Nat.ne_of_gt HGM.out) (by simp)); have HF3 := Aside0.mk (hk_.blk HF2.out FN.out (by simp)); have VX3 := Aside0.mk (RV_keep VX2.out hk_ (fun k hk => hk.gm HOK.out HGM.out) (fun _ h => h)); have UP3 := Aside0.mk (RE_keep UP2.out hk_ (fun k hk => hk.gm HOK.out HGM.out) (fun _ h => h)); clear hi_ hk_) | (go_at_call 48; (with_reducible refine (step_no M3.out.hi HST.out).mono ?_); rintro en w4 ⟨rfl, hi_, hk_⟩; have M4 := Aside0.mk (mid_keep M3.out HOK.out HGM.out hk_ hi_); have B4 := Aside0.mk (hk_.blk B3.out (Nat.ne_of_gt HGM.out) (by simp)); clear hi_ hk_))
                go_roundg j
                case measure => exact Nat.lt_succ_self j
                case rel => exact ⟨Nat.le_of_succ_le JN.out, _, _, _, _, _, _, M4.out, B4.out, HT.out.1, HT.out.2, Or.inl ⟨by decide, rfl⟩⟩
              · rw [if_neg hst] at hv
                have hsr : 0 ≤ s1 ∧ s1 < 65536 := Decidable.byContradiction fun h => by rw [if_neg h] at hv; cases hv
                rw [if_pos hsr] at hv
                have XF := Aside0.mk (And.intro (show s1 < F by omega) hsr)
                have HV := Aside0.mk (ahead_of hv)
                clear hv hm hb hc hC hn n1 n29 n28 n27 n21 ho ht hst hsr
                go_wp2_with (first | (go_at_call 49; (with_reducible refine C43.out.mono ?_); rintro en w2 ⟨pa_, pb_, rfl, hva, hvb, hi_, hk_⟩; have M2 := Aside0.mk (mid_keep HM.out HOK.out HGM.out hk_ hi_); have B2 := Aside0.mk (hk_.blk HB.out (Nat.ne_of_gt HGM.out) (by simp)); have VA2 := Aside0.mk (RV_at hva HM.out.hs); obtain ⟨gf, Af, cf, pef, rfl, okf, hf0, hcf, hCf, huf⟩ := VA2.out; obtain ⟨pef, rfl⟩ := RE_ptr huf; have VX2 := Aside0.mk (RV_at (v := x) hvb HM.out.hs); obtain ⟨gx, x1_, x2_, x3_, x4_, x5_, rfl, -, -⟩ := RV_ptr VX2.out; have HF2 := Aside0.mk hf0; have FC := Aside0.mk (And.intro hcf hCf); have UP2 := Aside0.mk huf; have FN := Aside0.mk (okf.gm HOK.out HGM.out); have b0_ : w2.cell? ⟨gf, 0, none⟩ = some (.int .i64 3) := (blk_cell hf0 0).trans rfl; clear hva hvb hf0 huf okf hcf hCf; clear hi_ hk_) | (go_at_call 47; (with_reducible refine (must_ok M2.out.hi).mono ?_); rintro en w3 ⟨rfl, hi_, hk_⟩; have M3 := Aside0.mk (mid_keep M2.out HOK.out HGM.out hk_ hi_); have B3 := Aside0.mk (hk_.blk B2.out (Nat.ne_of_gt HGM.out) (by simp)); have HF3 := Aside0.mk (hk_.blk HF2.out FN.out (by simp)); have VX3 := Aside0.mk (RV_keep VX2.out hk_ (fun k hk => hk.gm HOK.out HGM.out) (fun _ h => h)); have UP3 := Aside0.mk (RE_keep UP2.out hk_ (fun k hk => hk.gm HOK.out HGM.out) (fun _ h => h)); clear hi_ hk_) | (go_at_call 48; (with_reducible refine (step_ok M3.out.hi XF.out.1 XF.out.2.1 XF.out.2.2).mono ?_); rintro en w4 ⟨rfl, hi_, hk_⟩; have M4 := Aside0.mk (mid_keep M3.out HOK.out HGM.out hk_ hi_); have B4 := Aside0.mk (hk_.blk B3.out (Nat.ne_of_gt HGM.out) (by simp)); have HF4 := Aside0.mk (hk_.blk HF3.out FN.out (by simp)); have VX4 := Aside0.mk (RV_keep VX3.out hk_ (fun k hk => hk.gm HOK.out HGM.out) (fun _ h => h)); have UP4 := Aside0.mk (RE_keep UP3.out hk_ (fun k hk => hk.gm HOK.out HGM.out) (fun _ h => h)); clear hi_ hk_))
                have M6 := Aside0.mk (mid_below M4.out (below_drew (Below.refl _ _)))
                have B6 := Aside0.mk (blk_drew B4.out)
                have HF6 := Aside0.mk (blk_drew HF4.out)
                have VX6 := Aside0.mk (RV_below VX4.out (below_drew (Below.refl _ _)) (fun _ h => h))
                have UP6 := Aside0.mk (RE_below UP4.out (below_drew (Below.refl _ _)) (fun _ h => h))
                clear m0 m2 x0 x1 x2 fz0 fz1 fz2 b0_ M4 B4 HF4 VX4 UP4
                refine start_ (n := 13) (S := fun w' => w'.cell? ⟨gf, 3, none⟩ = some (.int .i64 b.f0) ∧ w'.cell? ⟨gf, 4, none⟩ = some (.int .i64 b.f1) ∧ w'.cell? ⟨gf, 5, none⟩ = some (.slice Af b.f2.length cf) ∧ w'.cell? ⟨gf, 6, none⟩ = some (.pointer pef)) (ds := [12]) #[false, false, false, false, false, false, false, false, false, false, false, false, false] (by kernel_rfl) rfl rfl ⟨(blk_cell HF6.out 3).trans rfl, (blk_cell HF6.out 4).trans rfl, (blk_cell HF6.out 5).trans rfl, (blk_cell HF6.out 6).trans rfl⟩ (fun hHeld => ?_)
                generalize (World.drew w4) = w6 at M6 B6 HF6 VX6 UP6 hHeld ⊢
                refine pure_ (i := 0) (N := some 122) (v := ?_) (a' := ?_) #[true, false, false, false, false, false, false, false, false, false, false, false, false] rfl rfl (by kernel_rfl) (fun _ _ _ h => h) (Or.inl ⟨by rfl, ?_⟩) ?_ ?_
                rotate_left
                · intro w'
                  go_simp
                  with_reducible rfl
                rotate_left
                · simp only [Act.put, List.setIfInBounds_toArray, List.set_cons_zero, List.set_cons_succ, i64_w, i32_w, u8_w, u32_w]
                  rfl
                refine pure_ (i := 1) (N := some 123) (v := ?_) (a' := ?_) #[true, true, false, false, false, false, false, false, false, false, false, false, false] rfl rfl (by kernel_rfl) (fun _ _ _ h => h) (Or.inl ⟨by rfl, ?_⟩) ?_ ?_
                rotate_left
                · intro w'
                  go_simp
                  with_reducible rfl
                rotate_left
                · simp only [Act.put, List.setIfInBounds_toArray, List.set_cons_zero, List.set_cons_succ, i64_w, i32_w, u8_w, u32_w]
                  rfl
                refine pure_ (i := 2) (N := some 124) (v := ?_) (a' := ?_) #[true, true, true, false, false, false, false, false, false, false, false, false, false] rfl rfl (by kernel_rfl) (fun _ _ _ h => h) (Or.inl ⟨by rfl, ?_⟩) ?_ ?_
                rotate_left
                · intro w'
                  go_simp
                  with_reducible rfl
                rotate_left
                · simp only [Act.put, List.setIfInBounds_toArray, List.set_cons_zero, List.set_cons_succ, i64_w, i32_w, u8_w, u32_w]
                  rfl
                refine pure_ (i := 3) (N := some 125) (v := ?_) (a' := ?_) #[true, true, true, true, false, false, false, false, false, false, false, false, false] rfl rfl (by kernel_rfl) (fun _ _ _ h => h) (Or.inl ⟨by rfl, ?_⟩) ?_ ?_
                rotate_left
                · intro w'
                  go_simp
                  with_reducible rfl
                rotate_left
                · simp only [Act.put, List.setIfInBounds_toArray, List.set_cons_zero, List.set_cons_succ, i64_w, i32_w, u8_w, u32_w]
                  rfl
                refine take_ (i := 4) (N := some 126) (v := ?_) (a' := ?_) #[true, true, true, true, true, false, false, false, false, false, false, false, false] rfl rfl (by kernel_rfl) (fun _ _ _ h => h) (Or.inl ⟨by rfl, ?_⟩) hHeld ?_ ?_
                rotate_left
                · rintro w' ⟨s0, s1_, s2, s3⟩
                  go_simp
                  with_reducible rfl
                rotate_left
                · simp only [Act.put, List.setIfInBounds_toArray, List.set_cons_zero, List.set_cons_succ, i64_w, i32_w, u8_w, u32_w]
                  rfl
                refine pure_ (i := 5) (N := some 127) (v := ?_) (a' := ?_) #[true, true, true, true, true, true, false, false, false, false, false, false, false] rfl rfl (by kernel_rfl) (fun _ _ _ h => h) (Or.inl ⟨by rfl, ?_⟩) ?_ ?_
                rotate_left
                · intro w'
                  go_simp
                  with_reducible rfl
                rotate_left
                · simp only [Act.put, List.setIfInBounds_toArray, List.set_cons_zero, List.set_cons_succ, i64_w, i32_w, u8_w, u32_w]
                  rfl
                refine pure_ (i := 7) (N := some 129) (v := ?_) (a' := ?_) #[true, true, true, true, true, true, false, true, false, false, false, false, false] rfl rfl (by kernel_rfl) (fun _ _ _ h => h) (Or.inl ⟨by rfl, ?_⟩) ?_ ?_
                rotate_left
                · intro w'
                  go_simp
                  with_reducible rfl
                rotate_left
                · simp only [Act.put, List.setIfInBounds_toArray, List.set_cons_zero, List.set_cons_succ, i64_w, i32_w, u8_w, u32_w]
                  rfl
                refine pure_ (i := 8) (N := some 130) (v := ?_) (a' := ?_) #[true, true, true, true, true, true, false, true, true, false, false, false, false] rfl rfl (by kernel_rfl) (fun _ _ _ h => h) (Or.inl ⟨by rfl, ?_⟩) ?_ ?_
                rotate_left
                · intro w'
                  go_simp
                  with_reducible rfl
                rotate_left
                · simp only [Act.put, List.setIfInBounds_toArray, List.set_cons_zero, List.set_cons_succ, i64_w, i32_w, u8_w, u32_w]
                  rfl
                refine pure_ (i := 9) (N := some 131) (v := ?_) (a' := ?_) #[true, true, true, true, true, true, false, true, true, true, false, false, false] rfl rfl (by kernel_rfl) (fun _ _ _ h => h) (Or.inl ⟨by rfl, ?_⟩) ?_ ?_
                rotate_left
                · intro w'
                  go_simp
                  with_reducible rfl
                rotate_left
                · simp only [Act.put, List.setIfInBounds_toArray, List.set_cons_zero, List.set_cons_succ, i64_w, i32_w, u8_w, u32_w]
                  rfl
                refine take_ (i := 10) (N := some 132) (v := ?_) (a' := ?_) #[true, true, true, true, true, true, false, true, true, true, true, false, false] rfl rfl (by kernel_rfl) (fun _ _ _ h => h) (Or.inl ⟨by rfl, ?_⟩) hHeld ?_ ?_
                rotate_left
                · rintro w' ⟨s0, s1_, s2, s3⟩
                  go_simp
                  with_reducible rfl
                rotate_left
                · simp only [Act.put, List.setIfInBounds_toArray, List.set_cons_zero, List.set_cons_succ, i64_w, i32_w, u8_w, u32_w]
                  rfl
                refine one_ (i := 6) (N := some 128) #[true, true, true, true, true, true, true, true, true, true, true, false, false] rfl rfl (by kernel_rfl) (by decide) (fun K hK => ?_)
                refine box_step (N := 128) (by rfl) rfl (cs := #[.pointer (some ⟨gx, 0, none⟩), .pointer none, .pointer pef]) (t := 92) ?hr ?_
                (case hr => first | (go_simp; done) | (go_simp; rfl))
                intro g7 hg7 w7 hbox hb7
                have M7 := Aside0.mk (mid_below M6.out hb7)
                have B7 := Aside0.mk (blk_below B6.out hb7)
                have X7 := Aside0.mk hbox
                have G7 := Aside0.mk hg7
                have HF7 := Aside0.mk (blk_below HF6.out hb7)
                have VX7 := Aside0.mk (RV_below VX6.out hb7 (fun _ h => h))
                have UP7 := Aside0.mk (RE_below UP6.out hb7 (fun _ h => h))
                clear hbox hb7 hg7
                refine hK.out _ _ ⟨(blk_cell HF7.out 3).trans rfl, (blk_cell HF7.out 4).trans rfl, (blk_cell HF7.out 5).trans rfl, (blk_cell HF7.out 6).trans rfl⟩ (fun hHeld => ?_)
                clear hK K
                refine norm_ (a' := ?_) ?_ ?_
                rotate_left
                · show Act.put _ (some 128) _ = _
                  simp only [Act.put, List.setIfInBounds_toArray, List.set_cons_zero, List.set_cons_succ, i64_w, i32_w, u8_w, u32_w]
                  rfl
                refine pure_ (i := 11) (N := some 1) (v := ?_) (a' := ?_) #[true, true, true, true, true, true, true, true, true, true, true, true, false] rfl rfl (by kernel_rfl) (fun _ _ _ h => h) (Or.inl ⟨by rfl, ?_⟩) ?_ ?_
                rotate_left
                · intro w'
                  go_simp
                  with_reducible rfl
                rotate_left
                · simp only [Act.put, List.setIfInBounds_toArray, List.set_cons_zero, List.set_cons_succ, i64_w, i32_w, u8_w, u32_w]
                  rfl
                refine last_ (i := 12) (N := none) #[true, true, true, true, true, true, true, true, true, true, true, true, true] rfl rfl (by kernel_rfl) (by decide) (fun K hK => ?_)
                have x0 : w7.cell? ⟨w.heap.size, 0, none⟩ = some (.int .i64 t.f0) := (blk_cell B7.out 0).trans rfl
                have x1 : w7.cell? ⟨w.heap.size, 1, none⟩ = some (.int .i64 t.f1) := (blk_cell B7.out 1).trans rfl
                have x2 : w7.cell? ⟨w.heap.size, 2, none⟩ = some (.slice A t.f2.length c) := (blk_cell B7.out 2).trans rfl
                have fz0 := blk_frozen B7.out 0
                have fz1 := blk_frozen B7.out 1
                have fz2 := blk_frozen B7.out 2
                refine skip_ (w1 := ?_) (by rfl) rfl ?_ ?_
                rotate_left
                · go_simp
                  rfl
                refine hK.out _ _ ?_
                clear hK K
                refine done_ (by kernel_rfl) ?_
                go_wp2
                go_roundg j
                case measure => exact Nat.lt_succ_self j
                case rel => exact ⟨loop_put (M7.out.with (e' := .val x up) ⟨g7, .pointer (some ⟨gx, 0, none⟩), .pointer pef, rfl, Or.inr (by rw [G7.out]; exact M6.out.hs), X7.out, VX7.out, UP7.out⟩) HGM.out B7.out FC.out.1 FC.out.2 HV.out (Nat.le_of_succ_le JN.out)⟩
      rw [if_neg n21] at hv
      have q0 : (t.f0 == 1) = false := by rw [beq_eq_false_iff_ne]; exact n1
      have z0 : (t.f0 = 1) = False := eq_false n1
      have q1 : (t.f0 == 29) = false := by rw [beq_eq_false_iff_ne]; exact n29
      have z1 : (t.f0 = 29) = False := eq_false n29
      have q2 : (t.f0 == 28) = false := by rw [beq_eq_false_iff_ne]; exact n28
      have z2 : (t.f0 = 28) = False := eq_false n28
      have q3 : (t.f0 == 27) = false := by rw [beq_eq_false_iff_ne]; exact n27
      have z3 : (t.f0 = 27) = False := eq_false n27
      have q4 : (t.f0 == 21) = false := by rw [beq_eq_false_iff_ne]; exact n21
      have z4 : (t.f0 = 21) = False := eq_false n21
      have C44 := Aside0.mk (plain44 (@Aside0.out _ CJ) hm.hi hm.he (fun k hk => hk.gm HOK.out HGM.out) hc hC hv)
      clear hv hm hb hc hC hn n1 n29 n28 n27 n21
      go_wp2_with (first | (go_at_call 50; (with_reducible refine C44.out.mono ?_); rintro en w2 ⟨pv, rfl, hv, hi2, hk2⟩; have V2 := Aside0.mk hv; have I2 := Aside0.mk hi2; have K2 := Aside0.mk hk2; clear hv hi2 hk2))
      (try rw [Exit.noGoto_ret]); (try go_step)
      go_ret
      exact ⟨_, rfl, RV_end V2.out (Nat.le_of_lt HM.out.hs), I2.out, KeepBut.trans HM.out.hk K2.out (.inl rfl)⟩
theorem eval26 (F : Int) (k : Nat) : CEV F k := Nat.strongRecOn (motive := fun k => CEV F k) k fun k ih => @eval_step F k ih
end Go.Proofs.YtnecmclnokikoaaDoor.Run
-- Printed by mkprint.py (a program of this session, over the kit's print). Lean checks it.
namespace Go.Proofs.YtnecmclnokikoaaDoor.L
open Go.RowKit Go.Proofs.YtnecmclnokikoaaDoorW.PrintWords Go.Proofs.YtnecmclnokikoaaDoorW.PrintLast Go.Proofs.YtnecmclnokikoaaDoorW.PrintMore
attribute [local go_sem] max2_int min2_int max_two min_two max_three min_three max_four min_four   -- for this text's walks alone
set_option linter.unusedVariables false
set_option linter.unusedSimpArgs false



def errW : Option Int → Value
  | none => .nilIface
  | some c => .iface 0 (.int .i64 c)
theorem errW_none : errW none = .nilIface := rfl
theorem errW_some (c : Int) : errW (some c) = .iface 0 (.int .i64 c) := rfl

-- the values' own types

theorem u8_w (x : Int) : IntKind.u8.wrap x = x % 256 := by rfl
theorem u32_w (x : Int) : IntKind.u32.wrap x = x % 4294967296 := by rfl
end Go.Proofs.YtnecmclnokikoaaDoor.L
/- Package term: whether an Op's number may be; the world stays as it is. Printed by mkprint.py, turned to the world unchanged. -/
namespace Go.Proofs.YtnecmclnokikoaaDoor.X
open Go.RowKit Go.Proofs.YtnecmclnokikoaaDoorW.PrintWords Go.Proofs.YtnecmclnokikoaaDoorW.PrintLast Go.Proofs.YtnecmclnokikoaaDoorW.PrintMore
attribute [local go_sem] max2_int min2_int max_two min_two max_three min_three max_four min_four   -- for this text's walks alone
set_option linter.unusedVariables false
set_option linter.unusedSimpArgs false

/-! ### term_number: function 63 -/
def term_number.f (a0 : Int) (a1 : Int) : Option (Bool) := if a0 = 1 then (if a1 ≥ 0 then (some (decide (a1 ≤ 3000))) else (some false)) else (if a0 = 2 then (if a1 ≥ 0 then (some (decide (a1 ≤ 2))) else (some false)) else (if a0 = 26 then (if a1 ≥ 0 then (some (decide (a1 ≤ 4))) else (some false)) else (if a0 = 25 then (some true) else (some (a1 == 0)))))
set_option maxHeartbeats 8000000 in
set_option maxRecDepth 100000 in
theorem term_number.calls (a0 : Int) (a1 : Int) (r : Bool) (w : World) (h : term_number.f a0 a1 = some r) :
    Calls Tryd.prog 72 #[.int .i64 a0, .int .i64 a1] w fun e w' => e = .returned (.bool r) ∧ w' = w := by
  have H : (if a0 = 1 then (if a1 ≥ 0 then (some (decide (a1 ≤ 3000))) else (some false)) else (if a0 = 2 then (if a1 ≥ 0 then (some (decide (a1 ≤ 2))) else (some false)) else (if a0 = 26 then (if a1 ≥ 0 then (some (decide (a1 ≤ 4))) else (some false)) else (if a0 = 25 then (some true) else (some (a1 == 0)))))) = some r := h
  clear h
  by_cases c3 : a0 = 1
  · rw [if_pos c3] at H
    have c3b0 : (a0 == 1) = true := beq_iff_eq.mpr c3
    have c3b1 : (a0 != 1) = false := bne_eq_false_iff_eq.mpr c3
    clear c3
    by_cases c4 : a1 ≥ 0
    · rw [if_pos c4] at H
      have c4b0 : decide (0 ≤ a1) = true := decide_eq_true c4
      clear c4
      obtain rfl := Option.some.inj H
      go_enter Tryd.func72, Tryd.ntmps72
      go_wp2
      go_ret
      exact ⟨by first | rfl | (simp; done) | (simp [*]; done), rfl⟩
    · rw [if_neg c4] at H
      have c4b0 : decide (0 ≤ a1) = false := decide_eq_false c4
      clear c4
      obtain rfl := Option.some.inj H
      go_enter Tryd.func72, Tryd.ntmps72
      go_wp2
      go_ret
      exact ⟨by first | rfl | (simp; done) | (simp [*]; done), rfl⟩
  · rw [if_neg c3] at H
    have c3b0 : (a0 == 1) = false := beq_eq_false_iff_ne.mpr c3
    have c3b1 : (a0 != 1) = true := bne_iff_ne.mpr c3
    by_cases c5 : a0 = 2
    · rw [if_pos c5] at H
      have c5b0 : (a0 == 2) = true := beq_iff_eq.mpr c5
      have c5b1 : (a0 != 2) = false := bne_eq_false_iff_eq.mpr c5
      clear c5
      by_cases c6 : a1 ≥ 0
      · rw [if_pos c6] at H
        have c6b0 : decide (0 ≤ a1) = true := decide_eq_true c6
        clear c6
        obtain rfl := Option.some.inj H
        go_enter Tryd.func72, Tryd.ntmps72
        go_wp2
        go_ret
        exact ⟨by first | rfl | (simp; done) | (simp [*]; done), rfl⟩
      · rw [if_neg c6] at H
        have c6b0 : decide (0 ≤ a1) = false := decide_eq_false c6
        clear c6
        obtain rfl := Option.some.inj H
        go_enter Tryd.func72, Tryd.ntmps72
        go_wp2
        go_ret
        exact ⟨by first | rfl | (simp; done) | (simp [*]; done), rfl⟩
    · rw [if_neg c5] at H
      have c5b0 : (a0 == 2) = false := beq_eq_false_iff_ne.mpr c5
      have c5b1 : (a0 != 2) = true := bne_iff_ne.mpr c5
      by_cases c7 : a0 = 26
      · rw [if_pos c7] at H
        have c7b0 : (a0 == 26) = true := beq_iff_eq.mpr c7
        have c7b1 : (a0 != 26) = false := bne_eq_false_iff_eq.mpr c7
        clear c7
        by_cases c8 : a1 ≥ 0
        · rw [if_pos c8] at H
          have c8b0 : decide (0 ≤ a1) = true := decide_eq_true c8
          clear c8
          obtain rfl := Option.some.inj H
          go_enter Tryd.func72, Tryd.ntmps72
          go_wp2
          go_ret
          exact ⟨by first | rfl | (simp; done) | (simp [*]; done), rfl⟩
        · rw [if_neg c8] at H
          have c8b0 : decide (0 ≤ a1) = false := decide_eq_false c8
          clear c8
          obtain rfl := Option.some.inj H
          go_enter Tryd.func72, Tryd.ntmps72
          go_wp2
          go_ret
          exact ⟨by first | rfl | (simp; done) | (simp [*]; done), rfl⟩
      · rw [if_neg c7] at H
        have c7b0 : (a0 == 26) = false := beq_eq_false_iff_ne.mpr c7
        have c7b1 : (a0 != 26) = true := bne_iff_ne.mpr c7
        by_cases c9 : a0 = 25
        · rw [if_pos c9] at H
          have c9b0 : (a0 == 25) = true := beq_iff_eq.mpr c9
          have c9b1 : (a0 != 25) = false := bne_eq_false_iff_eq.mpr c9
          clear c9
          obtain rfl := Option.some.inj H
          go_enter Tryd.func72, Tryd.ntmps72
          go_wp2
          go_ret
          exact ⟨by first | rfl | (simp; done) | (simp [*]; done), rfl⟩
        · rw [if_neg c9] at H
          have c9b0 : (a0 == 25) = false := beq_eq_false_iff_ne.mpr c9
          have c9b1 : (a0 != 25) = true := bne_iff_ne.mpr c9
          obtain rfl := Option.some.inj H
          go_enter Tryd.func72, Tryd.ntmps72
          go_wp2
          go_ret
          exact ⟨by first | rfl | (simp; done) | (simp [*]; done), rfl⟩

end Go.Proofs.YtnecmclnokikoaaDoor.X
/- Package term: check, Check: what is wrong with a term. -/
namespace Go.Proofs.YtnecmclnokikoaaDoor.Run
open Go.RowKit Go.Proofs.YtnecmclnokikoaaDoor.P Go.Proofs.YtnecmclnokikoaaDoorW.PrintWords Go.Proofs.YtnecmclnokikoaaDoorW.PrintLast Go.Proofs.YtnecmclnokikoaaDoorW.PrintMore
set_option linter.unusedVariables false
set_option linter.unusedSimpArgs false
theorem number_f (o n : Int) : X.term_number.f o n = some (numOk o n) := by
  unfold X.term_number.f numOk
  by_cases h1 : o = 1
  · rw [if_pos h1, if_pos h1]
    by_cases h : n ≥ 0
    · rw [if_pos h, decide_eq_true (show 0 ≤ n from h), Bool.true_and]
    · rw [if_neg h, decide_eq_false (show ¬ 0 ≤ n from h), Bool.false_and]
  rw [if_neg h1, if_neg h1]
  by_cases h2 : o = 2
  · rw [if_pos h2, if_pos h2]
    by_cases h : n ≥ 0
    · rw [if_pos h, decide_eq_true (show 0 ≤ n from h), Bool.true_and]
    · rw [if_neg h, decide_eq_false (show ¬ 0 ≤ n from h), Bool.false_and]
  rw [if_neg h2, if_neg h2]
  by_cases h3 : o = 26
  · rw [if_pos h3, if_pos h3]
    by_cases h : n ≥ 0
    · rw [if_pos h, decide_eq_true (show 0 ≤ n from h), Bool.true_and]
    · rw [if_neg h, decide_eq_false (show ¬ 0 ≤ n from h), Bool.false_and]
  rw [if_neg h3, if_neg h3]
  by_cases h4 : o = 25
  · rw [if_pos h4, if_pos h4]
  · rw [if_neg h4, if_neg h4]
theorem number63 (o n : Int) (w : World) : Calls Tryd.prog 72 #[.int .i64 o, .int .i64 n] w fun e w' => e = .returned (.bool (numOk o n)) ∧ w' = w := X.term_number.calls o n _ w (number_f o n)
/-- The count's block. -/
def NC (w : World) (gn : Nat) (n : Int) : Prop := w.heap[gn]? = some (.cells #[.int .i64 n] 3 (0, 0))
/-- What check does. -/
def Chk (d : Nat) : Prop := ∀ {w0 w : World} {t : S29} {A : Option Addr} {c gn : Nat} {n deep : Int}, NC w gn n → Below w0.heap.size w0 w → w0.heap.size ≤ gn → t.f2.length ≤ c → Kd.C k29 w0 A t.f2.length t.f2 → deep + d = 121 → 0 ≤ deep → 0 ≤ n → n ≤ 3000 →
  Calls Tryd.prog 44 #[.agg #[.int .i64 t.f0, .int .i64 t.f1, .slice A t.f2.length c], .pointer (some ⟨gn, 0, none⟩), .int .i64 deep] w fun en w' => en = .returned (.int .i64 (chk d t n).2) ∧ NC w' gn (chk d t n).1 ∧ KeepBut w w' gn none ∧ Below w0.heap.size w0 w'
set_option maxHeartbeats 8000000 in
set_option maxRecDepth 100000 in
theorem chk_zero : Chk 0 := by
  intro w0 w t A c gn n deep hN hB hg hc hC hd hd0 hn0 hn
  have HN := Aside0.mk hN
  have HB := Aside0.mk hB
  have HG := Aside0.mk hg
  have HC := Aside0.mk hC
  have HCc := Aside0.mk hc
  have c0 : w.cell? ⟨gn, 0, none⟩ = some (.int .i64 n) := (blk_cell hN 0).trans rfl
  have f0 := blk_frozen hN 0
  have W1 := Aside0.mk (show wrap64 (n + 1) = n + 1 by unfold wrap64; omega)
  have g1 : (120 < deep) = True := eq_true (by omega)
  have g2 : decide (120 < deep) = true := decide_eq_true (by omega)
  have EQ : Aside0 (chk 0 t n = (n + 1, 5)) := ⟨rfl⟩
  by_cases h3 : 3000 < n + 1
  · have g3 : (3000 < n + 1) = True := eq_true h3
    have g4 : decide (3000 < n + 1) = true := decide_eq_true h3
    clear h3 hN hB hg hc hC hd hd0 hn0 hn
    go_enter Tryd.func44, Tryd.ntmps44
    go_wp2_with (first | ((with_reducible refine gate_dst (N := 3) rfl ?_); refine box_event ?hg (N := 3) ?hd (cs := #[.int .i64 t.f0, .int .i64 t.f1, .slice A t.f2.length c]) (t := 29) ?hr ?_; (case hd => rfl); (case hg => rfl); (case hr => first | (go_simp; done) | (go_simp; rfl)); intro g3 hg3 w3 hbox hb3; have G3 := Aside0.mk hg3; have K3 := Aside0.mk hbox; have N3 := Aside0.mk (blk_below HN.out hb3); have B3 := Aside0.mk (HB.out.trans (hb3.mono HB.out.size)); have Q3 : Aside0 (KeepBut w w3 gn none) := ⟨KeepBut.of_below hb3 gn none⟩; clear hg3 hbox hb3 c0 f0; have c0 : w3.cell? ⟨gn, 0, none⟩ = some (.int .i64 n) := (blk_cell N3.out 0).trans rfl; have f0 := blk_frozen N3.out 0) | (rw [W1.out]))
    go_ret
    rw [EQ.out]
    exact ⟨rfl, blk_put N3.out 0 _ rfl, KeepBut.set_ Q3.out 0 _, below_set B3.out HG.out⟩
  · have g3 : (3000 < n + 1) = False := eq_false h3
    have g4 : decide (3000 < n + 1) = false := decide_eq_false h3
    clear h3 hN hB hg hc hC hd hd0 hn0 hn
    go_enter Tryd.func44, Tryd.ntmps44
    go_wp2_with (first | ((with_reducible refine gate_dst (N := 3) rfl ?_); refine box_event ?hg (N := 3) ?hd (cs := #[.int .i64 t.f0, .int .i64 t.f1, .slice A t.f2.length c]) (t := 29) ?hr ?_; (case hd => rfl); (case hg => rfl); (case hr => first | (go_simp; done) | (go_simp; rfl)); intro g3 hg3 w3 hbox hb3; have G3 := Aside0.mk hg3; have K3 := Aside0.mk hbox; have N3 := Aside0.mk (blk_below HN.out hb3); have B3 := Aside0.mk (HB.out.trans (hb3.mono HB.out.size)); have Q3 : Aside0 (KeepBut w w3 gn none) := ⟨KeepBut.of_below hb3 gn none⟩; clear hg3 hbox hb3 c0 f0; have c0 : w3.cell? ⟨gn, 0, none⟩ = some (.int .i64 n) := (blk_cell N3.out 0).trans rfl; have f0 := blk_frozen N3.out 0) | (rw [W1.out]))
    go_ret
    rw [EQ.out]
    exact ⟨rfl, blk_put N3.out 0 _ rfl, KeepBut.set_ Q3.out 0 _, below_set B3.out HG.out⟩
theorem N_new (w : World) (o : Obj) (n : Int) : NC ((w.alloc o).alloc (.cells #[.int .i64 n] 3)) (w.heap.size + 1) n := by
  have h := blk_new (w.alloc o) (.cells #[.int .i64 n] 3)
  rw [size_alloc] at h
  exact h
theorem meas {n i : Nat} (h : i < n) (hw : wrap64 ((i : Int) + 1) = ((i + 1 : Nat) : Int)) : n - (intOf (.int .i64 (wrap64 ((i : Int) + 1)))).toNat < n - (intOf (.int .i64 (i : Int))).toNat := by
  rw [hw]
  show n - (((i + 1 : Nat) : Int)).toNat < n - ((i : Int)).toNat
  omega
theorem keep_below' {w w' w2 : World} {g : Nat} (h : KeepBut w w' g none) (hb : Below w'.heap.size w' w2) : KeepBut w w2 g none :=
  ⟨Nat.le_trans h.1 hb.size, fun i hi hne hr => (hb.block i (Nat.lt_of_lt_of_le hi h.1)).trans (h.2 i hi hne hr)⟩
set_option maxHeartbeats 8000000 in
set_option maxRecDepth 100000 in
theorem chk_succ (d : Nat) (ih : Chk d) : Chk (d + 1) := by
  intro w0 w t A c gn n deep hN hB hg hc hC hd hd0 hn0 hn
  have HN := Aside0.mk hN
  have HB := Aside0.mk hB
  have HG := Aside0.mk hg
  have HC := Aside0.mk hC
  have HCc := Aside0.mk hc
  have c0 : w.cell? ⟨gn, 0, none⟩ = some (.int .i64 n) := (blk_cell hN 0).trans rfl
  have f0 := blk_frozen hN 0
  have W1 := Aside0.mk (show wrap64 (n + 1) = n + 1 by unfold wrap64; omega)
  have g1 : (120 < deep) = False := eq_false (by omega)
  have g2 : decide (120 < deep) = false := decide_eq_false (by omega)
  by_cases h3 : 3000 < n + 1
  · have g3 : (3000 < n + 1) = True := eq_true h3
    have g4 : decide (3000 < n + 1) = true := decide_eq_true h3
    have EQ : Aside0 (chk (d + 1) t n = (n + 1, 5)) := ⟨by rw [chk, if_pos h3]⟩
    clear h3 hN hB hg hc hC hd hd0 hn0 hn
    go_enter Tryd.func44, Tryd.ntmps44
    go_wp2_with (first | ((with_reducible refine gate_dst (N := 3) rfl ?_); refine box_event ?hg (N := 3) ?hd (cs := #[.int .i64 t.f0, .int .i64 t.f1, .slice A t.f2.length c]) (t := 29) ?hr ?_; (case hd => rfl); (case hg => rfl); (case hr => first | (go_simp; done) | (go_simp; rfl)); intro g3 hg3 w3 hbox hb3; have G3 := Aside0.mk hg3; have K3 := Aside0.mk hbox; have N3 := Aside0.mk (blk_below HN.out hb3); have B3 := Aside0.mk (HB.out.trans (hb3.mono HB.out.size)); have Q3 : Aside0 (KeepBut w w3 gn none) := ⟨KeepBut.of_below hb3 gn none⟩; clear hg3 hbox hb3 c0 f0; have c0 : w3.cell? ⟨gn, 0, none⟩ = some (.int .i64 n) := (blk_cell N3.out 0).trans rfl; have f0 := blk_frozen N3.out 0) | (rw [W1.out]))
    go_ret
    rw [EQ.out]
    exact ⟨rfl, blk_put N3.out 0 _ rfl, KeepBut.set_ Q3.out 0 _, below_set B3.out HG.out⟩
  have g3 : (3000 < n + 1) = False := eq_false h3
  have g4 : decide (3000 < n + 1) = false := decide_eq_false h3
  by_cases hk : kidsOf t.f0 = (t.f2.length : Int)
  · have q1 : (kidsOf t.f0 != (t.f2.length : Int)) = false := by rw [hk]; simp
    cases hm : numOk t.f0 t.f1 with
    | false =>
      have EQ : Aside0 (chk (d + 1) t n = (n + 1, 1)) := ⟨by rw [chk, if_neg h3, if_pos (Or.inr hm)]⟩
      clear h3 hN hB hg hc hC hd hd0 hn0 hn hk
      go_enter Tryd.func44, Tryd.ntmps44
      go_wp2_with (first | ((with_reducible refine gate_dst (N := 3) rfl ?_); refine box_event ?hg (N := 3) ?hd (cs := #[.int .i64 t.f0, .int .i64 t.f1, .slice A t.f2.length c]) (t := 29) ?hr ?_; (case hd => rfl); (case hg => rfl); (case hr => first | (go_simp; done) | (go_simp; rfl)); intro g3 hg3 w3 hbox hb3; have G3 := Aside0.mk hg3; have K3 := Aside0.mk hbox; have N3 := Aside0.mk (blk_below HN.out hb3); have B3 := Aside0.mk (HB.out.trans (hb3.mono HB.out.size)); have Q3 : Aside0 (KeepBut w w3 gn none) := ⟨KeepBut.of_below hb3 gn none⟩; clear hg3 hbox hb3 c0 f0; have c0 : w3.cell? ⟨gn, 0, none⟩ = some (.int .i64 n) := (blk_cell N3.out 0).trans rfl; have f0 := blk_frozen N3.out 0) | (rw [W1.out]))
      generalize hw4 : (World.setCell w3 ⟨gn, 0, none⟩ _) = w4
      have N4 : Aside0 (NC w4 gn (n + 1)) := ⟨by rw [← hw4]; exact blk_put N3.out 0 _ rfl⟩
      have NE : Aside0 (g3 ≠ gn) := ⟨by have h1 := blk_lt HN.out; have h2 := G3.out; omega⟩
      have K4 : Aside0 (w4.heap[g3]? = some (.cells #[.int .i64 t.f0, .int .i64 t.f1, .slice A t.f2.length c] 29 (0, 0))) := ⟨by rw [← hw4]; exact blk_far K3.out NE.out _⟩
      have Q4 : Aside0 (KeepBut w w4 gn none) := ⟨by rw [← hw4]; exact KeepBut.set_ Q3.out 0 _⟩
      have B4 : Aside0 (Below w0.heap.size w0 w4) := ⟨by rw [← hw4]; exact below_set B3.out HG.out⟩
      clear hw4 N3 K3 Q3 B3 c0 f0
      have N5 := Aside0.mk (blk_drew N4.out)
      have K5 := Aside0.mk (blk_drew K4.out)
      have Q5 := Aside0.mk (keep_drew Q4.out)
      have B5 := Aside0.mk (below_drew1 B4.out)
      clear N4 K4 Q4 B4
      refine start_ (n := 15) (S := fun w' => w'.cell? ⟨g3, 0, none⟩ = some (.int .i64 t.f0) ∧ w'.cell? ⟨g3, 1, none⟩ = some (.int .i64 t.f1) ∧ w'.cell? ⟨g3, 2, none⟩ = some (.slice A t.f2.length c)) (ds := []) #[false, false, false, false, false, false, false, false, false, false, false, false, false, false, false] (by kernel_rfl) rfl rfl ⟨(blk_cell K5.out 0).trans rfl, (blk_cell K5.out 1).trans rfl, (blk_cell K5.out 2).trans rfl⟩ (fun hHeld => ?_)
      generalize w4.drew = w5 at N5 K5 Q5 B5 hHeld ⊢
      refine pure_ (i := 0) (N := some 23) (v := ?_) (a' := ?_) #[true, false, false, false, false, false, false, false, false, false, false, false, false, false, false] rfl rfl (by kernel_rfl) (fun _ _ _ h => h) (Or.inl ⟨by rfl, ?_⟩) ?_ ?_
      rotate_left
      · intro w'
        go_simp
        with_reducible rfl
      rotate_left
      · simp only [Act.put, List.setIfInBounds_toArray, List.set_cons_zero, List.set_cons_succ, i64_w, i32_w, u8_w, u32_w, q1, hm]
        rfl
      refine take_ (i := 1) (N := some 24) (v := ?_) (a' := ?_) #[true, true, false, false, false, false, false, false, false, false, false, false, false, false, false] rfl rfl (by kernel_rfl) (fun _ _ _ h => h) (Or.inl ⟨by rfl, ?_⟩) hHeld ?_ ?_
      rotate_left
      · rintro w' ⟨s0, s1, s2⟩
        go_simp
        with_reducible rfl
      rotate_left
      · simp only [Act.put, List.setIfInBounds_toArray, List.set_cons_zero, List.set_cons_succ, i64_w, i32_w, u8_w, u32_w, q1, hm]
        rfl
      refine pure_ (i := 3) (N := some 26) (v := ?_) (a' := ?_) #[true, true, false, true, false, false, false, false, false, false, false, false, false, false, false] rfl rfl (by kernel_rfl) (fun _ _ _ h => h) (Or.inl ⟨by rfl, ?_⟩) ?_ ?_
      rotate_left
      · intro w'
        go_simp
        with_reducible rfl
      rotate_left
      · simp only [Act.put, List.setIfInBounds_toArray, List.set_cons_zero, List.set_cons_succ, i64_w, i32_w, u8_w, u32_w, q1, hm]
        rfl
      refine take_ (i := 4) (N := some 27) (v := ?_) (a' := ?_) #[true, true, false, true, true, false, false, false, false, false, false, false, false, false, false] rfl rfl (by kernel_rfl) (fun _ _ _ h => h) (Or.inl ⟨by rfl, ?_⟩) hHeld ?_ ?_
      rotate_left
      · rintro w' ⟨s0, s1, s2⟩
        go_simp
        with_reducible rfl
      rotate_left
      · simp only [Act.put, List.setIfInBounds_toArray, List.set_cons_zero, List.set_cons_succ, i64_w, i32_w, u8_w, u32_w, q1, hm]
        rfl
      refine pure_ (i := 5) (N := some 28) (v := ?_) (a' := ?_) #[true, true, false, true, true, true, false, false, false, false, false, false, false, false, false] rfl rfl (by kernel_rfl) (fun _ _ _ h => h) (Or.inl ⟨by rfl, ?_⟩) ?_ ?_
      rotate_left
      · intro w'
        go_simp
        with_reducible rfl
      rotate_left
      · simp only [Act.put, List.setIfInBounds_toArray, List.set_cons_zero, List.set_cons_succ, i64_w, i32_w, u8_w, u32_w, q1, hm]
        rfl
      refine one_ (i := 2) (N := some 25) #[true, true, true, true, true, true, false, false, false, false, false, false, false, false, false] rfl rfl (by kernel_rfl) (by decide) (fun K hK => ?_)
      refine goes_ Tryd.func71 (by kernel_rfl) rfl #[.int .i64 t.f0] (by rfl) rfl rfl (by (try simp only [List.map_toArray, List.map_cons, List.map_nil]); rfl) ?_
      with_reducible refine (kids_any t.f0 _).mono ?_
      rintro e w6 ⟨rfl, hb⟩
      refine ⟨_, rfl, ?_⟩
      have N6 := Aside0.mk (blk_below N5.out hb)
      have K6 := Aside0.mk (blk_below K5.out hb)
      have Q6 := Aside0.mk (keep_below' Q5.out hb)
      have B6 := Aside0.mk (B5.out.trans (hb.mono B5.out.size))
      clear N5 K5 Q5 B5 hb
      refine hK.out _ _ ⟨(blk_cell K6.out 0).trans rfl, (blk_cell K6.out 1).trans rfl, (blk_cell K6.out 2).trans rfl⟩ (fun hHeld => ?_)
      clear hK K
      refine norm_ (a' := ?_) ?_ ?_
      rotate_left
      · show Act.put _ (some 25) _ = _
        simp only [Act.put, List.setIfInBounds_toArray, List.set_cons_zero, List.set_cons_succ, i64_w, i32_w, u8_w, u32_w]
        rfl
      refine pure_ (i := 6) (N := some 29) (v := ?_) (a' := ?_) #[true, true, true, true, true, true, true, false, false, false, false, false, false, false, false] rfl rfl (by kernel_rfl) (fun _ _ _ h => h) (Or.inl ⟨by rfl, ?_⟩) ?_ ?_
      rotate_left
      · intro w'
        go_simp
        with_reducible rfl
      rotate_left
      · simp only [Act.put, List.setIfInBounds_toArray, List.set_cons_zero, List.set_cons_succ, i64_w, i32_w, u8_w, u32_w, q1, hm]
        rfl
      refine pure_ (i := 7) (N := some 30) (v := ?_) (a' := ?_) #[true, true, true, true, true, true, true, true, false, false, false, false, false, false, false] rfl rfl (by kernel_rfl) (fun _ _ _ h => h) (Or.inl ⟨by rfl, ?_⟩) ?_ ?_
      rotate_left
      · intro w'
        go_simp
        with_reducible rfl
      rotate_left
      · simp only [Act.put, List.setIfInBounds_toArray, List.set_cons_zero, List.set_cons_succ, i64_w, i32_w, u8_w, u32_w, q1, hm]
        rfl
      refine pure_ (i := 8) (N := some 31) (v := ?_) (a' := ?_) #[true, true, true, true, true, true, true, true, true, false, false, false, false, false, false] rfl rfl (by kernel_rfl) (fun _ _ _ h => h) (Or.inl ⟨by rfl, ?_⟩) ?_ ?_
      rotate_left
      · intro w'
        go_simp
        with_reducible rfl
      rotate_left
      · simp only [Act.put, List.setIfInBounds_toArray, List.set_cons_zero, List.set_cons_succ, i64_w, i32_w, u8_w, u32_w, q1, hm]
        rfl
      refine take_ (i := 9) (N := some 32) (v := ?_) (a' := ?_) #[true, true, true, true, true, true, true, true, true, true, false, false, false, false, false] rfl rfl (by kernel_rfl) (fun _ _ _ h => h) (Or.inl ⟨by rfl, ?_⟩) hHeld ?_ ?_
      rotate_left
      · rintro w' ⟨s0, s1, s2⟩
        go_simp
        with_reducible rfl
      rotate_left
      · simp only [Act.put, List.setIfInBounds_toArray, List.set_cons_zero, List.set_cons_succ, i64_w, i32_w, u8_w, u32_w, q1, hm]
        rfl
      refine pure_ (i := 10) (N := some 33) (v := ?_) (a' := ?_) #[true, true, true, true, true, true, true, true, true, true, true, false, false, false, false] rfl rfl (by kernel_rfl) (fun _ _ _ h => h) (Or.inl ⟨by rfl, ?_⟩) ?_ ?_
      rotate_left
      · intro w'
        go_simp
        with_reducible rfl
      rotate_left
      · simp only [Act.put, List.setIfInBounds_toArray, List.set_cons_zero, List.set_cons_succ, i64_w, i32_w, u8_w, u32_w, q1, hm]
        rfl
      refine take_ (i := 11) (N := some 34) (v := ?_) (a' := ?_) #[true, true, true, true, true, true, true, true, true, true, true, true, false, false, false] rfl rfl (by kernel_rfl) (fun _ _ _ h => h) (Or.inl ⟨by rfl, ?_⟩) hHeld ?_ ?_
      rotate_left
      · rintro w' ⟨s0, s1, s2⟩
        go_simp
        with_reducible rfl
      rotate_left
      · simp only [Act.put, List.setIfInBounds_toArray, List.set_cons_zero, List.set_cons_succ, i64_w, i32_w, u8_w, u32_w, q1, hm]
        rfl
      refine one_ (i := 12) (N := some 35) #[true, true, true, true, true, true, true, true, true, true, true, true, true, false, false] rfl rfl (by kernel_rfl) (by decide) (fun K hK => ?_)
      refine goes_ Tryd.func72 (by kernel_rfl) rfl #[.int .i64 t.f0, .int .i64 t.f1] (by rfl) rfl rfl (by (try simp only [List.map_toArray, List.map_cons, List.map_nil]); rfl) ?_
      with_reducible refine (number63 t.f0 t.f1 _).mono ?_
      rintro e w7 ⟨rfl, rfl⟩
      refine ⟨_, rfl, ?_⟩
      refine hK.out _ _ ⟨(blk_cell K6.out 0).trans rfl, (blk_cell K6.out 1).trans rfl, (blk_cell K6.out 2).trans rfl⟩ (fun hHeld => ?_)
      clear hK K
      refine norm_ (a' := ?_) ?_ ?_
      rotate_left
      · show Act.put _ (some 35) _ = _
        simp only [Act.put, List.setIfInBounds_toArray, List.set_cons_zero, List.set_cons_succ, i64_w, i32_w, u8_w, u32_w]
        rfl
      refine pure_ (i := 13) (N := some 36) (v := ?_) (a' := ?_) #[true, true, true, true, true, true, true, true, true, true, true, true, true, true, false] rfl rfl (by kernel_rfl) (fun _ _ _ h => h) (Or.inl ⟨by rfl, ?_⟩) ?_ ?_
      rotate_left
      · intro w'
        go_simp
        with_reducible rfl
      rotate_left
      · simp only [Act.put, List.setIfInBounds_toArray, List.set_cons_zero, List.set_cons_succ, i64_w, i32_w, u8_w, u32_w, q1, hm]
        rfl
      refine pure_ (i := 14) (N := some 37) (v := ?_) (a' := ?_) #[true, true, true, true, true, true, true, true, true, true, true, true, true, true, true] rfl rfl (by kernel_rfl) (fun _ _ _ h => h) (Or.inl ⟨by rfl, ?_⟩) ?_ ?_
      rotate_left
      · intro w'
        go_simp
        with_reducible rfl
      rotate_left
      · simp only [Act.put, List.setIfInBounds_toArray, List.set_cons_zero, List.set_cons_succ, i64_w, i32_w, u8_w, u32_w, q1, hm]
        rfl
      refine done_ (by kernel_rfl) ?_
      go_wp2
      go_ret
      rw [EQ.out]
      exact ⟨rfl, N6.out, Q6.out, B6.out⟩
    | true =>
      have EQ : Aside0 (chk (d + 1) t n = chkAll (chk d) t.f2 (n + 1)) := ⟨by rw [chk, if_neg h3, if_neg (by rintro (h | h); exact h hk; rw [hm] at h; exact absurd h (by decide))]⟩
      have M0 := Aside0.mk (show 0 ≤ n + 1 ∧ n + 1 ≤ 3000 by omega)
      have W2 := Aside0.mk (show wrap64 (deep + 1) = deep + 1 by unfold wrap64; omega)
      have DD := Aside0.mk (show deep + 1 + (d : Int) = 121 ∧ 0 ≤ deep + 1 by omega)
      have IH := Aside0.mk @ih
      clear h3 hN hB hg hc hC hd hd0 hn0 hn hk ih
      go_enter Tryd.func44, Tryd.ntmps44
      go_wp2_with (first | ((with_reducible refine gate_dst (N := 3) rfl ?_); refine box_event ?hg (N := 3) ?hd (cs := #[.int .i64 t.f0, .int .i64 t.f1, .slice A t.f2.length c]) (t := 29) ?hr ?_; (case hd => rfl); (case hg => rfl); (case hr => first | (go_simp; done) | (go_simp; rfl)); intro g3 hg3 w3 hbox hb3; have G3 := Aside0.mk hg3; have K3 := Aside0.mk hbox; have N3 := Aside0.mk (blk_below HN.out hb3); have B3 := Aside0.mk (HB.out.trans (hb3.mono HB.out.size)); have Q3 : Aside0 (KeepBut w w3 gn none) := ⟨KeepBut.of_below hb3 gn none⟩; clear hg3 hbox hb3 c0 f0; have c0 : w3.cell? ⟨gn, 0, none⟩ = some (.int .i64 n) := (blk_cell N3.out 0).trans rfl; have f0 := blk_frozen N3.out 0) | (rw [W1.out]))
      generalize hw4 : (World.setCell w3 ⟨gn, 0, none⟩ _) = w4
      have N4 : Aside0 (NC w4 gn (n + 1)) := ⟨by rw [← hw4]; exact blk_put N3.out 0 _ rfl⟩
      have NE : Aside0 (g3 ≠ gn) := ⟨by have h1 := blk_lt HN.out; have h2 := G3.out; omega⟩
      have K4 : Aside0 (w4.heap[g3]? = some (.cells #[.int .i64 t.f0, .int .i64 t.f1, .slice A t.f2.length c] 29 (0, 0))) := ⟨by rw [← hw4]; exact blk_far K3.out NE.out _⟩
      have Q4 : Aside0 (KeepBut w w4 gn none) := ⟨by rw [← hw4]; exact KeepBut.set_ Q3.out 0 _⟩
      have B4 : Aside0 (Below w0.heap.size w0 w4) := ⟨by rw [← hw4]; exact below_set B3.out HG.out⟩
      clear hw4 N3 K3 Q3 B3 c0 f0
      have N5 := Aside0.mk (blk_drew N4.out)
      have K5 := Aside0.mk (blk_drew K4.out)
      have Q5 := Aside0.mk (keep_drew Q4.out)
      have B5 := Aside0.mk (below_drew1 B4.out)
      clear N4 K4 Q4 B4
      refine start_ (n := 15) (S := fun w' => w'.cell? ⟨g3, 0, none⟩ = some (.int .i64 t.f0) ∧ w'.cell? ⟨g3, 1, none⟩ = some (.int .i64 t.f1) ∧ w'.cell? ⟨g3, 2, none⟩ = some (.slice A t.f2.length c)) (ds := []) #[false, false, false, false, false, false, false, false, false, false, false, false, false, false, false] (by kernel_rfl) rfl rfl ⟨(blk_cell K5.out 0).trans rfl, (blk_cell K5.out 1).trans rfl, (blk_cell K5.out 2).trans rfl⟩ (fun hHeld => ?_)
      generalize w4.drew = w5 at N5 K5 Q5 B5 hHeld ⊢
      refine pure_ (i := 0) (N := some 23) (v := ?_) (a' := ?_) #[true, false, false, false, false, false, false, false, false, false, false, false, false, false, false] rfl rfl (by kernel_rfl) (fun _ _ _ h => h) (Or.inl ⟨by rfl, ?_⟩) ?_ ?_
      rotate_left
      · intro w'
        go_simp
        with_reducible rfl
      rotate_left
      · simp only [Act.put, List.setIfInBounds_toArray, List.set_cons_zero, List.set_cons_succ, i64_w, i32_w, u8_w, u32_w, q1, hm]
        rfl
      refine take_ (i := 1) (N := some 24) (v := ?_) (a' := ?_) #[true, true, false, false, false, false, false, false, false, false, false, false, false, false, false] rfl rfl (by kernel_rfl) (fun _ _ _ h => h) (Or.inl ⟨by rfl, ?_⟩) hHeld ?_ ?_
      rotate_left
      · rintro w' ⟨s0, s1, s2⟩
        go_simp
        with_reducible rfl
      rotate_left
      · simp only [Act.put, List.setIfInBounds_toArray, List.set_cons_zero, List.set_cons_succ, i64_w, i32_w, u8_w, u32_w, q1, hm]
        rfl
      refine pure_ (i := 3) (N := some 26) (v := ?_) (a' := ?_) #[true, true, false, true, false, false, false, false, false, false, false, false, false, false, false] rfl rfl (by kernel_rfl) (fun _ _ _ h => h) (Or.inl ⟨by rfl, ?_⟩) ?_ ?_
      rotate_left
      · intro w'
        go_simp
        with_reducible rfl
      rotate_left
      · simp only [Act.put, List.setIfInBounds_toArray, List.set_cons_zero, List.set_cons_succ, i64_w, i32_w, u8_w, u32_w, q1, hm]
        rfl
      refine take_ (i := 4) (N := some 27) (v := ?_) (a' := ?_) #[true, true, false, true, true, false, false, false, false, false, false, false, false, false, false] rfl rfl (by kernel_rfl) (fun _ _ _ h => h) (Or.inl ⟨by rfl, ?_⟩) hHeld ?_ ?_
      rotate_left
      · rintro w' ⟨s0, s1, s2⟩
        go_simp
        with_reducible rfl
      rotate_left
      · simp only [Act.put, List.setIfInBounds_toArray, List.set_cons_zero, List.set_cons_succ, i64_w, i32_w, u8_w, u32_w, q1, hm]
        rfl
      refine pure_ (i := 5) (N := some 28) (v := ?_) (a' := ?_) #[true, true, false, true, true, true, false, false, false, false, false, false, false, false, false] rfl rfl (by kernel_rfl) (fun _ _ _ h => h) (Or.inl ⟨by rfl, ?_⟩) ?_ ?_
      rotate_left
      · intro w'
        go_simp
        with_reducible rfl
      rotate_left
      · simp only [Act.put, List.setIfInBounds_toArray, List.set_cons_zero, List.set_cons_succ, i64_w, i32_w, u8_w, u32_w, q1, hm]
        rfl
      refine one_ (i := 2) (N := some 25) #[true, true, true, true, true, true, false, false, false, false, false, false, false, false, false] rfl rfl (by kernel_rfl) (by decide) (fun K hK => ?_)
      refine goes_ Tryd.func71 (by kernel_rfl) rfl #[.int .i64 t.f0] (by rfl) rfl rfl (by (try simp only [List.map_toArray, List.map_cons, List.map_nil]); rfl) ?_
      with_reducible refine (kids_any t.f0 _).mono ?_
      rintro e w6 ⟨rfl, hb⟩
      refine ⟨_, rfl, ?_⟩
      have N6 := Aside0.mk (blk_below N5.out hb)
      have K6 := Aside0.mk (blk_below K5.out hb)
      have Q6 := Aside0.mk (keep_below' Q5.out hb)
      have B6 := Aside0.mk (B5.out.trans (hb.mono B5.out.size))
      clear N5 K5 Q5 B5 hb
      refine hK.out _ _ ⟨(blk_cell K6.out 0).trans rfl, (blk_cell K6.out 1).trans rfl, (blk_cell K6.out 2).trans rfl⟩ (fun hHeld => ?_)
      clear hK K
      refine norm_ (a' := ?_) ?_ ?_
      rotate_left
      · show Act.put _ (some 25) _ = _
        simp only [Act.put, List.setIfInBounds_toArray, List.set_cons_zero, List.set_cons_succ, i64_w, i32_w, u8_w, u32_w]
        rfl
      refine pure_ (i := 6) (N := some 29) (v := ?_) (a' := ?_) #[true, true, true, true, true, true, true, false, false, false, false, false, false, false, false] rfl rfl (by kernel_rfl) (fun _ _ _ h => h) (Or.inl ⟨by rfl, ?_⟩) ?_ ?_
      rotate_left
      · intro w'
        go_simp
        with_reducible rfl
      rotate_left
      · simp only [Act.put, List.setIfInBounds_toArray, List.set_cons_zero, List.set_cons_succ, i64_w, i32_w, u8_w, u32_w, q1, hm]
        rfl
      refine pure_ (i := 7) (N := some 30) (v := ?_) (a' := ?_) #[true, true, true, true, true, true, true, true, false, false, false, false, false, false, false] rfl rfl (by kernel_rfl) (fun _ _ _ h => h) (Or.inl ⟨by rfl, ?_⟩) ?_ ?_
      rotate_left
      · intro w'
        go_simp
        with_reducible rfl
      rotate_left
      · simp only [Act.put, List.setIfInBounds_toArray, List.set_cons_zero, List.set_cons_succ, i64_w, i32_w, u8_w, u32_w, q1, hm]
        rfl
      refine pure_ (i := 8) (N := some 31) (v := ?_) (a' := ?_) #[true, true, true, true, true, true, true, true, true, false, false, false, false, false, false] rfl rfl (by kernel_rfl) (fun _ _ _ h => h) (Or.inl ⟨by rfl, ?_⟩) ?_ ?_
      rotate_left
      · intro w'
        go_simp
        with_reducible rfl
      rotate_left
      · simp only [Act.put, List.setIfInBounds_toArray, List.set_cons_zero, List.set_cons_succ, i64_w, i32_w, u8_w, u32_w, q1, hm]
        rfl
      refine take_ (i := 9) (N := some 32) (v := ?_) (a' := ?_) #[true, true, true, true, true, true, true, true, true, true, false, false, false, false, false] rfl rfl (by kernel_rfl) (fun _ _ _ h => h) (Or.inl ⟨by rfl, ?_⟩) hHeld ?_ ?_
      rotate_left
      · rintro w' ⟨s0, s1, s2⟩
        go_simp
        with_reducible rfl
      rotate_left
      · simp only [Act.put, List.setIfInBounds_toArray, List.set_cons_zero, List.set_cons_succ, i64_w, i32_w, u8_w, u32_w, q1, hm]
        rfl
      refine pure_ (i := 10) (N := some 33) (v := ?_) (a' := ?_) #[true, true, true, true, true, true, true, true, true, true, true, false, false, false, false] rfl rfl (by kernel_rfl) (fun _ _ _ h => h) (Or.inl ⟨by rfl, ?_⟩) ?_ ?_
      rotate_left
      · intro w'
        go_simp
        with_reducible rfl
      rotate_left
      · simp only [Act.put, List.setIfInBounds_toArray, List.set_cons_zero, List.set_cons_succ, i64_w, i32_w, u8_w, u32_w, q1, hm]
        rfl
      refine take_ (i := 11) (N := some 34) (v := ?_) (a' := ?_) #[true, true, true, true, true, true, true, true, true, true, true, true, false, false, false] rfl rfl (by kernel_rfl) (fun _ _ _ h => h) (Or.inl ⟨by rfl, ?_⟩) hHeld ?_ ?_
      rotate_left
      · rintro w' ⟨s0, s1, s2⟩
        go_simp
        with_reducible rfl
      rotate_left
      · simp only [Act.put, List.setIfInBounds_toArray, List.set_cons_zero, List.set_cons_succ, i64_w, i32_w, u8_w, u32_w, q1, hm]
        rfl
      refine one_ (i := 12) (N := some 35) #[true, true, true, true, true, true, true, true, true, true, true, true, true, false, false] rfl rfl (by kernel_rfl) (by decide) (fun K hK => ?_)
      refine goes_ Tryd.func72 (by kernel_rfl) rfl #[.int .i64 t.f0, .int .i64 t.f1] (by rfl) rfl rfl (by (try simp only [List.map_toArray, List.map_cons, List.map_nil]); rfl) ?_
      with_reducible refine (number63 t.f0 t.f1 _).mono ?_
      rintro e w7 ⟨rfl, rfl⟩
      refine ⟨_, rfl, ?_⟩
      refine hK.out _ _ ⟨(blk_cell K6.out 0).trans rfl, (blk_cell K6.out 1).trans rfl, (blk_cell K6.out 2).trans rfl⟩ (fun hHeld => ?_)
      clear hK K
      refine norm_ (a' := ?_) ?_ ?_
      rotate_left
      · show Act.put _ (some 35) _ = _
        simp only [Act.put, List.setIfInBounds_toArray, List.set_cons_zero, List.set_cons_succ, i64_w, i32_w, u8_w, u32_w]
        rfl
      refine pure_ (i := 13) (N := some 36) (v := ?_) (a' := ?_) #[true, true, true, true, true, true, true, true, true, true, true, true, true, true, false] rfl rfl (by kernel_rfl) (fun _ _ _ h => h) (Or.inl ⟨by rfl, ?_⟩) ?_ ?_
      rotate_left
      · intro w'
        go_simp
        with_reducible rfl
      rotate_left
      · simp only [Act.put, List.setIfInBounds_toArray, List.set_cons_zero, List.set_cons_succ, i64_w, i32_w, u8_w, u32_w, q1, hm]
        rfl
      refine pure_ (i := 14) (N := some 37) (v := ?_) (a' := ?_) #[true, true, true, true, true, true, true, true, true, true, true, true, true, true, true] rfl rfl (by kernel_rfl) (fun _ _ _ h => h) (Or.inl ⟨by rfl, ?_⟩) ?_ ?_
      rotate_left
      · intro w'
        go_simp
        with_reducible rfl
      rotate_left
      · simp only [Act.put, List.setIfInBounds_toArray, List.set_cons_zero, List.set_cons_succ, i64_w, i32_w, u8_w, u32_w, q1, hm]
        rfl
      refine done_ (by kernel_rfl) ?_
      go_wp2
      go_loopw [41] (fun v41 w_ => ∃ (i : Nat) (m : Int), i ≤ t.f2.length ∧ v41 = .int .i64 i ∧ Aside0 (0 ≤ m ∧ m ≤ 3000 ∧ chkAll (chk d) (t.f2.drop i) m = chk (d + 1) t n) ∧ Aside0 (NC w_ gn m) ∧ Aside0 (KeepBut w w_ gn none) ∧ Aside0 (Below w0.heap.size w0 w_)) (fun v41 _ => t.f2.length - (intOf v41).toNat)
      case atStart => exact ⟨0, n + 1, Nat.zero_le _, rfl, ⟨M0.out.1, M0.out.2, by rw [EQ.out]; rfl⟩, N6, Q6, B6⟩
      case round =>
        obtain ⟨i, m, hi, rfl, HM, NR, QR, BR⟩ := hrel
        by_cases hlt : i < t.f2.length
        · have e1 : ((i : Int) < (t.f2.length : Int)) = True := eq_true (by omega)
          have e2 : (i < t.f2.length) = True := eq_true hlt
          have e3 : decide ((i : Int) < (t.f2.length : Int)) = true := decide_eq_true (by omega)
          have e4 : (0 ≤ (i : Int)) = True := eq_true (by omega)
          obtain ⟨ad, A2, c2, hA, hx0, hx1, hx2, hc2, hC2⟩ := at_T29 HC.out (i : Int) (by omega) (by omega)
          obtain ⟨x, hx⟩ : ∃ x, x = rd_T29 t.f2 (i : Int) := ⟨_, rfl⟩
          rw [← hx] at hx0 hx1 hx2 hc2 hC2
          rw [Int.toNat_natCast] at hx0 hx1 hx2
          replace hx0 := pw_cell_below BR.out hx0
          replace hx1 := pw_cell_below BR.out hx1
          replace hx2 := pw_cell_below BR.out hx2
          have XC := Aside0.mk (And.intro hc2 hC2)
          have MM := Aside0.mk (And.intro HM.out.1 HM.out.2.1)
          have hdr : t.f2.drop i = x :: t.f2.drop (i + 1) := by
            rw [List.drop_eq_getElem_cons hlt, hx]
            unfold rd_T29
            rw [Int.toNat_natCast, List.getD_eq_getElem?_getD, List.getElem?_eq_getElem hlt]
            rfl
          have h4 := HM.out.2.2
          rw [hdr, chkAll] at h4
          have hrng := chk_range d x m HM.out.1 HM.out.2.1
          obtain ⟨⟨r1, r2⟩, hr⟩ : ∃ r, r = chk d x m := ⟨_, rfl⟩
          rw [← hr] at h4 hrng
          have RR := Aside0.mk hr.symm
          have W3 := Aside0.mk (show wrap64 ((i : Int) + 1) = ((i + 1 : Nat) : Int) from (show wrap64 ((i : Int) + 1) = ((i + 1 : Nat) : Int) by have := HC.out.2.1; unfold wrap64; omega))
          subst hA
          by_cases hz : r2 = 0
          · subst hz
            rw [if_neg (by simp)] at h4
            have HM2 := Aside0.mk (And.intro hrng.1 (And.intro (hrng.2.2 rfl) h4))
            have HI := Aside0.mk (And.intro hi hlt)
            clear h4 hrng hr hdr hx hc2 hC2 hlt hi
            go_wp2_with (first | (go_at_call 44; rw [W2.out]; refine (IH.out (t := x) (blk_below NR.out (below_alloc (Below.refl _ _) _)) (below_alloc BR.out _) HG.out XC.out.1 XC.out.2 DD.out.1 DD.out.2 MM.out.1 MM.out.2).mono ?_; rintro e w10 ⟨rfl, hN10, hK10, hB10⟩; rw [RR.out] at hN10 ⊢; have N10 := Aside0.mk hN10; have Q10 := Aside0.mk (KeepBut.trans (keep_alloc QR.out _) hK10 (.inl rfl)); have B10 := Aside0.mk hB10; clear hN10 hK10 hB10 NR QR BR))
            go_roundw
            case measure => exact meas HI.out.2 W3.out
            case rel => exact ⟨i + 1, r1, HI.out.2, by rw [W3.out], ⟨HM2.out.1, HM2.out.2.1, HM2.out.2.2⟩, N10, Q10, B10⟩
          · have z1 : (r2 = 0) = False := eq_false hz
            have z2 : (r2 == 0) = false := by simpa using hz
            have z3 : (r2 != 0) = true := by simpa using hz
            rw [if_pos hz] at h4
            have H4 := Aside0.mk h4
            clear h4 hrng hr hdr hx hc2 hC2 hlt hi hz
            go_wp2_with (first | (go_at_call 44; rw [W2.out]; refine (IH.out (t := x) (blk_below NR.out (below_alloc (Below.refl _ _) _)) (below_alloc BR.out _) HG.out XC.out.1 XC.out.2 DD.out.1 DD.out.2 MM.out.1 MM.out.2).mono ?_; rintro e w10 ⟨rfl, hN10, hK10, hB10⟩; rw [RR.out] at hN10 ⊢; have N10 := Aside0.mk hN10; have Q10 := Aside0.mk (KeepBut.trans (keep_alloc QR.out _) hK10 (.inl rfl)); have B10 := Aside0.mk hB10; clear hN10 hK10 hB10 NR QR BR))
            go_ret
            rw [← H4.out]
            exact ⟨rfl, N10.out, Q10.out, B10.out⟩
        · obtain rfl : i = t.f2.length := by omega
          have e1 : ((t.f2.length : Int) < (t.f2.length : Int)) = False := eq_false (by omega)
          have h4 := HM.out.2.2
          rw [List.drop_length, chkAll] at h4
          have H4 := Aside0.mk h4
          clear h4 hi hlt
          go_wp2
          go_ret
          rw [← H4.out]
          exact ⟨rfl, NR.out, QR.out, BR.out⟩
  · have q1 : (kidsOf t.f0 != (t.f2.length : Int)) = true := by simpa using hk
    have EQ : Aside0 (chk (d + 1) t n = (n + 1, 1)) := ⟨by rw [chk, if_neg h3, if_pos (Or.inl hk)]⟩
    clear h3 hN hB hg hc hC hd hd0 hn0 hn hk
    go_enter Tryd.func44, Tryd.ntmps44
    go_wp2_with (first | ((with_reducible refine gate_dst (N := 3) rfl ?_); refine box_event ?hg (N := 3) ?hd (cs := #[.int .i64 t.f0, .int .i64 t.f1, .slice A t.f2.length c]) (t := 29) ?hr ?_; (case hd => rfl); (case hg => rfl); (case hr => first | (go_simp; done) | (go_simp; rfl)); intro g3 hg3 w3 hbox hb3; have G3 := Aside0.mk hg3; have K3 := Aside0.mk hbox; have N3 := Aside0.mk (blk_below HN.out hb3); have B3 := Aside0.mk (HB.out.trans (hb3.mono HB.out.size)); have Q3 : Aside0 (KeepBut w w3 gn none) := ⟨KeepBut.of_below hb3 gn none⟩; clear hg3 hbox hb3 c0 f0; have c0 : w3.cell? ⟨gn, 0, none⟩ = some (.int .i64 n) := (blk_cell N3.out 0).trans rfl; have f0 := blk_frozen N3.out 0) | (rw [W1.out]))
    generalize hw4 : (World.setCell w3 ⟨gn, 0, none⟩ _) = w4
    have N4 : Aside0 (NC w4 gn (n + 1)) := ⟨by rw [← hw4]; exact blk_put N3.out 0 _ rfl⟩
    have NE : Aside0 (g3 ≠ gn) := ⟨by have h1 := blk_lt HN.out; have h2 := G3.out; omega⟩
    have K4 : Aside0 (w4.heap[g3]? = some (.cells #[.int .i64 t.f0, .int .i64 t.f1, .slice A t.f2.length c] 29 (0, 0))) := ⟨by rw [← hw4]; exact blk_far K3.out NE.out _⟩
    have Q4 : Aside0 (KeepBut w w4 gn none) := ⟨by rw [← hw4]; exact KeepBut.set_ Q3.out 0 _⟩
    have B4 : Aside0 (Below w0.heap.size w0 w4) := ⟨by rw [← hw4]; exact below_set B3.out HG.out⟩
    clear hw4 N3 K3 Q3 B3 c0 f0
    have N5 := Aside0.mk (blk_drew N4.out)
    have K5 := Aside0.mk (blk_drew K4.out)
    have Q5 := Aside0.mk (keep_drew Q4.out)
    have B5 := Aside0.mk (below_drew1 B4.out)
    clear N4 K4 Q4 B4
    refine start_ (n := 15) (S := fun w' => w'.cell? ⟨g3, 0, none⟩ = some (.int .i64 t.f0) ∧ w'.cell? ⟨g3, 1, none⟩ = some (.int .i64 t.f1) ∧ w'.cell? ⟨g3, 2, none⟩ = some (.slice A t.f2.length c)) (ds := []) #[false, false, false, false, false, false, false, false, false, false, false, false, false, false, false] (by kernel_rfl) rfl rfl ⟨(blk_cell K5.out 0).trans rfl, (blk_cell K5.out 1).trans rfl, (blk_cell K5.out 2).trans rfl⟩ (fun hHeld => ?_)
    generalize w4.drew = w5 at N5 K5 Q5 B5 hHeld ⊢
    refine pure_ (i := 0) (N := some 23) (v := ?_) (a' := ?_) #[true, false, false, false, false, false, false, false, false, false, false, false, false, false, false] rfl rfl (by kernel_rfl) (fun _ _ _ h => h) (Or.inl ⟨by rfl, ?_⟩) ?_ ?_
    rotate_left
    · intro w'
      go_simp
      with_reducible rfl
    rotate_left
    · simp only [Act.put, List.setIfInBounds_toArray, List.set_cons_zero, List.set_cons_succ, i64_w, i32_w, u8_w, u32_w, q1]
      rfl
    refine take_ (i := 1) (N := some 24) (v := ?_) (a' := ?_) #[true, true, false, false, false, false, false, false, false, false, false, false, false, false, false] rfl rfl (by kernel_rfl) (fun _ _ _ h => h) (Or.inl ⟨by rfl, ?_⟩) hHeld ?_ ?_
    rotate_left
    · rintro w' ⟨s0, s1, s2⟩
      go_simp
      with_reducible rfl
    rotate_left
    · simp only [Act.put, List.setIfInBounds_toArray, List.set_cons_zero, List.set_cons_succ, i64_w, i32_w, u8_w, u32_w, q1]
      rfl
    refine pure_ (i := 3) (N := some 26) (v := ?_) (a' := ?_) #[true, true, false, true, false, false, false, false, false, false, false, false, false, false, false] rfl rfl (by kernel_rfl) (fun _ _ _ h => h) (Or.inl ⟨by rfl, ?_⟩) ?_ ?_
    rotate_left
    · intro w'
      go_simp
      with_reducible rfl
    rotate_left
    · simp only [Act.put, List.setIfInBounds_toArray, List.set_cons_zero, List.set_cons_succ, i64_w, i32_w, u8_w, u32_w, q1]
      rfl
    refine take_ (i := 4) (N := some 27) (v := ?_) (a' := ?_) #[true, true, false, true, true, false, false, false, false, false, false, false, false, false, false] rfl rfl (by kernel_rfl) (fun _ _ _ h => h) (Or.inl ⟨by rfl, ?_⟩) hHeld ?_ ?_
    rotate_left
    · rintro w' ⟨s0, s1, s2⟩
      go_simp
      with_reducible rfl
    rotate_left
    · simp only [Act.put, List.setIfInBounds_toArray, List.set_cons_zero, List.set_cons_succ, i64_w, i32_w, u8_w, u32_w, q1]
      rfl
    refine pure_ (i := 5) (N := some 28) (v := ?_) (a' := ?_) #[true, true, false, true, true, true, false, false, false, false, false, false, false, false, false] rfl rfl (by kernel_rfl) (fun _ _ _ h => h) (Or.inl ⟨by rfl, ?_⟩) ?_ ?_
    rotate_left
    · intro w'
      go_simp
      with_reducible rfl
    rotate_left
    · simp only [Act.put, List.setIfInBounds_toArray, List.set_cons_zero, List.set_cons_succ, i64_w, i32_w, u8_w, u32_w, q1]
      rfl
    refine one_ (i := 2) (N := some 25) #[true, true, true, true, true, true, false, false, false, false, false, false, false, false, false] rfl rfl (by kernel_rfl) (by decide) (fun K hK => ?_)
    refine goes_ Tryd.func71 (by kernel_rfl) rfl #[.int .i64 t.f0] (by rfl) rfl rfl (by (try simp only [List.map_toArray, List.map_cons, List.map_nil]); rfl) ?_
    with_reducible refine (kids_any t.f0 _).mono ?_
    rintro e w6 ⟨rfl, hb⟩
    refine ⟨_, rfl, ?_⟩
    have N6 := Aside0.mk (blk_below N5.out hb)
    have K6 := Aside0.mk (blk_below K5.out hb)
    have Q6 := Aside0.mk (keep_below' Q5.out hb)
    have B6 := Aside0.mk (B5.out.trans (hb.mono B5.out.size))
    clear N5 K5 Q5 B5 hb
    refine hK.out _ _ ⟨(blk_cell K6.out 0).trans rfl, (blk_cell K6.out 1).trans rfl, (blk_cell K6.out 2).trans rfl⟩ (fun hHeld => ?_)
    clear hK K
    refine norm_ (a' := ?_) ?_ ?_
    rotate_left
    · show Act.put _ (some 25) _ = _
      simp only [Act.put, List.setIfInBounds_toArray, List.set_cons_zero, List.set_cons_succ, i64_w, i32_w, u8_w, u32_w]
      rfl
    refine pure_ (i := 6) (N := some 29) (v := ?_) (a' := ?_) #[true, true, true, true, true, true, true, false, false, false, false, false, false, false, false] rfl rfl (by kernel_rfl) (fun _ _ _ h => h) (Or.inl ⟨by rfl, ?_⟩) ?_ ?_
    rotate_left
    · intro w'
      go_simp
      with_reducible rfl
    rotate_left
    · simp only [Act.put, List.setIfInBounds_toArray, List.set_cons_zero, List.set_cons_succ, i64_w, i32_w, u8_w, u32_w, q1]
      rfl
    refine pure_ (i := 7) (N := some 30) (v := ?_) (a' := ?_) #[true, true, true, true, true, true, true, true, false, false, false, false, false, false, false] rfl rfl (by kernel_rfl) (fun _ _ _ h => h) (Or.inl ⟨by rfl, ?_⟩) ?_ ?_
    rotate_left
    · intro w'
      go_simp
      with_reducible rfl
    rotate_left
    · simp only [Act.put, List.setIfInBounds_toArray, List.set_cons_zero, List.set_cons_succ, i64_w, i32_w, u8_w, u32_w, q1]
      rfl
    refine pure_ (i := 8) (N := some 31) (v := undef) (a' := ?_) #[true, true, true, true, true, true, true, true, true, false, false, false, false, false, false] rfl rfl (by kernel_rfl) (fun _ _ _ h => h) (Or.inr ⟨by rfl, rfl⟩) ?_ ?_
    rotate_left
    · simp only [Act.put, List.setIfInBounds_toArray, List.set_cons_zero, List.set_cons_succ, i64_w, i32_w, u8_w, u32_w, q1]
      rfl
    refine pure_ (i := 9) (N := some 32) (v := undef) (a' := ?_) #[true, true, true, true, true, true, true, true, true, true, false, false, false, false, false] rfl rfl (by kernel_rfl) (fun _ _ _ h => h) (Or.inr ⟨by rfl, rfl⟩) ?_ ?_
    rotate_left
    · simp only [Act.put, List.setIfInBounds_toArray, List.set_cons_zero, List.set_cons_succ, i64_w, i32_w, u8_w, u32_w, q1]
      rfl
    refine pure_ (i := 10) (N := some 33) (v := undef) (a' := ?_) #[true, true, true, true, true, true, true, true, true, true, true, false, false, false, false] rfl rfl (by kernel_rfl) (fun _ _ _ h => h) (Or.inr ⟨by rfl, rfl⟩) ?_ ?_
    rotate_left
    · simp only [Act.put, List.setIfInBounds_toArray, List.set_cons_zero, List.set_cons_succ, i64_w, i32_w, u8_w, u32_w, q1]
      rfl
    refine pure_ (i := 11) (N := some 34) (v := undef) (a' := ?_) #[true, true, true, true, true, true, true, true, true, true, true, true, false, false, false] rfl rfl (by kernel_rfl) (fun _ _ _ h => h) (Or.inr ⟨by rfl, rfl⟩) ?_ ?_
    rotate_left
    · simp only [Act.put, List.setIfInBounds_toArray, List.set_cons_zero, List.set_cons_succ, i64_w, i32_w, u8_w, u32_w, q1]
      rfl
    refine pure_ (i := 12) (N := some 35) (v := undef) (a' := ?_) #[true, true, true, true, true, true, true, true, true, true, true, true, true, false, false] rfl rfl (by kernel_rfl) (fun _ _ _ h => h) (Or.inr ⟨by rfl, rfl⟩) ?_ ?_
    rotate_left
    · simp only [Act.put, List.setIfInBounds_toArray, List.set_cons_zero, List.set_cons_succ, i64_w, i32_w, u8_w, u32_w, q1]
      rfl
    refine pure_ (i := 13) (N := some 36) (v := undef) (a' := ?_) #[true, true, true, true, true, true, true, true, true, true, true, true, true, true, false] rfl rfl (by kernel_rfl) (fun _ _ _ h => h) (Or.inr ⟨by rfl, rfl⟩) ?_ ?_
    rotate_left
    · simp only [Act.put, List.setIfInBounds_toArray, List.set_cons_zero, List.set_cons_succ, i64_w, i32_w, u8_w, u32_w, q1]
      rfl
    refine pure_ (i := 14) (N := some 37) (v := ?_) (a' := ?_) #[true, true, true, true, true, true, true, true, true, true, true, true, true, true, true] rfl rfl (by kernel_rfl) (fun _ _ _ h => h) (Or.inl ⟨by rfl, ?_⟩) ?_ ?_
    rotate_left
    · intro w'
      go_simp
      with_reducible rfl
    rotate_left
    · simp only [Act.put, List.setIfInBounds_toArray, List.set_cons_zero, List.set_cons_succ, i64_w, i32_w, u8_w, u32_w, q1]
      rfl
    refine done_ (by kernel_rfl) ?_
    go_wp2
    go_ret
    rw [EQ.out]
    exact ⟨rfl, N6.out, Q6.out, B6.out⟩
theorem chk_all : ∀ d, Chk d
  | 0 => chk_zero
  | d + 1 => chk_succ d (chk_all d)
set_option maxHeartbeats 8000000 in
set_option maxRecDepth 100000 in
theorem check25 {w : World} {t : S29} {A : Option Addr} {c d : Nat} (hd : Aside0 (d = 120)) (hc : t.f2.length ≤ c) (hC : Kd.C k29 w A t.f2.length t.f2) :
    Calls Tryd.prog 28 #[.agg #[.int .i64 t.f0, .int .i64 t.f1, .slice A t.f2.length c]] w fun en w' => en = .returned (.int .i64 (chk d t 0).2) ∧ Below w.heap.size w w' := by
  have HC := Aside0.mk hC
  have HCc := Aside0.mk hc
  have DD : Aside0 ((1 : Int) + (d : Int) = 121) := ⟨by have := hd.out; omega⟩
  clear hc hC
  go_enter Tryd.func28, Tryd.ntmps28
  go_wp2_with (first | (go_at_call 44; refine (chk_all d (t := t) (w0 := w) (gn := w.heap.size + 1) (n := 0) (deep := 1) ?aN ?aB ?aG HCc.out HC.out DD.out (by decide) (by decide) (by decide)).mono ?_; (case aN => exact N_new _ _ _); (case aB => exact below_alloc (below_alloc (Below.refl _ _) _) _); (case aG => exact Nat.le_succ _); rintro e w2 ⟨rfl, -, hK, hB⟩; have B2 := Aside0.mk hB; clear hK hB))
  go_ret
  exact ⟨rfl, B2.out⟩
end Go.Proofs.YtnecmclnokikoaaDoor.Run
/- Package run: told: a value as it is told. -/
namespace Go.Proofs.YtnecmclnokikoaaDoor.Run
open Go.RowKit Go.Proofs.YtnecmclnokikoaaDoor.P Go.Proofs.YtnecmclnokikoaaDoorW.PrintWords Go.Proofs.YtnecmclnokikoaaDoorW.PrintLast Go.Proofs.YtnecmclnokikoaaDoorW.PrintMore
set_option linter.unusedVariables false
set_option linter.unusedSimpArgs false
def kidsV : V → List V
  | .pair a b => [a, b]
  | .int _ => []
  | .fn _ _ => []
theorem told_eq (v : V) : told v = ⟨v.kind, v.num, (kidsV v).map told⟩ := by cases v <;> rfl
theorem kidsV_len (v : V) : (kidsV v).length ≤ 2 := by cases v <;> simp [kidsV]
theorem RV_kids {w0 w : World} {ok : Nat → Prop} : ∀ {v : V} {p : Value}, RV w0 w ok v p → ∃ g AL op n ks pe, p = .pointer (some ⟨g, 0, none⟩) ∧ w.heap[g]? = some (.cells #[.int .i64 v.kind, .int .i64 v.num, .slice AL (kidsV v).length (kidsV v).length, op, n, ks, pe] 95 (0, 0)) ∧ ∀ (i : Nat) (x : V), (kidsV v)[i]? = some x → ∃ (r : Nat) (cs : Array Value) (q : Value), AL = some ⟨r, 0, none⟩ ∧ w.heap[r]? = some (.cells cs 67 (0, 0)) ∧ cs[i]? = some q ∧ RV w0 w ok x q
  | .int n, p, h => by
    obtain ⟨g, h1, h2, h3⟩ := h
    exact ⟨g, _, _, _, _, _, h1, h3, fun i x hx => by simp [kidsV] at hx⟩
  | .pair a b, p, h => by
    obtain ⟨g, r, pa, pb, h1, h2, h3, h4, h5, h6, h7⟩ := h
    refine ⟨g, _, _, _, _, _, h1, h3, fun i x hx => ?_⟩
    match i, hx with
    | 0, hx => cases hx; exact ⟨r, _, pa, rfl, h5, rfl, h6⟩
    | 1, hx => cases hx; exact ⟨r, _, pb, rfl, h5, rfl, h7⟩
    | i + 2, hx => simp [kidsV] at hx
  | .fn t e, p, h => by
    obtain ⟨g, A, c, pe, h1, h2, h3, h4, h5, h6⟩ := h
    exact ⟨g, _, _, _, _, _, h1, h3, fun i x hx => by simp [kidsV] at hx⟩
theorem gen_any {P : Program} {md : Region.Mode} {ops : Array Oper} {Q : Exit → Act → World → Prop} {S : World → Prop} {ds : List Nat} {fuel : Nat} {l : Array Bool} {a : Act} {W : World} (R : World → Prop) (h : R W) (k : ∀ w, R w → wpAnyLast P md ops Q S ds fuel l a w) : wpAnyLast P md ops Q S ds fuel l a W := k W h
theorem put3_ {w : World} {g : Nat} {t : TypeId} {a b c a' b' c' : Value} (h : w.heap[g]? = some (.cells #[a, b, c] t (0, 0))) :
    (((w.setCell ⟨g, 0, none⟩ a').setCell ⟨g, 1, none⟩ b').setCell ⟨g, 2, none⟩ c').heap[g]? = some (.cells #[a', b', c'] t (0, 0)) :=
  blk_put (blk_put (blk_put h 0 a' rfl) 1 b' rfl) 2 c' rfl
/-- What told does. -/
structure Told (v : V) : Prop where
  out : ∀ {w0 w : World} {ok : Nat → Prop} {p : Value}, RV w0 w ok v p → Calls Tryd.prog 30 #[p] w fun en w' => ∃ vl, en = .returned (.agg #[.int .i64 (told v).f0, .int .i64 (told v).f1, vl]) ∧ Kd.R k36 36 w' w.heap.size (fun _ => True) vl (told v).f2 ∧ Below w.heap.size w w'
theorem meas2 {n i : Nat} (h : i < n) (hw : wrap64 ((i : Int) + 1) = ((i + 1 : Nat) : Int)) : n - (intOf (.int .i64 (wrap64 ((i : Int) + 1)))).toNat < n - (intOf (.int .i64 (i : Int))).toNat := by
  rw [hw]
  show n - (((i + 1 : Nat) : Int)).toNat < n - ((i : Int)).toNat
  omega
set_option maxHeartbeats 16000000 in
set_option maxRecDepth 100000 in
theorem told_step (v : V) (ih : ∀ x, x ∈ kidsV v → Told x) : Told v := by
  refine ⟨?_⟩
  intro w0 w ok p hv
  obtain ⟨gv, AL, r1, r2, r3, r4, rfl, hg, hL⟩ := RV_kids hv
  have hn2 := kidsV_len v
  have HL := Aside0.mk hL
  have HG := Aside0.mk hg
  have IH := Aside0.mk ih
  have hu36 := Tryd.underlying36
  obtain ⟨n, hn⟩ : ∃ n, n = (kidsV v).length := ⟨_, rfl⟩
  have TO := Aside0.mk (told_eq v)
  have HN := Aside0.mk hn
  rw [← hn] at hg hn2
  have HG := Aside0.mk hg
  clear hv hL hg ih hn
  go_enter Tryd.func30, Tryd.ntmps30
  go_wp2
  have T1 := Aside0.mk (blk_drew (blk_new w (.cells #[.int .i64 0, .int .i64 0, .slice none 0 0] 36)))
  have V1 := Aside0.mk (blk_drew (blk_alloc HG.out (.cells #[.int .i64 0, .int .i64 0, .slice none 0 0] 36)))
  have B1 := Aside0.mk (below_drew1 (below_alloc (Below.refl w.heap.size w) (.cells #[.int .i64 0, .int .i64 0, .slice none 0 0] 36)))
  have Z1 : Aside0 (w.heap.size < (World.drew (w.alloc (.cells #[.int .i64 0, .int .i64 0, .slice none 0 0] 36))).heap.size) := ⟨blk_lt T1.out⟩
  refine start_ (n := 11) (S := fun w' => w'.cell? ⟨gv, 0, none⟩ = some (.int .i64 v.kind) ∧ w'.cell? ⟨gv, 1, none⟩ = some (.int .i64 v.num)) (ds := [10]) #[false, false, false, false, false, false, false, false, false, false, false] (by kernel_rfl) rfl rfl ⟨(blk_cell V1.out 0).trans rfl, (blk_cell V1.out 1).trans rfl⟩ (fun hHeld => ?_)
  generalize (World.drew (World.alloc w _)) = w1 at T1 V1 B1 Z1 hHeld ⊢
  refine pure_ (i := 0) (N := some 6) (v := ?_) (a' := ?_) #[true, false, false, false, false, false, false, false, false, false, false] rfl rfl (by kernel_rfl) (fun _ _ _ h => h) (Or.inl ⟨by rfl, ?_⟩) ?_ ?_
  rotate_left
  · intro w'
    go_simp
    with_reducible rfl
  rotate_left
  · simp only [Act.put, List.setIfInBounds_toArray, List.set_cons_zero, List.set_cons_succ, i64_w, i32_w, u8_w, u32_w]
    rfl
  refine pure_ (i := 1) (N := some 7) (v := ?_) (a' := ?_) #[true, true, false, false, false, false, false, false, false, false, false] rfl rfl (by kernel_rfl) (fun _ _ _ h => h) (Or.inl ⟨by rfl, ?_⟩) ?_ ?_
  rotate_left
  · intro w'
    go_simp
    with_reducible rfl
  rotate_left
  · simp only [Act.put, List.setIfInBounds_toArray, List.set_cons_zero, List.set_cons_succ, i64_w, i32_w, u8_w, u32_w]
    rfl
  refine pure_ (i := 2) (N := some 8) (v := ?_) (a' := ?_) #[true, true, true, false, false, false, false, false, false, false, false] rfl rfl (by kernel_rfl) (fun _ _ _ h => h) (Or.inl ⟨by rfl, ?_⟩) ?_ ?_
  rotate_left
  · intro w'
    go_simp
    with_reducible rfl
  rotate_left
  · simp only [Act.put, List.setIfInBounds_toArray, List.set_cons_zero, List.set_cons_succ, i64_w, i32_w, u8_w, u32_w]
    rfl
  refine take_ (i := 3) (N := some 9) (v := ?_) (a' := ?_) #[true, true, true, true, false, false, false, false, false, false, false] rfl rfl (by kernel_rfl) (fun _ _ _ h => h) (Or.inl ⟨by rfl, ?_⟩) hHeld ?_ ?_
  rotate_left
  · rintro w' ⟨s0, s1⟩
    go_simp
    with_reducible rfl
  rotate_left
  · simp only [Act.put, List.setIfInBounds_toArray, List.set_cons_zero, List.set_cons_succ, i64_w, i32_w, u8_w, u32_w]
    rfl
  refine pure_ (i := 4) (N := some 10) (v := ?_) (a' := ?_) #[true, true, true, true, true, false, false, false, false, false, false] rfl rfl (by kernel_rfl) (fun _ _ _ h => h) (Or.inl ⟨by rfl, ?_⟩) ?_ ?_
  rotate_left
  · intro w'
    go_simp
    with_reducible rfl
  rotate_left
  · simp only [Act.put, List.setIfInBounds_toArray, List.set_cons_zero, List.set_cons_succ, i64_w, i32_w, u8_w, u32_w]
    rfl
  refine pure_ (i := 5) (N := some 11) (v := ?_) (a' := ?_) #[true, true, true, true, true, true, false, false, false, false, false] rfl rfl (by kernel_rfl) (fun _ _ _ h => h) (Or.inl ⟨by rfl, ?_⟩) ?_ ?_
  rotate_left
  · intro w'
    go_simp
    with_reducible rfl
  rotate_left
  · simp only [Act.put, List.setIfInBounds_toArray, List.set_cons_zero, List.set_cons_succ, i64_w, i32_w, u8_w, u32_w]
    rfl
  refine pure_ (i := 6) (N := some 12) (v := ?_) (a' := ?_) #[true, true, true, true, true, true, true, false, false, false, false] rfl rfl (by kernel_rfl) (fun _ _ _ h => h) (Or.inl ⟨by rfl, ?_⟩) ?_ ?_
  rotate_left
  · intro w'
    go_simp
    with_reducible rfl
  rotate_left
  · simp only [Act.put, List.setIfInBounds_toArray, List.set_cons_zero, List.set_cons_succ, i64_w, i32_w, u8_w, u32_w]
    rfl
  refine take_ (i := 7) (N := some 13) (v := ?_) (a' := ?_) #[true, true, true, true, true, true, true, true, false, false, false] rfl rfl (by kernel_rfl) (fun _ _ _ h => h) (Or.inl ⟨by rfl, ?_⟩) hHeld ?_ ?_
  rotate_left
  · rintro w' ⟨s0, s1⟩
    go_simp
    with_reducible rfl
  rotate_left
  · simp only [Act.put, List.setIfInBounds_toArray, List.set_cons_zero, List.set_cons_succ, i64_w, i32_w, u8_w, u32_w]
    rfl
  refine pure_ (i := 8) (N := some 14) (v := ?_) (a' := ?_) #[true, true, true, true, true, true, true, true, true, false, false] rfl rfl (by kernel_rfl) (fun _ _ _ h => h) (Or.inl ⟨by rfl, ?_⟩) ?_ ?_
  rotate_left
  · intro w'
    go_simp
    with_reducible rfl
  rotate_left
  · simp only [Act.put, List.setIfInBounds_toArray, List.set_cons_zero, List.set_cons_succ, i64_w, i32_w, u8_w, u32_w]
    rfl
  refine one_ (i := 9) (N := some 3) #[true, true, true, true, true, true, true, true, true, true, false] rfl rfl (by kernel_rfl) (by decide) (fun K hK => ?_)
  refine box_step (N := 3) (by rfl) rfl (cs := #[.int .i64 0, .int .i64 0, .slice none 0 0]) (t := 36) ?hr ?_
  (case hr => first | (go_simp; done) | (go_simp; rfl))
  intro g3 hg3 w2 hbox hb2
  have T2 := Aside0.mk (blk_below T1.out hb2)
  have V2 := Aside0.mk (blk_below V1.out hb2)
  have U2 := Aside0.mk hbox
  have B2 := Aside0.mk (below_step B1.out hb2)
  have G3 : Aside0 (w.heap.size < g3) := ⟨by rw [hg3]; exact Z1.out⟩
  clear hbox hb2 hg3
  refine hK.out _ _ ⟨(blk_cell V2.out 0).trans rfl, (blk_cell V2.out 1).trans rfl⟩ (fun hHeld => ?_)
  clear hK K
  refine norm_ (a' := ?_) ?_ ?_
  rotate_left
  · show Act.put _ (some 3) _ = _
    simp only [Act.put, List.setIfInBounds_toArray, List.set_cons_zero, List.set_cons_succ, i64_w, i32_w, u8_w, u32_w]
    rfl
  refine last_ (i := 10) (N := none) #[true, true, true, true, true, true, true, true, true, true, true] rfl rfl (by kernel_rfl) (by decide) (fun K hK => ?_)
  have z0 : w2.cell? ⟨g3, 0, none⟩ = some (.int .i64 0) := (blk_cell U2.out 0).trans rfl
  have z1 : w2.cell? ⟨g3, 1, none⟩ = some (.int .i64 0) := (blk_cell U2.out 1).trans rfl
  have z2 : w2.cell? ⟨g3, 2, none⟩ = some (.slice none 0 0) := (blk_cell U2.out 2).trans rfl
  have fz0 := blk_frozen U2.out 0
  have fz1 := blk_frozen U2.out 1
  have fz2 := blk_frozen U2.out 2
  refine skip_ (w1 := ?_) (by rfl) rfl ?_ ?_
  rotate_left
  · go_simp
    rfl
  refine hK.out _ _ ?_
  clear hK K
  have NE : Aside0 (gv ≠ g3 ∧ w.heap.size ≠ g3 ∧ gv ≠ w.heap.size) := ⟨by have h1 := blk_lt HG.out; have h2 := G3.out; omega⟩
  refine gen_any (fun w3 => w3.heap[g3]? = some (.cells #[.int .i64 v.kind, .int .i64 v.num, .slice none 0 0] 36 (0, 0)) ∧ w3.heap[w.heap.size]? = some (.cells #[.int .i64 0, .int .i64 0, .slice none 0 0] 36 (0, 0)) ∧ w3.heap[gv]? = some (.cells #[.int .i64 v.kind, .int .i64 v.num, .slice AL n n, r1, r2, r3, r4] 95 (0, 0)) ∧ Below w.heap.size w w3) ⟨put3_ U2.out, blk_far (blk_far (blk_far T2.out NE.out.2.1 _) NE.out.2.1 _) NE.out.2.1 _, blk_far (blk_far (blk_far V2.out NE.out.1 _) NE.out.1 _) NE.out.1 _, below_set (below_set (below_set B2.out (Nat.le_of_lt G3.out)) (Nat.le_of_lt G3.out)) (Nat.le_of_lt G3.out)⟩ ?_
  rintro w3 ⟨h1, h2, h3, h4⟩
  clear z0 z1 z2 fz0 fz1 fz2 hHeld T1 V1 B1 Z1 T2 V2 U2 B2
  have U3 := Aside0.mk h1
  have T3 := Aside0.mk h2
  have V3 := Aside0.mk h3
  have B3 := Aside0.mk h4
  clear h1 h2 h3 h4
  refine done_ (by kernel_rfl) ?_
  have v2_ : w3.cell? ⟨gv, 2, none⟩ = some (.slice AL n n) := (blk_cell V3.out 2).trans rfl
  go_wp2
  clear v2_
  go_loopw [20] (fun v20 w' => ∃ (i : Nat) (ks : List S36) (vl : Value), v20 = .int .i64 i ∧ i ≤ n ∧ Aside0 (ks = ((kidsV v).take i).map told) ∧ Aside0 (ks.length ≤ 2) ∧ Aside0 (Kd.R k36 36 w' w.heap.size (fun k => k ≠ w.heap.size ∧ k ≠ g3) vl ks) ∧ Aside0 (w'.heap[g3]? = some (.cells #[.int .i64 v.kind, .int .i64 v.num, vl] 36 (0, 0))) ∧ Aside0 (w'.heap[w.heap.size]? = some (.cells #[.int .i64 0, .int .i64 0, .slice none 0 0] 36 (0, 0))) ∧ Aside0 (Below w.heap.size w w')) (fun v20 _ => n - (intOf v20).toNat)
  case atStart => exact ⟨0, [], .slice none 0 0, rfl, Nat.zero_le _, ⟨rfl⟩, ⟨by simp⟩, ⟨Kd.R_nil _ _ _ _ _⟩, U3, T3, B3⟩
  case round =>
    clear U3 T3 B3 V3
    obtain ⟨i, ks, vl, rfl, hi, KE, KL, HO, Ud, Td, Bd⟩ := hrel
    obtain ⟨Av, cv, ev⟩ := Kd.R_slice HO.out
    subst ev
    have W3 := Aside0.mk (show wrap64 ((i : Int) + 1) = ((i + 1 : Nat) : Int) by unfold wrap64; omega)
    by_cases hlt : i < n
    · have LT := Aside0.mk hlt
      obtain ⟨x, hx⟩ : ∃ x, (kidsV v)[i]? = some x := ⟨_, List.getElem?_eq_getElem (by have := HN.out; omega)⟩
      obtain ⟨r, cs, q, hAL, hr, hq, hrq⟩ := HL.out i x hx
      subst hAL
      have e1 : ((i : Int) < (n : Int)) = True := eq_true (by omega)
      have e2 : (i < n) = True := eq_true hlt
      have e3 : decide ((i : Int) < (n : Int)) = true := decide_eq_true (by omega)
      have e4 : (0 ≤ (i : Int)) = True := eq_true (by omega)
      have y0 : wr.cell? ⟨r, i, none⟩ = some q := (blk_cell (blk_below hr Bd.out) i).trans hq
      have IX : Aside0 (∀ w10 : World, RV w0 w10 ok x q → Calls Tryd.prog 30 #[q] w10 fun en w' => ∃ vl, en = .returned (.agg #[.int .i64 (told x).f0, .int .i64 (told x).f1, vl]) ∧ Kd.R k36 36 w' w10.heap.size (fun _ => True) vl (told x).f2 ∧ Below w10.heap.size w10 w') := ⟨fun w10 h => (IH.out x (List.mem_of_getElem? hx)).out h⟩
      have RQ := Aside0.mk (RV_below (RV_below hrq Bd.out (fun _ h => h)) (below_drew (Below.refl wr.heap.size wr)) (fun _ h => h))
      have NX : Aside0 (ks ++ [told x] = ((kidsV v).take (i + 1)).map told) := ⟨by rw [KE.out, List.take_add_one, hx]; simp⟩
      clear hx hr hq hrq hlt hi
      have l2 : wr.cell? ⟨g3, 2, none⟩ = some (.slice Av ks.length cv) := (blk_cell Ud.out 2).trans rfl
      go_wp2
      have HOd := Aside0.mk (Kd.R_drew HO.out)
      replace Ud := Aside0.mk (blk_drew Ud.out)
      replace Td := Aside0.mk (blk_drew Td.out)
      replace Bd := Aside0.mk (below_drew1 Bd.out)
      have l2d : wr.drew.cell? ⟨g3, 2, none⟩ = some (.slice Av ks.length cv) := l2
      clear HO y0 l2
      refine start_ (n := 8) (S := fun w' => w'.cell? ⟨g3, 2, none⟩ = some (.slice Av ks.length cv)) (ds := [7]) #[false, false, false, false, false, false, false, false] (by kernel_rfl) rfl rfl l2d (fun hHeld => ?_)
      generalize wr.drew = w10 at HOd Td Ud Bd RQ l2d hHeld ⊢
      refine pure_ (i := 0) (N := some 24) (v := ?_) (a' := ?_) #[true, false, false, false, false, false, false, false] rfl rfl (by kernel_rfl) (fun _ _ _ h => h) (Or.inl ⟨by rfl, ?_⟩) ?_ ?_
      rotate_left
      · intro w'
        go_simp
        with_reducible rfl
      rotate_left
      · simp only [Act.put, List.setIfInBounds_toArray, List.set_cons_zero, List.set_cons_succ, i64_w, i32_w, u8_w, u32_w]
        rfl
      refine pure_ (i := 2) (N := some 26) (v := ?_) (a' := ?_) #[true, false, true, false, false, false, false, false] rfl rfl (by kernel_rfl) (fun _ _ _ h => h) (Or.inl ⟨by rfl, ?_⟩) ?_ ?_
      rotate_left
      · intro w'
        go_simp
        with_reducible rfl
      rotate_left
      · simp only [Act.put, List.setIfInBounds_toArray, List.set_cons_zero, List.set_cons_succ, i64_w, i32_w, u8_w, u32_w]
        rfl
      refine take_ (i := 1) (N := some 25) (v := ?_) (a' := ?_) #[true, true, true, false, false, false, false, false] rfl rfl (by kernel_rfl) (fun _ _ _ h => h) (Or.inl ⟨by rfl, ?_⟩) hHeld ?_ ?_
      rotate_left
      · rintro w' s0
        go_simp
        with_reducible rfl
      rotate_left
      · simp only [Act.put, List.setIfInBounds_toArray, List.set_cons_zero, List.set_cons_succ, i64_w, i32_w, u8_w, u32_w]
        rfl
      refine one_ (i := 3) (N := some 27) #[true, true, true, true, false, false, false, false] rfl rfl (by kernel_rfl) (by decide) (fun K hK => ?_)
      refine goes_ Tryd.func30 (by kernel_rfl) rfl #[q] (by rfl) rfl rfl (by (try simp only [List.map_toArray, List.map_cons, List.map_nil]); rfl) ?_
      with_reducible refine (IX.out _ RQ.out).mono ?_
      rintro e w11 ⟨vc, rfl, hR, hB11⟩
      refine ⟨_, rfl, ?_⟩
      obtain ⟨Ac, cc, ec⟩ := Kd.R_slice hR
      subst ec
      have own_lt : Aside0 (∀ k, (Value.slice Av ks.length cv).ownBlock = some k → k < w10.heap.size ∧ w.heap.size ≤ k ∧ k ≠ w.heap.size ∧ k ≠ g3) := ⟨fun k hk => by
        have hk1 := (Kd.R_bound HOd.out).1 k hk
        exact ⟨hk1.2.2.1, hk1.2.1, hk1.1⟩⟩
      have HO11 : Aside0 (Kd.R k36 36 w11 w.heap.size (fun k => k ≠ w.heap.size ∧ k ≠ g3) (.slice Av ks.length cv) ks) := ⟨Kd.R_keep HOd.out (KeepBut.of_below hB11 g3 none) (fun k hk => hk.2)⟩
      have t_lt := Aside0.mk (blk_lt Td.out)
      have g_lt := Aside0.mk (blk_lt Ud.out)
      have HC11 : Aside0 (Kd.R k36 36 w11 w.heap.size (fun k => (k ≠ w.heap.size ∧ k ≠ g3) ∧ some k ≠ (Value.slice Av ks.length cv).ownBlock) (.slice Ac (told x).f2.length cc) (told x).f2) := ⟨Kd.R_lower (Kd.R_mono (Kd.R_bound hR) (fun k hk => by
        have a1 := t_lt.out
        have a2 := g_lt.out
        have a4 := hk.2.1
        exact ⟨⟨by omega, by omega⟩, fun e => by have := (own_lt.out k e.symm).1; omega⟩)) Bd.out.size⟩
      have T11 := Aside0.mk (blk_below Td.out hB11)
      have U11 := Aside0.mk (blk_below Ud.out hB11)
      have B11 := Aside0.mk (below_step Bd.out hB11)
      have S11 := Aside0.mk hB11.size
      clear hR hB11 HOd Td Ud Bd
      refine hK.out _ _ ((blk_cell U11.out 2).trans rfl) (fun hHeld => ?_)
      clear hK K
      refine norm_ (a' := ?_) ?_ ?_
      rotate_left
      · show Act.put _ (some 27) _ = _
        simp only [Act.put, List.setIfInBounds_toArray, List.set_cons_zero, List.set_cons_succ, i64_w, i32_w, u8_w, u32_w]
        rfl
      refine one_ (i := 4) (N := some 28) #[true, true, true, true, true, false, false, false] rfl rfl (by kernel_rfl) (by decide) (fun K hK => ?_)
      refine value_ (w1 := ?_) (v := ?_) (by rfl) rfl ?_ ?_
      rotate_left 2
      · go_simp
        constructor
        · rfl
        · rfl
      refine hK.out _ _ ((blk_cell (blk_alloc U11.out _) 2).trans rfl) (fun hHeld => ?_)
      clear hK K
      refine norm_ (a' := ?_) ?_ ?_
      rotate_left
      · show Act.put _ (some 28) _ = _
        simp only [Act.put, List.setIfInBounds_toArray, List.set_cons_zero, List.set_cons_succ, i64_w, i32_w, u8_w, u32_w]
        rfl
      refine one_ (i := 5) (N := some 29) #[true, true, true, true, true, true, false, false] rfl rfl (by kernel_rfl) (by decide) (fun K hK => ?_)
      refine Kd.R_append_step k36 (w0 := w11) w.heap.size (by rfl) (.tmp 25) (.tmp 28) 34 36 (.agg #[(.int .i64 0), (.int .i64 0), (.slice none 0 0)]) 40 rfl Tryd.underlying34 info36 rfl (by decide) (by omega) (.slice Av ks.length cv) ks (told x) [.int .i64 (told x).f0, .int .i64 (told x).f1, .slice Ac (told x).f2.length cc] (fun k_ => k_ ≠ w.heap.size ∧ k_ ≠ g3) (fun k_ => (k_ ≠ w.heap.size ∧ k_ ≠ g3) ∧ some k_ ≠ (Value.slice Av ks.length cv).ownBlock) rfl rfl ?aP (fun _ hk => hk) ?aF ?aO ?aB ?aS ?aL ?_
      (case aP => exact k36_mkM _ _ _ (told x) HC11.out)
      (case aB => exact Below.refl _ _)
      (case aF => exact (fun k_ hk => by
        have a0 := S11.out
        have a1 := t_lt.out
        have a2 := g_lt.out
        exact ⟨by omega, by omega⟩))
      (case aO => exact HO11.out)
      (case aS => exact B11.out.size)
      (case aL => have := KL.out; omega)
      intro v2 w12 ho hb hg hat
      have T12 := Aside0.mk (blk_grown T11.out hg (fun e => (own_lt.out _ e.symm).2.2.1 rfl))
      have U12 := Aside0.mk (blk_grown U11.out hg (fun e => (own_lt.out g3 e.symm).2.2.2 rfl))
      have B12 : Aside0 (Below w.heap.size w w12) := ⟨B11.out.grown hg B11.out.size (fun k hk => (own_lt.out k hk).2.1)⟩
      have HO12 := Aside0.mk ho
      clear ho hb hg hat HO11 HC11 T11 U11 B11
      obtain ⟨Av2, cv2, ev2⟩ := Kd.R_slice HO12.out
      subst ev2
      refine hK.out _ _ ((blk_cell U12.out 2).trans rfl) (fun hHeld => ?_)
      clear hK K
      refine norm_ (a' := ?_) ?_ ?_
      rotate_left
      · show Act.put _ (some 29) _ = _
        simp only [Act.put, List.setIfInBounds_toArray, List.set_cons_zero, List.set_cons_succ, i64_w, i32_w, u8_w, u32_w]
        rfl
      refine pure_ (i := 6) (N := some 30) (v := ?_) (a' := ?_) #[true, true, true, true, true, true, true, false] rfl rfl (by kernel_rfl) (fun _ _ _ h => h) (Or.inl ⟨by rfl, ?_⟩) ?_ ?_
      rotate_left
      · intro w'
        go_simp
        with_reducible rfl
      rotate_left
      · simp only [Act.put, List.setIfInBounds_toArray, List.set_cons_zero, List.set_cons_succ, i64_w, i32_w, u8_w, u32_w]
        rfl
      refine last_ (i := 7) (N := none) #[true, true, true, true, true, true, true, true] rfl rfl (by kernel_rfl) (by decide) (fun K hK => ?_)
      have hs9 : w12.cell? ⟨g3, 2, none⟩ = some (.slice Av ks.length cv) := (blk_cell U12.out 2).trans rfl
      have hfs9 := blk_frozen U12.out 2
      refine skip_ (w1 := ?_) (by rfl) rfl ?_ ?_
      rotate_left
      · go_simp
        rfl
      refine hK.out _ _ ?_
      clear hK K
      refine done_ (by kernel_rfl) ?_
      clear hs9 hfs9 hHeld
      go_wp2
      go_roundw
      case measure => exact meas2 LT.out W3.out
      case rel => exact ⟨i + 1, ks ++ [told x], _, by rw [W3.out], LT.out, NX, ⟨by have := KL.out; have := LT.out; rw [NX.out]; simp; omega⟩, ⟨Kd.R_mono (Kd.R_far (p := ⟨g3, 2, none⟩) HO12.out (fun k hk => hk.2) _) (fun k hk => hk)⟩, ⟨blk_put U12.out 2 _ (by simp)⟩, ⟨blk_far T12.out NE.out.2.1 _⟩, ⟨below_set B12.out (Nat.le_of_lt G3.out)⟩⟩
    · obtain rfl : i = n := by omega
      have e1 : ((i : Int) < (i : Int)) = False := eq_false (by omega)
      have KF : Aside0 (ks = (told v).f2) := ⟨by rw [KE.out, TO.out, HN.out, List.take_length]⟩
      have u0 : wr.cell? ⟨g3, 0, none⟩ = some (.int .i64 v.kind) := (blk_cell Ud.out 0).trans rfl
      have u1 : wr.cell? ⟨g3, 1, none⟩ = some (.int .i64 v.num) := (blk_cell Ud.out 1).trans rfl
      have u2 : wr.cell? ⟨g3, 2, none⟩ = some (.slice Av ks.length cv) := (blk_cell Ud.out 2).trans rfl
      have k0 : wr.cell? ⟨w.heap.size, 0, none⟩ = some (.int .i64 0) := (blk_cell Td.out 0).trans rfl
      have k1 : wr.cell? ⟨w.heap.size, 1, none⟩ = some (.int .i64 0) := (blk_cell Td.out 1).trans rfl
      have k2 : wr.cell? ⟨w.heap.size, 2, none⟩ = some (.slice none 0 0) := (blk_cell Td.out 2).trans rfl
      have kf0 := blk_frozen Td.out 0
      have kf1 := blk_frozen Td.out 1
      have kf2 := blk_frozen Td.out 2
      have KO := Aside0.mk (show (told v).f0 = v.kind ∧ (told v).f1 = v.num by rw [TO.out]; exact ⟨rfl, rfl⟩)
      clear hlt hi hn2
      go_wp2
      refine bodyPost_ret (results_cell_row rfl _ _ w.heap.size 36 #[.int .i64 v.kind, .int .i64 v.num, .slice Av ks.length cv] (0, 0) _ rfl (by exact put3_ Td.out) Tryd.underlying36 rfl (by kernel_rfl)) rfl ?_
      have hR := Kd.R_mono (ok' := fun _ => True) (Kd.R_far (p := ⟨w.heap.size, 2, none⟩) (Kd.R_far (p := ⟨w.heap.size, 1, none⟩) (Kd.R_far (p := ⟨w.heap.size, 0, none⟩) HO.out (fun k hk => hk.1) (.int .i64 v.kind)) (fun k hk => hk.1) (.int .i64 v.num)) (fun k hk => hk.1) (.slice Av ks.length cv)) (fun _ _ => trivial)
      refine ⟨.slice Av ks.length cv, by rw [KO.out.1, KO.out.2], ?_, below_set (below_set (below_set Bd.out (Nat.le_refl _)) (Nat.le_refl _)) (Nat.le_refl _)⟩
      rw [← KF.out]
      exact hR
theorem told27 : ∀ v : V, Told v
  | .int n => told_step _ (fun x hx => by simp [kidsV] at hx)
  | .fn t e => told_step _ (fun x hx => by simp [kidsV] at hx)
  | .pair a b => told_step _ (fun x hx => by
    have hx : x = a ∨ x = b := by simpa [kidsV] using hx
    exact hx.elim (fun h => h ▸ told27 a) (fun h => h ▸ told27 b))
end Go.Proofs.YtnecmclnokikoaaDoor.Run
