/- Several texts in one. -/
import Derived.Shelf.Strings.Builder1
import Derived.Shelf.Strings.Builder2
import Derived.Shelf.Strings.OnBuilder
import Derived.Shelf.Strconv.Itoa0
import Derived.Shelf.Strconv.Itoa1
import Derived.Shelf.LaysM
import Derived.Shelf.Strconv.Itoa2
import Derived.Shelf.Strconv.Itoa3
import Derived.Test.YtkkmgahgejjhgaaDoorProg
import Derived.Test.YtkkmgahgejjhgaaDoorCPx0
import Derived.Test.YtkkmgahgejjhgaaDoorCHandA
import Derived.Test.YtkkmgahgejjhgaaDoorCHandT
import Derived.ScopeJumps
import Derived.WalkMore
import Derived.Test.YtkkmgahgejjhgaaDoorCPx1
import Derived.Test.YtkkmgahgejjhgaaDoorCPx4
import Derived.Test.YtkkmgahgejjhgaaDoorCPx9
import Derived.Test.YtkkmgahgejjhgaaDoorCMod
import Derived.Test.YtkkmgahgejjhgaaDoorCPx2
import Derived.Test.YtkkmgahgejjhgaaDoorCCheckF
import Derived.Test.YtkkmgahgejjhgaaDoorCPx8
import Derived.Test.YtkkmgahgejjhgaaDoorCPx7
/-
  DERIVED: THE SHELF's CONTRACTS AT THIS DUMP, IN PLAIN WORDS (tools/lay-plain.mjs out of 'TrydShelf.lean', which tools/lay-shelf.mjs wrote): THE SAME DECLARATIONS UNDER THE SAME NAMES: 'import', 'namespace', 'open', 'def', 'theorem' AND NOTHING ELSE: no command of the shelf's: FOR A HAND-IN. Each laying: the table of numbers ('.._ren') and one theorem, a field a fact of the dump's own or the kernel's comparison; each contract: ONE APPLICATION.
-/
namespace Go.Proofs
open Go.Shelf
def Tryd.lays156_ren : Go.Shelf.Ren := ⟨fun | 156 => 34 | 165 => 45 | 166 => 46 | 169 => 47 | 240 => 59 | 241 => 60 | 276 => 71 | 277 => 72 | n => n, fun | 31 => 27 | 9 => 9 | 3 => 3 | 4 => 4 | 0 => 0 | 20 => 20 | 72 => 81 | 76 => 85 | 70 => 79 | 37 => 25 | 75 => 84 | 127 => 93 | 164 => 101 | 5 => 5 | 80 => 87 | n => n, fun | n => n⟩
theorem Tryd.lays156 : Go.Proofs.Lays.n156 Tryd.prog Tryd.lays156_ren := {
  mixed := by kernel_rfl
  f156 := Tryd.func34.trans (congrArg some (by kernel_rfl))
  f165 := Tryd.func45.trans (congrArg some (by kernel_rfl))
  f166 := Tryd.func46.trans (congrArg some (by kernel_rfl))
  f169 := Tryd.func47.trans (congrArg some (by kernel_rfl))
  f240 := Tryd.func59.trans (congrArg some (by kernel_rfl))
  f241 := Tryd.func60.trans (congrArg some (by kernel_rfl))
  f276 := Tryd.func71.trans (congrArg some (by kernel_rfl))
  f277 := Tryd.func72.trans (congrArg some (by kernel_rfl))
  t0 := Tryd.underlying0
  a0 := Tryd.isAgg0
  z0 := Tryd.sizeOf0
  v0 := Tryd.zeroValue0
  t3 := Tryd.underlying3
  a3 := Tryd.isAgg3
  z3 := Tryd.sizeOf3
  v3 := Tryd.zeroValue3
  t4 := Tryd.underlying4
  a4 := Tryd.isAgg4
  z4 := Tryd.sizeOf4
  v4 := Tryd.zeroValue4
  t9 := Tryd.underlying9
  a9 := Tryd.isAgg9
  z9 := Tryd.sizeOf9
  v9 := Tryd.zeroValue9
  t20 := Tryd.underlying20
  a20 := Tryd.isAgg20
  z20 := Tryd.sizeOf20
  v20 := Tryd.zeroValue20
  t31 := Tryd.underlying27
  a31 := Tryd.isAgg27
  z31 := Tryd.sizeOf27
  v31 := Tryd.zeroValue27
  t37 := Tryd.underlying25
  a37 := Tryd.isAgg25
  z37 := Tryd.sizeOf25
  v37 := Tryd.zeroValue25
  t70 := Tryd.underlying79
  a70 := Tryd.isAgg79
  z70 := Tryd.sizeOf79
  v70 := Tryd.zeroValue79
  t72 := Tryd.underlying81
  a72 := Tryd.isAgg81
  z72 := Tryd.sizeOf81
  v72 := Tryd.zeroValue81
  t75 := Tryd.underlying84
  a75 := Tryd.isAgg84
  z75 := Tryd.sizeOf84
  v75 := Tryd.zeroValue84
  t76 := Tryd.underlying85
  a76 := Tryd.isAgg85
  z76 := Tryd.sizeOf85
  v76 := Tryd.zeroValue85
  t127 := Tryd.underlying93
  a127 := Tryd.isAgg93
  z127 := Tryd.sizeOf93
  v127 := Tryd.zeroValue93
  t164 := Tryd.underlying101
  a164 := Tryd.isAgg101
  z164 := Tryd.sizeOf101
  v164 := Tryd.zeroValue101 }
theorem Tryd.Builder_Extra_156 : Builder.Extra Tryd.prog Tryd.lays156_ren := {
  sizeBuilder := by kernel_rfl
  liesBuilder := by kernel_rfl
  t5 := Tryd.underlying5
  a5 := Tryd.isAgg5
  z5 := Tryd.sizeOf5
  v5 := Tryd.zeroValue5
  infoByte := by kernel_rfl
  cellsByte := by kernel_rfl
  sizeByte := by kernel_rfl
  neB5 := by decide }
open Go.RowKit in
/-- No element: the empty string; the world is as it was. (Whatever the slice's address and capacity: a nil slice too.) (LAID: no walk: one application.) -/
theorem Tryd.strings_Join_none (a : Option Addr) (c : Nat) (sep : ByteArray) (w : World) :
    Calls Tryd.prog 34 #[.slice a 0 c, .string sep] w fun e w' => e = .returned (.string ⟨#[]⟩) ∧ w' = w := Any.strings_Join_none Tryd.lays156 Tryd.Builder_Extra_156 a c sep w
open Go.RowKit in
/-- strings.Join: "Join concatenates the elements of its first argument to create a single string. The separator string sep is placed between elements in the resulting string.": HOWEVER MANY ELEMENTS. Below the heap's end the world is as it was. (LAID: no walk: one application.) -/
theorem Tryd.strings_Join (bk o c : Nat) (xs : List ByteArray) (sep : ByteArray) (w : World) (hcells : ∀ (j : Nat) x, xs[j]? = some x → w.cell? ⟨bk, o + j, none⟩ = some (.string x)) (hbk : bk < w.heap.size) (hN : xs.length ≤ 140737488355328) (hcap : xs.length ≤ c) (hlen : (Lib.join (xs.map (·.data.toList)) sep.data.toList).length ≤ 140737488355328) :
    Calls Tryd.prog 34 #[.slice (some ⟨bk, o, none⟩) xs.length c, .string sep] w fun e w' => e = .returned (.string ⟨(Lib.join (xs.map (·.data.toList)) sep.data.toList).toArray⟩) ∧ Below w.heap.size w w' := Any.strings_Join Tryd.lays156 Tryd.Builder_Extra_156 bk o c xs sep w hcells hbk hN hcap hlen
def Tryd.laysM171_ren : Go.Shelf.Ren := ⟨fun | 171 => 33 | 243 => 44 | 246 => 58 | 283 => 67 | 284 => 68 | 285 => 69 | 286 => 70 | 129 => 76 | 317 => 75 | 318 => 77 | 319 => 78 | 320 => 79 | 337 => 80 | 338 => 81 | n => n, fun | 3 => 3 | 9 => 9 | 2 => 2 | 4 => 4 | 171 => 96 | 0 => 0 | 53 => 91 | 37 => 25 | 5 => 5 | 173 => 99 | 212 => 107 | 51 => 108 | 20 => 20 | 213 => 109 | 46 => 110 | 232 => 113 | 233 => 114 | n => n, fun | 17 => 0 | 18 => 2 | 19 => 3 | n => n⟩
theorem Tryd.laysM171 : Go.Proofs.LaysM.n171 Tryd.prog Tryd.laysM171_ren := {
  mixed := by kernel_rfl
  f129 := Tryd.func76.trans (congrArg some (by kernel_rfl))
  f171 := Tryd.func33.trans (congrArg some (by kernel_rfl))
  f243 := Tryd.func44.trans (congrArg some (by kernel_rfl))
  f246 := Tryd.func58.trans (congrArg some (by kernel_rfl))
  f283 := Tryd.func67.trans (congrArg some (by kernel_rfl))
  f284 := Tryd.func68.trans (congrArg some (by kernel_rfl))
  f285 := Tryd.func69.trans (congrArg some (by kernel_rfl))
  f286 := Tryd.func70.trans (congrArg some (by kernel_rfl))
  f317 := Tryd.func75.trans (congrArg some (by kernel_rfl))
  f318 := Tryd.func77.trans (congrArg some (by kernel_rfl))
  f319 := Tryd.func78.trans (congrArg some (by kernel_rfl))
  f320 := Tryd.func79.trans (congrArg some (by kernel_rfl))
  f337 := Tryd.func80.trans (congrArg some (by kernel_rfl))
  f338 := Tryd.func81.trans (congrArg some (by kernel_rfl))
  t0 := Tryd.underlying0
  a0 := Tryd.isAgg0
  z0 := Tryd.sizeOf0
  v0 := Tryd.zeroValue0
  t2 := Tryd.underlying2
  a2 := Tryd.isAgg2
  z2 := Tryd.sizeOf2
  v2 := Tryd.zeroValue2
  t3 := Tryd.underlying3
  a3 := Tryd.isAgg3
  z3 := Tryd.sizeOf3
  v3 := Tryd.zeroValue3
  t4 := Tryd.underlying4
  a4 := Tryd.isAgg4
  z4 := Tryd.sizeOf4
  v4 := Tryd.zeroValue4
  t5 := Tryd.underlying5
  a5 := Tryd.isAgg5
  z5 := Tryd.sizeOf5
  v5 := Tryd.zeroValue5
  t9 := Tryd.underlying9
  a9 := Tryd.isAgg9
  z9 := Tryd.sizeOf9
  v9 := Tryd.zeroValue9
  t20 := Tryd.underlying20
  a20 := Tryd.isAgg20
  z20 := Tryd.sizeOf20
  v20 := Tryd.zeroValue20
  t37 := Tryd.underlying25
  a37 := Tryd.isAgg25
  z37 := Tryd.sizeOf25
  v37 := Tryd.zeroValue25
  t46 := Tryd.underlying110
  a46 := Tryd.isAgg110
  z46 := Tryd.sizeOf110
  v46 := Tryd.zeroValue110
  t51 := Tryd.underlying108
  a51 := Tryd.isAgg108
  z51 := Tryd.sizeOf108
  v51 := Tryd.zeroValue108
  t53 := Tryd.underlying91
  a53 := Tryd.isAgg91
  z53 := Tryd.sizeOf91
  v53 := Tryd.zeroValue91
  t171 := Tryd.underlying96
  a171 := Tryd.isAgg96
  z171 := Tryd.sizeOf96
  v171 := Tryd.zeroValue96
  t173 := Tryd.underlying99
  a173 := Tryd.isAgg99
  z173 := Tryd.sizeOf99
  v173 := Tryd.zeroValue99
  t212 := Tryd.underlying107
  a212 := Tryd.isAgg107
  z212 := Tryd.sizeOf107
  v212 := Tryd.zeroValue107
  t213 := Tryd.underlying109
  a213 := Tryd.isAgg109
  z213 := Tryd.sizeOf109
  t232 := Tryd.underlying113
  a232 := Tryd.isAgg113
  z232 := Tryd.sizeOf113
  v232 := Tryd.zeroValue113
  t233 := Tryd.underlying114
  a233 := Tryd.isAgg114
  z233 := Tryd.sizeOf114
  v233 := Tryd.zeroValue114
  g17 := by kernel_rfl
  g18 := by kernel_rfl
  g19 := by kernel_rfl
  i0 := by kernel_rfl
  i2 := by kernel_rfl
  i3 := by kernel_rfl
  i4 := by kernel_rfl
  i5 := by kernel_rfl
  i9 := by kernel_rfl
  i20 := by kernel_rfl
  i37 := by kernel_rfl
  i46 := by kernel_rfl
  i51 := by kernel_rfl
  i53 := by kernel_rfl
  i171 := by kernel_rfl
  i173 := by kernel_rfl
  i212 := by kernel_rfl
  i232 := by kernel_rfl
  i233 := by kernel_rfl
  m17 := by kernel_rfl
  m18 := by kernel_rfl
  m19 := by kernel_rfl }
open Go.RowKit Go.Sort Go.Lib in
/-- strconv.Itoa: "Itoa is equivalent to FormatInt(int64(i), 10).": i's DECIMAL NUMERAL ('Lib.itoa': a '-' where i is negative, then the digits), FOR EVERY int. The world behind the call: the world before it, new blocks behind the heap (the library's 'var a [24]byte'), draws. (LAID: no walk: one application.) -/
theorem Tryd.strconv_Itoa (n : Int) (h0 : -9223372036854775808 ≤ n) (h1 : n ≤ 9223372036854775807) (w : World) (htab : Lib.TabIs Tryd.prog w "internal/strconv.uint64pow10" .u64 Lib.pow10Tab) :
    Calls Tryd.prog 33 #[.int .i64 n] w fun e w' => e = .returned (.string ⟨(Lib.itoa n).toArray⟩) ∧ ∃ k os, w' = grow (w.drewN k) os := Any.strconv_Itoa Tryd.laysM171 n h0 h1 w htab
end Go.Proofs
/- Go's library: strconv.Itoa (its table stands: TabP), strings.Join; in the print's form. -/
namespace Go.Proofs.YtkkmgahgejjhgaaDoor.P
open Go.RowKit Go.Proofs.YtkkmgahgejjhgaaDoorW.PrintWords Go.Proofs.YtkkmgahgejjhgaaDoorW.PrintLast Go.Proofs.YtkkmgahgejjhgaaDoorW.PrintMore
set_option linter.unusedVariables false
/-- strconv's table of powers of ten holds what it was laid with. -/
def TabP (w : World) : Prop := Lib.TabIs Tryd.prog w "internal/strconv.uint64pow10" .u64 Lib.pow10Tab
theorem TabP.below {w w' : World} (h : TabP w) (hb : Below w.heap.size w w') : TabP w' := by
  obtain ⟨g, hg⟩ : ∃ g, Tryd.prog.globalNamed "internal/strconv.uint64pow10" = some g := by
    unfold TabP Lib.TabIs World.var? at h
    cases hg : Tryd.prog.globalNamed "internal/strconv.uint64pow10" with
    | none => rw [hg] at h; cases h
    | some g => exact ⟨g, rfl⟩
  unfold TabP Lib.TabIs World.var? at h ⊢
  rw [hg, Option.bind_some] at h ⊢
  have hlt : g < w.heap.size := Decidable.byContradiction fun hn => by
    rw [Array.getElem?_eq_none (Nat.le_of_not_lt hn)] at h
    cases h
  rw [hb.block g hlt]
  exact h
def strconv_Itoa.f (a0 : Int) : Option ByteArray := if -9223372036854775808 ≤ a0 ∧ a0 ≤ 9223372036854775807 then some ⟨(Lib.itoa a0).toArray⟩ else none
theorem strconv_Itoa.calls (a0 : Int) (r : ByteArray) (w : World) (hT : TabP w) (h : strconv_Itoa.f a0 = some r) :
    Calls Tryd.prog 33 #[.int .i64 a0] w fun e w' => e = .returned (.string r) ∧ Below w.heap.size w w' := by
  unfold strconv_Itoa.f at h
  by_cases h1 : -9223372036854775808 ≤ a0 ∧ a0 ≤ 9223372036854775807
  · rw [if_pos h1] at h
    cases Option.some.inj h
    refine (Tryd.strconv_Itoa a0 h1.1 h1.2 w hT).mono ?_
    rintro e w' ⟨rfl, k, os, rfl⟩
    exact ⟨rfl, rfl, rfl, rfl, (by show w.heap.size ≤ (w.heap ++ os).size; rw [Array.size_append]; omega), fun j hj => (show (w.heap ++ os)[j]? = w.heap[j]? from Array.getElem?_append_left hj)⟩
  · rw [if_neg h1] at h
    cases h
def strings_Join.f (l : List ByteArray) (sep : ByteArray) : Option ByteArray :=
  if l.length ≤ 140737488355328 ∧ (Lib.join (l.map (·.data.toList)) sep.data.toList).length ≤ 140737488355328 then some ⟨(Lib.join (l.map (·.data.toList)) sep.data.toList).toArray⟩ else none
theorem strings_Join.calls (A : Option Addr) (c : Nat) (l : List ByteArray) (sep : ByteArray) (r : ByteArray) (w : World) (hr : Kd.C Kd.string w A l.length l) (hc : l.length ≤ c) (h : strings_Join.f l sep = some r) :
    Calls Tryd.prog 34 #[.slice A l.length c, .string sep] w fun e w' => e = .returned (.string r) ∧ Below w.heap.size w w' := by
  unfold strings_Join.f at h
  by_cases h1 : l.length ≤ 140737488355328 ∧ (Lib.join (l.map (·.data.toList)) sep.data.toList).length ≤ 140737488355328
  · rw [if_pos h1] at h
    cases Option.some.inj h
    by_cases hl : l.length = 0
    · have hn : l = [] := List.eq_nil_of_length_eq_zero hl
      subst hn
      refine (Tryd.strings_Join_none A c sep w).mono ?_
      rintro e w' ⟨rfl, rfl⟩
      exact ⟨rfl, Below.refl _ _⟩
    · obtain ⟨⟨bk, o, q⟩, rfl, h0⟩ := Kd.at_string hr 0 (by decide) (by omega)
      have hq : q = none := by
        cases q with
        | none => rfl
        | some s =>
          exfalso
          have h2 : w.cell? ⟨bk, o, some s⟩ = some (.string (rdOf ByteArray.empty l 0)) := h0
          unfold World.cell? at h2
          split at h2
          · simp at h2
          · cases h2
      subst hq
      refine Tryd.strings_Join bk o c l sep w (fun j x hx => ?_) ?_ h1.1 hc h1.2
      · have hj : j < l.length := (List.getElem?_eq_some_iff.mp hx).1
        obtain ⟨ad, he, hj2⟩ := Kd.at_string hr (j : Int) (by omega) (by omega)
        cases he
        have hv : rdOf ByteArray.empty l (j : Int) = x := by
          show l.getD (j : Int).toNat ByteArray.empty = x
          rw [Int.toNat_natCast, List.getD_eq_getElem?_getD, hx]
          rfl
        rw [hv, Int.toNat_natCast] at hj2
        unfold Addr.add at hj2
        by_cases hz : j = 0
        · subst hz
          exact hj2
        · rw [if_neg hz] at hj2
          exact hj2
      · exact World.block_lt_of_cell? w _ h0
  · rw [if_neg h1] at h
    cases h
end Go.Proofs.YtkkmgahgejjhgaaDoor.P
/- forms.Text of any form: strconv.Itoa's table stands (TabP), and stands in every later world. Printed by mkprint.py, turned by gentextF.py. -/
namespace Go.Proofs.YtkkmgahgejjhgaaDoor.P
open Go.RowKit Go.Proofs.YtkkmgahgejjhgaaDoorW.PrintWords Go.Proofs.YtkkmgahgejjhgaaDoorW.PrintLast Go.Proofs.YtkkmgahgejjhgaaDoorW.PrintMore
attribute [local go_sem] max2_int min2_int max_two min_two max_three min_three max_four min_four
set_option linter.unusedVariables false
set_option linter.unusedSimpArgs false
/-! ### forms_Text: function 19 -/
mutual
def forms_Text.l0 : Nat → List ByteArray → List (S42) → Int → Int → Option (ByteArray)
  | 0, _, _, _, _ => none
  | k + 1, x3, x18, x19, x20 => if x20 < x19 then (if 0 ≤ x20 then (if x20 < (x18.length : Int) then ((forms_Text.f k ((rd_T42 x18 x20).f0) ((rd_T42 x18 x20).f1) ((rd_T42 x18 x20).f2) ((rd_T42 x18 x20).f3)).bind fun t105 => (if x3.length < 8796093022208 then (forms_Text.l0 k (x3 ++ [t105]) x18 x19 (wrap64 (x20 + 1))) else (none))) else (none)) else (none)) else ((strings_Join.f x3 (⟨#[32]⟩ : ByteArray)).bind fun t109 => (if 1 + t109.size ≤ 9223372036854775807 then (if ((⟨#[40]⟩ : ByteArray) ++ t109).size + 1 ≤ 9223372036854775807 then (some (((⟨#[40]⟩ : ByteArray) ++ t109) ++ (⟨#[41]⟩ : ByteArray))) else (none)) else (none)))
def forms_Text.f : Nat → Int → Int → ByteArray → List (S42) → Option (ByteArray)
  | 0, _, _, _, _ => none
  | k + 1, a0_0, a0_1, a0_2, l0_3 => if a0_0 = 1 then (some a0_2) else (if a0_0 = 2 then ((strconv_Itoa.f a0_1).bind fun t102 => (some t102)) else (forms_Text.l0 k ([] : List ByteArray) l0_3 (l0_3.length : Int) 0))
end
set_option maxHeartbeats 8000000 in
set_option maxRecDepth 100000 in
theorem forms_Text.calls (k : Nat) : ∀ (a0_0 : Int) (a0_1 : Int) (a0_2 : ByteArray) (A0_3 : Option Addr) (c0_3 : Nat) (l0_3 : List (S42)) (r : ByteArray) (w : World) (hT : TabP w) (hr0_3 : Kd.C k42 w A0_3 l0_3.length l0_3) (hc0_3 : l0_3.length ≤ c0_3) (h : forms_Text.f k a0_0 a0_1 a0_2 l0_3 = some r),
    Calls Tryd.prog 19 #[.agg #[.int .i64 a0_0, .int .i64 a0_1, .string a0_2, .slice A0_3 l0_3.length c0_3]] w fun e w' => e = .returned (.string r) ∧ Below w.heap.size w w' := by
  induction k using Nat.strongRecOn with
  | _ k ih =>
  intro a0_0 a0_1 a0_2 A0_3 c0_3 l0_3 r w hT hr0_3 hc0_3 h
  cases k with
  | zero => exact absurd h (by simp [forms_Text.f])
  | succ k =>
  simp only [forms_Text.f] at h
  have HTB := Aside0.mk hT
  clear hT
  have hu42 := Tryd.underlying42
  have HR0_3 := Aside0.mk hr0_3
  have HC0_3 := Aside0.mk hc0_3
  clear hr0_3 hc0_3
  have HB := Aside0.mk (Below.refl w.heap.size w)
  have H : (if a0_0 = 1 then (some a0_2) else (if a0_0 = 2 then ((strconv_Itoa.f a0_1).bind fun t102 => (some t102)) else (forms_Text.l0 k ([] : List ByteArray) l0_3 (l0_3.length : Int) 0))) = some r := h
  clear h
  by_cases c2 : a0_0 = 1
  · rw [if_pos c2] at H
    have c2b0 : (a0_0 == 1) = true := beq_iff_eq.mpr c2
    have c2b1 : (a0_0 != 1) = false := bne_eq_false_iff_eq.mpr c2
    clear c2
    obtain rfl := Option.some.inj H
    go_enter Tryd.func19, Tryd.ntmps19
    go_wp2_with (first | ((with_reducible refine gate_dst (N := 1) rfl ?_); refine box_event ?hg (N := 1) ?hd (cs := #[.int .i64 a0_0, .int .i64 a0_1, .string a0_2, .slice A0_3 l0_3.length c0_3]) (t := 42) ?hr ?_; (case hd => rfl); (case hg => rfl); (case hr => first | (go_simp; done) | (go_simp; rfl)); intro gb101 hg w3 hbox hb; have n0_ := Aside0.mk (below_step (by repeat (first | (with_reducible first | exact HB.out | apply below_alloc | apply pw_below_drewN | apply below_drew1) | exact HB.out)) hb); have n1_ := Aside0.mk (hbox); have n2_ := Aside0.mk ((by rw [hg]; exact (below_size (by repeat (first | (with_reducible first | exact HB.out | apply below_alloc | apply pw_below_drewN | apply below_drew1) | exact HB.out))) : w.heap.size ≤ gb101)); have n3_ := Aside0.mk ((by rw [hg]; exact (below_size (by repeat (first | (with_reducible first | exact HB.out | apply below_alloc | apply pw_below_drewN | apply below_drew1) | exact HB.out))) : w.heap.size ≤ gb101)); clear HB; have HB := n0_; have BK101 := n1_; have GW101 := n2_; have GE101 := n3_; clear n0_ n1_ n2_ n3_; clear hb hbox hg; have hcz4_0 : w3.cell? ⟨gb101, 0, none⟩ = some (.int .i64 a0_0) := (blk_cell BK101.out 0).trans rfl; have hcz4_1 : w3.cell? ⟨gb101, 1, none⟩ = some (.int .i64 a0_1) := (blk_cell BK101.out 1).trans rfl; have hcz4_2 : w3.cell? ⟨gb101, 2, none⟩ = some (.string a0_2) := (blk_cell BK101.out 2).trans rfl; have hcz4_3 : w3.cell? ⟨gb101, 3, none⟩ = some (.slice A0_3 l0_3.length c0_3) := (blk_cell BK101.out 3).trans rfl; have hfz4_0 := blk_frozen BK101.out 0; have hfz4_1 := blk_frozen BK101.out 1; have hfz4_2 := blk_frozen BK101.out 2; have hfz4_3 := blk_frozen BK101.out 3))
    go_ret
    exact ⟨by first | rfl | (simp [errW_none, errW_some] <;> rfl) | (simp [*, errW_none, errW_some] <;> rfl), by repeat (first | (with_reducible first | exact HB.out | apply below_alloc | apply pw_below_drewN | apply below_drew1 | refine below_set ?_ GE101.out) | exact HB.out)⟩
  · rw [if_neg c2] at H
    have c2b0 : (a0_0 == 1) = false := beq_eq_false_iff_ne.mpr c2
    have c2b1 : (a0_0 != 1) = true := bne_iff_ne.mpr c2
    by_cases c5 : a0_0 = 2
    · rw [if_pos c5] at H
      have c5b0 : (a0_0 == 2) = true := beq_iff_eq.mpr c5
      have c5b1 : (a0_0 != 2) = false := bne_eq_false_iff_eq.mpr c5
      clear c5
      replace H := Option.bind_eq_some_iff.mp H
      obtain ⟨t102, A60, H⟩ := H
      replace H : (some t102) = some r := H
      have A6 := Aside0.mk A60
      clear A60
      obtain rfl := Option.some.inj H
      go_enter Tryd.func19, Tryd.ntmps19
      go_wp2_with (first | ((with_reducible refine gate_dst (N := 1) rfl ?_); refine box_event ?hg (N := 1) ?hd (cs := #[.int .i64 a0_0, .int .i64 a0_1, .string a0_2, .slice A0_3 l0_3.length c0_3]) (t := 42) ?hr ?_; (case hd => rfl); (case hg => rfl); (case hr => first | (go_simp; done) | (go_simp; rfl)); intro gb101 hg w7 hbox hb; have n0_ := Aside0.mk (below_step (by repeat (first | (with_reducible first | exact HB.out | apply below_alloc | apply pw_below_drewN | apply below_drew1) | exact HB.out)) hb); have n1_ := Aside0.mk (hbox); have n2_ := Aside0.mk ((by rw [hg]; exact (below_size (by repeat (first | (with_reducible first | exact HB.out | apply below_alloc | apply pw_below_drewN | apply below_drew1) | exact HB.out))) : w.heap.size ≤ gb101)); have n3_ := Aside0.mk ((by rw [hg]; exact (below_size (by repeat (first | (with_reducible first | exact HB.out | apply below_alloc | apply pw_below_drewN | apply below_drew1) | exact HB.out))) : w.heap.size ≤ gb101)); clear HB; have HB := n0_; have BK101 := n1_; have GW101 := n2_; have GE101 := n3_; clear n0_ n1_ n2_ n3_; clear hb hbox hg; have hcz8_0 : w7.cell? ⟨gb101, 0, none⟩ = some (.int .i64 a0_0) := (blk_cell BK101.out 0).trans rfl; have hcz8_1 : w7.cell? ⟨gb101, 1, none⟩ = some (.int .i64 a0_1) := (blk_cell BK101.out 1).trans rfl; have hcz8_2 : w7.cell? ⟨gb101, 2, none⟩ = some (.string a0_2) := (blk_cell BK101.out 2).trans rfl; have hcz8_3 : w7.cell? ⟨gb101, 3, none⟩ = some (.slice A0_3 l0_3.length c0_3) := (blk_cell BK101.out 3).trans rfl; have hfz8_0 := blk_frozen BK101.out 0; have hfz8_1 := blk_frozen BK101.out 1; have hfz8_2 := blk_frozen BK101.out 2; have hfz8_3 := blk_frozen BK101.out 3) | ((with_reducible refine gate_callee (f := 33) rfl ?_); refine goesL_ (some 16) rfl rfl Tryd.func33 (by kernel_rfl) rfl #[.int .i64 a0_1] rfl (by (try simp only [List.map_toArray, List.map_cons, List.map_nil]); first | done | rfl | (simp only [List.length_drop, List.length_take]; rfl)) ?_; (with_reducible refine (strconv_Itoa.calls a0_1 t102 _ ?sideT A6.out).mono ?_); (case sideT => exact TabP.below HTB.out (by repeat (first | (with_reducible first | exact HB.out | apply below_alloc | apply pw_below_drewN | apply below_drew1 | refine below_set ?_ GE101.out | refine below_set ?_ GE104.out) | exact HB.out))); rintro e w9 ⟨rfl, hb⟩; refine ⟨_, rfl, ?_⟩; have n0_ := Aside0.mk (blk_below (g := gb101) (o := .cells #[.int .i64 a0_0, .int .i64 a0_1, .string a0_2, .slice A0_3 l0_3.length c0_3] 42 (0, 0)) (by (with_reducible repeat (first | refine blk_drewN ?_ _ | refine blk_drew ?_ | refine blk_alloc ?_ _)); exact BK101.out) hb); have n1_ := Aside0.mk (below_step (by repeat (first | (with_reducible first | exact HB.out | apply below_alloc | apply pw_below_drewN | apply below_drew1 | refine below_set ?_ GE101.out) | exact HB.out)) hb); clear BK101; clear HB; have BK101 := n0_; have HB := n1_; clear n0_ n1_; (try clear hb); (try clear hb2); (try clear hk); (try clear hi)))
      go_ret
      exact ⟨by first | rfl | (simp [errW_none, errW_some] <;> rfl) | (simp [*, errW_none, errW_some] <;> rfl), by repeat (first | (with_reducible first | exact HB.out | apply below_alloc | apply pw_below_drewN | apply below_drew1 | refine below_set ?_ GE101.out) | exact HB.out)⟩
    · rw [if_neg c5] at H
      have c5b0 : (a0_0 == 2) = false := beq_eq_false_iff_ne.mpr c5
      have c5b1 : (a0_0 != 2) = true := bne_iff_ne.mpr c5
      have H' := Aside0.mk H
      clear H
      go_enter Tryd.func19, Tryd.ntmps19
      go_wp2_with (first | ((with_reducible refine gate_dst (N := 1) rfl ?_); refine box_event ?hg (N := 1) ?hd (cs := #[.int .i64 a0_0, .int .i64 a0_1, .string a0_2, .slice A0_3 l0_3.length c0_3]) (t := 42) ?hr ?_; (case hd => rfl); (case hg => rfl); (case hr => first | (go_simp; done) | (go_simp; rfl)); intro gb101 hg w10 hbox hb; have n0_ := Aside0.mk (below_step (by repeat (first | (with_reducible first | exact HB.out | apply below_alloc | apply pw_below_drewN | apply below_drew1) | exact HB.out)) hb); have n1_ := Aside0.mk (hbox); have n2_ := Aside0.mk ((by rw [hg]; exact (below_size (by repeat (first | (with_reducible first | exact HB.out | apply below_alloc | apply pw_below_drewN | apply below_drew1) | exact HB.out))) : w.heap.size ≤ gb101)); have n3_ := Aside0.mk ((by rw [hg]; exact (below_size (by repeat (first | (with_reducible first | exact HB.out | apply below_alloc | apply pw_below_drewN | apply below_drew1) | exact HB.out))) : w.heap.size ≤ gb101)); clear HB; have HB := n0_; have BK101 := n1_; have GW101 := n2_; have GE101 := n3_; clear n0_ n1_ n2_ n3_; clear hb hbox hg; have hcz11_0 : w10.cell? ⟨gb101, 0, none⟩ = some (.int .i64 a0_0) := (blk_cell BK101.out 0).trans rfl; have hcz11_1 : w10.cell? ⟨gb101, 1, none⟩ = some (.int .i64 a0_1) := (blk_cell BK101.out 1).trans rfl; have hcz11_2 : w10.cell? ⟨gb101, 2, none⟩ = some (.string a0_2) := (blk_cell BK101.out 2).trans rfl; have hcz11_3 : w10.cell? ⟨gb101, 3, none⟩ = some (.slice A0_3 l0_3.length c0_3) := (blk_cell BK101.out 3).trans rfl; have hfz11_0 := blk_frozen BK101.out 0; have hfz11_1 := blk_frozen BK101.out 1; have hfz11_2 := blk_frozen BK101.out 2; have hfz11_3 := blk_frozen BK101.out 3))
      go_loopg [3, 20] k (fun kq v3 v20 w' => ∃ (x3_1 : List ByteArray) (x20_1 : Int), v20 = .int .i64 x20_1 ∧ Aside0 (forms_Text.l0 kq x3_1 l0_3 (l0_3.length : Int) x20_1 = some r) ∧ Aside0 (kq ≤ k) ∧ Aside0 (Kd.R Kd.string 9 w' w.heap.size (fun _ => True) v3 x3_1) ∧ Aside0 (w'.heap[gb101]? = some (.cells #[.int .i64 a0_0, .int .i64 a0_1, .string a0_2, (.slice A0_3 l0_3.length c0_3)] 42 (0, 0))) ∧ Aside0 (Below w.heap.size w w'))
      case atStart => exact ⟨(([] : List ByteArray)), (0), (by first | rfl | (simp; done) | (simp [*]; done)), H', ⟨Nat.le_refl _⟩, ⟨by first | exact Kd.R_nil _ _ _ _ _ | exact Kd.N_nil _ _ _ _ _ | exact Kd.V_nil _ _ _ _ _ | exact Kd.Q_nil _ _ _ _ _ | exact Kd.S_nil _ _ _ _ _⟩, ⟨by (with_reducible repeat (first | refine blk_drewN ?_ _ | refine blk_drew ?_ | refine blk_alloc ?_ _)); exact BK101.out⟩, ⟨by repeat (first | (with_reducible first | exact HB.out | apply below_alloc | apply pw_below_drewN | apply below_drew1 | refine below_set ?_ GE101.out) | exact HB.out)⟩⟩
      case round =>
        clear H'
        try clear c1
        try clear c2
        try clear c2b0
        try clear c2b1
        try clear p2
        try clear c3
        try clear c5
        try clear c5b0
        try clear c5b1
        try clear hcz11_0
        try clear hcz11_1
        try clear hcz11_2
        try clear hcz11_3
        try clear hcz4_0
        try clear hcz4_1
        try clear hcz4_2
        try clear hcz4_3
        try clear hcz8_0
        try clear hcz8_1
        try clear hcz8_2
        try clear hcz8_3
        try clear hfz11_0
        try clear hfz11_1
        try clear hfz11_2
        try clear hfz11_3
        try clear hfz4_0
        try clear hfz4_1
        try clear hfz4_2
        try clear hfz4_3
        try clear hfz8_0
        try clear hfz8_1
        try clear hfz8_2
        try clear hfz8_3
        try clear HO_3
        try clear BK101
        try clear HB
        obtain ⟨x3_1, x20_1, rfl, HA, HK1, HO_3, BK101, HB⟩ := hrel
        cases gk with
        | zero => exact absurd HA.out (by simp [forms_Text.l0])
        | succ k1 =>
          have H := HA.out
          clear HA
          simp only [forms_Text.l0] at H
          by_cases c12 : x20_1 < (l0_3.length : Int)
          · rw [if_pos c12] at H
            have c12b0 : decide (x20_1 < (l0_3.length : Int)) = true := decide_eq_true c12
            clear c12
            by_cases c13 : 0 ≤ x20_1
            · rw [if_pos c13] at H
              have c13b0 : decide (0 ≤ x20_1) = true := decide_eq_true c13
              clear c13
              by_cases c14 : x20_1 < (l0_3.length : Int)
              · rw [if_pos c14] at H
                have c14b0 : decide (x20_1 < (l0_3.length : Int)) = true := decide_eq_true c14
                clear c14
                replace H := Option.bind_eq_some_iff.mp H
                obtain ⟨t105, A150, H⟩ := H
                replace H : (if x3_1.length < 8796093022208 then (forms_Text.l0 k1 (x3_1 ++ [t105]) l0_3 (l0_3.length : Int) (wrap64 (x20_1 + 1))) else (none)) = some r := H
                have A15 := Aside0.mk A150
                clear A150
                by_cases c16 : x3_1.length < 8796093022208
                · rw [if_pos c16] at H
                  have LMc16 := Aside0.mk c16
                  clear c16
                  obtain ⟨y106, hy106⟩ : ∃ y_ : List ByteArray, y_ = (x3_1 ++ [t105]) := ⟨_, rfl⟩
                  replace H : (forms_Text.l0 k1 y106 l0_3 (l0_3.length : Int) (wrap64 (x20_1 + 1))) = some r := by first | (rw [hy106]; with_reducible exact H) | (have H2_ := (Option.bind_some _ _).symm.trans H; rw [hy106]; with_reducible exact H2_) | (have H2_ := (Option.bind_some _ _).symm.trans H; with_reducible exact H2_) | with_reducible exact H | (rw [hy106]; exact H) | exact H
                  have Ny106 := Aside0.mk hy106
                  clear hy106
                  have H' := Aside0.mk H
                  clear H
                  have p103 : 0 ≤ (x20_1 : Int) := of_decide_eq_true (by first | (with_reducible assumption) | assumption)
                  have q103 : x20_1 < (l0_3.length : Int) := of_decide_eq_true (by first | (with_reducible assumption) | assumption)
                  obtain ⟨ad103, A103_3, c103_3, e103, hx103_0, hx103_1, hx103_2, hx103_3, hl103_3, hi103_3⟩ := at_T42 HR0_3.out x20_1 p103 q103
                  cases e103
                  replace hx103_0 := (HB.out.cell (World.block_lt_of_cell? w _ hx103_0)).trans hx103_0
                  replace hx103_1 := (HB.out.cell (World.block_lt_of_cell? w _ hx103_1)).trans hx103_1
                  replace hx103_2 := (HB.out.cell (World.block_lt_of_cell? w _ hx103_2)).trans hx103_2
                  replace hx103_3 := (HB.out.cell (World.block_lt_of_cell? w _ hx103_3)).trans hx103_3
                  have HR103_3 := Aside0.mk hi103_3
                  have HC103_3 := Aside0.mk hl103_3
                  clear hi103_3 hl103_3
                  replace p103 := eq_true p103
                  replace q103 := eq_true q103
                  go_wp2_with (first | ((with_reducible refine gate_dst (N := 5) rfl ?_); refine box_event ?hg (N := 5) ?hd (cs := #[.int .i64 0, .int .i64 0, .string (⟨#[]⟩ : ByteArray), .slice none 0 0]) (t := 42) ?hr ?_; (case hd => rfl); (case hg => rfl); (case hr => first | (go_simp; done) | (go_simp; rfl)); intro gb104 hg w17 hbox hb; have n0_ := Aside0.mk (Kd.R_below (by (with_reducible repeat (first | apply Kd.R_alloc | apply Kd.R_drewN | apply Kd.R_drew)); exact HO_3.out) hb); have n1_ := Aside0.mk (blk_below (g := gb101) (o := .cells #[.int .i64 a0_0, .int .i64 a0_1, .string a0_2, .slice (some ad103) l0_3.length c0_3] 42 (0, 0)) (by (with_reducible repeat (first | refine blk_drewN ?_ _ | refine blk_drew ?_ | refine blk_alloc ?_ _)); exact BK101.out) hb); have n2_ := Aside0.mk (below_step (by repeat (first | (with_reducible first | exact HB.out | apply below_alloc | apply pw_below_drewN | apply below_drew1 | refine below_set ?_ GE101.out) | exact HB.out)) hb); have n3_ := Aside0.mk (hbox); have n4_ := Aside0.mk ((by rw [hg]; exact (below_size (by repeat (first | (with_reducible first | exact HB.out | apply below_alloc | apply pw_below_drewN | apply below_drew1 | refine below_set ?_ GE101.out) | exact HB.out))) : w.heap.size ≤ gb104)); have n5_ := Aside0.mk ((by rw [hg]; exact (below_size (by repeat (first | (with_reducible first | exact HB.out | apply below_alloc | apply pw_below_drewN | apply below_drew1 | refine below_set ?_ GE101.out) | exact HB.out))) : w.heap.size ≤ gb104)); have n6_ := Aside0.mk ((by rw [hg]; exact Nat.ne_of_lt (blk_lt (g := gb101) (o := .cells #[.int .i64 a0_0, .int .i64 a0_1, .string a0_2, .slice (some ad103) l0_3.length c0_3] 42 (0, 0)) (by (with_reducible repeat (first | refine blk_drewN ?_ _ | refine blk_drew ?_ | refine blk_alloc ?_ _)); exact BK101.out)) : gb101 ≠ gb104)); have n7_ := Aside0.mk ((by rw [hg]; exact Nat.ne_of_gt (blk_lt (g := gb101) (o := .cells #[.int .i64 a0_0, .int .i64 a0_1, .string a0_2, .slice (some ad103) l0_3.length c0_3] 42 (0, 0)) (by (with_reducible repeat (first | refine blk_drewN ?_ _ | refine blk_drew ?_ | refine blk_alloc ?_ _)); exact BK101.out)) : gb104 ≠ gb101)); clear HO_3; clear BK101; clear HB; have HO_3 := n0_; have BK101 := n1_; have HB := n2_; have BK104 := n3_; have GW104 := n4_; have GE104 := n5_; have NB101_104 := n6_; have NB104_101 := n7_; clear n0_ n1_ n2_ n3_ n4_ n5_ n6_ n7_; clear hb hbox hg; have hnb18 := NB104_101.out; have hnc18 := NB101_104.out; have hcz19_0 : w17.cell? ⟨gb104, 0, none⟩ = some (.int .i64 0) := (blk_cell BK104.out 0).trans rfl; have hcz19_1 : w17.cell? ⟨gb104, 1, none⟩ = some (.int .i64 0) := (blk_cell BK104.out 1).trans rfl; have hcz19_2 : w17.cell? ⟨gb104, 2, none⟩ = some (.string (⟨#[]⟩ : ByteArray)) := (blk_cell BK104.out 2).trans rfl; have hcz19_3 : w17.cell? ⟨gb104, 3, none⟩ = some (.slice none 0 0) := (blk_cell BK104.out 3).trans rfl; have hfz19_0 := blk_frozen BK104.out 0; have hfz19_1 := blk_frozen BK104.out 1; have hfz19_2 := blk_frozen BK104.out 2; have hfz19_3 := blk_frozen BK104.out 3) | ((with_reducible refine gate_store (t := 42) (p := 5) rfl ?_); refine store_event (t := 42) (p := 5) (v := ?vo_w20) (w1 := ((((w17.setCell ⟨gb104, 0, none⟩ (.int .i64 ((rd_T42 l0_3 x20_1).f0))).setCell ⟨gb104, 1, none⟩ (.int .i64 ((rd_T42 l0_3 x20_1).f1))).setCell ⟨gb104, 2, none⟩ (.string ((rd_T42 l0_3 x20_1).f2))).setCell ⟨gb104, 3, none⟩ (.slice A103_3 ((rd_T42 l0_3 x20_1).f3).length c103_3))) ?hg ?ho ?hn ?hr ?_; (case ho => rfl); (case hg => rfl); (case hn => rfl); (case hr => first | (go_simp; done) | (go_simp; rfl)); intro w20 hw; have n0_ : Aside0 (Kd.R Kd.string 9 w20 w.heap.size (fun _ => True) u3 x3_1) := ⟨(by rw [hw]; exact (by (with_reducible repeat (first | apply Kd.R_alloc | apply Kd.R_drewN | apply Kd.R_drew)); exact Kd.R_mono (Kd.R_far (p := ⟨gb104, 3, none⟩) (Kd.R_far (p := ⟨gb104, 2, none⟩) (Kd.R_far (p := ⟨gb104, 1, none⟩) (Kd.R_far (p := ⟨gb104, 0, none⟩) (Kd.R_types HO_3.out BK104.out (by decide)) (fun _ hk => hk.2) (.int .i64 ((rd_T42 l0_3 x20_1).f0))) (fun _ hk => hk.2) (.int .i64 ((rd_T42 l0_3 x20_1).f1))) (fun _ hk => hk.2) (.string ((rd_T42 l0_3 x20_1).f2))) (fun _ hk => hk.2) (.slice A103_3 ((rd_T42 l0_3 x20_1).f3).length c103_3)) (fun _ hk => trivial)))⟩; have n1_ : Aside0 (w20.heap[gb101]? = some (.cells #[.int .i64 a0_0, .int .i64 a0_1, .string a0_2, .slice (some ad103) l0_3.length c0_3] 42 (0, 0))) := ⟨(by rw [hw]; exact (by (with_reducible repeat (first | refine blk_drewN ?_ _ | refine blk_drew ?_ | refine blk_alloc ?_ _)); refine blk_far ?_ NB101_104.out _; (with_reducible repeat (first | refine blk_drewN ?_ _ | refine blk_drew ?_ | refine blk_alloc ?_ _)); refine blk_far ?_ NB101_104.out _; (with_reducible repeat (first | refine blk_drewN ?_ _ | refine blk_drew ?_ | refine blk_alloc ?_ _)); refine blk_far ?_ NB101_104.out _; (with_reducible repeat (first | refine blk_drewN ?_ _ | refine blk_drew ?_ | refine blk_alloc ?_ _)); refine blk_far ?_ NB101_104.out _; (with_reducible repeat (first | refine blk_drewN ?_ _ | refine blk_drew ?_ | refine blk_alloc ?_ _)); exact BK101.out))⟩; have n2_ : Aside0 (w20.heap[gb104]? = some (.cells #[.int .i64 ((rd_T42 l0_3 x20_1).f0), .int .i64 ((rd_T42 l0_3 x20_1).f1), .string ((rd_T42 l0_3 x20_1).f2), .slice A103_3 ((rd_T42 l0_3 x20_1).f3).length c103_3] 42 (0, 0))) := ⟨(by rw [hw]; exact (by (with_reducible repeat (first | refine blk_drewN ?_ _ | refine blk_drew ?_ | refine blk_alloc ?_ _)); refine blk_put (cs := #[.int .i64 ((rd_T42 l0_3 x20_1).f0), .int .i64 ((rd_T42 l0_3 x20_1).f1), .string ((rd_T42 l0_3 x20_1).f2), .slice none 0 0]) ?_ 3 _ rfl; (with_reducible repeat (first | refine blk_drewN ?_ _ | refine blk_drew ?_ | refine blk_alloc ?_ _)); refine blk_put (cs := #[.int .i64 ((rd_T42 l0_3 x20_1).f0), .int .i64 ((rd_T42 l0_3 x20_1).f1), .string (⟨#[]⟩ : ByteArray), .slice none 0 0]) ?_ 2 _ rfl; (with_reducible repeat (first | refine blk_drewN ?_ _ | refine blk_drew ?_ | refine blk_alloc ?_ _)); refine blk_put (cs := #[.int .i64 ((rd_T42 l0_3 x20_1).f0), .int .i64 0, .string (⟨#[]⟩ : ByteArray), .slice none 0 0]) ?_ 1 _ rfl; (with_reducible repeat (first | refine blk_drewN ?_ _ | refine blk_drew ?_ | refine blk_alloc ?_ _)); refine blk_put (cs := #[.int .i64 0, .int .i64 0, .string (⟨#[]⟩ : ByteArray), .slice none 0 0]) ?_ 0 _ rfl; (with_reducible repeat (first | refine blk_drewN ?_ _ | refine blk_drew ?_ | refine blk_alloc ?_ _)); exact BK104.out))⟩; have n3_ : Aside0 (Below w.heap.size w w20) := ⟨(by rw [hw]; exact (by repeat (first | (with_reducible first | exact HB.out | apply below_alloc | apply pw_below_drewN | apply below_drew1 | refine below_set ?_ GE101.out | refine below_set ?_ GE104.out) | exact HB.out)))⟩; clear hw; clear HO_3; clear BK101; clear BK104; clear HB; have HO_3 := n0_; have BK101 := n1_; have BK104 := n2_; have HB := n3_; clear n0_ n1_ n2_ n3_; have hcz21_0 : w20.cell? ⟨gb104, 0, none⟩ = some (.int .i64 ((rd_T42 l0_3 x20_1).f0)) := (blk_cell BK104.out 0).trans rfl; have hcz21_1 : w20.cell? ⟨gb104, 1, none⟩ = some (.int .i64 ((rd_T42 l0_3 x20_1).f1)) := (blk_cell BK104.out 1).trans rfl; have hcz21_2 : w20.cell? ⟨gb104, 2, none⟩ = some (.string ((rd_T42 l0_3 x20_1).f2)) := (blk_cell BK104.out 2).trans rfl; have hcz21_3 : w20.cell? ⟨gb104, 3, none⟩ = some (.slice A103_3 ((rd_T42 l0_3 x20_1).f3).length c103_3) := (blk_cell BK104.out 3).trans rfl; have hfz21_0 := blk_frozen BK104.out 0; have hfz21_1 := blk_frozen BK104.out 1; have hfz21_2 := blk_frozen BK104.out 2; have hfz21_3 := blk_frozen BK104.out 3) | ((with_reducible refine gate_callee (f := 19) rfl ?_); refine goesL_ (some 26) rfl rfl Tryd.func19 (by kernel_rfl) rfl #[.agg #[.int .i64 ((rd_T42 l0_3 x20_1).f0), .int .i64 ((rd_T42 l0_3 x20_1).f1), .string ((rd_T42 l0_3 x20_1).f2), .slice A103_3 ((rd_T42 l0_3 x20_1).f3).length c103_3]] rfl (by (try simp only [List.map_toArray, List.map_cons, List.map_nil]); first | done | rfl | (simp only [List.length_drop, List.length_take]; rfl)) ?_; (with_reducible refine (ih k1 (by have := HK1.out; omega) ((rd_T42 l0_3 x20_1).f0) ((rd_T42 l0_3 x20_1).f1) ((rd_T42 l0_3 x20_1).f2) _ _ ((rd_T42 l0_3 x20_1).f3) t105 _ ?sideT ?side1 ?side2 A15.out).mono ?_); (case sideT => exact TabP.below HTB.out (by repeat (first | (with_reducible first | exact HB.out | apply below_alloc | apply pw_below_drewN | apply below_drew1 | refine below_set ?_ GE101.out | refine below_set ?_ GE104.out) | exact HB.out))); (case side1 => repeat (first | exact (Kd.C_below HR103_3.out HB.out) | (with_reducible refine Kd.C_alloc ?_ _) | (with_reducible refine Kd.C_drewN ?_ _) | (with_reducible refine Kd.C_drew ?_))); (case side2 => exact HC103_3.out); rintro e w22 ⟨rfl, hb⟩; refine ⟨_, rfl, ?_⟩; have n0_ := Aside0.mk (Kd.R_below (by (with_reducible repeat (first | apply Kd.R_alloc | apply Kd.R_drewN | apply Kd.R_drew)); exact HO_3.out) hb); have n1_ := Aside0.mk (blk_below (g := gb101) (o := .cells #[.int .i64 a0_0, .int .i64 a0_1, .string a0_2, .slice (some ad103) l0_3.length c0_3] 42 (0, 0)) (by (with_reducible repeat (first | refine blk_drewN ?_ _ | refine blk_drew ?_ | refine blk_alloc ?_ _)); exact BK101.out) hb); have n2_ := Aside0.mk (blk_below (g := gb104) (o := .cells #[.int .i64 ((rd_T42 l0_3 x20_1).f0), .int .i64 ((rd_T42 l0_3 x20_1).f1), .string ((rd_T42 l0_3 x20_1).f2), .slice A103_3 ((rd_T42 l0_3 x20_1).f3).length c103_3] 42 (0, 0)) (by (with_reducible repeat (first | refine blk_drewN ?_ _ | refine blk_drew ?_ | refine blk_alloc ?_ _)); exact BK104.out) hb); have n3_ := Aside0.mk (below_step (by repeat (first | (with_reducible first | exact HB.out | apply below_alloc | apply pw_below_drewN | apply below_drew1 | refine below_set ?_ GE101.out | refine below_set ?_ GE104.out) | exact HB.out)) hb); clear HO_3; clear BK101; clear BK104; clear HB; have HO_3 := n0_; have BK101 := n1_; have BK104 := n2_; have HB := n3_; clear n0_ n1_ n2_ n3_; (try clear hb); (try clear hb2); (try clear hk); (try clear hi)) | ((with_reducible refine gate_builtin (b := .append) (xs := #[.tmp 24, .tmp 27]) rfl ?_); at_builtin; refine Kd.R_append Kd.string (w0 := w) w.heap.size rfl (.tmp 24) (.tmp 27) 27 9 (.string ⟨#[]⟩) 16 rfl Tryd.underlying27 info9 rfl (by decide) (by omega) u3 x3_1 t105 [.string t105] (fun _ => True) (fun _ => False) rfl rfl ?aP (fun _ hk => hk.elim) ?aF ?aO ?aB ?aS ?aL ?_; (case aP => exact rfl); (case aB => exact (by repeat (first | (with_reducible first | exact HB.out | apply below_alloc | apply pw_below_drewN | apply below_drew1 | refine below_set ?_ GE101.out | refine below_set ?_ GE104.out) | exact HB.out))); (case aF => exact (fun _ _ => trivial)); (case aO => exact (by (with_reducible repeat (first | apply Kd.R_alloc | apply Kd.R_drewN | apply Kd.R_drew)); exact HO_3.out)); (case aS => exact (below_size (by repeat (first | (with_reducible first | exact HB.out | apply below_alloc | apply pw_below_drewN | apply below_drew1 | refine below_set ?_ GE101.out | refine below_set ?_ GE104.out) | exact HB.out)))); (case aL => have := LMc16.out; omega); intro v107 w23 ho hb hg hat; rw [← Ny106.out] at ho; have n0_ := Aside0.mk (blk_grown (g := gb101) (o := .cells #[.int .i64 a0_0, .int .i64 a0_1, .string a0_2, .slice (some ad103) l0_3.length c0_3] 42 (0, 0)) (by (with_reducible repeat (first | refine blk_drewN ?_ _ | refine blk_drew ?_ | refine blk_alloc ?_ _)); exact BK101.out) hg (Kd.R_ne HO_3.out BK101.out (by decide))); have n1_ := Aside0.mk (blk_grown (g := gb104) (o := .cells #[.int .i64 ((rd_T42 l0_3 x20_1).f0), .int .i64 ((rd_T42 l0_3 x20_1).f1), .string ((rd_T42 l0_3 x20_1).f2), .slice A103_3 ((rd_T42 l0_3 x20_1).f3).length c103_3] 42 (0, 0)) (by (with_reducible repeat (first | refine blk_drewN ?_ _ | refine blk_drew ?_ | refine blk_alloc ?_ _)); exact BK104.out) hg (Kd.R_ne HO_3.out BK104.out (by decide))); have n2_ := Aside0.mk (hb); have n3_ := Aside0.mk (ho); clear BK101; clear BK104; clear HB; clear HO_3; have BK101 := n0_; have BK104 := n1_; have HB := n2_; have HO108 := n3_; clear n0_ n1_ n2_ n3_; clear ho hb hg hat))
                  go_roundg k1
                  case measure => have := HK1.out; omega
                  case rel => exact ⟨(y106), (wrap64 (x20_1 + 1)), (by first | rfl | (simp; done) | (simp [*]; done)), H', ⟨by have := HK1.out; omega⟩, ⟨by (with_reducible repeat (first | apply Kd.R_alloc | apply Kd.R_drewN | apply Kd.R_drew)); exact HO108.out⟩, ⟨by (with_reducible repeat (first | refine blk_drewN ?_ _ | refine blk_drew ?_ | refine blk_alloc ?_ _)); exact BK101.out⟩, ⟨by repeat (first | (with_reducible first | exact HB.out | apply below_alloc | apply pw_below_drewN | apply below_drew1 | refine below_set ?_ GE101.out | refine below_set ?_ GE104.out) | exact HB.out)⟩⟩
                · rw [if_neg c16] at H
                  exact absurd H (by simp)
              · rw [if_neg c14] at H
                exact absurd H (by simp)
            · rw [if_neg c13] at H
              exact absurd H (by simp)
          · rw [if_neg c12] at H
            have c12b0 : decide (x20_1 < (l0_3.length : Int)) = false := decide_eq_false c12
            clear c12
            replace H := Option.bind_eq_some_iff.mp H
            obtain ⟨t109, A240, H⟩ := H
            replace H : (if 1 + t109.size ≤ 9223372036854775807 then (if ((⟨#[40]⟩ : ByteArray) ++ t109).size + 1 ≤ 9223372036854775807 then (some (((⟨#[40]⟩ : ByteArray) ++ t109) ++ (⟨#[41]⟩ : ByteArray))) else (none)) else (none)) = some r := H
            have A24 := Aside0.mk A240
            clear A240
            by_cases c25 : 1 + t109.size ≤ 9223372036854775807
            · rw [if_pos c25] at H
              have c25b0 := eq_true c25
              have c25b1 : decide (1 + t109.size ≤ 9223372036854775807) = true := decide_eq_true c25
              try have c25b2 : (9223372036854775807 < 1 + t109.size) = False := eq_false (Nat.not_lt.2 c25)
              by_cases c26 : ((⟨#[40]⟩ : ByteArray) ++ t109).size + 1 ≤ 9223372036854775807
              · rw [if_pos c26] at H
                have c26b0 := eq_true c26
                have c26b1 : decide (((⟨#[40]⟩ : ByteArray) ++ t109).size + 1 ≤ 9223372036854775807) = true := decide_eq_true c26
                try have c26b2 : (9223372036854775807 < ((⟨#[40]⟩ : ByteArray) ++ t109).size + 1) = False := eq_false (Nat.not_lt.2 c26)
                have c26n : 1 + t109.size + 1 ≤ 9223372036854775807 := by
                  have h_ := c26
                  rw [ByteArray.size_append] at h_
                  exact h_
                have c26b3 : (9223372036854775807 < 1 + t109.size + 1) = False := eq_false (Nat.not_lt.2 c26n)
                clear c26n
                obtain rfl := Option.some.inj H
                obtain ⟨Ao27, co27, eo27⟩ := Kd.R_slice HO_3.out
                subst eo27
                go_wp2_with (first | ((with_reducible refine gate_callee (f := 34) rfl ?_); refine goesL_ (some 31) rfl rfl Tryd.func34 (by kernel_rfl) rfl #[.slice Ao27 x3_1.length co27, .string (⟨#[32]⟩ : ByteArray)] rfl (by (try simp only [List.map_toArray, List.map_cons, List.map_nil]); first | done | rfl | (simp only [List.length_drop, List.length_take]; rfl)) ?_; (with_reducible refine (strings_Join.calls _ _ x3_1 (⟨#[32]⟩ : ByteArray) t109 _ ?side1 ?side2 A24.out).mono ?_); (case side1 => repeat (first | exact (Kd.R_reads' HO_3.out).2.2 | (with_reducible refine Kd.C_alloc ?_ _) | (with_reducible refine Kd.C_drewN ?_ _) | (with_reducible refine Kd.C_drew ?_))); (case side2 => exact (Kd.R_reads' HO_3.out).2.1); rintro e w28 ⟨rfl, hb⟩; refine ⟨_, rfl, ?_⟩; have n0_ := Aside0.mk (Kd.R_below (by (with_reducible repeat (first | apply Kd.R_alloc | apply Kd.R_drewN | apply Kd.R_drew)); exact HO_3.out) hb); have n1_ := Aside0.mk (blk_below (g := gb101) (o := .cells #[.int .i64 a0_0, .int .i64 a0_1, .string a0_2, .slice A0_3 l0_3.length c0_3] 42 (0, 0)) (by (with_reducible repeat (first | refine blk_drewN ?_ _ | refine blk_drew ?_ | refine blk_alloc ?_ _)); exact BK101.out) hb); have n2_ := Aside0.mk (below_step (by repeat (first | (with_reducible first | exact HB.out | apply below_alloc | apply pw_below_drewN | apply below_drew1 | refine below_set ?_ GE101.out) | exact HB.out)) hb); clear HO_3; clear BK101; clear HB; have HO_3 := n0_; have BK101 := n1_; have HB := n2_; clear n0_ n1_ n2_; (try clear hb); (try clear hb2); (try clear hk); (try clear hi)))
                go_ret
                exact ⟨by first | rfl | (simp [errW_none, errW_some] <;> rfl) | (simp [*, errW_none, errW_some] <;> rfl), by repeat (first | (with_reducible first | exact HB.out | apply below_alloc | apply pw_below_drewN | apply below_drew1 | refine below_set ?_ GE101.out) | exact HB.out)⟩
              · rw [if_neg c26] at H
                exact absurd H (by simp)
            · rw [if_neg c25] at H
              exact absurd H (by simp)
end Go.Proofs.YtkkmgahgejjhgaaDoor.P
/- Package forms' lists: close: the innermost row stands as a list behind the others of the next one. No conditions. -/
namespace Go.Proofs.YtkkmgahgejjhgaaDoor.Frm
open Go.RowKit Go.Proofs.YtkkmgahgejjhgaaDoor.P Go.Proofs.YtkkmgahgejjhgaaDoorW.PrintWords Go.Proofs.YtkkmgahgejjhgaaDoorW.PrintLast Go.Proofs.YtkkmgahgejjhgaaDoorW.PrintMore
set_option linter.unusedVariables false
set_option linter.unusedSimpArgs false
set_option maxHeartbeats 8000000 in
set_option maxRecDepth 100000 in
theorem close28a {w : World} {base g : Nat} {rows : List (List S42)} (h : St w base g rows) (hn : rows.length = 1) :
    Calls Tryd.prog 28 #[.pointer (some ⟨g, 0, none⟩)] w fun e w' => e = .returned (.bool false) ∧ w' = w := by
  obtain ⟨V, hs, hK, hg, hS⟩ := h
  obtain ⟨L, cap, rfl, hL, hLt, cl, hcl⟩ := hS.form (by omega)
  rw [hn] at hK
  have k0 : w.cell? ⟨g, 0, none⟩ = some (.slice (some ⟨L, 0, none⟩) 1 cap) := (blk_cell hK 0).trans rfl
  clear hK hS hg hcl hLt hL hn
  go_enter Tryd.func28, Tryd.ntmps28
  go_wp2
  go_ret
  exact ⟨by first | rfl | (simp; done) | (simp [*]; done), rfl⟩
set_option maxHeartbeats 8000000 in
set_option maxRecDepth 100000 in
theorem close28b {w0 w : World} {base g m : Nat} {rows : List (List S42)} (h : St w base g rows) (hB : Below base w0 w) (hn : rows.length = m + 2) (h1 : rows.length ≤ 5000) (h2 : (rows.getD m []).length ≤ 5000) (h3 : (rows.getD (m + 1) []).length ≤ 5000) :
    Calls Tryd.prog 28 #[.pointer (some ⟨g, 0, none⟩)] w fun e w' => e = .returned (.bool true) ∧ St w' base g ((rows.take (m + 1)).set m (rows.getD m [] ++ [⟨3, 0, ⟨#[]⟩, rows.getD (m + 1) []⟩])) ∧ Below base w0 w' ∧ KT w w' := by
  obtain ⟨p, hp⟩ : ∃ p, p = m + 1 := ⟨_, rfl⟩
  have hpm := Aside0.mk hp
  rw [show m + 2 = p + 1 by omega] at hn
  rw [← hp] at h3 ⊢
  have hu57 := Tryd.underlying57
  have hu42 := Tryd.underlying42
  obtain ⟨V, hs, hK, hg, hS⟩ := h
  obtain ⟨L, cap, rfl, hL, hLt, cl, hcl⟩ := hS.form (by omega)
  have hcn := Kd.R_celln (enc := slv) (h1 := fun _ => rfl) (none, 0, 0) hS.out (p : Int) (by omega) (by omega)
  rw [Int.toNat_natCast, ← hv_rd] at hcn
  have hrow := hS.row p (by omega)
  rw [hn] at hK hS h1
  obtain ⟨xs, hxs⟩ : ∃ xs, xs = rows.getD p [] := ⟨_, rfl⟩
  rw [← hxs] at hrow h3 ⊢
  obtain ⟨ys, hys⟩ : ∃ ys, ys = rows.getD m [] := ⟨_, rfl⟩
  rw [← hys] at h2 ⊢
  obtain ⟨Ax, cx, hx⟩ := Kd.R_slice hrow
  rw [hx] at hrow hcn
  have ec : p + 1 ≤ cap := by
    obtain ⟨A, c, e, hle, _⟩ := Kd.R_reads hS.out
    injection e with _ e1 e2
    rw [e2, hS.len, hn] at *
    omega
  have K := Aside0.mk hK
  have S := Aside0.mk hS
  have G := Aside0.mk hg
  have BB := Aside0.mk hB
  have N1 := Aside0.mk h1
  have N2 := Aside0.mk h2
  have N3 := Aside0.mk h3
  have RR := Aside0.mk hrow
  have HN := Aside0.mk hn
  have XS := Aside0.mk hxs
  have YS := Aside0.mk hys
  have HX := Aside0.mk hx
  have BS := Aside0.mk (show base ≤ w.heap.size by have := blk_lt hK; omega)
  have e1 := Aside0.mk (show wrap64 (p : Int) = (p : Int) by unfold wrap64; omega)
  have k0 : w.cell? ⟨g, 0, none⟩ = some (.slice (some ⟨L, 0, none⟩) (p + 1) cap) := (blk_cell hK 0).trans rfl
  have k1 : w.cell? ⟨L, p, none⟩ = some (.slice Ax xs.length cx) := hcn.1
  have q1 : ((p : Int) < (p : Int) + 1) = True := eq_true (by omega)
  have q2 : (0 ≤ (p : Int)) = True := eq_true (by omega)
  have q3 : ((p : Int) ≤ (cap : Int)) = True := eq_true (by omega)
  have q4 : ((p : Int) = 0) = False := eq_false (by omega)
  clear hp hK hS hg hB h1 h2 h3 hcl hLt hL hn hrow hxs hys hx hcn ec
  have q5 : ((p : Int) == 0) = false := by
    rw [beq_eq_false_iff_ne]
    have := hpm.out
    omega
  have hAL := Aside0.mk (show ∀ k, ((Apt hs p k ∧ some k ≠ (Value.slice Ax xs.length cx).ownBlock) ∨ w.heap.size ≤ k) → Alr (hs.take p) k from by
    rintro k hk j hj
    have hj1 : j < p ∧ j < hs.length := by rw [List.length_take] at hj; omega
    have e : hv (hs.take p) j = hv hs j := by simp [hv, List.getD_eq_getElem?_getD, List.getElem?_take, hj1.1]
    rw [e]
    rcases hk with hk | hk
    · exact hk.1 j (by omega) hj1.2
    · exact S.out.lt k hk j hj1.2)
  go_enter Tryd.func28, Tryd.ntmps28
  go_wp2_with (first | (rw [e1.out]) | (go_at_call 29; refine (clone29 RR.out BS.out (by have := N3.out; omega)).mono ?_; rintro e w1 ⟨v1, rfl, hR, hb⟩; obtain ⟨A1, c1, rfl⟩ := Kd.R_slice hR; have R1 := Aside0.mk hR; have B1 := Aside0.mk hb; have S1 := Aside0.mk (S.out.below hb); have K1 := Aside0.mk (blk_below K.out hb); clear hR hb k0 k1) | ((with_reducible refine gate_dst (N := 4) rfl ?_); refine box_event ?hg (N := 4) ?hd (cs := #[.int .i64 0, .int .i64 0, .string ⟨#[]⟩, .slice none 0 0]) (t := 42) ?hr ?_; (case hd => rfl); (case hg => rfl); (case hr => first | (go_simp; done) | (go_simp; rfl)); intro gf hgf w2 hbox hb; have KF := Aside0.mk hbox; have GF := Aside0.mk hgf; have B2 := Aside0.mk hb; clear hbox hb hgf; have c0 : w2.cell? ⟨gf, 0, none⟩ = some (.int .i64 0) := (blk_cell KF.out 0).trans rfl; have c1 : w2.cell? ⟨gf, 1, none⟩ = some (.int .i64 0) := (blk_cell KF.out 1).trans rfl; have c2 : w2.cell? ⟨gf, 2, none⟩ = some (.string ⟨#[]⟩) := (blk_cell KF.out 2).trans rfl; have c3 : w2.cell? ⟨gf, 3, none⟩ = some (.slice none 0 0) := (blk_cell KF.out 3).trans rfl; have cf0 := blk_frozen KF.out 0; have cf1 := blk_frozen KF.out 1; have cf2 := blk_frozen KF.out 2; have cf3 := blk_frozen KF.out 3) | ((with_reducible refine gate_ (.store 42 (.tmp 4) (.tmp 21)) rfl ?_); refine store_event (w1 := ?inw) rfl rfl rfl ?hr ?_; (case hr => go_simp; rfl); intro w3 hw3; clear c0 c1 c2 c3 cf0 cf1 cf2 cf3; have F3 : Aside0 (w3.heap[gf]? = some (.cells #[.int .i64 3, .int .i64 0, .string ⟨#[]⟩, .slice A1 xs.length c1] 42 (0, 0))) := ⟨(by rw [hw3]; exact (blk_put (cs := #[.int .i64 3, .int .i64 0, .string ⟨#[]⟩, .slice none 0 0]) (blk_put (cs := #[.int .i64 3, .int .i64 0, .string ⟨#[]⟩, .slice none 0 0]) (blk_put (cs := #[.int .i64 3, .int .i64 0, .string ⟨#[]⟩, .slice none 0 0]) (blk_put KF.out 0 (.int .i64 3) rfl) 1 (.int .i64 0) rfl) 2 (.string ⟨#[]⟩) rfl) 3 (.slice A1 xs.length c1) rfl))⟩; have B3 : Aside0 (Below w1.heap.size w1 w3) := ⟨(by rw [hw3]; exact below_set (below_set (below_set (below_set B2.out (Nat.le_of_eq GF.out.symm)) (Nat.le_of_eq GF.out.symm)) (Nat.le_of_eq GF.out.symm)) (Nat.le_of_eq GF.out.symm))⟩; clear hw3 KF; have K3 := Aside0.mk (blk_below K1.out B3.out); have k3 : w3.cell? ⟨g, 0, none⟩ = some (.slice (some ⟨L, 0, none⟩) (p + 1) cap) := (blk_cell K3.out 0).trans rfl; have kf3 := blk_frozen K3.out 0) | ((with_reducible refine gate_ (.store 57 (.tmp 30) (.tmp 28)) rfl ?_); refine store_event (w1 := ?inw2) rfl rfl rfl ?hr ?_; (case hr => go_simp; rfl); intro w4 hw4; clear k3 kf3; have NE : gf ≠ g := (by rintro rfl; have h_ := F3.out; rw [K3.out] at h_; injection h_ with h_; injection h_ with _ h_; exact absurd h_ (by decide)); have K4 : Aside0 (w4.heap[g]? = some (.cells #[.slice (some ⟨L, 0, none⟩) p cap] 59 (0, 0))) := ⟨(by rw [hw4]; exact blk_put K3.out 0 _ rfl)⟩; have F4 : Aside0 (w4.heap[gf]? = some (.cells #[.int .i64 3, .int .i64 0, .string ⟨#[]⟩, .slice A1 xs.length c1] 42 (0, 0))) := ⟨(by rw [hw4]; exact blk_far F3.out NE _)⟩; have S4 : Aside0 (Stk w4 base (.slice (some ⟨L, 0, none⟩) p cap) (hs.take p) (rows.take p)) := ⟨(by rw [hw4]; exact ((S1.out.below B3.out).pop (by rw [HN.out]; omega)).set_box K3.out (by decide) (by decide) _ _)⟩; have R4 : Aside0 (Kd.R k42 42 w4 base (Alr (hs.take p)) (.slice A1 xs.length c1) xs) := ⟨(by rw [hw4]; exact Kd.R_set (Kd.R_below (Kd.R_mono R1.out (fun k hk => hAL.out k hk)) B3.out) K3.out (e42 59 (by decide)) _ _)⟩; have B4 : Aside0 (Below base w0 w4) := ⟨(by rw [hw4]; exact Below.setCell (p := ⟨g, 0, none⟩) ((BB.out.trans (B1.out.mono BS.out)).trans (B3.out.mono (Nat.le_trans BS.out B1.out.size))) G.out _)⟩; have T4 : Aside0 (KT w w4) := ⟨(by rw [hw4]; exact ((KT.of_below B1.out).trans (KT.of_below B3.out)).trans (KT.set K3.out (by decide) _ _))⟩; clear hw4 NE F3 K3 B3; have c0 : w4.cell? ⟨gf, 0, none⟩ = some (.int .i64 3) := (blk_cell F4.out 0).trans rfl; have c1_ : w4.cell? ⟨gf, 1, none⟩ = some (.int .i64 0) := (blk_cell F4.out 1).trans rfl; have c2 : w4.cell? ⟨gf, 2, none⟩ = some (.string ⟨#[]⟩) := (blk_cell F4.out 2).trans rfl; have c3 : w4.cell? ⟨gf, 3, none⟩ = some (.slice A1 xs.length c1) := (blk_cell F4.out 3).trans rfl) | (go_at_call 26; refine (add26 (f := ⟨3, 0, ⟨#[]⟩, xs⟩) (n := m) K4.out G.out S4.out B4.out (by rw [List.length_take, HN.out]; have := hpm.out; omega) (by rw [List.length_take, HN.out]; have := N1.out; omega) (by rw [show (rows.take p).getD m [] = ys by rw [YS.out]; simp [List.getD_eq_getElem?_getD, List.getElem?_take, hpm.out]]; exact N2.out) R4.out).mono ?_; rintro e w5 ⟨rfl, ⟨h1, hs5, h2⟩, h3, h4⟩; rw [show (rows.take p).getD m [] = ys by rw [YS.out]; simp [List.getD_eq_getElem?_getD, List.getElem?_take, hpm.out]] at h2; have E5 := Aside0.mk (show St w5 base g ((rows.take p).set m (ys ++ [⟨3, 0, ⟨#[]⟩, xs⟩])) ∧ Below base w0 w5 ∧ KT w w5 from ⟨⟨_, hs5, h1, G.out, h2⟩, h3, T4.out.trans h4⟩); clear h1 h2 h3 h4))
  go_ret
  exact ⟨by first | rfl | (simp; done) | (simp [*]; done), E5.out⟩
end Go.Proofs.YtkkmgahgejjhgaaDoor.Frm
/- A plain model of chapter 3's forms: the tokens put into rows, one within the other; how many tokens there are, and of which kinds. No conditions. -/
namespace Go.Proofs.YtkkmgahgejjhgaaDoor.Frm
open Go.RowKit Go.Proofs.YtkkmgahgejjhgaaDoor.P Go.Proofs.YtkkmgahgejjhgaaDoor.Lex Go.Proofs.YtkkmgahgejjhgaaDoorW.PrintWords
/-- Tokens put into rows: st: the outer rows, the innermost first; top: the innermost one. -/
def frun : List S63 → List (List S42) → List S42 → Int → List S42 × Int × Int
  | [], [], top, _ => (top, 0, 0)
  | [], _ :: _, _, sz => ([], sz, 7)
  | t :: r, st, top, sz =>
    if t.f0 = 1 then (if st.length < 30 then frun r (top :: st) [] sz else ([], t.f2, 5))
    else if t.f0 = 2 then (match st with
      | [] => ([], t.f2, 7)
      | p :: st' => frun r st' (p ++ [⟨3, 0, ⟨#[]⟩, top⟩]) sz)
    else if t.f0 = 3 then frun r st (top ++ [⟨1, 0, t.f3, []⟩]) sz
    else frun r st (top ++ [⟨2, t.f1, ⟨#[]⟩, []⟩]) sz
def fparse (s : ByteArray) : List S42 × Int × Int :=
  if (tokens (lst s)).2.2 = 0 then frun (tokens (lst s)).1 [] [] s.size else ([], (tokens (lst s)).2.1, (tokens (lst s)).2.2)
def rws (st : List (List S42)) (top : List S42) : List (List S42) := st.reverse ++ [top]
theorem rws_len (st : List (List S42)) (top : List S42) : (rws st top).length = st.length + 1 := by simp [rws]
theorem rws_top (st : List (List S42)) (top : List S42) : (rws st top).getD st.length [] = top := by simp [rws, List.getD_eq_getElem?_getD]
theorem rws_add (st : List (List S42)) (top : List S42) (x : List S42) : (rws st top).set st.length x = rws st x := by
  simp [rws, List.set_append_right]
theorem rws_open (st : List (List S42)) (top : List S42) : rws st top ++ [[]] = rws (top :: st) [] := by simp [rws]
theorem rws_snd (p : List S42) (st : List (List S42)) (top : List S42) : (rws (p :: st) top).getD st.length [] = p := by simp [rws, List.getD_eq_getElem?_getD]
theorem rws_take (p : List S42) (st : List (List S42)) (top : List S42) : (rws (p :: st) top).take (st.length + 1) = rws st p := by
  have h : rws (p :: st) top = rws st p ++ [top] := by simp [rws]
  rw [h, ← rws_len st p, List.take_left]
theorem nextT_kind (l : List UInt8) (h : (nextT l).2.2.2 = 0) : (nextT l).1 = 1 ∨ (nextT l).1 = 2 ∨ (nextT l).1 = 3 ∨ (nextT l).1 = 4 := by
  unfold nextT at h ⊢
  by_cases h1 : nb l 0 = 40
  · rw [if_pos h1]; exact .inl rfl
  rw [if_neg h1] at h ⊢
  by_cases h2 : nb l 0 = 41
  · rw [if_pos h2]; exact .inr (.inl rfl)
  rw [if_neg h2] at h ⊢
  by_cases h3 : nb l 0 = 42
  · rw [if_pos h3]; exact .inr (.inr (.inl rfl))
  rw [if_neg h3] at h ⊢
  by_cases h4 : nb l 0 = 45 ∧ 1 < l.length ∧ nb l 1 = 62
  · rw [if_pos h4]; exact .inr (.inr (.inl rfl))
  rw [if_neg h4] at h ⊢
  by_cases h5 : pFront (nb l 0) = true
  · rw [if_pos h5] at h ⊢
    by_cases h6 : spn pInner l > 20
    · rw [if_pos h6] at h; exact absurd h (by decide)
    · rw [if_neg h6]; exact .inr (.inr (.inl rfl))
  rw [if_neg h5] at h ⊢
  by_cases h6 : sgn l = 0
  · rw [if_pos h6] at h; exact absurd h (by decide)
  rw [if_neg h6] at h ⊢
  cases hv : num (l.take (sgn l)) with
  | none => rw [hv] at h; exact absurd (show (4 : Int) = 0 from h) (by decide)
  | some v => exact .inr (.inr (.inr rfl))
theorem toks_all : ∀ (f : Nat) (l : List UInt8) (p : Nat) (acc : List S63), (∀ t ∈ acc, t.f0 = 1 ∨ t.f0 = 2 ∨ t.f0 = 3 ∨ t.f0 = 4) → (∀ t ∈ (toks f l p acc).1, t.f0 = 1 ∨ t.f0 = 2 ∨ t.f0 = 3 ∨ t.f0 = 4) ∧ (toks f l p acc).1.length ≤ acc.length + l.length
  | 0, l, p, acc, _ => by simp [toks]
  | f + 1, l, p, acc, ha => by
    rw [toks]
    split
    · exact ⟨ha, Nat.le_add_right _ _⟩
    · rename_i h0
      split
      · rename_i h1
        have hl := nextT_len (l := l.drop (blk false l)) (by omega) h1
        have ih := toks_all f ((l.drop (blk false l)).drop (nextT (l.drop (blk false l))).2.2.1) (p + blk false l + (nextT (l.drop (blk false l))).2.2.1) (acc ++ [⟨(nextT (l.drop (blk false l))).1, (nextT (l.drop (blk false l))).2.1, ((p + blk false l : Nat) : Int), txt (nextT (l.drop (blk false l))).1 (l.drop (blk false l)) (nextT (l.drop (blk false l))).2.2.1⟩]) (by
          intro t ht
          rcases List.mem_append.1 ht with ht | ht
          · exact ha t ht
          · rw [List.mem_singleton.1 ht]
            exact nextT_kind _ h1)
        refine ⟨ih.1, Nat.le_trans ih.2 ?_⟩
        rw [List.length_append, List.length_singleton, List.length_drop, List.length_drop] at *
        omega
      · exact ⟨fun t ht => by simp at ht, by simp⟩
theorem tokens_all (l : List UInt8) : (∀ t ∈ (tokens l).1, t.f0 = 1 ∨ t.f0 = 2 ∨ t.f0 = 3 ∨ t.f0 = 4) ∧ (tokens l).1.length ≤ 4000 := by
  unfold tokens
  split
  · exact ⟨fun t ht => by simp at ht, by simp⟩
  · rename_i h
    have := toks_all (l.length + 1) l 0 [] (by simp)
    refine ⟨this.1, ?_⟩
    have h2 := this.2
    simp only [List.length_nil] at h2
    omega
end Go.Proofs.YtkkmgahgejjhgaaDoor.Frm
/- Package forms: Parse: a text's forms are the model's, or where it has none. No conditions. Printed by genparse.py. -/
namespace Go.Proofs.YtkkmgahgejjhgaaDoor.Frm
open Go.RowKit Go.Proofs.YtkkmgahgejjhgaaDoor.P Go.Proofs.YtkkmgahgejjhgaaDoor.Lex Go.Proofs.YtkkmgahgejjhgaaDoorW.PrintWords Go.Proofs.YtkkmgahgejjhgaaDoorW.PrintLast Go.Proofs.YtkkmgahgejjhgaaDoorW.PrintMore
set_option linter.unusedVariables false
set_option linter.unusedSimpArgs false
theorem stk_one {w : World} {base : Nat} {V : Value} (h : Kd.R sl 28 w base (fun _ => True) V [(none, 0, 0)]) : Stk w base V [(none, 0, 0)] [[]] := by
  refine ⟨h, rfl, fun i hi => ?_⟩
  have : i = 0 := by simp at hi; omega
  subst this
  exact Kd.R_nil _ _ _ _ _
/-- A token of a row: its cells. -/
theorem tok_at {w : World} {base gt n c : Nat} {tl : List S63} (h : Kd.R k63 63 w base (fun _ => True) (.slice (some ⟨gt, 0, none⟩) n c) tl) (i : Nat) (hi : i < n) {t : S63} (ht : tl.getD i z63 = t) :
    w.cell? ⟨gt, i * 4, none⟩ = some (.int .i64 t.f0) ∧ w.cell? ⟨gt, i * 4 + 1, none⟩ = some (.int .i64 t.f1) ∧ w.cell? ⟨gt, i * 4 + 2, none⟩ = some (.int .i64 t.f2) ∧ w.cell? ⟨gt, i * 4 + 3, none⟩ = some (.string t.f3) := by
  obtain ⟨c, _, hM, hc, _⟩ := Kd.R_elem h z63 (i : Int) (by omega) (by omega)
  rw [Int.toNat_natCast, ht] at hM
  rw [Int.toNat_natCast] at hc
  obtain rfl := k63_openM hM
  exact ⟨hc 0 _ rfl, hc 1 _ rfl, hc 2 _ rfl, hc 3 _ rfl⟩
theorem drop_getD {tl : List S63} {i : Nat} (h : i < tl.length) : tl.drop i = tl.getD i z63 :: tl.drop (i + 1) := by
  rw [List.drop_eq_getElem_cons h, List.getD_eq_getElem?_getD, List.getElem?_eq_getElem h]
  rfl
theorem getD_mem {tl : List S63} {i : Nat} (h : i < tl.length) : tl.getD i z63 ∈ tl := by
  rw [List.getD_eq_getElem?_getD, List.getElem?_eq_getElem h]
  exact List.getElem_mem h
theorem frun_1 {t : S63} {r : List S63} {st : List (List S42)} {top : List S42} {sz : Int} (h : t.f0 = 1) : frun (t :: r) st top sz = if st.length < 30 then frun r (top :: st) [] sz else ([], t.f2, 5) := by rw [frun.eq_def]; simp only [if_pos h]
theorem frun_2 {t : S63} {r : List S63} {st : List (List S42)} {top : List S42} {sz : Int} (h : t.f0 = 2) : frun (t :: r) st top sz = match st with | [] => ([], t.f2, 7) | p :: st' => frun r st' (p ++ [⟨3, 0, ⟨#[]⟩, top⟩]) sz := by
  rw [frun.eq_def]; simp only [if_neg (show ¬ t.f0 = 1 by omega), if_pos h]
  try (cases st <;> rfl)
theorem frun_3 {t : S63} {r : List S63} {st : List (List S42)} {top : List S42} {sz : Int} (h : t.f0 = 3) : frun (t :: r) st top sz = frun r st (top ++ [⟨1, 0, t.f3, []⟩]) sz := by
  rw [frun.eq_def]; simp only [if_neg (show ¬ t.f0 = 1 by omega), if_neg (show ¬ t.f0 = 2 by omega), if_pos h]
theorem frun_4 {t : S63} {r : List S63} {st : List (List S42)} {top : List S42} {sz : Int} (h1 : t.f0 ≠ 1) (h2 : t.f0 ≠ 2) (h3 : t.f0 ≠ 3) : frun (t :: r) st top sz = frun r st (top ++ [⟨2, t.f1, ⟨#[]⟩, []⟩]) sz := by
  rw [frun.eq_def]; simp only [if_neg h1, if_neg h2, if_neg h3]
theorem frun_0 {top : List S42} {sz : Int} : frun [] [] top sz = (top, 0, 0) := by rw [frun.eq_def]
theorem frun_00 {p : List S42} {st : List (List S42)} {top : List S42} {sz : Int} : frun [] (p :: st) top sz = ([], sz, 7) := by rw [frun.eq_def]
/-- Lengths stand below a count. -/
def Lens (i : Nat) (st : List (List S42)) (top : List S42) : Prop := st.length ≤ i ∧ top.length ≤ i ∧ ∀ x ∈ st, x.length ≤ i
theorem Lens.open_ {i : Nat} {st : List (List S42)} {top : List S42} (h : Lens i st top) : Lens (i + 1) (top :: st) [] :=
  ⟨by have := h.1; simp only [List.length_cons]; omega, by simp, fun x hx => by rcases List.mem_cons.1 hx with rfl | hx; exact Nat.le_succ_of_le h.2.1; exact Nat.le_succ_of_le (h.2.2 x hx)⟩
theorem Lens.close_ {i : Nat} {p : List S42} {st : List (List S42)} {top : List S42} {x : S42} (h : Lens i (p :: st) top) : Lens (i + 1) st (p ++ [x]) :=
  ⟨by have := h.1; simp only [List.length_cons] at this; omega, by have := h.2.2 p (by simp); simp only [List.length_append, List.length_singleton]; omega, fun y hy => Nat.le_succ_of_le (h.2.2 y (by simp [hy]))⟩
theorem Lens.add_ {i : Nat} {st : List (List S42)} {top : List S42} {x : S42} (h : Lens i st top) : Lens (i + 1) st (top ++ [x]) :=
  ⟨by have := h.1; omega, by have := h.2.1; simp only [List.length_append, List.length_singleton]; omega, fun y hy => Nat.le_succ_of_le (h.2.2 y hy)⟩
theorem add_st {w0 w : World} {base g : Nat} {st : List (List S42)} {top : List S42} {f : S42} (h : St w base g (rws st top)) (hf : f.f3 = []) (hB : Below base w0 w) (h1 : st.length ≤ 4000) (h2 : top.length ≤ 4000) :
    Calls Tryd.prog 26 #[.pointer (some ⟨g, 0, none⟩), .agg #[.int .i64 f.f0, .int .i64 f.f1, .string f.f2, .slice none 0 0]] w fun e w' => e = .returned (.tuple #[]) ∧ St w' base g (rws st (top ++ [f])) ∧ Below base w0 w' ∧ KT w w' := by
  obtain ⟨V, hs, hK, hg, hS⟩ := h
  refine (add26 (n := st.length) (v3 := .slice none 0 0) hK hg hS hB (rws_len st top) (by rw [rws_len]; omega) (by rw [rws_top]; omega) (by rw [hf]; exact Kd.R_nil _ _ _ _ _)).mono ?_
  rintro e w' ⟨rfl, ⟨h1, hs', h2⟩, h3, h4⟩
  rw [rws_top, rws_add] at h2
  exact ⟨rfl, ⟨_, hs', h1, hg, h2⟩, h3, h4⟩
theorem close_st {w0 w : World} {base g : Nat} {p : List S42} {st : List (List S42)} {top : List S42} (h : St w base g (rws (p :: st) top)) (hB : Below base w0 w) (h1 : st.length ≤ 4000) (h2 : top.length ≤ 4000) (h3 : p.length ≤ 4000) :
    Calls Tryd.prog 28 #[.pointer (some ⟨g, 0, none⟩)] w fun e w' => e = .returned (.bool true) ∧ St w' base g (rws st (p ++ [⟨3, 0, ⟨#[]⟩, top⟩])) ∧ Below base w0 w' ∧ KT w w' := by
  have e1 : (rws (p :: st) top).getD (st.length + 1) [] = top := rws_top (p :: st) top
  have := close28b (m := st.length) h hB (by rw [rws_len]; rfl) (by rw [rws_len]; simp only [List.length_cons]; omega) (by rw [rws_snd]; omega) (by rw [e1]; omega)
  rw [rws_snd, e1, rws_take, rws_add] at this
  exact this
theorem open_st {w0 w : World} {base g : Nat} {st : List (List S42)} {top : List S42} (h : St w base g (rws st top)) (hB : Below base w0 w) (h1 : st.length ≤ 4000) :
    Calls Tryd.prog 27 #[.pointer (some ⟨g, 0, none⟩)] w fun e w' => e = .returned (.bool (decide (st.length < 30))) ∧ St w' base g (rws (top :: st) []) ∧ Below base w0 w' ∧ KT w w' := by
  have := open27 h hB (by rw [rws_len]; omega) (by rw [rws_len]; omega)
  rw [rws_open, rws_len] at this
  rw [show decide (st.length < 30) = decide (((st.length + 1 : Nat) : Int) ≤ 30) by simp only [decide_eq_decide]; omega]
  exact this
set_option maxHeartbeats 8000000 in
set_option maxRecDepth 100000 in
theorem parse13 (s : ByteArray) (w : World) : Calls Tryd.prog 13 #[.string s] w fun e w' => ∃ v, e = .returned (.tuple #[v, .int .i64 (fparse s).2.1, .int .i64 (fparse s).2.2]) ∧ Kd.R k42 42 w' w.heap.size (fun _ => True) v (fparse s).1 ∧ Below w.heap.size w w' := by
  have hu63 := Tryd.underlying63
  have hu53 := Tryd.underlying53
  have hu57 := Tryd.underlying57
  have hu59 := Tryd.underlying59
  have hu42 := Tryd.underlying42
  have hu28 := Tryd.underlying28
  have TK := tokens13 s
  obtain ⟨ts, hts⟩ : ∃ r, r = tokens (lst s) := ⟨_, rfl⟩
  have TA := tokens_all (lst s)
  rw [← hts] at TK TA
  obtain ⟨r, hr⟩ : ∃ r, r = fparse s := ⟨_, rfl⟩
  have FP : fparse s = (if ts.2.2 = 0 then frun ts.1 [] [] s.size else ([], ts.2.1, ts.2.2)) := by rw [hts]; rfl
  rw [← hr] at FP ⊢
  obtain ⟨r1, r2, r3⟩ := r
  obtain ⟨tl, ta, te⟩ := ts
  clear hts hr
  simp only [] at TK TA FP
  have TK_ := Aside0.mk TK
  clear TK
  by_cases he : te = 0
  · subst he
    rw [if_pos rfl] at FP
    have FP_ := Aside0.mk FP
    have TA_ := Aside0.mk TA
    clear FP TA
    go_enter Tryd.func13, Tryd.ntmps13
    go_wp2
    go_step3
    go_wp2_with (first | (go_at_call 25; refine (TK_.out _).mono ?_; rintro e w1 ⟨v1, rfl, hR, hb⟩; obtain ⟨A1, c1, rfl, hc1, hC⟩ := Kd.R_reads hR; have R1 := Aside0.mk hR; have B1 := Aside0.mk hb; clear hR hb hC hc1) | ((with_reducible refine gate_dst (N := 21) rfl ?_); refine Kd.R_make sl (w0 := w) w.heap.size 28 rfl rfl 57 (.const (.int .i64 1)) (.const (.int .i64 1)) rfl 1 rfl rfl Tryd.underlying57 (.slice none 0 0) 24 info28 rfl (by decide) (by decide) (none, 0, 0) (ok := fun _ => True) (okp := fun _ => True) rfl (fun _ _ => trivial) trivial (by decide) (by decide) B1.out B1.out.size ?_; intro v2 w2 ho hb hg _; obtain ⟨L, cap, e2, _, _, _⟩ := Kd.R_form ho (by decide); replace e2 : v2 = .slice (some ⟨L, 0, none⟩) 1 cap := e2; subst e2; have S2 := Aside0.mk (stk_one ho); have B2 := Aside0.mk hb; have R2 := Aside0.mk (R_KT R1.out (KT.of_grown hg (t := 0) (by decide) (fun _ hk => by cases hk))); clear ho hb hg) | ((with_reducible refine gate_dst (N := 23) rfl ?_); refine box_event ?hg (N := 23) ?hd (cs := #[.slice (some ⟨L, 0, none⟩) 1 cap]) (t := 59) ?hr ?_; (case hd => rfl); (case hg => rfl); (case hr => first | (go_simp; done) | (go_simp; rfl)); intro g hg w3 hbox hb; have R3 := Aside0.mk (R_KT R2.out (KT.of_below hb)); have B3 := Aside0.mk (below_step B2.out hb); have S3 : Aside0 (St w3 w.heap.size g (rws [] [])) := ⟨⟨_, _, hbox, by rw [hg]; exact B2.out.size, S2.out.below hb⟩⟩; clear hbox hb hg))
    go_step3
    go_wp2
    go_loopw [3, 4, 26] (fun v3 v4 v26 w' => ∃ (i : Nat) (st : List (List S42)) (top : List S42), v3 = .int .i64 ta ∧ v4 = .int .i64 0 ∧ v26 = .int .i64 i ∧ Aside0 (i ≤ tl.length ∧ Lens i st top ∧ frun (tl.drop i) st top s.size = (r1, r2, r3)) ∧ Aside0 (St w' w.heap.size g (rws st top)) ∧ Aside0 (Below w.heap.size w w') ∧ Aside0 (Kd.R k63 63 w' w.heap.size (fun _ => True) (.slice A1 tl.length c1) tl)) (fun _ _ v26 _ => tl.length - (intOf v26).toNat)
    case atStart => exact ⟨0, [], [], rfl, rfl, rfl, ⟨Nat.zero_le _, ⟨Nat.le_refl _, Nat.le_refl _, by simp⟩, FP_.out.symm⟩, S3, B3, R3⟩
    case round =>
      obtain ⟨i, st, top, rfl, rfl, rfl, HI, S4, B4, R4⟩ := hrel
      clear S3 B3 R3
      obtain ⟨hi, hlen, hF⟩ := HI.out
      have hst : st.length ≤ 4000 := Nat.le_trans hlen.1 (Nat.le_trans hi TA_.out.2)
      have htp : top.length ≤ 4000 := Nat.le_trans hlen.2.1 (Nat.le_trans hi TA_.out.2)
      have HL := Aside0.mk hlen
      have HST := Aside0.mk hst
      have HTP := Aside0.mk htp
      have V1 := Aside0.mk (show wrap64 ((i : Int) + 1) = ((i + 1 : Nat) : Int) by have := TA_.out.2; unfold wrap64; omega)
      by_cases hlt : i < tl.length
      · obtain ⟨gt, cap_, e1, _, _, _⟩ := Kd.R_form R4.out (by omega)
        have eA : A1 = some ⟨gt, 0, none⟩ := by injection e1
        subst eA
        obtain ⟨t, ht⟩ : ∃ t, t = tl.getD i z63 := ⟨_, rfl⟩
        have hcell := tok_at R4.out i hlt ht.symm
        have hk := TA_.out.1 _ (getD_mem hlt)
        rw [drop_getD hlt, ← ht] at hF
        rw [← ht] at hk
        obtain ⟨t0, t1, t2, t3⟩ := t
        simp only [] at hcell hk
        obtain ⟨k0, k1, k2, k3⟩ := hcell
        have HLT := Aside0.mk hlt
        have c1b : ((i : Int) < (tl.length : Int)) = True := eq_true (by omega)
        have c2b : decide ((i : Int) < (tl.length : Int)) = true := decide_eq_true (by omega)
        have c3b : (i < tl.length) = True := eq_true hlt
        clear e1 ht hi hlen hlt
        rcases hk with rfl | rfl | rfl | rfl
        · rw [frun_1 rfl] at hF
          by_cases h30 : st.length < 30
          · rw [if_pos h30] at hF
            have HF := Aside0.mk hF
            have DB := Aside0.mk (show decide (st.length < 30) = true from decide_eq_true h30)
            clear hF h30 hst htp
            go_wp2_with (first | (rw [V1.out]) | ((with_reducible refine gate_dst (N := 9) rfl ?_); refine box_event ?hg (N := 9) ?hd (cs := #[.int .i64 0, .int .i64 0, .int .i64 0, .string ⟨#[]⟩]) (t := 63) ?hr ?_; (case hd => rfl); (case hg => rfl); (case hr => first | (go_simp; done) | (go_simp; rfl)); intro gb hgb w5 hbox hb; have KB := Aside0.mk hbox; have GB := Aside0.mk hgb; have D5 := Aside0.mk hb; clear hbox hb hgb k0 k1 k2 k3; have c0 : w5.cell? ⟨gb, 0, none⟩ = some (.int .i64 0) := (blk_cell KB.out 0).trans rfl; have c1_ : w5.cell? ⟨gb, 1, none⟩ = some (.int .i64 0) := (blk_cell KB.out 1).trans rfl; have c2 : w5.cell? ⟨gb, 2, none⟩ = some (.int .i64 0) := (blk_cell KB.out 2).trans rfl; have c3 : w5.cell? ⟨gb, 3, none⟩ = some (.string ⟨#[]⟩) := (blk_cell KB.out 3).trans rfl; have cf0 := blk_frozen KB.out 0; have cf1 := blk_frozen KB.out 1; have cf2 := blk_frozen KB.out 2; have cf3 := blk_frozen KB.out 3) | ((with_reducible refine gate_ (.store 63 (.tmp 9) (.tmp 29)) rfl ?_); refine store_event (w1 := ?inw1) rfl rfl rfl ?hr ?_; (case hr => go_simp; rfl); intro w6 hw6; clear c0 c1_ c2 c3 cf0 cf1 cf2 cf3; have K6 : Aside0 (w6.heap[gb]? = some (.cells #[.int .i64 1, .int .i64 t1, .int .i64 t2, .string t3] 63 (0, 0))) := ⟨(by rw [hw6]; exact (blk_put (cs := #[.int .i64 1, .int .i64 t1, .int .i64 t2, .string ⟨#[]⟩]) (blk_put (cs := #[.int .i64 1, .int .i64 t1, .int .i64 0, .string ⟨#[]⟩]) (blk_put (cs := #[.int .i64 1, .int .i64 0, .int .i64 0, .string ⟨#[]⟩]) (blk_put KB.out 0 (.int .i64 1) rfl) 1 (.int .i64 t1) rfl) 2 (.int .i64 t2) rfl) 3 (.string t3) rfl))⟩; have D6 : Aside0 (Below wr.heap.size wr w6) := ⟨(by rw [hw6]; exact below_set (below_set (below_set (below_set D5.out (Nat.le_of_eq GB.out.symm)) (Nat.le_of_eq GB.out.symm)) (Nat.le_of_eq GB.out.symm)) (Nat.le_of_eq GB.out.symm))⟩; clear hw6 KB GB D5; have S6 := Aside0.mk (S4.out.below D6.out); have R6 := Aside0.mk (R_KT R4.out (KT.of_below D6.out)); have B6 := Aside0.mk (below_step B4.out D6.out); clear D6; have d0 : w6.cell? ⟨gb, 0, none⟩ = some (.int .i64 1) := (blk_cell K6.out 0).trans rfl; have d1 : w6.cell? ⟨gb, 1, none⟩ = some (.int .i64 t1) := (blk_cell K6.out 1).trans rfl; have d2 : w6.cell? ⟨gb, 2, none⟩ = some (.int .i64 t2) := (blk_cell K6.out 2).trans rfl; have d3 : w6.cell? ⟨gb, 3, none⟩ = some (.string t3) := (blk_cell K6.out 3).trans rfl; skip) | (go_at_call 27; refine (open_st S6.out B6.out HST.out).mono ?_; rintro e w7 ⟨he_, h1, h2, h3⟩; rw [DB.out] at he_; subst he_; have S7 := Aside0.mk h1; have B7 := Aside0.mk h2; have R7 := Aside0.mk (R_KT R6.out h3); have K7 := Aside0.mk (h3 _ _ K6.out); clear h1 h2 h3 S6 B6 R6 K6 d0 d1 d2 d3; have d0 : w7.cell? ⟨gb, 0, none⟩ = some (.int .i64 1) := (blk_cell K7.out 0).trans rfl; have d1 : w7.cell? ⟨gb, 1, none⟩ = some (.int .i64 t1) := (blk_cell K7.out 1).trans rfl; have d2 : w7.cell? ⟨gb, 2, none⟩ = some (.int .i64 t2) := (blk_cell K7.out 2).trans rfl; have d3 : w7.cell? ⟨gb, 3, none⟩ = some (.string t3) := (blk_cell K7.out 3).trans rfl; skip))
            have h1_ := HL.out
            have h2_ := HLT.out
            refine ⟨⟨i + 1, top :: st, [], rfl, rfl, rfl, ⟨by omega, h1_.open_, HF.out⟩, S7, B7, R7⟩, ?_⟩
            simp only [intOf, Int.toNat_natCast]
            omega
          · rw [if_neg h30] at hF
            simp only [Prod.mk.injEq] at hF
            obtain ⟨rfl, rfl, rfl⟩ := hF
            have DB := Aside0.mk (show decide (st.length < 30) = false from decide_eq_false h30)
            clear h30 hst htp
            go_wp2_with (first | (rw [V1.out]) | ((with_reducible refine gate_dst (N := 9) rfl ?_); refine box_event ?hg (N := 9) ?hd (cs := #[.int .i64 0, .int .i64 0, .int .i64 0, .string ⟨#[]⟩]) (t := 63) ?hr ?_; (case hd => rfl); (case hg => rfl); (case hr => first | (go_simp; done) | (go_simp; rfl)); intro gb hgb w5 hbox hb; have KB := Aside0.mk hbox; have GB := Aside0.mk hgb; have D5 := Aside0.mk hb; clear hbox hb hgb k0 k1 k2 k3; have c0 : w5.cell? ⟨gb, 0, none⟩ = some (.int .i64 0) := (blk_cell KB.out 0).trans rfl; have c1_ : w5.cell? ⟨gb, 1, none⟩ = some (.int .i64 0) := (blk_cell KB.out 1).trans rfl; have c2 : w5.cell? ⟨gb, 2, none⟩ = some (.int .i64 0) := (blk_cell KB.out 2).trans rfl; have c3 : w5.cell? ⟨gb, 3, none⟩ = some (.string ⟨#[]⟩) := (blk_cell KB.out 3).trans rfl; have cf0 := blk_frozen KB.out 0; have cf1 := blk_frozen KB.out 1; have cf2 := blk_frozen KB.out 2; have cf3 := blk_frozen KB.out 3) | ((with_reducible refine gate_ (.store 63 (.tmp 9) (.tmp 29)) rfl ?_); refine store_event (w1 := ?inw2) rfl rfl rfl ?hr ?_; (case hr => go_simp; rfl); intro w6 hw6; clear c0 c1_ c2 c3 cf0 cf1 cf2 cf3; have K6 : Aside0 (w6.heap[gb]? = some (.cells #[.int .i64 1, .int .i64 t1, .int .i64 t2, .string t3] 63 (0, 0))) := ⟨(by rw [hw6]; exact (blk_put (cs := #[.int .i64 1, .int .i64 t1, .int .i64 t2, .string ⟨#[]⟩]) (blk_put (cs := #[.int .i64 1, .int .i64 t1, .int .i64 0, .string ⟨#[]⟩]) (blk_put (cs := #[.int .i64 1, .int .i64 0, .int .i64 0, .string ⟨#[]⟩]) (blk_put KB.out 0 (.int .i64 1) rfl) 1 (.int .i64 t1) rfl) 2 (.int .i64 t2) rfl) 3 (.string t3) rfl))⟩; have D6 : Aside0 (Below wr.heap.size wr w6) := ⟨(by rw [hw6]; exact below_set (below_set (below_set (below_set D5.out (Nat.le_of_eq GB.out.symm)) (Nat.le_of_eq GB.out.symm)) (Nat.le_of_eq GB.out.symm)) (Nat.le_of_eq GB.out.symm))⟩; clear hw6 KB GB D5; have S6 := Aside0.mk (S4.out.below D6.out); have R6 := Aside0.mk (R_KT R4.out (KT.of_below D6.out)); have B6 := Aside0.mk (below_step B4.out D6.out); clear D6; have d0 : w6.cell? ⟨gb, 0, none⟩ = some (.int .i64 1) := (blk_cell K6.out 0).trans rfl; have d1 : w6.cell? ⟨gb, 1, none⟩ = some (.int .i64 t1) := (blk_cell K6.out 1).trans rfl; have d2 : w6.cell? ⟨gb, 2, none⟩ = some (.int .i64 t2) := (blk_cell K6.out 2).trans rfl; have d3 : w6.cell? ⟨gb, 3, none⟩ = some (.string t3) := (blk_cell K6.out 3).trans rfl; skip) | (go_at_call 27; refine (open_st S6.out B6.out HST.out).mono ?_; rintro e w7 ⟨he_, h1, h2, h3⟩; rw [DB.out] at he_; subst he_; have S7 := Aside0.mk h1; have B7 := Aside0.mk h2; have R7 := Aside0.mk (R_KT R6.out h3); have K7 := Aside0.mk (h3 _ _ K6.out); clear h1 h2 h3 S6 B6 R6 K6 d0 d1 d2 d3; have d0 : w7.cell? ⟨gb, 0, none⟩ = some (.int .i64 1) := (blk_cell K7.out 0).trans rfl; have d1 : w7.cell? ⟨gb, 1, none⟩ = some (.int .i64 t1) := (blk_cell K7.out 1).trans rfl; have d2 : w7.cell? ⟨gb, 2, none⟩ = some (.int .i64 t2) := (blk_cell K7.out 2).trans rfl; have d3 : w7.cell? ⟨gb, 3, none⟩ = some (.string t3) := (blk_cell K7.out 3).trans rfl; skip))
            simp only [Exit.noGoto]
            refine bodyPost_ret (v := .tuple #[.slice none 0 0, .int .i64 t2, .int .i64 5]) (by simp [results, Tryd.results13, go_sem]) rfl ?_
            exact ⟨_, rfl, Kd.R_nil _ _ _ _ _, B7.out⟩
        · rw [frun_2 rfl] at hF
          cases st with
          | nil =>
            simp only [Prod.mk.injEq] at hF
            obtain ⟨rfl, rfl, rfl⟩ := hF
            clear hst htp
            go_wp2_with (first | (rw [V1.out]) | ((with_reducible refine gate_dst (N := 9) rfl ?_); refine box_event ?hg (N := 9) ?hd (cs := #[.int .i64 0, .int .i64 0, .int .i64 0, .string ⟨#[]⟩]) (t := 63) ?hr ?_; (case hd => rfl); (case hg => rfl); (case hr => first | (go_simp; done) | (go_simp; rfl)); intro gb hgb w5 hbox hb; have KB := Aside0.mk hbox; have GB := Aside0.mk hgb; have D5 := Aside0.mk hb; clear hbox hb hgb k0 k1 k2 k3; have c0 : w5.cell? ⟨gb, 0, none⟩ = some (.int .i64 0) := (blk_cell KB.out 0).trans rfl; have c1_ : w5.cell? ⟨gb, 1, none⟩ = some (.int .i64 0) := (blk_cell KB.out 1).trans rfl; have c2 : w5.cell? ⟨gb, 2, none⟩ = some (.int .i64 0) := (blk_cell KB.out 2).trans rfl; have c3 : w5.cell? ⟨gb, 3, none⟩ = some (.string ⟨#[]⟩) := (blk_cell KB.out 3).trans rfl; have cf0 := blk_frozen KB.out 0; have cf1 := blk_frozen KB.out 1; have cf2 := blk_frozen KB.out 2; have cf3 := blk_frozen KB.out 3) | ((with_reducible refine gate_ (.store 63 (.tmp 9) (.tmp 29)) rfl ?_); refine store_event (w1 := ?inw3) rfl rfl rfl ?hr ?_; (case hr => go_simp; rfl); intro w6 hw6; clear c0 c1_ c2 c3 cf0 cf1 cf2 cf3; have K6 : Aside0 (w6.heap[gb]? = some (.cells #[.int .i64 2, .int .i64 t1, .int .i64 t2, .string t3] 63 (0, 0))) := ⟨(by rw [hw6]; exact (blk_put (cs := #[.int .i64 2, .int .i64 t1, .int .i64 t2, .string ⟨#[]⟩]) (blk_put (cs := #[.int .i64 2, .int .i64 t1, .int .i64 0, .string ⟨#[]⟩]) (blk_put (cs := #[.int .i64 2, .int .i64 0, .int .i64 0, .string ⟨#[]⟩]) (blk_put KB.out 0 (.int .i64 2) rfl) 1 (.int .i64 t1) rfl) 2 (.int .i64 t2) rfl) 3 (.string t3) rfl))⟩; have D6 : Aside0 (Below wr.heap.size wr w6) := ⟨(by rw [hw6]; exact below_set (below_set (below_set (below_set D5.out (Nat.le_of_eq GB.out.symm)) (Nat.le_of_eq GB.out.symm)) (Nat.le_of_eq GB.out.symm)) (Nat.le_of_eq GB.out.symm))⟩; clear hw6 KB GB D5; have S6 := Aside0.mk (S4.out.below D6.out); have R6 := Aside0.mk (R_KT R4.out (KT.of_below D6.out)); have B6 := Aside0.mk (below_step B4.out D6.out); clear D6; have d0 : w6.cell? ⟨gb, 0, none⟩ = some (.int .i64 2) := (blk_cell K6.out 0).trans rfl; have d1 : w6.cell? ⟨gb, 1, none⟩ = some (.int .i64 t1) := (blk_cell K6.out 1).trans rfl; have d2 : w6.cell? ⟨gb, 2, none⟩ = some (.int .i64 t2) := (blk_cell K6.out 2).trans rfl; have d3 : w6.cell? ⟨gb, 3, none⟩ = some (.string t3) := (blk_cell K6.out 3).trans rfl; skip) | (go_at_call 28; refine (close28a S6.out rfl).mono ?_; rintro e w7 ⟨rfl, rfl⟩))
            simp only [Exit.noGoto]
            refine bodyPost_ret (v := .tuple #[.slice none 0 0, .int .i64 t2, .int .i64 7]) (by simp [results, Tryd.results13, go_sem]) rfl ?_
            exact ⟨_, rfl, Kd.R_nil _ _ _ _ _, B6.out⟩
          | cons p st' =>
            simp only [] at hF
            have HF := Aside0.mk hF
            have HP := Aside0.mk (show p.length ≤ 4000 from Nat.le_trans (HL.out.2.2 p (by simp)) (Nat.le_trans HI.out.1 TA_.out.2))
            clear hF hst htp
            go_wp2_with (first | (rw [V1.out]) | ((with_reducible refine gate_dst (N := 9) rfl ?_); refine box_event ?hg (N := 9) ?hd (cs := #[.int .i64 0, .int .i64 0, .int .i64 0, .string ⟨#[]⟩]) (t := 63) ?hr ?_; (case hd => rfl); (case hg => rfl); (case hr => first | (go_simp; done) | (go_simp; rfl)); intro gb hgb w5 hbox hb; have KB := Aside0.mk hbox; have GB := Aside0.mk hgb; have D5 := Aside0.mk hb; clear hbox hb hgb k0 k1 k2 k3; have c0 : w5.cell? ⟨gb, 0, none⟩ = some (.int .i64 0) := (blk_cell KB.out 0).trans rfl; have c1_ : w5.cell? ⟨gb, 1, none⟩ = some (.int .i64 0) := (blk_cell KB.out 1).trans rfl; have c2 : w5.cell? ⟨gb, 2, none⟩ = some (.int .i64 0) := (blk_cell KB.out 2).trans rfl; have c3 : w5.cell? ⟨gb, 3, none⟩ = some (.string ⟨#[]⟩) := (blk_cell KB.out 3).trans rfl; have cf0 := blk_frozen KB.out 0; have cf1 := blk_frozen KB.out 1; have cf2 := blk_frozen KB.out 2; have cf3 := blk_frozen KB.out 3) | ((with_reducible refine gate_ (.store 63 (.tmp 9) (.tmp 29)) rfl ?_); refine store_event (w1 := ?inw4) rfl rfl rfl ?hr ?_; (case hr => go_simp; rfl); intro w6 hw6; clear c0 c1_ c2 c3 cf0 cf1 cf2 cf3; have K6 : Aside0 (w6.heap[gb]? = some (.cells #[.int .i64 2, .int .i64 t1, .int .i64 t2, .string t3] 63 (0, 0))) := ⟨(by rw [hw6]; exact (blk_put (cs := #[.int .i64 2, .int .i64 t1, .int .i64 t2, .string ⟨#[]⟩]) (blk_put (cs := #[.int .i64 2, .int .i64 t1, .int .i64 0, .string ⟨#[]⟩]) (blk_put (cs := #[.int .i64 2, .int .i64 0, .int .i64 0, .string ⟨#[]⟩]) (blk_put KB.out 0 (.int .i64 2) rfl) 1 (.int .i64 t1) rfl) 2 (.int .i64 t2) rfl) 3 (.string t3) rfl))⟩; have D6 : Aside0 (Below wr.heap.size wr w6) := ⟨(by rw [hw6]; exact below_set (below_set (below_set (below_set D5.out (Nat.le_of_eq GB.out.symm)) (Nat.le_of_eq GB.out.symm)) (Nat.le_of_eq GB.out.symm)) (Nat.le_of_eq GB.out.symm))⟩; clear hw6 KB GB D5; have S6 := Aside0.mk (S4.out.below D6.out); have R6 := Aside0.mk (R_KT R4.out (KT.of_below D6.out)); have B6 := Aside0.mk (below_step B4.out D6.out); clear D6; have d0 : w6.cell? ⟨gb, 0, none⟩ = some (.int .i64 2) := (blk_cell K6.out 0).trans rfl; have d1 : w6.cell? ⟨gb, 1, none⟩ = some (.int .i64 t1) := (blk_cell K6.out 1).trans rfl; have d2 : w6.cell? ⟨gb, 2, none⟩ = some (.int .i64 t2) := (blk_cell K6.out 2).trans rfl; have d3 : w6.cell? ⟨gb, 3, none⟩ = some (.string t3) := (blk_cell K6.out 3).trans rfl; skip) | (go_at_call 28; refine (close_st S6.out B6.out (by have := HST.out; simp only [List.length_cons] at this; omega) HTP.out HP.out).mono ?_; rintro e w7 ⟨rfl, h1, h2, h3⟩; have S7 := Aside0.mk h1; have B7 := Aside0.mk h2; have R7 := Aside0.mk (R_KT R6.out h3); have K7 := Aside0.mk (h3 _ _ K6.out); clear h1 h2 h3 S6 B6 R6 K6 d0 d1 d2 d3; have d0 : w7.cell? ⟨gb, 0, none⟩ = some (.int .i64 2) := (blk_cell K7.out 0).trans rfl; have d1 : w7.cell? ⟨gb, 1, none⟩ = some (.int .i64 t1) := (blk_cell K7.out 1).trans rfl; have d2 : w7.cell? ⟨gb, 2, none⟩ = some (.int .i64 t2) := (blk_cell K7.out 2).trans rfl; have d3 : w7.cell? ⟨gb, 3, none⟩ = some (.string t3) := (blk_cell K7.out 3).trans rfl; skip))
            have h1_ := HL.out
            have h2_ := HLT.out
            refine ⟨⟨i + 1, st', (p ++ [⟨3, 0, ⟨#[]⟩, top⟩]), rfl, rfl, rfl, ⟨by omega, h1_.close_, HF.out⟩, S7, B7, R7⟩, ?_⟩
            simp only [intOf, Int.toNat_natCast]
            omega
        · rw [frun_3 rfl] at hF
          have HF := Aside0.mk hF
          clear hF hst htp
          go_wp2_with (first | (rw [V1.out]) | ((with_reducible refine gate_dst (N := 9) rfl ?_); refine box_event ?hg (N := 9) ?hd (cs := #[.int .i64 0, .int .i64 0, .int .i64 0, .string ⟨#[]⟩]) (t := 63) ?hr ?_; (case hd => rfl); (case hg => rfl); (case hr => first | (go_simp; done) | (go_simp; rfl)); intro gb hgb w5 hbox hb; have KB := Aside0.mk hbox; have GB := Aside0.mk hgb; have D5 := Aside0.mk hb; clear hbox hb hgb k0 k1 k2 k3; have c0 : w5.cell? ⟨gb, 0, none⟩ = some (.int .i64 0) := (blk_cell KB.out 0).trans rfl; have c1_ : w5.cell? ⟨gb, 1, none⟩ = some (.int .i64 0) := (blk_cell KB.out 1).trans rfl; have c2 : w5.cell? ⟨gb, 2, none⟩ = some (.int .i64 0) := (blk_cell KB.out 2).trans rfl; have c3 : w5.cell? ⟨gb, 3, none⟩ = some (.string ⟨#[]⟩) := (blk_cell KB.out 3).trans rfl; have cf0 := blk_frozen KB.out 0; have cf1 := blk_frozen KB.out 1; have cf2 := blk_frozen KB.out 2; have cf3 := blk_frozen KB.out 3) | ((with_reducible refine gate_ (.store 63 (.tmp 9) (.tmp 29)) rfl ?_); refine store_event (w1 := ?inw5) rfl rfl rfl ?hr ?_; (case hr => go_simp; rfl); intro w6 hw6; clear c0 c1_ c2 c3 cf0 cf1 cf2 cf3; have K6 : Aside0 (w6.heap[gb]? = some (.cells #[.int .i64 3, .int .i64 t1, .int .i64 t2, .string t3] 63 (0, 0))) := ⟨(by rw [hw6]; exact (blk_put (cs := #[.int .i64 3, .int .i64 t1, .int .i64 t2, .string ⟨#[]⟩]) (blk_put (cs := #[.int .i64 3, .int .i64 t1, .int .i64 0, .string ⟨#[]⟩]) (blk_put (cs := #[.int .i64 3, .int .i64 0, .int .i64 0, .string ⟨#[]⟩]) (blk_put KB.out 0 (.int .i64 3) rfl) 1 (.int .i64 t1) rfl) 2 (.int .i64 t2) rfl) 3 (.string t3) rfl))⟩; have D6 : Aside0 (Below wr.heap.size wr w6) := ⟨(by rw [hw6]; exact below_set (below_set (below_set (below_set D5.out (Nat.le_of_eq GB.out.symm)) (Nat.le_of_eq GB.out.symm)) (Nat.le_of_eq GB.out.symm)) (Nat.le_of_eq GB.out.symm))⟩; clear hw6 KB GB D5; have S6 := Aside0.mk (S4.out.below D6.out); have R6 := Aside0.mk (R_KT R4.out (KT.of_below D6.out)); have B6 := Aside0.mk (below_step B4.out D6.out); clear D6; have d0 : w6.cell? ⟨gb, 0, none⟩ = some (.int .i64 3) := (blk_cell K6.out 0).trans rfl; have d1 : w6.cell? ⟨gb, 1, none⟩ = some (.int .i64 t1) := (blk_cell K6.out 1).trans rfl; have d2 : w6.cell? ⟨gb, 2, none⟩ = some (.int .i64 t2) := (blk_cell K6.out 2).trans rfl; have d3 : w6.cell? ⟨gb, 3, none⟩ = some (.string t3) := (blk_cell K6.out 3).trans rfl; skip) | (go_at_call 26; refine (add_st (f := ⟨1, 0, t3, []⟩) S6.out rfl B6.out HST.out HTP.out).mono ?_; rintro e w7 ⟨rfl, h1, h2, h3⟩; have S7 := Aside0.mk h1; have B7 := Aside0.mk h2; have R7 := Aside0.mk (R_KT R6.out h3); have K7 := Aside0.mk (h3 _ _ K6.out); clear h1 h2 h3 S6 B6 R6 K6 d0 d1 d2 d3; have d0 : w7.cell? ⟨gb, 0, none⟩ = some (.int .i64 3) := (blk_cell K7.out 0).trans rfl; have d1 : w7.cell? ⟨gb, 1, none⟩ = some (.int .i64 t1) := (blk_cell K7.out 1).trans rfl; have d2 : w7.cell? ⟨gb, 2, none⟩ = some (.int .i64 t2) := (blk_cell K7.out 2).trans rfl; have d3 : w7.cell? ⟨gb, 3, none⟩ = some (.string t3) := (blk_cell K7.out 3).trans rfl; skip))
          have h1_ := HL.out
          have h2_ := HLT.out
          refine ⟨⟨i + 1, st, (top ++ [⟨1, 0, t3, []⟩]), rfl, rfl, rfl, ⟨by omega, h1_.add_, HF.out⟩, S7, B7, R7⟩, ?_⟩
          simp only [intOf, Int.toNat_natCast]
          omega
        · rw [frun_4 (show (4 : Int) ≠ 1 by decide) (show (4 : Int) ≠ 2 by decide) (show (4 : Int) ≠ 3 by decide)] at hF
          have HF := Aside0.mk hF
          clear hF hst htp
          go_wp2_with (first | (rw [V1.out]) | ((with_reducible refine gate_dst (N := 9) rfl ?_); refine box_event ?hg (N := 9) ?hd (cs := #[.int .i64 0, .int .i64 0, .int .i64 0, .string ⟨#[]⟩]) (t := 63) ?hr ?_; (case hd => rfl); (case hg => rfl); (case hr => first | (go_simp; done) | (go_simp; rfl)); intro gb hgb w5 hbox hb; have KB := Aside0.mk hbox; have GB := Aside0.mk hgb; have D5 := Aside0.mk hb; clear hbox hb hgb k0 k1 k2 k3; have c0 : w5.cell? ⟨gb, 0, none⟩ = some (.int .i64 0) := (blk_cell KB.out 0).trans rfl; have c1_ : w5.cell? ⟨gb, 1, none⟩ = some (.int .i64 0) := (blk_cell KB.out 1).trans rfl; have c2 : w5.cell? ⟨gb, 2, none⟩ = some (.int .i64 0) := (blk_cell KB.out 2).trans rfl; have c3 : w5.cell? ⟨gb, 3, none⟩ = some (.string ⟨#[]⟩) := (blk_cell KB.out 3).trans rfl; have cf0 := blk_frozen KB.out 0; have cf1 := blk_frozen KB.out 1; have cf2 := blk_frozen KB.out 2; have cf3 := blk_frozen KB.out 3) | ((with_reducible refine gate_ (.store 63 (.tmp 9) (.tmp 29)) rfl ?_); refine store_event (w1 := ?inw6) rfl rfl rfl ?hr ?_; (case hr => go_simp; rfl); intro w6 hw6; clear c0 c1_ c2 c3 cf0 cf1 cf2 cf3; have K6 : Aside0 (w6.heap[gb]? = some (.cells #[.int .i64 4, .int .i64 t1, .int .i64 t2, .string t3] 63 (0, 0))) := ⟨(by rw [hw6]; exact (blk_put (cs := #[.int .i64 4, .int .i64 t1, .int .i64 t2, .string ⟨#[]⟩]) (blk_put (cs := #[.int .i64 4, .int .i64 t1, .int .i64 0, .string ⟨#[]⟩]) (blk_put (cs := #[.int .i64 4, .int .i64 0, .int .i64 0, .string ⟨#[]⟩]) (blk_put KB.out 0 (.int .i64 4) rfl) 1 (.int .i64 t1) rfl) 2 (.int .i64 t2) rfl) 3 (.string t3) rfl))⟩; have D6 : Aside0 (Below wr.heap.size wr w6) := ⟨(by rw [hw6]; exact below_set (below_set (below_set (below_set D5.out (Nat.le_of_eq GB.out.symm)) (Nat.le_of_eq GB.out.symm)) (Nat.le_of_eq GB.out.symm)) (Nat.le_of_eq GB.out.symm))⟩; clear hw6 KB GB D5; have S6 := Aside0.mk (S4.out.below D6.out); have R6 := Aside0.mk (R_KT R4.out (KT.of_below D6.out)); have B6 := Aside0.mk (below_step B4.out D6.out); clear D6; have d0 : w6.cell? ⟨gb, 0, none⟩ = some (.int .i64 4) := (blk_cell K6.out 0).trans rfl; have d1 : w6.cell? ⟨gb, 1, none⟩ = some (.int .i64 t1) := (blk_cell K6.out 1).trans rfl; have d2 : w6.cell? ⟨gb, 2, none⟩ = some (.int .i64 t2) := (blk_cell K6.out 2).trans rfl; have d3 : w6.cell? ⟨gb, 3, none⟩ = some (.string t3) := (blk_cell K6.out 3).trans rfl; skip) | (go_at_call 26; refine (add_st (f := ⟨2, t1, ⟨#[]⟩, []⟩) S6.out rfl B6.out HST.out HTP.out).mono ?_; rintro e w7 ⟨rfl, h1, h2, h3⟩; have S7 := Aside0.mk h1; have B7 := Aside0.mk h2; have R7 := Aside0.mk (R_KT R6.out h3); have K7 := Aside0.mk (h3 _ _ K6.out); clear h1 h2 h3 S6 B6 R6 K6 d0 d1 d2 d3; have d0 : w7.cell? ⟨gb, 0, none⟩ = some (.int .i64 4) := (blk_cell K7.out 0).trans rfl; have d1 : w7.cell? ⟨gb, 1, none⟩ = some (.int .i64 t1) := (blk_cell K7.out 1).trans rfl; have d2 : w7.cell? ⟨gb, 2, none⟩ = some (.int .i64 t2) := (blk_cell K7.out 2).trans rfl; have d3 : w7.cell? ⟨gb, 3, none⟩ = some (.string t3) := (blk_cell K7.out 3).trans rfl; skip))
          have h1_ := HL.out
          have h2_ := HLT.out
          refine ⟨⟨i + 1, st, (top ++ [⟨2, t1, ⟨#[]⟩, []⟩]), rfl, rfl, rfl, ⟨by omega, h1_.add_, HF.out⟩, S7, B7, R7⟩, ?_⟩
          simp only [intOf, Int.toNat_natCast]
          omega
      · obtain rfl : i = tl.length := by omega
        rw [List.drop_eq_nil_of_le (Nat.le_refl _)] at hF
        have S4_ := S4.out
        obtain ⟨V, hs, hK, hg, hS⟩ := S4_
        obtain ⟨L4, cap4, rfl, _, _, _⟩ := hS.form (by rw [rws_len]; omega)
        rw [rws_len] at hK hS
        have k0 : wr.cell? ⟨g, 0, none⟩ = some (.slice (some ⟨L4, 0, none⟩) (st.length + 1) cap4) := (blk_cell hK 0).trans rfl
        cases st with
        | nil =>
          rw [frun_0] at hF
          simp only [Prod.mk.injEq] at hF
          obtain ⟨rfl, rfl, rfl⟩ := hF
          have hrow := hS.row 0 (by simp [rws])
          rw [show (rws [] top).getD 0 [] = top from rfl] at hrow
          obtain ⟨A0, c0, hx⟩ := Kd.R_slice hrow
          have hcn := Kd.R_celln (enc := slv) (h1 := fun _ => rfl) (none, 0, 0) hS.out (0 : Int) (by omega) (by simp)
          have k1 : wr.cell? ⟨L4, 0, none⟩ = some (.slice A0 top.length c0) := by
            have h_ := hcn.1
            have e_ : slv (rdOf (none, 0, 0) hs (0 : Int)) = hv hs 0 := (hv_rd hs 0).symm
            rw [e_, hx] at h_
            exact h_
          rw [hx] at hrow
          have RR := Aside0.mk hrow
          clear hi hlen hst hlt hK hS hg hx hcn hrow
          go_wp2_with (first | (go_at_call 29; refine (clone29 RR.out B4.out.size (Nat.le_trans HTP.out (by decide))).mono ?_; rintro e w7 ⟨v7, rfl, hR, hb⟩; have R7 := Aside0.mk hR; have B7 := Aside0.mk (below_step B4.out hb); clear hR hb k0 k1))
          simp only [Exit.noGoto]
          refine bodyPost_ret (v := .tuple #[v7, .int .i64 0, .int .i64 0]) (by simp [results, Tryd.results13, go_sem]) rfl ?_
          exact ⟨_, rfl, Kd.R_mono R7.out (fun _ _ => trivial), B7.out⟩
        | cons p st' =>
          rw [frun_00] at hF
          simp only [Prod.mk.injEq] at hF
          obtain ⟨rfl, rfl, rfl⟩ := hF
          have q1 : ((1 : Int) < (st'.length : Int) + 1 + 1) = True := eq_true (by omega)
          rw [List.length_cons] at k0
          clear hi hlen hst hlt hK hS hg htp
          go_wp2
          simp only [Exit.noGoto]
          refine bodyPost_ret (v := .tuple #[.slice none 0 0, .int .i64 s.size, .int .i64 7]) (by simp [results, Tryd.results13, go_sem]) rfl ?_
          exact ⟨_, rfl, Kd.R_nil _ _ _ _ _, B4.out⟩

  · rw [if_neg he] at FP
    have q2 : (te = 0) = False := eq_false he
    have q3 : (te == 0) = false := by simpa using he
    have q4 : (te != 0) = true := by simpa using he
    simp only [Prod.mk.injEq] at FP
    obtain ⟨rfl, rfl, rfl⟩ := FP
    clear he TA
    go_enter Tryd.func13, Tryd.ntmps13
    go_wp2
    go_step3
    go_wp2_with (first | (go_at_call 25; refine (TK_.out _).mono ?_; rintro e w1 ⟨v1, rfl, hR, hb⟩; obtain ⟨A1, c1, rfl, hc1, hC⟩ := Kd.R_reads hR; have R1 := Aside0.mk hR; have B1 := Aside0.mk hb; clear hR hb hC hc1))
    simp only [Exit.noGoto]
    refine bodyPost_ret (v := .tuple #[.slice none 0 0, .int .i64 r2, .int .i64 r3]) (by simp [results, Tryd.results13, go_sem]) rfl ?_
    exact ⟨_, rfl, Kd.R_nil _ _ _ _ _, B1.out⟩
end Go.Proofs.YtkkmgahgejjhgaaDoor.Frm
namespace Go.Proofs.YtkkmgahgejjhgaaDoor.P
open Go.RowKit Go.Proofs.YtkkmgahgejjhgaaDoorW.PrintWords
def forms_Parse.f (s : ByteArray) : Option (List S42 × Int × Int) := some (Frm.fparse s)
theorem forms_Parse.calls (s : ByteArray) (r1 : List S42) (r2 r3 : Int) (w : World) (h : forms_Parse.f s = some (r1, r2, r3)) :
    Calls Tryd.prog 13 #[.string s] w fun e w' => ∃ v0_ : Value, e = .returned (.tuple #[v0_, .int .i64 r2, .int .i64 r3]) ∧ Kd.R k42 42 w' w.heap.size (fun _ => True) v0_ r1 ∧ Below w.heap.size w w' := by
  have e : Frm.fparse s = (r1, r2, r3) := Option.some.inj h
  have := Frm.parse13 s w
  rw [e] at this
  exact this
end Go.Proofs.YtkkmgahgejjhgaaDoor.P
/- Chapter 3: known, printed by mkprint.py, turned by toQ3.py (strconv's table stands: TabP). -/
-- Printed by mkprint.py (a program of this session, over the kit's print). Lean checks it.
namespace Go.Proofs.YtkkmgahgejjhgaaDoor.P
open Go.RowKit Go.Proofs.YtkkmgahgejjhgaaDoorW.PrintWords Go.Proofs.YtkkmgahgejjhgaaDoorW.PrintLast Go.Proofs.YtkkmgahgejjhgaaDoorW.PrintMore
attribute [local go_sem] max2_int min2_int max_two min_two max_three min_three max_four min_four   -- for this text's walks alone
set_option linter.unusedVariables false
set_option linter.unusedSimpArgs false

-- GIVEN: function 13 (forms_Parse)

-- GIVEN: function 19 (forms_Text)

theorem szA1 (a : UInt8) : (⟨#[a]⟩ : ByteArray).size = 1 := rfl
/-! ### thyrsuslaw3_known: function 10 -/
def thyrsuslaw3_known.f (k : Nat)  : Option (Bool) := (forms_Parse.f (⟨#[40, 97, 32, 40, 49, 41, 41]⟩ : ByteArray)).bind fun bt101 => ((forms_Text.f k 3 0 (⟨#[]⟩ : ByteArray) ([] : List (S42))).bind fun t106 => (if t106.toList = ([40, 41] : List UInt8) then (if bt101.2.2 = 0 then (if (bt101.1.length : Int) = 1 then (if 0 < (bt101.1.length : Int) then (some ((((rd_T42 bt101.1 0).f3).length : Int) == 2)) else (none)) else (none)) else (none)) else (none)))
set_option maxHeartbeats 8000000 in
set_option maxRecDepth 100000 in
theorem thyrsuslaw3_known.calls (k : Nat)  (r : Bool) (w : World) (hT : TabP w) (h : thyrsuslaw3_known.f k  = some r) :
    Calls Tryd.prog 10 #[] w fun e w' => e = .returned (.bool r) ∧ Below w.heap.size w w' := by
  have hu42 := Tryd.underlying42
  have HTB := Aside0.mk hT
  clear hT
  have HB := Aside0.mk (Below.refl w.heap.size w)
  have H : ((forms_Parse.f (⟨#[40, 97, 32, 40, 49, 41, 41]⟩ : ByteArray)).bind fun bt101 => ((forms_Text.f k 3 0 (⟨#[]⟩ : ByteArray) ([] : List (S42))).bind fun t106 => (if t106.toList = ([40, 41] : List UInt8) then (if bt101.2.2 = 0 then (if (bt101.1.length : Int) = 1 then (if 0 < (bt101.1.length : Int) then (some ((((rd_T42 bt101.1 0).f3).length : Int) == 2)) else (none)) else (none)) else (none)) else (none)))) = some r := h
  clear h
  replace H := Option.bind_eq_some_iff.mp H
  obtain ⟨⟨t101, t102, t103⟩, A10, H⟩ := H
  replace H : ((forms_Text.f k 3 0 (⟨#[]⟩ : ByteArray) ([] : List (S42))).bind fun t106 => (if t106.toList = ([40, 41] : List UInt8) then (if t103 = 0 then (if (t101.length : Int) = 1 then (if 0 < (t101.length : Int) then (some ((((rd_T42 t101 0).f3).length : Int) == 2)) else (none)) else (none)) else (none)) else (none))) = some r := H
  have A1 := Aside0.mk A10
  clear A10
  replace H := Option.bind_eq_some_iff.mp H
  obtain ⟨t106, A20, H⟩ := H
  replace H : (if t106.toList = ([40, 41] : List UInt8) then (if t103 = 0 then (if (t101.length : Int) = 1 then (if 0 < (t101.length : Int) then (some ((((rd_T42 t101 0).f3).length : Int) == 2)) else (none)) else (none)) else (none)) else (none)) = some r := H
  have A2 := Aside0.mk A20
  clear A20
  by_cases c3 : t106.toList = ([40, 41] : List UInt8)
  · rw [if_pos c3] at H
    have c3b0 : (t106.toList == ([40, 41] : List UInt8)) = true := beq_iff_eq.mpr c3
    have c3b1 : (t106.toList != ([40, 41] : List UInt8)) = false := bne_eq_false_iff_eq.mpr c3
    clear c3
    by_cases c4 : t103 = 0
    · rw [if_pos c4] at H
      have c4b0 : (t103 == 0) = true := beq_iff_eq.mpr c4
      have c4b1 : (t103 != 0) = false := bne_eq_false_iff_eq.mpr c4
      clear c4
      by_cases c5 : (t101.length : Int) = 1
      · rw [if_pos c5] at H
        have c5b0 : ((t101.length : Int) == 1) = true := beq_iff_eq.mpr c5
        have c5b1 : ((t101.length : Int) != 1) = false := bne_eq_false_iff_eq.mpr c5
        clear c5
        by_cases c6 : 0 < (t101.length : Int)
        · rw [if_pos c6] at H
          have c6b0 : decide (0 < (t101.length : Int)) = true := decide_eq_true c6
          have c6b1 : decide (0 < t101.length) = true := decide_eq_true (by omega)
          clear c6
          obtain rfl := Option.some.inj H
          go_enter Tryd.func10, Tryd.ntmps10
          go_wp2_with (first | ((with_reducible refine gate_callee (f := 13) rfl ?_); refine goesL_ (some 5) rfl rfl Tryd.func13 (by kernel_rfl) rfl #[.string (⟨#[40, 97, 32, 40, 49, 41, 41]⟩ : ByteArray)] rfl (by (try simp only [List.map_toArray, List.map_cons, List.map_nil]); first | done | rfl | (simp only [List.length_drop, List.length_take]; rfl)) ?_; (with_reducible refine (forms_Parse.calls (⟨#[40, 97, 32, 40, 49, 41, 41]⟩ : ByteArray) t101 t102 t103 _ A1.out).mono ?_); rintro e w7 ⟨v104, rfl, ho0, hb⟩; refine ⟨_, rfl, ?_⟩; have n0_ := Aside0.mk (Kd.R_lower ho0 (below_size (by repeat (first | (with_reducible first | exact HB.out | apply below_alloc | apply pw_below_drewN | apply below_drew1) | exact HB.out)))); have n1_ := Aside0.mk (below_step (by repeat (first | (with_reducible first | exact HB.out | apply below_alloc | apply pw_below_drewN | apply below_drew1) | exact HB.out)) hb); clear HB; have HO105 := n0_; have HB := n1_; clear n0_ n1_; (try clear hb); (try clear hb2); (try clear hk); (try clear hi); (try clear ho0)) | ((with_reducible refine gate_callee (f := 19) rfl ?_); refine goesL_ (some 10) rfl rfl Tryd.func19 (by kernel_rfl) rfl #[.agg #[.int .i64 3, .int .i64 0, .string (⟨#[]⟩ : ByteArray), .slice none 0 0]] rfl (by (try simp only [List.map_toArray, List.map_cons, List.map_nil]); first | done | rfl | (simp only [List.length_drop, List.length_take]; rfl)) ?_; (refine (forms_Text.calls k 3 0 (⟨#[]⟩ : ByteArray) _ _ ([] : List (S42)) t106 _ ?sideT ?side1 ?side2 A2.out).mono ?_); (case sideT => exact TabP.below HTB.out (by repeat (first | (with_reducible first | exact HB.out | apply below_alloc | apply pw_below_drewN | apply below_drew1) | exact HB.out))); (case side1 => exact Kd.C_nil _ _); (case side2 => exact Nat.le_refl _); rintro e w8 ⟨rfl, hb⟩; refine ⟨_, rfl, ?_⟩; have n0_ := Aside0.mk (Kd.R_below (by (with_reducible repeat (first | apply Kd.R_alloc | apply Kd.R_drewN | apply Kd.R_drew)); exact HO105.out) hb); have n1_ := Aside0.mk (below_step (by repeat (first | (with_reducible first | exact HB.out | apply below_alloc | apply pw_below_drewN | apply below_drew1) | exact HB.out)) hb); clear HO105; clear HB; have HO105 := n0_; have HB := n1_; clear n0_ n1_; (try clear hb); (try clear hb2); (try clear hk); (try clear hi); obtain ⟨Ao9, co9, eo9⟩ := Kd.R_slice HO105.out; subst eo9; have p107 : 0 ≤ (0 : Int) := (by omega); have q107 : 0 < (t101.length : Int) := of_decide_eq_true (by first | (with_reducible assumption) | assumption); obtain ⟨ad107, A107_3, c107_3, e107, hx107_0, hx107_1, hx107_2, hx107_3, hl107_3, hi107_3⟩ := at_T42 (Kd.R_reads' HO105.out).2.2 0 p107 q107; cases e107; obtain ⟨ce107, hce107, hMe107, hcc107⟩ := Kd.R_get HO105.out z42 0 p107 (by first | exact q107 | exact of_decide_eq_true (by first | (with_reducible assumption) | assumption) | (have e_ := (Kd.R_reads' HO105.out).1; omega)); obtain ⟨ve107_3, rfl, ge107_3⟩ := k42_openM hMe107; have hv107_3 := hcc107 3 _ rfl; rw [add_field _ _ 3 (by omega)] at hv107_3; replace hv107_3 := Option.some.inj (hv107_3.symm.trans hx107_3); rw [hv107_3] at ge107_3; have HL107_3 := Aside0.mk (show Kd.R k42 42 _ _ _ _ ((rd_T42 t101 0).f3) from ge107_3); clear hv107_3 ge107_3; clear hcc107 hce107; have qi107 : (0 < t101.length) = True := eq_true (by omega); (try rw [show ((0 : Int)).toNat = 0 from rfl] at hx107_0); (try rw [show 0 * 4 = 0 from rfl] at hx107_0); (try rw [Addr.add_zero'] at hx107_0); (try rw [show ((0 : Int)).toNat = 0 from rfl] at hx107_1); (try rw [show 0 * 4 = 0 from rfl] at hx107_1); (try rw [Addr.add_zero'] at hx107_1); (try rw [show ((0 : Int)).toNat = 0 from rfl] at hx107_2); (try rw [show 0 * 4 = 0 from rfl] at hx107_2); (try rw [Addr.add_zero'] at hx107_2); (try rw [show ((0 : Int)).toNat = 0 from rfl] at hx107_3); (try rw [show 0 * 4 = 0 from rfl] at hx107_3); (try rw [Addr.add_zero'] at hx107_3); have HR107_3 := Aside0.mk hi107_3; have HC107_3 := Aside0.mk hl107_3; clear hi107_3 hl107_3; replace p107 := eq_true p107; replace q107 := eq_true q107))
          go_ret
          exact ⟨by first | rfl | (simp [errW_none, errW_some] <;> rfl) | (simp [*, errW_none, errW_some] <;> rfl), by repeat (first | (with_reducible first | exact HB.out | apply below_alloc | apply pw_below_drewN | apply below_drew1) | exact HB.out)⟩
        · rw [if_neg c6] at H
          exact absurd H (by simp)
      · rw [if_neg c5] at H
        exact absurd H (by simp)
    · rw [if_neg c4] at H
      exact absurd H (by simp)
  · rw [if_neg c3] at H
    exact absurd H (by simp)

-- GIVEN: function 12 (thyrsuslaw3_within)

-- GIVEN: function 21 (forms_Check)
end Go.Proofs.YtkkmgahgejjhgaaDoor.P
/- What the laws of chapter 3 share: the chapter's example, a number from 0 to n - 1. -/
namespace Go.Proofs.YtkkmgahgejjhgaaDoor.Pure
open Go.RowKit Go.Proofs.YtkkmgahgejjhgaaDoor.P Go.Proofs.YtkkmgahgejjhgaaDoorW.PrintWords Go.Proofs.YtkkmgahgejjhgaaDoorW.PrintLast
theorem i64_of {n : Int} (h : (Lit.int .i64 n).wf = true) : -9223372036854775808 ≤ n ∧ n ≤ 9223372036854775807 := by
  have h1 : IntKind.i64.min ≤ n ∧ n ≤ 9223372036854775807 := by simpa [Lit.wf] using h
  exact h1
theorem within_val {a n : Int} (ha : -9223372036854775808 ≤ a ∧ a ≤ 9223372036854775807) (h0 : 0 < n) (hn : n ≤ 4611686018427387904) : thyrsuslaw3_within.f a n = some (a % n) := by
  unfold thyrsuslaw3_within.f
  rw [if_neg (by omega)]
  have h1 := Int.emod_nonneg a (show n ≠ 0 by omega)
  have h2 := Int.emod_lt_of_pos a h0
  by_cases h : 0 ≤ a
  · rw [Int.tmod_eq_emod_of_nonneg h, if_neg (by omega)]
  · have e := Int.tmod_eq_emod (a := a) (b := n)
    by_cases hd : n ∣ a
    · rw [if_pos (.inr hd)] at e
      have h3 := Int.emod_eq_zero_of_dvd hd
      rw [if_neg (by omega)]
      simp only [Option.some.injEq]
      omega
    · rw [if_neg (by omega)] at e
      rw [if_pos (by omega)]
      simp only [Option.some.injEq]
      unfold wrap64
      omega
theorem known_k (d : Nat) : thyrsuslaw3_known.f (d + 3) = some true := by kernel_rfl
end Go.Proofs.YtkkmgahgejjhgaaDoor.Pure
-- Printed by mkprint.py (a program of this session, over the kit's print). Lean checks it.
namespace Go.Proofs.YtkkmgahgejjhgaaDoor.P
open Go.RowKit Go.Proofs.YtkkmgahgejjhgaaDoorW.PrintWords Go.Proofs.YtkkmgahgejjhgaaDoorW.PrintLast Go.Proofs.YtkkmgahgejjhgaaDoorW.PrintMore
attribute [local go_sem] max2_int min2_int max_two min_two max_three min_three max_four min_four   -- for this text's walks alone
set_option linter.unusedVariables false
set_option linter.unusedSimpArgs false

/-! ### thyrsuslaw3_Same: function 15 -/
-- NOT PRINTED: function 3 (thyrsuslaw3_FormsParse)

/-! ### thyrsuslaw3_Count: function 31 -/
mutual
def thyrsuslaw3_Count.l0 : Nat → Int → Int → Int → Int → Int → ByteArray → List (S38) → Option (Int)
  | 0, _, _, _, _, _, _, _ => none
  | k + 1, x1, x5, x6, x208000, x208001, x208002, x208003 => if x6 < (x208003.length : Int) then (if x5 < x1 then (if 0 ≤ x6 then ((thyrsuslaw3_Count.f k ((rd_T38 x208003 x6).f0) ((rd_T38 x208003 x6).f1) ((rd_T38 x208003 x6).f2) ((rd_T38 x208003 x6).f3) (wrap64 (x1 - x5))).bind fun t209 => (thyrsuslaw3_Count.l0 k x1 (wrap64 (x5 + t209)) (wrap64 (x6 + 1)) x208000 x208001 x208002 x208003)) else (none)) else (some x5)) else (some x5)
def thyrsuslaw3_Count.f : Nat → Int → Int → ByteArray → List (S38) → Int → Option (Int)
  | 0, _, _, _, _, _ => none
  | k + 1, a0_0, a0_1, a0_2, l0_3, a1 => thyrsuslaw3_Count.l0 k a1 1 0 a0_0 a0_1 a0_2 l0_3
end
set_option maxHeartbeats 8000000 in
set_option maxRecDepth 100000 in
theorem thyrsuslaw3_Count.calls (k : Nat) : ∀ (a0_0 : Int) (a0_1 : Int) (a0_2 : ByteArray) (A0_3 : Option Addr) (c0_3 : Nat) (l0_3 : List (S38)) (a1 : Int) (r : Int) (w : World) (hr0_3 : Kd.C k38 w A0_3 l0_3.length l0_3) (hc0_3 : l0_3.length ≤ c0_3) (h : thyrsuslaw3_Count.f k a0_0 a0_1 a0_2 l0_3 a1 = some r),
    Calls Tryd.prog 31 #[.agg #[.int .i64 a0_0, .int .i64 a0_1, .string a0_2, .slice A0_3 l0_3.length c0_3], .int .i64 a1] w fun e w' => e = .returned (.int .i64 r) ∧ Below w.heap.size w w' := by
  induction k using Nat.strongRecOn with
  | _ k ih =>
  intro a0_0 a0_1 a0_2 A0_3 c0_3 l0_3 a1 r w hr0_3 hc0_3 h
  cases k with
  | zero => exact absurd h (by simp [thyrsuslaw3_Count.f])
  | succ k =>
  simp only [thyrsuslaw3_Count.f] at h
  have hu38 := Tryd.underlying38
  have HR0_3 := Aside0.mk hr0_3
  have HC0_3 := Aside0.mk hc0_3
  clear hr0_3 hc0_3
  have HB := Aside0.mk (Below.refl w.heap.size w)
  have H : (thyrsuslaw3_Count.l0 k a1 1 0 a0_0 a0_1 a0_2 l0_3) = some r := h
  clear h
  have H' := Aside0.mk H
  clear H
  go_enter Tryd.func31, Tryd.ntmps31
  go_wp2_with (first | ((with_reducible refine gate_dst (N := 2) rfl ?_); refine box_event ?hg (N := 2) ?hd (cs := #[.int .i64 a0_0, .int .i64 a0_1, .string a0_2, .slice A0_3 l0_3.length c0_3]) (t := 38) ?hr ?_; (case hd => rfl); (case hg => rfl); (case hr => first | (go_simp; done) | (go_simp; rfl)); intro gb207 hg w3 hbox hb; have n0_ := Aside0.mk (below_step (by repeat (first | (with_reducible first | exact HB.out | apply below_alloc | apply pw_below_drewN | apply below_drew1) | exact HB.out)) hb); have n1_ := Aside0.mk (hbox); have n2_ := Aside0.mk ((by rw [hg]; exact (below_size (by repeat (first | (with_reducible first | exact HB.out | apply below_alloc | apply pw_below_drewN | apply below_drew1) | exact HB.out))) : w.heap.size ≤ gb207)); have n3_ := Aside0.mk ((by rw [hg]; exact (below_size (by repeat (first | (with_reducible first | exact HB.out | apply below_alloc | apply pw_below_drewN | apply below_drew1) | exact HB.out))) : w.heap.size ≤ gb207)); clear HB; have HB := n0_; have BK207 := n1_; have GW207 := n2_; have GE207 := n3_; clear n0_ n1_ n2_ n3_; clear hb hbox hg))
  go_loopg [5, 6] k (fun kq v5 v6 w' => ∃ (x5_1 : Int) (x6_1 : Int), v5 = .int .i64 x5_1 ∧ v6 = .int .i64 x6_1 ∧ Aside0 (thyrsuslaw3_Count.l0 kq a1 x5_1 x6_1 a0_0 a0_1 a0_2 l0_3 = some r) ∧ Aside0 (kq ≤ k) ∧ Aside0 (w'.heap[gb207]? = some (.cells #[.int .i64 a0_0, .int .i64 a0_1, .string a0_2, (.slice A0_3 l0_3.length c0_3)] 38 (0, 0))) ∧ Aside0 (Below w.heap.size w w'))
  case atStart => exact ⟨(1), (0), (by first | rfl | (simp; done) | (simp [*]; done)), (by first | rfl | (simp; done) | (simp [*]; done)), H', ⟨Nat.le_refl _⟩, ⟨by (with_reducible repeat (first | refine blk_drewN ?_ _ | refine blk_drew ?_ | refine blk_alloc ?_ _)); exact BK207.out⟩, ⟨by repeat (first | (with_reducible first | exact HB.out | apply below_alloc | apply pw_below_drewN | apply below_drew1 | refine below_set ?_ GE207.out) | exact HB.out)⟩⟩
  case round =>
    clear H'
    try clear p2
    try clear c3
    try clear BK207
    try clear HB
    obtain ⟨x5_1, x6_1, rfl, rfl, HA, HK1, BK207, HB⟩ := hrel
    cases gk with
    | zero => exact absurd HA.out (by simp [thyrsuslaw3_Count.l0])
    | succ k1 =>
      have H := HA.out
      clear HA
      simp only [thyrsuslaw3_Count.l0] at H
      by_cases c4 : x6_1 < (l0_3.length : Int)
      · rw [if_pos c4] at H
        have c4b0 : decide (x6_1 < (l0_3.length : Int)) = true := decide_eq_true c4
        clear c4
        by_cases c5 : x5_1 < a1
        · rw [if_pos c5] at H
          have c5b0 : decide (x5_1 < a1) = true := decide_eq_true c5
          clear c5
          by_cases c6 : 0 ≤ x6_1
          · rw [if_pos c6] at H
            have c6b0 : decide (0 ≤ x6_1) = true := decide_eq_true c6
            clear c6
            replace H := Option.bind_eq_some_iff.mp H
            obtain ⟨t209, A70, H⟩ := H
            replace H : (thyrsuslaw3_Count.l0 k1 a1 (wrap64 (x5_1 + t209)) (wrap64 (x6_1 + 1)) a0_0 a0_1 a0_2 l0_3) = some r := H
            have A7 := Aside0.mk A70
            clear A70
            have H' := Aside0.mk H
            clear H
            have hcz8_0 : wr.cell? ⟨gb207, 0, none⟩ = some (.int .i64 a0_0) := (blk_cell BK207.out 0).trans rfl
            have hcz8_1 : wr.cell? ⟨gb207, 1, none⟩ = some (.int .i64 a0_1) := (blk_cell BK207.out 1).trans rfl
            have hcz8_2 : wr.cell? ⟨gb207, 2, none⟩ = some (.string a0_2) := (blk_cell BK207.out 2).trans rfl
            have hcz8_3 : wr.cell? ⟨gb207, 3, none⟩ = some (.slice A0_3 l0_3.length c0_3) := (blk_cell BK207.out 3).trans rfl
            have hfz8_0 := blk_frozen BK207.out 0
            have hfz8_1 := blk_frozen BK207.out 1
            have hfz8_2 := blk_frozen BK207.out 2
            have hfz8_3 := blk_frozen BK207.out 3
            have p208 : 0 ≤ (x6_1 : Int) := of_decide_eq_true (by first | (with_reducible assumption) | assumption)
            have q208 : x6_1 < (l0_3.length : Int) := of_decide_eq_true (by first | (with_reducible assumption) | assumption)
            obtain ⟨ad208, A208_3, c208_3, e208, hx208_0, hx208_1, hx208_2, hx208_3, hl208_3, hi208_3⟩ := at_T38 HR0_3.out x6_1 p208 q208
            cases e208
            replace hx208_0 := (HB.out.cell (World.block_lt_of_cell? w _ hx208_0)).trans hx208_0
            replace hx208_1 := (HB.out.cell (World.block_lt_of_cell? w _ hx208_1)).trans hx208_1
            replace hx208_2 := (HB.out.cell (World.block_lt_of_cell? w _ hx208_2)).trans hx208_2
            replace hx208_3 := (HB.out.cell (World.block_lt_of_cell? w _ hx208_3)).trans hx208_3
            have HR208_3 := Aside0.mk hi208_3
            have HC208_3 := Aside0.mk hl208_3
            clear hi208_3 hl208_3
            replace p208 := eq_true p208
            replace q208 := eq_true q208
            go_wp2_with (first | ((with_reducible refine gate_callee (f := 31) rfl ?_); refine goesL_ (some 28) rfl rfl Tryd.func31 (by kernel_rfl) rfl #[.agg #[.int .i64 ((rd_T38 l0_3 x6_1).f0), .int .i64 ((rd_T38 l0_3 x6_1).f1), .string ((rd_T38 l0_3 x6_1).f2), .slice A208_3 ((rd_T38 l0_3 x6_1).f3).length c208_3], .int .i64 (wrap64 (a1 - x5_1))] rfl (by (try simp only [List.map_toArray, List.map_cons, List.map_nil]); first | done | rfl | (simp only [List.length_drop, List.length_take]; rfl)) ?_; (with_reducible refine (ih k1 (by have := HK1.out; omega) ((rd_T38 l0_3 x6_1).f0) ((rd_T38 l0_3 x6_1).f1) ((rd_T38 l0_3 x6_1).f2) _ _ ((rd_T38 l0_3 x6_1).f3) (wrap64 (a1 - x5_1)) t209 _ ?side1 ?side2 A7.out).mono ?_); (case side1 => repeat (first | exact (Kd.C_below HR208_3.out HB.out) | (with_reducible refine Kd.C_alloc ?_ _) | (with_reducible refine Kd.C_drewN ?_ _) | (with_reducible refine Kd.C_drew ?_))); (case side2 => exact HC208_3.out); rintro e w9 ⟨rfl, hb⟩; refine ⟨_, rfl, ?_⟩; have n0_ := Aside0.mk (blk_below (g := gb207) (o := .cells #[.int .i64 a0_0, .int .i64 a0_1, .string a0_2, .slice (some ad208) l0_3.length c0_3] 38 (0, 0)) (by (with_reducible repeat (first | refine blk_drewN ?_ _ | refine blk_drew ?_ | refine blk_alloc ?_ _)); exact BK207.out) hb); have n1_ := Aside0.mk (below_step (by repeat (first | (with_reducible first | exact HB.out | apply below_alloc | apply pw_below_drewN | apply below_drew1 | refine below_set ?_ GE207.out) | exact HB.out)) hb); clear BK207; clear HB; have BK207 := n0_; have HB := n1_; clear n0_ n1_; (try clear hb); (try clear hb2); (try clear hk); (try clear hi)))
            go_roundg k1
            case measure => have := HK1.out; omega
            case rel => exact ⟨(wrap64 (x5_1 + t209)), (wrap64 (x6_1 + 1)), (by first | rfl | (simp; done) | (simp [*]; done)), (by first | rfl | (simp; done) | (simp [*]; done)), H', ⟨by have := HK1.out; omega⟩, ⟨by (with_reducible repeat (first | refine blk_drewN ?_ _ | refine blk_drew ?_ | refine blk_alloc ?_ _)); exact BK207.out⟩, ⟨by repeat (first | (with_reducible first | exact HB.out | apply below_alloc | apply pw_below_drewN | apply below_drew1 | refine below_set ?_ GE207.out) | exact HB.out)⟩⟩
          · rw [if_neg c6] at H
            exact absurd H (by simp)
        · rw [if_neg c5] at H
          have c5b0 : decide (x5_1 < a1) = false := decide_eq_false c5
          clear c5
          obtain rfl := Option.some.inj H
          have hcz10_0 : wr.cell? ⟨gb207, 0, none⟩ = some (.int .i64 a0_0) := (blk_cell BK207.out 0).trans rfl
          have hcz10_1 : wr.cell? ⟨gb207, 1, none⟩ = some (.int .i64 a0_1) := (blk_cell BK207.out 1).trans rfl
          have hcz10_2 : wr.cell? ⟨gb207, 2, none⟩ = some (.string a0_2) := (blk_cell BK207.out 2).trans rfl
          have hcz10_3 : wr.cell? ⟨gb207, 3, none⟩ = some (.slice A0_3 l0_3.length c0_3) := (blk_cell BK207.out 3).trans rfl
          have hfz10_0 := blk_frozen BK207.out 0
          have hfz10_1 := blk_frozen BK207.out 1
          have hfz10_2 := blk_frozen BK207.out 2
          have hfz10_3 := blk_frozen BK207.out 3
          go_wp2
          go_ret
          exact ⟨by first | rfl | (simp [errW_none, errW_some] <;> rfl) | (simp [*, errW_none, errW_some] <;> rfl), by repeat (first | (with_reducible first | exact HB.out | apply below_alloc | apply pw_below_drewN | apply below_drew1 | refine below_set ?_ GE207.out) | exact HB.out)⟩
      · rw [if_neg c4] at H
        have c4b0 : decide (x6_1 < (l0_3.length : Int)) = false := decide_eq_false c4
        clear c4
        obtain rfl := Option.some.inj H
        have hcz11_0 : wr.cell? ⟨gb207, 0, none⟩ = some (.int .i64 a0_0) := (blk_cell BK207.out 0).trans rfl
        have hcz11_1 : wr.cell? ⟨gb207, 1, none⟩ = some (.int .i64 a0_1) := (blk_cell BK207.out 1).trans rfl
        have hcz11_2 : wr.cell? ⟨gb207, 2, none⟩ = some (.string a0_2) := (blk_cell BK207.out 2).trans rfl
        have hcz11_3 : wr.cell? ⟨gb207, 3, none⟩ = some (.slice A0_3 l0_3.length c0_3) := (blk_cell BK207.out 3).trans rfl
        have hfz11_0 := blk_frozen BK207.out 0
        have hfz11_1 := blk_frozen BK207.out 1
        have hfz11_2 := blk_frozen BK207.out 2
        have hfz11_3 := blk_frozen BK207.out 3
        go_wp2
        go_ret
        exact ⟨by first | rfl | (simp [errW_none, errW_some] <;> rfl) | (simp [*, errW_none, errW_some] <;> rfl), by repeat (first | (with_reducible first | exact HB.out | apply below_alloc | apply pw_below_drewN | apply below_drew1 | refine below_set ?_ GE207.out) | exact HB.out)⟩

/-! ### thyrsuslaw3_Few: function 16 -/
def thyrsuslaw3_Few.f (k : Nat) (a0_0 : Int) (a0_1 : Int) (a0_2 : ByteArray) (l0_3 : List (S38)) : Option (Bool) := (thyrsuslaw3_Count.f k a0_0 a0_1 a0_2 l0_3 200).bind fun t211 => (some (decide (t211 < 200)))
set_option maxHeartbeats 8000000 in
set_option maxRecDepth 100000 in
theorem thyrsuslaw3_Few.calls (k : Nat) (a0_0 : Int) (a0_1 : Int) (a0_2 : ByteArray) (A0_3 : Option Addr) (c0_3 : Nat) (l0_3 : List (S38)) (r : Bool) (w : World) (hr0_3 : Kd.C k38 w A0_3 l0_3.length l0_3) (hc0_3 : l0_3.length ≤ c0_3) (h : thyrsuslaw3_Few.f k a0_0 a0_1 a0_2 l0_3 = some r) :
    Calls Tryd.prog 16 #[.agg #[.int .i64 a0_0, .int .i64 a0_1, .string a0_2, .slice A0_3 l0_3.length c0_3]] w fun e w' => e = .returned (.bool r) ∧ Below w.heap.size w w' := by
  have hu38 := Tryd.underlying38
  have HR0_3 := Aside0.mk hr0_3
  have HC0_3 := Aside0.mk hc0_3
  clear hr0_3 hc0_3
  have HB := Aside0.mk (Below.refl w.heap.size w)
  have H : ((thyrsuslaw3_Count.f k a0_0 a0_1 a0_2 l0_3 200).bind fun t211 => (some (decide (t211 < 200)))) = some r := h
  clear h
  replace H := Option.bind_eq_some_iff.mp H
  obtain ⟨t211, A20, H⟩ := H
  replace H : (some (decide (t211 < 200))) = some r := H
  have A2 := Aside0.mk A20
  clear A20
  obtain rfl := Option.some.inj H
  go_enter Tryd.func16, Tryd.ntmps16
  go_wp2_with (first | ((with_reducible refine gate_dst (N := 1) rfl ?_); refine box_event ?hg (N := 1) ?hd (cs := #[.int .i64 a0_0, .int .i64 a0_1, .string a0_2, .slice A0_3 l0_3.length c0_3]) (t := 38) ?hr ?_; (case hd => rfl); (case hg => rfl); (case hr => first | (go_simp; done) | (go_simp; rfl)); intro gb210 hg w3 hbox hb; have n0_ := Aside0.mk (below_step (by repeat (first | (with_reducible first | exact HB.out | apply below_alloc | apply pw_below_drewN | apply below_drew1) | exact HB.out)) hb); have n1_ := Aside0.mk (hbox); have n2_ := Aside0.mk ((by rw [hg]; exact (below_size (by repeat (first | (with_reducible first | exact HB.out | apply below_alloc | apply pw_below_drewN | apply below_drew1) | exact HB.out))) : w.heap.size ≤ gb210)); have n3_ := Aside0.mk ((by rw [hg]; exact (below_size (by repeat (first | (with_reducible first | exact HB.out | apply below_alloc | apply pw_below_drewN | apply below_drew1) | exact HB.out))) : w.heap.size ≤ gb210)); clear HB; have HB := n0_; have BK210 := n1_; have GW210 := n2_; have GE210 := n3_; clear n0_ n1_ n2_ n3_; clear hb hbox hg; have hcz4_0 : w3.cell? ⟨gb210, 0, none⟩ = some (.int .i64 a0_0) := (blk_cell BK210.out 0).trans rfl; have hcz4_1 : w3.cell? ⟨gb210, 1, none⟩ = some (.int .i64 a0_1) := (blk_cell BK210.out 1).trans rfl; have hcz4_2 : w3.cell? ⟨gb210, 2, none⟩ = some (.string a0_2) := (blk_cell BK210.out 2).trans rfl; have hcz4_3 : w3.cell? ⟨gb210, 3, none⟩ = some (.slice A0_3 l0_3.length c0_3) := (blk_cell BK210.out 3).trans rfl; have hfz4_0 := blk_frozen BK210.out 0; have hfz4_1 := blk_frozen BK210.out 1; have hfz4_2 := blk_frozen BK210.out 2; have hfz4_3 := blk_frozen BK210.out 3) | ((with_reducible refine gate_callee (f := 31) rfl ?_); refine goesL_ (some 4) rfl rfl Tryd.func31 (by kernel_rfl) rfl #[.agg #[.int .i64 a0_0, .int .i64 a0_1, .string a0_2, .slice A0_3 l0_3.length c0_3], .int .i64 200] rfl (by (try simp only [List.map_toArray, List.map_cons, List.map_nil]); first | done | rfl | (simp only [List.length_drop, List.length_take]; rfl)) ?_; (with_reducible refine (thyrsuslaw3_Count.calls k a0_0 a0_1 a0_2 _ _ l0_3 200 t211 _ ?side1 ?side2 A2.out).mono ?_); (case side1 => repeat (first | exact (Kd.C_below HR0_3.out HB.out) | (with_reducible refine Kd.C_alloc ?_ _) | (with_reducible refine Kd.C_drewN ?_ _) | (with_reducible refine Kd.C_drew ?_))); (case side2 => exact HC0_3.out); rintro e w5 ⟨rfl, hb⟩; refine ⟨_, rfl, ?_⟩; have n0_ := Aside0.mk (blk_below (g := gb210) (o := .cells #[.int .i64 a0_0, .int .i64 a0_1, .string a0_2, .slice A0_3 l0_3.length c0_3] 38 (0, 0)) (by (with_reducible repeat (first | refine blk_drewN ?_ _ | refine blk_drew ?_ | refine blk_alloc ?_ _)); exact BK210.out) hb); have n1_ := Aside0.mk (below_step (by repeat (first | (with_reducible first | exact HB.out | apply below_alloc | apply pw_below_drewN | apply below_drew1 | refine below_set ?_ GE210.out) | exact HB.out)) hb); clear BK210; clear HB; have BK210 := n0_; have HB := n1_; clear n0_ n1_; (try clear hb); (try clear hb2); (try clear hk); (try clear hi)))
  go_ret
  exact ⟨by first | rfl | (simp [errW_none, errW_some] <;> rfl) | (simp [*, errW_none, errW_some] <;> rfl), by repeat (first | (with_reducible first | exact HB.out | apply below_alloc | apply pw_below_drewN | apply below_drew1 | refine below_set ?_ GE210.out) | exact HB.out)⟩

/-! ### thyrsusref3_Digits: function 32 -/
def thyrsusref3_Digits.f : Nat → Int → Option (ByteArray)
  | 0, _ => none
  | k + 1, a0 => if a0 < 0 then (if a0 = (-9223372036854775808) then (some (⟨#[45, 57, 50, 50, 51, 51, 55, 50, 48, 51, 54, 56, 53, 52, 55, 55, 53, 56, 48, 56]⟩ : ByteArray)) else ((thyrsusref3_Digits.f k (wrap64 (-a0))).bind fun t212 => (if 1 + t212.size ≤ 9223372036854775807 then (some ((⟨#[45]⟩ : ByteArray) ++ t212)) else (none)))) else (if a0 ≥ 10 then ((thyrsusref3_Digits.f k (wrap64 (Int.tdiv a0 10))).bind fun t213 => ((thyrsusref3_Digits.f k (Int.tmod a0 10)).bind fun t214 => (if t213.size + t214.size ≤ 9223372036854775807 then (some (t213 ++ t214)) else (none)))) else (some (strOfNums (([(wrap64 (48 + a0)) % 256] : List Int)))))
set_option maxHeartbeats 8000000 in
set_option maxRecDepth 100000 in
theorem thyrsusref3_Digits.calls (k : Nat) : ∀ (a0 : Int) (r : ByteArray) (w : World) (h : thyrsusref3_Digits.f k a0 = some r),
    Calls Tryd.prog 32 #[.int .i64 a0] w fun e w' => e = .returned (.string r) ∧ Below w.heap.size w w' := by
  induction k using Nat.strongRecOn with
  | _ k ih =>
  intro a0 r w h
  cases k with
  | zero => exact absurd h (by simp [thyrsusref3_Digits.f])
  | succ k =>
  simp only [thyrsusref3_Digits.f] at h
  have HB := Aside0.mk (Below.refl w.heap.size w)
  have H : (if a0 < 0 then (if a0 = (-9223372036854775808) then (some (⟨#[45, 57, 50, 50, 51, 51, 55, 50, 48, 51, 54, 56, 53, 52, 55, 55, 53, 56, 48, 56]⟩ : ByteArray)) else ((thyrsusref3_Digits.f k (wrap64 (-a0))).bind fun t212 => (if 1 + t212.size ≤ 9223372036854775807 then (some ((⟨#[45]⟩ : ByteArray) ++ t212)) else (none)))) else (if a0 ≥ 10 then ((thyrsusref3_Digits.f k (wrap64 (Int.tdiv a0 10))).bind fun t213 => ((thyrsusref3_Digits.f k (Int.tmod a0 10)).bind fun t214 => (if t213.size + t214.size ≤ 9223372036854775807 then (some (t213 ++ t214)) else (none)))) else (some (strOfNums (([(wrap64 (48 + a0)) % 256] : List Int)))))) = some r := h
  clear h
  by_cases c2 : a0 < 0
  · rw [if_pos c2] at H
    have c2b0 : decide (a0 < 0) = true := decide_eq_true c2
    clear c2
    by_cases c3 : a0 = (-9223372036854775808)
    · rw [if_pos c3] at H
      have c3b0 : (a0 == (-9223372036854775808)) = true := beq_iff_eq.mpr c3
      have c3b1 : (a0 != (-9223372036854775808)) = false := bne_eq_false_iff_eq.mpr c3
      clear c3
      obtain rfl := Option.some.inj H
      go_enter Tryd.func32, Tryd.ntmps32
      go_wp2
      go_ret
      exact ⟨by first | rfl | (simp [errW_none, errW_some] <;> rfl) | (simp [*, errW_none, errW_some] <;> rfl), by repeat (first | (with_reducible first | exact HB.out | apply below_alloc | apply pw_below_drewN | apply below_drew1) | exact HB.out)⟩
    · rw [if_neg c3] at H
      have c3b0 : (a0 == (-9223372036854775808)) = false := beq_eq_false_iff_ne.mpr c3
      have c3b1 : (a0 != (-9223372036854775808)) = true := bne_iff_ne.mpr c3
      replace H := Option.bind_eq_some_iff.mp H
      obtain ⟨t212, A40, H⟩ := H
      replace H : (if 1 + t212.size ≤ 9223372036854775807 then (some ((⟨#[45]⟩ : ByteArray) ++ t212)) else (none)) = some r := H
      have A4 := Aside0.mk A40
      clear A40
      by_cases c5 : 1 + t212.size ≤ 9223372036854775807
      · rw [if_pos c5] at H
        have c5b0 := eq_true c5
        have c5b1 : decide (1 + t212.size ≤ 9223372036854775807) = true := decide_eq_true c5
        try have c5b2 : (9223372036854775807 < 1 + t212.size) = False := eq_false (Nat.not_lt.2 c5)
        obtain rfl := Option.some.inj H
        go_enter Tryd.func32, Tryd.ntmps32
        go_wp2_with (first | ((with_reducible refine gate_callee (f := 32) rfl ?_); refine goesL_ (some 9) rfl rfl Tryd.func32 (by kernel_rfl) rfl #[.int .i64 (wrap64 (-a0))] rfl (by (try simp only [List.map_toArray, List.map_cons, List.map_nil]); first | done | rfl | (simp only [List.length_drop, List.length_take]; rfl)) ?_; (with_reducible refine (ih k (by omega) (wrap64 (-a0)) t212 _ A4.out).mono ?_); rintro e w6 ⟨rfl, hb⟩; refine ⟨_, rfl, ?_⟩; have n0_ := Aside0.mk (below_step (by repeat (first | (with_reducible first | exact HB.out | apply below_alloc | apply pw_below_drewN | apply below_drew1) | exact HB.out)) hb); clear HB; have HB := n0_; clear n0_; (try clear hb); (try clear hb2); (try clear hk); (try clear hi)))
        go_ret
        exact ⟨by first | rfl | (simp [errW_none, errW_some] <;> rfl) | (simp [*, errW_none, errW_some] <;> rfl), by repeat (first | (with_reducible first | exact HB.out | apply below_alloc | apply pw_below_drewN | apply below_drew1) | exact HB.out)⟩
      · rw [if_neg c5] at H
        exact absurd H (by simp)
  · rw [if_neg c2] at H
    have c2b0 : decide (a0 < 0) = false := decide_eq_false c2
    clear c2
    by_cases c7 : a0 ≥ 10
    · rw [if_pos c7] at H
      have c7b0 : decide (10 ≤ a0) = true := decide_eq_true c7
      clear c7
      replace H := Option.bind_eq_some_iff.mp H
      obtain ⟨t213, A80, H⟩ := H
      replace H : ((thyrsusref3_Digits.f k (Int.tmod a0 10)).bind fun t214 => (if t213.size + t214.size ≤ 9223372036854775807 then (some (t213 ++ t214)) else (none))) = some r := H
      have A8 := Aside0.mk A80
      clear A80
      replace H := Option.bind_eq_some_iff.mp H
      obtain ⟨t214, A90, H⟩ := H
      replace H : (if t213.size + t214.size ≤ 9223372036854775807 then (some (t213 ++ t214)) else (none)) = some r := H
      have A9 := Aside0.mk A90
      clear A90
      by_cases c10 : t213.size + t214.size ≤ 9223372036854775807
      · rw [if_pos c10] at H
        have c10b0 := eq_true c10
        have c10b1 : decide (t213.size + t214.size ≤ 9223372036854775807) = true := decide_eq_true c10
        try have c10b2 : (9223372036854775807 < t213.size + t214.size) = False := eq_false (Nat.not_lt.2 c10)
        obtain rfl := Option.some.inj H
        go_enter Tryd.func32, Tryd.ntmps32
        go_wp2_with (first | ((with_reducible refine gate_callee (f := 32) rfl ?_); refine goesL_ (some 15) rfl rfl Tryd.func32 (by kernel_rfl) rfl #[.int .i64 (wrap64 (Int.tdiv a0 10))] rfl (by (try simp only [List.map_toArray, List.map_cons, List.map_nil]); first | done | rfl | (simp only [List.length_drop, List.length_take]; rfl)) ?_; (with_reducible refine (ih k (by omega) (wrap64 (Int.tdiv a0 10)) t213 _ A8.out).mono ?_); rintro e w11 ⟨rfl, hb⟩; refine ⟨_, rfl, ?_⟩; have n0_ := Aside0.mk (below_step (by repeat (first | (with_reducible first | exact HB.out | apply below_alloc | apply pw_below_drewN | apply below_drew1) | exact HB.out)) hb); clear HB; have HB := n0_; clear n0_; (try clear hb); (try clear hb2); (try clear hk); (try clear hi)) | ((with_reducible refine gate_callee (f := 32) rfl ?_); refine goesL_ (some 18) rfl rfl Tryd.func32 (by kernel_rfl) rfl #[.int .i64 (Int.tmod a0 10)] rfl (by (try simp only [List.map_toArray, List.map_cons, List.map_nil]); first | done | rfl | (simp only [List.length_drop, List.length_take]; rfl)) ?_; (with_reducible refine (ih k (by omega) (Int.tmod a0 10) t214 _ A9.out).mono ?_); rintro e w12 ⟨rfl, hb⟩; refine ⟨_, rfl, ?_⟩; have n0_ := Aside0.mk (below_step (by repeat (first | (with_reducible first | exact HB.out | apply below_alloc | apply pw_below_drewN | apply below_drew1) | exact HB.out)) hb); clear HB; have HB := n0_; clear n0_; (try clear hb); (try clear hb2); (try clear hk); (try clear hi)))
        go_ret
        exact ⟨by first | rfl | (simp [errW_none, errW_some] <;> rfl) | (simp [*, errW_none, errW_some] <;> rfl), by repeat (first | (with_reducible first | exact HB.out | apply below_alloc | apply pw_below_drewN | apply below_drew1) | exact HB.out)⟩
      · rw [if_neg c10] at H
        exact absurd H (by simp)
    · rw [if_neg c7] at H
      have c7b0 : decide (10 ≤ a0) = false := decide_eq_false c7
      clear c7
      obtain ⟨y215, hy215⟩ : ∃ y_ : List Int, y_ = (([(wrap64 (48 + a0)) % 256] : List Int)) := ⟨_, rfl⟩
      replace H : (some (strOfNums y215)) = some r := by first | (rw [hy215]; with_reducible exact H) | (have H2_ := (Option.bind_some _ _).symm.trans H; rw [hy215]; with_reducible exact H2_) | (have H2_ := (Option.bind_some _ _).symm.trans H; with_reducible exact H2_) | with_reducible exact H | (rw [hy215]; exact H) | exact H
      have Ny215 := Aside0.mk hy215
      clear hy215
      obtain rfl := Option.some.inj H
      go_enter Tryd.func32, Tryd.ntmps32
      go_wp2_with (first | ((with_reducible refine gate_dst (N := 23) rfl ?_); refine Kd.R_lit (Kd.int .u8) _ 5 ?hg (N := 23) ?hd (xs := ([(wrap64 (48 + a0)) % 256] : List Int)) (inner := [.int .u8 ((wrap64 (48 + a0)) % 256)]) (ok := fun _ => True) (okp := fun _ => True) ?hr ?hp (fun _ hk => hk) trivial (Below.refl _ _) (Nat.le_refl _) (by simp) ?_; (case hd => rfl); (case hg => rfl); (case hr => first | (go_simp; done) | (go_simp; rfl)); (case hp => exact (Reps.one (show Kd.M (Kd.int .u8) _ _ _ ((wrap64 (48 + a0)) % 256) [.int .u8 ((wrap64 (48 + a0)) % 256)] from rfl) (Reps.none _ _))); intro v216 w13 ho14 hb hg_ hnew_; clear hg_ hnew_; (first | rw [← Ny215.out] at ho14 | (simp only [Int.reduceToNat] at ho14; rw [← Ny215.out] at ho14)); have n0_ := Aside0.mk (Kd.R_lower ho14 (below_size (by repeat (first | (with_reducible first | exact HB.out | apply below_alloc | apply pw_below_drewN | apply below_drew1) | exact HB.out)))); have n1_ := Aside0.mk (below_step (by repeat (first | (with_reducible first | exact HB.out | apply below_alloc | apply pw_below_drewN | apply below_drew1) | exact HB.out)) hb); clear HB; have HO217 := n0_; have HB := n1_; clear n0_ n1_; clear hb ho14; have hcv15 := own_string (P := Tryd.prog) Tryd.underlying25 Tryd.underlying5 Tryd.underlying9 (Kd.own_of_R HO217.out)))
      go_ret
      exact ⟨by first | rfl | (simp [errW_none, errW_some] <;> rfl) | (simp [*, errW_none, errW_some] <;> rfl), by repeat (first | (with_reducible first | exact HB.out | apply below_alloc | apply pw_below_drewN | apply below_drew1) | exact HB.out)⟩

end Go.Proofs.YtkkmgahgejjhgaaDoor.P
/- Chapter 3's Count, Few, Make: what they come to: a form that may be, not too deep, not too great. No conditions but those that each theorem tells. -/
namespace Go.Proofs.YtkkmgahgejjhgaaDoor.Pure
open Go.RowKit Go.Proofs.YtkkmgahgejjhgaaDoor.P Go.Proofs.YtkkmgahgejjhgaaDoorW.PrintWords Go.Proofs.YtkkmgahgejjhgaaDoorW.PrintLast Go.Proofs.YtkkmgahgejjhgaaDoorW.PrintMore
set_option linter.unusedVariables false
set_option linter.unusedSimpArgs false
/-- Numbers of their kind, lists that memory can hold. -/
inductive WF38 : S38 → Prop
  | mk (a b : Int) (s : ByteArray) (l : List S38) (ha : (Lit.int .i64 a).wf = true) (hb : (Lit.int .i64 b).wf = true) (hn : l.length ≤ 9223372036854775807) (hl : ∀ x ∈ l, WF38 x) : WF38 ⟨a, b, s, l⟩
mutual
def size38 : S38 → Nat
  | ⟨_, _, _, l⟩ => 1 + sizes38 l
def sizes38 : List S38 → Nat
  | [] => 0
  | x :: l => size38 x + sizes38 l
end
theorem rd38 {l : List S38} {i : Nat} (h : i < l.length) : rd_T38 l (i : Int) = l[i] := by simp [rd_T38, h]
theorem rd42 {l : List S42} {i : Nat} (h : i < l.length) : rd_T42 l (i : Int) = l[i] := by simp [rd_T42, h]
theorem sizes38_drop {l : List S38} {i : Nat} (h : i < l.length) : sizes38 (l.drop i) = size38 l[i] + sizes38 (l.drop (i + 1)) := by
  rw [List.drop_eq_getElem_cons h]; rfl
theorem sizes38_len : ∀ l : List S38, l.length ≤ sizes38 l
  | [] => by simp [sizes38]
  | ⟨a, b, c, k⟩ :: l => by
    have := sizes38_len l
    simp [sizes38, size38]
    omega
theorem wrap_id {n : Int} (h : -9223372036854775808 ≤ n ∧ n ≤ 9223372036854775807) : wrap64 n = n := by unfold wrap64; omega
theorem count_ev {x : S38} (h : WF38 x) : ∀ m : Int, 1 ≤ m → m ≤ 1000000 → ∃ c : Int, Ev (fun k => thyrsuslaw3_Count.f k x.f0 x.f1 x.f2 x.f3 m) c ∧ 1 ≤ c ∧ c ≤ m ∧ (c < m → c = size38 x) := by
  induction h with
  | mk a b s l ha hb hn hl ih =>
    intro m hm hm2
    have loop : ∀ (d i : Nat) (n : Int), i + d = l.length → 1 ≤ n → n ≤ m → ∃ c : Int, Ev (fun k => thyrsuslaw3_Count.l0 k m n (i : Int) a b s l) c ∧ n ≤ c ∧ c ≤ m ∧ (c < m → c = n + sizes38 (l.drop i)) := by
      intro d
      induction d with
      | zero =>
        intro i n hi h1 h2
        refine ⟨n, Ev.step (f := fun _ => some n) (fun k => ?_) (Ev.now n), by omega, h2, fun _ => ?_⟩
        · simp only [thyrsuslaw3_Count.l0]
          rw [if_neg (by omega)]
        · rw [List.drop_of_length_le (by omega)]
          simp [sizes38]
      | succ d ihd =>
        intro i n hi h1 h2
        have hil : i < l.length := by omega
        by_cases hnm : n < m
        · obtain ⟨c1, e1, g1, g2, g3⟩ := ih l[i] (List.getElem_mem hil) (m - n) (by omega) (by omega)
          obtain ⟨c, e2, q1, q2, q3⟩ := ihd (i + 1) (n + c1) (by omega) (by omega) (by omega)
          refine ⟨c, Ev.step (f := fun k => (thyrsuslaw3_Count.f k l[i].f0 l[i].f1 l[i].f2 l[i].f3 (m - n)).bind fun t => thyrsuslaw3_Count.l0 k m (wrap64 (n + t)) (wrap64 ((i : Int) + 1)) a b s l) (fun k => ?_) (Ev.bind e1 ?_), by omega, q2, fun hc => ?_⟩
          · simp only [thyrsuslaw3_Count.l0]
            rw [if_pos (by omega), if_pos hnm, if_pos (by omega), rd38 hil, wrap_id (n := m - n) (by omega)]
          · rw [wrap_id (n := n + c1) (by omega), wrap_id (n := (i : Int) + 1) (by omega)]
            exact e2
          · rw [q3 hc, sizes38_drop hil]
            have := g3 (by omega)
            omega
        · refine ⟨n, Ev.step (f := fun _ => some n) (fun k => ?_) (Ev.now n), by omega, h2, fun hc => by omega⟩
          simp only [thyrsuslaw3_Count.l0]
          rw [if_pos (by omega), if_neg hnm]
    obtain ⟨c, e, q1, q2, q3⟩ := loop l.length 0 1 (by omega) (by omega) (by omega)
    refine ⟨c, Ev.step (f := fun k => thyrsuslaw3_Count.l0 k m 1 0 a b s l) (fun k => by simp only [thyrsuslaw3_Count.f]) e, q1, q2, fun hc => ?_⟩
    rw [q3 hc]
    simp [size38]
/-- Few raw nodes, or not; if few, that many there are. -/
theorem few_ev {x : S38} (h : WF38 x) : ∃ b : Bool, Ev (fun k => thyrsuslaw3_Few.f k x.f0 x.f1 x.f2 x.f3) b ∧ (b = true → size38 x < 200) := by
  obtain ⟨c, e, _, h2, h3⟩ := count_ev h 200 (by omega) (by omega)
  refine ⟨decide (c < 200), ?_, fun hb => ?_⟩
  · unfold thyrsuslaw3_Few.f
    exact Ev.bind e (Ev.now _)
  · have hc : c < 200 := by simpa using hb
    have := h3 hc
    omega
/-- The names that Make takes. -/
def names : List ByteArray := [⟨#[97]⟩, ⟨#[98]⟩, ⟨#[102, 110]⟩, ⟨#[45, 62]⟩, ⟨#[42]⟩, ⟨#[122, 101, 114, 111]⟩, ⟨#[120, 39]⟩, ⟨#[95]⟩, ⟨#[85, 48]⟩, ⟨#[112, 97, 105, 114]⟩]
/-- A form that Make makes, so deep. -/
inductive Fine : Nat → S42 → Prop
  | name (n : Nat) (s : ByteArray) (h : s ∈ names) : Fine n ⟨1, 0, s, []⟩
  | num (n : Nat) (z : Int) (h : -549755813888 ≤ z ∧ z < 549755813888) : Fine n ⟨2, z, ⟨#[]⟩, []⟩
  | list (n : Nat) (l : List S42) (h : ∀ x ∈ l, Fine n x) : Fine (n + 1) ⟨3, 0, ⟨#[]⟩, l⟩
mutual
def size42 : S42 → Nat
  | ⟨_, _, _, l⟩ => 1 + sizes42 l
def sizes42 : List S42 → Nat
  | [] => 0
  | x :: l => size42 x + sizes42 l
end
theorem sizes42_snoc : ∀ (l : List S42) (x : S42), sizes42 (l ++ [x]) = sizes42 l + size42 x
  | [], x => by simp [sizes42]
  | y :: l, x => by
    simp only [List.cons_append, sizes42, sizes42_snoc l x]
    omega
theorem sizes42_len : ∀ l : List S42, l.length ≤ sizes42 l
  | [] => by simp [sizes42]
  | ⟨a, b, c, k⟩ :: l => by
    have := sizes42_len l
    simp [sizes42, size42]
    omega
theorem eta42 (x : S42) : (⟨x.f0, x.f1, x.f2, x.f3⟩ : S42) = x := by cases x; rfl
theorem make_ev {x : S38} (h : WF38 x) : ∀ (n : Nat), n ≤ 1000 → size38 x ≤ 1000 → ∃ t : S42, Ev (fun k => thyrsuslaw3_Make.f k x.f0 x.f1 x.f2 x.f3 (n : Int)) (t.f0, t.f1, t.f2, t.f3) ∧ Fine n t ∧ size42 t ≤ size38 x := by
  induction h with
  | mk a b s l ha hb hn hl ih =>
    intro n hn1 hs
    have w1 := within_val (i64_of ha) (n := 3) (by decide) (by decide)
    have m1 := Int.emod_nonneg a (show (3 : Int) ≠ 0 by decide)
    have m2 := Int.emod_lt_of_pos a (show (0 : Int) < 3 by decide)
    have w2 := within_val (i64_of hb) (n := 10) (by decide) (by decide)
    have p1 := Int.emod_nonneg b (show (10 : Int) ≠ 0 by decide)
    have p2 := Int.emod_lt_of_pos b (show (0 : Int) < 10 by decide)
    have w3 := within_val (i64_of hb) (n := 1099511627776) (by decide) (by decide)
    have q1 := Int.emod_nonneg b (show (1099511627776 : Int) ≠ 0 by decide)
    have q2 := Int.emod_lt_of_pos b (show (0 : Int) < 1099511627776 by decide)
    have hw : wrap64 (1 + a % 3) = 1 + a % 3 := wrap_id (by omega)
    -- a name
    have hname : ∀ x5 : Int, ∃ t : S42, (∀ k, thyrsuslaw3_Make.j0 (k + 1) (n : Int) x5 false a b s l = some (t.f0, t.f1, t.f2, t.f3)) ∧ Fine n t ∧ size42 t ≤ size38 ⟨a, b, s, l⟩ := by
      intro x5
      obtain ⟨j, hj⟩ : ∃ j : Nat, b % 10 = (j : Int) := ⟨(b % 10).toNat, by omega⟩
      have hj2 : j < 10 := by omega
      have hm : rdOf ByteArray.empty names (j : Int) ∈ names := by
        have hl : j < names.length := hj2
        rw [show rdOf ByteArray.empty names (j : Int) = names[j] by simp [rdOf, hl]]
        exact List.getElem_mem hl
      refine ⟨⟨1, 0, rdOf ByteArray.empty names (j : Int), []⟩, fun k => ?_, Fine.name _ _ hm, by simp [size42, sizes42, size38]⟩
      simp only [thyrsuslaw3_Make.j0]
      rw [if_neg (by decide), Option.bind_some, w2, Option.bind_some, if_pos p1]
      refine (if_pos (show b % 10 < (names.length : Int) from p2)).trans ?_
      rw [hj]
      rfl
    by_cases c2 : 1 + a % 3 = 2
    · have hz : wrap64 (b % 1099511627776 - 549755813888) = b % 1099511627776 - 549755813888 := wrap_id (by omega)
      refine ⟨⟨2, b % 1099511627776 - 549755813888, ⟨#[]⟩, []⟩, Ev.step (f := fun _ => some (2, b % 1099511627776 - 549755813888, ⟨#[]⟩, [])) (fun k => ?_) (Ev.now _), Fine.num _ _ (by omega), by simp [size42, sizes42, size38]⟩
      simp only [thyrsuslaw3_Make.f]
      rw [w1, Option.bind_some, hw, if_pos c2, w3, Option.bind_some, hz, c2]
    by_cases c3 : 1 + a % 3 = 3
    · cases n with
      | zero =>
        obtain ⟨t, ht, h1, h2⟩ := hname 3
        refine ⟨t, Ev.step (f := fun k => thyrsuslaw3_Make.j0 k ((0 : Nat) : Int) 3 false a b s l) (fun k => ?_) (Ev.step (f := fun _ => some (t.f0, t.f1, t.f2, t.f3)) ht (Ev.now _)), h1, h2⟩
        simp only [thyrsuslaw3_Make.f]
        rw [w1, Option.bind_some, hw, if_neg c2, if_pos c3, c3]
        rfl
      | succ n =>
        have loop : ∀ (d i : Nat) (acc : List S42), i + d = l.length → (∀ x ∈ acc, Fine n x) → sizes42 acc + sizes38 (l.drop i) ≤ 1000 → ∃ ks, Ev (fun k => thyrsuslaw3_Make.l0 k ((n + 1 : Nat) : Int) (i : Int) a b s l 3 0 ⟨#[]⟩ acc) (3, 0, ⟨#[]⟩, ks) ∧ (∀ x ∈ ks, Fine n x) ∧ sizes42 ks ≤ sizes42 acc + sizes38 (l.drop i) := by
          intro d
          induction d with
          | zero =>
            intro i acc hi hf hinv
            refine ⟨acc, Ev.step (f := fun _ => some (3, 0, ⟨#[]⟩, acc)) (fun k => ?_) (Ev.now _), hf, by omega⟩
            simp only [thyrsuslaw3_Make.l0]
            rw [if_neg (by omega)]
          | succ d ihd =>
            intro i acc hi hf hinv
            have hil : i < l.length := by omega
            have hlen := sizes42_len acc
            have hl9 : l.length ≤ 1000 := Nat.le_trans (sizes38_len l) (by simp only [size38] at hs; omega)
            rw [sizes38_drop hil] at hinv ⊢
            obtain ⟨t, et, f1, f2⟩ := ih l[i] (List.getElem_mem hil) n (by omega) (by omega)
            obtain ⟨ks, e2, g1, g2⟩ := ihd (i + 1) (acc ++ [t]) (by omega) (fun x hx => by rcases List.mem_append.1 hx with hx | hx; exact hf x hx; rw [List.mem_singleton.1 hx]; exact f1) (by rw [sizes42_snoc]; omega)
            rw [sizes42_snoc] at g2
            refine ⟨ks, Ev.step (f := fun k => (thyrsuslaw3_Make.f k l[i].f0 l[i].f1 l[i].f2 l[i].f3 (n : Int)).bind fun bt => thyrsuslaw3_Make.l0 k ((n + 1 : Nat) : Int) ((i + 1 : Nat) : Int) a b s l 3 0 ⟨#[]⟩ (acc ++ [(⟨bt.1, bt.2.1, bt.2.2.1, bt.2.2.2⟩ : S42)])) (fun k => ?_) (Ev.bind et ?_), g1, by omega⟩
            · simp only [thyrsuslaw3_Make.l0]
              rw [if_pos (by omega), if_pos (by omega), rd38 hil, wrap_id (n := ((n + 1 : Nat) : Int) - 1) (by omega), wrap_id (n := (i : Int) + 1) (by omega), show ((n + 1 : Nat) : Int) - 1 = (n : Int) by omega]
              simp only [if_pos (show acc.length < 2513169434916 by omega)]
              rfl
            · simp only [eta42]
              exact e2
        simp only [size38] at hs
        obtain ⟨ks, e1, g1, g2⟩ := loop l.length 0 [] (by omega) (fun x hx => by simp at hx) (by simp only [sizes42, List.drop_zero]; omega)
        refine ⟨⟨3, 0, ⟨#[]⟩, ks⟩, Ev.step (f := fun k => thyrsuslaw3_Make.j0 k ((n + 1 : Nat) : Int) 3 true a b s l) (fun k => ?_) (Ev.step (f := fun k => thyrsuslaw3_Make.l0 k ((n + 1 : Nat) : Int) ((0 : Nat) : Int) a b s l 3 0 ⟨#[]⟩ []) (fun k => ?_) e1), Fine.list _ _ g1, ?_⟩
        · simp only [thyrsuslaw3_Make.f]
          rw [w1, Option.bind_some, hw, if_neg c2, if_pos c3, c3, show decide (((n + 1 : Nat) : Int) > 0) = true from decide_eq_true (by omega)]
        · simp only [thyrsuslaw3_Make.j0, if_true]
          rfl
        · simp only [size42, size38]
          simp only [sizes42, List.drop_zero] at g2
          omega
    · have c1 : 1 + a % 3 = 1 := by omega
      obtain ⟨t, ht, h1, h2⟩ := hname 1
      refine ⟨t, Ev.step (f := fun k => thyrsuslaw3_Make.j0 k (n : Int) 1 false a b s l) (fun k => ?_) (Ev.step (f := fun _ => some (t.f0, t.f1, t.f2, t.f3)) ht (Ev.now _)), h1, h2⟩
      simp only [thyrsuslaw3_Make.f]
      rw [w1, Option.bind_some, hw, if_neg c2, if_neg c3, c1]
end Go.Proofs.YtkkmgahgejjhgaaDoor.Pure
/- Chapter 3's texts, plainly: what forms.Text and the reference's Text come to, of a form that Make makes. No conditions but those that each theorem tells. -/
namespace Go.Proofs.YtkkmgahgejjhgaaDoor.Pure
open Go.RowKit Go.Proofs.YtkkmgahgejjhgaaDoor.P Go.Proofs.YtkkmgahgejjhgaaDoor.Lex Go.Proofs.YtkkmgahgejjhgaaDoorW.PrintWords Go.Proofs.YtkkmgahgejjhgaaDoorW.PrintLast Go.Proofs.YtkkmgahgejjhgaaDoorW.PrintMore
set_option linter.unusedVariables false
set_option linter.unusedSimpArgs false
mutual
/-- A form's text. -/
def tx : S42 → List UInt8
  | ⟨k, z, s, l⟩ => if k = 1 then lst s else if k = 2 then Lib.itoa z else 40 :: (txs l ++ [41])
/-- The texts of a list's forms. -/
def txs : List S42 → List UInt8
  | [] => []
  | x :: l => tx x ++ txr l
/-- .. of those behind the first one. -/
def txr : List S42 → List UInt8
  | [] => []
  | x :: l => 32 :: (tx x ++ txr l)
end
theorem txr_map : ∀ l : List S42, txr l = Lib.joinTail [32] (l.map tx)
  | [] => rfl
  | x :: l => by
    rw [txr, txr_map l]
    simp [Lib.joinTail]
theorem txs_join (l : List S42) : txs l = Lib.join (l.map tx) [32] := by
  cases l with
  | nil => rfl
  | cons x l =>
    rw [txs, txr_map, List.map_cons, Lib.join_cons]
theorem dec_len : ∀ (d n : Nat), n < 10 ^ (d + 1) → (Lib.decDigits n).length ≤ d + 1
  | 0, n, h => by
    rw [Lib.decDigits, dif_pos (by simpa using h)]
    simp
  | d + 1, n, h => by
    rw [Lib.decDigits]
    split
    · simp
    · rw [List.length_append, List.length_singleton]
      have := dec_len d (n / 10) (by rw [Nat.pow_succ] at h; omega)
      omega
theorem itoa_len {z : Int} (h : -549755813888 ≤ z ∧ z < 549755813888) : (Lib.itoa z).length ≤ 13 := by
  unfold Lib.itoa
  split
  · have := dec_len 11 z.natAbs (by show z.natAbs < 1000000000000; omega)
    rw [List.length_cons]
    omega
  · have := dec_len 11 z.toNat (by show z.toNat < 1000000000000; omega)
    omega
theorem names_len : ∀ s ∈ names, (lst s).length ≤ 4 := by decide
mutual
theorem tx_len {n : Nat} {t : S42} (h : Fine n t) : (tx t).length + 1 ≤ 16 * size42 t := by
  match t, h with
  | _, .name _ s hs =>
    have := names_len s hs
    simp only [tx, if_true, size42, sizes42]
    omega
  | _, .num _ z hz =>
    have := itoa_len hz
    simp only [tx, size42, sizes42, if_true]
    rw [if_neg (by decide)]
    omega
  | _, .list m l hl =>
    have := txs_len l hl
    simp only [tx, size42]
    rw [if_neg (by decide), if_neg (by decide), List.length_cons, List.length_append, List.length_singleton]
    omega
theorem txs_len {n : Nat} (l : List S42) (h : ∀ x ∈ l, Fine n x) : (txs l).length ≤ 16 * sizes42 l := by
  match l with
  | [] => simp [txs, sizes42]
  | x :: l =>
    have h1 := tx_len (h x (by simp))
    have h2 := txr_len l (fun y hy => h y (by simp [hy]))
    simp only [txs, sizes42, List.length_append]
    omega
theorem txr_len {n : Nat} (l : List S42) (h : ∀ x ∈ l, Fine n x) : (txr l).length ≤ 16 * sizes42 l := by
  match l with
  | [] => simp [txr, sizes42]
  | x :: l =>
    have h1 := tx_len (h x (by simp))
    have h2 := txr_len l (fun y hy => h y (by simp [hy]))
    simp only [txr, sizes42, List.length_append, List.length_cons]
    omega
end
theorem lst_mk (l : List UInt8) : lst ⟨l.toArray⟩ = l := by simp [lst]
theorem sizes42_mem : ∀ (l : List S42) (x : S42), x ∈ l → size42 x ≤ sizes42 l
  | y :: l, x, h => by
    rcases List.mem_cons.1 h with rfl | h
    · simp [sizes42]
    · have := sizes42_mem l x h
      simp only [sizes42]
      omega
theorem text_ev {n : Nat} {t : S42} (h : Fine n t) (hs : size42 t ≤ 1000) : ∃ b : ByteArray, Ev (fun k => forms_Text.f k t.f0 t.f1 t.f2 t.f3) b ∧ lst b = tx t := by
  induction h with
  | name n s hm => exact ⟨s, Ev.step (f := fun _ => some s) (fun k => by simp only [forms_Text.f]; rfl) (Ev.now _), by simp [tx]⟩
  | num n z hz =>
    refine ⟨⟨(Lib.itoa z).toArray⟩, Ev.step (f := fun _ => some ⟨(Lib.itoa z).toArray⟩) (fun k => ?_) (Ev.now _), by simp [tx, lst_mk]⟩
    simp only [forms_Text.f, if_true]
    rw [if_neg (by decide)]
    unfold strconv_Itoa.f
    rw [if_pos (by omega)]
    rfl
  | list n l hl ih =>
    simp only [size42] at hs
    have hlen : l.length ≤ 1000 := Nat.le_trans (sizes42_len l) (by omega)
    have htx := txs_len l hl
    have loop : ∀ (d i : Nat) (acc : List ByteArray), i + d = l.length → acc.map lst = (l.take i).map tx → ∃ b : ByteArray, Ev (fun k => forms_Text.l0 k acc l (l.length : Int) (i : Int)) b ∧ lst b = 40 :: (txs l ++ [41]) := by
      intro d
      induction d with
      | zero =>
        intro i acc hi hacc
        obtain rfl : i = l.length := by omega
        rw [List.take_length] at hacc
        have hal : acc.length = l.length := by
          have := congrArg List.length hacc
          simpa using this
        have hj : Lib.join (acc.map (·.data.toList)) (⟨#[32]⟩ : ByteArray).data.toList = txs l := by
          rw [txs_join, ← hacc]
          rfl
        have hJ : strings_Join.f acc (⟨#[32]⟩ : ByteArray) = some ⟨(txs l).toArray⟩ := by
          unfold strings_Join.f
          rw [hj, if_pos (by omega)]
        have hz : (⟨(txs l).toArray⟩ : ByteArray).size = (txs l).length := by rw [← lst_len, lst_mk]
        refine ⟨((⟨#[40]⟩ : ByteArray) ++ ⟨(txs l).toArray⟩) ++ (⟨#[41]⟩ : ByteArray), Ev.step (f := fun _ => some (((⟨#[40]⟩ : ByteArray) ++ ⟨(txs l).toArray⟩) ++ (⟨#[41]⟩ : ByteArray))) (fun k => ?_) (Ev.now _), ?_⟩
        · simp only [forms_Text.l0]
          rw [if_neg (by omega), hJ, Option.bind_some, if_pos (by rw [hz]; omega), if_pos (by rw [ByteArray.size_append, hz, szA1]; omega)]
        · rw [lst_append, lst_append, lst_mk]
          rfl
      | succ d ihd =>
        intro i acc hi hacc
        have hil : i < l.length := by omega
        have hsz : size42 l[i] ≤ sizes42 l := by
          have h1 := sizes42_mem l l[i] (List.getElem_mem hil)
          exact h1
        obtain ⟨t, et, ht⟩ := ih l[i] (List.getElem_mem hil) (by omega)
        have hal : acc.length = i := by
          have := congrArg List.length hacc
          simp at this
          omega
        obtain ⟨b, e2, hb⟩ := ihd (i + 1) (acc ++ [t]) (by omega) (by rw [List.map_append, hacc, List.take_succ_eq_append_getElem hil, List.map_append]; simp [ht])
        refine ⟨b, Ev.step (f := fun k => (forms_Text.f k l[i].f0 l[i].f1 l[i].f2 l[i].f3).bind fun t => forms_Text.l0 k (acc ++ [t]) l (l.length : Int) ((i + 1 : Nat) : Int)) (fun k => ?_) (Ev.bind et e2), hb⟩
        simp only [forms_Text.l0]
        rw [if_pos (by omega), if_pos (by omega), if_pos (by omega), rd42 hil, wrap_id (n := (i : Int) + 1) (by omega)]
        simp only [if_pos (show acc.length < 8796093022208 by omega)]
        rfl
    obtain ⟨b, e1, hb⟩ := loop l.length 0 [] (by omega) (by simp)
    refine ⟨b, Ev.step (f := fun k => forms_Text.l0 k [] l (l.length : Int) ((0 : Nat) : Int)) (fun k => ?_) e1, ?_⟩
    · simp only [forms_Text.f]
      rw [if_neg (by decide), if_neg (by decide)]
      rfl
    · rw [hb]
      simp [tx]
end Go.Proofs.YtkkmgahgejjhgaaDoor.Pure
/- Chapter 3's texts read back, plainly: a made form's text is read as just that form. No conditions but those that each theorem tells. -/
namespace Go.Proofs.YtkkmgahgejjhgaaDoor.Pure
open Go.RowKit Go.Proofs.YtkkmgahgejjhgaaDoor.P Go.Proofs.YtkkmgahgejjhgaaDoor.Lex Go.Proofs.YtkkmgahgejjhgaaDoor.Frm Go.Proofs.YtkkmgahgejjhgaaDoorW.PrintWords Go.Proofs.YtkkmgahgejjhgaaDoorW.PrintLast Go.Proofs.YtkkmgahgejjhgaaDoorW.PrintMore
set_option linter.unusedVariables false
set_option linter.unusedSimpArgs false
/-- No byte that may stand in a name begins it. -/
def Delim (r : List UInt8) : Prop := spn pInner r = 0
theorem spn_app {p : Int → Bool} : ∀ (l r : List UInt8), (∀ c ∈ l, p (c.toNat : Int) = true) → spn p (l ++ r) = l.length + spn p r
  | [], r, _ => by simp
  | c :: l, r, h => by
    rw [List.cons_append, spn, if_pos (h c (by simp)), spn_app l r (fun d hd => h d (by simp [hd]))]
    simp only [List.length_cons]
    omega
theorem delim_digit {r : List UInt8} (h : Delim r) : spn pDigit r = 0 := by
  cases r with
  | nil => rfl
  | cons c r =>
    unfold Delim at h
    rw [spn] at h ⊢
    by_cases hd : pDigit (c.toNat : Int) = true
    · rw [if_pos (by unfold pInner; rw [hd]; simp)] at h
      omega
    · rw [if_neg hd]
theorem nb_0 (c : UInt8) (l : List UInt8) : nb (c :: l) 0 = (c.toNat : Int) := rfl
theorem nb_1 (c d : UInt8) (l : List UInt8) : nb (c :: d :: l) 1 = (d.toNat : Int) := rfl
/-- A token is taken: no blank ahead of it. -/
theorem tok_step {l : List UInt8} {k v : Int} {m : Nat} (hb : blk false l = 0) (hl : 0 < l.length) (hn : nextT l = (k, v, m, 0)) (f p : Nat) (acc : List S63) :
    toks (f + 1) l p acc = toks f (l.drop m) (p + m) (acc ++ [⟨k, v, (p : Int), txt k l m⟩]) := by
  rw [toks, hb, List.drop_zero, if_neg (by omega), hn, if_pos rfl, Nat.add_zero]
/-- Blanks are passed over. -/
theorem tok_blank {s w : List UInt8} (h : blk false (s ++ w) = s.length + blk false w) (f p : Nat) (acc : List S63) : toks (f + 1) (s ++ w) p acc = toks (f + 1) w (p + s.length) acc := by
  have hd : (s ++ w).drop (s.length + blk false w) = w.drop (blk false w) := by
    rw [← List.drop_drop, List.drop_left]
  rw [toks, toks, h, hd]
  simp only [Nat.add_assoc]
theorem blk_32 (w : List UInt8) : blk false ([32] ++ w) = ([32] : List UInt8).length + blk false w := by
  show blk false (32 :: w) = _
  rw [blk_f, if_pos (by decide)]
  simp only [List.length_singleton]
  omega
theorem blk_no {c : UInt8} {r : List UInt8} (h1 : pBlank (c.toNat : Int) = false) (h2 : (c.toNat : Int) ≠ 59) : blk false (c :: r) = 0 := by
  rw [blk_f, if_neg (by rw [h1]; decide), if_neg h2]
/-- A token of kind 3, whole. -/
theorem next_name {s : ByteArray} (hs : s ∈ names) {r : List UInt8} (hr : Delim r) : blk false (lst s ++ r) = 0 ∧ nextT (lst s ++ r) = (3, 0, (lst s).length, 0) := by
  have gen : ∀ (c : UInt8) (l : List UInt8), pFront (c.toNat : Int) = true → (∀ d ∈ c :: l, pInner (d.toNat : Int) = true) → (c :: l).length ≤ 20 → pBlank (c.toNat : Int) = false → (c.toNat : Int) ≠ 59 → (c.toNat : Int) ≠ 40 → (c.toNat : Int) ≠ 41 → (c.toNat : Int) ≠ 42 → (c.toNat : Int) ≠ 45 →
      blk false ((c :: l) ++ r) = 0 ∧ nextT ((c :: l) ++ r) = (3, 0, (c :: l).length, 0) := by
    intro c l h1 h2 h3 h4 h5 h6 h7 h8 h9
    have e : spn pInner ((c :: l) ++ r) = (c :: l).length := by
      rw [spn_app _ _ h2]
      have : spn pInner r = 0 := hr
      omega
    refine ⟨blk_no h4 h5, ?_⟩
    unfold nextT
    rw [e]
    rw [show nb ((c :: l) ++ r) 0 = (c.toNat : Int) from rfl, if_neg h6, if_neg h7, if_neg h8, if_neg (fun h => h9 h.1), if_pos h1, if_neg (by omega)]
  have hc : s = ⟨#[97]⟩ ∨ s = ⟨#[98]⟩ ∨ s = ⟨#[102, 110]⟩ ∨ s = ⟨#[45, 62]⟩ ∨ s = ⟨#[42]⟩ ∨ s = ⟨#[122, 101, 114, 111]⟩ ∨ s = ⟨#[120, 39]⟩ ∨ s = ⟨#[95]⟩ ∨ s = ⟨#[85, 48]⟩ ∨ s = ⟨#[112, 97, 105, 114]⟩ := by simpa [names] using hs
  rcases hc with rfl | rfl | rfl | rfl | rfl | rfl | rfl | rfl | rfl | rfl
  · exact gen 97 [] (by decide) (by decide) (by decide) (by decide) (by decide) (by decide) (by decide) (by decide) (by decide)
  · exact gen 98 [] (by decide) (by decide) (by decide) (by decide) (by decide) (by decide) (by decide) (by decide) (by decide)
  · exact gen 102 [110] (by decide) (by decide) (by decide) (by decide) (by decide) (by decide) (by decide) (by decide) (by decide)
  · refine ⟨blk_no (by decide) (by decide), ?_⟩
    show nextT (45 :: 62 :: r) = (3, 0, 2, 0)
    unfold nextT
    rw [nb_0, nb_1, if_neg (by decide), if_neg (by decide), if_neg (by decide), if_pos ⟨by decide, by simp, by decide⟩]
  · refine ⟨blk_no (by decide) (by decide), ?_⟩
    show nextT (42 :: r) = (3, 0, 1, 0)
    unfold nextT
    rw [nb_0, if_neg (by decide), if_neg (by decide), if_pos (by decide)]
  · exact gen 122 [101, 114, 111] (by decide) (by decide) (by decide) (by decide) (by decide) (by decide) (by decide) (by decide) (by decide)
  · exact gen 120 [39] (by decide) (by decide) (by decide) (by decide) (by decide) (by decide) (by decide) (by decide) (by decide)
  · exact gen 95 [] (by decide) (by decide) (by decide) (by decide) (by decide) (by decide) (by decide) (by decide) (by decide)
  · exact gen 85 [48] (by decide) (by decide) (by decide) (by decide) (by decide) (by decide) (by decide) (by decide) (by decide)
  · exact gen 112 [97, 105, 114] (by decide) (by decide) (by decide) (by decide) (by decide) (by decide) (by decide) (by decide) (by decide)
/-! ### Numbers -/
theorem dig (n : Nat) (h : n < 10) : ((UInt8.ofNat (48 + n)).toNat : Int) = 48 + n := by
  rw [UInt8.toNat_ofNat']
  omega
theorem dec_digits : ∀ (n : Nat), ∀ c ∈ Lib.decDigits n, pDigit (c.toNat : Int) = true := by
  intro n
  induction n using Nat.strongRecOn with
  | _ n ih =>
    intro c hc
    rw [Lib.decDigits] at hc
    have one : ∀ m, m < 10 → pDigit ((UInt8.ofNat (48 + m)).toNat : Int) = true := by
      intro m hm
      rw [dig m hm]
      unfold pDigit
      simp
      omega
    split at hc
    · rename_i h
      rw [List.mem_singleton.1 hc]
      exact one n h
    · rename_i h
      rcases List.mem_append.1 hc with hc | hc
      · exact ih (n / 10) (by omega) c hc
      · rw [List.mem_singleton.1 hc]
        exact one (n % 10) (by omega)
theorem dec_pos (n : Nat) : ∃ c l, Lib.decDigits n = c :: l := by
  rw [Lib.decDigits]
  split
  · exact ⟨_, _, rfl⟩
  · cases h : Lib.decDigits (n / 10) with
    | nil => exact ⟨_, _, rfl⟩
    | cons c l => exact ⟨_, _, rfl⟩
theorem numD_snoc : ∀ (l : List UInt8) (c : UInt8) (a : Int), numD (l ++ [c]) a = (numD l a).bind (fun n => numD [c] n)
  | [], c, a => by simp [numD]
  | d :: l, c, a => by
    rw [List.cons_append, numD, numD]
    split
    · rfl
    · exact numD_snoc l c _
theorem numD_dec : ∀ (n : Nat), n ≤ 4611686018427387904 → numD (Lib.decDigits n) 0 = some (n : Int) := by
  intro n
  induction n using Nat.strongRecOn with
  | _ n ih =>
    intro hn
    rw [Lib.decDigits]
    split
    · rename_i h
      rw [numD, dig n h, if_neg (by omega), numD]
      congr 1
      omega
    · rename_i h
      rw [numD_snoc, ih (n / 10) (by omega) (by omega), Option.bind_some, numD, dig (n % 10) (by omega), if_neg (by omega), numD]
      congr 1
      omega
theorem next_num {z : Int} (hz : -549755813888 ≤ z ∧ z < 549755813888) {r : List UInt8} (hr : Delim r) : blk false (Lib.itoa z ++ r) = 0 ∧ nextT (Lib.itoa z ++ r) = (4, z, (Lib.itoa z).length, 0) := by
  have dg : ∀ c : Int, pDigit c = true → 48 ≤ c ∧ c ≤ 57 := by
    intro c h
    unfold pDigit at h
    simpa using h
  have nf : ∀ c : Int, 48 ≤ c ∧ c ≤ 57 → pFront c = false := by
    intro c h
    unfold pFront
    simp
    omega
  unfold Lib.itoa
  by_cases h : z < 0
  · rw [if_pos h]
    obtain ⟨c, l, e⟩ := dec_pos z.natAbs
    have hd := dec_digits z.natAbs
    have hnum := numD_dec z.natAbs (by omega)
    rw [e] at hd hnum ⊢
    have hc := dg _ (hd c (by simp))
    have hs : spn pDigit ((c :: l) ++ r) = (c :: l).length := by
      rw [spn_app _ _ hd, delim_digit hr]
      omega
    refine ⟨blk_no (by decide) (by decide), ?_⟩
    show nextT (45 :: ((c :: l) ++ r)) = (4, z, (45 :: c :: l).length, 0)
    have hsg : sgn (45 :: ((c :: l) ++ r)) = 1 + (c :: l).length := by
      unfold sgn
      rw [nb_0, if_pos (by decide), List.drop_succ_cons, List.drop_zero, hs, if_pos (by simp)]
    have htk : (45 :: ((c :: l) ++ r)).take (1 + (c :: l).length) = 45 :: c :: l := by
      rw [Nat.add_comm, List.take_succ_cons, List.take_left]
    have hnm : num (45 :: c :: l) = some z := by
      unfold num
      rw [nb_0, if_pos (by decide), List.drop_succ_cons, List.drop_zero, hnum]
      simp only [Option.map_some, Option.some.injEq]
      omega
    unfold nextT
    rw [nb_0, hsg, htk, hnm, if_neg (by decide), if_neg (by decide), if_neg (by decide)]
    rw [if_neg (by
      rintro ⟨-, -, h2⟩
      rw [List.cons_append, nb_1] at h2
      omega), if_neg (by decide), if_neg (by simp)]
    simp only [List.length_cons]
    congr 3
    omega
  · rw [if_neg h]
    obtain ⟨c, l, e⟩ := dec_pos z.toNat
    have hd := dec_digits z.toNat
    have hnum := numD_dec z.toNat (by omega)
    rw [e] at hd hnum ⊢
    have hc := dg _ (hd c (by simp))
    have hs : spn pDigit ((c :: l) ++ r) = (c :: l).length := by
      rw [spn_app _ _ hd, delim_digit hr]
      omega
    refine ⟨blk_no (by unfold pBlank; simp; omega) (by omega), ?_⟩
    have hsg : sgn ((c :: l) ++ r) = (c :: l).length := by
      unfold sgn
      rw [List.cons_append, nb_0, if_neg (by omega), ← List.cons_append, hs]
    have htk : ((c :: l) ++ r).take (c :: l).length = c :: l := List.take_left
    have hnm : num (c :: l) = some z := by
      unfold num
      rw [nb_0, if_neg (by omega), hnum]
      simp only [Option.some.injEq]
      omega
    unfold nextT
    rw [hsg, htk, hnm, show nb ((c :: l) ++ r) 0 = (c.toNat : Int) from rfl, if_neg (by omega), if_neg (by omega), if_neg (by omega), if_neg (by omega), if_neg (by rw [nf _ hc]; decide), if_neg (by simp)]
/-! ### Forms -/
/-- A text's tokens are just these, and they put that form behind the others. -/
def Par (n : Nat) (ts : List S63) (w : List UInt8) (xs : List S42) (p : Nat) (r : List UInt8) : Prop :=
  (∀ f acc, toks (f + ts.length) (w ++ r) p acc = toks f r (p + w.length) (acc ++ ts)) ∧ (∀ q st top sz, st.length + n ≤ 30 → frun (ts ++ q) st top sz = frun q st (top ++ xs) sz) ∧ ts.length ≤ w.length ∧ (xs ≠ [] → 0 < ts.length)
theorem names_pos : ∀ s ∈ names, 0 < (lst s).length := by decide
theorem txt_name {s : ByteArray} {r : List UInt8} : txt 3 (lst s ++ r) (lst s).length = s := by
  unfold txt
  rw [if_pos rfl, List.take_left]
  exact lst_inj (lst_mk _)
theorem delim_41 (r : List UInt8) : Delim (41 :: r) := by
  unfold Delim
  rw [spn, if_neg (by decide)]
theorem delim_32 (r : List UInt8) : Delim (32 :: r) := by
  unfold Delim
  rw [spn, if_neg (by decide)]
theorem delim_txr {l : List S42} {r : List UInt8} (h : Delim r) : Delim (txr l ++ r) := by
  cases l with
  | nil => exact h
  | cons x l =>
    rw [txr]
    exact delim_32 _
theorem frun_n {t : S63} {r : List S63} {st : List (List S42)} {top : List S42} {sz : Int} : ∀ (h : t.f0 = 3), frun (t :: r) st top sz = frun r st (top ++ [⟨1, 0, t.f3, []⟩]) sz := by
  intro h
  rw [frun.eq_def]
  simp only [if_neg (show ¬ t.f0 = 1 by omega), if_neg (show ¬ t.f0 = 2 by omega), if_pos h]
theorem frun_m {t : S63} {r : List S63} {st : List (List S42)} {top : List S42} {sz : Int} : ∀ (h : t.f0 = 4), frun (t :: r) st top sz = frun r st (top ++ [⟨2, t.f1, ⟨#[]⟩, []⟩]) sz := by
  intro h
  rw [frun.eq_def]
  simp only [if_neg (show ¬ t.f0 = 1 by omega), if_neg (show ¬ t.f0 = 2 by omega), if_neg (show ¬ t.f0 = 3 by omega)]
theorem frun_o {t : S63} {r : List S63} {st : List (List S42)} {top : List S42} {sz : Int} (h : t.f0 = 1) (h2 : st.length < 30) : frun (t :: r) st top sz = frun r (top :: st) [] sz := by
  rw [frun.eq_def]
  simp only [if_pos h, if_pos h2]
theorem frun_c {t : S63} {r : List S63} {p : List S42} {st : List (List S42)} {top : List S42} {sz : Int} (h : t.f0 = 2) : frun (t :: r) (p :: st) top sz = frun r st (p ++ [⟨3, 0, ⟨#[]⟩, top⟩]) sz := by
  rw [frun.eq_def]
  simp only [if_neg (show ¬ t.f0 = 1 by omega), if_pos h]
theorem par_one {n : Nat} {w : List UInt8} {x : S42} {k v : Int} {p : Nat} {r : List UInt8} (hb : blk false (w ++ r) = 0) (hw : 0 < w.length) (hn : nextT (w ++ r) = (k, v, w.length, 0)) (hf : ∀ q st top sz, frun (⟨k, v, (p : Int), txt k (w ++ r) w.length⟩ :: q) st top sz = frun q st (top ++ [x]) sz) :
    ∃ ts, Par n ts w [x] p r := by
  refine ⟨[⟨k, v, (p : Int), txt k (w ++ r) w.length⟩], fun f acc => ?_, fun q st top sz _ => hf q st top sz, by simp only [List.length_singleton]; omega, fun _ => by simp⟩
  rw [List.length_singleton, tok_step hb (by rw [List.length_append]; omega) hn, List.drop_left]
theorem par_form {n : Nat} {t : S42} (h : Fine n t) : ∀ (p : Nat) (r : List UInt8), Delim r → ∃ ts, Par n ts (tx t) [t] p r := by
  induction h with
  | name n s hs =>
    intro p r hr
    have e : tx ⟨1, 0, s, []⟩ = lst s := by simp [tx]
    rw [e]
    obtain ⟨h1, h2⟩ := next_name hs hr
    have hl : 0 < (lst s).length := names_pos s hs
    exact par_one h1 hl h2 (fun q st top sz => by rw [frun_n rfl, txt_name])
  | num n z hz =>
    intro p r hr
    have e : tx ⟨2, z, ⟨#[]⟩, []⟩ = Lib.itoa z := by simp [tx]
    rw [e]
    obtain ⟨h1, h2⟩ := next_num hz hr
    have hl : 0 < (Lib.itoa z).length := by
      unfold Lib.itoa
      split
      · simp
      · obtain ⟨c, l, e⟩ := dec_pos z.toNat
        rw [e]
        simp
    exact par_one h1 hl h2 (fun q st top sz => by rw [frun_m rfl])
  | list n l hl ih =>
    intro p r hr
    -- what stands behind the first one
    have rest : ∀ (m : List S42), (∀ x ∈ m, x ∈ l) → ∀ (p : Nat) (r : List UInt8), Delim r → ∃ ts, Par n ts (txr m) m p r := by
      intro m
      induction m with
      | nil => exact fun _ p r _ => ⟨[], fun f acc => by simp [txr], fun q st top sz _ => by simp, by simp, fun h => absurd rfl h⟩
      | cons x m ihm =>
        intro hm p r hr
        obtain ⟨t1, a1, b1, c1, d1⟩ := ih x (hm x (by simp)) (p + 1) (txr m ++ r) (delim_txr hr)
        obtain ⟨t2, a2, b2, c2, d2⟩ := ihm (fun y hy => hm y (by simp [hy])) (p + 1 + (tx x).length) r hr
        have hpos : 0 < t1.length := d1 (by simp)
        refine ⟨t1 ++ t2, fun f acc => ?_, fun q st top sz hd => ?_, ?_, fun _ => ?_⟩
        · have e : txr (x :: m) ++ r = [32] ++ (tx x ++ (txr m ++ r)) := by simp [txr]
          obtain ⟨j, hj⟩ : ∃ j, f + (t1 ++ t2).length = j + 1 := ⟨f + (t1 ++ t2).length - 1, by rw [List.length_append]; omega⟩
          rw [e, hj, tok_blank (blk_32 _), ← hj, List.length_append, show f + (t1.length + t2.length) = (f + t2.length) + t1.length by omega, show p + ([32] : List UInt8).length = p + 1 from rfl, a1, a2, List.append_assoc]
          congr 1
          simp only [txr, List.length_cons, List.length_append]
          omega
        · rw [List.append_assoc, b1 _ _ _ _ hd, b2 _ _ _ _ hd, List.append_assoc]
          rfl
        · simp only [txr, List.length_cons, List.length_append]
          omega
        · rw [List.length_append]
          omega
    have all : ∀ (p : Nat), ∃ ts, Par n ts (txs l) l p (41 :: r) := by
      intro p
      cases l with
      | nil => exact ⟨[], fun f acc => by simp [txs], fun q st top sz _ => by simp, by simp, fun h => absurd rfl h⟩
      | cons x m =>
        obtain ⟨t1, a1, b1, c1, d1⟩ := ih x (by simp) p (txr m ++ 41 :: r) (delim_txr (delim_41 r))
        obtain ⟨t2, a2, b2, c2, d2⟩ := rest m (fun y hy => by simp [hy]) (p + (tx x).length) (41 :: r) (delim_41 r)
        refine ⟨t1 ++ t2, fun f acc => ?_, fun q st top sz hd => ?_, ?_, fun _ => ?_⟩
        · have e : txs (x :: m) ++ 41 :: r = tx x ++ (txr m ++ 41 :: r) := by simp [txs]
          rw [e, List.length_append, show f + (t1.length + t2.length) = (f + t2.length) + t1.length by omega, a1, a2, List.append_assoc]
          congr 1
          simp only [txs, List.length_append]
          omega
        · rw [List.append_assoc, b1 _ _ _ _ hd, b2 _ _ _ _ hd, List.append_assoc]
          rfl
        · simp only [txs, List.length_append]
          omega
        · have := d1 (by simp)
          rw [List.length_append]
          omega
    obtain ⟨ts, a1, b1, c1, d1⟩ := all (p + 1)
    have e : tx ⟨3, 0, ⟨#[]⟩, l⟩ = 40 :: (txs l ++ [41]) := by simp [tx]
    rw [e]
    refine ⟨⟨1, 0, (p : Int), txt 1 (40 :: (txs l ++ 41 :: r)) 1⟩ :: (ts ++ [⟨2, 0, ((p + 1 + (txs l).length : Nat) : Int), txt 2 (41 :: r) 1⟩]), fun f acc => ?_, fun q st top sz hd => ?_, ?_, fun _ => ?_⟩
    · have e2 : (40 :: (txs l ++ [41])) ++ r = 40 :: (txs l ++ 41 :: r) := by simp
      have n1 : nextT (40 :: (txs l ++ 41 :: r)) = (1, 0, 1, 0) := by
        unfold nextT
        rw [nb_0, if_pos (by decide)]
      have n2 : nextT (41 :: r) = (2, 0, 1, 0) := by
        unfold nextT
        rw [nb_0, if_neg (by decide), if_pos (by decide)]
      rw [e2, List.length_cons, List.length_append, List.length_singleton, show f + (ts.length + 1 + 1) = (f + 1 + ts.length) + 1 by omega, tok_step (blk_no (by decide) (by decide)) (by simp) n1, List.drop_succ_cons, List.drop_zero, a1, tok_step (blk_no (by decide) (by decide)) (by simp) n2, List.drop_succ_cons, List.drop_zero]
      congr 1
      · simp only [List.length_cons, List.length_append, List.length_nil]
        omega
      · simp
    · rw [List.cons_append, frun_o rfl (by omega), List.append_assoc, b1 _ _ _ _ (by simp only [List.length_cons]; omega), List.singleton_append, frun_c rfl]
      rfl
    · simp only [List.length_cons, List.length_append, List.length_nil]
      omega
    · simp
end Go.Proofs.YtkkmgahgejjhgaaDoor.Pure
/- Two forms are the same: what the reference's Same comes to; texts tell made forms apart. No conditions but those that each theorem tells. -/
namespace Go.Proofs.YtkkmgahgejjhgaaDoor.Pure
open Go.RowKit Go.Proofs.YtkkmgahgejjhgaaDoor.P Go.Proofs.YtkkmgahgejjhgaaDoor.Lex Go.Proofs.YtkkmgahgejjhgaaDoor.Frm Go.Proofs.YtkkmgahgejjhgaaDoorW.PrintWords Go.Proofs.YtkkmgahgejjhgaaDoorW.PrintLast Go.Proofs.YtkkmgahgejjhgaaDoorW.PrintMore
set_option linter.unusedVariables false
set_option linter.unusedSimpArgs false
mutual
/-- Are two forms the same? -/
def sm : S42 → S42 → Bool
  | ⟨k, z, s, l⟩, ⟨k', z', s', l'⟩ => decide (k = k') && (decide (z = z') && (decide (s.toList = s'.toList) && sms l l'))
def sms : List S42 → List S42 → Bool
  | [], [] => true
  | x :: l, y :: l' => sm x y && sms l l'
  | [], _ :: _ => false
  | _ :: _, [] => false
end
mutual
theorem sm_iff : ∀ (x y : S42), sm x y = true ↔ x = y
  | ⟨k, z, s, l⟩, ⟨k', z', s', l'⟩ => by
    have h := sms_iff l l'
    simp only [sm, Bool.and_eq_true, decide_eq_true_eq, h, S42.mk.injEq]
    refine and_congr_right fun _ => and_congr_right fun _ => and_congr_left fun _ => ?_
    rw [lst_toList, lst_toList]
    exact ⟨fun h => lst_inj h, fun h => by rw [h]⟩
theorem sms_iff : ∀ (l l' : List S42), sms l l' = true ↔ l = l'
  | [], [] => by simp [sms]
  | x :: l, y :: l' => by
    have h1 := sm_iff x y
    have h2 := sms_iff l l'
    simp only [sms, Bool.and_eq_true, h1, h2, List.cons.injEq]
  | [], _ :: _ => by simp [sms]
  | _ :: _, [] => by simp [sms]
end
theorem sms_len : ∀ (l l' : List S42), l.length ≠ l'.length → sms l l' = false
  | [], [], h => absurd rfl h
  | x :: l, y :: l', h => by
    rw [sms, sms_len l l' (by simpa using h), Bool.and_false]
  | [], _ :: _, _ => rfl
  | _ :: _, [], _ => rfl
theorem same_ev : ∀ (n : Nat) (x y : S42), size42 x ≤ n → n ≤ 1000000 → Ev (fun k => thyrsusref3_Same.f k x.f0 x.f1 x.f2 x.f3 y.f0 y.f1 y.f2 y.f3) (sm x y) := by
  intro n
  induction n with
  | zero => intro x y h; cases x; simp [size42] at h
  | succ n ih =>
    rintro ⟨k, z, s, l⟩ ⟨k', z', s', l'⟩ hs hn
    have no : Ev (fun j => thyrsusref3_Same.j0 j true k z s l k' z' s' l') false := Ev.step (f := fun _ => some false) (fun j => by simp only [thyrsusref3_Same.j0, if_true]) (Ev.now _)
    simp only [sm]
    by_cases h1 : k = k'
    · by_cases h2 : z = z'
      · by_cases h3 : s.toList = s'.toList
        · rw [decide_eq_true h1, decide_eq_true h2, decide_eq_true h3, Bool.true_and, Bool.true_and, Bool.true_and]
          refine Ev.step (f := fun j => thyrsusref3_Same.j0 j ((l.length : Int) != (l'.length : Int)) k z s l k' z' s' l') (fun j => by simp only [thyrsusref3_Same.f]; rw [if_pos h1, if_pos h2, if_pos h3]) ?_
          by_cases h4 : l.length = l'.length
          · have e : ((l.length : Int) != (l'.length : Int)) = false := by simp [h4]
            rw [e]
            simp only [size42] at hs
            have hll : l.length ≤ 1000000 := Nat.le_trans (sizes42_len l) (by omega)
            have loop : ∀ (d i : Nat), i + d = l.length → Ev (fun j => thyrsusref3_Same.l0 j (i : Int) k z s l k' z' s' l') (sms (l.drop i) (l'.drop i)) := by
              intro d
              induction d with
              | zero =>
                intro i hi
                rw [List.drop_of_length_le (by omega), List.drop_of_length_le (by omega)]
                refine Ev.step (f := fun _ => some true) (fun j => ?_) (Ev.now _)
                simp only [thyrsusref3_Same.l0]
                rw [if_neg (by omega)]
              | succ d ihd =>
                intro i hi
                have hil : i < l.length := by omega
                have hil' : i < l'.length := by omega
                have hm := sizes42_mem l l[i] (List.getElem_mem hil)
                rw [List.drop_eq_getElem_cons hil, List.drop_eq_getElem_cons hil', sms]
                have h5 := ih l[i] l'[i] (by omega) (by omega)
                refine Ev.step (f := fun j => (thyrsusref3_Same.f j l[i].f0 l[i].f1 l[i].f2 l[i].f3 l'[i].f0 l'[i].f1 l'[i].f2 l'[i].f3).bind fun t => if t = true then thyrsusref3_Same.l0 j ((i + 1 : Nat) : Int) k z s l k' z' s' l' else some false) (fun j => ?_) (Ev.bind h5 ?_)
                · simp only [thyrsusref3_Same.l0]
                  rw [if_pos (by omega), if_pos (by omega), if_pos (by omega), rd42 hil, rd42 hil', wrap_id (n := (i : Int) + 1) (by omega)]
                  rfl
                · cases hb : sm l[i] l'[i] with
                  | true => simpa using ihd (i + 1) (by omega)
                  | false => simpa using Ev.now false
            refine Ev.step (f := fun j => thyrsusref3_Same.l0 j ((0 : Nat) : Int) k z s l k' z' s' l') (fun j => by simp only [thyrsusref3_Same.j0]; rfl) (loop l.length 0 (by omega))
          · have e : ((l.length : Int) != (l'.length : Int)) = true := by simp; omega
            rw [e, sms_len l l' h4]
            exact no
        · rw [decide_eq_false h3, Bool.false_and, Bool.and_false, Bool.and_false]
          exact Ev.step (f := fun j => thyrsusref3_Same.j0 j true k z s l k' z' s' l') (fun j => by simp only [thyrsusref3_Same.f]; rw [if_pos h1, if_pos h2, if_neg h3]) no
      · rw [decide_eq_false h2, Bool.false_and, Bool.and_false]
        exact Ev.step (f := fun j => thyrsusref3_Same.j0 j true k z s l k' z' s' l') (fun j => by simp only [thyrsusref3_Same.f]; rw [if_pos h1, if_neg h2]) no
    · rw [decide_eq_false h1, Bool.false_and]
      exact Ev.step (f := fun j => thyrsusref3_Same.j0 j true k z s l k' z' s' l') (fun j => by simp only [thyrsusref3_Same.f]; rw [if_neg h1]) no
end Go.Proofs.YtkkmgahgejjhgaaDoor.Pure
-- Printed by mkprint.py (a program of this session, over the kit's print). Lean checks it.
namespace Go.Proofs.YtkkmgahgejjhgaaDoor.P
open Go.RowKit Go.Proofs.YtkkmgahgejjhgaaDoorW.PrintWords Go.Proofs.YtkkmgahgejjhgaaDoorW.PrintLast Go.Proofs.YtkkmgahgejjhgaaDoorW.PrintMore
attribute [local go_sem] max2_int min2_int max_two min_two max_three min_three max_four min_four   -- for this text's walks alone
set_option linter.unusedVariables false
set_option linter.unusedSimpArgs false

/-! ### thyrsusref3_Text: function 17 -/
mutual
def thyrsusref3_Text.l0 : Nat → ByteArray → Int → Int → Int → ByteArray → List (S42) → Option (ByteArray)
  | 0, _, _, _, _, _, _ => none
  | k + 1, x3, x4, x219000, x219001, x219002, x219003 => if x4 < (x219003.length : Int) then (if x4 > 0 then (if x3.size + 1 ≤ 9223372036854775807 then (if 0 ≤ x4 then ((thyrsusref3_Text.f k ((rd_T42 x219003 x4).f0) ((rd_T42 x219003 x4).f1) ((rd_T42 x219003 x4).f2) ((rd_T42 x219003 x4).f3)).bind fun t221 => (if (x3 ++ (⟨#[32]⟩ : ByteArray)).size + t221.size ≤ 9223372036854775807 then (thyrsusref3_Text.l0 k ((x3 ++ (⟨#[32]⟩ : ByteArray)) ++ t221) (wrap64 (x4 + 1)) x219000 x219001 x219002 x219003) else (none))) else (none)) else (none)) else (if 0 ≤ x4 then ((thyrsusref3_Text.f k ((rd_T42 x219003 x4).f0) ((rd_T42 x219003 x4).f1) ((rd_T42 x219003 x4).f2) ((rd_T42 x219003 x4).f3)).bind fun t223 => (if x3.size + t223.size ≤ 9223372036854775807 then (thyrsusref3_Text.l0 k (x3 ++ t223) (wrap64 (x4 + 1)) x219000 x219001 x219002 x219003) else (none))) else (none))) else (if x3.size + 1 ≤ 9223372036854775807 then (some (x3 ++ (⟨#[41]⟩ : ByteArray))) else (none))
def thyrsusref3_Text.f : Nat → Int → Int → ByteArray → List (S42) → Option (ByteArray)
  | 0, _, _, _, _ => none
  | k + 1, a0_0, a0_1, a0_2, l0_3 => if a0_0 = 1 then (some a0_2) else (if a0_0 = 2 then ((thyrsusref3_Digits.f k a0_1).bind fun t219 => (some t219)) else (thyrsusref3_Text.l0 k (⟨#[40]⟩ : ByteArray) 0 a0_0 a0_1 a0_2 l0_3))
end
set_option maxHeartbeats 8000000 in
set_option maxRecDepth 100000 in
theorem thyrsusref3_Text.calls (k : Nat) : ∀ (a0_0 : Int) (a0_1 : Int) (a0_2 : ByteArray) (A0_3 : Option Addr) (c0_3 : Nat) (l0_3 : List (S42)) (r : ByteArray) (w : World) (hr0_3 : Kd.C k42 w A0_3 l0_3.length l0_3) (hc0_3 : l0_3.length ≤ c0_3) (h : thyrsusref3_Text.f k a0_0 a0_1 a0_2 l0_3 = some r),
    Calls Tryd.prog 17 #[.agg #[.int .i64 a0_0, .int .i64 a0_1, .string a0_2, .slice A0_3 l0_3.length c0_3]] w fun e w' => e = .returned (.string r) ∧ Below w.heap.size w w' := by
  induction k using Nat.strongRecOn with
  | _ k ih =>
  intro a0_0 a0_1 a0_2 A0_3 c0_3 l0_3 r w hr0_3 hc0_3 h
  cases k with
  | zero => exact absurd h (by simp [thyrsusref3_Text.f])
  | succ k =>
  simp only [thyrsusref3_Text.f] at h
  have hu42 := Tryd.underlying42
  have HR0_3 := Aside0.mk hr0_3
  have HC0_3 := Aside0.mk hc0_3
  clear hr0_3 hc0_3
  have HB := Aside0.mk (Below.refl w.heap.size w)
  have H : (if a0_0 = 1 then (some a0_2) else (if a0_0 = 2 then ((thyrsusref3_Digits.f k a0_1).bind fun t219 => (some t219)) else (thyrsusref3_Text.l0 k (⟨#[40]⟩ : ByteArray) 0 a0_0 a0_1 a0_2 l0_3))) = some r := h
  clear h
  by_cases c2 : a0_0 = 1
  · rw [if_pos c2] at H
    have c2b0 : (a0_0 == 1) = true := beq_iff_eq.mpr c2
    have c2b1 : (a0_0 != 1) = false := bne_eq_false_iff_eq.mpr c2
    clear c2
    obtain rfl := Option.some.inj H
    go_enter Tryd.func17, Tryd.ntmps17
    go_wp2_with (first | ((with_reducible refine gate_dst (N := 1) rfl ?_); refine box_event ?hg (N := 1) ?hd (cs := #[.int .i64 a0_0, .int .i64 a0_1, .string a0_2, .slice A0_3 l0_3.length c0_3]) (t := 42) ?hr ?_; (case hd => rfl); (case hg => rfl); (case hr => first | (go_simp; done) | (go_simp; rfl)); intro gb218 hg w3 hbox hb; have n0_ := Aside0.mk (below_step (by repeat (first | (with_reducible first | exact HB.out | apply below_alloc | apply pw_below_drewN | apply below_drew1) | exact HB.out)) hb); have n1_ := Aside0.mk (hbox); have n2_ := Aside0.mk ((by rw [hg]; exact (below_size (by repeat (first | (with_reducible first | exact HB.out | apply below_alloc | apply pw_below_drewN | apply below_drew1) | exact HB.out))) : w.heap.size ≤ gb218)); have n3_ := Aside0.mk ((by rw [hg]; exact (below_size (by repeat (first | (with_reducible first | exact HB.out | apply below_alloc | apply pw_below_drewN | apply below_drew1) | exact HB.out))) : w.heap.size ≤ gb218)); clear HB; have HB := n0_; have BK218 := n1_; have GW218 := n2_; have GE218 := n3_; clear n0_ n1_ n2_ n3_; clear hb hbox hg; have hcz4_0 : w3.cell? ⟨gb218, 0, none⟩ = some (.int .i64 a0_0) := (blk_cell BK218.out 0).trans rfl; have hcz4_1 : w3.cell? ⟨gb218, 1, none⟩ = some (.int .i64 a0_1) := (blk_cell BK218.out 1).trans rfl; have hcz4_2 : w3.cell? ⟨gb218, 2, none⟩ = some (.string a0_2) := (blk_cell BK218.out 2).trans rfl; have hcz4_3 : w3.cell? ⟨gb218, 3, none⟩ = some (.slice A0_3 l0_3.length c0_3) := (blk_cell BK218.out 3).trans rfl; have hfz4_0 := blk_frozen BK218.out 0; have hfz4_1 := blk_frozen BK218.out 1; have hfz4_2 := blk_frozen BK218.out 2; have hfz4_3 := blk_frozen BK218.out 3))
    go_ret
    exact ⟨by first | rfl | (simp [errW_none, errW_some] <;> rfl) | (simp [*, errW_none, errW_some] <;> rfl), by repeat (first | (with_reducible first | exact HB.out | apply below_alloc | apply pw_below_drewN | apply below_drew1 | refine below_set ?_ GE218.out) | exact HB.out)⟩
  · rw [if_neg c2] at H
    have c2b0 : (a0_0 == 1) = false := beq_eq_false_iff_ne.mpr c2
    have c2b1 : (a0_0 != 1) = true := bne_iff_ne.mpr c2
    by_cases c5 : a0_0 = 2
    · rw [if_pos c5] at H
      have c5b0 : (a0_0 == 2) = true := beq_iff_eq.mpr c5
      have c5b1 : (a0_0 != 2) = false := bne_eq_false_iff_eq.mpr c5
      clear c5
      replace H := Option.bind_eq_some_iff.mp H
      obtain ⟨t219, A60, H⟩ := H
      replace H : (some t219) = some r := H
      have A6 := Aside0.mk A60
      clear A60
      obtain rfl := Option.some.inj H
      go_enter Tryd.func17, Tryd.ntmps17
      go_wp2_with (first | ((with_reducible refine gate_dst (N := 1) rfl ?_); refine box_event ?hg (N := 1) ?hd (cs := #[.int .i64 a0_0, .int .i64 a0_1, .string a0_2, .slice A0_3 l0_3.length c0_3]) (t := 42) ?hr ?_; (case hd => rfl); (case hg => rfl); (case hr => first | (go_simp; done) | (go_simp; rfl)); intro gb218 hg w7 hbox hb; have n0_ := Aside0.mk (below_step (by repeat (first | (with_reducible first | exact HB.out | apply below_alloc | apply pw_below_drewN | apply below_drew1) | exact HB.out)) hb); have n1_ := Aside0.mk (hbox); have n2_ := Aside0.mk ((by rw [hg]; exact (below_size (by repeat (first | (with_reducible first | exact HB.out | apply below_alloc | apply pw_below_drewN | apply below_drew1) | exact HB.out))) : w.heap.size ≤ gb218)); have n3_ := Aside0.mk ((by rw [hg]; exact (below_size (by repeat (first | (with_reducible first | exact HB.out | apply below_alloc | apply pw_below_drewN | apply below_drew1) | exact HB.out))) : w.heap.size ≤ gb218)); clear HB; have HB := n0_; have BK218 := n1_; have GW218 := n2_; have GE218 := n3_; clear n0_ n1_ n2_ n3_; clear hb hbox hg; have hcz8_0 : w7.cell? ⟨gb218, 0, none⟩ = some (.int .i64 a0_0) := (blk_cell BK218.out 0).trans rfl; have hcz8_1 : w7.cell? ⟨gb218, 1, none⟩ = some (.int .i64 a0_1) := (blk_cell BK218.out 1).trans rfl; have hcz8_2 : w7.cell? ⟨gb218, 2, none⟩ = some (.string a0_2) := (blk_cell BK218.out 2).trans rfl; have hcz8_3 : w7.cell? ⟨gb218, 3, none⟩ = some (.slice A0_3 l0_3.length c0_3) := (blk_cell BK218.out 3).trans rfl; have hfz8_0 := blk_frozen BK218.out 0; have hfz8_1 := blk_frozen BK218.out 1; have hfz8_2 := blk_frozen BK218.out 2; have hfz8_3 := blk_frozen BK218.out 3) | ((with_reducible refine gate_callee (f := 32) rfl ?_); refine goesL_ (some 15) rfl rfl Tryd.func32 (by kernel_rfl) rfl #[.int .i64 a0_1] rfl (by (try simp only [List.map_toArray, List.map_cons, List.map_nil]); first | done | rfl | (simp only [List.length_drop, List.length_take]; rfl)) ?_; (with_reducible refine (thyrsusref3_Digits.calls k a0_1 t219 _ A6.out).mono ?_); rintro e w9 ⟨rfl, hb⟩; refine ⟨_, rfl, ?_⟩; have n0_ := Aside0.mk (blk_below (g := gb218) (o := .cells #[.int .i64 a0_0, .int .i64 a0_1, .string a0_2, .slice A0_3 l0_3.length c0_3] 42 (0, 0)) (by (with_reducible repeat (first | refine blk_drewN ?_ _ | refine blk_drew ?_ | refine blk_alloc ?_ _)); exact BK218.out) hb); have n1_ := Aside0.mk (below_step (by repeat (first | (with_reducible first | exact HB.out | apply below_alloc | apply pw_below_drewN | apply below_drew1 | refine below_set ?_ GE218.out) | exact HB.out)) hb); clear BK218; clear HB; have BK218 := n0_; have HB := n1_; clear n0_ n1_; (try clear hb); (try clear hb2); (try clear hk); (try clear hi)))
      go_ret
      exact ⟨by first | rfl | (simp [errW_none, errW_some] <;> rfl) | (simp [*, errW_none, errW_some] <;> rfl), by repeat (first | (with_reducible first | exact HB.out | apply below_alloc | apply pw_below_drewN | apply below_drew1 | refine below_set ?_ GE218.out) | exact HB.out)⟩
    · rw [if_neg c5] at H
      have c5b0 : (a0_0 == 2) = false := beq_eq_false_iff_ne.mpr c5
      have c5b1 : (a0_0 != 2) = true := bne_iff_ne.mpr c5
      have H' := Aside0.mk H
      clear H
      go_enter Tryd.func17, Tryd.ntmps17
      go_wp2_with (first | ((with_reducible refine gate_dst (N := 1) rfl ?_); refine box_event ?hg (N := 1) ?hd (cs := #[.int .i64 a0_0, .int .i64 a0_1, .string a0_2, .slice A0_3 l0_3.length c0_3]) (t := 42) ?hr ?_; (case hd => rfl); (case hg => rfl); (case hr => first | (go_simp; done) | (go_simp; rfl)); intro gb218 hg w10 hbox hb; have n0_ := Aside0.mk (below_step (by repeat (first | (with_reducible first | exact HB.out | apply below_alloc | apply pw_below_drewN | apply below_drew1) | exact HB.out)) hb); have n1_ := Aside0.mk (hbox); have n2_ := Aside0.mk ((by rw [hg]; exact (below_size (by repeat (first | (with_reducible first | exact HB.out | apply below_alloc | apply pw_below_drewN | apply below_drew1) | exact HB.out))) : w.heap.size ≤ gb218)); have n3_ := Aside0.mk ((by rw [hg]; exact (below_size (by repeat (first | (with_reducible first | exact HB.out | apply below_alloc | apply pw_below_drewN | apply below_drew1) | exact HB.out))) : w.heap.size ≤ gb218)); clear HB; have HB := n0_; have BK218 := n1_; have GW218 := n2_; have GE218 := n3_; clear n0_ n1_ n2_ n3_; clear hb hbox hg; have hcz11_0 : w10.cell? ⟨gb218, 0, none⟩ = some (.int .i64 a0_0) := (blk_cell BK218.out 0).trans rfl; have hcz11_1 : w10.cell? ⟨gb218, 1, none⟩ = some (.int .i64 a0_1) := (blk_cell BK218.out 1).trans rfl; have hcz11_2 : w10.cell? ⟨gb218, 2, none⟩ = some (.string a0_2) := (blk_cell BK218.out 2).trans rfl; have hcz11_3 : w10.cell? ⟨gb218, 3, none⟩ = some (.slice A0_3 l0_3.length c0_3) := (blk_cell BK218.out 3).trans rfl; have hfz11_0 := blk_frozen BK218.out 0; have hfz11_1 := blk_frozen BK218.out 1; have hfz11_2 := blk_frozen BK218.out 2; have hfz11_3 := blk_frozen BK218.out 3))
      go_loopg [3, 4] k (fun kq v3 v4 w' => ∃ (x3_1 : ByteArray) (x4_1 : Int), v3 = .string x3_1 ∧ v4 = .int .i64 x4_1 ∧ Aside0 (thyrsusref3_Text.l0 kq x3_1 x4_1 a0_0 a0_1 a0_2 l0_3 = some r) ∧ Aside0 (kq ≤ k) ∧ Aside0 (w'.heap[gb218]? = some (.cells #[.int .i64 a0_0, .int .i64 a0_1, .string a0_2, (.slice A0_3 l0_3.length c0_3)] 42 (0, 0))) ∧ Aside0 (Below w.heap.size w w'))
      case atStart => exact ⟨((⟨#[40]⟩ : ByteArray)), (0), (by first | rfl | (simp; done) | (simp [*]; done)), (by first | rfl | (simp; done) | (simp [*]; done)), H', ⟨Nat.le_refl _⟩, ⟨by (with_reducible repeat (first | refine blk_drewN ?_ _ | refine blk_drew ?_ | refine blk_alloc ?_ _)); exact BK218.out⟩, ⟨by repeat (first | (with_reducible first | exact HB.out | apply below_alloc | apply pw_below_drewN | apply below_drew1 | refine below_set ?_ GE218.out) | exact HB.out)⟩⟩
      case round =>
        clear H'
        try clear c1
        try clear c2
        try clear c2b0
        try clear c2b1
        try clear p2
        try clear c3
        try clear c5
        try clear c5b0
        try clear c5b1
        try clear hcz11_0
        try clear hcz11_1
        try clear hcz11_2
        try clear hcz11_3
        try clear hcz4_0
        try clear hcz4_1
        try clear hcz4_2
        try clear hcz4_3
        try clear hcz8_0
        try clear hcz8_1
        try clear hcz8_2
        try clear hcz8_3
        try clear hfz11_0
        try clear hfz11_1
        try clear hfz11_2
        try clear hfz11_3
        try clear hfz4_0
        try clear hfz4_1
        try clear hfz4_2
        try clear hfz4_3
        try clear hfz8_0
        try clear hfz8_1
        try clear hfz8_2
        try clear hfz8_3
        try clear BK218
        try clear HB
        obtain ⟨x3_1, x4_1, rfl, rfl, HA, HK1, BK218, HB⟩ := hrel
        cases gk with
        | zero => exact absurd HA.out (by simp [thyrsusref3_Text.l0])
        | succ k1 =>
          have H := HA.out
          clear HA
          simp only [thyrsusref3_Text.l0] at H
          by_cases c12 : x4_1 < (l0_3.length : Int)
          · rw [if_pos c12] at H
            have c12b0 : decide (x4_1 < (l0_3.length : Int)) = true := decide_eq_true c12
            clear c12
            by_cases c13 : x4_1 > 0
            · rw [if_pos c13] at H
              have c13b0 : decide (0 < x4_1) = true := decide_eq_true c13
              clear c13
              by_cases c14 : x3_1.size + 1 ≤ 9223372036854775807
              · rw [if_pos c14] at H
                have c14b0 := eq_true c14
                have c14b1 : decide (x3_1.size + 1 ≤ 9223372036854775807) = true := decide_eq_true c14
                try have c14b2 : (9223372036854775807 < x3_1.size + 1) = False := eq_false (Nat.not_lt.2 c14)
                by_cases c15 : 0 ≤ x4_1
                · rw [if_pos c15] at H
                  have c15b0 : decide (0 ≤ x4_1) = true := decide_eq_true c15
                  clear c15
                  replace H := Option.bind_eq_some_iff.mp H
                  obtain ⟨t221, A160, H⟩ := H
                  replace H : (if (x3_1 ++ (⟨#[32]⟩ : ByteArray)).size + t221.size ≤ 9223372036854775807 then (thyrsusref3_Text.l0 k1 ((x3_1 ++ (⟨#[32]⟩ : ByteArray)) ++ t221) (wrap64 (x4_1 + 1)) a0_0 a0_1 a0_2 l0_3) else (none)) = some r := H
                  have A16 := Aside0.mk A160
                  clear A160
                  by_cases c17 : (x3_1 ++ (⟨#[32]⟩ : ByteArray)).size + t221.size ≤ 9223372036854775807
                  · rw [if_pos c17] at H
                    have c17b0 := eq_true c17
                    have c17b1 : decide ((x3_1 ++ (⟨#[32]⟩ : ByteArray)).size + t221.size ≤ 9223372036854775807) = true := decide_eq_true c17
                    try have c17b2 : (9223372036854775807 < (x3_1 ++ (⟨#[32]⟩ : ByteArray)).size + t221.size) = False := eq_false (Nat.not_lt.2 c17)
                    have c17n : x3_1.size + 1 + t221.size ≤ 9223372036854775807 := by
                      have h_ := c17
                      rw [ByteArray.size_append] at h_
                      exact h_
                    have c17b3 : (9223372036854775807 < x3_1.size + 1 + t221.size) = False := eq_false (Nat.not_lt.2 c17n)
                    clear c17n
                    have H' := Aside0.mk H
                    clear H
                    have hcz18_0 : wr.cell? ⟨gb218, 0, none⟩ = some (.int .i64 a0_0) := (blk_cell BK218.out 0).trans rfl
                    have hcz18_1 : wr.cell? ⟨gb218, 1, none⟩ = some (.int .i64 a0_1) := (blk_cell BK218.out 1).trans rfl
                    have hcz18_2 : wr.cell? ⟨gb218, 2, none⟩ = some (.string a0_2) := (blk_cell BK218.out 2).trans rfl
                    have hcz18_3 : wr.cell? ⟨gb218, 3, none⟩ = some (.slice A0_3 l0_3.length c0_3) := (blk_cell BK218.out 3).trans rfl
                    have hfz18_0 := blk_frozen BK218.out 0
                    have hfz18_1 := blk_frozen BK218.out 1
                    have hfz18_2 := blk_frozen BK218.out 2
                    have hfz18_3 := blk_frozen BK218.out 3
                    have p220 : 0 ≤ (x4_1 : Int) := of_decide_eq_true (by first | (with_reducible assumption) | assumption)
                    have q220 : x4_1 < (l0_3.length : Int) := of_decide_eq_true (by first | (with_reducible assumption) | assumption)
                    obtain ⟨ad220, A220_3, c220_3, e220, hx220_0, hx220_1, hx220_2, hx220_3, hl220_3, hi220_3⟩ := at_T42 HR0_3.out x4_1 p220 q220
                    cases e220
                    replace hx220_0 := (HB.out.cell (World.block_lt_of_cell? w _ hx220_0)).trans hx220_0
                    replace hx220_1 := (HB.out.cell (World.block_lt_of_cell? w _ hx220_1)).trans hx220_1
                    replace hx220_2 := (HB.out.cell (World.block_lt_of_cell? w _ hx220_2)).trans hx220_2
                    replace hx220_3 := (HB.out.cell (World.block_lt_of_cell? w _ hx220_3)).trans hx220_3
                    have HR220_3 := Aside0.mk hi220_3
                    have HC220_3 := Aside0.mk hl220_3
                    clear hi220_3 hl220_3
                    replace p220 := eq_true p220
                    replace q220 := eq_true q220
                    go_wp2_with (first | ((with_reducible refine gate_callee (f := 17) rfl ?_); refine goesL_ (some 33) rfl rfl Tryd.func17 (by kernel_rfl) rfl #[.agg #[.int .i64 ((rd_T42 l0_3 x4_1).f0), .int .i64 ((rd_T42 l0_3 x4_1).f1), .string ((rd_T42 l0_3 x4_1).f2), .slice A220_3 ((rd_T42 l0_3 x4_1).f3).length c220_3]] rfl (by (try simp only [List.map_toArray, List.map_cons, List.map_nil]); first | done | rfl | (simp only [List.length_drop, List.length_take]; rfl)) ?_; (with_reducible refine (ih k1 (by have := HK1.out; omega) ((rd_T42 l0_3 x4_1).f0) ((rd_T42 l0_3 x4_1).f1) ((rd_T42 l0_3 x4_1).f2) _ _ ((rd_T42 l0_3 x4_1).f3) t221 _ ?side1 ?side2 A16.out).mono ?_); (case side1 => repeat (first | exact (Kd.C_below HR220_3.out HB.out) | (with_reducible refine Kd.C_alloc ?_ _) | (with_reducible refine Kd.C_drewN ?_ _) | (with_reducible refine Kd.C_drew ?_))); (case side2 => exact HC220_3.out); rintro e w19 ⟨rfl, hb⟩; refine ⟨_, rfl, ?_⟩; have n0_ := Aside0.mk (blk_below (g := gb218) (o := .cells #[.int .i64 a0_0, .int .i64 a0_1, .string a0_2, .slice (some ad220) l0_3.length c0_3] 42 (0, 0)) (by (with_reducible repeat (first | refine blk_drewN ?_ _ | refine blk_drew ?_ | refine blk_alloc ?_ _)); exact BK218.out) hb); have n1_ := Aside0.mk (below_step (by repeat (first | (with_reducible first | exact HB.out | apply below_alloc | apply pw_below_drewN | apply below_drew1 | refine below_set ?_ GE218.out) | exact HB.out)) hb); clear BK218; clear HB; have BK218 := n0_; have HB := n1_; clear n0_ n1_; (try clear hb); (try clear hb2); (try clear hk); (try clear hi)))
                    go_roundg k1
                    case measure => have := HK1.out; omega
                    case rel => exact ⟨((x3_1 ++ (⟨#[32]⟩ : ByteArray)) ++ t221), (wrap64 (x4_1 + 1)), (by first | rfl | (simp; done) | (simp [*]; done)), (by first | rfl | (simp; done) | (simp [*]; done)), H', ⟨by have := HK1.out; omega⟩, ⟨by (with_reducible repeat (first | refine blk_drewN ?_ _ | refine blk_drew ?_ | refine blk_alloc ?_ _)); exact BK218.out⟩, ⟨by repeat (first | (with_reducible first | exact HB.out | apply below_alloc | apply pw_below_drewN | apply below_drew1 | refine below_set ?_ GE218.out) | exact HB.out)⟩⟩
                  · rw [if_neg c17] at H
                    exact absurd H (by simp)
                · rw [if_neg c15] at H
                  exact absurd H (by simp)
              · rw [if_neg c14] at H
                exact absurd H (by simp)
            · rw [if_neg c13] at H
              have c13b0 : decide (0 < x4_1) = false := decide_eq_false c13
              clear c13
              by_cases c20 : 0 ≤ x4_1
              · rw [if_pos c20] at H
                have c20b0 : decide (0 ≤ x4_1) = true := decide_eq_true c20
                clear c20
                replace H := Option.bind_eq_some_iff.mp H
                obtain ⟨t223, A210, H⟩ := H
                replace H : (if x3_1.size + t223.size ≤ 9223372036854775807 then (thyrsusref3_Text.l0 k1 (x3_1 ++ t223) (wrap64 (x4_1 + 1)) a0_0 a0_1 a0_2 l0_3) else (none)) = some r := H
                have A21 := Aside0.mk A210
                clear A210
                by_cases c22 : x3_1.size + t223.size ≤ 9223372036854775807
                · rw [if_pos c22] at H
                  have c22b0 := eq_true c22
                  have c22b1 : decide (x3_1.size + t223.size ≤ 9223372036854775807) = true := decide_eq_true c22
                  try have c22b2 : (9223372036854775807 < x3_1.size + t223.size) = False := eq_false (Nat.not_lt.2 c22)
                  have H' := Aside0.mk H
                  clear H
                  have hcz23_0 : wr.cell? ⟨gb218, 0, none⟩ = some (.int .i64 a0_0) := (blk_cell BK218.out 0).trans rfl
                  have hcz23_1 : wr.cell? ⟨gb218, 1, none⟩ = some (.int .i64 a0_1) := (blk_cell BK218.out 1).trans rfl
                  have hcz23_2 : wr.cell? ⟨gb218, 2, none⟩ = some (.string a0_2) := (blk_cell BK218.out 2).trans rfl
                  have hcz23_3 : wr.cell? ⟨gb218, 3, none⟩ = some (.slice A0_3 l0_3.length c0_3) := (blk_cell BK218.out 3).trans rfl
                  have hfz23_0 := blk_frozen BK218.out 0
                  have hfz23_1 := blk_frozen BK218.out 1
                  have hfz23_2 := blk_frozen BK218.out 2
                  have hfz23_3 := blk_frozen BK218.out 3
                  have p222 : 0 ≤ (x4_1 : Int) := of_decide_eq_true (by first | (with_reducible assumption) | assumption)
                  have q222 : x4_1 < (l0_3.length : Int) := of_decide_eq_true (by first | (with_reducible assumption) | assumption)
                  obtain ⟨ad222, A222_3, c222_3, e222, hx222_0, hx222_1, hx222_2, hx222_3, hl222_3, hi222_3⟩ := at_T42 HR0_3.out x4_1 p222 q222
                  cases e222
                  replace hx222_0 := (HB.out.cell (World.block_lt_of_cell? w _ hx222_0)).trans hx222_0
                  replace hx222_1 := (HB.out.cell (World.block_lt_of_cell? w _ hx222_1)).trans hx222_1
                  replace hx222_2 := (HB.out.cell (World.block_lt_of_cell? w _ hx222_2)).trans hx222_2
                  replace hx222_3 := (HB.out.cell (World.block_lt_of_cell? w _ hx222_3)).trans hx222_3
                  have HR222_3 := Aside0.mk hi222_3
                  have HC222_3 := Aside0.mk hl222_3
                  clear hi222_3 hl222_3
                  replace p222 := eq_true p222
                  replace q222 := eq_true q222
                  go_wp2_with (first | ((with_reducible refine gate_callee (f := 17) rfl ?_); refine goesL_ (some 33) rfl rfl Tryd.func17 (by kernel_rfl) rfl #[.agg #[.int .i64 ((rd_T42 l0_3 x4_1).f0), .int .i64 ((rd_T42 l0_3 x4_1).f1), .string ((rd_T42 l0_3 x4_1).f2), .slice A222_3 ((rd_T42 l0_3 x4_1).f3).length c222_3]] rfl (by (try simp only [List.map_toArray, List.map_cons, List.map_nil]); first | done | rfl | (simp only [List.length_drop, List.length_take]; rfl)) ?_; (with_reducible refine (ih k1 (by have := HK1.out; omega) ((rd_T42 l0_3 x4_1).f0) ((rd_T42 l0_3 x4_1).f1) ((rd_T42 l0_3 x4_1).f2) _ _ ((rd_T42 l0_3 x4_1).f3) t223 _ ?side1 ?side2 A21.out).mono ?_); (case side1 => repeat (first | exact (Kd.C_below HR222_3.out HB.out) | (with_reducible refine Kd.C_alloc ?_ _) | (with_reducible refine Kd.C_drewN ?_ _) | (with_reducible refine Kd.C_drew ?_))); (case side2 => exact HC222_3.out); rintro e w24 ⟨rfl, hb⟩; refine ⟨_, rfl, ?_⟩; have n0_ := Aside0.mk (blk_below (g := gb218) (o := .cells #[.int .i64 a0_0, .int .i64 a0_1, .string a0_2, .slice (some ad222) l0_3.length c0_3] 42 (0, 0)) (by (with_reducible repeat (first | refine blk_drewN ?_ _ | refine blk_drew ?_ | refine blk_alloc ?_ _)); exact BK218.out) hb); have n1_ := Aside0.mk (below_step (by repeat (first | (with_reducible first | exact HB.out | apply below_alloc | apply pw_below_drewN | apply below_drew1 | refine below_set ?_ GE218.out) | exact HB.out)) hb); clear BK218; clear HB; have BK218 := n0_; have HB := n1_; clear n0_ n1_; (try clear hb); (try clear hb2); (try clear hk); (try clear hi)))
                  go_roundg k1
                  case measure => have := HK1.out; omega
                  case rel => exact ⟨(x3_1 ++ t223), (wrap64 (x4_1 + 1)), (by first | rfl | (simp; done) | (simp [*]; done)), (by first | rfl | (simp; done) | (simp [*]; done)), H', ⟨by have := HK1.out; omega⟩, ⟨by (with_reducible repeat (first | refine blk_drewN ?_ _ | refine blk_drew ?_ | refine blk_alloc ?_ _)); exact BK218.out⟩, ⟨by repeat (first | (with_reducible first | exact HB.out | apply below_alloc | apply pw_below_drewN | apply below_drew1 | refine below_set ?_ GE218.out) | exact HB.out)⟩⟩
                · rw [if_neg c22] at H
                  exact absurd H (by simp)
              · rw [if_neg c20] at H
                exact absurd H (by simp)
          · rw [if_neg c12] at H
            have c12b0 : decide (x4_1 < (l0_3.length : Int)) = false := decide_eq_false c12
            clear c12
            by_cases c25 : x3_1.size + 1 ≤ 9223372036854775807
            · rw [if_pos c25] at H
              have c25b0 := eq_true c25
              have c25b1 : decide (x3_1.size + 1 ≤ 9223372036854775807) = true := decide_eq_true c25
              try have c25b2 : (9223372036854775807 < x3_1.size + 1) = False := eq_false (Nat.not_lt.2 c25)
              obtain rfl := Option.some.inj H
              have hcz26_0 : wr.cell? ⟨gb218, 0, none⟩ = some (.int .i64 a0_0) := (blk_cell BK218.out 0).trans rfl
              have hcz26_1 : wr.cell? ⟨gb218, 1, none⟩ = some (.int .i64 a0_1) := (blk_cell BK218.out 1).trans rfl
              have hcz26_2 : wr.cell? ⟨gb218, 2, none⟩ = some (.string a0_2) := (blk_cell BK218.out 2).trans rfl
              have hcz26_3 : wr.cell? ⟨gb218, 3, none⟩ = some (.slice A0_3 l0_3.length c0_3) := (blk_cell BK218.out 3).trans rfl
              have hfz26_0 := blk_frozen BK218.out 0
              have hfz26_1 := blk_frozen BK218.out 1
              have hfz26_2 := blk_frozen BK218.out 2
              have hfz26_3 := blk_frozen BK218.out 3
              go_wp2
              go_ret
              exact ⟨by first | rfl | (simp [errW_none, errW_some] <;> rfl) | (simp [*, errW_none, errW_some] <;> rfl), by repeat (first | (with_reducible first | exact HB.out | apply below_alloc | apply pw_below_drewN | apply below_drew1 | refine below_set ?_ GE218.out) | exact HB.out)⟩
            · rw [if_neg c25] at H
              exact absurd H (by simp)

end Go.Proofs.YtkkmgahgejjhgaaDoor.P
/- The reference's text of a made form; a text of one made form, of two, is read as just those. No conditions but those that each theorem tells. -/
namespace Go.Proofs.YtkkmgahgejjhgaaDoor.Pure
open Go.RowKit Go.Proofs.YtkkmgahgejjhgaaDoor.P Go.Proofs.YtkkmgahgejjhgaaDoor.Lex Go.Proofs.YtkkmgahgejjhgaaDoor.Frm Go.Proofs.YtkkmgahgejjhgaaDoorW.PrintWords Go.Proofs.YtkkmgahgejjhgaaDoorW.PrintLast Go.Proofs.YtkkmgahgejjhgaaDoorW.PrintMore
set_option linter.unusedVariables false
set_option linter.unusedSimpArgs false
theorem lst_one (n : Nat) (h : n < 10) : lst (strOfNums [(wrap64 (48 + (n : Int))) % 256]) = [UInt8.ofNat (48 + n)] := by
  have hc : n = 0 ∨ n = 1 ∨ n = 2 ∨ n = 3 ∨ n = 4 ∨ n = 5 ∨ n = 6 ∨ n = 7 ∨ n = 8 ∨ n = 9 := by omega
  rcases hc with rfl | rfl | rfl | rfl | rfl | rfl | rfl | rfl | rfl | rfl <;> (show _ = _; kernel_rfl)
theorem digits_nat : ∀ (n : Nat), n < 10 ^ 15 → ∃ b : ByteArray, Ev (fun k => thyrsusref3_Digits.f k (n : Int)) b ∧ lst b = Lib.decDigits n := by
  intro n
  induction n using Nat.strongRecOn with
  | _ n ih =>
    intro hn
    have hn2 : n < 1000000000000000 := hn
    by_cases h : n < 10
    · refine ⟨strOfNums [(wrap64 (48 + (n : Int))) % 256], Ev.step (f := fun _ => some (strOfNums [(wrap64 (48 + (n : Int))) % 256])) (fun k => ?_) (Ev.now _), ?_⟩
      · simp only [thyrsusref3_Digits.f]
        rw [if_neg (by omega), if_neg (by omega)]
      · rw [lst_one n h, Lib.decDigits, dif_pos h]
    · obtain ⟨b1, e1, l1⟩ := ih (n / 10) (by omega) (by show n / 10 < 1000000000000000; omega)
      obtain ⟨b2, e2, l2⟩ := ih (n % 10) (by omega) (by show n % 10 < 1000000000000000; omega)
      have d1 : Int.tdiv (n : Int) 10 = ((n / 10 : Nat) : Int) := by
        rw [Int.tdiv_eq_ediv_of_nonneg (by omega)]
        omega
      have d2 : Int.tmod (n : Int) 10 = ((n % 10 : Nat) : Int) := by
        rw [Int.tmod_eq_emod_of_nonneg (by omega)]
        omega
      have z1 : b1.size ≤ 15 := by
        rw [← lst_len, l1]
        exact dec_len 14 (n / 10) (by show n / 10 < 1000000000000000; omega)
      have z2 : b2.size ≤ 15 := by
        rw [← lst_len, l2]
        exact dec_len 14 (n % 10) (by show n % 10 < 1000000000000000; omega)
      refine ⟨b1 ++ b2, Ev.step (f := fun k => (thyrsusref3_Digits.f k ((n / 10 : Nat) : Int)).bind fun t213 => ((thyrsusref3_Digits.f k ((n % 10 : Nat) : Int)).bind fun t214 => (if t213.size + t214.size ≤ 9223372036854775807 then (some (t213 ++ t214)) else (none)))) (fun k => ?_) (Ev.bind e1 (Ev.bind e2 ?_)), ?_⟩
      · simp only [thyrsusref3_Digits.f]
        rw [if_neg (by omega), if_pos (by omega), d1, d2, wrap_id (n := ((n / 10 : Nat) : Int)) (by omega)]
      · simp only [if_pos (show b1.size + b2.size ≤ 9223372036854775807 by omega)]
        exact Ev.now _
      · rw [lst_append, l1, l2]
        have e := Lib.decDigits.eq_1 n
        rw [dif_neg h] at e
        rw [e]
        congr 1
        rw [Lib.decDigits, dif_pos (by omega)]
theorem digits_ev {z : Int} (hz : -549755813888 ≤ z ∧ z < 549755813888) : ∃ b : ByteArray, Ev (fun k => thyrsusref3_Digits.f k z) b ∧ lst b = Lib.itoa z := by
  unfold Lib.itoa
  by_cases h : z < 0
  · rw [if_pos h]
    obtain ⟨b, e, l⟩ := digits_nat z.natAbs (by show z.natAbs < 1000000000000000; omega)
    have zb : b.size ≤ 15 := by
      rw [← lst_len, l]
      exact dec_len 14 z.natAbs (by show z.natAbs < 1000000000000000; omega)
    refine ⟨(⟨#[45]⟩ : ByteArray) ++ b, Ev.step (f := fun k => (thyrsusref3_Digits.f k ((z.natAbs : Nat) : Int)).bind fun t212 => (if 1 + t212.size ≤ 9223372036854775807 then (some ((⟨#[45]⟩ : ByteArray) ++ t212)) else (none))) (fun k => ?_) (Ev.bind e ?_), ?_⟩
    · simp only [thyrsusref3_Digits.f]
      rw [if_pos h, if_neg (by omega), wrap_id (n := -z) (by omega), show -z = ((z.natAbs : Nat) : Int) by omega]
    · simp only [if_pos (show 1 + b.size ≤ 9223372036854775807 by omega)]
      exact Ev.now _
    · rw [lst_append, l]
      rfl
  · rw [if_neg h]
    obtain ⟨n, rfl⟩ := Int.eq_ofNat_of_zero_le (show 0 ≤ z by omega)
    exact digits_nat n (by show n < 1000000000000000; omega)
theorem txs_snoc : ∀ (l : List S42) (x : S42), txr (l ++ [x]) = txr l ++ 32 :: tx x
  | [], x => by simp [txr]
  | y :: l, x => by
    rw [List.cons_append, txr, txs_snoc l x, txr]
    simp
theorem txs_snoc' {l : List S42} (x : S42) (h : l ≠ []) : txs (l ++ [x]) = txs l ++ 32 :: tx x := by
  cases l with
  | nil => exact absurd rfl h
  | cons y l =>
    rw [List.cons_append, txs, txs_snoc l x, txs]
    simp
theorem txs_take_len {n : Nat} {l : List S42} (h : ∀ x ∈ l, Fine n x) (i : Nat) : (txs (l.take i)).length ≤ 16 * sizes42 l := by
  have h1 := txs_len (l.take i) (fun x hx => h x (List.mem_of_mem_take hx))
  have h2 : ∀ (l : List S42) (i : Nat), sizes42 (l.take i) ≤ sizes42 l := by
    intro l
    induction l with
    | nil => intro i; simp [sizes42]
    | cons x l ih =>
      intro i
      cases i with
      | zero => simp [sizes42]
      | succ i =>
        have := ih i
        simp only [List.take_succ_cons, sizes42]
        omega
  have := h2 l i
  omega
theorem rtext_ev {n : Nat} {t : S42} (h : Fine n t) (hs : size42 t ≤ 1000) : ∃ b : ByteArray, Ev (fun k => thyrsusref3_Text.f k t.f0 t.f1 t.f2 t.f3) b ∧ lst b = tx t := by
  induction h with
  | name n s hm => exact ⟨s, Ev.step (f := fun _ => some s) (fun k => by simp only [thyrsusref3_Text.f]; rfl) (Ev.now _), by simp [tx]⟩
  | num n z hz =>
    obtain ⟨b, e, l⟩ := digits_ev hz
    refine ⟨b, Ev.step (f := fun k => (thyrsusref3_Digits.f k z).bind fun t219 => some t219) (fun k => ?_) (Ev.bind e (Ev.now _)), by simp [tx, l]⟩
    simp only [thyrsusref3_Text.f, if_true]
    rw [if_neg (by decide)]
  | list n l hl ih =>
    simp only [size42] at hs
    have hlen : l.length ≤ 1000 := Nat.le_trans (sizes42_len l) (by omega)
    have loop : ∀ (d i : Nat) (acc : ByteArray), i + d = l.length → lst acc = 40 :: txs (l.take i) → ∃ b : ByteArray, Ev (fun k => thyrsusref3_Text.l0 k acc (i : Int) 3 0 ⟨#[]⟩ l) b ∧ lst b = 40 :: (txs l ++ [41]) := by
      intro d
      induction d with
      | zero =>
        intro i acc hi hacc
        obtain rfl : i = l.length := by omega
        rw [List.take_length] at hacc
        have hz : acc.size ≤ 20000 := by
          have := txs_len l hl
          rw [← lst_len, hacc, List.length_cons]
          omega
        refine ⟨acc ++ (⟨#[41]⟩ : ByteArray), Ev.step (f := fun _ => some (acc ++ (⟨#[41]⟩ : ByteArray))) (fun k => ?_) (Ev.now _), ?_⟩
        · simp only [thyrsusref3_Text.l0]
          rw [if_neg (by omega), if_pos (by omega)]
        · rw [lst_append, hacc]
          rfl
      | succ d ihd =>
        intro i acc hi hacc
        have hil : i < l.length := by omega
        have hsz := sizes42_mem l l[i] (List.getElem_mem hil)
        obtain ⟨t, et, ht⟩ := ih l[i] (List.getElem_mem hil) (by omega)
        have hz : acc.size ≤ 20000 := by
          have := txs_take_len hl i
          rw [← lst_len, hacc, List.length_cons]
          omega
        have htz : t.size ≤ 20000 := by
          have := tx_len (hl l[i] (List.getElem_mem hil))
          rw [← lst_len, ht]
          omega
        by_cases h0 : i = 0
        · subst h0
          obtain ⟨b, e2, hb⟩ := ihd 1 (acc ++ t) (by omega) (by
            rw [lst_append, hacc, ht, List.take_zero]
            cases l with
            | nil => simp at hil
            | cons x l => simp [txs, txr])
          refine ⟨b, Ev.step (f := fun k => (thyrsusref3_Text.f k l[0].f0 l[0].f1 l[0].f2 l[0].f3).bind fun t223 => (if acc.size + t223.size ≤ 9223372036854775807 then thyrsusref3_Text.l0 k (acc ++ t223) ((1 : Nat) : Int) 3 0 ⟨#[]⟩ l else none)) (fun k => ?_) (Ev.bind et ?_), hb⟩
          · simp only [thyrsusref3_Text.l0]
            rw [if_pos (by omega), if_neg (by omega), if_pos (by omega), rd42 hil, wrap_id (n := ((0 : Nat) : Int) + 1) (by omega)]
            rfl
          · simp only [if_pos (show acc.size + t.size ≤ 9223372036854775807 by omega)]
            exact e2
        · obtain ⟨b, e2, hb⟩ := ihd (i + 1) ((acc ++ (⟨#[32]⟩ : ByteArray)) ++ t) (by omega) (by
            rw [lst_append, lst_append, hacc, ht, List.take_succ_eq_append_getElem hil, txs_snoc' _ (by
              intro h
              have h9 := congrArg List.length h
              rw [List.length_take, List.length_nil] at h9
              omega)]
            simp [lst])
          refine ⟨b, Ev.step (f := fun k => (thyrsusref3_Text.f k l[i].f0 l[i].f1 l[i].f2 l[i].f3).bind fun t221 => (if (acc ++ (⟨#[32]⟩ : ByteArray)).size + t221.size ≤ 9223372036854775807 then thyrsusref3_Text.l0 k ((acc ++ (⟨#[32]⟩ : ByteArray)) ++ t221) ((i + 1 : Nat) : Int) 3 0 ⟨#[]⟩ l else none)) (fun k => ?_) (Ev.bind et ?_), hb⟩
          · simp only [thyrsusref3_Text.l0]
            rw [if_pos (by omega), if_pos (by omega), if_pos (by omega), if_pos (by omega), rd42 hil, wrap_id (n := (i : Int) + 1) (by omega)]
            rfl
          · simp only [if_pos (show (acc ++ (⟨#[32]⟩ : ByteArray)).size + t.size ≤ 9223372036854775807 by rw [ByteArray.size_append, szA1]; omega)]
            exact e2
    obtain ⟨b, e1, hb⟩ := loop l.length 0 ⟨#[40]⟩ (by omega) (by simp [txs, lst])
    refine ⟨b, Ev.step (f := fun k => thyrsusref3_Text.l0 k ⟨#[40]⟩ ((0 : Nat) : Int) 3 0 ⟨#[]⟩ l) (fun k => ?_) e1, ?_⟩
    · simp only [thyrsusref3_Text.f]
      rw [if_neg (by decide), if_neg (by decide)]
      rfl
    · rw [hb]
      simp [tx]
/-! ### Texts of one form, of two -/
theorem toks_end (f p : Nat) (acc : List S63) : toks (f + 1) [] p acc = (acc, 0, 0) := by
  rw [toks]
  simp [blk]
theorem frun_end (top : List S42) (sz : Int) : frun [] [] top sz = (top, 0, 0) := by rw [frun.eq_def]
theorem parse_one {n : Nat} {t : S42} (h : Fine n t) (hn : n ≤ 30) {s : ByteArray} (hs : lst s = tx t) (hl : s.size ≤ 4000) : fparse s = ([t], 0, 0) := by
  obtain ⟨ts, a, b, c, _⟩ := par_form h 0 [] rfl
  have hz : (tx t).length = s.size := by rw [← hs, lst_len]
  have e : tokens (lst s) = (ts, 0, 0) := by
    unfold tokens
    rw [if_neg (by rw [lst_len]; omega), hs]
    have := a ((tx t).length - ts.length + 1) []
    rw [List.append_nil, toks_end, List.nil_append, show (tx t).length - ts.length + 1 + ts.length = (tx t).length + 1 by omega] at this
    exact this
  unfold fparse
  rw [e]
  have f := b [] [] [] (s.size : Int) (by simpa using hn)
  rw [List.append_nil, frun_end] at f
  exact f
/-- Blanks and remarks. -/
def Sep (s : List UInt8) : Prop := (∀ w, blk false (s ++ w) = s.length + blk false w) ∧ ∀ w, Delim w → Delim (s ++ w)
theorem Sep.nil : Sep [] := ⟨fun w => by simp, fun w h => h⟩
end Go.Proofs.YtkkmgahgejjhgaaDoor.Pure
/- The document's tokens (the reference) are the model's: what is behind blanks; numbers. -/
namespace Go.Proofs.YtkkmgahgejjhgaaDoor.Lex
open Go.RowKit Go.Proofs.YtkkmgahgejjhgaaDoor.P Go.Proofs.YtkkmgahgejjhgaaDoorW.PrintWords Go.Proofs.YtkkmgahgejjhgaaDoorW.PrintLast
theorem digit_r (c : Int) : thyrsusref2_digit.f c = some (pDigit c) := digit_f c
theorem first_r (c : Int) : thyrsusref2_first.f c = some (pFront c) := front_f c
theorem inner_r (c : Int) : thyrsusref2_inner.f c = some (pInner c) := by
  unfold thyrsusref2_inner.f pInner
  rw [first_r, digit_r]
  cases pFront c <;> simp
/-! ### Blanks -/
/-! ### Numbers -/
theorem wrap_id (n : Int) (h0 : -9223372036854775808 ≤ n) (h1 : n ≤ 9223372036854775807) : wrap64 n = n := by
  unfold wrap64
  omega
end Go.Proofs.YtkkmgahgejjhgaaDoor.Lex
/- Chapter 3's checks, plainly: the program's and the document's come to the same; a made form may be. No conditions but those that each theorem tells. -/
namespace Go.Proofs.YtkkmgahgejjhgaaDoor.Pure
open Go.RowKit Go.Proofs.YtkkmgahgejjhgaaDoor.P Go.Proofs.YtkkmgahgejjhgaaDoor.Lex Go.Proofs.YtkkmgahgejjhgaaDoor.Nam Go.Proofs.YtkkmgahgejjhgaaDoorW.PrintWords Go.Proofs.YtkkmgahgejjhgaaDoorW.PrintLast Go.Proofs.YtkkmgahgejjhgaaDoorW.PrintMore
set_option linter.unusedVariables false
set_option linter.unusedSimpArgs false
/-- A name as chapter 2 has it: no arrow, no star. -/
def nm2 (s : ByteArray) : Bool := !(s.toList == [] || decide (s.size > 20) || pDigit (nb (lst s) 0)) && inn (lst s)
theorem isName_nm2 (s : ByteArray) : isName s = ((s.toList == [45, 62] || s.toList == [42]) || nm2 s) := rfl
theorem inn_cons (c : UInt8) (l : List UInt8) : inn (c :: l) = (pInner (c.toNat : Int) && inn l) := by
  unfold inn
  rw [spn]
  by_cases h : pInner (c.toNat : Int) = true
  · rw [if_pos h, h, Bool.true_and]
    simp
  · have h' : pInner (c.toNat : Int) = false := by simpa using h
    rw [if_neg h, h', Bool.false_and]
    simp
theorem front_digit (c : Int) : ¬ (pFront c = true ∧ pDigit c = true) := by
  unfold pFront pDigit
  simp
  omega
theorem rname_ev (s : ByteArray) : Ev (fun k => thyrsusref2_Name.f k s) (nm2 s) := by
  have no : Ev (fun k => thyrsusref2_Name.j0 k s true) false := Ev.step (f := fun _ => some false) (fun k => by simp only [thyrsusref2_Name.j0, if_true]) (Ev.now _)
  unfold thyrsusref2_Name.f nm2
  by_cases h1 : s.toList = []
  · rw [show (s.toList == []) = true by simpa using h1]
    simp only [if_pos h1, Bool.true_or, Bool.not_true, Bool.false_and]
    exact no
  rw [show (s.toList == []) = false by simpa using h1]
  by_cases h2 : s.size > 20
  · rw [show decide (s.size > 20) = true from decide_eq_true h2]
    simp only [if_neg h1, if_pos (show (s.size : Int) > 20 by omega), Bool.true_or, Bool.or_true, Bool.not_true, Bool.false_and]
    exact no
  rw [show decide (s.size > 20) = false from decide_eq_false h2]
  have hz : 0 < s.size := by
    rcases Nat.eq_zero_or_pos s.size with h | h
    · exfalso
      apply h1
      rw [lst_toList]
      exact List.eq_nil_of_length_eq_zero (by rw [lst_len]; exact h)
    · exact h
  simp only [if_neg h1, if_neg (show ¬ (s.size : Int) > 20 by omega), if_pos (show 0 < (s.size : Int) by omega), Bool.false_or]
  have hb : bt s 0 = nb (lst s) 0 := bt_nb s 0
  rw [hb, first_r]
  simp only [Option.bind_some]
  have loop : ∀ (d i : Nat), i + d = s.size → Ev (fun k => thyrsusref2_Name.l0 k s (i : Int)) (inn ((lst s).drop i)) := by
    intro d
    induction d with
    | zero =>
      intro i hi
      rw [List.drop_of_length_le (by rw [lst_len]; omega)]
      refine Ev.step (f := fun _ => some true) (fun k => ?_) (Ev.now _)
      simp only [thyrsusref2_Name.l0]
      rw [if_neg (by omega)]
    | succ d ihd =>
      intro i hi
      have hil : i < (lst s).length := by rw [lst_len]; omega
      have e : nb (lst s) i = (((lst s)[i]).toNat : Int) := by simp [nb, List.getD_eq_getElem?_getD, hil]
      rw [List.drop_eq_getElem_cons hil, inn_cons, ← e]
      refine Ev.step (f := fun k => if pInner (nb (lst s) i) = true then thyrsusref2_Name.l0 k s ((i + 1 : Nat) : Int) else some false) (fun k => ?_) ?_
      · simp only [thyrsusref2_Name.l0]
        rw [if_pos (by omega), if_pos (by omega), bt_nb, inner_r, Option.bind_some, wrap_id (n := (i : Int) + 1) (by omega)]
        rfl
      · cases hp : pInner (nb (lst s) i) with
        | true => simpa using ihd (i + 1) (by omega)
        | false => simpa using Ev.now false
  have hl := loop s.size 0 (by omega)
  rw [List.drop_zero] at hl
  have hne : 0 < (lst s).length := by rw [lst_len]; exact hz
  have key : inn (lst s) = true → pFront (nb (lst s) 0) = !pDigit (nb (lst s) 0) := by
    intro h
    cases hs : lst s with
    | nil => rw [hs] at hne; simp at hne
    | cons c l =>
      rw [hs, inn_cons, Bool.and_eq_true] at h
      have h3 := h.1
      have h4 := front_digit (c.toNat : Int)
      rw [nb_0]
      unfold pInner at h3
      cases h5 : pFront (c.toNat : Int) <;> cases h6 : pDigit (c.toNat : Int) <;> simp_all
  cases hf : pFront (nb (lst s) 0) with
  | true =>
    refine Ev.step (f := fun k => thyrsusref2_Name.l0 k s ((0 : Nat) : Int)) (fun k => by simp only [thyrsusref2_Name.j0]; rfl) ?_
    have e : (!pDigit (nb (lst s) 0) && inn (lst s)) = inn (lst s) := by
      cases hi : inn (lst s) with
      | false => simp
      | true => rw [← key hi, hf]; rfl
    rw [e]
    exact hl
  | false =>
    have e : (!pDigit (nb (lst s) 0) && inn (lst s)) = false := by
      cases hi : inn (lst s) with
      | false => simp
      | true => rw [← key hi, hf]; rfl
    rw [e]
    exact no
mutual
/-- What is wrong with a form, so deep. -/
def chk : S42 → Nat → Int
  | ⟨k, z, s, l⟩, d => if k = 1 ∧ isName s = true then 0 else if k = 2 ∧ (-4611686018427387904 ≤ z ∧ z ≤ 4611686018427387904) then 0 else if k = 3 then (if d > 30 then 5 else chks l d) else 7
def chks : List S42 → Nat → Int
  | [], _ => 0
  | x :: l, d => if chk x (d + 1) = 0 then chks l d else chk x (d + 1)
end
theorem check_ev : ∀ (n : Nat) (x : S42) (d : Nat), size42 x ≤ n → n ≤ 1000000 → d ≤ 31 → Ev (fun k => forms_check.f k x.f0 x.f1 x.f2 x.f3 (d : Int)) (chk x d) := by
  intro n
  induction n with
  | zero => intro x d h; cases x; simp [size42] at h
  | succ n ih =>
    rintro ⟨k, z, s, l⟩ d hs hn hd
    simp only [size42] at hs
    have hll : l.length ≤ 1000000 := Nat.le_trans (sizes42_len l) (by omega)
    have loop : d ≤ 30 → ∀ (e i : Nat), i + e = l.length → Ev (fun j => forms_check.l0 j (d : Int) l (l.length : Int) (i : Int)) (chks (l.drop i) d) := by
      intro hd2 e
      induction e with
      | zero =>
        intro i hi
        rw [List.drop_of_length_le (by omega)]
        refine Ev.step (f := fun _ => some 0) (fun j => ?_) (Ev.now _)
        simp only [forms_check.l0]
        rw [if_neg (by omega)]
      | succ e ihe =>
        intro i hi
        have hil : i < l.length := by omega
        have hm := sizes42_mem l l[i] (List.getElem_mem hil)
        rw [List.drop_eq_getElem_cons hil, chks]
        have h5 := ih l[i] (d + 1) (by omega) (by omega) (by omega)
        refine Ev.step (f := fun j => (forms_check.f j l[i].f0 l[i].f1 l[i].f2 l[i].f3 ((d + 1 : Nat) : Int)).bind fun t => if t = 0 then forms_check.l0 j (d : Int) l (l.length : Int) ((i + 1 : Nat) : Int) else some t) (fun j => ?_) (Ev.bind h5 ?_)
        · simp only [forms_check.l0]
          rw [if_pos (by omega), if_pos (by omega), if_pos (by omega), rd42 hil, wrap_id (n := (d : Int) + 1) (by omega), wrap_id (n := (i : Int) + 1) (by omega)]
          rfl
        · by_cases hb : chk l[i] (d + 1) = 0
          · simp only [if_pos hb]
            exact ihe (i + 1) (by omega)
          · simp only [if_neg hb]
            exact Ev.now _
    have stop : Ev (fun j => forms_check.j1 j (d : Int) false k z s l) (if k = 3 then (if d > 30 then 5 else chks l d) else 7) := by
      by_cases h3 : k = 3
      · by_cases hd3 : d > 30
        · rw [if_pos h3, if_pos hd3]
          refine Ev.step (f := fun _ => some 5) (fun j => ?_) (Ev.now _)
          simp only [forms_check.j1]
          rw [if_neg (by decide), if_pos h3, if_pos (by omega)]
        · rw [if_pos h3, if_neg hd3]
          refine Ev.step (f := fun j => forms_check.l0 j (d : Int) l (l.length : Int) ((0 : Nat) : Int)) (fun j => ?_) (loop (by omega) l.length 0 (by omega))
          simp only [forms_check.j1]
          rw [if_neg (by decide), if_pos h3, if_neg (by omega)]
          rfl
      · rw [if_neg h3]
        refine Ev.step (f := fun _ => some 7) (fun j => ?_) (Ev.now _)
        simp only [forms_check.j1]
        rw [if_neg (by decide), if_neg h3]
    have mid : k ≠ 1 ∨ isName s = false → Ev (fun j => forms_check.j0 j (d : Int) false k z s l) (chk ⟨k, z, s, l⟩ d) := by
      intro hk
      rw [chk, if_neg (by rintro ⟨h1, h2⟩; rcases hk with hk | hk; exact hk h1; rw [hk] at h2; cases h2)]
      by_cases h2 : k = 2
      · by_cases h3 : -4611686018427387904 ≤ z
        · by_cases h4 : z ≤ 4611686018427387904
          · rw [if_pos ⟨h2, h3, h4⟩]
            refine Ev.step (f := fun j => forms_check.j1 j (d : Int) true k z s l) (fun j => ?_) (Ev.step (f := fun _ => some 0) (fun j => by simp only [forms_check.j1, if_true]) (Ev.now _))
            simp only [forms_check.j0]
            rw [if_neg (by decide), if_pos h2, if_pos h3, show decide (z ≤ 4611686018427387904) = true from decide_eq_true h4]
          · rw [if_neg (fun h => h4 h.2.2)]
            refine Ev.step (f := fun j => forms_check.j1 j (d : Int) false k z s l) (fun j => ?_) stop
            simp only [forms_check.j0]
            rw [if_neg (by decide), if_pos h2, if_pos h3, show decide (z ≤ 4611686018427387904) = false from decide_eq_false h4]
        · rw [if_neg (fun h => h3 h.2.1)]
          refine Ev.step (f := fun j => forms_check.j1 j (d : Int) false k z s l) (fun j => ?_) stop
          simp only [forms_check.j0]
          rw [if_neg (by decide), if_pos h2, if_neg h3]
      · rw [if_neg (fun h => h2 h.1)]
        refine Ev.step (f := fun j => forms_check.j1 j (d : Int) false k z s l) (fun j => ?_) stop
        simp only [forms_check.j0]
        rw [if_neg (by decide), if_neg h2]
    by_cases h1 : k = 1
    · cases hnm : isName s with
      | true =>
        rw [chk, if_pos ⟨h1, hnm⟩]
        refine Ev.step (f := fun j => forms_check.j0 j (d : Int) true k z s l) (fun j => ?_) (Ev.step (f := fun _ => some 0) (fun j => by simp only [forms_check.j0, if_true]) (Ev.now _))
        simp only [forms_check.f]
        rw [if_pos h1, forms_name.f, Option.bind_some, hnm]
      | false =>
        refine Ev.step (f := fun j => forms_check.j0 j (d : Int) false k z s l) (fun j => ?_) (mid (.inr hnm))
        simp only [forms_check.f]
        rw [if_pos h1, forms_name.f, Option.bind_some, hnm]
    · refine Ev.step (f := fun j => forms_check.j0 j (d : Int) false k z s l) (fun j => ?_) (mid (.inl h1))
      simp only [forms_check.f]
      rw [if_neg h1]
theorem rcheck_ev : ∀ (n : Nat) (x : S42) (d : Nat), size42 x ≤ n → n ≤ 1000000 → d ≤ 31 → Ev (fun k => thyrsusref3_check.f k x.f0 x.f1 x.f2 x.f3 (d : Int)) (chk x d) := by
  intro n
  induction n with
  | zero => intro x d h; cases x; simp [size42] at h
  | succ n ih =>
    rintro ⟨k, z, s, l⟩ d hs hn hd
    simp only [size42] at hs
    have hll : l.length ≤ 1000000 := Nat.le_trans (sizes42_len l) (by omega)
    have loop : d ≤ 30 → ∀ (e i : Nat), i + e = l.length → Ev (fun j => thyrsusref3_check.l0 j (d : Int) (i : Int) k z s l) (chks (l.drop i) d) := by
      intro hd2 e
      induction e with
      | zero =>
        intro i hi
        rw [List.drop_of_length_le (by omega)]
        refine Ev.step (f := fun _ => some 0) (fun j => ?_) (Ev.now _)
        simp only [thyrsusref3_check.l0]
        rw [if_neg (by omega)]
      | succ e ihe =>
        intro i hi
        have hil : i < l.length := by omega
        have hm := sizes42_mem l l[i] (List.getElem_mem hil)
        rw [List.drop_eq_getElem_cons hil, chks]
        have h5 := ih l[i] (d + 1) (by omega) (by omega) (by omega)
        refine Ev.step (f := fun j => (thyrsusref3_check.f j l[i].f0 l[i].f1 l[i].f2 l[i].f3 ((d + 1 : Nat) : Int)).bind fun t => if t = 0 then thyrsusref3_check.l0 j (d : Int) ((i + 1 : Nat) : Int) k z s l else some t) (fun j => ?_) (Ev.bind h5 ?_)
        · simp only [thyrsusref3_check.l0]
          rw [if_pos (by omega), if_pos (by omega), rd42 hil, wrap_id (n := (d : Int) + 1) (by omega), wrap_id (n := (i : Int) + 1) (by omega)]
          rfl
        · by_cases hb : chk l[i] (d + 1) = 0
          · simp only [if_pos hb]
            exact ihe (i + 1) (by omega)
          · simp only [if_neg hb]
            exact Ev.now _
    rw [chk]
    by_cases h1 : k = 1
    · have hr := rname_ev s
      have fin : chk ⟨k, z, s, l⟩ d = if isName s = true then 0 else 7 := by
        rw [chk]
        subst h1
        by_cases hi : isName s = true
        · rw [if_pos ⟨rfl, hi⟩, if_pos hi]
        · rw [if_neg (fun h => hi h.2), if_neg (fun h => absurd h.1 (by decide)), if_neg (by decide), if_neg hi]
      rw [chk] at fin
      rw [fin]
      refine Ev.step (f := fun j => (thyrsusref2_Name.f j s).bind fun t266 => (if t266 = true then (some 0) else (if s.toList = ([45, 62] : List UInt8) then (some 0) else (if s.toList = ([42] : List UInt8) then (some 0) else (some 7))))) (fun j => ?_) (Ev.bind hr ?_)
      · simp only [thyrsusref3_check.f]
        rw [if_pos h1]
      · rw [isName_nm2]
        by_cases h2 : nm2 s = true
        · simp only [if_pos h2, h2, Bool.or_true, if_true]
          exact Ev.now _
        · have h2' : nm2 s = false := by simpa using h2
          simp only [if_neg h2, h2', Bool.or_false]
          by_cases h3 : s.toList = [45, 62]
          · simp only [if_pos h3, h3]
            exact Ev.now _
          · by_cases h4 : s.toList = [42]
            · simp only [if_neg h3, if_pos h4, h4]
              exact Ev.now _
            · have e3 : (s.toList == [45, 62]) = false := by simpa using h3
              have e4 : (s.toList == [42]) = false := by simpa using h4
              simp only [if_neg h3, if_neg h4, e3, e4]
              exact Ev.now _
    · rw [if_neg (fun h => h1 h.1)]
      by_cases h2 : k = 2
      · subst h2
        by_cases h3 : z < -4611686018427387904
        · rw [if_neg (fun h => by have := h.2.1; omega), if_neg (by decide)]
          refine Ev.step (f := fun _ => some 7) (fun j => ?_) (Ev.now _)
          simp only [thyrsusref3_check.f, if_true]
          rw [if_neg (by decide), if_pos h3]
        · by_cases h4 : z > 4611686018427387904
          · rw [if_neg (fun h => by have := h.2.2; omega), if_neg (by decide)]
            refine Ev.step (f := fun _ => some 7) (fun j => ?_) (Ev.now _)
            simp only [thyrsusref3_check.f, if_true]
            rw [if_neg (by decide), if_neg h3, if_pos h4]
          · rw [if_pos ⟨rfl, by omega, by omega⟩]
            refine Ev.step (f := fun _ => some 0) (fun j => ?_) (Ev.now _)
            simp only [thyrsusref3_check.f, if_true]
            rw [if_neg (by decide), if_neg h3, if_neg h4]
      · rw [if_neg (fun h => h2 h.1)]
        by_cases h3 : k = 3
        · by_cases hd3 : d > 30
          · rw [if_pos h3, if_pos hd3]
            refine Ev.step (f := fun _ => some 5) (fun j => ?_) (Ev.now _)
            simp only [thyrsusref3_check.f]
            rw [if_neg h1, if_neg h2, if_pos h3, if_pos (by omega)]
          · rw [if_pos h3, if_neg hd3]
            refine Ev.step (f := fun j => thyrsusref3_check.l0 j (d : Int) ((0 : Nat) : Int) k z s l) (fun j => ?_) (loop (by omega) l.length 0 (by omega))
            simp only [thyrsusref3_check.f]
            rw [if_neg h1, if_neg h2, if_pos h3, if_neg (by omega)]
            rfl
        · rw [if_neg h3]
          refine Ev.step (f := fun _ => some 7) (fun j => ?_) (Ev.now _)
          simp only [thyrsusref3_check.f]
          rw [if_neg h1, if_neg h2, if_neg h3]
theorem names_name : ∀ s ∈ names, isName s = true := by decide +kernel
theorem chks_zero : ∀ (l : List S42) (d : Nat), (∀ x ∈ l, chk x (d + 1) = 0) → chks l d = 0
  | [], _, _ => rfl
  | x :: l, d, h => by
    rw [chks, if_pos (h x (by simp)), chks_zero l d (fun y hy => h y (by simp [hy]))]
theorem fine_chk {n : Nat} {t : S42} (h : Fine n t) : ∀ d : Nat, d + n ≤ 31 → chk t d = 0 := by
  induction h with
  | name n s hs =>
    intro d hd
    rw [chk, if_pos ⟨rfl, names_name s hs⟩]
  | num n z hz =>
    intro d hd
    rw [chk, if_neg (fun h => absurd h.1 (by decide)), if_pos ⟨rfl, by omega, by omega⟩]
  | list n l hl ih =>
    intro d hd
    rw [chk, if_neg (fun h => absurd h.1 (by decide)), if_neg (fun h => absurd h.1 (by decide)), if_pos rfl, if_neg (by omega)]
    exact chks_zero l d (fun x hx => ih x hx (d + 1) (by omega))
theorem plain_ev {x : S38} (h : WF38 x) : size38 x ≤ 1000 → ∃ t : S42, Ev (fun k => thyrsuslaw3_Plain.f k x.f0 x.f1 x.f2 x.f3) (t.f0, t.f1, t.f2, t.f3) ∧ size42 t ≤ size38 x := by
  induction h with
  | mk a b s l ha hb hn hl ih =>
    intro hs
    simp only [size38] at hs
    have hll : l.length ≤ 1000 := Nat.le_trans (sizes38_len l) (by omega)
    have loop : ∀ (d i : Nat) (acc : List S42), i + d = l.length → sizes42 acc + sizes38 (l.drop i) ≤ 1000 → ∃ ks, Ev (fun k => thyrsuslaw3_Plain.l0 k (i : Int) a b s l a b s acc) (a, b, s, ks) ∧ sizes42 ks ≤ sizes42 acc + sizes38 (l.drop i) := by
      intro d
      induction d with
      | zero =>
        intro i acc hi hinv
        refine ⟨acc, Ev.step (f := fun _ => some (a, b, s, acc)) (fun k => ?_) (Ev.now _), by omega⟩
        simp only [thyrsuslaw3_Plain.l0]
        rw [if_neg (by omega)]
      | succ d ihd =>
        intro i acc hi hinv
        have hil : i < l.length := by omega
        have hlen := sizes42_len acc
        rw [sizes38_drop hil] at hinv ⊢
        obtain ⟨t, et, f2⟩ := ih l[i] (List.getElem_mem hil) (by omega)
        obtain ⟨ks, e2, g2⟩ := ihd (i + 1) (acc ++ [t]) (by omega) (by rw [sizes42_snoc]; omega)
        rw [sizes42_snoc] at g2
        refine ⟨ks, Ev.step (f := fun k => (thyrsuslaw3_Plain.f k l[i].f0 l[i].f1 l[i].f2 l[i].f3).bind fun bt => thyrsuslaw3_Plain.l0 k ((i + 1 : Nat) : Int) a b s l a b s (acc ++ [(⟨bt.1, bt.2.1, bt.2.2.1, bt.2.2.2⟩ : S42)])) (fun k => ?_) (Ev.bind et ?_), by omega⟩
        · simp only [thyrsuslaw3_Plain.l0]
          rw [if_pos (by omega), if_pos (by omega), rd38 hil, wrap_id (n := (i : Int) + 1) (by omega)]
          simp only [if_pos (show acc.length < 2513169434916 by omega)]
          rfl
        · simp only [eta42]
          exact e2
    obtain ⟨ks, e1, g2⟩ := loop l.length 0 [] (by omega) (by simp only [sizes42, List.drop_zero]; omega)
    refine ⟨⟨a, b, s, ks⟩, Ev.step (f := fun k => thyrsuslaw3_Plain.l0 k ((0 : Nat) : Int) a b s l a b s []) (fun k => by simp only [thyrsuslaw3_Plain.f]; rfl) e1, ?_⟩
    simp only [size42, size38]
    simp only [sizes42, List.drop_zero] at g2
    omega
end Go.Proofs.YtkkmgahgejjhgaaDoor.Pure
