/- Several texts in one. -/
import Derived.Test.YtcchfblekaaalaaDoorCPx0
import Derived.Test.YtcchfblekaaalaaDoorCPx1
import Derived.Test.YtcchfblekaaalaaDoorCQx3
import Derived.Test.YtcchfblekaaalaaDoorCHandBind
import Derived.Test.YtcchfblekaaalaaDoorCHandX
import Derived.Lib.SmallJoins
import Derived.ProofKit
import Derived.Test.YtcchfblekaaalaaDoorCQx1
import Derived.Test.YtcchfblekaaalaaDoorCBase
import Derived.Test.YtcchfblekaaalaaDoorCChkR
import Derived.Test.YtcchfblekaaalaaDoorCHandCheck
import Derived.Test.YtcchfblekaaalaaDoorCQx14
import Derived.Test.YtcchfblekaaalaaDoorCChkA
import Derived.Test.YtcchfblekaaalaaDoorCChkB
import Derived.Test.YtcchfblekaaalaaDoorCWant
import Derived.Test.YtcchfblekaaalaaDoorCWant3
-- Printed by mkprint.py (a program of this session, over the kit's print). Lean checks it.
namespace Go.Proofs.YtcchfblekaaalaaDoor.P
open Go.RowKit Go.Proofs.YtcchfblekaaalaaDoorW.PrintWords Go.Proofs.YtcchfblekaaalaaDoorW.PrintLast Go.Proofs.YtcchfblekaaalaaDoorW.PrintMore
attribute [local go_sem] max2_int min2_int max_two min_two max_three min_three max_four min_four   -- for this text's walks alone
set_option linter.unusedVariables false
set_option linter.unusedSimpArgs false

/-! ### thyrsusref4_Same: function 18 -/
end Go.Proofs.YtcchfblekaaalaaDoor.P
/- Rows of terms that are read (TV); Make, ref.Same over them. As HandGo, without Shift and Subst. -/
namespace Go.Proofs.YtcchfblekaaalaaDoor.P
open Go.RowKit Go.Proofs.YtcchfblekaaalaaDoorW.PrintWords Go.Proofs.YtcchfblekaaalaaDoorW.PrintLast Go.Proofs.YtcchfblekaaalaaDoorW.PrintMore
set_option linter.unusedVariables false
def TV (w : World) (G : Nat → Prop) (v : Value) (ks : List S29) : Prop := Kd.V k29 29 w 0 (fun k_ => ¬ G k_) v ks
section
variable {w w' W : World} {G G' ok : Nat → Prop} {v : Value} {ks : List S29} {g j n : Nat}
theorem TV.below (h : TV w G v ks) (hb : Below w.heap.size w w') (hG : ∀ k, G' k → G k ∨ w.heap.size ≤ k) : TV w' G' v ks :=
  Kd.V_mono (Kd.V_below (Kd.V_bound h) hb) (fun k hk h' => (hG k h').elim hk.1 (fun hle => by have := hk.2; omega))
theorem TV.old (h : TV W (fun _ => False) v ks) (hb : Below W.heap.size W w') (hG : ∀ k, G k → W.heap.size ≤ k) : TV w' G v ks := h.below hb (fun k hk => .inr (hG k hk))
theorem TV.step (h : TV w G v ks) (hb : Below w.heap.size w w') : TV w' G v ks := h.below hb (fun _ hk => .inl hk)
theorem TV.set (h : TV w G v ks) (hg : G g) (u : Value) : TV (w.setCell ⟨g, j, none⟩ u) G v ks := Kd.V_far h (fun k hk e => hk (by rw [e]; exact hg)) u
theorem TV.set3 (h : TV w G v ks) (hg : G g) (x y z : Value) : TV (((w.setCell ⟨g, 0, none⟩ x).setCell ⟨g, 1, none⟩ y).setCell ⟨g, 2, none⟩ z) G v ks := ((h.set hg x).set hg y).set hg z
theorem TV.free (h : TV w G v ks) : TV w (fun _ => False) v ks := Kd.V_mono h (fun _ _ h => h)
theorem TV.ofN (h : Kd.N k29 29 w' n ok v ks) (hok : ∀ k, ok k → ¬ G k) : TV w' G v ks := Kd.V_mono (Kd.N_V h) hok
theorem TV.ofR (h : Kd.R k29 29 w' n ok v ks) (hG : ∀ k, G k → k < n) : TV w' G v ks := Kd.V_mono (Kd.R_V (Kd.R_bound h)) (fun k hk hg => by have := hG k hg; have := hk.2.1; omega)
theorem TV.ofV (h : Kd.V k29 29 w' n ok v ks) (hok : ∀ k, ok k → ¬ G k) : TV w' G v ks := Kd.V_mono (Kd.V_map h (fun _ h => h)) hok
theorem TV.reads (h : TV w G v ks) : ∃ A c, v = .slice A ks.length c ∧ ks.length ≤ c ∧ Kd.C k29 w A ks.length ks := by
  obtain ⟨A, c, rfl⟩ := Kd.V_slice h
  exact ⟨A, c, rfl, (Kd.V_reads' h).2⟩
theorem blk_set3 {cs : Array Value} {t : TypeId} (h : w.heap[g]? = some (.cells cs t (0, 0))) (hs : cs.size = 3) (x y z : Value) : (((w.setCell ⟨g, 0, none⟩ x).setCell ⟨g, 1, none⟩ y).setCell ⟨g, 2, none⟩ z).heap[g]? = some (.cells #[x, y, z] t (0, 0)) := by
  refine blk_put (blk_put (blk_put h 0 x rfl) 1 y rfl) 2 z ?_
  obtain ⟨l⟩ := cs
  match l, hs with
  | [_, _, _], _ => rfl
theorem below_set3 (h : Below W.heap.size W w) (hg : W.heap.size ≤ g) (x y z : Value) : Below W.heap.size W (((w.setCell ⟨g, 0, none⟩ x).setCell ⟨g, 1, none⟩ y).setCell ⟨g, 2, none⟩ z) := below_set (below_set (below_set h hg) hg) hg
theorem size_set3 (x y z : Value) : (((w.setCell ⟨g, 0, none⟩ x).setCell ⟨g, 1, none⟩ y).setCell ⟨g, 2, none⟩ z).heap.size = w.heap.size := by simp [World.setCell]
end
theorem make_go (k : Nat) (a0 a1 : Int) (A : Option Addr) (c : Nat) (l : List S24) (d n r1 r2 : Int) (r3 : List S29) (w : World) (G : Nat → Prop) (hG : ∀ k, G k → k < w.heap.size) (hr : Kd.C k24 w A l.length l) (hc : l.length ≤ c) (h : thyrsuslaw1_Make.f k a0 a1 l d n = some (r1, r2, r3)) :
    Calls Tryd.prog 16 #[.agg #[.int .i64 a0, .int .i64 a1, .slice A l.length c], .int .i64 d, .int .i64 n] w fun e w' => ∃ v : Value, e = .returned (.agg #[.int .i64 r1, .int .i64 r2, v]) ∧ TV w' G v r3 ∧ Below w.heap.size w w' :=
  (thyrsuslaw1_Make.calls k a0 a1 A c l d n r1 r2 r3 w hr hc h).mono fun e w' ⟨v, he, hR, hb⟩ => ⟨v, he, TV.ofR hR hG, hb⟩
end Go.Proofs.YtcchfblekaaalaaDoor.P
/- What the laws of chapter 4 share: the chapter's example, a number from 0 to n - 1. -/
namespace Go.Proofs.YtcchfblekaaalaaDoor.Pure
open Go.RowKit Go.Proofs.YtcchfblekaaalaaDoor.P Go.Proofs.YtcchfblekaaalaaDoorW.PrintWords Go.Proofs.YtcchfblekaaalaaDoorW.PrintLast
theorem wrap_ok (n : Int) (h0 : -9223372036854775808 ≤ n) (h1 : n ≤ 9223372036854775807) : wrap64 n = n := by
  unfold wrap64
  omega
theorem i64_of {n : Int} (h : (Lit.int .i64 n).wf = true) : -9223372036854775808 ≤ n ∧ n ≤ 9223372036854775807 := by
  have h1 : IntKind.i64.min ≤ n ∧ n ≤ 9223372036854775807 := by simpa [Lit.wf] using h
  exact h1
theorem within_val {a n : Int} (ha : -9223372036854775808 ≤ a ∧ a ≤ 9223372036854775807) (h0 : 0 < n) (hn : n ≤ 4611686018427387904) : thyrsuslaw4_within.f a n = some (a % n) := by
  unfold thyrsuslaw4_within.f
  rw [if_neg (by omega)]
  have h1 := Int.emod_nonneg a (show n ≠ 0 by omega)
  have h2 := Int.emod_lt_of_pos a h0
  by_cases h : 0 ≤ a
  · rw [Int.tmod_eq_emod_of_nonneg h, if_neg (by omega)]
  · have e := Int.tmod_eq_emod (a := a) (b := n)
    by_cases hd : n ∣ a
    · rw [if_pos (.inr hd)] at e
      have h3 := Int.emod_eq_zero_of_dvd hd
      rw [if_neg (by omega)]
      simp only [Option.some.injEq]
      omega
    · rw [if_neg (by omega)] at e
      rw [if_pos (by omega)]
      simp only [Option.some.injEq]
      unfold wrap64
      omega
theorem within_ex {a n : Int} (ha : -9223372036854775808 ≤ a ∧ a ≤ 9223372036854775807) (h0 : 0 < n) (hn : n ≤ 4611686018427387904) : ∃ t : Nat, (t : Int) < n ∧ thyrsuslaw4_within.f a n = some (t : Int) := by
  have h1 := Int.emod_nonneg a (show n ≠ 0 by omega)
  have h2 := Int.emod_lt_of_pos a h0
  refine ⟨(a % n).toNat, by omega, ?_⟩
  rw [within_val ha h0 hn]
  congr 1
  omega
theorem le_rounds {α : Type} {f : Nat → Option α} (hm : ∀ k, LeO (f k) (f (k + 1))) {k : Nat} {r : α} (h : f k = some r) : ∀ d, f (k + d) = some r
  | 0 => h
  | d + 1 => hm (k + d) r (le_rounds hm h d)
theorem known_f (d : Nat) : thyrsuslaw4_known.f (10 + d) = some true :=
  le_rounds (f := fun k => thyrsuslaw4_known.f k) thyrsuslaw4_known.mono (by decide +kernel) d
theorem known_k {k : Nat} (h : 10 ≤ k) : thyrsuslaw4_known.f k = some true := by
  obtain ⟨d, rfl⟩ : ∃ d, k = 10 + d := ⟨k - 10, by omega⟩
  exact known_f d
end Go.Proofs.YtcchfblekaaalaaDoor.Pure
/- Package term: some, over the closure of Free, and over that of Below. -/
namespace Go.Proofs.YtcchfblekaaalaaDoor.P
open Go.RowKit Go.Proofs.YtcchfblekaaalaaDoorW.PrintWords Go.Proofs.YtcchfblekaaalaaDoorW.PrintLast Go.Proofs.YtcchfblekaaalaaDoorW.PrintMore
attribute [local go_sem] max2_int min2_int max_two min_two max_three min_three max_four min_four   -- for this text's walks alone
set_option linter.unusedVariables false
set_option linter.unusedSimpArgs false
/-- A closure of one captured number's block: what it answers, in every later world. -/
def CloB (N : Nat) (do_ : Int → Int → Option Bool) (gq : Nat) (w : World) : Prop := ∀ w1, Below w.heap.size w w1 → ∀ (x y : Int) (b : Bool), do_ x y = some b → Calls Tryd.prog N #[.int .i64 x, .int .i64 y, .pointer (some ⟨gq, 0, none⟩)] w1 fun e w' => e = .returned (.bool b) ∧ Drawn0 w1 w'
theorem CloB.below {N : Nat} {do_ : Int → Int → Option Bool} {gq : Nat} {w w1 : World} (h : CloB N do_ gq w) (hb : Below w.heap.size w w1) : CloB N do_ gq w1 := fun w2 hb2 => h w2 (hb.trans (hb2.mono hb.size))
section
variable (do_ : Int → Int → Option Bool)
/-! ### someF: function 55 -/
end
section
variable (do_ : Int → Int → Option Bool)
/-! ### someB: function 55 -/
end
end Go.Proofs.YtcchfblekaaalaaDoor.P
/- Package term: Free, Below, in the print's form. -/
namespace Go.Proofs.YtcchfblekaaalaaDoor.P
open Go.RowKit Go.Proofs.YtcchfblekaaalaaDoorW.PrintWords Go.Proofs.YtcchfblekaaalaaDoorW.PrintLast Go.Proofs.YtcchfblekaaalaaDoorW.PrintMore
set_option linter.unusedVariables false
set_option linter.unusedSimpArgs false
end Go.Proofs.YtcchfblekaaalaaDoor.P
/- Package term: each, over the closure of Shift. -/
namespace Go.Proofs.YtcchfblekaaalaaDoor.P
open Go.RowKit Go.Proofs.YtcchfblekaaalaaDoorW.PrintWords Go.Proofs.YtcchfblekaaalaaDoorW.PrintLast Go.Proofs.YtcchfblekaaalaaDoorW.PrintMore
attribute [local go_sem] max2_int min2_int max_two min_two max_three min_three max_four min_four   -- for this text's walks alone
set_option linter.unusedVariables false
set_option linter.unusedSimpArgs false
/-- A closure of two captured blocks: what it answers, in every later world. -/
def CloT (N : Nat) (do_ : Int → Int → List S29 → Int → Option (Int × Int × List S29)) (g1 g2 : Nat) (w : World) : Prop := ∀ w1, Below w.heap.size w w1 → ∀ (op n : Int) (A : Option Addr) (c : Nat) (kids : List S29) (y : Int) (r1 r2 : Int) (r3 : List S29), Kd.C k29 w1 A kids.length kids → kids.length ≤ c → do_ op n kids y = some (r1, r2, r3) → Calls Tryd.prog N #[.agg #[.int .i64 op, .int .i64 n, .slice A kids.length c], .int .i64 y, .pointer (some ⟨g1, 0, none⟩), .pointer (some ⟨g2, 0, none⟩)] w1 fun e w' => ∃ v : Value, e = .returned (.agg #[.int .i64 r1, .int .i64 r2, v]) ∧ Kd.R k29 29 w' w1.heap.size (fun _ => True) v r3 ∧ Below w1.heap.size w1 w'
theorem CloT.below {N : Nat} {do_ : Int → Int → List S29 → Int → Option (Int × Int × List S29)} {g1 g2 : Nat} {w w1 : World} (h : CloT N do_ g1 g2 w) (hb : Below w.heap.size w w1) : CloT N do_ g1 g2 w1 := fun w2 hb2 => h w2 (hb.trans (hb2.mono hb.size))
/-- The same, where what it answers leads to what is told by PU. -/
def CloU (N : Nat) (do_ : Int → Int → List S29 → Int → Option (Int × Int × List S29)) (g1 g2 : Nat) (PU : Nat → Prop) (w : World) : Prop := ∀ w1, Below w.heap.size w w1 → ∀ (op n : Int) (A : Option Addr) (c : Nat) (kids : List S29) (y : Int) (r1 r2 : Int) (r3 : List S29), Kd.C k29 w1 A kids.length kids → kids.length ≤ c → do_ op n kids y = some (r1, r2, r3) → Calls Tryd.prog N #[.agg #[.int .i64 op, .int .i64 n, .slice A kids.length c], .int .i64 y, .pointer (some ⟨g1, 0, none⟩), .pointer (some ⟨g2, 0, none⟩)] w1 fun e w' => ∃ v : Value, e = .returned (.agg #[.int .i64 r1, .int .i64 r2, v]) ∧ Kd.N k29 29 w' w1.heap.size (fun k_ => PU k_ ∨ w1.heap.size ≤ k_) v r3 ∧ Below w1.heap.size w1 w'
theorem CloU.below {N : Nat} {do_ : Int → Int → List S29 → Int → Option (Int × Int × List S29)} {g1 g2 : Nat} {PU : Nat → Prop} {w w1 : World} (h : CloU N do_ g1 g2 PU w) (hb : Below w.heap.size w w1) : CloU N do_ g1 g2 PU w1 := fun w2 hb2 => h w2 (hb.trans (hb2.mono hb.size))
section
variable (do_ : Int → Int → List S29 → Int → Option (Int × Int × List S29))
/-! ### eachS: function 49 -/
end
end Go.Proofs.YtcchfblekaaalaaDoor.P
/- Package term: Shift, in the print's form. -/
namespace Go.Proofs.YtcchfblekaaalaaDoor.P
open Go.RowKit Go.Proofs.YtcchfblekaaalaaDoorW.PrintWords Go.Proofs.YtcchfblekaaalaaDoorW.PrintLast Go.Proofs.YtcchfblekaaalaaDoorW.PrintMore
set_option linter.unusedVariables false
set_option linter.unusedSimpArgs false
end Go.Proofs.YtcchfblekaaalaaDoor.P
/- Package term: each, over the closure of Subst. -/
namespace Go.Proofs.YtcchfblekaaalaaDoor.P
open Go.RowKit Go.Proofs.YtcchfblekaaalaaDoorW.PrintWords Go.Proofs.YtcchfblekaaalaaDoorW.PrintLast Go.Proofs.YtcchfblekaaalaaDoorW.PrintMore
attribute [local go_sem] max2_int min2_int max_two min_two max_three min_three max_four min_four   -- for this text's walks alone
set_option linter.unusedVariables false
set_option linter.unusedSimpArgs false
section
variable (do_ : Int → Int → List S29 → Int → Option (Int × Int × List S29))
/-! ### eachU: function 49 -/
end
end Go.Proofs.YtcchfblekaaalaaDoor.P
/- Package term: Subst, in the print's form. -/
namespace Go.Proofs.YtcchfblekaaalaaDoor.P
open Go.RowKit Go.Proofs.YtcchfblekaaalaaDoorW.PrintWords Go.Proofs.YtcchfblekaaalaaDoorW.PrintLast Go.Proofs.YtcchfblekaaalaaDoorW.PrintMore
set_option linter.unusedVariables false
set_option linter.unusedSimpArgs false
end Go.Proofs.YtcchfblekaaalaaDoor.P
/- Chapter 4, plainly: terms of sound shape; each: what is done to each variable, told how many binders stand ahead; that the code's each comes to it. -/
namespace Go.Proofs.YtcchfblekaaalaaDoor.Pure
open Go.RowKit Go.Proofs.YtcchfblekaaalaaDoor.P Go.Proofs.YtcchfblekaaalaaDoorW.PrintWords Go.Proofs.YtcchfblekaaalaaDoorW.PrintLast
set_option linter.unusedVariables false
mutual
def size29 : S29 → Nat
  | ⟨_, _, l⟩ => 1 + sizes29 l
def sizes29 : List S29 → Nat
  | [] => 0
  | x :: l => size29 x + sizes29 l
end
mutual
def deep29 : S29 → Nat
  | ⟨_, _, l⟩ => 1 + deeps29 l
def deeps29 : List S29 → Nat
  | [] => 0
  | x :: l => max (deep29 x) (deeps29 l)
end
mutual
/-- Sound shape, as far as the laws need it: variables have no kids, and are below a bound. -/
def good (B : Int) : S29 → Prop
  | ⟨a, b, l⟩ => (-9223372036854775808 ≤ b ∧ b ≤ 9223372036854775807) ∧ (a = 1 → l = [] ∧ 0 ≤ b ∧ b ≤ B) ∧ l.length ≤ 1000000 ∧ goods B l
def goods (B : Int) : List S29 → Prop
  | [] => True
  | x :: l => good B x ∧ goods B l
end
theorem eta29 (x : S29) : (⟨x.f0, x.f1, x.f2⟩ : S29) = x := by cases x; rfl
theorem rd29 {l : List S29} {i : Nat} (h : i < l.length) : rd_T29 l (i : Int) = l[i] := by simp [rd_T29, h]
mutual
/-- What is done to each variable. -/
def ea (q : Int → Int → S29) : Int → S29 → S29
  | ah, ⟨a, b, l⟩ => if a = 1 then q b ah else ⟨a, b, eas q ah a 0 l⟩
def eas (q : Int → Int → S29) : Int → Int → Nat → List S29 → List S29
  | _, _, _, [] => []
  | ah, a, i, x :: l => ea q (ah + bnd a i) x :: eas q ah a (i + 1) l
end
theorem size_pos : ∀ t : S29, 1 ≤ size29 t
  | ⟨_, _, l⟩ => by rw [size29]; omega
/-- The code's each, over whatever is done to a variable. -/
theorem set_mid {α : Type} (done : List α) (z x : α) (r : List α) : (done ++ z :: r).set done.length x = (done ++ [x]) ++ r := by
  rw [List.set_append_right _ _ (Nat.le_refl _), Nat.sub_self, List.set_cons_zero, List.append_assoc]
  rfl
end Go.Proofs.YtcchfblekaaalaaDoor.Pure
/- Chapter 4, plainly: what Shift, Subst, Free, Below, Same come to; laws of shifting. -/
namespace Go.Proofs.YtcchfblekaaalaaDoor.Pure
open Go.RowKit Go.Proofs.YtcchfblekaaalaaDoor.P Go.Proofs.YtcchfblekaaalaaDoorW.PrintWords Go.Proofs.YtcchfblekaaalaaDoorW.PrintLast
set_option linter.unusedVariables false
mutual
/-- Is a variable so? -/
def sa (p : Int → Int → Bool) : Int → S29 → Bool
  | ah, ⟨a, b, l⟩ => if a = 1 then p b ah else sas p ah a 0 l
def sas (p : Int → Int → Bool) : Int → Int → Nat → List S29 → Bool
  | _, _, _, [] => false
  | ah, a, i, x :: l => sa p (ah + bnd a i) x || sas p ah a (i + 1) l
end
theorem wrap_in {n : Int} (h0 : -1000000000000 ≤ n) (h1 : n ≤ 1000000000000) : wrap64 n = n := wrap_ok n (by omega) (by omega)
/-- A variable that is the one asked for. -/
def frP (n : Int) (b ah : Int) : Bool := decide (b - ah = n) && decide (ah ≤ b)
abbrev free (n : Int) (ah : Int) (t : S29) : Bool := sa (frP n) ah t
/- ref.Same of a term with itself -/
end Go.Proofs.YtcchfblekaaalaaDoor.Pure
/- Chapter 4, plainly: laws of shifting and of putting in. -/
namespace Go.Proofs.YtcchfblekaaalaaDoor.Pure
open Go.RowKit Go.Proofs.YtcchfblekaaalaaDoor.P Go.Proofs.YtcchfblekaaalaaDoorW.PrintWords Go.Proofs.YtcchfblekaaalaaDoorW.PrintLast
set_option linter.unusedVariables false
/- size, depth, sound shape -/
/- shifted by none -/
/- shifted twice -/
/- what is put for a variable that a shift left out is not there -/
end Go.Proofs.YtcchfblekaaalaaDoor.Pure
/- A tree that came in (struct type 24: two numbers, a slice of itself), opened: it reads as a Lean tree. -/
namespace Go.Proofs.YtcchfblekaaalaaDoor.P
open Go.RowKit Go.ChangeShapes Go.WideShapes Go.ChangeAt Go.Proofs.YtcchfblekaaalaaDoorW.PrintWords Go.Proofs.YtcchfblekaaalaaDoorW.PrintLast Go.Proofs.YtcchfblekaaalaaDoorW.PrintMore
set_option linter.unusedVariables false
set_option linter.unusedSimpArgs false

/-- Numbers of their kind, lists that memory can hold. -/
inductive WF24 : S24 → Prop
  | mk (a b : Int) (l : List S24) (ha : (Lit.int .i64 a).wf = true) (hb : (Lit.int .i64 b).wf = true) (hn : l.length ≤ 9223372036854775807) (hl : ∀ x ∈ l, WF24 x) : WF24 ⟨a, b, l⟩

theorem cells24 : Tryd.prog.cellsOf 24 = 3 := by kernel_rfl
theorem cells3 : Tryd.prog.cellsOf 3 = 1 := by kernel_rfl
theorem cells22 : Tryd.prog.cellsOf 22 = 1 := by kernel_rfl

theorem list_of {α : Type} (P : Nat → α → Prop) (n : Nat) (h : ∀ i, i < n → ∃ y, P i y) : ∃ l : List α, l.length = n ∧ ∀ i y, l[i]? = some y → P i y := by
  induction n with
  | zero => exact ⟨[], rfl, fun i y h => by simp at h⟩
  | succ n ih =>
    obtain ⟨l, h1, h2⟩ := ih (fun i hi => h i (by omega))
    obtain ⟨y, hy⟩ := h n (by omega)
    refine ⟨l ++ [y], by simp [h1], fun i z hz => ?_⟩
    rcases Nat.lt_or_ge i n with hi | hi
    · rw [List.getElem?_append_left (by omega)] at hz
      exact h2 i z hz
    · rw [List.getElem?_append_right (by omega)] at hz
      have : i = n := by
        have := (List.getElem?_eq_some_iff.1 hz).1
        simp at this
        omega
      subst this
      simp [h1] at hz
      rw [← hz]
      exact hy

set_option maxRecDepth 100000 in
theorem tree24 {H : Type} {enc : TypeId × Value → H} {W : World} {base : Nat} {spare : Nat → Bool} {held : Bool} : ∀ (fuel : Nat) (cs : List Value) (x : DataW H × List MemPlace), DataW.trod enc Tryd.prog W base spare held fuel 24 cs = some x → ∃ y : S24, k24.K W y cs ∧ WF24 y := by
  intro fuel
  induction fuel using Nat.strongRecOn with
  | _ fuel ih =>
  intro cs x h
  obtain ⟨xs, n, hn, _, hlen, hxs, hf⟩ := DataW.trod_struct Tryd.underlying24 h
  rw [cells24] at hlen
  obtain ⟨c0, c1, c2, rfl⟩ : ∃ a b c, cs = [a, b, c] := by
    match cs, hlen with
    | [a, b, c], _ => exact ⟨a, b, c, rfl⟩
  have f0 := hf 0 _ rfl
  have f1 := hf 1 _ rfl
  have f2 := hf 2 _ rfl
  change DataW.trod _ _ _ _ _ _ _ 3 (([c0, c1, c2].drop 0).take (Tryd.prog.cellsOf 3)) = _ at f0
  change DataW.trod _ _ _ _ _ _ _ 3 (([c0, c1, c2].drop 1).take (Tryd.prog.cellsOf 3)) = _ at f1
  change DataW.trod _ _ _ _ _ _ _ 22 (([c0, c1, c2].drop 2).take (Tryd.prog.cellsOf 22)) = _ at f2
  rw [cells3] at f0 f1
  rw [cells22] at f2
  simp only [List.drop_zero, List.drop_succ_cons, List.take_succ_cons, List.take_zero] at f0 f1 f2
  have hx : ∀ i, i < xs.length → ∃ y, xs[i]? = some y := fun i hi => ⟨xs[i], List.getElem?_eq_getElem hi⟩
  obtain ⟨y0, e0⟩ := hx 0 (by rw [hxs]; decide)
  obtain ⟨y1, e1⟩ := hx 1 (by rw [hxs]; decide)
  obtain ⟨y2, e2⟩ := hx 2 (by rw [hxs]; decide)
  rw [e0] at f0
  rw [e1] at f1
  rw [e2] at f2
  obtain ⟨a, ha, _, wa⟩ := DataW.trod_int Tryd.underlying3 f0
  obtain ⟨b, hb, _, wb⟩ := DataW.trod_int Tryd.underlying3 f1
  obtain rfl : c0 = .int .i64 a := by simpa using ha
  obtain rfl : c1 = .int .i64 b := by simpa using hb
  rcases DataW.trod_slice Tryd.underlying22 f2 with ⟨h2, _⟩ | ⟨ad, len, cap, elems, rest, m, hm, h2, _, _, hlc, hcm, hel, hcell, _, _⟩
  · obtain rfl : c2 = .slice none 0 0 := by simpa using h2
    exact ⟨⟨a, b, []⟩, k24_mk W ⟨a, b, []⟩ (by simp) ⟨rfl, by simp, fun h => by simp at h⟩, WF24.mk a b [] wa wb (by simp) (by simp)⟩
  · obtain rfl : c2 = .slice (some ad) len cap := by simpa using h2
    rw [cells24] at hcell
    have hall : ∀ i, i < len → ∃ y : S24, (∃ c : List Value, c.length = 3 ∧ k24.K W y c ∧ ∀ j u, c[j]? = some u → W.cell? (ad.add (i * 3 + j)) = some u) ∧ WF24 y := by
      intro i hi
      have h1 := hcell i hi
      have h3 : ∃ z, elems[i]? = some z := ⟨elems[i], List.getElem?_eq_getElem (by omega)⟩
      obtain ⟨z, hz⟩ := h3
      rw [hz, Option.bind_eq_some_iff] at h1
      obtain ⟨ci, hci, htr⟩ := h1
      obtain ⟨y, hy, wy⟩ := ih m (by omega) ci z htr
      obtain ⟨_, hl3, hcc⟩ := World.cells?_some hci
      refine ⟨y, ⟨ci, hl3, hy, fun j u hu => ?_⟩, wy⟩
      have hj : j < 3 := by
        have := (List.getElem?_eq_some_iff.1 hu).1
        omega
      have h4 := hcc j hj
      rw [← hu, ← h4, add_add]
    obtain ⟨l, hl, hP⟩ := list_of _ len hall
    subst hl
    have hmx : l.length ≤ 9223372036854775807 := by unfold maxLen at hcm; omega
    refine ⟨⟨a, b, l⟩, k24_mk W ⟨a, b, l⟩ hlc ⟨rfl, hmx, fun _ => ⟨ad, rfl, fun j p hj => (hP j p hj).1⟩⟩, WF24.mk a b l wa wb hmx (fun y hy => ?_)⟩
    obtain ⟨i, hi, e⟩ := List.mem_iff_getElem.1 hy
    exact (hP i y (by rw [← e]; exact List.getElem?_eq_getElem hi)).2

theorem open_T24 {H : Type} {enc : TypeId × Value → H} {W : World} {spare : Nat → Bool} {held : Bool} {r : Reach} {b0 base : Nat} {v : Value} {d : DataW H} {ps : List MemPlace} (hv : Value.okWide Tryd.prog W r b0 24 v)
    (h : DataW.Trod enc Tryd.prog W base spare held 24 v d ps) :
    ∃ (x : S24) (A : Option Addr) (c : Nat), v = .agg #[.int .i64 x.f0, .int .i64 x.f1, .slice A x.f2.length c] ∧ x.f2.length ≤ c ∧ Kd.C k24 W A x.f2.length x.f2 ∧ WF24 x := by
  obtain ⟨v0, v1, v2, y0, y1, y2, n, rfl, _, _, h0, h1, h2⟩ := Joins.open_agg3 Tryd.underlying24 (by kernel_rfl) cells24 hv h
  obtain ⟨fuel, hf⟩ := h
  obtain ⟨y, hy, wy⟩ := tree24 fuel _ _ hf
  obtain ⟨A, c, e, hl, hC⟩ := k24_open hy
  obtain ⟨a, ha, _, _⟩ := DataW.trod_int Tryd.underlying3 h0
  obtain ⟨b, hb, _, _⟩ := DataW.trod_int Tryd.underlying3 h1
  obtain rfl : v0 = .int .i64 a := by simpa using ha
  obtain rfl : v1 = .int .i64 b := by simpa using hb
  have e2 : ∃ A' n' c', v2 = .slice A' n' c' := by
    rcases DataW.trod_slice Tryd.underlying22 h2 with ⟨q, _⟩ | ⟨ad, len, cap, _, _, _, _, q, _⟩
    · exact ⟨_, _, _, by simpa using q⟩
    · exact ⟨_, _, _, by simpa using q⟩
  obtain ⟨A', n', c', rfl⟩ := e2
  simp [Value.cells] at e
  obtain ⟨rfl, rfl, rfl, rfl, rfl⟩ := e
  exact ⟨y, A', c', rfl, hl, hC, wy⟩
end Go.Proofs.YtcchfblekaaalaaDoor.P
/- Chapter 1's Count, Few, Make: what they come to: a term of sound shape, not too deep, not too great. -/
namespace Go.Proofs.YtcchfblekaaalaaDoor.Pure
open Go.RowKit Go.Proofs.YtcchfblekaaalaaDoor.P Go.Proofs.YtcchfblekaaalaaDoorW.PrintWords Go.Proofs.YtcchfblekaaalaaDoorW.PrintLast Go.Proofs.YtcchfblekaaalaaDoorW.PrintMore
set_option linter.unusedVariables false
set_option linter.unusedSimpArgs false
theorem within1_val {a n : Int} (ha : -9223372036854775808 ≤ a ∧ a ≤ 9223372036854775807) (h0 : 0 < n) (hn : n ≤ 4611686018427387904) : thyrsuslaw1_within.f a n = some (a % n) := by
  unfold thyrsuslaw1_within.f
  rw [if_neg (by omega)]
  have h1 := Int.emod_nonneg a (show n ≠ 0 by omega)
  have h2 := Int.emod_lt_of_pos a h0
  by_cases h : 0 ≤ a
  · rw [Int.tmod_eq_emod_of_nonneg h, if_neg (by omega)]
  · have e := Int.tmod_eq_emod (a := a) (b := n)
    by_cases hd : n ∣ a
    · rw [if_pos (.inr hd)] at e
      have h3 := Int.emod_eq_zero_of_dvd hd
      rw [if_neg (by omega)]
      simp only [Option.some.injEq]
      omega
    · rw [if_neg (by omega)] at e
      rw [if_pos (by omega)]
      simp only [Option.some.injEq]
      unfold wrap64
      omega

mutual
def size24 : S24 → Nat
  | ⟨_, _, l⟩ => 1 + sizes24 l
def sizes24 : List S24 → Nat
  | [] => 0
  | x :: l => size24 x + sizes24 l
end
theorem rd24 {l : List S24} {i : Nat} (h : i < l.length) : rd_T24 l (i : Int) = l[i] := by simp [rd_T24, h]
theorem sizes24_drop {l : List S24} {i : Nat} (h : i < l.length) : sizes24 (l.drop i) = size24 l[i] + sizes24 (l.drop (i + 1)) := by
  rw [List.drop_eq_getElem_cons h]; rfl
theorem wrap_id {n : Int} (h : -9223372036854775808 ≤ n ∧ n ≤ 9223372036854775807) : wrap64 n = n := by unfold wrap64; omega

theorem count_ev {x : S24} (h : WF24 x) : ∀ m : Int, 1 ≤ m → m ≤ 1000000 → ∃ c : Int, Ev (fun k => thyrsuslaw1_Count.f k x.f0 x.f1 x.f2 m) c ∧ 1 ≤ c ∧ c ≤ m ∧ (c < m → c = size24 x) := by
  induction h with
  | mk a b l ha hb hn hl ih =>
    intro m hm hm2
    have loop : ∀ (d i : Nat) (n : Int), i + d = l.length → 1 ≤ n → n ≤ m → ∃ c : Int, Ev (fun k => thyrsuslaw1_Count.l0 k m n (i : Int) a b l) c ∧ n ≤ c ∧ c ≤ m ∧ (c < m → c = n + sizes24 (l.drop i)) := by
      intro d
      induction d with
      | zero =>
        intro i n hi h1 h2
        refine ⟨n, Ev.step (f := fun _ => some n) (fun k => ?_) (Ev.now n), by omega, h2, fun _ => ?_⟩
        · simp only [thyrsuslaw1_Count.l0]
          rw [if_neg (by omega)]
        · rw [List.drop_of_length_le (by omega)]
          simp [sizes24]
      | succ d ihd =>
        intro i n hi h1 h2
        have hil : i < l.length := by omega
        by_cases hnm : n < m
        · obtain ⟨c1, e1, g1, g2, g3⟩ := ih l[i] (List.getElem_mem hil) (m - n) (by omega) (by omega)
          obtain ⟨c, e2, q1, q2, q3⟩ := ihd (i + 1) (n + c1) (by omega) (by omega) (by omega)
          refine ⟨c, Ev.step (f := fun k => (thyrsuslaw1_Count.f k l[i].f0 l[i].f1 l[i].f2 (m - n)).bind fun t => thyrsuslaw1_Count.l0 k m (wrap64 (n + t)) (wrap64 ((i : Int) + 1)) a b l) (fun k => ?_) (Ev.bind e1 ?_), by omega, q2, fun hc => ?_⟩
          · simp only [thyrsuslaw1_Count.l0]
            rw [if_pos (by omega), if_pos hnm, if_pos (by omega), rd24 hil, wrap_id (n := m - n) (by omega)]
          · rw [wrap_id (n := n + c1) (by omega), wrap_id (n := (i : Int) + 1) (by omega)]
            exact e2
          · rw [q3 hc, sizes24_drop hil]
            have := g3 (by omega)
            omega
        · refine ⟨n, Ev.step (f := fun _ => some n) (fun k => ?_) (Ev.now n), by omega, h2, fun hc => by omega⟩
          simp only [thyrsuslaw1_Count.l0]
          rw [if_pos (by omega), if_neg hnm]
    obtain ⟨c, e, q1, q2, q3⟩ := loop l.length 0 1 (by omega) (by omega) (by omega)
    refine ⟨c, Ev.step (f := fun k => thyrsuslaw1_Count.l0 k m 1 0 a b l) (fun k => by simp only [thyrsuslaw1_Count.f]) e, q1, q2, fun hc => ?_⟩
    rw [q3 hc]
    simp [size24]

/-- Few raw nodes, or not; if few, that many there are. -/
theorem few_ev {x : S24} (h : WF24 x) : ∃ b : Bool, Ev (fun k => thyrsuslaw1_Few.f k x.f0 x.f1 x.f2) b ∧ (b = true → size24 x < 300) := by
  obtain ⟨c, e, _, h2, h3⟩ := count_ev h 300 (by omega) (by omega)
  refine ⟨decide (c < 300), ?_, fun hb => ?_⟩
  · unfold thyrsuslaw1_Few.f
    exact Ev.bind e (Ev.now _)
  · have hc : c < 300 := by simpa using hb
    have := h3 hc
    omega

theorem wf_of {n : Int} (h : -9223372036854775808 ≤ n ∧ n ≤ 9223372036854775807) : (Lit.int .i64 n).wf = true := by
  have h1 : IntKind.i64.min ≤ n ∧ n ≤ 9223372036854775807 := h
  simpa [Lit.wf] using h1
theorem wrap_range (n : Int) : -9223372036854775808 ≤ wrap64 n ∧ wrap64 n ≤ 9223372036854775807 := by
  unfold wrap64
  omega
theorem kid_ev {a b : Int} {l : List S24} (hl : ∀ x ∈ l, WF24 x) (i : Nat) (hi : i ≤ 4) : ∃ y : S24, WF24 y ∧ thyrsuslaw1_kid.f a b l (i : Int) = some (y.f0, y.f1, y.f2) := by
  unfold thyrsuslaw1_kid.f
  by_cases h : i < l.length
  · rw [if_pos (by omega), if_pos (by omega), rd24 h]
    exact ⟨l[i], hl _ (List.getElem_mem h), rfl⟩
  · rw [if_neg (by omega)]
    exact ⟨⟨0, wrap64 (b + (i : Int)), []⟩, WF24.mk _ _ _ (wf_of (by omega)) (wf_of (wrap_range _)) (by simp) (by simp), rfl⟩
theorem deeps_snoc : ∀ (l : List S29) (x : S29), deeps29 (l ++ [x]) = max (deeps29 l) (deep29 x)
  | [], x => by simp [deeps29]
  | y :: l, x => by
    simp only [List.cons_append, deeps29, deeps_snoc l x]
    omega
theorem sizes_snoc : ∀ (l : List S29) (x : S29), sizes29 (l ++ [x]) = sizes29 l + size29 x
  | [], x => by simp [sizes29]
  | y :: l, x => by
    simp only [List.cons_append, sizes29, sizes_snoc l x]
    omega
/-- The greatest size of a term so deep. -/
def cap : Nat → Nat
  | 0 => 1
  | n + 1 => 1 + 4 * cap n
end Go.Proofs.YtcchfblekaaalaaDoor.Pure
-- Printed by mkprint.py (a program of this session, over the kit's print). Lean checks it.
namespace Go.Proofs.YtcchfblekaaalaaDoor.P
open Go.RowKit Go.Proofs.YtcchfblekaaalaaDoorW.PrintWords Go.Proofs.YtcchfblekaaalaaDoorW.PrintLast Go.Proofs.YtcchfblekaaalaaDoorW.PrintMore
attribute [local go_sem] max2_int min2_int max_two min_two max_three min_three max_four min_four   -- for this text's walks alone
set_option linter.unusedVariables false
set_option linter.unusedSimpArgs false

-- GIVEN: function 22 (term_Subst)

-- GIVEN: function 23 (term_Shift)

/-! ### term_Size: function 32 -/
/-! ### thyrsuslaw4_places: function 33 -/
end Go.Proofs.YtcchfblekaaalaaDoor.P
/- Chapter 4, plainly: a term's size; how often a variable stands; the size of a term with another one put in. -/
namespace Go.Proofs.YtcchfblekaaalaaDoor.Pure
open Go.RowKit Go.Proofs.YtcchfblekaaalaaDoor.P Go.Proofs.YtcchfblekaaalaaDoorW.PrintWords Go.Proofs.YtcchfblekaaalaaDoorW.PrintLast Go.Proofs.YtcchfblekaaalaaDoorW.PrintMore
set_option linter.unusedVariables false
/- how often a variable stands -/
theorem bindersE (a i : Int) (k : Nat) (hk : 2 ≤ k) : thyrsusref4_Binders.f k a i = some (bnd a i) := by
  obtain ⟨k, rfl⟩ : ∃ k', k = k' + 2 := ⟨k - 2, by omega⟩
  unfold thyrsusref4_Binders.f bnd
  simp only [thyrsusref4_Binders.j0]
  repeat' split
  all_goals first | rfl | omega | simp_all
/- with another one put in -/
/- with another one put in: sound shape, depth -/
end Go.Proofs.YtcchfblekaaalaaDoor.Pure
/- Make, plainly, told whole: a term of sound shape, its variables no greater than a number. -/
namespace Go.Proofs.YtcchfblekaaalaaDoor.Pure
open Go.RowKit Go.Proofs.YtcchfblekaaalaaDoor.P Go.Proofs.YtcchfblekaaalaaDoor.Run Go.Proofs.YtcchfblekaaalaaDoorW.PrintWords Go.Proofs.YtcchfblekaaalaaDoorW.PrintLast Go.Proofs.YtcchfblekaaalaaDoorW.PrintMore
set_option linter.unusedVariables false
/-- The numbers that a made term's node may have. -/
def numM (v a b : Int) : Prop := if a = 1 then 0 ≤ b ∧ b ≤ v else if a = 2 then 0 ≤ b ∧ b ≤ 2 else if a = 26 then 0 ≤ b ∧ b ≤ 4 else if a = 25 then -9223372036854775808 ≤ b ∧ b ≤ 9223372036854775807 else b = 0
mutual
/-- Sound shape, the variables no greater than a number. -/
def mk (v : Int) : S29 → Prop
  | ⟨a, b, l⟩ => (1 ≤ a ∧ a ≤ 30) ∧ kidsOf a = (l.length : Int) ∧ numM v a b ∧ mks v a 0 l
def mks (v a : Int) : Nat → List S29 → Prop
  | _, [] => True
  | i, x :: l => mk (v + bnd a i) x ∧ mks v a (i + 1) l
end
theorem kids_le {a : Int} (h : 1 ≤ a ∧ a ≤ 30) : 0 ≤ kidsOf a ∧ kidsOf a ≤ 4 := by
  have hc : a = 1 ∨ a = 2 ∨ a = 3 ∨ a = 4 ∨ a = 5 ∨ a = 6 ∨ a = 7 ∨ a = 8 ∨ a = 9 ∨ a = 10 ∨ a = 11 ∨ a = 12 ∨ a = 13 ∨ a = 14 ∨ a = 15 ∨ a = 16 ∨ a = 17 ∨ a = 18 ∨ a = 19 ∨ a = 20 ∨ a = 21 ∨ a = 22 ∨ a = 23 ∨ a = 24 ∨ a = 25 ∨ a = 26 ∨ a = 27 ∨ a = 28 ∨ a = 29 ∨ a = 30 := by omega
  rcases hc with rfl | rfl | rfl | rfl | rfl | rfl | rfl | rfl | rfl | rfl | rfl | rfl | rfl | rfl | rfl | rfl | rfl | rfl | rfl | rfl | rfl | rfl | rfl | rfl | rfl | rfl | rfl | rfl | rfl | rfl
  all_goals decide
theorem arity_k {a : Int} (h : 1 ≤ a ∧ a ≤ 30) (m : Nat) : thyrsusref4_Arity.f (m + 6) a = some (kidsOf a) := by
  have hc : a = 1 ∨ a = 2 ∨ a = 3 ∨ a = 4 ∨ a = 5 ∨ a = 6 ∨ a = 7 ∨ a = 8 ∨ a = 9 ∨ a = 10 ∨ a = 11 ∨ a = 12 ∨ a = 13 ∨ a = 14 ∨ a = 15 ∨ a = 16 ∨ a = 17 ∨ a = 18 ∨ a = 19 ∨ a = 20 ∨ a = 21 ∨ a = 22 ∨ a = 23 ∨ a = 24 ∨ a = 25 ∨ a = 26 ∨ a = 27 ∨ a = 28 ∨ a = 29 ∨ a = 30 := by omega
  rcases hc with rfl | rfl | rfl | rfl | rfl | rfl | rfl | rfl | rfl | rfl | rfl | rfl | rfl | rfl | rfl | rfl | rfl | rfl | rfl | rfl | rfl | rfl | rfl | rfl | rfl | rfl | rfl | rfl | rfl | rfl
  all_goals rfl
theorem arity2 {a : Int} (h : 1 ≤ a ∧ a ≤ 30) : ∃ r : Nat, r ≤ 4 ∧ Ev (fun k => thyrsusref4_Arity.f k a) (r : Int) ∧ kidsOf a = (r : Int) := by
  have hk := kids_le h
  refine ⟨(kidsOf a).toNat, by omega, ⟨6, fun n hn => ?_⟩, by omega⟩
  obtain ⟨m, rfl⟩ : ∃ m, n = m + 6 := ⟨n - 6, by omega⟩
  show thyrsusref4_Arity.f (m + 6) a = _
  rw [arity_k h m]
  congr 1
  omega
theorem mks_snoc {v a : Int} : ∀ (l : List S29) (x : S29) (i : Nat), mks v a i l → mk (v + bnd a ((i + l.length : Nat) : Int)) x → mks v a i (l ++ [x])
  | [], x, i, _, h => ⟨by simpa using h, trivial⟩
  | y :: l, x, i, h, hx => ⟨h.1, mks_snoc l x (i + 1) h.2 (by rw [List.length_cons] at hx; rw [show i + 1 + l.length = i + (l.length + 1) by omega]; exact hx)⟩
mutual
theorem mk_good {B : Int} (hB : B ≤ 9223372036854775807) : ∀ (t : S29) {v : Int}, mk v t → v + 2 * deep29 t ≤ B → good B t
  | ⟨a, b, l⟩, v, ⟨h1, h2, h3, h4⟩, hd => by
    rw [deep29] at hd
    have hk := kids_le h1
    unfold numM at h3
    refine ⟨?_, fun h => ?_, by omega, mks_good hB l h4 (by omega)⟩
    · repeat' split at h3
      all_goals omega
    · subst h
      rw [if_pos rfl] at h3
      have hl : l = [] := List.eq_nil_of_length_eq_zero (by have h5 : kidsOf 1 = 0 := by decide
                                                            omega)
      exact ⟨hl, by omega⟩
theorem mks_good {B : Int} (hB : B ≤ 9223372036854775807) : ∀ (l : List S29) {v a : Int} {i : Nat}, mks v a i l → v + 2 + 2 * deeps29 l ≤ B → goods B l
  | [], v, a, i, _, _ => trivial
  | x :: l, v, a, i, ⟨h1, h2⟩, hd => by
    rw [deeps29] at hd
    have hb := bnd_range a (i : Int)
    exact ⟨mk_good hB x h1 (by omega), mks_good hB l h2 (by omega)⟩
end
/-- What Make comes to, so deep. -/
def MK2 (n : Nat) : Prop := ∀ x : S24, WF24 x → ∀ deep vars : Int, deep ≤ n → -1000 ≤ deep → 0 ≤ vars → vars ≤ 1000 - 2 * (n : Int) → n ≤ 400 →
  ∃ t : S29, Ev (fun k => thyrsuslaw1_Make.f k x.f0 x.f1 x.f2 deep vars) (t.f0, t.f1, t.f2) ∧ mk vars t ∧ deep29 t ≤ n + 1 ∧ size29 t ≤ cap n
theorem make2_loop {m : Nat} (ih : MK2 m) {deep vars op N a b : Int} {l : List S24} (hm : m + 1 ≤ 400) (hd : 1 ≤ deep) (hd2 : deep ≤ m + 1) (hv : 0 ≤ vars) (hv2 : vars ≤ 1000 - 2 * ((m : Int) + 1)) (hl : ∀ x ∈ l, WF24 x)
    {r : Nat} (hr : r ≤ 4) (hA : Ev (fun k => thyrsusref4_Arity.f k op) (r : Int)) : ∀ (d i : Nat) (acc : List S29), i + d = r → acc.length = i → mks vars op 0 acc → deeps29 acc ≤ m + 1 → sizes29 acc ≤ i * cap m →
    ∃ ks, Ev (fun k => thyrsuslaw1_Make.l0 k deep vars op (i : Int) a b l op N acc) (op, N, ks) ∧ mks vars op 0 ks ∧ deeps29 ks ≤ m + 1 ∧ sizes29 ks ≤ r * cap m ∧ ks.length = r := by
  intro d
  induction d with
  | zero =>
    intro i acc hi hlen hf hdp hsz
    obtain rfl : i = r := by omega
    refine ⟨acc, Ev.step (f := fun k => (thyrsusref4_Arity.f k op).bind fun t209 => some (op, N, acc)) (fun k => ?_) (Ev.bind hA (Ev.now _)), hf, hdp, hsz, hlen⟩
    simp only [thyrsuslaw1_Make.l0]
    cases h : thyrsusref4_Arity.f k op with
    | none => rfl
    | some t =>
      simp only [Option.bind_some]
      have : t = (i : Int) := by
        obtain ⟨K, hK⟩ := hA
        have h1 := hK (max K k) (by omega)
        have h2 := at_rounds (fun k => thyrsusref4_Arity.mono op k) (show k ≤ max K k by omega) h
        simp only at h1
        rw [h1] at h2
        exact (Option.some.inj h2).symm
      rw [if_neg (by omega)]
  | succ d ihd =>
    intro i acc hi hlen hf hdp hsz
    obtain ⟨y, hy, hk⟩ := kid_ev (a := a) (b := b) hl i (by omega)
    have hB : Ev (fun k => thyrsusref4_Binders.f k op (i : Int)) (bnd op (i : Int)) := ⟨2, fun k hk => bindersE op (i : Int) k hk⟩
    have hbn := bnd_range op (i : Int)
    obtain ⟨t, hT, hf2, hdp2, hsz2⟩ := ih y hy (deep - 1) (vars + bnd op (i : Int)) (by omega) (by omega) (by omega) (by omega) (by omega)
    have hn : ((acc ++ [t]).length : Int) = (i : Int) + 1 := by simp [hlen]
    have hmul : (i + 1) * cap m = i * cap m + cap m := Nat.succ_mul i (cap m)
    obtain ⟨ks, hE, h1, h2, h3, h4⟩ := ihd (i + 1) (acc ++ [t]) (by omega) (by simp [hlen]) (mks_snoc acc t 0 hf (by rw [Nat.zero_add, hlen]; exact hf2)) (by rw [deeps_snoc]; omega) (by rw [sizes_snoc, hmul]; omega)
    refine ⟨ks, ?_, h1, h2, h3, h4⟩
    refine Ev.step (f := fun k => (thyrsusref4_Arity.f k op).bind fun t209 => if (i : Int) < t209 then ((thyrsuslaw1_kid.f a b l (i : Int)).bind fun bt210 => ((thyrsusref4_Binders.f k op (i : Int)).bind fun t215 => ((thyrsuslaw1_Make.f k bt210.1 bt210.2.1 bt210.2.2 (wrap64 (deep - 1)) (wrap64 (vars + t215))).bind fun bt216 => (if acc.length < 3518437208883 then (thyrsuslaw1_Make.l0 k deep vars op (wrap64 ((i : Int) + 1)) a b l op N (acc ++ [(⟨bt216.1, bt216.2.1, bt216.2.2⟩ : S29)])) else (none))))) else (some (op, N, acc))) (fun k => by simp only [thyrsuslaw1_Make.l0]) ?_
    refine Ev.bind hA ?_
    rw [hk]
    simp only [if_pos (show (i : Int) < (r : Int) by omega), Option.bind_some]
    refine Ev.bind hB ?_
    rw [wrap_id (n := deep - 1) (by omega), wrap_id (n := vars + bnd op (i : Int)) (by omega)]
    refine Ev.bind hT ?_
    simp only [if_pos (show acc.length < 3518437208883 by omega), wrap_id (n := (i : Int) + 1) (by omega), eta29]
    simpa using hE
theorem make2_j1 {deep vars op a b : Int} {l : List S24} (hb : -9223372036854775808 ≤ b ∧ b ≤ 9223372036854775807) (hv : 0 ≤ vars) (hv2 : vars ≤ 1000) : ∃ N : Int, numM vars op N ∧ ∀ R, Ev (fun k => thyrsuslaw1_Make.l0 k deep vars op 0 a b l op N []) R → Ev (fun k => thyrsuslaw1_Make.j1 k deep vars op a b l) R := by
  have st : ∀ (N : Int) R, Ev (fun k => thyrsuslaw1_Make.l0 k deep vars op 0 a b l op N []) R → Ev (fun k => thyrsuslaw1_Make.j2 k deep vars op a b l op N) R := fun N R h => Ev.step (f := fun k => thyrsuslaw1_Make.l0 k deep vars op 0 a b l op N []) (fun k => by simp only [thyrsuslaw1_Make.j2]) h
  have w1 := within1_val hb (n := vars + 1) (by omega) (by omega)
  have w2 := within1_val hb (n := 3) (by omega) (by omega)
  have w3 := within1_val hb (n := 5) (by omega) (by omega)
  have q : wrap64 (vars + 1) = vars + 1 := wrap_id (by omega)
  have m1 := Int.emod_nonneg b (show vars + 1 ≠ 0 by omega)
  have m2 := Int.emod_lt_of_pos b (show 0 < vars + 1 by omega)
  by_cases c1 : op = 1
  · refine ⟨b % (vars + 1), by unfold numM; rw [if_pos c1]; omega, fun R h => Ev.step (f := fun k => thyrsuslaw1_Make.j2 k deep vars op a b l op (b % (vars + 1))) (fun k => ?_) (st _ R h)⟩
    simp only [thyrsuslaw1_Make.j1, if_pos c1, q, w1, Option.bind_some]
  · by_cases c2 : op = 2
    · refine ⟨b % 3, by unfold numM; rw [if_neg c1, if_pos c2]; omega, fun R h => Ev.step (f := fun k => thyrsuslaw1_Make.j2 k deep vars op a b l op (b % 3)) (fun k => ?_) (st _ R h)⟩
      simp only [thyrsuslaw1_Make.j1, if_neg c1, if_pos c2, w2, Option.bind_some]
    · by_cases c3 : op = 26
      · refine ⟨b % 5, by unfold numM; rw [if_neg c1, if_neg c2, if_pos c3]; omega, fun R h => Ev.step (f := fun k => thyrsuslaw1_Make.j2 k deep vars op a b l op (b % 5)) (fun k => ?_) (st _ R h)⟩
        simp only [thyrsuslaw1_Make.j1, if_neg c1, if_neg c2, if_pos c3, w3, Option.bind_some]
      · by_cases c4 : op = 25
        · refine ⟨b, by unfold numM; rw [if_neg c1, if_neg c2, if_neg c3, if_pos c4]; exact hb, fun R h => Ev.step (f := fun k => thyrsuslaw1_Make.j2 k deep vars op a b l op b) (fun k => ?_) (st _ R h)⟩
          simp only [thyrsuslaw1_Make.j1, if_neg c1, if_neg c2, if_neg c3, if_pos c4]
        · refine ⟨0, by unfold numM; rw [if_neg c1, if_neg c2, if_neg c3, if_neg c4], fun R h => Ev.step (f := fun k => thyrsuslaw1_Make.j2 k deep vars op a b l op 0) (fun k => ?_) (st _ R h)⟩
          simp only [thyrsuslaw1_Make.j1, if_neg c1, if_neg c2, if_neg c3, if_neg c4]
theorem make2_body {n : Nat} (ih : ∀ m, n = m + 1 → MK2 m) {deep vars op a b : Int} {l : List S24} (hn : n ≤ 400) (hop : 1 ≤ op ∧ op ≤ 30) (hb : -9223372036854775808 ≤ b ∧ b ≤ 9223372036854775807) (hd : deep ≤ n) (hv : 0 ≤ vars) (hv2 : vars ≤ 1000 - 2 * (n : Int)) (hl : ∀ x ∈ l, WF24 x)
    {r : Nat} (hr : r ≤ 4) (hA : Ev (fun k => thyrsusref4_Arity.f k op) (r : Int)) (h0 : deep ≤ 0 → r = 0) (hv1 : kidsOf op = (r : Int)) : ∃ t : S29, Ev (fun k => thyrsuslaw1_Make.j1 k deep vars op a b l) (t.f0, t.f1, t.f2) ∧ mk vars t ∧ deep29 t ≤ n + 1 ∧ size29 t ≤ cap n := by
  obtain ⟨N, hN, hj⟩ := make2_j1 (deep := deep) (op := op) (a := a) (l := l) hb hv (by omega)
  by_cases hr0 : r = 0
  · subst hr0
    refine ⟨⟨op, N, []⟩, hj _ ?_, ⟨hop, hv1, hN, trivial⟩, by simp [deep29, deeps29], by cases n <;> simp [size29, sizes29, cap] <;> omega⟩
    refine Ev.step (f := fun k => (thyrsusref4_Arity.f k op).bind fun t209 => (if (0 : Int) < t209 then ((thyrsuslaw1_kid.f a b l 0).bind fun bt210 => ((thyrsusref4_Binders.f k op 0).bind fun t215 => ((thyrsuslaw1_Make.f k bt210.1 bt210.2.1 bt210.2.2 (wrap64 (deep - 1)) (wrap64 (vars + t215))).bind fun bt216 => (if ([] : List S29).length < 3518437208883 then (thyrsuslaw1_Make.l0 k deep vars op (wrap64 (0 + 1)) a b l op N ([] ++ [(⟨bt216.1, bt216.2.1, bt216.2.2⟩ : S29)])) else (none))))) else (some (op, N, [])))) (fun k => by simp only [thyrsuslaw1_Make.l0]) ?_
    refine Ev.bind hA ?_
    simp only [Int.natCast_zero, Int.lt_irrefl, if_false]
    exact Ev.now _
  · have hd1 : 1 ≤ deep := by
      by_cases hq : deep ≤ 0
      · exact absurd (h0 hq) hr0
      · omega
    obtain ⟨m, rfl⟩ : ∃ m, n = m + 1 := ⟨n - 1, by omega⟩
    obtain ⟨ks, hE, h1, h2, h3, h4⟩ := make2_loop (N := N) (a := a) (b := b) (ih m rfl) hn hd1 (by omega) hv (by omega) hl hr hA r 0 [] (by omega) rfl trivial (by simp [deeps29]) (by simp [sizes29])
    refine ⟨⟨op, N, ks⟩, hj _ (by simpa using hE), ⟨hop, by rw [hv1, h4], hN, h1⟩, by simp only [deep29]; omega, ?_⟩
    have : r * cap m ≤ 4 * cap m := Nat.mul_le_mul_right _ hr
    simp only [size29, cap]
    omega
theorem make2_step {n : Nat} (ih : ∀ m, n = m + 1 → MK2 m) (x : S24) (hx : WF24 x) (deep vars : Int) (hd : deep ≤ n) (hd2 : -1000 ≤ deep) (hv : 0 ≤ vars) (hv2 : vars ≤ 1000 - 2 * (n : Int)) (hn : n ≤ 400) :
    ∃ t : S29, Ev (fun k => thyrsuslaw1_Make.f k x.f0 x.f1 x.f2 deep vars) (t.f0, t.f1, t.f2) ∧ mk vars t ∧ deep29 t ≤ n + 1 ∧ size29 t ≤ cap n := by
  cases hx with
  | mk a b l ha hb hlen hl =>
    have ha := i64_of ha
    have hb := i64_of hb
    have m1 := Int.emod_nonneg a (show (30 : Int) ≠ 0 by omega)
    have m2 := Int.emod_lt_of_pos a (show (0 : Int) < 30 by omega)
    have w1 := within1_val ha (n := 30) (by omega) (by omega)
    have w5 := within1_val ha (n := 5) (by omega) (by omega)
    have q : wrap64 (1 + a % 30) = 1 + a % 30 := wrap_id (by omega)
    obtain ⟨r, hr, hA, hz⟩ := arity2 (a := 1 + a % 30) (by omega)
    have same : (deep ≤ 0 → r = 0) → ∃ t : S29, Ev (fun k => thyrsuslaw1_Make.j0 k deep vars (1 + a % 30) false a b l) (t.f0, t.f1, t.f2) ∧ mk vars t ∧ deep29 t ≤ n + 1 ∧ size29 t ≤ cap n := fun h0 => by
      obtain ⟨t, hE, h⟩ := make2_body ih (a := a) hn (by omega) hb hd hv hv2 hl hr hA h0 hz
      exact ⟨t, Ev.step (f := fun k => thyrsuslaw1_Make.j1 k deep vars (1 + a % 30) a b l) (fun k => by simp [thyrsuslaw1_Make.j0]) hE, h⟩
    by_cases hdp : deep ≤ 0
    · by_cases hr0 : r = 0
      · obtain ⟨t, hE, h⟩ := same (fun _ => hr0)
        refine ⟨t, Ev.step (f := fun k => (thyrsusref4_Arity.f k (1 + a % 30)).bind fun t199 => thyrsuslaw1_Make.j0 k deep vars (1 + a % 30) (decide (t199 > 0)) a b l) (fun k => by simp only [thyrsuslaw1_Make.f, w1, q, Option.bind_some, if_pos hdp]) (Ev.bind hA ?_), h⟩
        rw [hr0]
        simpa using hE
      · have m3 := Int.emod_nonneg a (show (5 : Int) ≠ 0 by omega)
        have m4 := Int.emod_lt_of_pos a (show (0 : Int) < 5 by omega)
        have hop : ∃ op : Int, rd ([1, 11, 25, 15, 10] : List Int) (a % 5) = op ∧ (op = 1 ∨ op = 10 ∨ op = 11 ∨ op = 15 ∨ op = 25) := by
          have : a % 5 = 0 ∨ a % 5 = 1 ∨ a % 5 = 2 ∨ a % 5 = 3 ∨ a % 5 = 4 := by omega
          rcases this with h | h | h | h | h <;> rw [h] <;> exact ⟨_, rfl, by simp [rd]⟩
        obtain ⟨op, ho, hop⟩ := hop
        obtain ⟨r2, hr2, hA2, hz2⟩ := arity2 (a := op) (by omega)
        have hk0 : kidsOf op = 0 := by rcases hop with rfl | rfl | rfl | rfl | rfl <;> decide
        obtain ⟨t, hE, h⟩ := make2_body ih (a := a) hn (show 1 ≤ op ∧ op ≤ 30 by omega) hb hd hv hv2 hl hr2 hA2 (fun _ => by omega) hz2
        refine ⟨t, Ev.step (f := fun k => (thyrsusref4_Arity.f k (1 + a % 30)).bind fun t199 => thyrsuslaw1_Make.j0 k deep vars (1 + a % 30) (decide (t199 > 0)) a b l) (fun k => by simp only [thyrsuslaw1_Make.f, w1, q, Option.bind_some, if_pos hdp]) (Ev.bind hA ?_), h⟩
        have hr1 : decide ((r : Int) > 0) = true := decide_eq_true (by omega)
        rw [hr1]
        refine Ev.step (f := fun k => thyrsuslaw1_Make.j1 k deep vars op a b l) (fun k => ?_) hE
        simp only [thyrsuslaw1_Make.j0, if_true, Option.bind_some, w5, if_pos m3, ho]
        rw [if_pos (by simp; omega)]
    · obtain ⟨t, hE, h⟩ := same (fun h => absurd h hdp)
      exact ⟨t, Ev.step (f := fun k => thyrsuslaw1_Make.j0 k deep vars (1 + a % 30) false a b l) (fun k => by simp only [thyrsuslaw1_Make.f, w1, q, Option.bind_some, if_neg hdp]) hE, h⟩
theorem make2_all : ∀ n : Nat, MK2 n := by
  intro n
  induction n with
  | zero => exact fun x hx deep vars hd hd2 hv hv2 hn => make2_step (fun m h => by omega) x hx deep vars hd hd2 hv hv2 hn
  | succ n ih => exact fun x hx deep vars hd hd2 hv hv2 hn => make2_step (fun m h => Nat.succ.inj h ▸ ih) x hx deep vars hd hd2 hv hv2 hn
end Go.Proofs.YtcchfblekaaalaaDoor.Pure
/- The reference's checker: walk, Check, by hand (genchkw.py) -/
namespace Go.Proofs.YtcchfblekaaalaaDoor.P
open Go.Proofs.YtcchfblekaaalaaDoor.Run Go.RowKit Go.Proofs.YtcchfblekaaalaaDoorW.PrintWords Go.Proofs.YtcchfblekaaalaaDoorW.PrintLast Go.Proofs.YtcchfblekaaalaaDoorW.PrintMore
set_option linter.unusedVariables false
set_option linter.unusedSimpArgs false
theorem arity_any (o : Int) : thyrsusref4_Arity.f 6 o = some (kidsOf o) := by
  by_cases h : 1 ≤ o ∧ o ≤ 30
  · exact Pure.arity_k h 0
  · have hk : kidsOf o = -1 := by
      unfold kidsOf
      by_cases h0 : o = 0
      · subst h0
        rfl
      · rw [if_neg (by omega)]
    rw [hk]
    have n : ∀ c : Int, 1 ≤ c ∧ c ≤ 30 → o ≠ c := fun c hc e => h (e ▸ hc)
    have b : ∀ c : Int, 1 ≤ c ∧ c ≤ 30 → (o == c) = false := fun c hc => beq_eq_false_iff_ne.mpr (n c hc)
    unfold thyrsusref4_Arity.f
    simp only [if_neg (n 1 (by decide)), if_neg (n 2 (by decide)), if_neg (n 10 (by decide)), if_neg (n 11 (by decide)), if_neg (n 14 (by decide)), if_neg (n 15 (by decide)), b 25 (by decide), thyrsusref4_Arity.j0, Bool.false_eq_true, if_false, if_neg (n 8 (by decide)), if_neg (n 9 (by decide)), if_neg (n 12 (by decide)), if_neg (n 18 (by decide)), if_neg (n 19 (by decide)), if_neg (n 23 (by decide)), if_neg (n 24 (by decide)), b 30 (by decide), thyrsusref4_Arity.j1, if_neg (n 3 (by decide)), if_neg (n 4 (by decide)), if_neg (n 5 (by decide)), if_neg (n 6 (by decide)), if_neg (n 16 (by decide)), if_neg (n 17 (by decide)), if_neg (n 20 (by decide)), if_neg (n 21 (by decide)), if_neg (n 22 (by decide)), if_neg (n 26 (by decide)), if_neg (n 28 (by decide)), b 29 (by decide), thyrsusref4_Arity.j2, if_neg (n 7 (by decide)), b 27 (by decide), thyrsusref4_Arity.j3, if_neg (n 13 (by decide))]
theorem number_any (o n : Int) : thyrsusref4_number.f o n = some (numOk o n) := by
  unfold thyrsusref4_number.f numOk
  by_cases h1 : o = 1
  · rw [if_pos h1, if_pos h1]
    by_cases h : n ≥ 0
    · rw [if_pos h, decide_eq_true (show 0 ≤ n from h), Bool.true_and]
    · rw [if_neg h, decide_eq_false (show ¬ 0 ≤ n from h), Bool.false_and]
  rw [if_neg h1, if_neg h1]
  by_cases h2 : o = 2
  · rw [if_pos h2, if_pos h2]
    by_cases h : n ≥ 0
    · rw [if_pos h, decide_eq_true (show 0 ≤ n from h), Bool.true_and]
    · rw [if_neg h, decide_eq_false (show ¬ 0 ≤ n from h), Bool.false_and]
  rw [if_neg h2, if_neg h2]
  by_cases h3 : o = 26
  · rw [if_pos h3, if_pos h3]
    by_cases h : n ≥ 0
    · rw [if_pos h, decide_eq_true (show 0 ≤ n from h), Bool.true_and]
    · rw [if_neg h, decide_eq_false (show ¬ 0 ≤ n from h), Bool.false_and]
  rw [if_neg h3, if_neg h3]
  by_cases h4 : o = 25
  · rw [if_pos h4, if_pos h4]
  · rw [if_neg h4, if_neg h4]
/-- The checker's block. -/
def NC2 (w : World) (gn : Nat) (n e : Int) : Prop := w.heap[gn]? = some (.cells #[.int .i64 n, .int .i64 e] 68 (0, 0))
/-- What is so behind the reference's walk. -/
def WkPost (w w0 : World) (gn : Nat) (R : Int × Int) (en : Ending) (w' : World) : Prop := ∃ v, en = .returned v ∧ NC2 w' gn R.1 R.2 ∧ KeepBut w w' gn none ∧ Below w0.heap.size w0 w'
/-- What the reference's walk does. -/
def Wk (d : Nat) : Prop := ∀ {w0 w : World} {t : S29} {A : Option Addr} {c gn : Nat} {n deep : Int}, NC2 w gn n 0 → Below w0.heap.size w0 w → w0.heap.size ≤ gn → t.f2.length ≤ c → Kd.C k29 w0 A t.f2.length t.f2 → deep + d = 121 → 0 ≤ deep → 0 ≤ n → n ≤ 3000 →
  Calls Tryd.prog 54 #[.pointer (some ⟨gn, 0, none⟩), .agg #[.int .i64 t.f0, .int .i64 t.f1, .slice A t.f2.length c], .int .i64 deep] w fun en w' => WkPost w w0 gn (chk d t n) en w'
set_option maxHeartbeats 8000000 in
set_option maxRecDepth 100000 in
theorem wk_step (d : Nat) (ih : ∀ d1, d = d1 + 1 → Wk d1) : Wk d := by
  intro w0 w t A c gn n deep hN hB hg hc hC hd hd0 hn0 hn
  obtain ⟨R, hR⟩ : ∃ R, R = chk d t n := ⟨_, rfl⟩
  rw [← hR]
  have HN := Aside0.mk hN
  have HB := Aside0.mk hB
  have HG := Aside0.mk hg
  have HC := Aside0.mk hC
  have HCc := Aside0.mk hc
  have IH0 := Aside0.mk ih
  have DD0 := Aside0.mk (And.intro hd hd0)
  have M0 := Aside0.mk (show 0 ≤ n + 1 ∧ n + 1 ≤ 3001 by omega)
  have c0 : w.cell? ⟨gn, 0, none⟩ = some (.int .i64 n) := (blk_cell hN 0).trans rfl
  have f0 := blk_frozen hN 0
  have c1 : w.cell? ⟨gn, 1, none⟩ = some (.int .i64 0) := (blk_cell hN 1).trans rfl
  have f1 := blk_frozen hN 1
  have W1 := Aside0.mk (show wrap64 (n + 1) = n + 1 by unfold wrap64; omega)
  by_cases h3 : 3000 < n + 1
  · have g3_ : (3000 < n + 1) = True := eq_true h3
    have g4 : decide (3000 < n + 1) = true := decide_eq_true h3
    have EQ : Aside0 (R = (n + 1, 5)) := ⟨by rw [hR]; cases d with | zero => rfl | succ d => rw [chk, if_pos h3]⟩
    clear hN hB hg hc hC hd hd0 hn0 hn hR h3
    go_enter Tryd.func54, Tryd.ntmps54
    go_wp2_with (first | ((with_reducible refine gate_dst (N := 4) rfl ?_); refine box_event ?hg (N := 4) ?hd (cs := #[.int .i64 t.f0, .int .i64 t.f1, .slice A t.f2.length c]) (t := 29) ?hr ?_; (case hd => rfl); (case hg => rfl); (case hr => first | (go_simp; done) | (go_simp; rfl)); intro g3 hg3 w3 hbox hb3; have G3 := Aside0.mk hg3; have K3 := Aside0.mk hbox; have N3 := Aside0.mk (blk_below HN.out hb3); have B3 := Aside0.mk (HB.out.trans (hb3.mono HB.out.size)); have Q3 : Aside0 (KeepBut w w3 gn none) := ⟨KeepBut.of_below hb3 gn none⟩; clear hg3 hbox hb3 c0 f0 c1 f1; have c0 : w3.cell? ⟨gn, 0, none⟩ = some (.int .i64 n) := (blk_cell N3.out 0).trans rfl; have f0 := blk_frozen N3.out 0; have c1 : w3.cell? ⟨gn, 1, none⟩ = some (.int .i64 0) := (blk_cell N3.out 1).trans rfl; have f1 := blk_frozen N3.out 1) | (rw [W1.out]))
    have NE : Aside0 (g3 ≠ gn) := ⟨by have h1 := blk_lt HN.out; have h2 := G3.out; omega⟩
    go_loopw [6] (fun v6 w_ => ∃ (i : Nat) (m e : Int), i ≤ t.f2.length ∧ v6 = .int .i64 i ∧ Aside0 (0 ≤ m ∧ m ≤ 3001) ∧ Aside0 (e = 0 → m ≤ 3000 ∧ chkAll (chk (d - 1)) (t.f2.drop i) m = R ∧ 1 ≤ d) ∧ Aside0 (e ≠ 0 → R = (m, e)) ∧ Aside0 (NC2 w_ gn m e) ∧ Aside0 (KeepBut w w_ gn none) ∧ Aside0 (Below w0.heap.size w0 w_) ∧ Aside0 (w_.heap[g3]? = some (.cells #[.int .i64 t.f0, .int .i64 t.f1, .slice A t.f2.length c] 29 (0, 0)))) (fun v6 _ => t.f2.length - (intOf v6).toNat)
    case atStart => exact ⟨0, n + 1, 5, Nat.zero_le _, rfl, M0, ⟨fun h => absurd h (by decide)⟩, ⟨fun _ => EQ.out⟩, ⟨by first | exact blk_put (blk_put N3.out 0 _ rfl) 1 _ rfl⟩, ⟨KeepBut.set_ (KeepBut.set_ Q3.out 0 _) 1 _⟩, ⟨below_set (below_set B3.out HG.out) HG.out⟩, ⟨blk_far (blk_far K3.out NE.out _) NE.out _⟩⟩
    case round =>
      obtain ⟨i, m, e, hi, rfl, HM, H0, H1, NR, QR, BR, KR⟩ := hrel
      have ck0 : wr.cell? ⟨g3, 0, none⟩ = some (.int .i64 t.f0) := (blk_cell KR.out 0).trans rfl
      have ck2 : wr.cell? ⟨g3, 2, none⟩ = some (.slice A t.f2.length c) := (blk_cell KR.out 2).trans rfl
      have cn1 : wr.cell? ⟨gn, 1, none⟩ = some (.int .i64 e) := (blk_cell NR.out 1).trans rfl
      by_cases hlt : i < t.f2.length
      rotate_left
      · obtain rfl : i = t.f2.length := by omega
        have e1 : ((t.f2.length : Int) < (t.f2.length : Int)) = False := eq_false (by omega)
        have HE : Aside0 (R = (m, e)) := ⟨by
          by_cases he : e = 0
          · obtain ⟨_, h2, _⟩ := H0.out he
            rw [List.drop_length, chkAll] at h2
            rw [← h2, he]
          · exact H1.out he⟩
        clear hi hlt
        go_wp2
        refine bodyPost_end (v := .tuple #[]) (by first | rfl | (simp [results]; done) | (simp [results]; rfl)) rfl ?_
        rw [HE.out]
        exact ⟨_, rfl, NR.out, QR.out, BR.out⟩
      have e1 : ((i : Int) < (t.f2.length : Int)) = True := eq_true (by omega)
      have e2 : (i < t.f2.length) = True := eq_true hlt
      have e3 : decide ((i : Int) < (t.f2.length : Int)) = true := decide_eq_true (by omega)
      have e4 : (0 ≤ (i : Int)) = True := eq_true (by omega)
      by_cases he : e = 0
      rotate_left
      · have HE := Aside0.mk (H1.out he)
        have z2 : (e == 0) = false := by simpa using he
        have z1 : (e = 0) = False := eq_false he
        clear hi hlt he
        go_wp2
        refine bodyPost_end (v := .tuple #[]) (by first | rfl | (simp [results]; done) | (simp [results]; rfl)) rfl ?_
        rw [HE.out]
        exact ⟨_, rfl, NR.out, QR.out, BR.out⟩
      subst he
      obtain ⟨hm3, h4, hd1⟩ := H0.out rfl
      obtain ⟨ad, A2, c2, hA, hx0, hx1, hx2, hc2, hC2⟩ := at_T29 HC.out (i : Int) (by omega) (by omega)
      obtain ⟨x, hx⟩ : ∃ x, x = rd_T29 t.f2 (i : Int) := ⟨_, rfl⟩
      rw [← hx] at hx0 hx1 hx2 hc2 hC2
      rw [Int.toNat_natCast] at hx0 hx1 hx2
      replace hx0 := pw_cell_below BR.out hx0
      replace hx1 := pw_cell_below BR.out hx1
      replace hx2 := pw_cell_below BR.out hx2
      have XC := Aside0.mk (And.intro hc2 hC2)
      have MM := Aside0.mk (And.intro HM.out.1 hm3)
      have hdr : t.f2.drop i = x :: t.f2.drop (i + 1) := by
        rw [List.drop_eq_getElem_cons hlt, hx]
        unfold rd_T29
        rw [Int.toNat_natCast, List.getD_eq_getElem?_getD, List.getElem?_eq_getElem hlt]
        rfl
      rw [hdr, chkAll] at h4
      have hrng := chk_range (d - 1) x m HM.out.1 hm3
      obtain ⟨⟨r1, r2⟩, hr⟩ : ∃ r, r = chk (d - 1) x m := ⟨_, rfl⟩
      rw [← hr] at h4 hrng
      have RR := Aside0.mk hr.symm
      have W3 := Aside0.mk (show wrap64 ((i : Int) + 1) = ((i + 1 : Nat) : Int) from (by have := HC.out.2.1; unfold wrap64; omega))
      have W2 := Aside0.mk (show wrap64 (deep + 1) = deep + 1 by have := DD0.out; unfold wrap64; omega)
      have DD := Aside0.mk (show deep + 1 + ((d - 1 : Nat) : Int) = 121 ∧ 0 ≤ deep + 1 by have := DD0.out; omega)
      have IH : Aside0 (Wk (d - 1)) := ⟨IH0.out (d - 1) (by omega)⟩
      subst hA
      have HI := Aside0.mk hlt
      have HN1 : Aside0 (r2 = 0 → r1 ≤ 3000 ∧ chkAll (chk (d - 1)) (t.f2.drop (i + 1)) r1 = R ∧ 1 ≤ d) := ⟨fun hz => ⟨hrng.2.2 hz, by rw [if_neg (by simpa using hz)] at h4; exact h4, hd1⟩⟩
      have HN2 : Aside0 (r2 ≠ 0 → R = (r1, r2)) := ⟨fun hz => by rw [if_pos hz] at h4; exact h4.symm⟩
      have HN3 := Aside0.mk (And.intro hrng.1 hrng.2.1)
      clear h4 hrng hr hdr hx hc2 hC2 hlt hi hm3 hd1
      go_wp2_with (first | (go_at_call 54; rw [W2.out]; refine (IH.out (t := x) NR.out BR.out HG.out XC.out.1 XC.out.2 DD.out.1 DD.out.2 MM.out.1 MM.out.2).mono ?_; rintro e_ w10 ⟨v_, rfl, hN10, hK10, hB10⟩; rw [RR.out] at hN10; have N10 := Aside0.mk hN10; have Q10 := Aside0.mk (KeepBut.trans QR.out hK10 (.inl rfl)); have B10 := Aside0.mk hB10; have K10 := Aside0.mk (KeepBut.blk hK10 KR.out NE.out (by simp)); clear hN10 hK10 hB10 ck0 ck2 cn1))
      go_roundw
      case measure => exact meas HI.out W3.out
      case rel => exact ⟨i + 1, r1, r2, HI.out, by rw [W3.out], HN3, HN1, HN2, N10, Q10, B10, K10⟩
  have g3_ : (3000 < n + 1) = False := eq_false h3
  have g4 : decide (3000 < n + 1) = false := decide_eq_false h3
  by_cases h4 : 120 < deep
  · have g5 : (120 < deep) = True := eq_true h4
    have g6 : decide (120 < deep) = true := decide_eq_true h4
    have EQ : Aside0 (R = (n + 1, 5)) := ⟨by rw [hR]; obtain rfl : d = 0 := (by omega); rfl⟩
    clear hN hB hg hc hC hd hd0 hn0 hn hR h3 h4
    go_enter Tryd.func54, Tryd.ntmps54
    go_wp2_with (first | ((with_reducible refine gate_dst (N := 4) rfl ?_); refine box_event ?hg (N := 4) ?hd (cs := #[.int .i64 t.f0, .int .i64 t.f1, .slice A t.f2.length c]) (t := 29) ?hr ?_; (case hd => rfl); (case hg => rfl); (case hr => first | (go_simp; done) | (go_simp; rfl)); intro g3 hg3 w3 hbox hb3; have G3 := Aside0.mk hg3; have K3 := Aside0.mk hbox; have N3 := Aside0.mk (blk_below HN.out hb3); have B3 := Aside0.mk (HB.out.trans (hb3.mono HB.out.size)); have Q3 : Aside0 (KeepBut w w3 gn none) := ⟨KeepBut.of_below hb3 gn none⟩; clear hg3 hbox hb3 c0 f0 c1 f1; have c0 : w3.cell? ⟨gn, 0, none⟩ = some (.int .i64 n) := (blk_cell N3.out 0).trans rfl; have f0 := blk_frozen N3.out 0; have c1 : w3.cell? ⟨gn, 1, none⟩ = some (.int .i64 0) := (blk_cell N3.out 1).trans rfl; have f1 := blk_frozen N3.out 1) | (rw [W1.out]))
    have NE : Aside0 (g3 ≠ gn) := ⟨by have h1 := blk_lt HN.out; have h2 := G3.out; omega⟩
    go_loopw [6] (fun v6 w_ => ∃ (i : Nat) (m e : Int), i ≤ t.f2.length ∧ v6 = .int .i64 i ∧ Aside0 (0 ≤ m ∧ m ≤ 3001) ∧ Aside0 (e = 0 → m ≤ 3000 ∧ chkAll (chk (d - 1)) (t.f2.drop i) m = R ∧ 1 ≤ d) ∧ Aside0 (e ≠ 0 → R = (m, e)) ∧ Aside0 (NC2 w_ gn m e) ∧ Aside0 (KeepBut w w_ gn none) ∧ Aside0 (Below w0.heap.size w0 w_) ∧ Aside0 (w_.heap[g3]? = some (.cells #[.int .i64 t.f0, .int .i64 t.f1, .slice A t.f2.length c] 29 (0, 0)))) (fun v6 _ => t.f2.length - (intOf v6).toNat)
    case atStart => exact ⟨0, n + 1, 5, Nat.zero_le _, rfl, M0, ⟨fun h => absurd h (by decide)⟩, ⟨fun _ => EQ.out⟩, ⟨by first | exact blk_put (blk_put N3.out 0 _ rfl) 1 _ rfl⟩, ⟨KeepBut.set_ (KeepBut.set_ Q3.out 0 _) 1 _⟩, ⟨below_set (below_set B3.out HG.out) HG.out⟩, ⟨blk_far (blk_far K3.out NE.out _) NE.out _⟩⟩
    case round =>
      obtain ⟨i, m, e, hi, rfl, HM, H0, H1, NR, QR, BR, KR⟩ := hrel
      have ck0 : wr.cell? ⟨g3, 0, none⟩ = some (.int .i64 t.f0) := (blk_cell KR.out 0).trans rfl
      have ck2 : wr.cell? ⟨g3, 2, none⟩ = some (.slice A t.f2.length c) := (blk_cell KR.out 2).trans rfl
      have cn1 : wr.cell? ⟨gn, 1, none⟩ = some (.int .i64 e) := (blk_cell NR.out 1).trans rfl
      by_cases hlt : i < t.f2.length
      rotate_left
      · obtain rfl : i = t.f2.length := by omega
        have e1 : ((t.f2.length : Int) < (t.f2.length : Int)) = False := eq_false (by omega)
        have HE : Aside0 (R = (m, e)) := ⟨by
          by_cases he : e = 0
          · obtain ⟨_, h2, _⟩ := H0.out he
            rw [List.drop_length, chkAll] at h2
            rw [← h2, he]
          · exact H1.out he⟩
        clear hi hlt
        go_wp2
        refine bodyPost_end (v := .tuple #[]) (by first | rfl | (simp [results]; done) | (simp [results]; rfl)) rfl ?_
        rw [HE.out]
        exact ⟨_, rfl, NR.out, QR.out, BR.out⟩
      have e1 : ((i : Int) < (t.f2.length : Int)) = True := eq_true (by omega)
      have e2 : (i < t.f2.length) = True := eq_true hlt
      have e3 : decide ((i : Int) < (t.f2.length : Int)) = true := decide_eq_true (by omega)
      have e4 : (0 ≤ (i : Int)) = True := eq_true (by omega)
      by_cases he : e = 0
      rotate_left
      · have HE := Aside0.mk (H1.out he)
        have z2 : (e == 0) = false := by simpa using he
        have z1 : (e = 0) = False := eq_false he
        clear hi hlt he
        go_wp2
        refine bodyPost_end (v := .tuple #[]) (by first | rfl | (simp [results]; done) | (simp [results]; rfl)) rfl ?_
        rw [HE.out]
        exact ⟨_, rfl, NR.out, QR.out, BR.out⟩
      subst he
      obtain ⟨hm3, h4, hd1⟩ := H0.out rfl
      obtain ⟨ad, A2, c2, hA, hx0, hx1, hx2, hc2, hC2⟩ := at_T29 HC.out (i : Int) (by omega) (by omega)
      obtain ⟨x, hx⟩ : ∃ x, x = rd_T29 t.f2 (i : Int) := ⟨_, rfl⟩
      rw [← hx] at hx0 hx1 hx2 hc2 hC2
      rw [Int.toNat_natCast] at hx0 hx1 hx2
      replace hx0 := pw_cell_below BR.out hx0
      replace hx1 := pw_cell_below BR.out hx1
      replace hx2 := pw_cell_below BR.out hx2
      have XC := Aside0.mk (And.intro hc2 hC2)
      have MM := Aside0.mk (And.intro HM.out.1 hm3)
      have hdr : t.f2.drop i = x :: t.f2.drop (i + 1) := by
        rw [List.drop_eq_getElem_cons hlt, hx]
        unfold rd_T29
        rw [Int.toNat_natCast, List.getD_eq_getElem?_getD, List.getElem?_eq_getElem hlt]
        rfl
      rw [hdr, chkAll] at h4
      have hrng := chk_range (d - 1) x m HM.out.1 hm3
      obtain ⟨⟨r1, r2⟩, hr⟩ : ∃ r, r = chk (d - 1) x m := ⟨_, rfl⟩
      rw [← hr] at h4 hrng
      have RR := Aside0.mk hr.symm
      have W3 := Aside0.mk (show wrap64 ((i : Int) + 1) = ((i + 1 : Nat) : Int) from (by have := HC.out.2.1; unfold wrap64; omega))
      have W2 := Aside0.mk (show wrap64 (deep + 1) = deep + 1 by have := DD0.out; unfold wrap64; omega)
      have DD := Aside0.mk (show deep + 1 + ((d - 1 : Nat) : Int) = 121 ∧ 0 ≤ deep + 1 by have := DD0.out; omega)
      have IH : Aside0 (Wk (d - 1)) := ⟨IH0.out (d - 1) (by omega)⟩
      subst hA
      have HI := Aside0.mk hlt
      have HN1 : Aside0 (r2 = 0 → r1 ≤ 3000 ∧ chkAll (chk (d - 1)) (t.f2.drop (i + 1)) r1 = R ∧ 1 ≤ d) := ⟨fun hz => ⟨hrng.2.2 hz, by rw [if_neg (by simpa using hz)] at h4; exact h4, hd1⟩⟩
      have HN2 : Aside0 (r2 ≠ 0 → R = (r1, r2)) := ⟨fun hz => by rw [if_pos hz] at h4; exact h4.symm⟩
      have HN3 := Aside0.mk (And.intro hrng.1 hrng.2.1)
      clear h4 hrng hr hdr hx hc2 hC2 hlt hi hm3 hd1
      go_wp2_with (first | (go_at_call 54; rw [W2.out]; refine (IH.out (t := x) NR.out BR.out HG.out XC.out.1 XC.out.2 DD.out.1 DD.out.2 MM.out.1 MM.out.2).mono ?_; rintro e_ w10 ⟨v_, rfl, hN10, hK10, hB10⟩; rw [RR.out] at hN10; have N10 := Aside0.mk hN10; have Q10 := Aside0.mk (KeepBut.trans QR.out hK10 (.inl rfl)); have B10 := Aside0.mk hB10; have K10 := Aside0.mk (KeepBut.blk hK10 KR.out NE.out (by simp)); clear hN10 hK10 hB10 ck0 ck2 cn1))
      go_roundw
      case measure => exact meas HI.out W3.out
      case rel => exact ⟨i + 1, r1, r2, HI.out, by rw [W3.out], HN3, HN1, HN2, N10, Q10, B10, K10⟩
  have g5 : (120 < deep) = False := eq_false h4
  have g6 : decide (120 < deep) = false := decide_eq_false h4
  obtain ⟨d1, hdd⟩ : ∃ d1, d = d1 + 1 := ⟨d - 1, by omega⟩
  have DQ := Aside0.mk hdd
  by_cases hk : kidsOf t.f0 = (t.f2.length : Int)
  rotate_left
  · have q1 : (kidsOf t.f0 != (t.f2.length : Int)) = true := by simpa using hk
    have EQ : Aside0 (R = (n + 1, 1)) := ⟨by rw [hR, hdd, chk, if_neg h3, if_pos (Or.inl hk)]⟩
    have Q1 := Aside0.mk q1
    clear hN hB hg hc hC hd hd0 hn0 hn hR h3 h4 hk q1 hdd
    go_enter Tryd.func54, Tryd.ntmps54
    go_wp2_with (first | ((with_reducible refine gate_dst (N := 4) rfl ?_); refine box_event ?hg (N := 4) ?hd (cs := #[.int .i64 t.f0, .int .i64 t.f1, .slice A t.f2.length c]) (t := 29) ?hr ?_; (case hd => rfl); (case hg => rfl); (case hr => first | (go_simp; done) | (go_simp; rfl)); intro g3 hg3 w3 hbox hb3; have G3 := Aside0.mk hg3; have K3 := Aside0.mk hbox; have N3 := Aside0.mk (blk_below HN.out hb3); have B3 := Aside0.mk (HB.out.trans (hb3.mono HB.out.size)); have Q3 : Aside0 (KeepBut w w3 gn none) := ⟨KeepBut.of_below hb3 gn none⟩; clear hg3 hbox hb3 c0 f0 c1 f1; have c0 : w3.cell? ⟨gn, 0, none⟩ = some (.int .i64 n) := (blk_cell N3.out 0).trans rfl; have f0 := blk_frozen N3.out 0; have c1 : w3.cell? ⟨gn, 1, none⟩ = some (.int .i64 0) := (blk_cell N3.out 1).trans rfl; have f1 := blk_frozen N3.out 1) | (rw [W1.out]))
    generalize hw4 : (World.setCell w3 ⟨gn, 0, none⟩ _) = w4
    have N4 : Aside0 (NC2 w4 gn (n + 1) 0) := ⟨by rw [← hw4]; exact blk_put N3.out 0 _ rfl⟩
    have NE : Aside0 (g3 ≠ gn) := ⟨by have h1 := blk_lt HN.out; have h2 := G3.out; omega⟩
    have K4 : Aside0 (w4.heap[g3]? = some (.cells #[.int .i64 t.f0, .int .i64 t.f1, .slice A t.f2.length c] 29 (0, 0))) := ⟨by rw [← hw4]; exact blk_far K3.out NE.out _⟩
    have Q4 : Aside0 (KeepBut w w4 gn none) := ⟨by rw [← hw4]; exact KeepBut.set_ Q3.out 0 _⟩
    have B4 : Aside0 (Below w0.heap.size w0 w4) := ⟨by rw [← hw4]; exact below_set B3.out HG.out⟩
    clear hw4 N3 K3 Q3 B3 c0 f0 c1 f1
    refine walk_r4b (by rfl) 0 t.f0 t.f1 A c t.f2 g3 rfl K4.out 6 (kidsOf t.f0) (arity_any _) (numOk t.f0 t.f1) (number_any _ _) Q1.out ?_
    rintro w5 hb
    have N5 := Aside0.mk (blk_below N4.out hb)
    have K5 := Aside0.mk (blk_below K4.out hb)
    have Q5 := Aside0.mk (keep_below' Q4.out hb)
    have B5 := Aside0.mk (B4.out.trans (hb.mono B4.out.size))
    clear N4 K4 Q4 B4 hb
    have c1 : w5.cell? ⟨gn, 1, none⟩ = some (.int .i64 0) := (blk_cell N5.out 1).trans rfl
    have f1 := blk_frozen N5.out 1
    (try simp only [Act.put, List.setIfInBounds_toArray, List.set_cons_zero, List.set_cons_succ])
    go_wp2
    go_loopw [6] (fun v6 w_ => ∃ (i : Nat) (m e : Int), i ≤ t.f2.length ∧ v6 = .int .i64 i ∧ Aside0 (0 ≤ m ∧ m ≤ 3001) ∧ Aside0 (e = 0 → m ≤ 3000 ∧ chkAll (chk (d - 1)) (t.f2.drop i) m = R ∧ 1 ≤ d) ∧ Aside0 (e ≠ 0 → R = (m, e)) ∧ Aside0 (NC2 w_ gn m e) ∧ Aside0 (KeepBut w w_ gn none) ∧ Aside0 (Below w0.heap.size w0 w_) ∧ Aside0 (w_.heap[g3]? = some (.cells #[.int .i64 t.f0, .int .i64 t.f1, .slice A t.f2.length c] 29 (0, 0)))) (fun v6 _ => t.f2.length - (intOf v6).toNat)
    case atStart => exact ⟨0, n + 1, 1, Nat.zero_le _, rfl, M0, ⟨fun h => absurd h (by decide)⟩, ⟨fun _ => EQ.out⟩, ⟨blk_put N5.out 1 _ rfl⟩, ⟨KeepBut.set_ Q5.out 1 _⟩, ⟨below_set B5.out HG.out⟩, ⟨blk_far K5.out NE.out _⟩⟩
    case round =>
      obtain ⟨i, m, e, hi, rfl, HM, H0, H1, NR, QR, BR, KR⟩ := hrel
      have ck0 : wr.cell? ⟨g3, 0, none⟩ = some (.int .i64 t.f0) := (blk_cell KR.out 0).trans rfl
      have ck2 : wr.cell? ⟨g3, 2, none⟩ = some (.slice A t.f2.length c) := (blk_cell KR.out 2).trans rfl
      have cn1 : wr.cell? ⟨gn, 1, none⟩ = some (.int .i64 e) := (blk_cell NR.out 1).trans rfl
      by_cases hlt : i < t.f2.length
      rotate_left
      · obtain rfl : i = t.f2.length := by omega
        have e1 : ((t.f2.length : Int) < (t.f2.length : Int)) = False := eq_false (by omega)
        have HE : Aside0 (R = (m, e)) := ⟨by
          by_cases he : e = 0
          · obtain ⟨_, h2, _⟩ := H0.out he
            rw [List.drop_length, chkAll] at h2
            rw [← h2, he]
          · exact H1.out he⟩
        clear hi hlt
        go_wp2
        refine bodyPost_end (v := .tuple #[]) (by first | rfl | (simp [results]; done) | (simp [results]; rfl)) rfl ?_
        rw [HE.out]
        exact ⟨_, rfl, NR.out, QR.out, BR.out⟩
      have e1 : ((i : Int) < (t.f2.length : Int)) = True := eq_true (by omega)
      have e2 : (i < t.f2.length) = True := eq_true hlt
      have e3 : decide ((i : Int) < (t.f2.length : Int)) = true := decide_eq_true (by omega)
      have e4 : (0 ≤ (i : Int)) = True := eq_true (by omega)
      by_cases he : e = 0
      rotate_left
      · have HE := Aside0.mk (H1.out he)
        have z2 : (e == 0) = false := by simpa using he
        have z1 : (e = 0) = False := eq_false he
        clear hi hlt he
        go_wp2
        refine bodyPost_end (v := .tuple #[]) (by first | rfl | (simp [results]; done) | (simp [results]; rfl)) rfl ?_
        rw [HE.out]
        exact ⟨_, rfl, NR.out, QR.out, BR.out⟩
      subst he
      obtain ⟨hm3, h4, hd1⟩ := H0.out rfl
      obtain ⟨ad, A2, c2, hA, hx0, hx1, hx2, hc2, hC2⟩ := at_T29 HC.out (i : Int) (by omega) (by omega)
      obtain ⟨x, hx⟩ : ∃ x, x = rd_T29 t.f2 (i : Int) := ⟨_, rfl⟩
      rw [← hx] at hx0 hx1 hx2 hc2 hC2
      rw [Int.toNat_natCast] at hx0 hx1 hx2
      replace hx0 := pw_cell_below BR.out hx0
      replace hx1 := pw_cell_below BR.out hx1
      replace hx2 := pw_cell_below BR.out hx2
      have XC := Aside0.mk (And.intro hc2 hC2)
      have MM := Aside0.mk (And.intro HM.out.1 hm3)
      have hdr : t.f2.drop i = x :: t.f2.drop (i + 1) := by
        rw [List.drop_eq_getElem_cons hlt, hx]
        unfold rd_T29
        rw [Int.toNat_natCast, List.getD_eq_getElem?_getD, List.getElem?_eq_getElem hlt]
        rfl
      rw [hdr, chkAll] at h4
      have hrng := chk_range (d - 1) x m HM.out.1 hm3
      obtain ⟨⟨r1, r2⟩, hr⟩ : ∃ r, r = chk (d - 1) x m := ⟨_, rfl⟩
      rw [← hr] at h4 hrng
      have RR := Aside0.mk hr.symm
      have W3 := Aside0.mk (show wrap64 ((i : Int) + 1) = ((i + 1 : Nat) : Int) from (by have := HC.out.2.1; unfold wrap64; omega))
      have W2 := Aside0.mk (show wrap64 (deep + 1) = deep + 1 by have := DD0.out; unfold wrap64; omega)
      have DD := Aside0.mk (show deep + 1 + ((d - 1 : Nat) : Int) = 121 ∧ 0 ≤ deep + 1 by have := DD0.out; omega)
      have IH : Aside0 (Wk (d - 1)) := ⟨IH0.out (d - 1) (by omega)⟩
      subst hA
      have HI := Aside0.mk hlt
      have HN1 : Aside0 (r2 = 0 → r1 ≤ 3000 ∧ chkAll (chk (d - 1)) (t.f2.drop (i + 1)) r1 = R ∧ 1 ≤ d) := ⟨fun hz => ⟨hrng.2.2 hz, by rw [if_neg (by simpa using hz)] at h4; exact h4, hd1⟩⟩
      have HN2 : Aside0 (r2 ≠ 0 → R = (r1, r2)) := ⟨fun hz => by rw [if_pos hz] at h4; exact h4.symm⟩
      have HN3 := Aside0.mk (And.intro hrng.1 hrng.2.1)
      clear h4 hrng hr hdr hx hc2 hC2 hlt hi hm3 hd1
      go_wp2_with (first | (go_at_call 54; rw [W2.out]; refine (IH.out (t := x) NR.out BR.out HG.out XC.out.1 XC.out.2 DD.out.1 DD.out.2 MM.out.1 MM.out.2).mono ?_; rintro e_ w10 ⟨v_, rfl, hN10, hK10, hB10⟩; rw [RR.out] at hN10; have N10 := Aside0.mk hN10; have Q10 := Aside0.mk (KeepBut.trans QR.out hK10 (.inl rfl)); have B10 := Aside0.mk hB10; have K10 := Aside0.mk (KeepBut.blk hK10 KR.out NE.out (by simp)); clear hN10 hK10 hB10 ck0 ck2 cn1))
      go_roundw
      case measure => exact meas HI.out W3.out
      case rel => exact ⟨i + 1, r1, r2, HI.out, by rw [W3.out], HN3, HN1, HN2, N10, Q10, B10, K10⟩
  have q1 : (kidsOf t.f0 != (t.f2.length : Int)) = false := by rw [hk]; simp
  have Q1 := Aside0.mk q1
  cases hm : numOk t.f0 t.f1 with
  | false =>
    have EQ : Aside0 (R = (n + 1, 1)) := ⟨by rw [hR, hdd, chk, if_neg h3, if_pos (Or.inr hm)]⟩
    have HMM := Aside0.mk hm
    clear hN hB hg hc hC hd hd0 hn0 hn hR h3 h4 hk q1 hdd hm
    go_enter Tryd.func54, Tryd.ntmps54
    go_wp2_with (first | ((with_reducible refine gate_dst (N := 4) rfl ?_); refine box_event ?hg (N := 4) ?hd (cs := #[.int .i64 t.f0, .int .i64 t.f1, .slice A t.f2.length c]) (t := 29) ?hr ?_; (case hd => rfl); (case hg => rfl); (case hr => first | (go_simp; done) | (go_simp; rfl)); intro g3 hg3 w3 hbox hb3; have G3 := Aside0.mk hg3; have K3 := Aside0.mk hbox; have N3 := Aside0.mk (blk_below HN.out hb3); have B3 := Aside0.mk (HB.out.trans (hb3.mono HB.out.size)); have Q3 : Aside0 (KeepBut w w3 gn none) := ⟨KeepBut.of_below hb3 gn none⟩; clear hg3 hbox hb3 c0 f0 c1 f1; have c0 : w3.cell? ⟨gn, 0, none⟩ = some (.int .i64 n) := (blk_cell N3.out 0).trans rfl; have f0 := blk_frozen N3.out 0; have c1 : w3.cell? ⟨gn, 1, none⟩ = some (.int .i64 0) := (blk_cell N3.out 1).trans rfl; have f1 := blk_frozen N3.out 1) | (rw [W1.out]))
    generalize hw4 : (World.setCell w3 ⟨gn, 0, none⟩ _) = w4
    have N4 : Aside0 (NC2 w4 gn (n + 1) 0) := ⟨by rw [← hw4]; exact blk_put N3.out 0 _ rfl⟩
    have NE : Aside0 (g3 ≠ gn) := ⟨by have h1 := blk_lt HN.out; have h2 := G3.out; omega⟩
    have K4 : Aside0 (w4.heap[g3]? = some (.cells #[.int .i64 t.f0, .int .i64 t.f1, .slice A t.f2.length c] 29 (0, 0))) := ⟨by rw [← hw4]; exact blk_far K3.out NE.out _⟩
    have Q4 : Aside0 (KeepBut w w4 gn none) := ⟨by rw [← hw4]; exact KeepBut.set_ Q3.out 0 _⟩
    have B4 : Aside0 (Below w0.heap.size w0 w4) := ⟨by rw [← hw4]; exact below_set B3.out HG.out⟩
    clear hw4 N3 K3 Q3 B3 c0 f0 c1 f1
    refine walk_r4gf (by rfl) 0 t.f0 t.f1 A c t.f2 g3 rfl K4.out 6 (kidsOf t.f0) (arity_any _)  (by rw [number_any, HMM.out]) Q1.out ?_
    rintro w5 hb
    have N5 := Aside0.mk (blk_below N4.out hb)
    have K5 := Aside0.mk (blk_below K4.out hb)
    have Q5 := Aside0.mk (keep_below' Q4.out hb)
    have B5 := Aside0.mk (B4.out.trans (hb.mono B4.out.size))
    clear N4 K4 Q4 B4 hb
    have c1 : w5.cell? ⟨gn, 1, none⟩ = some (.int .i64 0) := (blk_cell N5.out 1).trans rfl
    have f1 := blk_frozen N5.out 1
    (try simp only [Act.put, List.setIfInBounds_toArray, List.set_cons_zero, List.set_cons_succ])
    go_wp2
    go_loopw [6] (fun v6 w_ => ∃ (i : Nat) (m e : Int), i ≤ t.f2.length ∧ v6 = .int .i64 i ∧ Aside0 (0 ≤ m ∧ m ≤ 3001) ∧ Aside0 (e = 0 → m ≤ 3000 ∧ chkAll (chk (d - 1)) (t.f2.drop i) m = R ∧ 1 ≤ d) ∧ Aside0 (e ≠ 0 → R = (m, e)) ∧ Aside0 (NC2 w_ gn m e) ∧ Aside0 (KeepBut w w_ gn none) ∧ Aside0 (Below w0.heap.size w0 w_) ∧ Aside0 (w_.heap[g3]? = some (.cells #[.int .i64 t.f0, .int .i64 t.f1, .slice A t.f2.length c] 29 (0, 0)))) (fun v6 _ => t.f2.length - (intOf v6).toNat)
    case atStart => exact ⟨0, n + 1, 1, Nat.zero_le _, rfl, M0, ⟨fun h => absurd h (by decide)⟩, ⟨fun _ => EQ.out⟩, ⟨blk_put N5.out 1 _ rfl⟩, ⟨KeepBut.set_ Q5.out 1 _⟩, ⟨below_set B5.out HG.out⟩, ⟨blk_far K5.out NE.out _⟩⟩
    case round =>
      obtain ⟨i, m, e, hi, rfl, HM, H0, H1, NR, QR, BR, KR⟩ := hrel
      have ck0 : wr.cell? ⟨g3, 0, none⟩ = some (.int .i64 t.f0) := (blk_cell KR.out 0).trans rfl
      have ck2 : wr.cell? ⟨g3, 2, none⟩ = some (.slice A t.f2.length c) := (blk_cell KR.out 2).trans rfl
      have cn1 : wr.cell? ⟨gn, 1, none⟩ = some (.int .i64 e) := (blk_cell NR.out 1).trans rfl
      by_cases hlt : i < t.f2.length
      rotate_left
      · obtain rfl : i = t.f2.length := by omega
        have e1 : ((t.f2.length : Int) < (t.f2.length : Int)) = False := eq_false (by omega)
        have HE : Aside0 (R = (m, e)) := ⟨by
          by_cases he : e = 0
          · obtain ⟨_, h2, _⟩ := H0.out he
            rw [List.drop_length, chkAll] at h2
            rw [← h2, he]
          · exact H1.out he⟩
        clear hi hlt
        go_wp2
        refine bodyPost_end (v := .tuple #[]) (by first | rfl | (simp [results]; done) | (simp [results]; rfl)) rfl ?_
        rw [HE.out]
        exact ⟨_, rfl, NR.out, QR.out, BR.out⟩
      have e1 : ((i : Int) < (t.f2.length : Int)) = True := eq_true (by omega)
      have e2 : (i < t.f2.length) = True := eq_true hlt
      have e3 : decide ((i : Int) < (t.f2.length : Int)) = true := decide_eq_true (by omega)
      have e4 : (0 ≤ (i : Int)) = True := eq_true (by omega)
      by_cases he : e = 0
      rotate_left
      · have HE := Aside0.mk (H1.out he)
        have z2 : (e == 0) = false := by simpa using he
        have z1 : (e = 0) = False := eq_false he
        clear hi hlt he
        go_wp2
        refine bodyPost_end (v := .tuple #[]) (by first | rfl | (simp [results]; done) | (simp [results]; rfl)) rfl ?_
        rw [HE.out]
        exact ⟨_, rfl, NR.out, QR.out, BR.out⟩
      subst he
      obtain ⟨hm3, h4, hd1⟩ := H0.out rfl
      obtain ⟨ad, A2, c2, hA, hx0, hx1, hx2, hc2, hC2⟩ := at_T29 HC.out (i : Int) (by omega) (by omega)
      obtain ⟨x, hx⟩ : ∃ x, x = rd_T29 t.f2 (i : Int) := ⟨_, rfl⟩
      rw [← hx] at hx0 hx1 hx2 hc2 hC2
      rw [Int.toNat_natCast] at hx0 hx1 hx2
      replace hx0 := pw_cell_below BR.out hx0
      replace hx1 := pw_cell_below BR.out hx1
      replace hx2 := pw_cell_below BR.out hx2
      have XC := Aside0.mk (And.intro hc2 hC2)
      have MM := Aside0.mk (And.intro HM.out.1 hm3)
      have hdr : t.f2.drop i = x :: t.f2.drop (i + 1) := by
        rw [List.drop_eq_getElem_cons hlt, hx]
        unfold rd_T29
        rw [Int.toNat_natCast, List.getD_eq_getElem?_getD, List.getElem?_eq_getElem hlt]
        rfl
      rw [hdr, chkAll] at h4
      have hrng := chk_range (d - 1) x m HM.out.1 hm3
      obtain ⟨⟨r1, r2⟩, hr⟩ : ∃ r, r = chk (d - 1) x m := ⟨_, rfl⟩
      rw [← hr] at h4 hrng
      have RR := Aside0.mk hr.symm
      have W3 := Aside0.mk (show wrap64 ((i : Int) + 1) = ((i + 1 : Nat) : Int) from (by have := HC.out.2.1; unfold wrap64; omega))
      have W2 := Aside0.mk (show wrap64 (deep + 1) = deep + 1 by have := DD0.out; unfold wrap64; omega)
      have DD := Aside0.mk (show deep + 1 + ((d - 1 : Nat) : Int) = 121 ∧ 0 ≤ deep + 1 by have := DD0.out; omega)
      have IH : Aside0 (Wk (d - 1)) := ⟨IH0.out (d - 1) (by omega)⟩
      subst hA
      have HI := Aside0.mk hlt
      have HN1 : Aside0 (r2 = 0 → r1 ≤ 3000 ∧ chkAll (chk (d - 1)) (t.f2.drop (i + 1)) r1 = R ∧ 1 ≤ d) := ⟨fun hz => ⟨hrng.2.2 hz, by rw [if_neg (by simpa using hz)] at h4; exact h4, hd1⟩⟩
      have HN2 : Aside0 (r2 ≠ 0 → R = (r1, r2)) := ⟨fun hz => by rw [if_pos hz] at h4; exact h4.symm⟩
      have HN3 := Aside0.mk (And.intro hrng.1 hrng.2.1)
      clear h4 hrng hr hdr hx hc2 hC2 hlt hi hm3 hd1
      go_wp2_with (first | (go_at_call 54; rw [W2.out]; refine (IH.out (t := x) NR.out BR.out HG.out XC.out.1 XC.out.2 DD.out.1 DD.out.2 MM.out.1 MM.out.2).mono ?_; rintro e_ w10 ⟨v_, rfl, hN10, hK10, hB10⟩; rw [RR.out] at hN10; have N10 := Aside0.mk hN10; have Q10 := Aside0.mk (KeepBut.trans QR.out hK10 (.inl rfl)); have B10 := Aside0.mk hB10; have K10 := Aside0.mk (KeepBut.blk hK10 KR.out NE.out (by simp)); clear hN10 hK10 hB10 ck0 ck2 cn1))
      go_roundw
      case measure => exact meas HI.out W3.out
      case rel => exact ⟨i + 1, r1, r2, HI.out, by rw [W3.out], HN3, HN1, HN2, N10, Q10, B10, K10⟩
  | true =>
    have EQ : Aside0 (R = chkAll (chk (d - 1)) t.f2 (n + 1)) := ⟨by rw [hR, hdd, chk, if_neg h3, if_neg (by rintro (h | h); exact h hk; rw [hm] at h; cases h)]; rfl⟩
    have HMM := Aside0.mk hm
    have M1 := Aside0.mk (show n + 1 ≤ 3000 by omega)
    have DQ1 := Aside0.mk (show 1 ≤ d by omega)
    clear hN hB hg hc hC hd hd0 hn0 hn hR h3 h4 hk q1 hdd hm
    go_enter Tryd.func54, Tryd.ntmps54
    go_wp2_with (first | ((with_reducible refine gate_dst (N := 4) rfl ?_); refine box_event ?hg (N := 4) ?hd (cs := #[.int .i64 t.f0, .int .i64 t.f1, .slice A t.f2.length c]) (t := 29) ?hr ?_; (case hd => rfl); (case hg => rfl); (case hr => first | (go_simp; done) | (go_simp; rfl)); intro g3 hg3 w3 hbox hb3; have G3 := Aside0.mk hg3; have K3 := Aside0.mk hbox; have N3 := Aside0.mk (blk_below HN.out hb3); have B3 := Aside0.mk (HB.out.trans (hb3.mono HB.out.size)); have Q3 : Aside0 (KeepBut w w3 gn none) := ⟨KeepBut.of_below hb3 gn none⟩; clear hg3 hbox hb3 c0 f0 c1 f1; have c0 : w3.cell? ⟨gn, 0, none⟩ = some (.int .i64 n) := (blk_cell N3.out 0).trans rfl; have f0 := blk_frozen N3.out 0; have c1 : w3.cell? ⟨gn, 1, none⟩ = some (.int .i64 0) := (blk_cell N3.out 1).trans rfl; have f1 := blk_frozen N3.out 1) | (rw [W1.out]))
    generalize hw4 : (World.setCell w3 ⟨gn, 0, none⟩ _) = w4
    have N4 : Aside0 (NC2 w4 gn (n + 1) 0) := ⟨by rw [← hw4]; exact blk_put N3.out 0 _ rfl⟩
    have NE : Aside0 (g3 ≠ gn) := ⟨by have h1 := blk_lt HN.out; have h2 := G3.out; omega⟩
    have K4 : Aside0 (w4.heap[g3]? = some (.cells #[.int .i64 t.f0, .int .i64 t.f1, .slice A t.f2.length c] 29 (0, 0))) := ⟨by rw [← hw4]; exact blk_far K3.out NE.out _⟩
    have Q4 : Aside0 (KeepBut w w4 gn none) := ⟨by rw [← hw4]; exact KeepBut.set_ Q3.out 0 _⟩
    have B4 : Aside0 (Below w0.heap.size w0 w4) := ⟨by rw [← hw4]; exact below_set B3.out HG.out⟩
    clear hw4 N3 K3 Q3 B3 c0 f0 c1 f1
    refine walk_r4gt (by rfl) 0 t.f0 t.f1 A c t.f2 g3 rfl K4.out 6 (kidsOf t.f0) (arity_any _)  (by rw [number_any, HMM.out]) Q1.out ?_
    rintro w5 hb
    have N5 := Aside0.mk (blk_below N4.out hb)
    have K5 := Aside0.mk (blk_below K4.out hb)
    have Q5 := Aside0.mk (keep_below' Q4.out hb)
    have B5 := Aside0.mk (B4.out.trans (hb.mono B4.out.size))
    clear N4 K4 Q4 B4 hb
    have c1 : w5.cell? ⟨gn, 1, none⟩ = some (.int .i64 0) := (blk_cell N5.out 1).trans rfl
    have f1 := blk_frozen N5.out 1
    (try simp only [Act.put, List.setIfInBounds_toArray, List.set_cons_zero, List.set_cons_succ])
    go_wp2
    go_loopw [6] (fun v6 w_ => ∃ (i : Nat) (m e : Int), i ≤ t.f2.length ∧ v6 = .int .i64 i ∧ Aside0 (0 ≤ m ∧ m ≤ 3001) ∧ Aside0 (e = 0 → m ≤ 3000 ∧ chkAll (chk (d - 1)) (t.f2.drop i) m = R ∧ 1 ≤ d) ∧ Aside0 (e ≠ 0 → R = (m, e)) ∧ Aside0 (NC2 w_ gn m e) ∧ Aside0 (KeepBut w w_ gn none) ∧ Aside0 (Below w0.heap.size w0 w_) ∧ Aside0 (w_.heap[g3]? = some (.cells #[.int .i64 t.f0, .int .i64 t.f1, .slice A t.f2.length c] 29 (0, 0)))) (fun v6 _ => t.f2.length - (intOf v6).toNat)
    case atStart => exact ⟨0, n + 1, 0, Nat.zero_le _, rfl, M0, ⟨fun _ => ⟨M1.out, EQ.out.symm, DQ1.out⟩⟩, ⟨fun h => absurd rfl h⟩, N5, Q5, B5, K5⟩
    case round =>
      obtain ⟨i, m, e, hi, rfl, HM, H0, H1, NR, QR, BR, KR⟩ := hrel
      have ck0 : wr.cell? ⟨g3, 0, none⟩ = some (.int .i64 t.f0) := (blk_cell KR.out 0).trans rfl
      have ck2 : wr.cell? ⟨g3, 2, none⟩ = some (.slice A t.f2.length c) := (blk_cell KR.out 2).trans rfl
      have cn1 : wr.cell? ⟨gn, 1, none⟩ = some (.int .i64 e) := (blk_cell NR.out 1).trans rfl
      by_cases hlt : i < t.f2.length
      rotate_left
      · obtain rfl : i = t.f2.length := by omega
        have e1 : ((t.f2.length : Int) < (t.f2.length : Int)) = False := eq_false (by omega)
        have HE : Aside0 (R = (m, e)) := ⟨by
          by_cases he : e = 0
          · obtain ⟨_, h2, _⟩ := H0.out he
            rw [List.drop_length, chkAll] at h2
            rw [← h2, he]
          · exact H1.out he⟩
        clear hi hlt
        go_wp2
        refine bodyPost_end (v := .tuple #[]) (by first | rfl | (simp [results]; done) | (simp [results]; rfl)) rfl ?_
        rw [HE.out]
        exact ⟨_, rfl, NR.out, QR.out, BR.out⟩
      have e1 : ((i : Int) < (t.f2.length : Int)) = True := eq_true (by omega)
      have e2 : (i < t.f2.length) = True := eq_true hlt
      have e3 : decide ((i : Int) < (t.f2.length : Int)) = true := decide_eq_true (by omega)
      have e4 : (0 ≤ (i : Int)) = True := eq_true (by omega)
      by_cases he : e = 0
      rotate_left
      · have HE := Aside0.mk (H1.out he)
        have z2 : (e == 0) = false := by simpa using he
        have z1 : (e = 0) = False := eq_false he
        clear hi hlt he
        go_wp2
        refine bodyPost_end (v := .tuple #[]) (by first | rfl | (simp [results]; done) | (simp [results]; rfl)) rfl ?_
        rw [HE.out]
        exact ⟨_, rfl, NR.out, QR.out, BR.out⟩
      subst he
      obtain ⟨hm3, h4, hd1⟩ := H0.out rfl
      obtain ⟨ad, A2, c2, hA, hx0, hx1, hx2, hc2, hC2⟩ := at_T29 HC.out (i : Int) (by omega) (by omega)
      obtain ⟨x, hx⟩ : ∃ x, x = rd_T29 t.f2 (i : Int) := ⟨_, rfl⟩
      rw [← hx] at hx0 hx1 hx2 hc2 hC2
      rw [Int.toNat_natCast] at hx0 hx1 hx2
      replace hx0 := pw_cell_below BR.out hx0
      replace hx1 := pw_cell_below BR.out hx1
      replace hx2 := pw_cell_below BR.out hx2
      have XC := Aside0.mk (And.intro hc2 hC2)
      have MM := Aside0.mk (And.intro HM.out.1 hm3)
      have hdr : t.f2.drop i = x :: t.f2.drop (i + 1) := by
        rw [List.drop_eq_getElem_cons hlt, hx]
        unfold rd_T29
        rw [Int.toNat_natCast, List.getD_eq_getElem?_getD, List.getElem?_eq_getElem hlt]
        rfl
      rw [hdr, chkAll] at h4
      have hrng := chk_range (d - 1) x m HM.out.1 hm3
      obtain ⟨⟨r1, r2⟩, hr⟩ : ∃ r, r = chk (d - 1) x m := ⟨_, rfl⟩
      rw [← hr] at h4 hrng
      have RR := Aside0.mk hr.symm
      have W3 := Aside0.mk (show wrap64 ((i : Int) + 1) = ((i + 1 : Nat) : Int) from (by have := HC.out.2.1; unfold wrap64; omega))
      have W2 := Aside0.mk (show wrap64 (deep + 1) = deep + 1 by have := DD0.out; unfold wrap64; omega)
      have DD := Aside0.mk (show deep + 1 + ((d - 1 : Nat) : Int) = 121 ∧ 0 ≤ deep + 1 by have := DD0.out; omega)
      have IH : Aside0 (Wk (d - 1)) := ⟨IH0.out (d - 1) (by omega)⟩
      subst hA
      have HI := Aside0.mk hlt
      have HN1 : Aside0 (r2 = 0 → r1 ≤ 3000 ∧ chkAll (chk (d - 1)) (t.f2.drop (i + 1)) r1 = R ∧ 1 ≤ d) := ⟨fun hz => ⟨hrng.2.2 hz, by rw [if_neg (by simpa using hz)] at h4; exact h4, hd1⟩⟩
      have HN2 : Aside0 (r2 ≠ 0 → R = (r1, r2)) := ⟨fun hz => by rw [if_pos hz] at h4; exact h4.symm⟩
      have HN3 := Aside0.mk (And.intro hrng.1 hrng.2.1)
      clear h4 hrng hr hdr hx hc2 hC2 hlt hi hm3 hd1
      go_wp2_with (first | (go_at_call 54; rw [W2.out]; refine (IH.out (t := x) NR.out BR.out HG.out XC.out.1 XC.out.2 DD.out.1 DD.out.2 MM.out.1 MM.out.2).mono ?_; rintro e_ w10 ⟨v_, rfl, hN10, hK10, hB10⟩; rw [RR.out] at hN10; have N10 := Aside0.mk hN10; have Q10 := Aside0.mk (KeepBut.trans QR.out hK10 (.inl rfl)); have B10 := Aside0.mk hB10; have K10 := Aside0.mk (KeepBut.blk hK10 KR.out NE.out (by simp)); clear hN10 hK10 hB10 ck0 ck2 cn1))
      go_roundw
      case measure => exact meas HI.out W3.out
      case rel => exact ⟨i + 1, r1, r2, HI.out, by rw [W3.out], HN3, HN1, HN2, N10, Q10, B10, K10⟩
end Go.Proofs.YtcchfblekaaalaaDoor.P
/- The reference's Check: what it answers. -/
namespace Go.Proofs.YtcchfblekaaalaaDoor.P
open Go.Proofs.YtcchfblekaaalaaDoor.Run Go.RowKit Go.Proofs.YtcchfblekaaalaaDoorW.PrintWords Go.Proofs.YtcchfblekaaalaaDoorW.PrintLast Go.Proofs.YtcchfblekaaalaaDoorW.PrintMore
set_option linter.unusedVariables false
theorem wk_all : ∀ d, Wk d
  | 0 => wk_step 0 (fun d1 h => by cases h)
  | d + 1 => wk_step (d + 1) (fun d1 h => Nat.succ.inj h ▸ wk_all d)
set_option maxHeartbeats 8000000 in
set_option maxRecDepth 100000 in
theorem check30 {w : World} {t : S29} {A : Option Addr} {c d : Nat} (hd : Aside0 (d = 120)) (hc : t.f2.length ≤ c) (hC : Kd.C k29 w A t.f2.length t.f2) :
    Calls Tryd.prog 30 #[.agg #[.int .i64 t.f0, .int .i64 t.f1, .slice A t.f2.length c]] w fun en w' => en = .returned (.int .i64 (chk d t 0).2) ∧ Below w.heap.size w w' := by
  have HC := Aside0.mk hC
  have HCc := Aside0.mk hc
  have DD : Aside0 ((1 : Int) + (d : Int) = 121) := ⟨by have := hd.out; omega⟩
  clear hc hC
  go_enter Tryd.func30, Tryd.ntmps30
  go_wp2_with (first | ((with_reducible refine gate_dst (N := 1) rfl ?_); refine box_event ?hg (N := 1) ?hd (cs := #[.int .i64 t.f0, .int .i64 t.f1, .slice A t.f2.length c]) (t := 29) ?hr ?_; (case hd => rfl); (case hg => rfl); (case hr => first | (go_simp; done) | (go_simp; rfl)); intro g1 hg1 w1 hbox hb1; have K1 := Aside0.mk hbox; have B1 := Aside0.mk hb1; clear hg1 hbox hb1) | ((with_reducible refine gate_dst (N := 5) rfl ?_); refine box_event ?hg (N := 5) ?hd (cs := #[.int .i64 0, .int .i64 0]) (t := 68) ?hr ?_; (case hd => rfl); (case hg => rfl); (case hr => first | (go_simp; done) | (go_simp; rfl)); intro g5 hg5 w5 hbox hb5; have N5 := Aside0.mk (show NC2 w5 g5 0 0 from hbox); have K5 := Aside0.mk (blk_below K1.out hb5); have B5 := Aside0.mk (below_step B1.out hb5); have G5 : Aside0 (w.heap.size ≤ g5) := ⟨by rw [hg5]; exact B1.out.size⟩; clear hg5 hbox hb5 K1 B1; have ck0 : w5.cell? ⟨g1, 0, none⟩ = some (.int .i64 t.f0) := (blk_cell K5.out 0).trans rfl; have ck1 : w5.cell? ⟨g1, 1, none⟩ = some (.int .i64 t.f1) := (blk_cell K5.out 1).trans rfl; have ck2 : w5.cell? ⟨g1, 2, none⟩ = some (.slice A t.f2.length c) := (blk_cell K5.out 2).trans rfl) | (go_at_call 54; refine (wk_all d (t := t) (w0 := w) N5.out B5.out G5.out HCc.out HC.out DD.out (by decide) (by decide) (by decide)).mono ?_; rintro e w6 ⟨v_, rfl, hN, hK, hB⟩; have N6 := Aside0.mk hN; have B6 := Aside0.mk hB; clear hN hK hB ck0 ck1 ck2; have cn1 : w6.cell? ⟨g5, 1, none⟩ = some (.int .i64 (chk d t 0).2) := (blk_cell N6.out 1).trans rfl))
  go_ret
  exact ⟨rfl, B6.out⟩
/-- What the reference's Check answers. -/
def thyrsusref4_Check.f (op n : Int) (kids : List S29) : Option Int := some (chk 120 ⟨op, n, kids⟩ 0).2
theorem thyrsusref4_Check.calls (op n : Int) (A : Option Addr) (c : Nat) (kids : List S29) (r : Int) (w : World) (hC : Kd.C k29 w A kids.length kids) (hc : kids.length ≤ c) (h : thyrsusref4_Check.f op n kids = some r) :
    Calls Tryd.prog 30 #[.agg #[.int .i64 op, .int .i64 n, .slice A kids.length c]] w fun e w' => e = .returned (.int .i64 r) ∧ Below w.heap.size w w' := by
  obtain ⟨d, hd⟩ : ∃ d, d = 120 := ⟨_, rfl⟩
  unfold thyrsusref4_Check.f at h
  rw [← hd] at h
  cases Option.some.inj h
  exact check30 (t := ⟨op, n, kids⟩) ⟨hd⟩ hc hC
end Go.Proofs.YtcchfblekaaalaaDoor.P
/- TermChecks: its drawn regions, each by one relation (printed by genchx.py) -/
namespace Go.Proofs.YtcchfblekaaalaaDoor.P
open Go.RowKit Go.Proofs.YtcchfblekaaalaaDoorW.PrintWords Go.Proofs.YtcchfblekaaalaaDoorW.PrintLast Go.Proofs.YtcchfblekaaalaaDoorW.PrintMore
set_option linter.unusedVariables false
set_option linter.unusedSimpArgs false
def thyrsuslaw4_TermChecks.T6 : Bool × List (List Nat × List Nat) := (true, [([], []), ([], []), ([], []), ([2], [2]), ([1, 3, 3], [1, 3]), ([], []), ([5, 4], [5]), ([6], [6]), ([], []), ([0, 4, 7, 8, 6], [0, 4, 7, 8]), ([], []), ([10, 9, 9, 0, 1, 2, 3, 4, 5, 6, 7, 8, 9, 10], [9, 10])])
def thyrsuslaw4_TermChecks.B6 : List Nat := [0, 0, 0, 4, 14, 0, 62, 126, 0, 511, 0, 2047]
theorem thyrsuslaw4_TermChecks.tab6 : rtab .any (opsOf Tryd.f8 6) = thyrsuslaw4_TermChecks.T6 := by kernel_rfl
theorem thyrsuslaw4_TermChecks.bits6 : waitsOk thyrsuslaw4_TermChecks.T6.2 thyrsuslaw4_TermChecks.B6 = true := by kernel_rfl
def thyrsuslaw4_TermChecks.T7 : Bool × List (List Nat × List Nat) := (true, [([], []), ([], []), ([], []), ([2], [2]), ([0, 1, 3], [0, 1, 3]), ([4, 3, 0, 1, 2, 3, 4], [4])])
def thyrsuslaw4_TermChecks.B7 : List Nat := [0, 0, 0, 4, 15, 31]
theorem thyrsuslaw4_TermChecks.tab7 : rtab .any (opsOf Tryd.f8 7) = thyrsuslaw4_TermChecks.T7 := by kernel_rfl
theorem thyrsuslaw4_TermChecks.bits7 : waitsOk thyrsuslaw4_TermChecks.T7.2 thyrsuslaw4_TermChecks.B7 = true := by kernel_rfl
def thyrsuslaw4_TermChecks.T11 : Bool × List (List Nat × List Nat) := (true, [([], []), ([], []), ([0, 1], [0, 1]), ([2], [2]), ([3], [3]), ([], []), ([], []), ([5, 6], [5, 6]), ([7], [7]), ([8, 4], [8]), ([4, 9], [4, 9])])
def thyrsuslaw4_TermChecks.B11 : List Nat := [0, 0, 3, 7, 15, 0, 0, 96, 224, 511, 1023]
theorem thyrsuslaw4_TermChecks.tab11 : rtab .any (opsOf Tryd.f8 11) = thyrsuslaw4_TermChecks.T11 := by kernel_rfl
theorem thyrsuslaw4_TermChecks.bits11 : waitsOk thyrsuslaw4_TermChecks.T11.2 thyrsuslaw4_TermChecks.B11 = true := by kernel_rfl
theorem rsize_go (k : Nat) (op n : Int) (v : Value) (kids : List S29) (r : Int) (w : World) {G : Nat → Prop} (hs : TV w G v kids) (h : thyrsusref4_Size.f k op n kids = some r) :
    Calls Tryd.prog 28 #[.agg #[.int .i64 op, .int .i64 n, v]] w fun e w' => e = .returned (.int .i64 r) ∧ Below w.heap.size w w' := by
  obtain ⟨A, c, rfl, hc, hC⟩ := hs.reads
  exact thyrsusref4_Size.calls k op n A c kids r w hC hc h
theorem tcheck_go (op n : Int) (v : Value) (kids : List S29) (r : Int) (w : World) {G : Nat → Prop} (hs : TV w G v kids) (h : term_Check.f op n kids = some r) :
    Calls Tryd.prog 21 #[.agg #[.int .i64 op, .int .i64 n, v]] w fun e w' => e = .returned (.int .i64 r) ∧ Below w.heap.size w w' := by
  obtain ⟨A, c, rfl, hc, hC⟩ := hs.reads
  exact term_Check.calls op n A c kids r w hC hc h
theorem rcheck_go (op n : Int) (v : Value) (kids : List S29) (r : Int) (w : World) {G : Nat → Prop} (hs : TV w G v kids) (h : thyrsusref4_Check.f op n kids = some r) :
    Calls Tryd.prog 30 #[.agg #[.int .i64 op, .int .i64 n, v]] w fun e w' => e = .returned (.int .i64 r) ∧ Below w.heap.size w w' := by
  obtain ⟨A, c, rfl, hc, hC⟩ := hs.reads
  exact thyrsusref4_Check.calls op n A c kids r w hC hc h
theorem within_go (a n t : Int) (w : World) (h : thyrsuslaw4_within.f a n = some t) : Calls Tryd.prog 20 #[.int .i64 a, .int .i64 n] w fun e w' => e = .returned (.int .i64 t) ∧ Below w.heap.size w w' :=
  (thyrsuslaw4_within.calls a n t w h).mono fun e w' ⟨he, nd, hd⟩ => ⟨he, hd ▸ pw_below_drewN (Below.refl _ _) nd⟩
theorem turned_go (k : Nat) (op n : Int) (v : Value) (kids : List S29) (a1 a2 a3 r1 r2 : Int) (r3 : List S29) (w : World) (G : Nat → Prop) (hG : ∀ k, G k → k < w.heap.size) (hs : TV w G v kids) (h : thyrsuslaw4_turned.f k op n kids a1 a2 a3 = some (r1, r2, r3)) :
    Calls Tryd.prog 27 #[.agg #[.int .i64 op, .int .i64 n, v], .int .i64 a1, .int .i64 a2, .int .i64 a3] w fun e w' => ∃ v : Value, e = .returned (.agg #[.int .i64 r1, .int .i64 r2, v]) ∧ TV w' G v r3 ∧ Below w.heap.size w w' := by
  obtain ⟨A, c, rfl⟩ := Kd.V_slice hs
  exact (thyrsuslaw4_turned.calls k op n (fun k_ => ¬ G k_) A c kids a1 a2 a3 r1 r2 r3 w (Kd.V_map hs (fun _ h => h)) h).mono fun e w' ⟨v, he, hV, hb⟩ => ⟨v, he, TV.ofV hV (fun k hk hg => hk.elim (fun h => h hg) (fun h => by have := hG k hg; omega)), hb⟩
theorem plain_go (k : Nat) (a0 a1 : Int) (A : Option Addr) (c : Nat) (l : List S24) (r1 r2 : Int) (r3 : List S29) (w : World) (G : Nat → Prop) (hG : ∀ k, G k → k < w.heap.size) (hr : Kd.C k24 w A l.length l) (hc : l.length ≤ c) (h : thyrsuslaw1_Plain.f k a0 a1 l = some (r1, r2, r3)) :
    Calls Tryd.prog 29 #[.agg #[.int .i64 a0, .int .i64 a1, .slice A l.length c]] w fun e w' => ∃ v : Value, e = .returned (.agg #[.int .i64 r1, .int .i64 r2, v]) ∧ TV w' G v r3 ∧ Below w.heap.size w w' :=
  (thyrsuslaw1_Plain.calls k a0 a1 A c l r1 r2 r3 w hr hc h).mono fun e w' ⟨v, he, hR, hb⟩ => ⟨v, he, TV.ofR hR hG, hb⟩
theorem TV.fk {w : World} {v : Value} {x : S29} (h : TV w (fun _ => False) v x.f2) : Kd.FK k29 w (fun _ => ¬ False) x [.int .i64 x.f0, .int .i64 x.f1, v] := by
  obtain ⟨A, c, rfl⟩ := Kd.V_slice h
  exact k29_mkF w (fun _ => ¬ False) x (Kd.V_at h).2.1 (Kd.V_F h)
section
variable {P : Program} {ops : Array Oper} {Q : Exit → Act → World → Prop} {o : Oper} {a : Act} {Kc : Act → World → Prop}
theorem lit_step {W : World} (hw : Region.wanted o (yielded ops a.tmps) = true) {N' : Tmp} (hd : o.dst = some N') {xs : List S29} {inner : List Value}
    (hrun : (execOp a.eval o).run P W = .ok (.value (.slice (some ⟨W.heap.size, 0, none⟩) xs.length xs.length)) (W.alloc (.cells inner.toArray 29)))
    (hrep : Reps (fun x c => ∃ v, c = [.int .i64 x.f0, .int .i64 x.f1, v] ∧ TV W (fun _ => False) v x.f2) 3 xs inner) (hm : xs.length ≤ 9223372036854775807)
    (h : ∀ v1 w1, TV w1 (fun _ => False) v1 xs → Below W.heap.size W w1 → Kc (a.put o.dst v1) w1) : if Region.wanted o (yielded ops a.tmps) = true then Oper.wp P o a W Kc Q else Kc (a.put o.dst undef) W := by
  refine Kd.N_lit_step k29 (w0 := W) W.heap.size 29 hw hd (xs := xs) (inner := inner) (ok := fun _ => ¬ False) (okp := fun _ => ¬ False) hrun ?_ (fun _ hk => hk) (fun h => h) (Below.refl _ _) (Nat.le_refl _) hm (fun v1 w1 hN hb _ _ => h v1 w1 (TV.ofN hN (fun _ _ h => h)) hb)
  exact hrep.imp_ fun p c ⟨v, hc, hv⟩ => by rw [hc]; exact hv.fk
end
set_option maxHeartbeats 4000000 in
set_option maxRecDepth 100000 in
theorem checks_r6 {Q : Exit → Act → World → Prop} {a : Act} {W : World} (hsz : a.tmps.size = 76) (kk : Nat) (xt yt : Int) (vt : Value) (kt : List S29) (bt : Nat) (ht : a.tmps[11]? = some (.pointer (some ⟨bt, 0, none⟩))) (Bt_ : W.heap[bt]? = some (.cells #[.int .i64 xt, .int .i64 yt, vt] 29 (0, 0))) (Tt_ : TV W (fun _ => False) vt kt)
    (n1 : Int) (hn1 : a.tmps[1]? = some (.int .i64 n1))
    (n2 : Int) (hn2 : a.tmps[2]? = some (.int .i64 n2))
    (n3 : Int) (hn3 : a.tmps[3]? = some (.int .i64 n3))
    (zs : Int)
    (at_ op_ : Int) (HW1_ : thyrsuslaw4_within.f n1 zs = some at_) (HW2_ : thyrsuslaw4_within.f n2 33 = some op_)
    (r9_0 r9_1 : Int) (k9_ : List S29)
    (H3 : thyrsusref4_Size.f kk xt yt kt  = some zs)
    (H9 : thyrsuslaw4_turned.f kk xt yt kt at_ (wrap64 (op_ - 1)) n3 = some (r9_0, r9_1, k9_))
    (hQ : ∀ (u9 : Value) (g10 : Nat) (w' : World), Below W.heap.size W w' → W.heap.size ≤ g10 → w'.heap[g10]? = some (.cells #[.int .i64 r9_0, .int .i64 r9_1, u9] 29 (0, 0)) → TV w' (fun _ => False) u9 k9_ → Q .normal (((((((((((a.put (some 24) (.agg #[.int .i64 xt, .int .i64 yt, vt])).put (some 25) (.int .i64 n1)).put (some 26) (.agg #[.int .i64 xt, .int .i64 yt, vt])).put (some 27) (.int .i64 zs)).put (some 28) (.int .i64 at_)).put (some 29) (.int .i64 n2)).put (some 30) (.int .i64 op_)).put (some 31) (.int .i64 (wrap64 (op_ - 1)))).put (some 32) (.int .i64 n3)).put (some 33) (.agg #[.int .i64 r9_0, .int .i64 r9_1, u9])).put (some 12) (.pointer (some ⟨g10, 0, none⟩))) w') :
    (Code.region 6 (opsOf Tryd.f8 6) true).wp Tryd.prog Q a W := by
  have HT_ := Aside0.mk thyrsuslaw4_TermChecks.tab6
  have HW_ := Aside0.mk thyrsuslaw4_TermChecks.bits6
  have BKt := Aside0.mk Bt_
  have Tt := Aside0.mk Tt_
  clear Bt_ Tt_
  have AH3 := Aside0.mk H3
  clear H3
  have HW1 := Aside0.mk HW1_
  have HW2 := Aside0.mk HW2_
  clear HW1_ HW2_
  have AH9 := Aside0.mk H9
  clear H9
  have HB := Aside0.mk (below_drew1 (Below.refl W.heap.size W))
  conv in (opsOf Tryd.f8 6) => whnf
  refine start_ (n := 12) (S := fun w' => True) (ds := []) #[false, false, false, false, false, false, false, false, false, false, false, false] (by kernel_rfl) rfl rfl trivial (fun hHeld => ?_)
  clear hHeld
  generalize W.drew = W1 at HB ⊢
  refine inv_at [0, 1, 2, 3, 4, 5, 6, 7, 8, 9, 10, 11] (fun a0_ b a w' => ∃ (u9 : Value) (g10 : Nat) (m9_ : Value) (m10_ : Value), a = putSel a0_ b [(0, 24, .agg #[.int .i64 xt, .int .i64 yt, vt]), (1, 25, .int .i64 n1), (2, 26, .agg #[.int .i64 xt, .int .i64 yt, vt]), (3, 27, .int .i64 zs), (4, 28, .int .i64 at_), (5, 29, .int .i64 n2), (6, 30, .int .i64 op_), (7, 31, .int .i64 (wrap64 (op_ - 1))), (8, 32, .int .i64 n3), (9, 33, m9_), (10, 12, m10_)] ∧ (Below W.heap.size W w') ∧ (b 9 = true → TV w' (fun k_ => (b 10 = true ∧ k_ = g10)) u9 k9_) ∧ (b 10 = true → W.heap.size ≤ g10 ∧ g10 < w'.heap.size) ∧ (b 10 = true → b 11 = false → w'.heap[g10]? = some (.cells #[.int .i64 0, .int .i64 0, .slice none 0 0] 29 (0, 0))) ∧ (b 11 = true → w'.heap[g10]? = some (.cells #[.int .i64 r9_0, .int .i64 r9_1, u9] 29 (0, 0))) ∧ (b 9 = true → (m9_ : Value) = .agg #[.int .i64 r9_0, .int .i64 r9_1, u9]) ∧ (b 10 = true → (m10_ : Value) = .pointer (some ⟨g10, 0, none⟩))) HT_.out HW_.out (by kernel_rfl) (by kernel_rfl) ?_ ?_ ?_
  · exact ⟨.bool false, 0, .bool false, .bool false, by simp only [putSel, Bool.false_eq_true, if_false], HB.out, fun h_ => absurd h_ (by decide), fun h_ => absurd h_ (by decide), fun h_ => absurd h_ (by decide), fun h_ => absurd h_ (by decide), fun h_ => absurd h_ (by decide), fun h_ => absurd h_ (by decide)⟩
  · skip
    clear HB
    refine steps_cons ?_ ?_
    · rintro b a w' ⟨u9, g10, m9_, m10_, ha, Q_HB, Q_F9, Q_Z10, Q_B10, Q_S10, Q_X9_, Q_X10_⟩ hb_ hon hoff
      refine ⟨_, rfl, fun K hK => ?_⟩
      have e11 : a.tmps[11]? = some (.pointer (some ⟨bt, 0, none⟩)) := by rw [ha]; exact (putSel_off rfl).trans ht
      replace ha := Aside0.mk ha
      have HB := Aside0.mk Q_HB
      have hc0_ : w'.cell? ⟨bt, 0, none⟩ = some (.int .i64 xt) := (blk_cell (blk_below BKt.out HB.out) 0).trans rfl
      have hc1_ : w'.cell? ⟨bt, 1, none⟩ = some (.int .i64 yt) := (blk_cell (blk_below BKt.out HB.out) 1).trans rfl
      have hc2_ : w'.cell? ⟨bt, 2, none⟩ = some (vt) := (blk_cell (blk_below BKt.out HB.out) 2).trans rfl
      refine value_ (w1 := w') (v := .agg #[.int .i64 xt, .int .i64 yt, vt]) (by rfl) rfl ?_ ?_
      · go_simp
        (try simp only [i64_w])
        try rfl
      refine hK.out _ _ ⟨u9, g10, m9_, m10_, (by rw [ha.out]; exact putSel_upk 0 hb_ rfl rfl rfl), Q_HB, fun h0_ => absurd ((hoff 9 (by kernel_rfl)).symm.trans h0_) (by decide), Q_Z10, Q_B10, fun h0_ => absurd ((hoff 11 (by kernel_rfl)).symm.trans h0_) (by decide), fun h0_ => absurd ((hoff 9 (by kernel_rfl)).symm.trans h0_) (by decide), Q_X10_⟩
    refine steps_cons ?_ ?_
    · rintro b a w' ⟨u9, g10, m9_, m10_, ha, Q_HB, Q_F9, Q_Z10, Q_B10, Q_S10, Q_X9_, Q_X10_⟩ hb_ hon hoff
      refine ⟨_, rfl, fun K hK => ?_⟩
      have e1 : a.tmps[1]? = some (.int .i64 n1) := by rw [ha]; exact (putSel_off rfl).trans hn1
      replace ha := Aside0.mk ha
      have HB := Aside0.mk Q_HB
      refine value_ (w1 := w') (v := .int .i64 n1) (by rfl) rfl ?_ ?_
      · go_simp
        (try simp only [i64_w])
        try rfl
      refine hK.out _ _ ⟨u9, g10, m9_, m10_, (by rw [ha.out]; exact putSel_upk 1 hb_ rfl rfl rfl), Q_HB, fun h0_ => absurd ((hoff 9 (by kernel_rfl)).symm.trans h0_) (by decide), Q_Z10, Q_B10, fun h0_ => absurd ((hoff 11 (by kernel_rfl)).symm.trans h0_) (by decide), fun h0_ => absurd ((hoff 9 (by kernel_rfl)).symm.trans h0_) (by decide), Q_X10_⟩
    refine steps_cons ?_ ?_
    · rintro b a w' ⟨u9, g10, m9_, m10_, ha, Q_HB, Q_F9, Q_Z10, Q_B10, Q_S10, Q_X9_, Q_X10_⟩ hb_ hon hoff
      refine ⟨_, rfl, fun K hK => ?_⟩
      have e11 : a.tmps[11]? = some (.pointer (some ⟨bt, 0, none⟩)) := by rw [ha]; exact (putSel_off rfl).trans ht
      replace ha := Aside0.mk ha
      have HB := Aside0.mk Q_HB
      have hc0_ : w'.cell? ⟨bt, 0, none⟩ = some (.int .i64 xt) := (blk_cell (blk_below BKt.out HB.out) 0).trans rfl
      have hc1_ : w'.cell? ⟨bt, 1, none⟩ = some (.int .i64 yt) := (blk_cell (blk_below BKt.out HB.out) 1).trans rfl
      have hc2_ : w'.cell? ⟨bt, 2, none⟩ = some (vt) := (blk_cell (blk_below BKt.out HB.out) 2).trans rfl
      refine value_ (w1 := w') (v := .agg #[.int .i64 xt, .int .i64 yt, vt]) (by rfl) rfl ?_ ?_
      · go_simp
        (try simp only [i64_w])
        try rfl
      refine hK.out _ _ ⟨u9, g10, m9_, m10_, (by rw [ha.out]; exact putSel_upk 2 hb_ rfl rfl rfl), Q_HB, fun h0_ => absurd ((hoff 9 (by kernel_rfl)).symm.trans h0_) (by decide), Q_Z10, Q_B10, fun h0_ => absurd ((hoff 11 (by kernel_rfl)).symm.trans h0_) (by decide), fun h0_ => absurd ((hoff 9 (by kernel_rfl)).symm.trans h0_) (by decide), Q_X10_⟩
    refine steps_cons ?_ ?_
    · rintro b a w' ⟨u9, g10, m9_, m10_, ha, Q_HB, Q_F9, Q_Z10, Q_B10, Q_S10, Q_X9_, Q_X10_⟩ hb_ hon hoff
      refine ⟨_, rfl, fun K hK => ?_⟩
      have e26 : a.tmps[26]? = some (.agg #[.int .i64 xt, .int .i64 yt, vt]) := by rw [ha]; exact putSel_on (e := (2, 26, .agg #[.int .i64 xt, .int .i64 yt, vt])) 2 rfl rfl (hon 2 (by kernel_rfl)) (by rw [hsz]; rfl)
      replace ha := Aside0.mk ha
      have HB := Aside0.mk Q_HB
      refine goes_ Tryd.func28 (by kernel_rfl) rfl #[.agg #[.int .i64 xt, .int .i64 yt, vt]] (by rfl) rfl rfl (by first | (simp only [List.map_toArray, List.map_cons, List.map_nil, Act.eval, Array.getD_eq_getD_getElem?, Option.getD_some, e26]; done) | (simp only [List.map_toArray, List.map_cons, List.map_nil, Act.eval, Array.getD_eq_getD_getElem?, Option.getD_some, e26]; rfl)) ?_
      refine (rsize_go kk xt yt vt kt  zs w' (TV.old (G := fun _ => False) Tt.out HB.out (fun _ h_ => h_.elim)) AH3.out).mono ?_
      rintro e w1 ⟨rfl, hb⟩
      refine ⟨_, rfl, ?_⟩
      refine hK.out _ _ ⟨u9, g10, m9_, m10_, (by rw [ha.out]; exact putSel_upk 3 hb_ rfl rfl rfl), below_step HB.out hb, fun h0_ => absurd ((hoff 9 (by kernel_rfl)).symm.trans h0_) (by decide), fun h0_ => ⟨(Q_Z10 h0_).1, Nat.lt_of_lt_of_le (Q_Z10 h0_).2 hb.size⟩, fun h0_ h1_ => blk_below (Q_B10 h0_ h1_) hb, fun h0_ => absurd ((hoff 11 (by kernel_rfl)).symm.trans h0_) (by decide), fun h0_ => absurd ((hoff 9 (by kernel_rfl)).symm.trans h0_) (by decide), Q_X10_⟩
    refine steps_cons ?_ ?_
    · rintro b a w' ⟨u9, g10, m9_, m10_, ha, Q_HB, Q_F9, Q_Z10, Q_B10, Q_S10, Q_X9_, Q_X10_⟩ hb_ hon hoff
      refine ⟨_, rfl, fun K hK => ?_⟩
      have e25 : a.tmps[25]? = some (.int .i64 n1) := by rw [ha]; exact putSel_on (e := (1, 25, .int .i64 n1)) 1 rfl rfl (hon 1 (by kernel_rfl)) (by rw [hsz]; rfl)
      have e27 : a.tmps[27]? = some (.int .i64 zs) := by rw [ha]; exact putSel_on (e := (3, 27, .int .i64 zs)) 3 rfl rfl (hon 3 (by kernel_rfl)) (by rw [hsz]; rfl)
      replace ha := Aside0.mk ha
      have HB := Aside0.mk Q_HB
      refine goes_ Tryd.func20 (by kernel_rfl) rfl #[.int .i64 n1, .int .i64 zs] (by rfl) rfl rfl (by first | (simp only [List.map_toArray, List.map_cons, List.map_nil, Act.eval, Array.getD_eq_getD_getElem?, Option.getD_some, e25, e27]; done) | (simp only [List.map_toArray, List.map_cons, List.map_nil, Act.eval, Array.getD_eq_getD_getElem?, Option.getD_some, e25, e27]; rfl)) ?_
      refine (within_go n1 zs at_ w' HW1.out).mono ?_
      rintro e w1 ⟨rfl, hb⟩
      refine ⟨_, rfl, ?_⟩
      refine hK.out _ _ ⟨u9, g10, m9_, m10_, (by rw [ha.out]; exact putSel_upk 4 hb_ rfl rfl rfl), below_step HB.out hb, fun h0_ => absurd ((hoff 9 (by kernel_rfl)).symm.trans h0_) (by decide), fun h0_ => ⟨(Q_Z10 h0_).1, Nat.lt_of_lt_of_le (Q_Z10 h0_).2 hb.size⟩, fun h0_ h1_ => blk_below (Q_B10 h0_ h1_) hb, fun h0_ => absurd ((hoff 11 (by kernel_rfl)).symm.trans h0_) (by decide), fun h0_ => absurd ((hoff 9 (by kernel_rfl)).symm.trans h0_) (by decide), Q_X10_⟩
    refine steps_cons ?_ ?_
    · rintro b a w' ⟨u9, g10, m9_, m10_, ha, Q_HB, Q_F9, Q_Z10, Q_B10, Q_S10, Q_X9_, Q_X10_⟩ hb_ hon hoff
      refine ⟨_, rfl, fun K hK => ?_⟩
      have e2 : a.tmps[2]? = some (.int .i64 n2) := by rw [ha]; exact (putSel_off rfl).trans hn2
      replace ha := Aside0.mk ha
      have HB := Aside0.mk Q_HB
      refine value_ (w1 := w') (v := .int .i64 n2) (by rfl) rfl ?_ ?_
      · go_simp
        (try simp only [i64_w])
        try rfl
      refine hK.out _ _ ⟨u9, g10, m9_, m10_, (by rw [ha.out]; exact putSel_upk 5 hb_ rfl rfl rfl), Q_HB, fun h0_ => absurd ((hoff 9 (by kernel_rfl)).symm.trans h0_) (by decide), Q_Z10, Q_B10, fun h0_ => absurd ((hoff 11 (by kernel_rfl)).symm.trans h0_) (by decide), fun h0_ => absurd ((hoff 9 (by kernel_rfl)).symm.trans h0_) (by decide), Q_X10_⟩
    refine steps_cons ?_ ?_
    · rintro b a w' ⟨u9, g10, m9_, m10_, ha, Q_HB, Q_F9, Q_Z10, Q_B10, Q_S10, Q_X9_, Q_X10_⟩ hb_ hon hoff
      refine ⟨_, rfl, fun K hK => ?_⟩
      have e29 : a.tmps[29]? = some (.int .i64 n2) := by rw [ha]; exact putSel_on (e := (5, 29, .int .i64 n2)) 5 rfl rfl (hon 5 (by kernel_rfl)) (by rw [hsz]; rfl)
      replace ha := Aside0.mk ha
      have HB := Aside0.mk Q_HB
      refine goes_ Tryd.func20 (by kernel_rfl) rfl #[.int .i64 n2, .int .i64 33] (by rfl) rfl rfl (by first | (simp only [List.map_toArray, List.map_cons, List.map_nil, Act.eval, Array.getD_eq_getD_getElem?, Option.getD_some, e29]; done) | (simp only [List.map_toArray, List.map_cons, List.map_nil, Act.eval, Array.getD_eq_getD_getElem?, Option.getD_some, e29]; rfl)) ?_
      refine (within_go n2 33 op_ w' HW2.out).mono ?_
      rintro e w1 ⟨rfl, hb⟩
      refine ⟨_, rfl, ?_⟩
      refine hK.out _ _ ⟨u9, g10, m9_, m10_, (by rw [ha.out]; exact putSel_upk 6 hb_ rfl rfl rfl), below_step HB.out hb, fun h0_ => absurd ((hoff 9 (by kernel_rfl)).symm.trans h0_) (by decide), fun h0_ => ⟨(Q_Z10 h0_).1, Nat.lt_of_lt_of_le (Q_Z10 h0_).2 hb.size⟩, fun h0_ h1_ => blk_below (Q_B10 h0_ h1_) hb, fun h0_ => absurd ((hoff 11 (by kernel_rfl)).symm.trans h0_) (by decide), fun h0_ => absurd ((hoff 9 (by kernel_rfl)).symm.trans h0_) (by decide), Q_X10_⟩
    refine steps_cons ?_ ?_
    · rintro b a w' ⟨u9, g10, m9_, m10_, ha, Q_HB, Q_F9, Q_Z10, Q_B10, Q_S10, Q_X9_, Q_X10_⟩ hb_ hon hoff
      refine ⟨_, rfl, fun K hK => ?_⟩
      have e30 : a.tmps[30]? = some (.int .i64 op_) := by rw [ha]; exact putSel_on (e := (6, 30, .int .i64 op_)) 6 rfl rfl (hon 6 (by kernel_rfl)) (by rw [hsz]; rfl)
      replace ha := Aside0.mk ha
      have HB := Aside0.mk Q_HB
      refine value_ (w1 := w') (v := .int .i64 (wrap64 (op_ - 1))) (by rfl) rfl ?_ ?_
      · go_simp
        (try simp only [i64_w])
        try rfl
      refine hK.out _ _ ⟨u9, g10, m9_, m10_, (by rw [ha.out]; exact putSel_upk 7 hb_ rfl rfl rfl), Q_HB, fun h0_ => absurd ((hoff 9 (by kernel_rfl)).symm.trans h0_) (by decide), Q_Z10, Q_B10, fun h0_ => absurd ((hoff 11 (by kernel_rfl)).symm.trans h0_) (by decide), fun h0_ => absurd ((hoff 9 (by kernel_rfl)).symm.trans h0_) (by decide), Q_X10_⟩
    refine steps_cons ?_ ?_
    · rintro b a w' ⟨u9, g10, m9_, m10_, ha, Q_HB, Q_F9, Q_Z10, Q_B10, Q_S10, Q_X9_, Q_X10_⟩ hb_ hon hoff
      refine ⟨_, rfl, fun K hK => ?_⟩
      have e3 : a.tmps[3]? = some (.int .i64 n3) := by rw [ha]; exact (putSel_off rfl).trans hn3
      replace ha := Aside0.mk ha
      have HB := Aside0.mk Q_HB
      refine value_ (w1 := w') (v := .int .i64 n3) (by rfl) rfl ?_ ?_
      · go_simp
        (try simp only [i64_w])
        try rfl
      refine hK.out _ _ ⟨u9, g10, m9_, m10_, (by rw [ha.out]; exact putSel_upk 8 hb_ rfl rfl rfl), Q_HB, fun h0_ => absurd ((hoff 9 (by kernel_rfl)).symm.trans h0_) (by decide), Q_Z10, Q_B10, fun h0_ => absurd ((hoff 11 (by kernel_rfl)).symm.trans h0_) (by decide), fun h0_ => absurd ((hoff 9 (by kernel_rfl)).symm.trans h0_) (by decide), Q_X10_⟩
    refine steps_cons ?_ ?_
    · rintro b a w' ⟨u9, g10, m9_, m10_, ha, Q_HB, Q_F9, Q_Z10, Q_B10, Q_S10, Q_X9_, Q_X10_⟩ hb_ hon hoff
      refine ⟨_, rfl, fun K hK => ?_⟩
      have e24 : a.tmps[24]? = some (.agg #[.int .i64 xt, .int .i64 yt, vt]) := by rw [ha]; exact putSel_on (e := (0, 24, .agg #[.int .i64 xt, .int .i64 yt, vt])) 0 rfl rfl (hon 0 (by kernel_rfl)) (by rw [hsz]; rfl)
      have e28 : a.tmps[28]? = some (.int .i64 at_) := by rw [ha]; exact putSel_on (e := (4, 28, .int .i64 at_)) 4 rfl rfl (hon 4 (by kernel_rfl)) (by rw [hsz]; rfl)
      have e31 : a.tmps[31]? = some (.int .i64 (wrap64 (op_ - 1))) := by rw [ha]; exact putSel_on (e := (7, 31, .int .i64 (wrap64 (op_ - 1)))) 7 rfl rfl (hon 7 (by kernel_rfl)) (by rw [hsz]; rfl)
      have e32 : a.tmps[32]? = some (.int .i64 n3) := by rw [ha]; exact putSel_on (e := (8, 32, .int .i64 n3)) 8 rfl rfl (hon 8 (by kernel_rfl)) (by rw [hsz]; rfl)
      replace ha := Aside0.mk ha
      have HB := Aside0.mk Q_HB
      refine goes_ Tryd.func27 (by kernel_rfl) rfl #[.agg #[.int .i64 xt, .int .i64 yt, vt], .int .i64 at_, .int .i64 (wrap64 (op_ - 1)), .int .i64 n3] (by rfl) rfl rfl (by first | (simp only [List.map_toArray, List.map_cons, List.map_nil, Act.eval, Array.getD_eq_getD_getElem?, Option.getD_some, e24, e28, e31, e32]; done) | (simp only [List.map_toArray, List.map_cons, List.map_nil, Act.eval, Array.getD_eq_getD_getElem?, Option.getD_some, e24, e28, e31, e32]; rfl)) ?_
      refine (turned_go kk xt yt vt kt at_ (wrap64 (op_ - 1)) n3 r9_0 r9_1 k9_ w' (fun k_ => (b 10 = true ∧ k_ = g10)) (fun k_ h_ => h_.2 ▸ (Q_Z10 h_.1).2) (TV.old Tt.out HB.out (fun k_ h_ => h_.2 ▸ (Q_Z10 h_.1).1)) AH9.out).mono ?_
      rintro e w1 ⟨v_, rfl, hv, hb⟩
      refine ⟨_, rfl, ?_⟩
      refine hK.out _ _ ⟨v_, g10, (.agg #[.int .i64 r9_0, .int .i64 r9_1, v_]), m10_, (by rw [ha.out]; exact putSel_upk 9 hb_ rfl rfl rfl), below_step HB.out hb, fun _ => hv, fun h0_ => ⟨(Q_Z10 h0_).1, Nat.lt_of_lt_of_le (Q_Z10 h0_).2 hb.size⟩, fun h0_ h1_ => blk_below (Q_B10 h0_ h1_) hb, fun h0_ => absurd ((hoff 11 (by kernel_rfl)).symm.trans h0_) (by decide), fun _ => rfl, Q_X10_⟩
    refine steps_cons ?_ ?_
    · rintro b a w' ⟨u9, g10, m9_, m10_, ha, Q_HB, Q_F9, Q_Z10, Q_B10, Q_S10, Q_X9_, Q_X10_⟩ hb_ hon hoff
      refine ⟨_, rfl, fun K hK => ?_⟩
      replace ha := Aside0.mk ha
      have HB := Aside0.mk Q_HB
      refine box_step ?hg (N := 12) ?hd (cs := #[.int .i64 0, .int .i64 0, .slice none 0 0]) (t := 29) ?hr ?_; (case hd => rfl); (case hg => rfl); (case hr => first | (go_simp; done) | (go_simp; rfl))
      intro gn hg w1 hbox hb
      refine hK.out _ _ ⟨u9, gn, m9_, (.pointer (some ⟨gn, 0, none⟩)), (by rw [ha.out]; exact putSel_upk 10 hb_ rfl rfl rfl), below_step HB.out hb, fun h0_ => (Q_F9 h0_).below hb (fun k_ h_ => .inr (by rw [h_.2, hg]; exact Nat.le_refl _)), fun _ => ⟨by rw [hg]; exact below_size HB.out, blk_lt hbox⟩, fun _ _ => hbox, fun h0_ => absurd ((hoff 11 (by kernel_rfl)).symm.trans h0_) (by decide), Q_X9_, fun _ => rfl⟩
    refine steps_cons ?_ ?_
    · rintro b a w' ⟨u9, g10, m9_, m10_, ha, Q_HB, Q_F9, Q_Z10, Q_B10, Q_S10, Q_X9_, Q_X10_⟩ hb_ hon hoff
      refine ⟨_, rfl, fun K hK => ?_⟩
      have e12 : a.tmps[12]? = some (m10_) := by rw [ha]; exact putSel_on (e := (10, 12, m10_)) 10 rfl rfl (hon 10 (by kernel_rfl)) (by rw [hsz]; rfl)
      rw [Q_X10_ (hon 10 (by kernel_rfl))] at e12
      have e33 : a.tmps[33]? = some (m9_) := by rw [ha]; exact putSel_on (e := (9, 33, m9_)) 9 rfl rfl (hon 9 (by kernel_rfl)) (by rw [hsz]; rfl)
      rw [Q_X9_ (hon 9 (by kernel_rfl))] at e33
      replace ha := Aside0.mk ha
      have HB := Aside0.mk Q_HB
      have F9 := Aside0.mk (Q_F9 (hon 9 (by kernel_rfl)))
      have Z10 := Aside0.mk (Q_Z10 (hon 10 (by kernel_rfl)))
      have B10 := Aside0.mk (Q_B10 (hon 10 (by kernel_rfl)) hb_)
      have hs0_ : w'.cell? ⟨g10, 0, none⟩ = some (.int .i64 0) := (blk_cell B10.out 0).trans rfl
      have hs1_ : w'.cell? ⟨g10, 1, none⟩ = some (.int .i64 0) := (blk_cell B10.out 1).trans rfl
      have hs2_ : w'.cell? ⟨g10, 2, none⟩ = some (.slice none 0 0) := (blk_cell B10.out 2).trans rfl
      have hf0_ := blk_frozen B10.out 0
      have hf1_ := blk_frozen B10.out 1
      have hf2_ := blk_frozen B10.out 2
      obtain ⟨As_, cs_, hu_⟩ := Kd.V_slice F9.out
      subst hu_
      refine skip_ (w1 := ?_) (by rfl) rfl ?_ ?_
      rotate_left
      · go_simp
        rfl
      refine hK.out _ _ ⟨.slice As_ k9_.length cs_, g10, m9_, m10_, (by rw [ha.out]; exact putSel_none (v := undef) rfl), below_set3 HB.out Z10.out.1 (.int .i64 r9_0) (.int .i64 r9_1) (.slice As_ k9_.length cs_), fun _ => F9.out.set3 (⟨hon 10 (by kernel_rfl), rfl⟩) (.int .i64 r9_0) (.int .i64 r9_1) (.slice As_ k9_.length cs_), fun _ => ⟨Z10.out.1, by rw [size_set3]; exact Z10.out.2⟩, fun _ h1_ => absurd ((up_self b 11).symm.trans h1_) (by decide), fun _ => blk_set3 B10.out rfl (.int .i64 r9_0) (.int .i64 r9_1) (.slice As_ k9_.length cs_), Q_X9_, Q_X10_⟩
    exact steps_nil
  · rintro b a w' hall ⟨u9, g10, m9_, m10_, ha, Q_HB, Q_F9, Q_Z10, Q_B10, Q_S10, Q_X9_, Q_X10_⟩
    clear HB
    have hb0_ := hall 0 (by kernel_rfl)
    have hb1_ := hall 1 (by kernel_rfl)
    have hb2_ := hall 2 (by kernel_rfl)
    have hb3_ := hall 3 (by kernel_rfl)
    have hb4_ := hall 4 (by kernel_rfl)
    have hb5_ := hall 5 (by kernel_rfl)
    have hb6_ := hall 6 (by kernel_rfl)
    have hb7_ := hall 7 (by kernel_rfl)
    have hb8_ := hall 8 (by kernel_rfl)
    have hb9_ := hall 9 (by kernel_rfl)
    have hb10_ := hall 10 (by kernel_rfl)
    have hb11_ := hall 11 (by kernel_rfl)
    subst ha
    obtain rfl := Q_X9_ hb9_
    obtain rfl := Q_X10_ hb10_
    simp only [putSel, hb0_, hb1_, hb2_, hb3_, hb4_, hb5_, hb6_, hb7_, hb8_, hb9_, hb10_, hb11_, if_true]
    have HB := Aside0.mk Q_HB
    clear Q_HB
    have F9 := Aside0.mk (Q_F9 hb9_)
    clear Q_F9
    have Z10 := Aside0.mk (Q_Z10 hb10_)
    clear Q_Z10
    clear Q_B10
    have S10 := Aside0.mk (Q_S10 hb11_)
    clear Q_S10
    clear hall hb0_ hb1_ hb2_ hb3_ hb4_ hb5_ hb6_ hb7_ hb8_ hb9_ hb10_ hb11_
    exact hQ   u9 g10 w' HB.out Z10.out.1 S10.out F9.out.free 
set_option maxHeartbeats 4000000 in
set_option maxRecDepth 100000 in
theorem checks_r7 {Q : Exit → Act → World → Prop} {a : Act} {W : World} (hsz : a.tmps.size = 76) (kk : Nat) (xt yt : Int) (vt : Value) (kt : List S29) (bt : Nat) (ht : a.tmps[11]? = some (.pointer (some ⟨bt, 0, none⟩))) (Bt_ : W.heap[bt]? = some (.cells #[.int .i64 xt, .int .i64 yt, vt] 29 (0, 0))) (Tt_ : TV W (fun _ => False) vt kt)
    (xx yx : Int) (vx : Value) (kx : List S29) (bx : Nat) (hx : a.tmps[12]? = some (.pointer (some ⟨bx, 0, none⟩))) (Bx_ : W.heap[bx]? = some (.cells #[.int .i64 xx, .int .i64 yx, vx] 29 (0, 0))) (Tx_ : TV W (fun _ => False) vx kx)
    (pd qd : Int) (Ad : Option Addr) (cd : Nat) (ld : List S24) (bd : Nat) (hd : a.tmps[5]? = some (.pointer (some ⟨bd, 0, none⟩))) (Bd_ : W.heap[bd]? = some (.cells #[.int .i64 pd, .int .i64 qd, .slice Ad ld.length cd] 24 (0, 0))) (Rd_ : Kd.C k24 W Ad ld.length ld) (Cd_ : ld.length ≤ cd)
    (r3_0 r3_1 : Int) (k3_ : List S29)
    (r4_0 r4_1 : Int) (k4_ : List S29)
    (H3 : thyrsuslaw1_Plain.f kk pd qd ld = some (r3_0, r3_1, k3_))
    (H4 : k4_ = ([⟨xt, yt, kt⟩, ⟨xx, yx, kx⟩, ⟨r3_0, r3_1, k3_⟩] : List S29))
    (hQ : ∀ (u3 u4 : Value) (w' : World), Below W.heap.size W w' → TV w' (fun _ => False) u4 k4_ → Q .normal ((((((a.put (some 34) (.agg #[.int .i64 xt, .int .i64 yt, vt])).put (some 35) (.agg #[.int .i64 xx, .int .i64 yx, vx])).put (some 36) (.agg #[.int .i64 pd, .int .i64 qd, .slice Ad ld.length cd])).put (some 37) (.agg #[.int .i64 r3_0, .int .i64 r3_1, u3])).put (some 38) (u4)).put (some 13) (u4)) w') :
    (Code.region 7 (opsOf Tryd.f8 7) true).wp Tryd.prog Q a W := by
  have HT_ := Aside0.mk thyrsuslaw4_TermChecks.tab7
  have HW_ := Aside0.mk thyrsuslaw4_TermChecks.bits7
  have BKt := Aside0.mk Bt_
  have Tt := Aside0.mk Tt_
  clear Bt_ Tt_
  have BKx := Aside0.mk Bx_
  have Tx := Aside0.mk Tx_
  clear Bx_ Tx_
  have BKd := Aside0.mk Bd_
  have HRd := Aside0.mk Rd_
  have HCd := Aside0.mk Cd_
  clear Bd_ Rd_ Cd_
  have AH3 := Aside0.mk H3
  clear H3
  have AH4 := Aside0.mk H4
  clear H4
  have HB := Aside0.mk (below_drew1 (Below.refl W.heap.size W))
  conv in (opsOf Tryd.f8 7) => whnf
  refine start_ (n := 6) (S := fun w' => True) (ds := []) #[false, false, false, false, false, false] (by kernel_rfl) rfl rfl trivial (fun hHeld => ?_)
  clear hHeld
  generalize W.drew = W1 at HB ⊢
  refine inv_at [0, 1, 2, 3, 4, 5] (fun a0_ b a w' => ∃ (u3 : Value) (u4 : Value) (m3_ : Value) (m5_ : Value), a = putSel a0_ b [(0, 34, .agg #[.int .i64 xt, .int .i64 yt, vt]), (1, 35, .agg #[.int .i64 xx, .int .i64 yx, vx]), (2, 36, .agg #[.int .i64 pd, .int .i64 qd, .slice Ad ld.length cd]), (3, 37, m3_), (4, 38, u4), (5, 13, m5_)] ∧ (Below W.heap.size W w') ∧ (b 3 = true → TV w' (fun k_ => False) u3 k3_) ∧ (b 4 = true → TV w' (fun k_ => False) u4 k4_) ∧ (b 3 = true → (m3_ : Value) = .agg #[.int .i64 r3_0, .int .i64 r3_1, u3]) ∧ (b 5 = true → (m5_ : Value) = u4)) HT_.out HW_.out (by kernel_rfl) (by kernel_rfl) ?_ ?_ ?_
  · exact ⟨.bool false, .bool false, .bool false, .bool false, by simp only [putSel, Bool.false_eq_true, if_false], HB.out, fun h_ => absurd h_ (by decide), fun h_ => absurd h_ (by decide), fun h_ => absurd h_ (by decide), fun h_ => absurd h_ (by decide)⟩
  · skip
    clear HB
    refine steps_cons ?_ ?_
    · rintro b a w' ⟨u3, u4, m3_, m5_, ha, Q_HB, Q_F3, Q_F4, Q_X3_, Q_X5_⟩ hb_ hon hoff
      refine ⟨_, rfl, fun K hK => ?_⟩
      have e11 : a.tmps[11]? = some (.pointer (some ⟨bt, 0, none⟩)) := by rw [ha]; exact (putSel_off rfl).trans ht
      replace ha := Aside0.mk ha
      have HB := Aside0.mk Q_HB
      have hc0_ : w'.cell? ⟨bt, 0, none⟩ = some (.int .i64 xt) := (blk_cell (blk_below BKt.out HB.out) 0).trans rfl
      have hc1_ : w'.cell? ⟨bt, 1, none⟩ = some (.int .i64 yt) := (blk_cell (blk_below BKt.out HB.out) 1).trans rfl
      have hc2_ : w'.cell? ⟨bt, 2, none⟩ = some (vt) := (blk_cell (blk_below BKt.out HB.out) 2).trans rfl
      refine value_ (w1 := w') (v := .agg #[.int .i64 xt, .int .i64 yt, vt]) (by rfl) rfl ?_ ?_
      · go_simp
        (try simp only [i64_w])
        try rfl
      refine hK.out _ _ ⟨u3, u4, m3_, m5_, (by rw [ha.out]; exact putSel_upk 0 hb_ rfl rfl rfl), Q_HB, Q_F3, fun h0_ => absurd ((hoff 4 (by kernel_rfl)).symm.trans h0_) (by decide), Q_X3_, fun h0_ => absurd ((hoff 5 (by kernel_rfl)).symm.trans h0_) (by decide)⟩
    refine steps_cons ?_ ?_
    · rintro b a w' ⟨u3, u4, m3_, m5_, ha, Q_HB, Q_F3, Q_F4, Q_X3_, Q_X5_⟩ hb_ hon hoff
      refine ⟨_, rfl, fun K hK => ?_⟩
      have e12 : a.tmps[12]? = some (.pointer (some ⟨bx, 0, none⟩)) := by rw [ha]; exact (putSel_off rfl).trans hx
      replace ha := Aside0.mk ha
      have HB := Aside0.mk Q_HB
      have hc0_ : w'.cell? ⟨bx, 0, none⟩ = some (.int .i64 xx) := (blk_cell (blk_below BKx.out HB.out) 0).trans rfl
      have hc1_ : w'.cell? ⟨bx, 1, none⟩ = some (.int .i64 yx) := (blk_cell (blk_below BKx.out HB.out) 1).trans rfl
      have hc2_ : w'.cell? ⟨bx, 2, none⟩ = some (vx) := (blk_cell (blk_below BKx.out HB.out) 2).trans rfl
      refine value_ (w1 := w') (v := .agg #[.int .i64 xx, .int .i64 yx, vx]) (by rfl) rfl ?_ ?_
      · go_simp
        (try simp only [i64_w])
        try rfl
      refine hK.out _ _ ⟨u3, u4, m3_, m5_, (by rw [ha.out]; exact putSel_upk 1 hb_ rfl rfl rfl), Q_HB, Q_F3, fun h0_ => absurd ((hoff 4 (by kernel_rfl)).symm.trans h0_) (by decide), Q_X3_, fun h0_ => absurd ((hoff 5 (by kernel_rfl)).symm.trans h0_) (by decide)⟩
    refine steps_cons ?_ ?_
    · rintro b a w' ⟨u3, u4, m3_, m5_, ha, Q_HB, Q_F3, Q_F4, Q_X3_, Q_X5_⟩ hb_ hon hoff
      refine ⟨_, rfl, fun K hK => ?_⟩
      have e5 : a.tmps[5]? = some (.pointer (some ⟨bd, 0, none⟩)) := by rw [ha]; exact (putSel_off rfl).trans hd
      replace ha := Aside0.mk ha
      have HB := Aside0.mk Q_HB
      have hc0_ : w'.cell? ⟨bd, 0, none⟩ = some (.int .i64 pd) := (blk_cell (blk_below BKd.out HB.out) 0).trans rfl
      have hc1_ : w'.cell? ⟨bd, 1, none⟩ = some (.int .i64 qd) := (blk_cell (blk_below BKd.out HB.out) 1).trans rfl
      have hc2_ : w'.cell? ⟨bd, 2, none⟩ = some (.slice Ad ld.length cd) := (blk_cell (blk_below BKd.out HB.out) 2).trans rfl
      refine value_ (w1 := w') (v := .agg #[.int .i64 pd, .int .i64 qd, .slice Ad ld.length cd]) (by rfl) rfl ?_ ?_
      · go_simp
        (try simp only [i64_w])
        try rfl
      refine hK.out _ _ ⟨u3, u4, m3_, m5_, (by rw [ha.out]; exact putSel_upk 2 hb_ rfl rfl rfl), Q_HB, fun h0_ => absurd ((hoff 3 (by kernel_rfl)).symm.trans h0_) (by decide), fun h0_ => absurd ((hoff 4 (by kernel_rfl)).symm.trans h0_) (by decide), fun h0_ => absurd ((hoff 3 (by kernel_rfl)).symm.trans h0_) (by decide), fun h0_ => absurd ((hoff 5 (by kernel_rfl)).symm.trans h0_) (by decide)⟩
    refine steps_cons ?_ ?_
    · rintro b a w' ⟨u3, u4, m3_, m5_, ha, Q_HB, Q_F3, Q_F4, Q_X3_, Q_X5_⟩ hb_ hon hoff
      refine ⟨_, rfl, fun K hK => ?_⟩
      have e36 : a.tmps[36]? = some (.agg #[.int .i64 pd, .int .i64 qd, .slice Ad ld.length cd]) := by rw [ha]; exact putSel_on (e := (2, 36, .agg #[.int .i64 pd, .int .i64 qd, .slice Ad ld.length cd])) 2 rfl rfl (hon 2 (by kernel_rfl)) (by rw [hsz]; rfl)
      replace ha := Aside0.mk ha
      have HB := Aside0.mk Q_HB
      refine goes_ Tryd.func29 (by kernel_rfl) rfl #[.agg #[.int .i64 pd, .int .i64 qd, .slice Ad ld.length cd]] (by rfl) rfl rfl (by first | (simp only [List.map_toArray, List.map_cons, List.map_nil, Act.eval, Array.getD_eq_getD_getElem?, Option.getD_some, e36]; done) | (simp only [List.map_toArray, List.map_cons, List.map_nil, Act.eval, Array.getD_eq_getD_getElem?, Option.getD_some, e36]; rfl)) ?_
      refine (plain_go kk pd qd Ad cd ld r3_0 r3_1 k3_ w' (fun k_ => False) (fun k_ h_ => h_.elim) (Kd.C_below HRd.out HB.out) HCd.out AH3.out).mono ?_
      rintro e w1 ⟨v_, rfl, hv, hb⟩
      refine ⟨_, rfl, ?_⟩
      refine hK.out _ _ ⟨v_, u4, (.agg #[.int .i64 r3_0, .int .i64 r3_1, v_]), m5_, (by rw [ha.out]; exact putSel_upk 3 hb_ rfl rfl rfl), below_step HB.out hb, fun _ => hv, fun h0_ => absurd ((hoff 4 (by kernel_rfl)).symm.trans h0_) (by decide), fun _ => rfl, fun h0_ => absurd ((hoff 5 (by kernel_rfl)).symm.trans h0_) (by decide)⟩
    refine steps_cons ?_ ?_
    · rintro b a w' ⟨u3, u4, m3_, m5_, ha, Q_HB, Q_F3, Q_F4, Q_X3_, Q_X5_⟩ hb_ hon hoff
      refine ⟨_, rfl, fun K hK => ?_⟩
      have e34 : a.tmps[34]? = some (.agg #[.int .i64 xt, .int .i64 yt, vt]) := by rw [ha]; exact putSel_on (e := (0, 34, .agg #[.int .i64 xt, .int .i64 yt, vt])) 0 rfl rfl (hon 0 (by kernel_rfl)) (by rw [hsz]; rfl)
      have e35 : a.tmps[35]? = some (.agg #[.int .i64 xx, .int .i64 yx, vx]) := by rw [ha]; exact putSel_on (e := (1, 35, .agg #[.int .i64 xx, .int .i64 yx, vx])) 1 rfl rfl (hon 1 (by kernel_rfl)) (by rw [hsz]; rfl)
      have e37 : a.tmps[37]? = some (m3_) := by rw [ha]; exact putSel_on (e := (3, 37, m3_)) 3 rfl rfl (hon 3 (by kernel_rfl)) (by rw [hsz]; rfl)
      rw [Q_X3_ (hon 3 (by kernel_rfl))] at e37
      replace ha := Aside0.mk ha
      have HB := Aside0.mk Q_HB
      have F3 := Aside0.mk (Q_F3 (hon 3 (by kernel_rfl)))
      refine lit_step ?hg (N' := 38) ?hd (xs := ([⟨xt, yt, kt⟩, ⟨xx, yx, kx⟩, ⟨r3_0, r3_1, k3_⟩] : List S29)) (inner := ?inn4) ?hr ?hp (by simp) ?_; (case hd => rfl); (case hg => rfl); (case hr => first | (go_simp; done) | (go_simp; rfl)); (case hp => exact Reps.c3 ⟨_, rfl, (TV.old (G := fun _ => False) Tt.out HB.out (fun _ h_ => h_.elim))⟩ (Reps.c3 ⟨_, rfl, (TV.old (G := fun _ => False) Tx.out HB.out (fun _ h_ => h_.elim))⟩ (Reps.c3 ⟨_, rfl, F3.out⟩ (Reps.none _ _))))
      intro v_ w1 hv hb
      rw [← AH4.out] at hv
      refine hK.out _ _ ⟨u3, v_, m3_, m5_, (by rw [ha.out]; exact putSel_upk 4 hb_ rfl rfl rfl), below_step HB.out hb, fun _ => F3.out.step hb, fun _ => hv, Q_X3_, fun h0_ => absurd ((hoff 5 (by kernel_rfl)).symm.trans h0_) (by decide)⟩
    refine steps_cons ?_ ?_
    · rintro b a w' ⟨u3, u4, m3_, m5_, ha, Q_HB, Q_F3, Q_F4, Q_X3_, Q_X5_⟩ hb_ hon hoff
      refine ⟨_, rfl, fun K hK => ?_⟩
      have e38 : a.tmps[38]? = some (u4) := by rw [ha]; exact putSel_on (e := (4, 38, u4)) 4 rfl rfl (hon 4 (by kernel_rfl)) (by rw [hsz]; rfl)
      replace ha := Aside0.mk ha
      have HB := Aside0.mk Q_HB
      have F3 := Aside0.mk (Q_F3 (hon 3 (by kernel_rfl)))
      have F4 := Aside0.mk (Q_F4 (hon 4 (by kernel_rfl)))
      refine value_ (w1 := w') (v := u4) (by rfl) rfl ?_ ?_
      · go_simp
        (try simp only [i64_w])
        try rfl
      refine hK.out _ _ ⟨u3, u4, m3_, (u4), (by rw [ha.out]; exact putSel_upk 5 hb_ rfl rfl rfl), Q_HB, Q_F3, Q_F4, Q_X3_, fun _ => rfl⟩
    exact steps_nil
  · rintro b a w' hall ⟨u3, u4, m3_, m5_, ha, Q_HB, Q_F3, Q_F4, Q_X3_, Q_X5_⟩
    clear HB
    have hb0_ := hall 0 (by kernel_rfl)
    have hb1_ := hall 1 (by kernel_rfl)
    have hb2_ := hall 2 (by kernel_rfl)
    have hb3_ := hall 3 (by kernel_rfl)
    have hb4_ := hall 4 (by kernel_rfl)
    have hb5_ := hall 5 (by kernel_rfl)
    subst ha
    obtain rfl := Q_X3_ hb3_
    obtain rfl := (Q_X5_ hb5_).symm
    simp only [putSel, hb0_, hb1_, hb2_, hb3_, hb4_, hb5_, if_true]
    have HB := Aside0.mk Q_HB
    clear Q_HB
    have F3 := Aside0.mk (Q_F3 hb3_)
    clear Q_F3
    have F4 := Aside0.mk (Q_F4 hb4_)
    clear Q_F4
    clear hall hb0_ hb1_ hb2_ hb3_ hb4_ hb5_
    exact hQ   u3 u4  w' HB.out  F4.out.free
set_option maxHeartbeats 4000000 in
set_option maxRecDepth 100000 in
theorem checks_r11 {Q : Exit → Act → World → Prop} {a : Act} {W : World} (hsz : a.tmps.size = 76) (kk : Nat) (n14 : Int) (hn14 : a.tmps[14]? = some (.int .i64 n14))
    (ks : List S29) (ck : Nat) (adk : Addr) (Ek : Value) (h13 : a.tmps[13]? = some (.slice (some adk) ks.length ck)) (TE_ : TV W (fun _ => False) Ek (rd_T29 ks n14).f2) (HE_ : ∀ w', Below W.heap.size W w' → w'.cell? (adk.add (n14.toNat * 3)) = some (.int .i64 (rd_T29 ks n14).f0) ∧ w'.cell? ⟨(adk.add (n14.toNat * 3)).block, (adk.add (n14.toNat * 3)).off + 1, none⟩ = some (.int .i64 (rd_T29 ks n14).f1) ∧ w'.cell? ⟨(adk.add (n14.toNat * 3)).block, (adk.add (n14.toNat * 3)).off + 2, none⟩ = some Ek)
    (hix : 0 ≤ n14) (hik : n14 < (ks.length : Int)) (c1 : Int) (HC1_ : term_Check.f (rd_T29 ks n14).f0 (rd_T29 ks n14).f1 (rd_T29 ks n14).f2 = some c1) (HC2_ : thyrsusref4_Check.f (rd_T29 ks n14).f0 (rd_T29 ks n14).f1 (rd_T29 ks n14).f2 = some c1)
    (hQ : ∀ (w' : World), Below W.heap.size W w' → Q .normal (((((((((((a.put (some 43) (.slice (some adk) ks.length ck)).put (some 44) (.int .i64 n14)).put (some 45) (.pointer (some (adk.add (n14.toNat * 3))))).put (some 46) (.agg #[.int .i64 (rd_T29 ks n14).f0, .int .i64 (rd_T29 ks n14).f1, Ek])).put (some 47) (.int .i64 c1)).put (some 48) (.slice (some adk) ks.length ck)).put (some 49) (.int .i64 n14)).put (some 50) (.pointer (some (adk.add (n14.toNat * 3))))).put (some 51) (.agg #[.int .i64 (rd_T29 ks n14).f0, .int .i64 (rd_T29 ks n14).f1, Ek])).put (some 52) (.int .i64 c1)).put (some 53) (.bool false)) w') :
    (Code.region 11 (opsOf Tryd.f8 11) true).wp Tryd.prog Q a W := by
  have HT_ := Aside0.mk thyrsuslaw4_TermChecks.tab11
  have HW_ := Aside0.mk thyrsuslaw4_TermChecks.bits11
  have TEk := Aside0.mk TE_
  have HEk := Aside0.mk HE_
  have HC1 := Aside0.mk HC1_
  have HC2 := Aside0.mk HC2_
  clear TE_ HE_ HC1_ HC2_
  replace hix := eq_true hix
  replace hik := eq_true hik
  have HB := Aside0.mk (below_drew1 (Below.refl W.heap.size W))
  conv in (opsOf Tryd.f8 11) => whnf
  refine start_ (n := 11) (S := fun w' => True) (ds := []) #[false, false, false, false, false, false, false, false, false, false, false] (by kernel_rfl) rfl rfl trivial (fun hHeld => ?_)
  clear hHeld
  generalize W.drew = W1 at HB ⊢
  refine inv_at [0, 1, 2, 3, 4, 5, 6, 7, 8, 9, 10] (fun a0_ b a w' => a = putSel a0_ b [(0, 43, .slice (some adk) ks.length ck), (1, 44, .int .i64 n14), (2, 45, .pointer (some (adk.add (n14.toNat * 3)))), (3, 46, .agg #[.int .i64 (rd_T29 ks n14).f0, .int .i64 (rd_T29 ks n14).f1, Ek]), (4, 47, .int .i64 c1), (5, 48, .slice (some adk) ks.length ck), (6, 49, .int .i64 n14), (7, 50, .pointer (some (adk.add (n14.toNat * 3)))), (8, 51, .agg #[.int .i64 (rd_T29 ks n14).f0, .int .i64 (rd_T29 ks n14).f1, Ek]), (9, 52, .int .i64 c1), (10, 53, .bool false)] ∧ (Below W.heap.size W w')) HT_.out HW_.out (by kernel_rfl) (by kernel_rfl) ?_ ?_ ?_
  · exact ⟨by simp only [putSel, Bool.false_eq_true, if_false], HB.out⟩
  · skip
    clear HB
    refine steps_cons ?_ ?_
    · rintro b a w' ⟨ha, Q_HB⟩ hb_ hon hoff
      refine ⟨_, rfl, fun K hK => ?_⟩
      have e13 : a.tmps[13]? = some (.slice (some adk) ks.length ck) := by rw [ha]; exact (putSel_off rfl).trans h13
      replace ha := Aside0.mk ha
      have HB := Aside0.mk Q_HB
      refine value_ (w1 := w') (v := .slice (some adk) ks.length ck) (by rfl) rfl ?_ ?_
      · go_simp
        (try simp only [i64_w])
        try rfl
      refine hK.out _ _ ⟨(by rw [ha.out]; exact putSel_upk 0 hb_ rfl rfl rfl), Q_HB⟩
    refine steps_cons ?_ ?_
    · rintro b a w' ⟨ha, Q_HB⟩ hb_ hon hoff
      refine ⟨_, rfl, fun K hK => ?_⟩
      have e14 : a.tmps[14]? = some (.int .i64 n14) := by rw [ha]; exact (putSel_off rfl).trans hn14
      replace ha := Aside0.mk ha
      have HB := Aside0.mk Q_HB
      refine value_ (w1 := w') (v := .int .i64 n14) (by rfl) rfl ?_ ?_
      · go_simp
        (try simp only [i64_w])
        try rfl
      refine hK.out _ _ ⟨(by rw [ha.out]; exact putSel_upk 1 hb_ rfl rfl rfl), Q_HB⟩
    refine steps_cons ?_ ?_
    · rintro b a w' ⟨ha, Q_HB⟩ hb_ hon hoff
      refine ⟨_, rfl, fun K hK => ?_⟩
      have e43 : a.tmps[43]? = some (.slice (some adk) ks.length ck) := by rw [ha]; exact putSel_on (e := (0, 43, .slice (some adk) ks.length ck)) 0 rfl rfl (hon 0 (by kernel_rfl)) (by rw [hsz]; rfl)
      have e44 : a.tmps[44]? = some (.int .i64 n14) := by rw [ha]; exact putSel_on (e := (1, 44, .int .i64 n14)) 1 rfl rfl (hon 1 (by kernel_rfl)) (by rw [hsz]; rfl)
      replace ha := Aside0.mk ha
      have HB := Aside0.mk Q_HB
      refine value_ (w1 := w') (v := .pointer (some (adk.add (n14.toNat * 3)))) (by rfl) rfl ?_ ?_
      · go_simp
        (try simp only [i64_w])
        try rfl
      refine hK.out _ _ ⟨(by rw [ha.out]; exact putSel_upk 2 hb_ rfl rfl rfl), Q_HB⟩
    refine steps_cons ?_ ?_
    · rintro b a w' ⟨ha, Q_HB⟩ hb_ hon hoff
      refine ⟨_, rfl, fun K hK => ?_⟩
      have e45 : a.tmps[45]? = some (.pointer (some (adk.add (n14.toNat * 3)))) := by rw [ha]; exact putSel_on (e := (2, 45, .pointer (some (adk.add (n14.toNat * 3))))) 2 rfl rfl (hon 2 (by kernel_rfl)) (by rw [hsz]; rfl)
      replace ha := Aside0.mk ha
      have HB := Aside0.mk Q_HB
      obtain ⟨hx0_, hx1_, hx2_⟩ := HEk.out _ HB.out
      refine value_ (w1 := w') (v := .agg #[.int .i64 (rd_T29 ks n14).f0, .int .i64 (rd_T29 ks n14).f1, Ek]) (by rfl) rfl ?_ ?_
      · go_simp
        (try simp only [i64_w])
        try rfl
      refine hK.out _ _ ⟨(by rw [ha.out]; exact putSel_upk 3 hb_ rfl rfl rfl), Q_HB⟩
    refine steps_cons ?_ ?_
    · rintro b a w' ⟨ha, Q_HB⟩ hb_ hon hoff
      refine ⟨_, rfl, fun K hK => ?_⟩
      have e46 : a.tmps[46]? = some (.agg #[.int .i64 (rd_T29 ks n14).f0, .int .i64 (rd_T29 ks n14).f1, Ek]) := by rw [ha]; exact putSel_on (e := (3, 46, .agg #[.int .i64 (rd_T29 ks n14).f0, .int .i64 (rd_T29 ks n14).f1, Ek])) 3 rfl rfl (hon 3 (by kernel_rfl)) (by rw [hsz]; rfl)
      replace ha := Aside0.mk ha
      have HB := Aside0.mk Q_HB
      refine goes_ Tryd.func21 (by kernel_rfl) rfl #[.agg #[.int .i64 (rd_T29 ks n14).f0, .int .i64 (rd_T29 ks n14).f1, Ek]] (by rfl) rfl rfl (by first | (simp only [List.map_toArray, List.map_cons, List.map_nil, Act.eval, Array.getD_eq_getD_getElem?, Option.getD_some, e46]; done) | (simp only [List.map_toArray, List.map_cons, List.map_nil, Act.eval, Array.getD_eq_getD_getElem?, Option.getD_some, e46]; rfl)) ?_
      refine (tcheck_go (rd_T29 ks n14).f0 (rd_T29 ks n14).f1 Ek (rd_T29 ks n14).f2 c1 w' (TV.old (G := fun _ => False) TEk.out HB.out (fun _ h_ => h_.elim)) HC1.out).mono ?_
      rintro e w1 ⟨rfl, hb⟩
      refine ⟨_, rfl, ?_⟩
      refine hK.out _ _ ⟨(by rw [ha.out]; exact putSel_upk 4 hb_ rfl rfl rfl), below_step HB.out hb⟩
    refine steps_cons ?_ ?_
    · rintro b a w' ⟨ha, Q_HB⟩ hb_ hon hoff
      refine ⟨_, rfl, fun K hK => ?_⟩
      have e13 : a.tmps[13]? = some (.slice (some adk) ks.length ck) := by rw [ha]; exact (putSel_off rfl).trans h13
      replace ha := Aside0.mk ha
      have HB := Aside0.mk Q_HB
      refine value_ (w1 := w') (v := .slice (some adk) ks.length ck) (by rfl) rfl ?_ ?_
      · go_simp
        (try simp only [i64_w])
        try rfl
      refine hK.out _ _ ⟨(by rw [ha.out]; exact putSel_upk 5 hb_ rfl rfl rfl), Q_HB⟩
    refine steps_cons ?_ ?_
    · rintro b a w' ⟨ha, Q_HB⟩ hb_ hon hoff
      refine ⟨_, rfl, fun K hK => ?_⟩
      have e14 : a.tmps[14]? = some (.int .i64 n14) := by rw [ha]; exact (putSel_off rfl).trans hn14
      replace ha := Aside0.mk ha
      have HB := Aside0.mk Q_HB
      refine value_ (w1 := w') (v := .int .i64 n14) (by rfl) rfl ?_ ?_
      · go_simp
        (try simp only [i64_w])
        try rfl
      refine hK.out _ _ ⟨(by rw [ha.out]; exact putSel_upk 6 hb_ rfl rfl rfl), Q_HB⟩
    refine steps_cons ?_ ?_
    · rintro b a w' ⟨ha, Q_HB⟩ hb_ hon hoff
      refine ⟨_, rfl, fun K hK => ?_⟩
      have e48 : a.tmps[48]? = some (.slice (some adk) ks.length ck) := by rw [ha]; exact putSel_on (e := (5, 48, .slice (some adk) ks.length ck)) 5 rfl rfl (hon 5 (by kernel_rfl)) (by rw [hsz]; rfl)
      have e49 : a.tmps[49]? = some (.int .i64 n14) := by rw [ha]; exact putSel_on (e := (6, 49, .int .i64 n14)) 6 rfl rfl (hon 6 (by kernel_rfl)) (by rw [hsz]; rfl)
      replace ha := Aside0.mk ha
      have HB := Aside0.mk Q_HB
      refine value_ (w1 := w') (v := .pointer (some (adk.add (n14.toNat * 3)))) (by rfl) rfl ?_ ?_
      · go_simp
        (try simp only [i64_w])
        try rfl
      refine hK.out _ _ ⟨(by rw [ha.out]; exact putSel_upk 7 hb_ rfl rfl rfl), Q_HB⟩
    refine steps_cons ?_ ?_
    · rintro b a w' ⟨ha, Q_HB⟩ hb_ hon hoff
      refine ⟨_, rfl, fun K hK => ?_⟩
      have e50 : a.tmps[50]? = some (.pointer (some (adk.add (n14.toNat * 3)))) := by rw [ha]; exact putSel_on (e := (7, 50, .pointer (some (adk.add (n14.toNat * 3))))) 7 rfl rfl (hon 7 (by kernel_rfl)) (by rw [hsz]; rfl)
      replace ha := Aside0.mk ha
      have HB := Aside0.mk Q_HB
      obtain ⟨hx0_, hx1_, hx2_⟩ := HEk.out _ HB.out
      refine value_ (w1 := w') (v := .agg #[.int .i64 (rd_T29 ks n14).f0, .int .i64 (rd_T29 ks n14).f1, Ek]) (by rfl) rfl ?_ ?_
      · go_simp
        (try simp only [i64_w])
        try rfl
      refine hK.out _ _ ⟨(by rw [ha.out]; exact putSel_upk 8 hb_ rfl rfl rfl), Q_HB⟩
    refine steps_cons ?_ ?_
    · rintro b a w' ⟨ha, Q_HB⟩ hb_ hon hoff
      refine ⟨_, rfl, fun K hK => ?_⟩
      have e51 : a.tmps[51]? = some (.agg #[.int .i64 (rd_T29 ks n14).f0, .int .i64 (rd_T29 ks n14).f1, Ek]) := by rw [ha]; exact putSel_on (e := (8, 51, .agg #[.int .i64 (rd_T29 ks n14).f0, .int .i64 (rd_T29 ks n14).f1, Ek])) 8 rfl rfl (hon 8 (by kernel_rfl)) (by rw [hsz]; rfl)
      replace ha := Aside0.mk ha
      have HB := Aside0.mk Q_HB
      refine goes_ Tryd.func30 (by kernel_rfl) rfl #[.agg #[.int .i64 (rd_T29 ks n14).f0, .int .i64 (rd_T29 ks n14).f1, Ek]] (by rfl) rfl rfl (by first | (simp only [List.map_toArray, List.map_cons, List.map_nil, Act.eval, Array.getD_eq_getD_getElem?, Option.getD_some, e51]; done) | (simp only [List.map_toArray, List.map_cons, List.map_nil, Act.eval, Array.getD_eq_getD_getElem?, Option.getD_some, e51]; rfl)) ?_
      refine (rcheck_go (rd_T29 ks n14).f0 (rd_T29 ks n14).f1 Ek (rd_T29 ks n14).f2 c1 w' (TV.old (G := fun _ => False) TEk.out HB.out (fun _ h_ => h_.elim)) HC2.out).mono ?_
      rintro e w1 ⟨rfl, hb⟩
      refine ⟨_, rfl, ?_⟩
      refine hK.out _ _ ⟨(by rw [ha.out]; exact putSel_upk 9 hb_ rfl rfl rfl), below_step HB.out hb⟩
    refine steps_cons ?_ ?_
    · rintro b a w' ⟨ha, Q_HB⟩ hb_ hon hoff
      refine ⟨_, rfl, fun K hK => ?_⟩
      have e47 : a.tmps[47]? = some (.int .i64 c1) := by rw [ha]; exact putSel_on (e := (4, 47, .int .i64 c1)) 4 rfl rfl (hon 4 (by kernel_rfl)) (by rw [hsz]; rfl)
      have e52 : a.tmps[52]? = some (.int .i64 c1) := by rw [ha]; exact putSel_on (e := (9, 52, .int .i64 c1)) 9 rfl rfl (hon 9 (by kernel_rfl)) (by rw [hsz]; rfl)
      replace ha := Aside0.mk ha
      have HB := Aside0.mk Q_HB
      refine value_ (w1 := w') (v := .bool false) (by rfl) rfl ?_ ?_
      · go_simp
        (try simp only [i64_w])
        try rfl
      refine hK.out _ _ ⟨(by rw [ha.out]; exact putSel_upk 10 hb_ rfl rfl rfl), Q_HB⟩
    exact steps_nil
  · rintro b a w' hall ⟨ha, Q_HB⟩
    clear HB
    have hb0_ := hall 0 (by kernel_rfl)
    have hb1_ := hall 1 (by kernel_rfl)
    have hb2_ := hall 2 (by kernel_rfl)
    have hb3_ := hall 3 (by kernel_rfl)
    have hb4_ := hall 4 (by kernel_rfl)
    have hb5_ := hall 5 (by kernel_rfl)
    have hb6_ := hall 6 (by kernel_rfl)
    have hb7_ := hall 7 (by kernel_rfl)
    have hb8_ := hall 8 (by kernel_rfl)
    have hb9_ := hall 9 (by kernel_rfl)
    have hb10_ := hall 10 (by kernel_rfl)
    subst ha
    simp only [putSel, hb0_, hb1_, hb2_, hb3_, hb4_, hb5_, hb6_, hb7_, hb8_, hb9_, hb10_, if_true]
    have HB := Aside0.mk Q_HB
    clear Q_HB
    clear hall hb0_ hb1_ hb2_ hb3_ hb4_ hb5_ hb6_ hb7_ hb8_ hb9_ hb10_
    exact hQ     w' HB.out  
end Go.Proofs.YtcchfblekaaalaaDoor.P
/- TermChecks: its walk (genchxw.py) -/
namespace Go.Proofs.YtcchfblekaaalaaDoor.P
open Go.Proofs.YtcchfblekaaalaaDoor.Run Go.RowKit Go.Proofs.YtcchfblekaaalaaDoorW.PrintWords Go.Proofs.YtcchfblekaaalaaDoorW.PrintLast Go.Proofs.YtcchfblekaaalaaDoorW.PrintMore
set_option linter.unusedVariables false
set_option linter.unusedSimpArgs false
attribute [local go_sem] max2_int min2_int max_two min_two max_three min_three max_four min_four
theorem binders_go (a n : Int) (w : World) : Calls Tryd.prog 26 #[.int .i64 a, .int .i64 n] w fun e w' => e = .returned (.int .i64 (bnd a n)) ∧ Below w.heap.size w w' :=
  (term_Binders.calls a n (bnd a n) w rfl).mono fun e w' ⟨he, nd, hd⟩ => ⟨he, hd ▸ pw_below_drewN (Below.refl _ _) nd⟩
theorem rbinders_go (a n : Int) (w : World) : Calls Tryd.prog 31 #[.int .i64 a, .int .i64 n] w fun e w' => e = .returned (.int .i64 (bnd a n)) ∧ Below w.heap.size w w' :=
  (thyrsusref4_Binders.calls 2 a n (bnd a n) w (Pure.bindersE a n 2 (Nat.le_refl _))).mono fun e w' ⟨he, nd, hd⟩ => ⟨he, hd ▸ pw_below_drewN (Below.refl _ _) nd⟩
theorem measI {n : Int} {x : Int} (h : x < n) (hl : -1 ≤ x) (hw : wrap64 (x + 1) = x + 1) : (n - intOf (.int .i64 (wrap64 (x + 1)))).toNat < (n - intOf (.int .i64 x)).toNat := by
  rw [hw]
  show (n - (x + 1)).toNat < (n - x).toNat
  omega
theorem TV.elemK {W : World} {v : Value} {ks : List S29} (h : TV W (fun _ => False) v ks) (i : Int) (h0 : 0 ≤ i) (h1 : i < (ks.length : Int)) :
    ∃ ad c ve, v = .slice (some ad) ks.length c ∧ ks.length ≤ c ∧ TV W (fun _ => False) ve (rd_T29 ks i).f2 ∧ ∀ w', Below W.heap.size W w' → w'.cell? (ad.add (i.toNat * 3)) = some (.int .i64 (rd_T29 ks i).f0) ∧ w'.cell? ⟨(ad.add (i.toNat * 3)).block, (ad.add (i.toNat * 3)).off + 1, none⟩ = some (.int .i64 (rd_T29 ks i).f1) ∧ w'.cell? ⟨(ad.add (i.toNat * 3)).block, (ad.add (i.toNat * 3)).off + 2, none⟩ = some ve := by
  obtain ⟨A, c, rfl⟩ := Kd.V_slice h
  obtain ⟨_, hc, hC⟩ := Kd.V_reads' h
  obtain ⟨ad, A2, c2, rfl, x0, x1, x2, l2, i2⟩ := at_T29 hC i h0 h1
  obtain ⟨ce, hce, hMe, hcc⟩ := Kd.V_get h z29 i h0 h1
  obtain ⟨ua, uc, rfl, ul, ge⟩ := k29_openF hMe
  have hv := hcc 2 _ rfl
  rw [add_field _ _ 2 (by omega)] at hv
  replace hv := Option.some.inj (hv.symm.trans x2)
  injection hv with hva hvn hvc
  rw [hva] at ge
  rw [hvc] at ul
  have at_ : ∀ {p u} {w' : World}, W.cell? p = some u → Below W.heap.size W w' → w'.cell? p = some u := fun hp hb => (hb.cell (World.block_lt_of_cell? W _ hp)).trans hp
  exact ⟨ad, c, .slice A2 (rd_T29 ks i).f2.length c2, rfl, hc, Kd.V_mk ul ge, fun w' hb => ⟨at_ x0 hb, at_ x1 hb, at_ x2 hb⟩⟩
set_option maxHeartbeats 8000000 in
set_option maxRecDepth 100000 in
theorem termChecks_calls (kk : Nat) (p q : Int) (A : Option Addr) (c : Nat) (l : List S24) (a1 a2 a3 a4 : Int) (fw : Bool) (w : World) (hr : Kd.C k24 w A l.length l) (hc : l.length ≤ c) (hk : thyrsuslaw4_known.f kk = some true) (hf : thyrsuslaw1_Few.f kk p q l = some fw)
    (t0 t1 x0 x1 p0 p1 zs at_ op_ : Int) (t2 x2 p2 : List S29) (hm : thyrsuslaw1_Make.f kk p q l 6 3 = some (t0, t1, t2)) (hz : thyrsusref4_Size.f kk t0 t1 t2 = some zs) (hw1 : thyrsuslaw4_within.f a1 zs = some at_) (hw2 : thyrsuslaw4_within.f a2 33 = some op_)
    (hx : thyrsuslaw4_turned.f kk t0 t1 t2 at_ (wrap64 (op_ - 1)) a3 = some (x0, x1, x2)) (hp : thyrsuslaw1_Plain.f kk p q l = some (p0, p1, p2)) :
    Calls Tryd.prog 8 #[.agg #[.int .i64 p, .int .i64 q, .slice A l.length c], .int .i64 a1, .int .i64 a2, .int .i64 a3, .int .i64 a4] w fun e w' => e = .returned (.bool true) ∧ Below w.heap.size w w' := by
  have hu24 := Tryd.underlying24
  have hu29 := Tryd.underlying29
  have HR_ := Aside0.mk hr
  have HC_ := Aside0.mk hc
  have HK := Aside0.mk hk
  have HF := Aside0.mk hf
  have HM := Aside0.mk hm
  have HZ := Aside0.mk hz
  have HW1 := Aside0.mk hw1
  have HW2 := Aside0.mk hw2
  have HX := Aside0.mk hx
  have HP := Aside0.mk hp
  clear hr hc hk hf hm hz hw1 hw2 hx hp
  have HB := Aside0.mk (Below.refl w.heap.size w)
  cases fw with
  | false =>
    go_enter Tryd.func8, Tryd.ntmps8
    go_wp2_with (first | ((with_reducible refine gate_dst (N := 5) rfl ?_); refine box_event ?hg (N := 5) ?hd (cs := #[.int .i64 p, .int .i64 q, .slice A l.length c]) (t := 24) ?hr ?_; (case hd => rfl); (case hg => rfl); (case hr => first | (go_simp; done) | (go_simp; rfl)); intro g5 hg5 w5 hbox hb_; have B5 := Aside0.mk hbox; replace HB := Aside0.mk (below_step HB.out hb_); clear hg5 hbox hb_) | ((with_reducible refine gate_callee (f := 14) rfl ?_); refine goesL_ (some 17) rfl rfl Tryd.func14 (by kernel_rfl) rfl #[] rfl (by (try simp only [List.map_toArray, List.map_cons, List.map_nil]); first | done | rfl | (simp only [List.length_drop, List.length_take]; rfl)) ?_; refine (thyrsuslaw4_known.calls kk true _ HK.out).mono ?_; rintro e w2 ⟨rfl, hb_⟩; refine ⟨_, rfl, ?_⟩; replace B5 := Aside0.mk (blk_below B5.out hb_); replace HB := Aside0.mk (below_step HB.out hb_); clear hb_; have cr0 : w2.cell? ⟨g5, 0, none⟩ = some (.int .i64 p) := (blk_cell B5.out 0).trans rfl; have cr1 : w2.cell? ⟨g5, 1, none⟩ = some (.int .i64 q) := (blk_cell B5.out 1).trans rfl; have cr2 : w2.cell? ⟨g5, 2, none⟩ = some (.slice A l.length c) := (blk_cell B5.out 2).trans rfl) | ((with_reducible refine gate_callee (f := 15) rfl ?_); refine goesL_ (some 20) rfl rfl Tryd.func15 (by kernel_rfl) rfl #[.agg #[.int .i64 p, .int .i64 q, .slice A l.length c]] rfl (by (try simp only [List.map_toArray, List.map_cons, List.map_nil]); first | done | rfl | (simp only [List.length_drop, List.length_take]; rfl)) ?_; refine (thyrsuslaw1_Few.calls kk p q _ _ l false _ (Kd.C_below HR_.out HB.out) HC_.out HF.out).mono ?_; rintro e w3 ⟨rfl, hb_⟩; refine ⟨_, rfl, ?_⟩; clear cr0 cr1 cr2; replace B5 := Aside0.mk (blk_below B5.out hb_); replace HB := Aside0.mk (below_step HB.out hb_); clear hb_; have cr0 : w3.cell? ⟨g5, 0, none⟩ = some (.int .i64 p) := (blk_cell B5.out 0).trans rfl; have cr1 : w3.cell? ⟨g5, 1, none⟩ = some (.int .i64 q) := (blk_cell B5.out 1).trans rfl; have cr2 : w3.cell? ⟨g5, 2, none⟩ = some (.slice A l.length c) := (blk_cell B5.out 2).trans rfl))
    go_ret
    exact ⟨by first | rfl | (simp [errW_none, errW_some] <;> rfl) | (simp [*, errW_none, errW_some] <;> rfl), HB.out⟩
  | true =>
    go_enter Tryd.func8, Tryd.ntmps8
    go_wp2_with (first | ((with_reducible refine gate_dst (N := 5) rfl ?_); refine box_event ?hg (N := 5) ?hd (cs := #[.int .i64 p, .int .i64 q, .slice A l.length c]) (t := 24) ?hr ?_; (case hd => rfl); (case hg => rfl); (case hr => first | (go_simp; done) | (go_simp; rfl)); intro g5 hg5 w5 hbox hb_; have B5 := Aside0.mk hbox; replace HB := Aside0.mk (below_step HB.out hb_); clear hg5 hbox hb_) | ((with_reducible refine gate_callee (f := 14) rfl ?_); refine goesL_ (some 17) rfl rfl Tryd.func14 (by kernel_rfl) rfl #[] rfl (by (try simp only [List.map_toArray, List.map_cons, List.map_nil]); first | done | rfl | (simp only [List.length_drop, List.length_take]; rfl)) ?_; refine (thyrsuslaw4_known.calls kk true _ HK.out).mono ?_; rintro e w2 ⟨rfl, hb_⟩; refine ⟨_, rfl, ?_⟩; replace B5 := Aside0.mk (blk_below B5.out hb_); replace HB := Aside0.mk (below_step HB.out hb_); clear hb_; have cr0 : w2.cell? ⟨g5, 0, none⟩ = some (.int .i64 p) := (blk_cell B5.out 0).trans rfl; have cr1 : w2.cell? ⟨g5, 1, none⟩ = some (.int .i64 q) := (blk_cell B5.out 1).trans rfl; have cr2 : w2.cell? ⟨g5, 2, none⟩ = some (.slice A l.length c) := (blk_cell B5.out 2).trans rfl) | ((with_reducible refine gate_callee (f := 15) rfl ?_); refine goesL_ (some 20) rfl rfl Tryd.func15 (by kernel_rfl) rfl #[.agg #[.int .i64 p, .int .i64 q, .slice A l.length c]] rfl (by (try simp only [List.map_toArray, List.map_cons, List.map_nil]); first | done | rfl | (simp only [List.length_drop, List.length_take]; rfl)) ?_; refine (thyrsuslaw1_Few.calls kk p q _ _ l true _ (Kd.C_below HR_.out HB.out) HC_.out HF.out).mono ?_; rintro e w3 ⟨rfl, hb_⟩; refine ⟨_, rfl, ?_⟩; clear cr0 cr1 cr2; replace B5 := Aside0.mk (blk_below B5.out hb_); replace HB := Aside0.mk (below_step HB.out hb_); clear hb_; have cr0 : w3.cell? ⟨g5, 0, none⟩ = some (.int .i64 p) := (blk_cell B5.out 0).trans rfl; have cr1 : w3.cell? ⟨g5, 1, none⟩ = some (.int .i64 q) := (blk_cell B5.out 1).trans rfl; have cr2 : w3.cell? ⟨g5, 2, none⟩ = some (.slice A l.length c) := (blk_cell B5.out 2).trans rfl) | ((with_reducible refine gate_callee (f := 16) rfl ?_); refine goesL_ (some 23) rfl rfl Tryd.func16 (by kernel_rfl) rfl #[.agg #[.int .i64 p, .int .i64 q, .slice A l.length c], .int .i64 6, .int .i64 3] rfl (by (try simp only [List.map_toArray, List.map_cons, List.map_nil]); first | done | rfl | (simp only [List.length_drop, List.length_take]; rfl)) ?_; refine (make_go kk p q A c l 6 3 t0 t1 t2 _ (fun _ => False) (fun _ h => h.elim) (Kd.C_below HR_.out HB.out) HC_.out HM.out).mono ?_; rintro e w4 ⟨vt, rfl, hv_, hb_⟩; refine ⟨_, rfl, ?_⟩; obtain ⟨At, ct, rfl⟩ := Kd.V_slice hv_; have T11 := Aside0.mk hv_; clear cr0 cr1 cr2 hv_; replace B5 := Aside0.mk (blk_below B5.out hb_); replace HB := Aside0.mk (below_step HB.out hb_); clear hb_) | ((with_reducible refine gate_dst (N := 11) rfl ?_); refine box_event ?hg (N := 11) ?hd (cs := #[.int .i64 0, .int .i64 0, .slice none 0 0]) (t := 29) ?hr ?_; (case hd => rfl); (case hg => rfl); (case hr => first | (go_simp; done) | (go_simp; rfl)); intro g11 hg11 w6 hbox hb_; have B11 := Aside0.mk hbox; have HBZ := Aside0.mk (And.intro hg11 hb_); clear hbox hg11 hb_; have hs0 : w6.cell? ⟨g11, 0, none⟩ = some (.int .i64 0) := (blk_cell B11.out 0).trans rfl; have hs1 : w6.cell? ⟨g11, 1, none⟩ = some (.int .i64 0) := (blk_cell B11.out 1).trans rfl; have hs2 : w6.cell? ⟨g11, 2, none⟩ = some (.slice none 0 0) := (blk_cell B11.out 2).trans rfl; have hf0 := blk_frozen B11.out 0; have hf1 := blk_frozen B11.out 1; have hf2 := blk_frozen B11.out 2))
    have nB := Aside0.mk (blk_set3 B11.out rfl (.int .i64 t0) (.int .i64 t1) (.slice At t2.length ct))
    have hb_ := below_set3 HBZ.out.2 (Nat.le_of_eq HBZ.out.1.symm) (.int .i64 t0) (.int .i64 t1) (.slice At t2.length ct)
    replace B5 := Aside0.mk (blk_below B5.out hb_)
    replace HB := Aside0.mk (below_step HB.out hb_)
    replace T11 := Aside0.mk (TV.step T11.out hb_)
    replace B11 := nB
    clear nB hb_ HBZ hs0 hs1 hs2 hf0 hf1 hf2
    refine checks_r6 (by rfl) kk t0 t1 (.slice At t2.length ct) t2 g11 rfl B11.out T11.out a1 rfl a2 rfl a3 rfl zs at_ op_ HW1.out HW2.out x0 x1 x2 HZ.out HX.out ?_
    rintro u9 g12 w8 hb_ _ S12 F12
    replace B5 := Aside0.mk (blk_below B5.out hb_)
    replace HB := Aside0.mk (below_step HB.out hb_)
    replace B11 := Aside0.mk (blk_below B11.out hb_)
    replace T11 := Aside0.mk (TV.step T11.out hb_)
    have B12 := Aside0.mk S12
    have T12 := Aside0.mk F12
    clear hb_ S12 F12
    (try simp only [Act.put, List.setIfInBounds_toArray, List.set_cons_zero, List.set_cons_succ])
    try go_wp2
    refine checks_r7 (by rfl) kk t0 t1 (.slice At t2.length ct) t2 g11 rfl B11.out T11.out x0 x1 u9 x2 g12 rfl B12.out T12.out p q A c l g5 rfl B5.out (Kd.C_below HR_.out HB.out) HC_.out p0 p1 p2 0 0 ([⟨t0, t1, t2⟩, ⟨x0, x1, x2⟩, ⟨p0, p1, p2⟩] : List S29) HP.out rfl ?_
    rintro u3 u4 w9 hb_ F13
    replace HB := Aside0.mk (below_step HB.out hb_)
    obtain ⟨A13, c13, e13⟩ := Kd.V_slice F13
    replace e13 : u4 = .slice A13 3 c13 := e13
    subst e13
    have T13 := Aside0.mk F13
    clear hb_ F13 B5 B11 B12 T11 T12
    (try simp only [Act.put, List.setIfInBounds_toArray, List.set_cons_zero, List.set_cons_succ])
    go_wp2
    go_loopw [14] (fun v14 w_ => ∃ (i : Nat), i ≤ 3 ∧ v14 = .int .i64 i ∧ Aside0 (TV w_ (fun _ => False) (.slice A13 3 c13) ([⟨t0, t1, t2⟩, ⟨x0, x1, x2⟩, ⟨p0, p1, p2⟩] : List S29)) ∧ Aside0 (Below w.heap.size w w_)) (fun v14 _ => 3 - (intOf v14).toNat)
    case atStart => exact ⟨0, Nat.zero_le _, rfl, T13, HB⟩
    case round =>
      clear T13 HB
      obtain ⟨i, hi, rfl, T13, HB⟩ := hrel
      by_cases hlt : i < 3
      · have e1 : ((i : Int) < 3) = True := eq_true (by omega)
        have e3 : decide ((i : Int) < 3) = true := decide_eq_true (by omega)
        have W3 := Aside0.mk (show wrap64 ((i : Int) + 1) = ((i + 1 : Nat) : Int) from (by unfold wrap64; omega))
        have HI := Aside0.mk hlt
        have HI0 := Aside0.mk (show 0 ≤ (i : Int) by omega)
        have HI3 := Aside0.mk (show (i : Int) < ((([⟨t0, t1, t2⟩, ⟨x0, x1, x2⟩, ⟨p0, p1, p2⟩] : List S29)).length : Int) from (show (i : Int) < 3 by omega))
        clear hlt hi
        go_wp2
        obtain ⟨adk, ck, Ek, ev_, hl_, te_, he_⟩ := TV.elemK T13.out (i : Int) HI0.out HI3.out
        injection ev_ with ev_ _ ec_
        subst ev_
        subst ec_
        refine checks_r11 (by rfl) kk (i : Int) rfl ([⟨t0, t1, t2⟩, ⟨x0, x1, x2⟩, ⟨p0, p1, p2⟩] : List S29) c13 adk Ek rfl te_ he_ HI0.out HI3.out _ rfl rfl ?_
        rintro w11 hb_
        replace T13 := Aside0.mk (TV.step T13.out hb_)
        replace HB := Aside0.mk (below_step HB.out hb_)
        clear hb_ te_ he_ hl_
        (try simp only [Act.put, List.setIfInBounds_toArray, List.set_cons_zero, List.set_cons_succ])
        go_wp2
        go_roundw
        case measure => exact meas HI.out W3.out
        case rel => exact ⟨i + 1, HI.out, by rw [W3.out], T13, HB⟩
      · obtain ⟨z, hz⟩ : ∃ z : Int, z = (i : Int) := ⟨_, rfl⟩
        rw [← hz]
        have e1 : (z < 3) = False := eq_false (by omega)
        have e3 : decide (z < 3) = false := decide_eq_false (by omega)
        clear hi hlt hz
        go_wp2
        go_loopw [15] (fun v15 w_ => ∃ (o : Int), -1 ≤ o ∧ o ≤ 33 ∧ v15 = .int .i64 o ∧ Aside0 (Below w.heap.size w w_)) (fun v15 _ => (33 - intOf v15).toNat)
        case atStart => exact ⟨-1, by decide, by decide, rfl, HB⟩
        case round =>
          clear HB T13
          obtain ⟨o, ho1, ho2, rfl, HB⟩ := hrel
          by_cases hlo : o < 33
          · have f1 : (o < 33) = True := eq_true hlo
            have f3 : decide (o < 33) = true := decide_eq_true hlo
            have W4 := Aside0.mk (show wrap64 (o + 1) = o + 1 from (by unfold wrap64; omega))
            have HO := Aside0.mk (And.intro ho1 hlo)
            clear ho1 ho2 hlo
            go_wp2
            go_loopw [16] (fun v16 w_ => ∃ (j : Int), -1 ≤ j ∧ j ≤ 5 ∧ v16 = .int .i64 j ∧ Aside0 (Below w.heap.size w w_)) (fun v16 _ => (5 - intOf v16).toNat)
            case atStart => exact ⟨-1, by decide, by decide, rfl, HB⟩
            case round =>
              clear HB
              obtain ⟨j, hj1, hj2, rfl, HB⟩ := hrel
              by_cases hlj : j < 5
              · have k1 : (j < 5) = True := eq_true hlj
                have k3 : decide (j < 5) = true := decide_eq_true hlj
                have W5 := Aside0.mk (show wrap64 (j + 1) = j + 1 from (by unfold wrap64; omega))
                have HJ := Aside0.mk (And.intro hj1 hlj)
                clear hj1 hj2 hlj
                go_wp2_with (first | ((with_reducible refine gate_callee (f := 26) rfl ?_); refine goesL_ (some 64) rfl rfl Tryd.func26 (by kernel_rfl) rfl #[.int .i64 o, .int .i64 j] rfl (by (try simp only [List.map_toArray, List.map_cons, List.map_nil]); first | done | rfl | (simp only [List.length_drop, List.length_take]; rfl)) ?_; refine (binders_go o j _).mono ?_; rintro e w12 ⟨rfl, hb_⟩; refine ⟨_, rfl, ?_⟩; replace HB := Aside0.mk (below_step HB.out hb_); clear hb_) | ((with_reducible refine gate_callee (f := 31) rfl ?_); refine goesL_ (some 67) rfl rfl Tryd.func31 (by kernel_rfl) rfl #[.int .i64 o, .int .i64 j] rfl (by (try simp only [List.map_toArray, List.map_cons, List.map_nil]); first | done | rfl | (simp only [List.length_drop, List.length_take]; rfl)) ?_; refine (rbinders_go o j _).mono ?_; rintro e w13 ⟨rfl, hb_⟩; refine ⟨_, rfl, ?_⟩; replace HB := Aside0.mk (below_step HB.out hb_); clear hb_))
                go_roundw
                case measure => exact measI HJ.out.2 HJ.out.1 W5.out
                case rel => exact ⟨j + 1, by have := HJ.out; omega, by have := HJ.out; omega, by rw [W5.out], HB⟩
              · have k1 : (j < 5) = False := eq_false hlj
                have k3 : decide (j < 5) = false := decide_eq_false hlj
                clear hj1 hj2 hlj
                go_wp2
                go_roundw
                case measure => exact measI HO.out.2 HO.out.1 W4.out
                case rel => exact ⟨o + 1, by have := HO.out; omega, by have := HO.out; omega, by rw [W4.out], HB⟩
          · have f1 : (o < 33) = False := eq_false hlo
            have f3 : decide (o < 33) = false := decide_eq_false hlo
            clear ho1 ho2 hlo
            go_wp2_with (first | ((with_reducible refine gate_callee (f := 26) rfl ?_); refine goesL_ (some 71) rfl rfl Tryd.func26 (by kernel_rfl) rfl #[.int .i64 a2, .int .i64 a4] rfl (by (try simp only [List.map_toArray, List.map_cons, List.map_nil]); first | done | rfl | (simp only [List.length_drop, List.length_take]; rfl)) ?_; refine (binders_go a2 a4 _).mono ?_; rintro e w14 ⟨rfl, hb_⟩; refine ⟨_, rfl, ?_⟩; replace HB := Aside0.mk (below_step HB.out hb_); clear hb_) | ((with_reducible refine gate_callee (f := 31) rfl ?_); refine goesL_ (some 74) rfl rfl Tryd.func31 (by kernel_rfl) rfl #[.int .i64 a2, .int .i64 a4] rfl (by (try simp only [List.map_toArray, List.map_cons, List.map_nil]); first | done | rfl | (simp only [List.length_drop, List.length_take]; rfl)) ?_; refine (rbinders_go a2 a4 _).mono ?_; rintro e w15 ⟨rfl, hb_⟩; refine ⟨_, rfl, ?_⟩; replace HB := Aside0.mk (below_step HB.out hb_); clear hb_))
            go_ret
            exact ⟨by first | rfl | (simp [errW_none, errW_some] <;> rfl) | (simp [*, errW_none, errW_some] <;> rfl), HB.out⟩
end Go.Proofs.YtcchfblekaaalaaDoor.P
/- TermChecks, the plain law: what is asked for is there. -/
namespace Go.Proofs.YtcchfblekaaalaaDoor.Pure
open Go.RowKit Go.Proofs.YtcchfblekaaalaaDoor.P Go.Proofs.YtcchfblekaaalaaDoorW.PrintWords Go.Proofs.YtcchfblekaaalaaDoorW.PrintLast Go.Proofs.YtcchfblekaaalaaDoorW.PrintMore
set_option linter.unusedVariables false
mutual
theorem rsize_run {B : Int} : ∀ (t : S29) (k : Nat), good B t → size29 t ≤ 1000000000 → 3 * size29 t ≤ k → thyrsusref4_Size.f k t.f0 t.f1 t.f2 = some (size29 t : Int)
  | ⟨a, b, l⟩, k, hg, hs, hk => by
    rw [size29] at hs hk ⊢
    obtain ⟨k, rfl⟩ : ∃ k', k = k' + 1 := ⟨k - 1, by omega⟩
    rw [thyrsusref4_Size.f]
    have := rsize_loop (B := B) (a := a) (b := b) l [] 1 k l rfl hg.2.2.2 hg.2.2.1 (by omega) (by omega)
    rw [List.length_nil] at this
    exact this
theorem rsize_loop {B a b : Int} : ∀ (r pre : List S29) (c k : Nat) (l : List S29), l = pre ++ r → goods B r → l.length ≤ 1000000 → c + sizes29 r ≤ 1000000000 → 1 + 3 * sizes29 r ≤ k →
    thyrsusref4_Size.l0 k (c : Int) (pre.length : Int) a b l = some ((c + sizes29 r : Nat) : Int)
  | [], pre, c, k, l, hl, hg, hn, hs, hk => by
    obtain ⟨k, rfl⟩ : ∃ k', k = k' + 1 := ⟨k - 1, by omega⟩
    subst hl
    rw [thyrsusref4_Size.l0, if_neg (by simp), sizes29, Nat.add_zero]
  | x :: r, pre, c, k, l, hl, hg, hn, hs, hk => by
    rw [sizes29] at hk hs
    have hp := size_pos x
    obtain ⟨k, rfl⟩ : ∃ k', k = k' + 1 := ⟨k - 1, by omega⟩
    have hlen : l.length = pre.length + (r.length + 1) := by rw [hl, List.length_append, List.length_cons]
    have hx : rd_T29 l (pre.length : Int) = x := by
      rw [rd29 (show pre.length < l.length by omega)]
      subst hl
      simp
    have ih := rsize_loop (B := B) (a := a) (b := b) r (pre ++ [x]) (c + size29 x) k l (by rw [hl, List.append_assoc]; rfl) hg.2 hn (by omega) (by omega)
    rw [List.length_append, List.length_singleton] at ih
    rw [thyrsusref4_Size.l0, if_pos (by omega), if_pos (by omega), hx, rsize_run x k hg.1 (by omega) (by omega), Option.bind_some, wrap_in (by omega) (by omega), wrap_in (by omega) (by omega), show (pre.length : Int) + 1 = ((pre.length + 1 : Nat) : Int) by omega, show (c : Int) + (size29 x : Int) = ((c + size29 x : Nat) : Int) by omega, ih, sizes29]
    congr 2
    omega
end
mutual
theorem turned_ex {B op n : Int} : ∀ (t : S29) (at_ : Int), good B t → size29 t ≤ 1000000000 → 0 ≤ at_ → at_ ≤ 1000000000 → ∃ r, ∀ k, 5 * size29 t + 5 ≤ k → thyrsuslaw4_turned.f k t.f0 t.f1 t.f2 at_ op n = some r
  | ⟨a, b, l⟩, at_, hg, hs, h0, h1 => by
    rw [size29] at hs
    by_cases hz : at_ = 0
    · by_cases hn : Int.tmod n 2 = 0
      · refine ⟨(op, b, l), fun k hk => ?_⟩
        obtain ⟨k, rfl⟩ : ∃ k', k = k' + 1 := ⟨k - 1, by omega⟩
        show thyrsuslaw4_turned.f (k + 1) a b l at_ op n = _
        rw [thyrsuslaw4_turned.f, if_pos hz, if_pos hn]
      · refine ⟨(a, n, l), fun k hk => ?_⟩
        obtain ⟨k, rfl⟩ : ∃ k', k = k' + 1 := ⟨k - 1, by omega⟩
        show thyrsuslaw4_turned.f (k + 1) a b l at_ op n = _
        rw [thyrsuslaw4_turned.f, if_pos hz, if_neg hn]
    · obtain ⟨r, hr⟩ := turned_lx (B := B) (op := op) (n := n) (a := a) (b := b) l [] (at_ - 1) hg.2.2.2 (by simpa using hg.2.2.1) (by omega) (by omega) (by omega)
      refine ⟨r, fun k hk => ?_⟩
      rw [size29] at hk
      obtain ⟨k, rfl⟩ : ∃ k', k = k' + 1 := ⟨k - 1, by omega⟩
      have := hr k (by omega)
      have hl := hg.2.2.1
      show thyrsuslaw4_turned.f (k + 1) a b l at_ op n = _
      rw [thyrsuslaw4_turned.f, if_neg hz, Option.bind_some, if_pos (by simp; omega), wrap_in (by omega) (by omega)]
      exact this
theorem turned_lx {B op n a b : Int} : ∀ (r done : List S29) (x1 : Int), goods B r → (done ++ r).length ≤ 1000000 → sizes29 r ≤ 1000000000 → -1000000000 ≤ x1 - sizes29 r → x1 ≤ 1000000000 →
    ∃ R, ∀ k, 6 + 5 * sizes29 r ≤ k → thyrsuslaw4_turned.l0 k x1 op n (done.length : Int) a b (done ++ r) = some R
  | [], done, x1, hg, hn, hs, h0, h1 => ⟨(a, b, done ++ []), fun k hk => by
    obtain ⟨k, rfl⟩ : ∃ k', k = k' + 1 := ⟨k - 1, by omega⟩
    rw [thyrsuslaw4_turned.l0, if_neg (by simp)]⟩
  | x :: r, done, x1, hg, hn, hs, h0, h1 => by
    rw [sizes29] at hs h0
    have hp := size_pos x
    have hlen : (done ++ x :: r).length = done.length + (r.length + 1) := by rw [List.length_append, List.length_cons]
    have hx : rd_T29 (done ++ x :: r) (done.length : Int) = x := by
      rw [rd29 (show done.length < (done ++ x :: r).length by omega)]
      simp
    have nxt : ∀ y : S29, ∃ R, ∀ k, 6 + 5 * sizes29 r ≤ k → thyrsuslaw4_turned.l0 k (x1 - size29 x) op n ((done.length + 1 : Nat) : Int) a b (done ++ y :: r) = some R := fun y => by
      obtain ⟨R, hR⟩ := turned_lx (B := B) (op := op) (n := n) (a := a) (b := b) r (done ++ [y]) (x1 - size29 x) hg.2 (by rw [List.append_assoc]; show (done ++ y :: r).length ≤ 1000000; rw [List.length_append, List.length_cons]; omega) (by omega) (by omega) (by omega)
      refine ⟨R, fun k hk => ?_⟩
      have := hR k hk
      rw [List.append_assoc, List.length_append] at this
      exact this
    have unf : ∀ k, 3 * size29 x ≤ k → thyrsuslaw4_turned.l0 (k + 1) x1 op n (done.length : Int) a b (done ++ x :: r) = if x1 ≥ 0 then (if x1 < (size29 x : Int) then (thyrsuslaw4_turned.f k x.f0 x.f1 x.f2 x1 op n).bind fun bt => thyrsuslaw4_turned.l0 k (x1 - size29 x) op n ((done.length + 1 : Nat) : Int) a b (done ++ (⟨bt.1, bt.2.1, bt.2.2⟩ : S29) :: r) else thyrsuslaw4_turned.l0 k (x1 - size29 x) op n ((done.length + 1 : Nat) : Int) a b (done ++ x :: r)) else thyrsuslaw4_turned.l0 k (x1 - size29 x) op n ((done.length + 1 : Nat) : Int) a b (done ++ x :: r) := fun k hk => by
      have q1 : (done.length : Int) < ((done ++ x :: r).length : Int) := by omega
      have q2 : wrap64 ((done.length : Int) + 1) = ((done.length + 1 : Nat) : Int) := (wrap_in (by omega) (by omega)).trans (by omega)
      have q3 : wrap64 (x1 - (size29 x : Int)) = x1 - size29 x := wrap_in (by omega) (by omega)
      have q4 : ∀ y : S29, (done ++ x :: r).set done.length y = done ++ y :: r := fun y => by
        rw [set_mid, List.append_assoc]
        rfl
      rw [thyrsuslaw4_turned.l0, if_pos q1, if_pos (Int.natCast_nonneg _), hx, rsize_run x k hg.1 (by omega) hk, Option.bind_some, q2, q3]
      simp only [Int.toNat_natCast, q4]
    by_cases c1 : x1 ≥ 0
    · by_cases c2 : x1 < (size29 x : Int)
      · obtain ⟨⟨y0, y1, y2⟩, hy⟩ := turned_ex (B := B) (op := op) (n := n) x x1 hg.1 (by omega) c1 h1
        obtain ⟨R, hR⟩ := nxt ⟨y0, y1, y2⟩
        refine ⟨R, fun k hk => ?_⟩
        rw [sizes29] at hk
        obtain ⟨k, rfl⟩ : ∃ k', k = k' + 1 := ⟨k - 1, by omega⟩
        rw [unf k (by omega), if_pos c1, if_pos c2, hy k (by omega), Option.bind_some]
        exact hR k (by omega)
      · obtain ⟨R, hR⟩ := nxt x
        refine ⟨R, fun k hk => ?_⟩
        rw [sizes29] at hk
        obtain ⟨k, rfl⟩ : ∃ k', k = k' + 1 := ⟨k - 1, by omega⟩
        rw [unf k (by omega), if_pos c1, if_neg c2]
        exact hR k (by omega)
    · obtain ⟨R, hR⟩ := nxt x
      refine ⟨R, fun k hk => ?_⟩
      rw [sizes29] at hk
      obtain ⟨k, rfl⟩ : ∃ k', k = k' + 1 := ⟨k - 1, by omega⟩
      rw [unf k (by omega), if_neg c1]
      exact hR k (by omega)
end
mutual
theorem plain_ex : ∀ x : S24, WF24 x → ∃ r m, ∀ k, m ≤ k → thyrsuslaw1_Plain.f k x.f0 x.f1 x.f2 = some r
  | ⟨a, b, l⟩, hx => by
    cases hx with
    | mk _ _ _ ha hb hlen hl =>
      have w1 := within1_val (i64_of ha) (n := 256) (by omega) (by omega)
      obtain ⟨R, m, hR⟩ := plain_lx (a := a) (b := b) (c := a % 256) (d := b) l [] [] (fun x hx => hl x (by simpa using hx)) rfl (by simp)
      refine ⟨R, m + 1, fun k hk => ?_⟩
      obtain ⟨k, rfl⟩ : ∃ k', k = k' + 1 := ⟨k - 1, by omega⟩
      show thyrsuslaw1_Plain.f (k + 1) a b l = _
      rw [thyrsuslaw1_Plain.f, w1, Option.bind_some]
      exact hR k (by omega)
theorem plain_lx {a b c d : Int} : ∀ (r : List S24) (done : List S24) (acc : List S29), (∀ x ∈ done ++ r, WF24 x) → acc.length = done.length → done.length ≤ 255 →
    ∃ R m, ∀ k, m ≤ k → thyrsuslaw1_Plain.l0 k (done.length : Int) a b (done ++ r) c d acc = some R
  | [], done, acc, hw, ha, hd => ⟨(c, d, acc), 1, fun k hk => by
    obtain ⟨k, rfl⟩ : ∃ k', k = k' + 1 := ⟨k - 1, by omega⟩
    rw [thyrsuslaw1_Plain.l0, if_neg (by simp)]⟩
  | x :: r, done, acc, hw, ha, hd => by
    have hlen : (done ++ x :: r).length = done.length + (r.length + 1) := by rw [List.length_append, List.length_cons]
    by_cases h5 : (done.length : Int) < 255
    · have hx : rd_T24 (done ++ x :: r) (done.length : Int) = x := by
        rw [rd24 (show done.length < (done ++ x :: r).length by omega)]
        simp
      obtain ⟨⟨y0, y1, y2⟩, m1, hy⟩ := plain_ex x (hw x (by simp))
      obtain ⟨R, m2, hR⟩ := plain_lx (a := a) (b := b) (c := c) (d := d) r (done ++ [x]) (acc ++ [⟨y0, y1, y2⟩]) (fun z hz => hw z (by simpa using hz)) (by simp [ha]) (by simp; omega)
      refine ⟨R, m1 + m2 + 1, fun k hk => ?_⟩
      obtain ⟨k, rfl⟩ : ∃ k', k = k' + 1 := ⟨k - 1, by omega⟩
      have q2 : wrap64 ((done.length : Int) + 1) = ((done.length + 1 : Nat) : Int) := (wrap_in (by omega) (by omega)).trans (by omega)
      rw [thyrsuslaw1_Plain.l0, if_pos (by omega), if_pos h5, if_pos (Int.natCast_nonneg _), hx, hy k (by omega), Option.bind_some, if_pos (by omega), q2]
      have := hR k (by omega)
      rw [List.append_assoc, List.length_append] at this
      exact this
    · refine ⟨(c, d, acc), 1, fun k hk => ?_⟩
      obtain ⟨k, rfl⟩ : ∃ k', k = k' + 1 := ⟨k - 1, by omega⟩
      rw [thyrsuslaw1_Plain.l0, if_pos (by omega), if_neg h5]
end
end Go.Proofs.YtcchfblekaaalaaDoor.Pure
namespace Go.Proofs.YtcchfblekaaalaaDoor.P
open Go.Proofs.YtcchfblekaaalaaDoor.Pure Go.RowKit Go.Proofs.YtcchfblekaaalaaDoorW.PrintWords Go.Proofs.YtcchfblekaaalaaDoorW.PrintLast Go.Proofs.YtcchfblekaaalaaDoorW.PrintMore
set_option linter.unusedVariables false
theorem termChecks_walk (x0 : S24) (A0 : Option Addr) (c0 : Nat) {W : World} (hl0 : x0.f2.length ≤ c0) (hC0 : Kd.C k24 W A0 x0.f2.length x0.f2) (wf0 : WF24 x0) (a1 : Int) (w1 : (Lit.int .i64 a1).wf = true) (a2 : Int) (w2 : (Lit.int .i64 a2).wf = true) (a3 : Int) (w3 : (Lit.int .i64 a3).wf = true) (a4 : Int) (w4 : (Lit.int .i64 a4).wf = true) :
    Calls Tryd.prog 8 #[.agg #[.int .i64 x0.f0, .int .i64 x0.f1, .slice A0 x0.f2.length c0], .int .i64 a1, .int .i64 a2, .int .i64 a3, .int .i64 a4] W fun e w' => e = .returned (.bool true) ∧ Below W.heap.size W w' := by
  obtain ⟨fw, ⟨k1, e1⟩, _⟩ := few_ev wf0
  obtain ⟨t, ⟨k2, e2⟩, h2, h3, h4⟩ := make2_all 6 x0 wf0 6 3 (by omega) (by omega) (by omega) (by omega) (by omega)
  have hc : cap 6 ≤ 100000 := by decide
  have hg : good 1000 t := mk_good (by omega) t h2 (by omega)
  have hp := size_pos t
  obtain ⟨at_, la, ea⟩ := within_ex (i64_of w1) (n := (size29 t : Int)) (by omega) (by omega)
  obtain ⟨op_, lo, eo⟩ := within_ex (i64_of w2) (n := 33) (by decide) (by decide)
  obtain ⟨⟨x1, x2, x3⟩, hx⟩ := turned_ex (B := 1000) (op := wrap64 ((op_ : Int) - 1)) (n := a3) t at_ hg (by omega) (by omega) (by omega)
  obtain ⟨⟨p0, p1, p2⟩, k3, e3⟩ := plain_ex x0 wf0
  have hk : ∃ kk, k1 ≤ kk ∧ k2 ≤ kk ∧ k3 ≤ kk ∧ 10 ≤ kk ∧ 5 * size29 t + 5 ≤ kk := ⟨k1 + k2 + k3 + 10 + (5 * size29 t + 5), by omega, by omega, by omega, by omega, by omega⟩
  obtain ⟨kk, q1, q2, q3, q4, q5⟩ := hk
  exact termChecks_calls kk x0.f0 x0.f1 A0 c0 x0.f2 a1 a2 a3 a4 fw W hC0 hl0 (known_k q4) (e1 kk q1) t.f0 t.f1 x1 x2 p0 p1 (size29 t) at_ op_ t.f2 x3 p2 (e2 kk q2) (rsize_run t kk hg (by omega) (by omega)) ea eo (hx kk q5) (e3 kk q3)
end Go.Proofs.YtcchfblekaaalaaDoor.P
