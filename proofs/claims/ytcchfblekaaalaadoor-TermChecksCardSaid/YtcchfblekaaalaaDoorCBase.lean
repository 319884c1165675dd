/- Chapter 4: what terms' check answers, plainly; some words on memory. -/
import Derived.Test.YtcchfblekaaalaaDoorCHandBind
namespace Go.Proofs.YtcchfblekaaalaaDoor.Run
open Go.RowKit Go.Proofs.YtcchfblekaaalaaDoor.P Go.Proofs.YtcchfblekaaalaaDoorW.PrintWords Go.Proofs.YtcchfblekaaalaaDoorW.PrintLast Go.Proofs.YtcchfblekaaalaaDoorW.PrintMore
set_option linter.unusedVariables false
/-- How many kids an Op has. -/
def counts : List Int := [-1, 0, 0, 2, 2, 2, 2, 3, 1, 1, 0, 0, 1, 4, 0, 0, 2, 2, 1, 1, 2, 2, 2, 1, 1, 0, 2, 3, 2, 2, 1]
def kidsOf (o : Int) : Int := if 0 ≤ o ∧ o < 31 then counts.getD o.toNat 0 else -1
def numOk (o n : Int) : Bool :=
  if o = 1 then decide (0 ≤ n) && decide (n ≤ 3000)
  else if o = 2 then decide (0 ≤ n) && decide (n ≤ 2)
  else if o = 26 then decide (0 ≤ n) && decide (n ≤ 4)
  else if o = 25 then true
  else n == 0
/-- One term after the other, as long as nothing is wrong. -/
def chkAll (rec : S29 → Int → Int × Int) : List S29 → Int → Int × Int
  | [], n => (n, 0)
  | x :: r, n => if (rec x n).2 ≠ 0 then rec x n else chkAll rec r (rec x n).1
/-- What is wrong with a term, so many nodes read: how many nodes then; d: how much deeper may be. -/
def chk : Nat → S29 → Int → Int × Int
  | 0, _, n => (n + 1, 5)
  | d + 1, t, n =>
    if n + 1 > 3000 then (n + 1, 5)
    else if kidsOf t.f0 ≠ (t.f2.length : Int) ∨ numOk t.f0 t.f1 = false then (n + 1, 1)
    else chkAll (chk d) t.f2 (n + 1)
theorem chkAll_range {rec : S29 → Int → Int × Int} (h : ∀ x n, 0 ≤ n → n ≤ 3000 → 0 ≤ (rec x n).1 ∧ (rec x n).1 ≤ 3001 ∧ ((rec x n).2 = 0 → (rec x n).1 ≤ 3000)) : ∀ l n, 0 ≤ n → n ≤ 3000 → 0 ≤ (chkAll rec l n).1 ∧ (chkAll rec l n).1 ≤ 3001 ∧ ((chkAll rec l n).2 = 0 → (chkAll rec l n).1 ≤ 3000)
  | [], n, h0, h1 => ⟨h0, by show n ≤ 3001; omega, fun _ => h1⟩
  | x :: r, n, h0, h1 => by
    have hx := h x n h0 h1
    rw [chkAll]
    by_cases he : (rec x n).2 ≠ 0
    · rw [if_pos he]
      exact hx
    · rw [if_neg he]
      exact chkAll_range h r _ hx.1 (hx.2.2 (by simpa using he))
theorem chk_range : ∀ d t n, 0 ≤ n → n ≤ 3000 → 0 ≤ (chk d t n).1 ∧ (chk d t n).1 ≤ 3001 ∧ ((chk d t n).2 = 0 → (chk d t n).1 ≤ 3000)
  | 0, t, n, h0, h1 => ⟨by show 0 ≤ n + 1; omega, by show n + 1 ≤ 3001; omega, fun h => absurd (show (5 : Int) = 0 from h) (by decide)⟩
  | d + 1, t, n, h0, h1 => by
    rw [chk]
    by_cases h : n + 1 > 3000
    · rw [if_pos h]
      exact ⟨by show 0 ≤ n + 1; omega, by show n + 1 ≤ 3001; omega, fun h => absurd (show (5 : Int) = 0 from h) (by decide)⟩
    · rw [if_neg h]
      by_cases h2 : kidsOf t.f0 ≠ (t.f2.length : Int) ∨ numOk t.f0 t.f1 = false
      · rw [if_pos h2]
        exact ⟨by show 0 ≤ n + 1; omega, by show n + 1 ≤ 3001; omega, fun h => absurd (show (1 : Int) = 0 from h) (by decide)⟩
      · rw [if_neg h2]
        exact chkAll_range (fun x n a b => chk_range d x n a b) _ _ (by omega) (by omega)
theorem size_alloc (w : World) (o : Obj) : (w.alloc o).heap.size = w.heap.size + 1 := by simp [World.alloc, -World.alloc_eq]
end Go.Proofs.YtcchfblekaaalaaDoor.Run
