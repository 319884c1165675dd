/- A plain model of chapter 12: values, environments, what a term runs to; and how they lie in memory. -/
import Derived.Test.YtnecmclnokikoaaDoorCPx0
namespace Go.Proofs.YtnecmclnokikoaaDoor.Run
open Go.RowKit Go.Proofs.YtnecmclnokikoaaDoor.P Go.Proofs.YtnecmclnokikoaaDoorW.PrintWords Go.Proofs.YtnecmclnokikoaaDoorW.PrintLast Go.Proofs.YtnecmclnokikoaaDoorW.PrintMore
set_option linter.unusedVariables false

mutual
/-- A value: a number, a pair, a function (its body, what stands ahead of it). -/
inductive V where
  | int (n : Int)
  | pair (a b : V)
  | fn (t : S29) (e : E)
/-- What variables stand for: a value, or what needs itself. -/
inductive E where
  | nil
  | val (v : V) (up : E)
  | loop (t : S29) (up : E)
end
def V.kind : V → Int
  | .int _ => 1
  | .pair _ _ => 2
  | .fn _ _ => 3
def V.num : V → Int
  | .int n => n
  | .pair _ _ => 0
  | .fn _ _ => 0
/-- A kid, if there is one. -/
def kid (t : S29) (i : Nat) : Option S29 := if i < t.f2.length then some (t.f2.getD i z29) else none
def find : E → Nat → E
  | e, 0 => e
  | .nil, _ + 1 => .nil
  | .val _ up, n + 1 => find up n
  | .loop _ up, n + 1 => find up n
/-- A prim of two numbers, and what is wrong. -/
def prim (op x y : Int) : Int × Int :=
  if op = 0 then (wrap64 (x + y), 0)
  else if op = 1 then (wrap64 (x - y), 0)
  else if op = 2 then (wrap64 (x * y), 0)
  else if op = 4 then (if x < y then (1, 0) else (0, 0))
  else if y = 0 then (0, 18)
  else (wrap64 (Int.tdiv x y), 0)
/-- One step more, if there is fuel: what comes behind it. -/
def stepped (F st : Int) (c : Option (V × Int × Int)) : Option (V × Int × Int) :=
  if st ≥ F then some (.int 0, st, 17) else if 0 ≤ st ∧ st < 65536 then c else none
/-- A part of a pair's value. -/
def partOf (op : Int) (p : V × Int × Int) : Option (V × Int × Int) :=
  if p.2.2 ≠ 0 then some p
  else match p.1 with
    | .pair a b => some (if op = 23 then a else b, p.2.1, 0)
    | v => some (v, p.2.1, 1)
/-- A pair's value, or a prim's. -/
def both (op n : Int) (a : V) (b : V × Int × Int) : V × Int × Int :=
  if b.2.2 ≠ 0 then (a, b.2.1, b.2.2)
  else if op = 22 then (.pair a b.1, b.2.1, 0)
  else if op = 26 then match a, b.1 with
    | .int x, .int y => (.int (prim n x y).1, b.2.1, (prim n x y).2)
    | _, _ => (a, b.2.1, 1)
  else (a, b.2.1, 1)
/-- The values of two terms, the first one first; no second one: something is wrong with the first one. -/
def twoOf (rec : S29 → Int → Int → Option (V × Int × Int)) (t : S29) (st : Int) : Option (V × Option V × Int × Int) :=
  (kid t 0).bind fun x => (rec x st 0).bind fun a =>
    if a.2.2 ≠ 0 then some (a.1, none, a.2.1, a.2.2)
    else (kid t 1).bind fun y => (rec y a.2.1 0).bind fun b => some (a.1, some b.1, b.2.1, b.2.2)
/-- What 'plain' answers, from rec. -/
def plain (rec : S29 → Int → Int → Option (V × Int × Int)) (e : E) (t : S29) (st : Int) : Option (V × Int × Int) :=
  if t.f0 = 25 then some (.int t.f1, st, 0)
  else if t.f0 = 20 then (kid t 1).bind fun b => some (.fn b e, st, 0)
  else if t.f0 = 23 ∨ t.f0 = 24 then (kid t 0).bind fun x => (rec x st 0).bind fun p => partOf t.f0 p
  else if t.f2.length ≠ 2 then some (.int 0, st, 1)
  else (twoOf rec t st).bind fun r => match r.2.1 with
    | none => some (r.1, r.2.2.1, r.2.2.2)
    | some b => some (both t.f0 t.f1 r.1 (b, r.2.2.1, r.2.2.2))
/-- What a term comes to, of so many rounds: its value, the steps, what is wrong. F: the fuel. -/
def ev (F : Int) : Nat → E → S29 → Int → Int → Option (V × Int × Int)
  | 0, _, _, _, _ => none
  | k + 1, e, t, st, er =>
    if er ≠ 0 then some (.int 0, st, er)
    else if t.f0 = 1 then
      if 9223372036854775807 < t.f1 then none else match find e t.f1.toNat with
      | .nil => some (.int 0, st, 1)
      | .val v _ => some (v, st, 0)
      | .loop b up => stepped F st ((kid b 1).bind fun c => ev F k (.loop b up) c (st + 1) 0)
    else if t.f0 = 29 then (kid t 1).bind fun c => ev F k (.loop t e) c st 0
    else if t.f0 = 28 then (kid t 0).bind fun x => (ev F k e x st 0).bind fun a => (kid t 1).bind fun c => ev F k (.val a.1 e) c a.2.1 a.2.2
    else if t.f0 = 27 then (kid t 2).bind fun y => (kid t 0).bind fun x => (ev F k e x st 0).bind fun a =>
      if a.1.num ≠ 0 then (kid t 1).bind fun c => ev F k e c a.2.1 a.2.2 else ev F k e y a.2.1 a.2.2
    else if t.f0 = 21 then (twoOf (ev F k e) t st).bind fun r =>
      match r.2.1 with
      | none => some (.int 0, r.2.2.1, r.2.2.2)
      | some x =>
        if r.2.2.2 ≠ 0 then some (.int 0, r.2.2.1, r.2.2.2)
        else match r.1 with
          | .fn b up => stepped F r.2.2.1 (ev F k (.val x up) b (r.2.2.1 + 1) 0)
          | _ => some (.int 0, r.2.2.1, 1)
    else plain (ev F k e) e t st
/-- A value as it is told. -/
def told : V → S36
  | .int n => ⟨1, n, []⟩
  | .pair a b => ⟨2, 0, [told a, told b]⟩
  | .fn _ _ => ⟨3, 0, []⟩
/-- How many kids an Op has. -/
def counts : List Int := [-1, 0, 0, 2, 2, 2, 2, 3, 1, 1, 0, 0, 1, 4, 0, 0, 2, 2, 1, 1, 2, 2, 2, 1, 1, 0, 2, 3, 2, 2, 1]
def kidsOf (o : Int) : Int := if 0 ≤ o ∧ o < 31 then counts.getD o.toNat 0 else -1
def numOk (o n : Int) : Bool :=
  if o = 1 then decide (0 ≤ n) && decide (n ≤ 3000)
  else if o = 2 then decide (0 ≤ n) && decide (n ≤ 2)
  else if o = 26 then decide (0 ≤ n) && decide (n ≤ 4)
  else if o = 25 then true
  else n == 0
/-- One term after the other, as long as nothing is wrong. -/
def chkAll (rec : S29 → Int → Int × Int) : List S29 → Int → Int × Int
  | [], n => (n, 0)
  | x :: r, n => if (rec x n).2 ≠ 0 then rec x n else chkAll rec r (rec x n).1
/-- What is wrong with a term, so many nodes read: how many nodes then; d: how much deeper may be. -/
def chk : Nat → S29 → Int → Int × Int
  | 0, _, n => (n + 1, 5)
  | d + 1, t, n =>
    if n + 1 > 3000 then (n + 1, 5)
    else if kidsOf t.f0 ≠ (t.f2.length : Int) ∨ numOk t.f0 t.f1 = false then (n + 1, 1)
    else chkAll (chk d) t.f2 (n + 1)
theorem chkAll_range {rec : S29 → Int → Int × Int} (h : ∀ x n, 0 ≤ n → n ≤ 3000 → 0 ≤ (rec x n).1 ∧ (rec x n).1 ≤ 3001 ∧ ((rec x n).2 = 0 → (rec x n).1 ≤ 3000)) : ∀ l n, 0 ≤ n → n ≤ 3000 → 0 ≤ (chkAll rec l n).1 ∧ (chkAll rec l n).1 ≤ 3001 ∧ ((chkAll rec l n).2 = 0 → (chkAll rec l n).1 ≤ 3000)
  | [], n, h0, h1 => ⟨h0, by show n ≤ 3001; omega, fun _ => h1⟩
  | x :: r, n, h0, h1 => by
    have hx := h x n h0 h1
    rw [chkAll]
    by_cases he : (rec x n).2 ≠ 0
    · rw [if_pos he]
      exact hx
    · rw [if_neg he]
      exact chkAll_range h r _ hx.1 (hx.2.2 (by simpa using he))
theorem chk_range : ∀ d t n, 0 ≤ n → n ≤ 3000 → 0 ≤ (chk d t n).1 ∧ (chk d t n).1 ≤ 3001 ∧ ((chk d t n).2 = 0 → (chk d t n).1 ≤ 3000)
  | 0, t, n, h0, h1 => ⟨by show 0 ≤ n + 1; omega, by show n + 1 ≤ 3001; omega, fun h => absurd (show (5 : Int) = 0 from h) (by decide)⟩
  | d + 1, t, n, h0, h1 => by
    rw [chk]
    by_cases h : n + 1 > 3000
    · rw [if_pos h]
      exact ⟨by show 0 ≤ n + 1; omega, by show n + 1 ≤ 3001; omega, fun h => absurd (show (5 : Int) = 0 from h) (by decide)⟩
    · rw [if_neg h]
      by_cases h2 : kidsOf t.f0 ≠ (t.f2.length : Int) ∨ numOk t.f0 t.f1 = false
      · rw [if_pos h2]
        exact ⟨by show 0 ≤ n + 1; omega, by show n + 1 ≤ 3001; omega, fun h => absurd (show (1 : Int) = 0 from h) (by decide)⟩
      · rw [if_neg h2]
        exact chkAll_range (fun x n a b => chk_range d x n a b) _ _ (by omega) (by omega)
/-- What Run answers. -/
def run (k : Nat) (t : S29) (F : Int) : Option (S36 × Int × Int) :=
  if F < 0 ∨ F > 65536 then some (⟨0, 0, []⟩, 0, 1)
  else if (chk 120 t 0).2 ≠ 0 then some (⟨0, 0, []⟩, 0, 1)
  else (ev F k .nil t 0 0).bind fun r => if r.2.2 ≠ 0 then some (⟨0, 0, []⟩, r.2.1, r.2.2) else some (told r.1, r.2.1, 0)
end Go.Proofs.YtnecmclnokikoaaDoor.Run
