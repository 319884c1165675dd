/- RunPrims, the plain law: sums, products, quotients are the lowest 64 bits, with a sign, of any two numbers; a division by nought is told. No conditions but that the numbers are whole numbers of 64 bits. -/
import Derived.Test.YtnecmclnokikoaaPureA
import Derived.Test.YtnecmclnokikoaaPx2
namespace Go.Proofs.Ytnecmclnokikoaa.Pure
open Go.RowKit Go.Proofs.Ytnecmclnokikoaa.P Go.Proofs.YtnecmclnokikoaaW.PrintWords Go.Proofs.YtnecmclnokikoaaW.PrintLast Go.Proofs.Ytnecmclnokikoaa.Run
theorem run_prim (n : Nat) (hn : n < 5) (x y : Int) : Run.run 30 ⟨26, (n : Int), [⟨25, x, []⟩, ⟨25, y, []⟩]⟩ 0 = some (if (Run.prim n x y).2 ≠ 0 then (⟨0, 0, []⟩, 0, (Run.prim n x y).2) else (⟨1, (Run.prim n x y).1, []⟩, 0, 0)) := by
  have h : (chk 120 ⟨26, (n : Int), [⟨25, x, []⟩, ⟨25, y, []⟩]⟩ 0).2 = 0 := by
    have : n = 0 ∨ n = 1 ∨ n = 2 ∨ n = 3 ∨ n = 4 := by omega
    rcases this with rfl | rfl | rfl | rfl | rfl <;> rfl
  unfold Run.run
  rw [if_neg (by decide), if_neg (by rw [h]; decide)]
  have e : ev 0 30 .nil ⟨26, (n : Int), [⟨25, x, []⟩, ⟨25, y, []⟩]⟩ 0 0 = some (.int (Run.prim n x y).1, 0, (Run.prim n x y).2) := rfl
  rw [e, Option.bind_some]
  by_cases hz : (Run.prim n x y).2 ≠ 0
  · rw [if_pos hz, if_pos hz]
  · rw [if_neg hz, if_neg hz]
    rfl
theorem run_prim' (n : Nat) (hn : n < 5) (x y : Int) (k : Nat) (hk : 30 ≤ k) {r : S34 × Int × Int} (h : (if (Run.prim n x y).2 ≠ 0 then ((⟨0, 0, []⟩ : S34), (0 : Int), (Run.prim n x y).2) else (⟨1, (Run.prim n x y).1, []⟩, 0, 0)) = r) : run_Run.f k 26 (n : Int) [⟨25, x, []⟩, ⟨25, y, []⟩] 0 = some (r.1.f0, r.1.f1, r.1.f2, r.2.1, r.2.2) := by
  have e := run_more ((run_prim n hn x y).trans (congrArg some h)) (k - 30)
  rw [show 30 + (k - 30) = k by omega] at e
  exact e
theorem neg_tdiv (x : Int) : Int.tdiv x (-1) = -x := by
  rw [Int.tdiv_neg, Int.tdiv_one]
theorem prims_all (n : Nat) (hn : n < 5) (x y : Int) : (run_Run.f 30 26 (n : Int) [⟨25, x, []⟩, ⟨25, y, []⟩] 0).bind (fun bt181 => (if (n : Int) = 3 then (thyrsuslaw12_RunPrims.j0 30 x y n bt181.2.2.2.2 (y == 0) bt181.1 bt181.2.1 bt181.2.2.1) else (thyrsuslaw12_RunPrims.j0 30 x y n bt181.2.2.2.2 false bt181.1 bt181.2.1 bt181.2.2.1))) = some true := by
  have : n = 0 ∨ n = 1 ∨ n = 2 ∨ n = 3 ∨ n = 4 := by omega
  rcases this with rfl | rfl | rfl | rfl | rfl
  · rw [run_prim' 0 hn x y 30 (Nat.le_refl _) (r := (⟨1, wrap64 (x + y), []⟩, 0, 0)) rfl, Option.bind_some, if_neg (by decide)]
    show thyrsuslaw12_RunPrims.j0 (29 + 1) x y 0 0 false 1 (wrap64 (x + y)) [] = some true
    rw [thyrsuslaw12_RunPrims.j0, if_neg (by decide), if_pos rfl, if_pos rfl, if_pos rfl, if_pos rfl]
    rfl
  · rw [run_prim' 1 hn x y 30 (Nat.le_refl _) (r := (⟨1, wrap64 (x - y), []⟩, 0, 0)) rfl, Option.bind_some, if_neg (by decide)]
    show thyrsuslaw12_RunPrims.j0 (29 + 1) x y 1 0 false 1 (wrap64 (x - y)) [] = some true
    rw [thyrsuslaw12_RunPrims.j0, if_neg (by decide), if_neg (by decide), if_pos rfl, if_pos rfl, if_pos rfl, if_pos rfl]
    rfl
  · rw [run_prim' 2 hn x y 30 (Nat.le_refl _) (r := (⟨1, wrap64 (x * y), []⟩, 0, 0)) rfl, Option.bind_some, if_neg (by decide)]
    show thyrsuslaw12_RunPrims.j0 (29 + 1) x y 2 0 false 1 (wrap64 (x * y)) [] = some true
    rw [thyrsuslaw12_RunPrims.j0, if_neg (by decide), if_neg (by decide), if_neg (by decide), if_pos rfl, if_pos rfl, if_pos rfl, if_pos rfl]
    rfl
  · by_cases hy : y = 0
    · subst hy
      rw [run_prim' 3 hn x 0 30 (Nat.le_refl _) (r := (⟨0, 0, []⟩, 0, 18)) rfl, Option.bind_some, if_pos (by decide)]
      show thyrsuslaw12_RunPrims.j0 (29 + 1) x 0 3 18 true 0 0 [] = some true
      rw [thyrsuslaw12_RunPrims.j0, if_pos rfl, if_pos rfl]
      rfl
    · have hp : Run.prim (3 : Nat) x y = (wrap64 (Int.tdiv x y), 0) := by
        show (if y = 0 then ((0 : Int), (18 : Int)) else (wrap64 (Int.tdiv x y), 0)) = _
        rw [if_neg hy]
      rw [run_prim' 3 hn x y 30 (Nat.le_refl _) (r := (⟨1, wrap64 (Int.tdiv x y), []⟩, 0, 0)) (by rw [hp]; rfl), Option.bind_some, if_pos (by decide)]
      show thyrsuslaw12_RunPrims.j0 (29 + 1) x y 3 0 (y == 0) 1 (wrap64 (Int.tdiv x y)) [] = some true
      rw [thyrsuslaw12_RunPrims.j0, if_neg (by simpa using hy), if_neg (by decide), if_neg (by decide), if_neg (by decide), if_pos rfl]
      by_cases h1 : y = -1
      · subst h1
        rw [if_pos rfl, if_pos rfl, if_pos rfl, if_pos (by rw [neg_tdiv])]
        rfl
      · rw [if_neg h1, if_neg hy, if_pos rfl, if_pos rfl, if_pos rfl]
        rfl
  · by_cases hl : x < y
    · have hp : Run.prim (4 : Nat) x y = (1, 0) := by
        show (if x < y then ((1 : Int), (0 : Int)) else (0, 0)) = _
        rw [if_pos hl]
      rw [run_prim' 4 hn x y 30 (Nat.le_refl _) (r := (⟨1, 1, []⟩, 0, 0)) (by rw [hp]; rfl), Option.bind_some, if_neg (by decide)]
      show thyrsuslaw12_RunPrims.j0 (29 + 1) x y 4 0 false 1 1 [] = some true
      rw [thyrsuslaw12_RunPrims.j0, if_neg (by decide), if_neg (by decide), if_neg (by decide), if_neg (by decide), if_neg (by decide), if_pos rfl, if_pos hl, if_pos rfl, if_pos rfl, if_pos rfl]
      rfl
    · have hp : Run.prim (4 : Nat) x y = (0, 0) := by
        show (if x < y then ((1 : Int), (0 : Int)) else (0, 0)) = _
        rw [if_neg hl]
      rw [run_prim' 4 hn x y 30 (Nat.le_refl _) (r := (⟨1, 0, []⟩, 0, 0)) (by rw [hp]; rfl), Option.bind_some, if_neg (by decide)]
      show thyrsuslaw12_RunPrims.j0 (29 + 1) x y 4 0 false 1 0 [] = some true
      rw [thyrsuslaw12_RunPrims.j0, if_neg (by decide), if_neg (by decide), if_neg (by decide), if_neg (by decide), if_neg (by decide), if_pos rfl, if_neg hl, if_pos rfl, if_pos rfl, if_pos rfl]
      rfl
theorem quot_in (a : Int) : -9223372036854775808 ≤ wrap64 (Int.tdiv a 5) ∧ wrap64 (Int.tdiv a 5) ≤ 9223372036854775807 := by
  unfold wrap64
  omega
theorem RunPrims : thyrsuslaw12_RunPrims.Pure := by
  intro a0 a1 a2 w0 w1 w2
  have i2 := i64_of w2
  obtain ⟨p, hp, ep⟩ := within_ex (i64_of w0) (n := 6) (by decide) (by decide)
  obtain ⟨q, hq, eq⟩ := within_ex (quot_in a2) (n := 5) (by decide) (by decide)
  obtain ⟨n, hn, en⟩ := within_ex i2 (n := 5) (by decide) (by decide)
  refine ⟨20 + 10, ?_⟩
  unfold thyrsuslaw12_RunPrims.f
  rw [known_f, Option.bind_some, if_pos rfl, Option.bind_some, ep, Option.bind_some, if_pos (by omega), if_pos (by show (p : Int) < 6; omega), Option.bind_some, eq, Option.bind_some, if_pos (by omega), if_pos (by show (q : Int) < 5; omega), en, Option.bind_some]
  exact prims_all n (by omega) _ _
end Go.Proofs.Ytnecmclnokikoaa.Pure
