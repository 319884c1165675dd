/- RunDeep, the plain law: pairs that double, again and again, are told, each part in its place, without a step. No conditions but that the numbers are whole numbers of 64 bits. -/
import Derived.Test.YtnecmclnokikoaaPureA
import Derived.Test.YtnecmclnokikoaaPx3
import Derived.Test.YtnecmclnokikoaaPx4
namespace Go.Proofs.Ytnecmclnokikoaa.Pure
open Go.RowKit Go.Proofs.Ytnecmclnokikoaa.P Go.Proofs.YtnecmclnokikoaaW.PrintWords Go.Proofs.YtnecmclnokikoaaW.PrintLast Go.Proofs.Ytnecmclnokikoaa.Run
/-- So many lets of pairs, around a variable. -/
def dterm : Nat → S29
  | 0 => ⟨1, 0, []⟩
  | n + 1 => ⟨28, 0, [⟨22, 0, [⟨1, 0, []⟩, ⟨1, 0, []⟩]⟩, dterm n]⟩
/-- A value, doubled so often. -/
def dbl : Nat → V → V
  | 0, v => v
  | n + 1, v => dbl n (.pair v v)
/-- What is told of it. -/
def wit : Nat → S34 → S34
  | 0, y => y
  | n + 1, y => ⟨2, 0, [wit n y, wit n y]⟩
theorem wit_in (y : S34) : ∀ n, wit n ⟨2, 0, [y, y]⟩ = wit (n + 1) y
  | 0 => rfl
  | n + 1 => by
    show (⟨2, 0, [wit n ⟨2, 0, [y, y]⟩, wit n ⟨2, 0, [y, y]⟩]⟩ : S34) = ⟨2, 0, [wit (n + 1) y, wit (n + 1) y]⟩
    rw [wit_in y n]
theorem told_dbl : ∀ n v, told (dbl n v) = wit n (told v)
  | 0, v => rfl
  | n + 1, v => by
    rw [dbl, told_dbl n, told, wit_in]
theorem ev_var (F : Int) (k : Nat) (v : V) (e : E) (st : Int) : ev F (k + 1) (.val v e) ⟨1, 0, []⟩ st 0 = some (v, st, 0) := rfl
theorem ev_pair (F : Int) (k : Nat) (v : V) (e : E) (st : Int) : ev F (k + 2) (.val v e) ⟨22, 0, [⟨1, 0, []⟩, ⟨1, 0, []⟩]⟩ st 0 = some (.pair v v, st, 0) := rfl
theorem ev_let (F : Int) (k : Nat) (e : E) (n : Int) (a b : S29) (st : Int) : ev F (k + 1) e ⟨28, n, [a, b]⟩ st 0 = (ev F k e a st 0).bind fun x => ev F k (.val x.1 e) b x.2.1 x.2.2 := rfl
theorem ev_dterm (F : Int) : ∀ (n k : Nat) (v : V) (e : E) (st : Int), 2 * n + 2 ≤ k → ev F k (.val v e) (dterm n) st 0 = some (dbl n v, st, 0)
  | 0, k, v, e, st, hk => by
    obtain ⟨k, rfl⟩ : ∃ m, k = m + 1 := ⟨k - 1, by omega⟩
    exact ev_var F k v e st
  | n + 1, k, v, e, st, hk => by
    obtain ⟨k, rfl⟩ : ∃ m, k = m + 3 := ⟨k - 3, by omega⟩
    rw [dterm, ev_let, ev_pair, Option.bind_some]
    exact ev_dterm F n (k + 2) (.pair v v) (.val v e) st (by omega)
theorem chk_d0 (x : Int) : (chk 120 ⟨28, 0, [⟨25, x, []⟩, dterm 0]⟩ 0).2 = 0 := by kernel_rfl
theorem chk_d1 (x : Int) : (chk 120 ⟨28, 0, [⟨25, x, []⟩, dterm 1]⟩ 0).2 = 0 := by kernel_rfl
theorem chk_d2 (x : Int) : (chk 120 ⟨28, 0, [⟨25, x, []⟩, dterm 2]⟩ 0).2 = 0 := by kernel_rfl
theorem chk_d3 (x : Int) : (chk 120 ⟨28, 0, [⟨25, x, []⟩, dterm 3]⟩ 0).2 = 0 := by kernel_rfl
theorem chk_d4 (x : Int) : (chk 120 ⟨28, 0, [⟨25, x, []⟩, dterm 4]⟩ 0).2 = 0 := by kernel_rfl
theorem chk_d5 (x : Int) : (chk 120 ⟨28, 0, [⟨25, x, []⟩, dterm 5]⟩ 0).2 = 0 := by kernel_rfl
theorem chk_d6 (x : Int) : (chk 120 ⟨28, 0, [⟨25, x, []⟩, dterm 6]⟩ 0).2 = 0 := by kernel_rfl
theorem chk_d7 (x : Int) : (chk 120 ⟨28, 0, [⟨25, x, []⟩, dterm 7]⟩ 0).2 = 0 := by kernel_rfl
theorem chk_d8 (x : Int) : (chk 120 ⟨28, 0, [⟨25, x, []⟩, dterm 8]⟩ 0).2 = 0 := by kernel_rfl
theorem chk_d9 (x : Int) : (chk 120 ⟨28, 0, [⟨25, x, []⟩, dterm 9]⟩ 0).2 = 0 := by kernel_rfl
theorem chk_d10 (x : Int) : (chk 120 ⟨28, 0, [⟨25, x, []⟩, dterm 10]⟩ 0).2 = 0 := by kernel_rfl
theorem chk_dterm (x : Int) (n : Nat) (hn : n < 11) : (chk 120 ⟨28, 0, [⟨25, x, []⟩, dterm n]⟩ 0).2 = 0 := by
  have : n = 0 ∨ n = 1 ∨ n = 2 ∨ n = 3 ∨ n = 4 ∨ n = 5 ∨ n = 6 ∨ n = 7 ∨ n = 8 ∨ n = 9 ∨ n = 10 := by omega
  rcases this with rfl | rfl | rfl | rfl | rfl | rfl | rfl | rfl | rfl | rfl | rfl
  · exact chk_d0 x
  · exact chk_d1 x
  · exact chk_d2 x
  · exact chk_d3 x
  · exact chk_d4 x
  · exact chk_d5 x
  · exact chk_d6 x
  · exact chk_d7 x
  · exact chk_d8 x
  · exact chk_d9 x
  · exact chk_d10 x
theorem run_dterm (x : Int) (n : Nat) (hn : n < 11) (k : Nat) (hk : 2 * n + 3 ≤ k) : Run.run k ⟨28, 0, [⟨25, x, []⟩, dterm n]⟩ 10 = some (wit n ⟨1, x, []⟩, 0, 0) := by
  obtain ⟨k, rfl⟩ : ∃ m, k = m + 2 := ⟨k - 2, by omega⟩
  unfold Run.run
  rw [if_neg (by decide), if_neg (by rw [chk_dterm x n hn]; decide), ev_let]
  rw [show ev 10 (k + 1) .nil ⟨25, x, []⟩ 0 0 = some (.int x, 0, 0) from rfl, Option.bind_some]
  rw [ev_dterm 10 n (k + 1) (.int x) .nil 0 (by omega), Option.bind_some, if_neg (by show ¬ (0 : Int) ≠ 0; decide), told_dbl]
  rfl
theorem same_leaf (x : Int) (k : Nat) : thyrsusref11_Same.f (k + 3) 1 x [] 1 x [] = some true := by
  rw [thyrsusref11_Same.f, if_pos rfl, if_pos rfl, thyrsusref11_Same.j0, if_neg (by decide), thyrsusref11_Same.l0, if_neg (by decide)]
theorem same_two (y : S34) (m : Nat) (h : thyrsusref11_Same.f (m + 2) y.f0 y.f1 y.f2 y.f0 y.f1 y.f2 = some true) (h2 : thyrsusref11_Same.f (m + 1) y.f0 y.f1 y.f2 y.f0 y.f1 y.f2 = some true) : thyrsusref11_Same.f (m + 5) 2 0 [y, y] 2 0 [y, y] = some true := by
  rw [thyrsusref11_Same.f, if_pos rfl, if_pos rfl, thyrsusref11_Same.j0, if_neg (by simp), thyrsusref11_Same.l0, if_pos (by show (0 : Int) < ((2 : Nat) : Int); decide), if_pos (by decide), if_pos (by show (0 : Int) < ((2 : Nat) : Int); decide)]
  rw [show rd_T34 [y, y] 0 = y from rfl, h, Option.bind_some, if_pos rfl]
  rw [show wrap64 (0 + 1) = 1 from wrap_ok _ (by decide) (by decide), thyrsusref11_Same.l0, if_pos (by show (1 : Int) < ((2 : Nat) : Int); decide), if_pos (by decide), if_pos (by show (1 : Int) < ((2 : Nat) : Int); decide)]
  rw [show rd_T34 [y, y] 1 = y from rfl, h2, Option.bind_some, if_pos rfl]
  rw [show wrap64 (1 + 1) = 2 from wrap_ok _ (by decide) (by decide), thyrsusref11_Same.l0, if_neg (by show ¬ (2 : Int) < ((2 : Nat) : Int); decide)]
theorem same_wit (x : Int) : ∀ (n k : Nat), 4 * n + 3 ≤ k → thyrsusref11_Same.f k (wit n ⟨1, x, []⟩).f0 (wit n ⟨1, x, []⟩).f1 (wit n ⟨1, x, []⟩).f2 (wit n ⟨1, x, []⟩).f0 (wit n ⟨1, x, []⟩).f1 (wit n ⟨1, x, []⟩).f2 = some true
  | 0, k, hk => by
    obtain ⟨k, rfl⟩ : ∃ m, k = m + 3 := ⟨k - 3, by omega⟩
    exact same_leaf x k
  | n + 1, k, hk => by
    obtain ⟨k, rfl⟩ : ∃ m, k = m + 5 := ⟨k - 5, by omega⟩
    exact same_two (wit n ⟨1, x, []⟩) k (same_wit x n (k + 2) (by omega)) (same_wit x n (k + 1) (by omega))
theorem deep_l1 (x : Int) (n : Nat) (hn : n < 11) : ∀ (d i k : Nat), i + d = n → 4 * n + 4 + d ≤ k → thyrsuslaw12_RunDeep.l1 k (n : Int) 0 0 (i : Int) (wit n ⟨1, x, []⟩).f0 (wit n ⟨1, x, []⟩).f1 (wit n ⟨1, x, []⟩).f2 (wit i ⟨1, x, []⟩).f0 (wit i ⟨1, x, []⟩).f1 (wit i ⟨1, x, []⟩).f2 = some true
  | 0, i, k, hi, hk => by
    obtain ⟨k, rfl⟩ : ∃ m, k = m + 1 := ⟨k - 1, by omega⟩
    obtain rfl : i = n := by omega
    rw [thyrsuslaw12_RunDeep.l1, if_neg (by omega), if_pos rfl, if_pos rfl, same_wit x i k (by omega), Option.bind_some]
  | d + 1, i, k, hi, hk => by
    obtain ⟨k, rfl⟩ : ∃ m, k = m + 1 := ⟨k - 1, by omega⟩
    rw [thyrsuslaw12_RunDeep.l1, if_pos (by omega), wrap_ok _ (by omega) (by omega), show (i : Int) + 1 = ((i + 1 : Nat) : Int) by omega]
    rw [show (⟨(wit i ⟨1, x, []⟩).f0, (wit i ⟨1, x, []⟩).f1, (wit i ⟨1, x, []⟩).f2⟩ : S34) = wit i ⟨1, x, []⟩ by cases wit i ⟨1, x, []⟩; rfl]
    exact deep_l1 x n hn d (i + 1) k (by omega) (by omega)
theorem deep_l0 (x : Int) (n : Nat) (hn : n < 11) : ∀ (d i k : Nat), i + d = n → 60 + d ≤ k → thyrsuslaw12_RunDeep.l0 k (n : Int) x (i : Int) (dterm i).f0 (dterm i).f1 (dterm i).f2 = some true
  | 0, i, k, hi, hk => by
    obtain ⟨k, rfl⟩ : ∃ m, k = m + 1 := ⟨k - 1, by omega⟩
    obtain rfl : i = n := by omega
    rw [thyrsuslaw12_RunDeep.l0, if_neg (by omega)]
    have h := run_more (run_dterm x i hn (2 * i + 3) (Nat.le_refl _)) (k - (2 * i + 3))
    rw [show 2 * i + 3 + (k - (2 * i + 3)) = k by omega] at h
    show (run_Run.f k 28 0 [⟨25, x, []⟩, ⟨(dterm i).f0, (dterm i).f1, (dterm i).f2⟩] 10).bind _ = _
    rw [show (⟨(dterm i).f0, (dterm i).f1, (dterm i).f2⟩ : S29) = dterm i by cases dterm i; rfl, h, Option.bind_some]
    exact deep_l1 x i hn i 0 k (by omega) (by omega)
  | d + 1, i, k, hi, hk => by
    obtain ⟨k, rfl⟩ : ∃ m, k = m + 1 := ⟨k - 1, by omega⟩
    rw [thyrsuslaw12_RunDeep.l0, if_pos (by omega), wrap_ok _ (by omega) (by omega), show (i : Int) + 1 = ((i + 1 : Nat) : Int) by omega]
    show thyrsuslaw12_RunDeep.l0 k (n : Int) x ((i + 1 : Nat) : Int) 28 0 [⟨22, 0, [⟨1, 0, []⟩, ⟨1, 0, []⟩]⟩, ⟨(dterm i).f0, (dterm i).f1, (dterm i).f2⟩] = _
    rw [show (⟨(dterm i).f0, (dterm i).f1, (dterm i).f2⟩ : S29) = dterm i by cases dterm i; rfl]
    exact deep_l0 x n hn d (i + 1) k (by omega) (by omega)
theorem RunDeep : thyrsuslaw12_RunDeep.Pure := by
  intro a0 a1 w0 w1
  obtain ⟨n, hn, e⟩ := within_ex (i64_of w0) (n := 11) (by decide) (by decide)
  refine ⟨20 + 60, ?_⟩
  unfold thyrsuslaw12_RunDeep.f
  rw [known_f, Option.bind_some, if_pos rfl, e, Option.bind_some]
  exact deep_l0 a1 n (by omega) n 0 80 (by omega) (by omega)
end Go.Proofs.Ytnecmclnokikoaa.Pure
