/- A tree that came in (struct type 24: two numbers, a slice of itself), opened: it reads as a Lean tree. -/
import Derived.Test.YtcchfblekaaalaaDoorPx0
import Derived.Lib.SmallJoins
import Derived.ProofKit
namespace Go.Proofs.YtcchfblekaaalaaDoor.P
open Go.RowKit Go.ChangeShapes Go.WideShapes Go.ChangeAt Go.Proofs.YtcchfblekaaalaaDoorW.PrintWords Go.Proofs.YtcchfblekaaalaaDoorW.PrintLast Go.Proofs.YtcchfblekaaalaaDoorW.PrintMore
set_option linter.unusedVariables false
set_option linter.unusedSimpArgs false

/-- Numbers of their kind, lists that memory can hold. -/
inductive WF24 : S24 → Prop
  | mk (a b : Int) (l : List S24) (ha : (Lit.int .i64 a).wf = true) (hb : (Lit.int .i64 b).wf = true) (hn : l.length ≤ 9223372036854775807) (hl : ∀ x ∈ l, WF24 x) : WF24 ⟨a, b, l⟩

theorem cells24 : Tryd.prog.cellsOf 24 = 3 := by kernel_rfl
theorem cells3 : Tryd.prog.cellsOf 3 = 1 := by kernel_rfl
theorem cells22 : Tryd.prog.cellsOf 22 = 1 := by kernel_rfl

theorem list_of {α : Type} (P : Nat → α → Prop) (n : Nat) (h : ∀ i, i < n → ∃ y, P i y) : ∃ l : List α, l.length = n ∧ ∀ i y, l[i]? = some y → P i y := by
  induction n with
  | zero => exact ⟨[], rfl, fun i y h => by simp at h⟩
  | succ n ih =>
    obtain ⟨l, h1, h2⟩ := ih (fun i hi => h i (by omega))
    obtain ⟨y, hy⟩ := h n (by omega)
    refine ⟨l ++ [y], by simp [h1], fun i z hz => ?_⟩
    rcases Nat.lt_or_ge i n with hi | hi
    · rw [List.getElem?_append_left (by omega)] at hz
      exact h2 i z hz
    · rw [List.getElem?_append_right (by omega)] at hz
      have : i = n := by
        have := (List.getElem?_eq_some_iff.1 hz).1
        simp at this
        omega
      subst this
      simp [h1] at hz
      rw [← hz]
      exact hy

set_option maxRecDepth 100000 in
theorem tree24 {H : Type} {enc : TypeId × Value → H} {W : World} {base : Nat} {spare : Nat → Bool} {held : Bool} : ∀ (fuel : Nat) (cs : List Value) (x : DataW H × List MemPlace), DataW.trod enc Tryd.prog W base spare held fuel 24 cs = some x → ∃ y : S24, k24.K W y cs ∧ WF24 y := by
  intro fuel
  induction fuel using Nat.strongRecOn with
  | _ fuel ih =>
  intro cs x h
  obtain ⟨xs, n, hn, _, hlen, hxs, hf⟩ := DataW.trod_struct Tryd.underlying24 h
  rw [cells24] at hlen
  obtain ⟨c0, c1, c2, rfl⟩ : ∃ a b c, cs = [a, b, c] := by
    match cs, hlen with
    | [a, b, c], _ => exact ⟨a, b, c, rfl⟩
  have f0 := hf 0 _ rfl
  have f1 := hf 1 _ rfl
  have f2 := hf 2 _ rfl
  change DataW.trod _ _ _ _ _ _ _ 3 (([c0, c1, c2].drop 0).take (Tryd.prog.cellsOf 3)) = _ at f0
  change DataW.trod _ _ _ _ _ _ _ 3 (([c0, c1, c2].drop 1).take (Tryd.prog.cellsOf 3)) = _ at f1
  change DataW.trod _ _ _ _ _ _ _ 22 (([c0, c1, c2].drop 2).take (Tryd.prog.cellsOf 22)) = _ at f2
  rw [cells3] at f0 f1
  rw [cells22] at f2
  simp only [List.drop_zero, List.drop_succ_cons, List.take_succ_cons, List.take_zero] at f0 f1 f2
  have hx : ∀ i, i < xs.length → ∃ y, xs[i]? = some y := fun i hi => ⟨xs[i], List.getElem?_eq_getElem hi⟩
  obtain ⟨y0, e0⟩ := hx 0 (by rw [hxs]; decide)
  obtain ⟨y1, e1⟩ := hx 1 (by rw [hxs]; decide)
  obtain ⟨y2, e2⟩ := hx 2 (by rw [hxs]; decide)
  rw [e0] at f0
  rw [e1] at f1
  rw [e2] at f2
  obtain ⟨a, ha, _, wa⟩ := DataW.trod_int Tryd.underlying3 f0
  obtain ⟨b, hb, _, wb⟩ := DataW.trod_int Tryd.underlying3 f1
  obtain rfl : c0 = .int .i64 a := by simpa using ha
  obtain rfl : c1 = .int .i64 b := by simpa using hb
  rcases DataW.trod_slice Tryd.underlying22 f2 with ⟨h2, _⟩ | ⟨ad, len, cap, elems, rest, m, hm, h2, _, _, hlc, hcm, hel, hcell, _, _⟩
  · obtain rfl : c2 = .slice none 0 0 := by simpa using h2
    exact ⟨⟨a, b, []⟩, k24_mk W ⟨a, b, []⟩ (by simp) ⟨rfl, by simp, fun h => by simp at h⟩, WF24.mk a b [] wa wb (by simp) (by simp)⟩
  · obtain rfl : c2 = .slice (some ad) len cap := by simpa using h2
    rw [cells24] at hcell
    have hall : ∀ i, i < len → ∃ y : S24, (∃ c : List Value, c.length = 3 ∧ k24.K W y c ∧ ∀ j u, c[j]? = some u → W.cell? (ad.add (i * 3 + j)) = some u) ∧ WF24 y := by
      intro i hi
      have h1 := hcell i hi
      have h3 : ∃ z, elems[i]? = some z := ⟨elems[i], List.getElem?_eq_getElem (by omega)⟩
      obtain ⟨z, hz⟩ := h3
      rw [hz, Option.bind_eq_some_iff] at h1
      obtain ⟨ci, hci, htr⟩ := h1
      obtain ⟨y, hy, wy⟩ := ih m (by omega) ci z htr
      obtain ⟨_, hl3, hcc⟩ := World.cells?_some hci
      refine ⟨y, ⟨ci, hl3, hy, fun j u hu => ?_⟩, wy⟩
      have hj : j < 3 := by
        have := (List.getElem?_eq_some_iff.1 hu).1
        omega
      have h4 := hcc j hj
      rw [← hu, ← h4, add_add]
    obtain ⟨l, hl, hP⟩ := list_of _ len hall
    subst hl
    have hmx : l.length ≤ 9223372036854775807 := by unfold maxLen at hcm; omega
    refine ⟨⟨a, b, l⟩, k24_mk W ⟨a, b, l⟩ hlc ⟨rfl, hmx, fun _ => ⟨ad, rfl, fun j p hj => (hP j p hj).1⟩⟩, WF24.mk a b l wa wb hmx (fun y hy => ?_)⟩
    obtain ⟨i, hi, e⟩ := List.mem_iff_getElem.1 hy
    exact (hP i y (by rw [← e]; exact List.getElem?_eq_getElem hi)).2

theorem open_T24 {H : Type} {enc : TypeId × Value → H} {W : World} {spare : Nat → Bool} {held : Bool} {r : Reach} {b0 base : Nat} {v : Value} {d : DataW H} {ps : List MemPlace} (hv : Value.okWide Tryd.prog W r b0 24 v)
    (h : DataW.Trod enc Tryd.prog W base spare held 24 v d ps) :
    ∃ (x : S24) (A : Option Addr) (c : Nat), v = .agg #[.int .i64 x.f0, .int .i64 x.f1, .slice A x.f2.length c] ∧ x.f2.length ≤ c ∧ Kd.C k24 W A x.f2.length x.f2 ∧ WF24 x := by
  obtain ⟨v0, v1, v2, y0, y1, y2, n, rfl, _, _, h0, h1, h2⟩ := Joins.open_agg3 Tryd.underlying24 (by kernel_rfl) cells24 hv h
  obtain ⟨fuel, hf⟩ := h
  obtain ⟨y, hy, wy⟩ := tree24 fuel _ _ hf
  obtain ⟨A, c, e, hl, hC⟩ := k24_open hy
  obtain ⟨a, ha, _, _⟩ := DataW.trod_int Tryd.underlying3 h0
  obtain ⟨b, hb, _, _⟩ := DataW.trod_int Tryd.underlying3 h1
  obtain rfl : v0 = .int .i64 a := by simpa using ha
  obtain rfl : v1 = .int .i64 b := by simpa using hb
  have e2 : ∃ A' n' c', v2 = .slice A' n' c' := by
    rcases DataW.trod_slice Tryd.underlying22 h2 with ⟨q, _⟩ | ⟨ad, len, cap, _, _, _, _, q, _⟩
    · exact ⟨_, _, _, by simpa using q⟩
    · exact ⟨_, _, _, by simpa using q⟩
  obtain ⟨A', n', c', rfl⟩ := e2
  simp [Value.cells] at e
  obtain ⟨rfl, rfl, rfl, rfl, rfl⟩ := e
  exact ⟨y, A', c', rfl, hl, hC, wy⟩
end Go.Proofs.YtcchfblekaaalaaDoor.P
