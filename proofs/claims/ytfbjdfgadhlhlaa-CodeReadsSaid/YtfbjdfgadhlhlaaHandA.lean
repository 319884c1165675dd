/- The contracts of the reader's methods of package code (byte, number), over the loaded program. -/
import Derived.Test.YtfbjdfgadhlhlaaPx0
namespace Go.Proofs.Ytfbjdfgadhlhlaa.P
open Go.RowKit Go.Proofs.YtfbjdfgadhlhlaaW.PrintWords Go.Proofs.YtfbjdfgadhlhlaaW.PrintLast Go.Proofs.YtfbjdfgadhlhlaaW.PrintMore
set_option linter.unusedVariables false
set_option linter.unusedSimpArgs false

/-- The reader at block g holds what is left (l, read at world W), its count, its error. -/
def RD (W w : World) (g : Nat) (l : List Int) (n e : Int) : Prop :=
  ∃ A c, w.heap[g]? = some (.cells #[.slice A l.length c, .int .i64 n, .int .i64 e] 56 (0, 0)) ∧ l.length ≤ c ∧ Kd.C (Kd.int .u8) W A l.length l

theorem byte_err {w : World} {g : Nat} {A : Option Addr} {c len : Nat} {n e : Int}
    (hb : w.heap[g]? = some (.cells #[.slice A len c, .int .i64 n, .int .i64 e] 56 (0, 0))) (he : e ≠ 0) :
    Calls Try.prog 28 #[.pointer (some ⟨g, 0, none⟩)] w fun en w' => en = .returned (.int .u64 0) ∧ w = w' := by
  have c0 : w.cell? ⟨g, 0, none⟩ = some (.slice A len c) := (blk_cell hb 0).trans rfl
  have c1 : w.cell? ⟨g, 1, none⟩ = some (.int .i64 n) := (blk_cell hb 1).trans rfl
  have c2 : w.cell? ⟨g, 2, none⟩ = some (.int .i64 e) := (blk_cell hb 2).trans rfl
  have hu56 := Try.underlying56
  have t1 : (e == 0) = false := by simpa using he
  have t2 : (e != 0) = true := by simpa using he
  clear he
  go_enter Try.func28, Try.ntmps28
  go_wp2
  go_ret
  exact ⟨rfl, rfl⟩

theorem byte_cut {w : World} {g : Nat} {A : Option Addr} {c : Nat} {n : Int}
    (hb : w.heap[g]? = some (.cells #[.slice A 0 c, .int .i64 n, .int .i64 0] 56 (0, 0))) :
    Calls Try.prog 28 #[.pointer (some ⟨g, 0, none⟩)] w fun en w' => en = .returned (.int .u64 0) ∧ w' = w.setCell ⟨g, 2, none⟩ (.int .i64 2) := by
  have c0 : w.cell? ⟨g, 0, none⟩ = some (.slice A 0 c) := (blk_cell hb 0).trans rfl
  have c1 : w.cell? ⟨g, 1, none⟩ = some (.int .i64 n) := (blk_cell hb 1).trans rfl
  have c2 : w.cell? ⟨g, 2, none⟩ = some (.int .i64 0) := (blk_cell hb 2).trans rfl
  have f2 := blk_frozen hb 2
  have hu56 := Try.underlying56
  go_enter Try.func28, Try.ntmps28
  go_wp2
  go_ret
  exact ⟨rfl, rfl⟩

theorem byte_walk {w : World} {g : Nat} {ad : Addr} {A' : Option Addr} {len c : Nat} {n x : Int}
    (hb : w.heap[g]? = some (.cells #[.slice (some ad) len c, .int .i64 n, .int .i64 0] 56 (0, 0))) (hl : 0 < len)
    (hcut : ∀ W : World, (Instr.slice 31 (.slice (some ad) len c) (some (.int .i64 1)) none none).run Try.prog W = .ok (.slice A' (len - 1) (c - 1)) W)
    (hcell : w.cell? ad = some (.int .u8 x)) (hx : 0 ≤ x) (hx2 : x ≤ 255) :
    Calls Try.prog 28 #[.pointer (some ⟨g, 0, none⟩)] w fun en w' => en = .returned (.int .u64 x) ∧ w' = w.setCell ⟨g, 0, none⟩ (.slice A' (len - 1) (c - 1)) := by
  have c0 : w.cell? ⟨g, 0, none⟩ = some (.slice (some ad) len c) := (blk_cell hb 0).trans rfl
  have c1 : w.cell? ⟨g, 1, none⟩ = some (.int .i64 n) := (blk_cell hb 1).trans rfl
  have c2 : w.cell? ⟨g, 2, none⟩ = some (.int .i64 0) := (blk_cell hb 2).trans rfl
  have f0 := blk_frozen hb 0
  clear hb
  have hu56 := Try.underlying56
  have t1 : ((len : Int) == 0) = false := by simp; omega
  have t2 : decide ((0 : Int) < (len : Int)) = true := by simp; omega
  go_enter Try.func28, Try.ntmps28
  go_wp2
  go_ret
  exact ⟨rfl, rfl⟩

theorem byte_some {W w : World} {g : Nat} {A : Option Addr} {c : Nat} {n x : Int} {l : List Int}
    (hb : w.heap[g]? = some (.cells #[.slice A (x :: l).length c, .int .i64 n, .int .i64 0] 56 (0, 0))) (hc : (x :: l).length ≤ c)
    (hr : Kd.C (Kd.int .u8) W A (x :: l).length (x :: l)) (hB : Below W.heap.size W w) (hx : 0 ≤ x ∧ x ≤ 255) :
    Calls Try.prog 28 #[.pointer (some ⟨g, 0, none⟩)] w fun en w' => ∃ A' c', en = .returned (.int .u64 x) ∧ w' = w.setCell ⟨g, 0, none⟩ (.slice A' l.length c') ∧ l.length ≤ c' ∧ Kd.C (Kd.int .u8) W A' l.length l := by
  obtain ⟨i5, hi5, hz5⟩ := Option.map_eq_some_iff.1 info5
  simp only [Prod.mk.injEq] at hz5
  have hcut := cut_from (P := Try.prog) 31 5 .i64 Try.underlying31 hi5 1 hz5.2.1 A (x :: l).length c 1 (by omega) (by simp; omega)
  have hd := Kd.C_drop (m := 1) hr (by simp) hc
  obtain ⟨ad, rfl, hcell⟩ := Kd.at_int hr 0 (by omega) (by simp)
  replace hcell := (hB.cell (World.block_lt_of_cell? W _ hcell)).trans hcell
  rw [show ad.add (Int.toNat 0) = ad from by simp [Addr.add]] at hcell
  exact (byte_walk hb (by simp) hcut hcell hx.1 hx.2).mono fun en w' h => ⟨_, _, h.1, h.2, by simp at hc ⊢; omega, hd⟩

/-- One byte off what is left. -/
def rdByte (l : List Int) (e : Int) : Int × List Int × Int :=
  if e = 0 then (match l with | [] => (0, [], 2) | x :: r => (x, r, 0)) else (0, l, e)

theorem keep_set {w : World} {g j : Nat} {u : Value} : KeepBut w (w.setCell ⟨g, j, none⟩ u) g none :=
  ⟨by simp [World.setCell], fun i hi hne _ => Below.heap_setCell w ⟨g, j, none⟩ u i hne⟩

theorem byte_any {W w : World} {g : Nat} {l : List Int} {n e : Int} (h : RD W w g l n e) (hB : Below W.heap.size W w) (hg : W.heap.size ≤ g) (hx : ∀ x ∈ l, 0 ≤ x ∧ x ≤ 255) :
    Calls Try.prog 28 #[.pointer (some ⟨g, 0, none⟩)] w fun en w' => en = .returned (.int .u64 (rdByte l e).1) ∧ RD W w' g (rdByte l e).2.1 n (rdByte l e).2.2 ∧ KeepBut w w' g none ∧ Below W.heap.size W w' := by
  obtain ⟨A, c, hb, hc, hr⟩ := h
  by_cases he : e = 0
  · subst he
    cases l with
    | nil =>
      refine (byte_cut hb).mono fun en w' h => ?_
      obtain ⟨h1, rfl⟩ := h
      exact ⟨h1, ⟨A, c, blk_set hb 2 _, hc, hr⟩, keep_set, below_set hB hg⟩
    | cons x r =>
      refine (byte_some hb hc hr hB (hx x (by simp))).mono fun en w' h => ?_
      obtain ⟨A', c', h1, rfl, h2, h3⟩ := h
      exact ⟨h1, ⟨A', c', blk_set hb 0 _, h2, h3⟩, keep_set, below_set hB hg⟩
  · refine (byte_err hb he).mono fun en w' h => ?_
    obtain ⟨h1, rfl⟩ := h
    simp only [rdByte, if_neg he]
    exact ⟨h1, ⟨A, c, hb, hc, hr⟩, ⟨Nat.le_refl _, fun _ _ _ _ => rfl⟩, hB⟩

/-- Eight bytes, the lowest first: what was read so far, what is left, the error. -/
def rdNum (l : List Int) (e : Int) : Nat → Int × List Int × Int
  | 0 => (0, l, e)
  | k + 1 => (Go.bits .or .u64 (rdNum l e k).1 (IntKind.u64.wrap ((rdByte (rdNum l e k).2.1 (rdNum l e k).2.2).1 * 2 ^ (8 * k))), (rdByte (rdNum l e k).2.1 (rdNum l e k).2.2).2.1, (rdByte (rdNum l e k).2.1 (rdNum l e k).2.2).2.2)

theorem keepBut_trans {a b c : World} {g : Nat} (h : KeepBut a b g none) (k : KeepBut b c g none) : KeepBut a c g none :=
  ⟨Nat.le_trans h.1 k.1, fun i hi hne hr => (k.2 i (Nat.lt_of_lt_of_le hi h.1) hne hr).trans (h.2 i hi hne hr)⟩

theorem rdByte_sub {l : List Int} {e x : Int} (h : x ∈ (rdByte l e).2.1) : x ∈ l := by
  unfold rdByte at h
  split at h
  · split at h
    · simp at h
    · exact List.mem_cons_of_mem _ h
  · exact h

theorem rdNum_sub {l : List Int} {e x : Int} : ∀ {k : Nat}, x ∈ (rdNum l e k).2.1 → x ∈ l
  | 0, h => h
  | k + 1, h => rdNum_sub (k := k) (rdByte_sub h)

set_option maxRecDepth 100000 in
theorem number_any {W w : World} {g : Nat} {l : List Int} {n e : Int} (h : RD W w g l n e) (hB : Below W.heap.size W w) (hg : W.heap.size ≤ g) (hx : ∀ x ∈ l, 0 ≤ x ∧ x ≤ 255) :
    Calls Try.prog 29 #[.pointer (some ⟨g, 0, none⟩)] w fun en w' => en = .returned (.int .i64 (wrap64 (rdNum l e 8).1)) ∧ RD W w' g (rdNum l e 8).2.1 n (rdNum l e 8).2.2 ∧ KeepBut w w' g none ∧ Below W.heap.size W w' := by
  have H := Aside0.mk h
  have HB := Aside0.mk hB
  have HG := Aside0.mk hg
  have HX := Aside0.mk hx
  clear h hB hg hx
  go_enter Try.func29, Try.ntmps29
  go_wp2
  go_loopw [3, 8] (fun v3 v8 w' => ∃ k : Nat, k ≤ 8 ∧ v8 = .int .i64 k ∧ v3 = .int .u64 (rdNum l e k).1 ∧ Aside0 (RD W w' g (rdNum l e k).2.1 n (rdNum l e k).2.2) ∧ Aside0 (KeepBut w w' g none) ∧ Aside0 (Below W.heap.size W w')) (fun _ v8 _ => 8 - (intOf v8).toNat)
  case atStart => exact ⟨0, by omega, rfl, rfl, H, ⟨⟨Nat.le_refl _, fun _ _ _ _ => rfl⟩⟩, HB⟩
  case round =>
    clear H HB
    obtain ⟨k, hk, rfl, rfl, H, HK, HB⟩ := hrel
    by_cases hlt : k < 8
    · go_wp2_with (go_at_call 28; refine (byte_any H.out HB.out HG.out (fun x hx => HX.out x (rdNum_sub hx))).mono ?_; rintro en w2 ⟨rfl, h2, h3, h4⟩; have H2 := Aside0.mk h2; have HK2 := Aside0.mk (keepBut_trans HK.out h3); have HB2 := Aside0.mk h4; clear h2 h3 h4 H HK HB)
      go_roundw
      case measure => simp [intOf]; omega
      case rel => exact ⟨k + 1, by omega, by go_num, rfl, H2, HK2, HB2⟩
    · obtain rfl : k = 8 := by omega
      go_wp2
      go_ret
      exact ⟨rfl, H.out, HK.out, HB.out⟩
end Go.Proofs.Ytfbjdfgadhlhlaa.P
