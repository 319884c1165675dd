/- CodeReads: the call's walk, in the row's form. -/
import Derived.Test.YtfbjdfgadhlhlaaReadsWalk
namespace Go.Proofs.Ytfbjdfgadhlhlaa.P
open Go.RowKit Go.Proofs.YtfbjdfgadhlhlaaW.PrintWords Go.Proofs.YtfbjdfgadhlhlaaW.PrintLast Go.Proofs.YtfbjdfgadhlhlaaW.PrintMore
set_option linter.unusedVariables false
set_option linter.unusedSimpArgs false

theorem byte_of {n : Int} (h : (Lit.int .u8 n).wf = true) : 0 ≤ n ∧ n ≤ 255 := by
  have h1 : IntKind.u8.min ≤ n ∧ n ≤ IntKind.u8.max := by simpa [Lit.wf] using h
  exact h1
theorem row_C {k : IntKind} {w : World} {a : Option Addr} {len cap : Nat} {zs : List Int} (h : (a = none ∧ len = 0 ∧ cap = 0 ∧ zs = []) ∨ ∃ x, a = some x ∧ len ≤ cap ∧ cap ≤ maxLen ∧ zs.length = cap ∧ (∀ i, i < zs.length → w.cell? (x.add i) = some (.int k (zs.getD i 0))) ∧ ∀ n ∈ zs, (Lit.int k n).wf = true) :
    ∃ l : List Int, len = l.length ∧ l.length ≤ cap ∧ Kd.C (Kd.int k) w a l.length l ∧ ∀ x ∈ l, (Lit.int k x).wf = true := by
  obtain ⟨l, h1, h2, h3, h4⟩ := ReadsInt.ofRow h
  refine ⟨l, h1, ?_, Kd.C_of_reads (enc := Value.int k) (d := (0 : Int)) h2, h4⟩
  rcases h with ⟨_, h5, h6, _⟩ | ⟨_, _, h5, _⟩ <;> omega
theorem codeReads_walk (x : S24) (A : Option Addr) (c : Nat) {w0 : World} (hl : x.f2.length ≤ c) (hC : Kd.C k24 w0 A x.f2.length x.f2) (wf : WF24 x)
    (a1 : Option Addr) (len1 cap1 : Nat) (z1 : List Int) (h1 : (a1 = none ∧ len1 = 0 ∧ cap1 = 0 ∧ z1 = []) ∨ ∃ x, a1 = some x ∧ len1 ≤ cap1 ∧ cap1 ≤ maxLen ∧ z1.length = cap1 ∧ (∀ i, i < z1.length → w0.cell? (x.add i) = some (.int .i64 (z1.getD i 0))) ∧ ∀ n ∈ z1, (Lit.int .i64 n).wf = true) (y1 : len1 * 8 ≤ 140737488351232)
    (a2 : Option Addr) (len2 cap2 : Nat) (z2 : List Int) (h2 : (a2 = none ∧ len2 = 0 ∧ cap2 = 0 ∧ z2 = []) ∨ ∃ x, a2 = some x ∧ len2 ≤ cap2 ∧ cap2 ≤ maxLen ∧ z2.length = cap2 ∧ (∀ i, i < z2.length → w0.cell? (x.add i) = some (.int .u8 (z2.getD i 0))) ∧ ∀ n ∈ z2, (Lit.int .u8 n).wf = true) (y2 : len2 * 1 ≤ 140737488351232)
    (cut : Int) (h3 : (Lit.int .i64 cut).wf = true)
    (a4 : Option Addr) (len4 cap4 : Nat) (z4 : List Int) (h4 : (a4 = none ∧ len4 = 0 ∧ cap4 = 0 ∧ z4 = []) ∨ ∃ x, a4 = some x ∧ len4 ≤ cap4 ∧ cap4 ≤ maxLen ∧ z4.length = cap4 ∧ (∀ i, i < z4.length → w0.cell? (x.add i) = some (.int .u8 (z4.getD i 0))) ∧ ∀ n ∈ z4, (Lit.int .u8 n).wf = true) (y4 : len4 * 1 ≤ 140737488351232)
    (w : World) (hw : w = w0 := by rfl) :
    Calls Try.prog 6 #[.agg #[.int .i64 x.f0, .int .i64 x.f1, .slice A x.f2.length c], .slice a1 len1 cap1, .slice a2 len2 cap2, .int .i64 cut, .slice a4 len4 cap4] w fun e w' => e = .returned (.bool true) ∧ Below w.heap.size w w' := by
  subst hw
  obtain ⟨l1, rfl, c1, C1, r1⟩ := row_C h1
  obtain ⟨l2, rfl, c2, C2, r2⟩ := row_C h2
  obtain ⟨l4, rfl, c4, C4, r4⟩ := row_C h4
  exact codeReads_go x A c wf hl a1 cap1 l1 c1 (fun z hz => i64_of (r1 z hz)) (by omega) a2 cap2 l2 c2 (fun z hz => byte_of (r2 z hz)) (by omega) cut (i64_of h3) a4 cap4 l4 c4 (fun z hz => byte_of (r4 z hz)) (by omega) w hC C1 C2 C4
end Go.Proofs.Ytfbjdfgadhlhlaa.P
