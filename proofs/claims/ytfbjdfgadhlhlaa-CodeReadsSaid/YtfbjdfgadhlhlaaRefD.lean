/- The two parsers agree; the reference's Parse in the print's form. -/
import Derived.Test.YtfbjdfgadhlhlaaRefC
import Derived.Test.YtfbjdfgadhlhlaaPureC
namespace Go.Proofs.Ytfbjdfgadhlhlaa.P
open Go.RowKit Go.Proofs.YtfbjdfgadhlhlaaW.PrintWords Go.Proofs.YtfbjdfgadhlhlaaW.PrintLast Go.Proofs.YtfbjdfgadhlhlaaW.PrintMore
set_option linter.unusedVariables false
set_option linter.unusedSimpArgs false

theorem or_hi {x y : Int} (h0 : 0 ≤ x) (h1 : x < 72057594037927936) (h2 : 0 ≤ y) (h3 : y ≤ 255) : bits .or .u64 (IntKind.u64.wrap (x * 256)) y = x * 256 + y := by
  rw [wrap_u64 (by omega) (by omega)]
  obtain ⟨a, rfl⟩ := Int.eq_ofNat_of_zero_le h0
  obtain ⟨b, rfl⟩ := Int.eq_ofNat_of_zero_le h2
  rw [show ((a : Int) * 256) = ((a * 256 : Nat) : Int) by omega, u64_or_nat _ _ (by omega) (by omega)]
  rw [show (256 : Nat) = 2 ^ 8 by decide, ← Nat.shiftLeft_eq, ← Nat.shiftLeft_add_eq_or_of_lt (show b < 2 ^ 8 by omega)]
  omega
theorem rd_at {B : List Int} {k : Nat} (h : k < B.length) : rd B (k : Int) = B[k] := by
  simp [rd, h]
theorem drop_rd {B : List Int} {k : Nat} (h : k < B.length) : B.drop k = rd B (k : Int) :: B.drop (k + 1) := by
  rw [rd_at h]
  exact List.drop_eq_getElem_cons h
theorem pNum_eight {B : List Int} (hx : ∀ x ∈ B, 0 ≤ x ∧ x ≤ 255) (p : Nat) :
    pNum B p 8 = sum8 (rd B ((p + 1 : Nat) : Int)) (rd B ((p + 2 : Nat) : Int)) (rd B ((p + 3 : Nat) : Int)) (rd B ((p + 4 : Nat) : Int)) (rd B ((p + 5 : Nat) : Int)) (rd B ((p + 6 : Nat) : Int)) (rd B ((p + 7 : Nat) : Int)) (rd B ((p + 8 : Nat) : Int)) := by
  have r1 := rd_range hx ((p + 1 : Nat) : Int)
  have r2 := rd_range hx ((p + 2 : Nat) : Int)
  have r3 := rd_range hx ((p + 3 : Nat) : Int)
  have r4 := rd_range hx ((p + 4 : Nat) : Int)
  have r5 := rd_range hx ((p + 5 : Nat) : Int)
  have r6 := rd_range hx ((p + 6 : Nat) : Int)
  have r7 := rd_range hx ((p + 7 : Nat) : Int)
  have r8 := rd_range hx ((p + 8 : Nat) : Int)
  have s : ∀ k, pNum B p (k + 1) = bits .or .u64 (IntKind.u64.wrap (pNum B p k * 256)) (rd B ((p + (8 - k) : Nat) : Int)) := fun k => rfl
  have e0 : pNum B p 0 = 0 := rfl
  have e1 := s 0
  have e2 := s 1
  have e3 := s 2
  have e4 := s 3
  have e5 := s 4
  have e6 := s 5
  have e7 := s 6
  have e8 := s 7
  clear s
  simp only [Nat.reduceSub, Nat.reduceAdd] at e1 e2 e3 e4 e5 e6 e7 e8
  generalize rd B ((p + 1 : Nat) : Int) = x1 at *
  generalize rd B ((p + 2 : Nat) : Int) = x2 at *
  generalize rd B ((p + 3 : Nat) : Int) = x3 at *
  generalize rd B ((p + 4 : Nat) : Int) = x4 at *
  generalize rd B ((p + 5 : Nat) : Int) = x5 at *
  generalize rd B ((p + 6 : Nat) : Int) = x6 at *
  generalize rd B ((p + 7 : Nat) : Int) = x7 at *
  generalize rd B ((p + 8 : Nat) : Int) = x8 at *
  rw [e0, or_hi (by omega) (by omega) r8.1 r8.2] at e1
  rw [or_hi (by omega) (by omega) r7.1 r7.2] at e2
  rw [or_hi (by omega) (by omega) r6.1 r6.2] at e3
  rw [or_hi (by omega) (by omega) r5.1 r5.2] at e4
  rw [or_hi (by omega) (by omega) r4.1 r4.2] at e5
  rw [or_hi (by omega) (by omega) r3.1 r3.2] at e6
  rw [or_hi (by omega) (by omega) r2.1 r2.2] at e7
  rw [or_hi (by omega) (by omega) r1.1 r1.2] at e8
  rw [e8]
  unfold sum8
  omega
theorem node_eq {B : List Int} (hx : ∀ x ∈ B, 0 ≤ x ∧ x ≤ 255) (f p : Nat) (n : Int) (hn : n ≤ 2999) (hp : p + 10 ≤ B.length) :
    rdTerm (f + 1) (B.drop p) n = (⟨rd B (p : Int), wrap64 (pNum B p 8), (rdKids (rdTerm f) (rd B ((p + 9 : Nat) : Int)).toNat [] (B.drop (p + 10)) (n + 1) 0).1⟩, (rdKids (rdTerm f) (rd B ((p + 9 : Nat) : Int)).toNat [] (B.drop (p + 10)) (n + 1) 0).2) := by
  rw [pNum_eight hx, ← rd_node f (rd B (p : Int)) _ _ _ _ _ _ _ _ (rd B ((p + 9 : Nat) : Int)) (B.drop (p + 10)) n hn (rd_range hx _) (rd_range hx _) (rd_range hx _) (rd_range hx _) (rd_range hx _) (rd_range hx _) (rd_range hx _) (rd_range hx _)]
  rw [← drop_rd (show p + 9 < B.length by omega), ← drop_rd (show p + 8 < B.length by omega), ← drop_rd (show p + 7 < B.length by omega), ← drop_rd (show p + 6 < B.length by omega), ← drop_rd (show p + 5 < B.length by omega), ← drop_rd (show p + 4 < B.length by omega), ← drop_rd (show p + 3 < B.length by omega), ← drop_rd (show p + 2 < B.length by omega), ← drop_rd (show p + 1 < B.length by omega), ← drop_rd (show p < B.length by omega)]
theorem kids_agree {B : List Int} {f : Nat} (ih : ∀ p n, 0 ≤ n → n ≤ 3000 → p ≤ B.length → (rdTerm f (B.drop p) n).2.2.2 = (pTerm B f p n).2.2.2 ∧ ((pTerm B f p n).2.2.2 = 0 → rdTerm f (B.drop p) n = ((pTerm B f p n).1, B.drop (pTerm B f p n).2.1, (pTerm B f p n).2.2))) :
    ∀ (m : Nat) (ks : List S29) (p : Nat) (n : Int), 0 ≤ n → n ≤ 3000 → p ≤ B.length →
      (rdKids (rdTerm f) m ks (B.drop p) n 0).2.2.2 = (pKids (pTerm B f) m ks p n).2.2.2 ∧ ((pKids (pTerm B f) m ks p n).2.2.2 = 0 → rdKids (rdTerm f) m ks (B.drop p) n 0 = ((pKids (pTerm B f) m ks p n).1, B.drop (pKids (pTerm B f) m ks p n).2.1, (pKids (pTerm B f) m ks p n).2.2))
  | 0, ks, p, n, h0, h1, hp => by simp [rdKids, pKids]
  | m + 1, ks, p, n, h0, h1, hp => by
    have h := ih p n h0 h1 hp
    have hi := pTerm_inv B f p n h0 h1 hp
    simp only [rdKids, pKids, if_true]
    by_cases he : (pTerm B f p n).2.2.2 = 0
    · have h2 := h.2 he
      rw [h2, if_pos he]
      simp only [he]
      exact kids_agree ih m _ _ _ hi.1.1 (hi.1.2.2 he) hi.2
    · rw [if_neg he]
      have he2 : (rdTerm f (B.drop p) n).2.2.2 ≠ 0 := by rw [h.1]; exact he
      rw [rdKids_err he2]
      exact ⟨h.1, fun hh => absurd hh he⟩
theorem agree {B : List Int} (hx : ∀ x ∈ B, 0 ≤ x ∧ x ≤ 255) : ∀ (f p : Nat) (n : Int), 0 ≤ n → n ≤ 3000 → p ≤ B.length →
    (rdTerm f (B.drop p) n).2.2.2 = (pTerm B f p n).2.2.2 ∧ ((pTerm B f p n).2.2.2 = 0 → rdTerm f (B.drop p) n = ((pTerm B f p n).1, B.drop (pTerm B f p n).2.1, (pTerm B f p n).2.2))
  | 0, p, n, h0, h1, hp => by simp [rdTerm, pTerm]
  | f + 1, p, n, h0, h1, hp => by
    by_cases hn : n ≤ 2999
    · by_cases hc : p + 10 ≤ B.length
      · rw [node_eq hx f p n hn hc]
        have hk := kids_agree (agree hx f) (rd B ((p + 9 : Nat) : Int)).toNat [] (p + 10) (n + 1) (by omega) (by omega) hc
        have a6 : ¬ 3000 < n + 1 := by omega
        have a7 : ¬ B.length < p + 10 := by omega
        simp only [pTerm, if_neg a6, if_neg a7]
        by_cases he : (pKids (pTerm B f) (rd B ((p + 9 : Nat) : Int)).toNat [] (p + 10) (n + 1)).2.2.2 = 0
        · rw [if_pos he, hk.2 he]
          simp
        · rw [if_neg he]
          exact ⟨hk.1, fun hh => absurd hh he⟩
      · rw [pTerm_cut_eq f hn (by omega)]
        have := rd_short f (B.drop p) n hn (by rw [List.length_drop]; omega)
        rw [this]
        simp
    · rw [pTerm_full_eq f (by omega)]
      have a6 : 3000 < n + 1 := by omega
      simp [rdTerm, a6]
def thyrsusref1_Parse.f (l : List Int) : Option (Int × Int × List S29 × Int) := code_Parse.f l

theorem thyrsusref1_Parse.calls (A0 : Option Addr) (c0 : Nat) (l0 : List Int) (r1 r2 : Int) (r3 : List S29) (r4 : Int) (w : World) (hr0 : Kd.C (Kd.int .u8) w A0 l0.length l0) (hc0 : l0.length ≤ c0) (h : thyrsusref1_Parse.f l0 = some (r1, r2, r3, r4)) :
    Calls Try.prog 17 #[.slice A0 l0.length c0] w fun e w' => ∃ v2_ : Value, e = .returned (.tuple #[.agg #[.int .i64 r1, .int .i64 r2, v2_], .int .i64 r4]) ∧ Kd.R k29 29 w' w.heap.size (fun _ => True) v2_ r3 ∧ Below w.heap.size w w' := by
  unfold thyrsusref1_Parse.f code_Parse.f at h
  split at h
  · rename_i hx
    obtain ⟨f, hf⟩ : ∃ f, f = 120 := ⟨_, rfl⟩
    simp only [Option.some.injEq, Prod.mk.injEq] at h
    obtain ⟨rfl, rfl, rfl, rfl⟩ := h
    have ha := agree hx f 0 0 (by omega) (by omega) (Nat.zero_le _)
    rw [List.drop_zero] at ha
    unfold rdParse
    rw [← hf]
    by_cases he : (pTerm l0 f 0 0).2.2.2 = 0
    · have ha2 := ha.2 he
      rw [ha2]
      simp only [he, if_true]
      by_cases hl : (pTerm l0 f 0 0).2.1 < l0.length
      · rw [if_pos (by rw [List.length_drop]; omega)]
        refine (pparse_bad hf hr0 hc0 hx rfl rfl (.inr ⟨he, hl⟩)).mono fun en w' hh => ?_
        rw [if_pos he] at hh
        exact ⟨_, hh.1, Kd.R_nil _ _ _ _ _, hh.2⟩
      · rw [if_neg (by rw [List.length_drop]; omega)]
        exact pparse_good hf hr0 hc0 hx rfl rfl ⟨he, hl⟩
    · rw [if_neg (by rw [ha.1]; exact he), ha.1]
      refine (pparse_bad hf hr0 hc0 hx rfl rfl (.inl he)).mono fun en w' hh => ?_
      rw [if_neg he] at hh
      exact ⟨_, hh.1, Kd.R_nil _ _ _ _ _, hh.2⟩
  · simp at h
end Go.Proofs.Ytfbjdfgadhlhlaa.P
