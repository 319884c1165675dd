/- Reading forms of the calls that CodeReads makes; how great a term is that was read. -/
import Derived.Test.YtfbjdfgadhlhlaaPureE
import Derived.Test.YtfbjdfgadhlhlaaPureF
import Derived.Test.YtfbjdfgadhlhlaaRefD
namespace Go.Proofs.Ytfbjdfgadhlhlaa.P
open Go.RowKit Go.Proofs.YtfbjdfgadhlhlaaW.PrintWords Go.Proofs.YtfbjdfgadhlhlaaW.PrintLast Go.Proofs.YtfbjdfgadhlhlaaW.PrintMore
set_option linter.unusedVariables false
set_option linter.unusedSimpArgs false

theorem rdKids_cnt (rec : List Int → Int → S29 × List Int × Int × Int)
    (hrec : ∀ l n, (rec l n).2.2.2 = 0 → (size29 (rec l n).1 : Int) = (rec l n).2.2.1 - n) :
    ∀ (m : Nat) (ks : List S29) (l : List Int) (n e : Int), (rdKids rec m ks l n e).2.2.2 = 0 → (sizes29 (rdKids rec m ks l n e).1 : Int) = sizes29 ks + ((rdKids rec m ks l n e).2.2.1 - n)
  | 0, ks, l, n, e, h => by simp only [rdKids]; omega
  | m + 1, ks, l, n, e, h => by
    by_cases he : e = 0
    · simp only [rdKids, if_pos he] at h ⊢
      by_cases h2 : (rec l n).2.2.2 = 0
      · have h3 := hrec l n h2
        have h4 := rdKids_cnt rec hrec m _ _ _ _ h
        rw [h4, sizes_snoc]
        omega
      · rw [rdKids_err h2] at h
        exact absurd h h2
    · rw [rdKids_err he] at h
      exact absurd h he
theorem rdTerm_cnt : ∀ (f : Nat) (l : List Int) (n : Int), (rdTerm f l n).2.2.2 = 0 → (size29 (rdTerm f l n).1 : Int) = (rdTerm f l n).2.2.1 - n
  | 0, l, n, h => by simp [rdTerm] at h
  | f + 1, l, n, h => by
    unfold rdTerm at h ⊢
    split
    · rename_i hn
      rw [if_pos hn] at h
      simp at h
    · rename_i hn
      rw [if_neg hn] at h
      have := rdKids_cnt (rdTerm f) (fun l n => rdTerm_cnt f l n) _ _ _ _ _ h
      simp only [sizes29] at this
      simp only [size29]
      omega
theorem rdParse_size {l : List Int} (hx : ∀ x ∈ l, 0 ≤ x ∧ x ≤ 255) : size29 (rdParse l).1 ≤ 3000 := by
  obtain ⟨f, hf⟩ : ∃ f, f = 120 := ⟨_, rfl⟩
  rw [rdParse_of hf]
  split
  · rename_i he
    split
    · simp [size29, sizes29]
    · have h1 := rdTerm_cnt f l 0 he
      have h2 := (rdTerm_inv f l 0 (by omega) (by omega) hx).1.2.2 he
      simp only
      omega
  · simp [size29, sizes29]
theorem make_rd {x : S24} (wf : WF24 x) : ∃ t : S29, fine t ∧ size29 t ≤ 1365 ∧ ∀ {w : World} {A : Option Addr} {c : Nat}, Kd.C k24 w A x.f2.length x.f2 → x.f2.length ≤ c →
    Calls Try.prog 15 #[.agg #[.int .i64 x.f0, .int .i64 x.f1, .slice A x.f2.length c], .int .i64 5, .int .i64 2] w fun e w' => ∃ A' c', e = .returned (.agg #[.int .i64 t.f0, .int .i64 t.f1, .slice A' t.f2.length c']) ∧ t.f2.length ≤ c' ∧ Kd.C k29 w' A' t.f2.length t.f2 ∧ Below w.heap.size w w' := by
  obtain ⟨t, hE, hf, hd, hs⟩ := make_all 5 x wf 5 2 (by omega) (by omega) (by omega) (by omega) (by omega)
  obtain ⟨k, hk⟩ := hE.rounds
  refine ⟨t, hf, hs, fun h1 h2 => ?_⟩
  refine (thyrsuslaw1_Make.calls k _ _ _ _ _ _ _ _ _ _ _ h1 h2 hk).mono fun e w' h => ?_
  obtain ⟨v, he, hR, hB⟩ := h
  obtain ⟨A', c', hv, hl, hC⟩ := Kd.R_reads hR
  exact ⟨A', c', by rw [he, hv], hl, hC, hB⟩
theorem rbytes_rd {t : S29} (hs : size29 t ≤ 1000000) {w : World} {A : Option Addr} {c : Nat} (h1 : Kd.C k29 w A t.f2.length t.f2) (h2 : t.f2.length ≤ c) :
    Calls Try.prog 18 #[.agg #[.int .i64 t.f0, .int .i64 t.f1, .slice A t.f2.length c]] w fun e w' => ∃ A' c', e = .returned (.slice A' (enc t).length c') ∧ (enc t).length ≤ c' ∧ Kd.C (Kd.int .u8) w' A' (enc t).length (enc t) ∧ Below w.heap.size w w' := by
  obtain ⟨k, hk⟩ := (rbytes_ev t hs).rounds
  refine (thyrsusref1_Bytes.calls k _ _ _ _ _ _ _ h1 h2 hk).mono fun e w' h => ?_
  obtain ⟨v, he, hR, hB⟩ := h
  obtain ⟨A', c', hv, hl, hC⟩ := Kd.R_reads hR
  exact ⟨A', c', by rw [he, hv], hl, hC, hB⟩
theorem parse_rd {l : List Int} (hx : ∀ x ∈ l, 0 ≤ x ∧ x ≤ 255) {w : World} {A : Option Addr} {c : Nat} (h1 : Kd.C (Kd.int .u8) w A l.length l) (h2 : l.length ≤ c) :
    Calls Try.prog 16 #[.slice A l.length c] w fun e w' => ∃ A' c', e = .returned (.tuple #[.agg #[.int .i64 (rdParse l).1.f0, .int .i64 (rdParse l).1.f1, .slice A' (rdParse l).1.f2.length c'], .int .i64 (rdParse l).2]) ∧ (rdParse l).1.f2.length ≤ c' ∧ Kd.C k29 w' A' (rdParse l).1.f2.length (rdParse l).1.f2 ∧ Below w.heap.size w w' := by
  refine (code_Parse.calls _ _ _ _ _ _ _ _ h1 h2 (parse_val hx)).mono fun e w' h => ?_
  obtain ⟨v, he, hR, hB⟩ := h
  obtain ⟨A', c', hv, hl, hC⟩ := Kd.R_reads hR
  exact ⟨A', c', by rw [he, hv], hl, hC, hB⟩
theorem rparse_rd {l : List Int} (hx : ∀ x ∈ l, 0 ≤ x ∧ x ≤ 255) {w : World} {A : Option Addr} {c : Nat} (h1 : Kd.C (Kd.int .u8) w A l.length l) (h2 : l.length ≤ c) :
    Calls Try.prog 17 #[.slice A l.length c] w fun e w' => ∃ A' c', e = .returned (.tuple #[.agg #[.int .i64 (rdParse l).1.f0, .int .i64 (rdParse l).1.f1, .slice A' (rdParse l).1.f2.length c'], .int .i64 (rdParse l).2]) ∧ (rdParse l).1.f2.length ≤ c' ∧ Kd.C k29 w' A' (rdParse l).1.f2.length (rdParse l).1.f2 ∧ Below w.heap.size w w' := by
  refine (thyrsusref1_Parse.calls _ _ _ _ _ _ _ _ h1 h2 (parse_val hx)).mono fun e w' h => ?_
  obtain ⟨v, he, hR, hB⟩ := h
  obtain ⟨A', c', hv, hl, hC⟩ := Kd.R_reads hR
  exact ⟨A', c', by rw [he, hv], hl, hC, hB⟩
end Go.Proofs.Ytfbjdfgadhlhlaa.P
