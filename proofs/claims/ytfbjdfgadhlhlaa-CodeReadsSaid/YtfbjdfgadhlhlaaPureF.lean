/- The reference's bytes; the parse of a term's bytes; CodeEnds, plain. -/
import Derived.Test.YtfbjdfgadhlhlaaPureC
import Derived.Test.YtfbjdfgadhlhlaaPx8
import Derived.Test.YtfbjdfgadhlhlaaHandD
namespace Go.Proofs.Ytfbjdfgadhlhlaa.P
open Go.RowKit Go.Proofs.YtfbjdfgadhlhlaaW.PrintWords Go.Proofs.YtfbjdfgadhlhlaaW.PrintLast Go.Proofs.YtfbjdfgadhlhlaaW.PrintMore
set_option linter.unusedVariables false
set_option linter.unusedSimpArgs false

theorem shr_enc (b : Int) (i : Nat) (hi : i < 8) : (shr .u64 (IntKind.u64.wrap b) (IntKind.u64.wrap (8 * IntKind.u64.wrap (i : Int)))) % 256 = encN b i := by
  rw [wrap_u64 (x := (i : Int)) (by omega) (by omega), wrap_u64 (x := 8 * (i : Int)) (by omega) (by omega)]
  unfold shr encN
  rw [Nat.min_eq_left (by simp [IntKind.bits]; omega), show (8 * (i : Int)).toNat = 8 * i by omega]
theorem rbytes_ev : ∀ (t : S29), size29 t ≤ 1000000 → Ev (fun k => thyrsusref1_Bytes.f k t.f0 t.f1 t.f2) (enc t) := by
  intro t
  induction tr_all t with
  | mk a b l hl ih =>
    intro hs
    simp only [size29] at hs
    have hlen := sizes29_len l
    have loop : ∀ (d i : Nat) (acc : List Int), i + d = l.length → acc.length + 10 * sizes29 (l.drop i) ≤ 20000000 → Ev (fun k => thyrsusref1_Bytes.l1 k acc (i : Int) a b l) (acc ++ encs (l.drop i)) := by
      intro d
      induction d with
      | zero =>
        intro i acc hi h2
        refine Ev.step (f := fun _ => some acc) (fun k => ?_) (by rw [List.drop_of_length_le (by omega)]; simpa [encs] using Ev.now acc)
        simp only [thyrsusref1_Bytes.l1]
        rw [if_neg (by omega)]
      | succ d ihd =>
        intro i acc hi h2
        have hil : i < l.length := by omega
        rw [sizes29_drop hil] at h2
        have hm := List.getElem_mem hil
        have he := enc_size l[i]
        have hd := List.drop_eq_getElem_cons hil
        have hsz : size29 l[i] ≤ 1000000 := by
          have h1 := kid_size ⟨a, b, l⟩ i hil
          simp only [size29] at h1
          omega
        refine Ev.step (f := fun k => (thyrsusref1_Bytes.f k l[i].f0 l[i].f1 l[i].f2).bind fun t => if acc.length + t.length < 140737488355328 then thyrsusref1_Bytes.l1 k (acc ++ t) (wrap64 ((i : Int) + 1)) a b l else none) (fun k => ?_) (Ev.bind (ih l[i] hm hsz) ?_)
        · simp only [thyrsusref1_Bytes.l1]
          rw [if_pos (by omega), if_pos (by omega), rd29 hil]
        · simp only [if_pos (show acc.length + (enc l[i]).length < 140737488355328 by omega), wrap_id (n := (i : Int) + 1) (by omega)]
          have := ihd (i + 1) (acc ++ enc l[i]) (by omega) (by rw [List.length_append]; omega)
          rw [hd]
          simpa [encs] using this
    have loop0 : ∀ (d i : Nat) (acc : List Int), i + d = 8 → acc.length = 1 + i → Ev (fun k => thyrsusref1_Bytes.l0 k acc (i : Int) a b l) (acc ++ ((List.range 8).map (encN b)).drop i ++ [(l.length : Int) % 256] ++ encs l) := by
      intro d
      induction d with
      | zero =>
        intro i acc hi ha
        obtain rfl : i = 8 := by omega
        have h8 : ((List.range 8).map (encN b)).drop 8 = [] := List.drop_of_length_le (by simp)
        rw [h8]
        refine Ev.step (f := fun k => thyrsusref1_Bytes.l1 k (acc ++ [((l.length : Int)) % 256]) 0 a b l) (fun k => ?_) ?_
        · simp only [thyrsusref1_Bytes.l0]
          rw [if_neg (by omega), if_pos (by omega)]
        · have := loop l.length 0 (acc ++ [(l.length : Int) % 256]) (by omega) (by simp [ha]; omega)
          simpa using this
      | succ d ihd =>
        intro i acc hi ha
        have h8 : ((List.range 8).map (encN b)).drop i = encN b i :: ((List.range 8).map (encN b)).drop (i + 1) := by
          rw [List.drop_eq_getElem_cons (by simp; omega)]
          simp
        refine Ev.step (f := fun k => thyrsusref1_Bytes.l0 k (acc ++ [encN b i]) ((i : Int) + 1) a b l) (fun k => ?_) ?_
        · simp only [thyrsusref1_Bytes.l0]
          rw [if_pos (by omega), if_pos (by rw [wrap_u64 (x := (i : Int)) (by omega) (by omega), wrap_u64 (x := 8 * (i : Int)) (by omega) (by omega)]; omega), if_pos (by omega), shr_enc b i (by omega), wrap_id (n := (i : Int) + 1) (by omega)]
        · have := ihd (i + 1) (acc ++ [encN b i]) (by omega) (by simp [ha]; omega)
          rw [h8]
          simpa using this
    refine Ev.step (f := fun k => thyrsusref1_Bytes.l0 k ([a % 256] : List Int) 0 a b l) (fun k => by simp only [thyrsusref1_Bytes.f]) ?_
    have := loop0 8 0 [a % 256] (by omega) (by simp)
    simpa [enc] using this
/-- The bytes of a term are bytes. -/
theorem enc_ok (t : S29) : ∀ x ∈ enc t, 0 ≤ x ∧ x ≤ 255 := fun x h => by
  have := enc_byte t x h
  omega
theorem parse_val {l : List Int} (hx : ∀ x ∈ l, 0 ≤ x ∧ x ≤ 255) : code_Parse.f l = some ((rdParse l).1.f0, (rdParse l).1.f1, (rdParse l).1.f2, (rdParse l).2) := by
  unfold code_Parse.f
  rw [if_pos hx]
theorem rdParse_of {f : Nat} (hf : f = 120) (l : List Int) : rdParse l = if (rdTerm f l 0).2.2.2 = 0 then (if 0 < (rdTerm f l 0).2.1.length then (⟨0, 0, []⟩, 3) else ((rdTerm f l 0).1, 0)) else (⟨0, 0, []⟩, (rdTerm f l 0).2.2.2) := by
  subst hf
  rfl
/-- What Parse makes of a term's bytes. -/
theorem parse_enc {t : S29} (h : fine t) (hd : deep29 t ≤ 120) (hs : size29 t ≤ 3000) : rdParse (enc t) = (t, 0) := by
  obtain ⟨f, hf⟩ : ∃ f, f = 120 := ⟨_, rfl⟩
  have e := (rdTerm_enc t f [] 0 h (by omega) (by omega)).1 ⟨by omega, by omega⟩
  rw [List.append_nil] at e
  rw [rdParse_of hf, e]
  simp
/-- .. and of more. -/
theorem parse_more {t : S29} (h : fine t) (hd : deep29 t ≤ 120) (hs : size29 t ≤ 3000) (x : Int) (r : List Int) : rdParse (enc t ++ x :: r) = (⟨0, 0, []⟩, 3) := by
  obtain ⟨f, hf⟩ : ∃ f, f = 120 := ⟨_, rfl⟩
  have e := (rdTerm_enc t f (x :: r) 0 h (by omega) (by omega)).1 ⟨by omega, by omega⟩
  rw [rdParse_of hf, e]
  simp
/-- .. and of fewer. -/
theorem parse_cut {t : S29} (h : fine t) {j : Nat} (hj : j < (enc t).length) : (rdParse ((enc t).take j)).1 = ⟨0, 0, []⟩ ∧ (rdParse ((enc t).take j)).2 ≠ 0 ∧ (deep29 t ≤ 120 ∧ size29 t ≤ 3000 → (rdParse ((enc t).take j)).2 = 2) := by
  obtain ⟨f, hf⟩ : ∃ f, f = 120 := ⟨_, rfl⟩
  have e := rdTerm_cut t f j 0 h hj (by omega) (by omega)
  rw [rdParse_of hf, if_neg e.1]
  exact ⟨rfl, e.1, fun hh => e.2 ⟨by omega, by omega⟩⟩
/-- .. and of a term that is too much. -/
theorem parse_over {t : S29} (h : fine t) (ho : ¬ (deep29 t ≤ 120 ∧ size29 t ≤ 3000)) : rdParse (enc t) = (⟨0, 0, []⟩, 5) := by
  obtain ⟨f, hf⟩ : ∃ f, f = 120 := ⟨_, rfl⟩
  have e := (rdTerm_enc t f [] 0 h (by omega) (by omega)).2 (fun hh => ho ⟨by omega, by omega⟩)
  rw [List.append_nil] at e
  rw [rdParse_of hf, e]
  simp
end Go.Proofs.Ytfbjdfgadhlhlaa.P
