/- What the reference's Same comes to; and no two plain terms have the same bytes. -/
import Derived.Test.YtfbjdfgadhlhlaaFacts
import Derived.Test.YtfbjdfgadhlhlaaPx4 -- thyrsusref4_Same
namespace Go.Proofs.Ytfbjdfgadhlhlaa.P
open Go.RowKit Go.Proofs.YtfbjdfgadhlhlaaW.PrintWords Go.Proofs.YtfbjdfgadhlhlaaW.PrintLast Go.Proofs.YtfbjdfgadhlhlaaW.PrintMore
set_option linter.unusedVariables false
set_option linter.unusedSimpArgs false

theorem same_ev : ∀ (x : S29), size29 x ≤ 1000000 → ∀ (y : S29), ∃ r : Bool, Ev (fun k => thyrsusref4_Same.f k x.f0 x.f1 x.f2 y.f0 y.f1 y.f2) r ∧ (r = true ↔ x = y) := by
  intro x
  induction tr_all x with
  | mk a b l hl ih =>
    intro hs y
    obtain ⟨a', b', l'⟩ := y
    simp only [size29] at hs
    have hlen := sizes29_len l
    by_cases ha : a = a'
    · by_cases hb : b = b'
      · by_cases hc : l.length = l'.length
        · have loop : ∀ (d i : Nat), i + d = l.length → ∃ r : Bool, Ev (fun k => thyrsusref4_Same.l0 k (i : Int) a b l a' b' l') r ∧ (r = true ↔ l.drop i = l'.drop i) := by
            intro d
            induction d with
            | zero =>
              intro i hi
              refine ⟨true, Ev.step (f := fun _ => some true) (fun k => ?_) (Ev.now true), ?_⟩
              · simp only [thyrsusref4_Same.l0]
                rw [if_neg (by omega)]
              · rw [List.drop_of_length_le (by omega), List.drop_of_length_le (by omega)]
                simp
            | succ d ihd =>
              intro i hi
              have hil : i < l.length := by omega
              have hil' : i < l'.length := by omega
              have hd := sizes29_drop hil
              have hsz : size29 l[i] ≤ 1000000 := by
                have h1 := kid_size ⟨a, b, l⟩ i hil
                simp only [size29] at h1
                omega
              obtain ⟨r1, e1, h1⟩ := ih l[i] (List.getElem_mem hil) hsz l'[i]
              obtain ⟨r2, e2, h2⟩ := ihd (i + 1) (by omega)
              refine ⟨r1 && r2, Ev.step (f := fun k => (thyrsusref4_Same.f k l[i].f0 l[i].f1 l[i].f2 l'[i].f0 l'[i].f1 l'[i].f2).bind fun t => if t = true then thyrsusref4_Same.l0 k (wrap64 ((i : Int) + 1)) a b l a' b' l' else some false) (fun k => ?_) (Ev.bind e1 ?_), ?_⟩
              · simp only [thyrsusref4_Same.l0]
                rw [if_pos (by omega), if_pos (by omega), if_pos (by omega), rd29 hil, rd29 hil']
              · rw [wrap_id (n := (i : Int) + 1) (by omega)]
                cases r1 with
                | true => simpa using e2
                | false => simpa using Ev.now false
              · rw [Bool.and_eq_true, h1, h2, List.drop_eq_getElem_cons hil, List.drop_eq_getElem_cons hil', List.cons.injEq]
          obtain ⟨r, e, h⟩ := loop l.length 0 (by omega)
          refine ⟨r, Ev.step (f := fun k => thyrsusref4_Same.j0 k false a b l a' b' l') (fun k => ?_) (Ev.step (f := fun k => thyrsusref4_Same.l0 k 0 a b l a' b' l') (fun k => ?_) (by simpa using e)), ?_⟩
          · simp only [thyrsusref4_Same.f]
            rw [if_pos ha, if_pos hb, hc]
            simp
          · simp only [thyrsusref4_Same.j0]
            simp
          · rw [h]
            simp [ha, hb]
        · refine ⟨false, Ev.step (f := fun k => thyrsusref4_Same.j0 k true a b l a' b' l') (fun k => ?_) (Ev.step (f := fun _ => some false) (fun k => ?_) (Ev.now false)), ?_⟩
          · simp only [thyrsusref4_Same.f]
            rw [if_pos ha, if_pos hb]
            congr 1
            simp
            omega
          · simp only [thyrsusref4_Same.j0]
            simp
          · constructor
            · intro h; cases h
            · intro h
              injection h with h1 h2 h3
              exact absurd (congrArg List.length h3) hc
      · refine ⟨false, Ev.step (f := fun k => thyrsusref4_Same.j0 k true a b l a' b' l') (fun k => ?_) (Ev.step (f := fun _ => some false) (fun k => ?_) (Ev.now false)), ?_⟩
        · simp only [thyrsusref4_Same.f]
          rw [if_pos ha, if_neg hb]
        · simp only [thyrsusref4_Same.j0]
          simp
        · constructor
          · intro h; cases h
          · intro h
            injection h with h1 h2 h3
            exact absurd h2 hb
    · refine ⟨false, Ev.step (f := fun k => thyrsusref4_Same.j0 k true a b l a' b' l') (fun k => ?_) (Ev.step (f := fun _ => some false) (fun k => ?_) (Ev.now false)), ?_⟩
      · simp only [thyrsusref4_Same.f]
        rw [if_neg ha]
      · simp only [thyrsusref4_Same.j0]
        simp
      · constructor
        · intro h; cases h
        · intro h
          injection h with h1 h2 h3
          exact absurd h1 ha

theorem same_rd {x y : S29} (hs : size29 x ≤ 1000000) : ∃ r : Bool, (r = true ↔ x = y) ∧ ∀ {w : World} {A : Option Addr} {c : Nat} {A' : Option Addr} {c' : Nat}, Kd.C k29 w A x.f2.length x.f2 → x.f2.length ≤ c → Kd.C k29 w A' y.f2.length y.f2 → y.f2.length ≤ c' →
    Calls Try.prog 14 #[.agg #[.int .i64 x.f0, .int .i64 x.f1, .slice A x.f2.length c], .agg #[.int .i64 y.f0, .int .i64 y.f1, .slice A' y.f2.length c']] w fun e w' => e = .returned (.bool r) ∧ Below w.heap.size w w' := by
  obtain ⟨r, hb, h⟩ := same_ev x hs y
  obtain ⟨k, hk⟩ := hb.rounds
  exact ⟨r, h, fun h1 h2 h3 h4 => thyrsusref4_Same.calls k _ _ _ _ _ _ _ _ _ _ r _ h1 h2 h3 h4 hk⟩

mutual
/-- A term whose op and count of kids fit in a byte. -/
def fine : S29 → Prop
  | ⟨a, b, l⟩ => (0 ≤ a ∧ a < 256) ∧ (-9223372036854775808 ≤ b ∧ b ≤ 9223372036854775807) ∧ l.length ≤ 255 ∧ fines l
def fines : List S29 → Prop
  | [] => True
  | x :: l => fine x ∧ fines l
end
theorem encN_inj {b b' : Int} (h : -9223372036854775808 ≤ b ∧ b ≤ 9223372036854775807) (h' : -9223372036854775808 ≤ b' ∧ b' ≤ 9223372036854775807) (e : ∀ i, i < 8 → encN b i = encN b' i) : b = b' := by
  have w1 : ∀ x : Int, IntKind.u64.wrap x = x % 18446744073709551616 := fun x => by simp [IntKind.wrap, IntKind.bits, IntKind.signed]
  have e0 := e 0 (by omega)
  have e1 := e 1 (by omega)
  have e2 := e 2 (by omega)
  have e3 := e 3 (by omega)
  have e4 := e 4 (by omega)
  have e5 := e 5 (by omega)
  have e6 := e 6 (by omega)
  have e7 := e 7 (by omega)
  simp only [encN, w1] at e0 e1 e2 e3 e4 e5 e6 e7
  simp only [Nat.reduceMul, Int.reducePow] at e0 e1 e2 e3 e4 e5 e6 e7
  omega
mutual
theorem enc_inj : ∀ (x y : S29) (p q : List Int), fine x → fine y → enc x ++ p = enc y ++ q → x = y ∧ p = q
  | ⟨a, b, l⟩, ⟨a', b', l'⟩, p, q, hx, hy, h => by
    obtain ⟨ha, hb, hn, hl⟩ := hx
    obtain ⟨ha', hb', hn', hl'⟩ := hy
    rw [enc_cons, enc_cons] at h
    simp only [List.cons_append, List.cons.injEq] at h
    obtain ⟨h0, h1, h2, h3, h4, h5, h6, h7, h8, h9, h10⟩ := h
    have ea : a = a' := by omega
    have el : l.length = l'.length := by omega
    have eb : b = b' := encN_inj hb hb' (fun i hi => by
      have : i = 0 ∨ i = 1 ∨ i = 2 ∨ i = 3 ∨ i = 4 ∨ i = 5 ∨ i = 6 ∨ i = 7 := by omega
      rcases this with rfl | rfl | rfl | rfl | rfl | rfl | rfl | rfl <;> assumption)
    obtain ⟨e1, e2⟩ := encs_inj l l' p q el hl hl' h10
    exact ⟨by rw [ea, eb, e1], e2⟩
theorem encs_inj : ∀ (l l' : List S29) (p q : List Int), l.length = l'.length → fines l → fines l' → encs l ++ p = encs l' ++ q → l = l' ∧ p = q
  | [], [], p, q, _, _, _, h => by simpa [encs] using h
  | [], _ :: _, _, _, h, _, _, _ => by simp at h
  | _ :: _, [], _, _, h, _, _, _ => by simp at h
  | x :: l, x' :: l', p, q, hn, hl, hl', h => by
    simp only [encs, List.append_assoc] at h
    obtain ⟨e1, e2⟩ := enc_inj x x' _ _ hl.1 hl'.1 h
    obtain ⟨e3, e4⟩ := encs_inj l l' p q (by simpa using hn) hl.2 hl'.2 e2
    exact ⟨by rw [e1, e3], e4⟩
end
mutual
theorem enc_byte : ∀ (x : S29) (i : Int), i ∈ enc x → 0 ≤ i ∧ i < 256
  | ⟨a, b, l⟩, i, h => by
    rw [enc_cons] at h
    simp only [List.mem_cons] at h
    rcases h with h | h | h | h | h | h | h | h | h | h | h
    all_goals first | exact encs_byte l i h | (rw [h]; unfold encN; omega) | (rw [h]; omega)
theorem encs_byte : ∀ (l : List S29) (i : Int), i ∈ encs l → 0 ≤ i ∧ i < 256
  | [], i, h => by simp [encs] at h
  | x :: l, i, h => by
    simp only [encs, List.mem_append] at h
    rcases h with h | h
    · exact enc_byte x i h
    · exact encs_byte l i h
end
theorem str_inj : ∀ {l l' : List Int}, (∀ i ∈ l, 0 ≤ i ∧ i < 256) → (∀ i ∈ l', 0 ≤ i ∧ i < 256) → strOfNums l = strOfNums l' → l = l' := by
  intro l l' h h' e
  have e1 : (l.map fun n => UInt8.ofNat n.toNat) = (l'.map fun n => UInt8.ofNat n.toNat) := by
    rw [← strOfNums_data, ← strOfNums_data, e]
  clear e
  induction l generalizing l' with
  | nil => cases l' with
    | nil => rfl
    | cons y l' => simp at e1
  | cons x l ih => cases l' with
    | nil => simp at e1
    | cons y l' =>
      simp only [List.map_cons, List.cons.injEq] at e1
      have h1 := h x (by simp)
      have h2 := h' y (by simp)
      have e2 := congrArg UInt8.toNat e1.1
      rw [UInt8.toNat_ofNat', UInt8.toNat_ofNat', Nat.mod_eq_of_lt (by omega), Nat.mod_eq_of_lt (by omega)] at e2
      rw [ih (fun i hi => h i (by simp [hi])) (fun i hi => h' i (by simp [hi])) e1.2, show x = y by omega]
theorem same_bytes {x y : S29} (hx : fine x) (hy : fine y) : strOfNums (enc x) = strOfNums (enc y) ↔ x = y := by
  constructor
  · intro h
    have e := str_inj (enc_byte x) (enc_byte y) h
    exact (enc_inj x y [] [] hx hy (by simpa using e)).1
  · intro h
    rw [h]
theorem plain_fine : ∀ {x : S24}, WF24 x → fine (plain x) := by
  intro x h
  induction h with
  | mk a b l ha hb hn hl ih =>
    have hp : ∀ (n : Nat) (l : List S24), (∀ x ∈ l, fine (plain x)) → fines (plains n l) := by
      intro n
      induction n with
      | zero => intro l h; simp [plains, fines]
      | succ n ihn =>
        intro l h
        cases l with
        | nil => simp [plains, fines]
        | cons y l => exact ⟨h y (by simp), ihn l (fun z hz => h z (by simp [hz]))⟩
    exact ⟨by omega, i64_of hb, plains_len 255 l, hp 255 l ih⟩
end Go.Proofs.Ytfbjdfgadhlhlaa.P
