/- A plain model of chapter 3's forms: the tokens put into rows, one within the other; how many tokens there are, and of which kinds. No conditions. -/
import Derived.Test.YtkkmgahgejjhgaaDoorCHandT
import Derived.Test.YtkkmgahgejjhgaaDoorCHandQ
namespace Go.Proofs.YtkkmgahgejjhgaaDoor.Frm
open Go.RowKit Go.Proofs.YtkkmgahgejjhgaaDoor.P Go.Proofs.YtkkmgahgejjhgaaDoor.Lex Go.Proofs.YtkkmgahgejjhgaaDoorW.PrintWords
/-- Tokens put into rows: st: the outer rows, the innermost first; top: the innermost one. -/
def frun : List S63 → List (List S42) → List S42 → Int → List S42 × Int × Int
  | [], [], top, _ => (top, 0, 0)
  | [], _ :: _, _, sz => ([], sz, 7)
  | t :: r, st, top, sz =>
    if t.f0 = 1 then (if st.length < 30 then frun r (top :: st) [] sz else ([], t.f2, 5))
    else if t.f0 = 2 then (match st with
      | [] => ([], t.f2, 7)
      | p :: st' => frun r st' (p ++ [⟨3, 0, ⟨#[]⟩, top⟩]) sz)
    else if t.f0 = 3 then frun r st (top ++ [⟨1, 0, t.f3, []⟩]) sz
    else frun r st (top ++ [⟨2, t.f1, ⟨#[]⟩, []⟩]) sz
def fparse (s : ByteArray) : List S42 × Int × Int :=
  if (tokens (lst s)).2.2 = 0 then frun (tokens (lst s)).1 [] [] s.size else ([], (tokens (lst s)).2.1, (tokens (lst s)).2.2)
def rws (st : List (List S42)) (top : List S42) : List (List S42) := st.reverse ++ [top]
theorem rws_len (st : List (List S42)) (top : List S42) : (rws st top).length = st.length + 1 := by simp [rws]
theorem rws_top (st : List (List S42)) (top : List S42) : (rws st top).getD st.length [] = top := by simp [rws, List.getD_eq_getElem?_getD]
theorem rws_add (st : List (List S42)) (top : List S42) (x : List S42) : (rws st top).set st.length x = rws st x := by
  simp [rws, List.set_append_right]
theorem rws_open (st : List (List S42)) (top : List S42) : rws st top ++ [[]] = rws (top :: st) [] := by simp [rws]
theorem rws_snd (p : List S42) (st : List (List S42)) (top : List S42) : (rws (p :: st) top).getD st.length [] = p := by simp [rws, List.getD_eq_getElem?_getD]
theorem rws_take (p : List S42) (st : List (List S42)) (top : List S42) : (rws (p :: st) top).take (st.length + 1) = rws st p := by
  have h : rws (p :: st) top = rws st p ++ [top] := by simp [rws]
  rw [h, ← rws_len st p, List.take_left]
theorem nextT_kind (l : List UInt8) (h : (nextT l).2.2.2 = 0) : (nextT l).1 = 1 ∨ (nextT l).1 = 2 ∨ (nextT l).1 = 3 ∨ (nextT l).1 = 4 := by
  unfold nextT at h ⊢
  by_cases h1 : nb l 0 = 40
  · rw [if_pos h1]; exact .inl rfl
  rw [if_neg h1] at h ⊢
  by_cases h2 : nb l 0 = 41
  · rw [if_pos h2]; exact .inr (.inl rfl)
  rw [if_neg h2] at h ⊢
  by_cases h3 : nb l 0 = 42
  · rw [if_pos h3]; exact .inr (.inr (.inl rfl))
  rw [if_neg h3] at h ⊢
  by_cases h4 : nb l 0 = 45 ∧ 1 < l.length ∧ nb l 1 = 62
  · rw [if_pos h4]; exact .inr (.inr (.inl rfl))
  rw [if_neg h4] at h ⊢
  by_cases h5 : pFront (nb l 0) = true
  · rw [if_pos h5] at h ⊢
    by_cases h6 : spn pInner l > 20
    · rw [if_pos h6] at h; exact absurd h (by decide)
    · rw [if_neg h6]; exact .inr (.inr (.inl rfl))
  rw [if_neg h5] at h ⊢
  by_cases h6 : sgn l = 0
  · rw [if_pos h6] at h; exact absurd h (by decide)
  rw [if_neg h6] at h ⊢
  cases hv : num (l.take (sgn l)) with
  | none => rw [hv] at h; exact absurd (show (4 : Int) = 0 from h) (by decide)
  | some v => exact .inr (.inr (.inr rfl))
theorem toks_all : ∀ (f : Nat) (l : List UInt8) (p : Nat) (acc : List S63), (∀ t ∈ acc, t.f0 = 1 ∨ t.f0 = 2 ∨ t.f0 = 3 ∨ t.f0 = 4) → (∀ t ∈ (toks f l p acc).1, t.f0 = 1 ∨ t.f0 = 2 ∨ t.f0 = 3 ∨ t.f0 = 4) ∧ (toks f l p acc).1.length ≤ acc.length + l.length
  | 0, l, p, acc, _ => by simp [toks]
  | f + 1, l, p, acc, ha => by
    rw [toks]
    split
    · exact ⟨ha, Nat.le_add_right _ _⟩
    · rename_i h0
      split
      · rename_i h1
        have hl := nextT_len (l := l.drop (blk false l)) (by omega) h1
        have ih := toks_all f ((l.drop (blk false l)).drop (nextT (l.drop (blk false l))).2.2.1) (p + blk false l + (nextT (l.drop (blk false l))).2.2.1) (acc ++ [⟨(nextT (l.drop (blk false l))).1, (nextT (l.drop (blk false l))).2.1, ((p + blk false l : Nat) : Int), txt (nextT (l.drop (blk false l))).1 (l.drop (blk false l)) (nextT (l.drop (blk false l))).2.2.1⟩]) (by
          intro t ht
          rcases List.mem_append.1 ht with ht | ht
          · exact ha t ht
          · rw [List.mem_singleton.1 ht]
            exact nextT_kind _ h1)
        refine ⟨ih.1, Nat.le_trans ih.2 ?_⟩
        rw [List.length_append, List.length_singleton, List.length_drop, List.length_drop] at *
        omega
      · exact ⟨fun t ht => by simp at ht, by simp⟩
theorem tokens_all (l : List UInt8) : (∀ t ∈ (tokens l).1, t.f0 = 1 ∨ t.f0 = 2 ∨ t.f0 = 3 ∨ t.f0 = 4) ∧ (tokens l).1.length ≤ 4000 := by
  unfold tokens
  split
  · exact ⟨fun t ht => by simp at ht, by simp⟩
  · rename_i h
    have := toks_all (l.length + 1) l 0 [] (by simp)
    refine ⟨this.1, ?_⟩
    have h2 := this.2
    simp only [List.length_nil] at h2
    omega
end Go.Proofs.YtkkmgahgejjhgaaDoor.Frm
