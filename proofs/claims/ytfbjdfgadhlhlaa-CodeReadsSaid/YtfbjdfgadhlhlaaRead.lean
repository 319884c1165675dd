/- The helpers' contracts in reading form: what a call answers, and that all that was there stays. -/
import Derived.Test.YtfbjdfgadhlhlaaPureA
import Derived.Test.YtfbjdfgadhlhlaaHandF
import Derived.Test.YtfbjdfgadhlhlaaPx1 -- thyrsuslaw1_known
namespace Go.Proofs.Ytfbjdfgadhlhlaa.P
open Go.RowKit Go.Proofs.YtfbjdfgadhlhlaaW.PrintWords Go.Proofs.YtfbjdfgadhlhlaaW.PrintLast Go.Proofs.YtfbjdfgadhlhlaaW.PrintMore
set_option linter.unusedVariables false
set_option linter.unusedSimpArgs false

mutual
theorem enc_size : ∀ t : S29, (enc t).length = 10 * size29 t
  | ⟨a, b, l⟩ => by
    have := encs_size l
    simp [enc, size29]
    omega
theorem encs_size : ∀ l : List S29, (encs l).length = 10 * sizes29 l
  | [] => rfl
  | x :: l => by
    have h1 := enc_size x
    have h2 := encs_size l
    simp [encs, sizes29]
    omega
end
/-- A term's bytes, its first ten written out. -/
theorem enc_cons (a b : Int) (l : List S29) : enc ⟨a, b, l⟩ = (a % 256) :: encN b 0 :: encN b 1 :: encN b 2 :: encN b 3 :: encN b 4 :: encN b 5 :: encN b 6 :: encN b 7 :: ((l.length : Int) % 256) :: encs l := by
  simp [enc, List.range, List.range.loop]
theorem known_ok : thyrsuslaw1_known.f = some true := by
  unfold thyrsuslaw1_known.f code_Bytes.f
  rw [if_pos (by rw [enc_cons]; simp [encs])]
  simp only [Option.bind_some]
  rw [enc_cons]
  rw [if_pos (by simp [encs]), if_pos (by simp [encs]), if_pos (by simp [rd]), if_pos (by simp [encs])]
  simp [rd]
theorem bytes_ok {t : S29} (h : size29 t ≤ 1000000) : code_Bytes.f t.f0 t.f1 t.f2 = some (enc t) := by
  unfold code_Bytes.f
  rw [S29.eta', if_pos (by rw [enc_size]; omega)]
mutual
theorem plain_size : ∀ x : S24, size29 (plain x) ≤ size24 x
  | ⟨a, b, l⟩ => by
    have := plains_size 255 l
    simp [plain, size29, size24]
    omega
theorem plains_size : ∀ (n : Nat) (l : List S24), sizes29 (plains n l) ≤ sizes24 l
  | 0, l => by simp [plains, sizes29]
  | n + 1, [] => by simp [plains, sizes29]
  | n + 1, x :: l => by
    have h1 := plain_size x
    have h2 := plains_size n l
    simp [plains, sizes29, sizes24]
    omega
end
theorem plains_len : ∀ (n : Nat) (l : List S24), (plains n l).length ≤ n
  | 0, l => by simp [plains]
  | n + 1, [] => by simp [plains]
  | n + 1, x :: l => by
    have := plains_len n l
    simp [plains]
    omega

/-- A tree's value, whose kids are read in w. -/
def TV (w : World) (x : S29) (v : Value) : Prop := ∃ A c, v = .agg #[.int .i64 x.f0, .int .i64 x.f1, .slice A x.f2.length c] ∧ x.f2.length ≤ c ∧ Kd.C k29 w A x.f2.length x.f2

theorem known_rd (w : World) : Calls Try.prog 9 #[] w fun e w' => e = .returned (.bool true) ∧ Below w.heap.size w w' := thyrsuslaw1_known.calls true w known_ok
theorem few_rd {x : S24} (wf : WF24 x) : ∃ b : Bool, (b = true → size24 x < 300) ∧ ∀ {w : World} {A : Option Addr} {c : Nat}, Kd.C k24 w A x.f2.length x.f2 → x.f2.length ≤ c →
    Calls Try.prog 10 #[.agg #[.int .i64 x.f0, .int .i64 x.f1, .slice A x.f2.length c]] w fun e w' => e = .returned (.bool b) ∧ Below w.heap.size w w' := by
  obtain ⟨b, hb, hs⟩ := few_ev wf
  obtain ⟨k, hk⟩ := hb.rounds
  exact ⟨b, hs, fun h1 h2 => thyrsuslaw1_Few.calls k _ _ _ _ _ b _ h1 h2 hk⟩
theorem plain_rd {x : S24} (wf : WF24 x) {w : World} {A : Option Addr} {c : Nat} (h1 : Kd.C k24 w A x.f2.length x.f2) (h2 : x.f2.length ≤ c) :
    Calls Try.prog 11 #[.agg #[.int .i64 x.f0, .int .i64 x.f1, .slice A x.f2.length c]] w fun e w' => ∃ A' c', e = .returned (.agg #[.int .i64 (plain x).f0, .int .i64 (plain x).f1, .slice A' (plain x).f2.length c']) ∧ (plain x).f2.length ≤ c' ∧ Kd.C k29 w' A' (plain x).f2.length (plain x).f2 ∧ Below w.heap.size w w' := by
  obtain ⟨k, hk⟩ := (plain_ev wf).rounds
  refine (thyrsuslaw1_Plain.calls k _ _ _ _ _ _ _ _ _ h1 h2 hk).mono fun e w' h => ?_
  obtain ⟨v, he, hR, hB⟩ := h
  obtain ⟨A', c', hv, hl, hC⟩ := Kd.R_reads hR
  exact ⟨A', c', by rw [he, hv], hl, hC, hB⟩
theorem bytes_rd {t : S29} (hs : size29 t ≤ 1000000) {w : World} {A : Option Addr} {c : Nat} (h1 : Kd.C k29 w A t.f2.length t.f2) (h2 : t.f2.length ≤ c) :
    Calls Try.prog 12 #[.agg #[.int .i64 t.f0, .int .i64 t.f1, .slice A t.f2.length c]] w fun e w' => ∃ A' c', e = .returned (.slice A' (enc t).length c') ∧ (enc t).length ≤ c' ∧ Kd.C (Kd.int .u8) w' A' (enc t).length (enc t) ∧ Below w.heap.size w w' := by
  refine (code_Bytes.calls _ _ _ _ _ _ _ h1 h2 (bytes_ok hs)).mono fun e w' h => ?_
  obtain ⟨v, he, hR, hB⟩ := h
  obtain ⟨A', c', hv, hl, hC⟩ := Kd.R_reads hR
  exact ⟨A', c', by rw [he, hv], hl, hC, hB⟩
theorem size_rd {t : S29} (hs : size29 t ≤ 1000000) {w : World} {A : Option Addr} {c : Nat} (h1 : Kd.C k29 w A t.f2.length t.f2) (h2 : t.f2.length ≤ c) :
    Calls Try.prog 13 #[.agg #[.int .i64 t.f0, .int .i64 t.f1, .slice A t.f2.length c]] w fun e w' => e = .returned (.int .i64 (size29 t : Int)) ∧ Below w.heap.size w w' := by
  obtain ⟨k, hk⟩ := (size_ev t hs).rounds
  exact thyrsusref4_Size.calls k _ _ _ _ _ _ _ h1 h2 hk
end Go.Proofs.Ytfbjdfgadhlhlaa.P
