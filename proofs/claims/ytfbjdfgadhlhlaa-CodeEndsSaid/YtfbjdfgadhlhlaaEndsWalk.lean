/- CodeEnds: the plain law over the printed body, and the call's walk. -/
import Derived.Test.YtfbjdfgadhlhlaaPureF
import Derived.Test.YtfbjdfgadhlhlaaEndsA
namespace Go.Proofs.Ytfbjdfgadhlhlaa.P
open Go.RowKit Go.Proofs.YtfbjdfgadhlhlaaW.PrintWords Go.Proofs.YtfbjdfgadhlhlaaW.PrintLast Go.Proofs.YtfbjdfgadhlhlaaW.PrintMore
set_option linter.unusedVariables false
set_option linter.unusedSimpArgs false

theorem u8_of {n : Int} (h : (Lit.int .u8 n).wf = true) : 0 ≤ n ∧ n ≤ 255 := by
  have h1 : IntKind.u8.min ≤ n ∧ n ≤ IntKind.u8.max := by simpa [Lit.wf] using h
  exact h1
theorem ends_pure {x : S24} (hx : WF24 x) {n m : Int} (hn : -9223372036854775808 ≤ n ∧ n ≤ 9223372036854775807) (hm : 0 ≤ m ∧ m ≤ 255) : ∃ k, thyrsuslaw1_CodeEnds.f k x.f0 x.f1 x.f2 n m = some true := by
  refine Ev.rounds ?_
  unfold thyrsuslaw1_CodeEnds.f
  rw [known_ok]
  simp only [Option.bind_some, if_true]
  obtain ⟨b, hb, hf⟩ := few_ev hx
  refine Ev.bind hb ?_
  cases b with
  | false => simpa using Ev.now true
  | true =>
    simp only [if_true]
    obtain ⟨t, hE, hft, hd, hs⟩ := make_all 4 x hx 4 2 (by omega) (by omega) (by omega) (by omega) (by omega)
    have hs4 : size29 t ≤ 341 := hs
    refine Ev.bind hE ?_
    have hw := within_val hn (n := 4) (by omega) (by omega)
    have m1 := Int.emod_nonneg n (show (4 : Int) ≠ 0 by omega)
    have m2 := Int.emod_lt_of_pos n (show (0 : Int) < 4 by omega)
    obtain ⟨N, hN, hr⟩ : ∃ N : Int, rd ([9223372036854775807, (-9223372036854775808), (-1), n] : List Int) (n % 4) = N ∧ (-9223372036854775808 ≤ N ∧ N ≤ 9223372036854775807) := by
      have : n % 4 = 0 ∨ n % 4 = 1 ∨ n % 4 = 2 ∨ n % 4 = 3 := by omega
      rcases this with h | h | h | h <;> rw [h] <;> refine ⟨_, rfl, ?_⟩ <;> simp [rd] <;> omega
    simp only [hw, Option.bind_some, if_pos m1]
    rw [S29.eta']
    simp only [List.length_cons, List.length_nil, hN]
    obtain ⟨T, hT⟩ : ∃ T : S29, T = ⟨7, N, [t]⟩ := ⟨_, rfl⟩
    have fT : fine T := by rw [hT]; exact ⟨by omega, hr, by simp, hft, trivial⟩
    have dT : deep29 T ≤ 120 := by rw [hT]; simp only [deep29, deeps29]; omega
    have sT : size29 T ≤ 3000 := by rw [hT]; simp only [size29, sizes29]; omega
    have e1 : code_Bytes.f 7 N [t] = some (enc T) := by
      have := bytes_ok (t := T) (by omega)
      rw [hT] at this ⊢
      exact this
    have e2 : Ev (fun k => thyrsusref1_Bytes.f k 7 N [t]) (enc T) := by
      have := rbytes_ev T (by omega)
      rw [hT] at this ⊢
      exact this
    have ht := enc_ten T
    have hz := enc_size T
    have bT := enc_ok T
    have p1 := parse_val bT
    have p2 := parse_val (l := enc T ++ [m]) (fun x h => by
      rcases List.mem_append.1 h with h | h
      · exact bT x h
      · rw [List.mem_singleton.1 h]; exact hm)
    have p3 := parse_val (l := (enc T).take ((enc T).length - 1)) (fun x h => bT x (List.mem_of_mem_take h))
    rw [parse_enc fT dT sT] at p1
    rw [parse_more fT dT sT m []] at p2
    have c3 := (parse_cut fT (j := (enc T).length - 1) (by omega)).2.2 ⟨dT, sT⟩
    rw [c3] at p3
    have w1 : wrap64 (((enc T).length : Int) - 1) = ((enc T).length : Int) - 1 := wrap_id (by omega)
    have w2 : (((enc T).length : Int) - 1).toNat = (enc T).length - 1 := by omega
    obtain ⟨r, er, her⟩ := same_ev T (by omega) T
    have r1 : r = true := her.2 rfl
    subst r1
    simp only [if_pos (show n % 4 < ((0 + 1 + 1 + 1 + 1 : Nat) : Int) by omega), e1, p1, Option.bind_some]
    have z1 : ([] : List Int).length + (enc T).length < 140737488355328 := by simp; omega
    have z2 : ([] ++ enc T : List Int).length < 140737488355328 := by simp; omega
    simp only [List.length_nil, Nat.zero_add, List.nil_append, p2, Option.bind_some, w1, w2, p3]
    simp only [if_pos (show (enc T).length < 140737488355328 by omega), if_neg (show ¬ ((enc T).length : Int) = 0 by omega), if_pos (show 0 ≤ ((enc T).length : Int) - 1 by omega), if_pos (show ((enc T).length : Int) - 1 ≤ ((enc T).length : Int) by omega), if_true]
    have er2 : Ev (fun k => thyrsusref4_Same.f k T.f0 T.f1 T.f2 7 N [t]) true := by
      have h7 : T.f0 = 7 ∧ T.f1 = N ∧ T.f2 = [t] := by rw [hT]; exact ⟨rfl, rfl, rfl⟩
      rw [h7.1, h7.2.1, h7.2.2] at er ⊢
      exact er
    refine Ev.bind er2 ?_
    simp only [if_true]
    refine Ev.bind e2 ?_
    simpa using Ev.now true
theorem codeEnds_walk (x : S24) (A : Option Addr) (c : Nat) {w0 : World} (hl : x.f2.length ≤ c) (hC : Kd.C k24 w0 A x.f2.length x.f2) (wf : WF24 x) (n : Int) (h1 : (Lit.int .i64 n).wf = true) (m : Int) (h2 : (Lit.int .u8 m).wf = true) (w : World) (hw : w = w0 := by rfl) :
    Calls Try.prog 8 #[.agg #[.int .i64 x.f0, .int .i64 x.f1, .slice A x.f2.length c], .int .i64 n, .int .u8 m] w fun e w' => e = .returned (.bool true) ∧ Below w.heap.size w w' := by
  subst hw
  obtain ⟨k, hk⟩ := ends_pure wf (i64_of h1) (u8_of h2)
  exact thyrsuslaw1_CodeEnds.calls k _ _ _ _ _ _ _ _ _ hC hl hk
end Go.Proofs.Ytfbjdfgadhlhlaa.P
