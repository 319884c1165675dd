/- CodeBytes: the plain law over the printed body, and the call's walk. -/
import Derived.Test.YtfbjdfgadhlhlaaPureE
import Derived.Test.YtfbjdfgadhlhlaaPureF
import Derived.Test.YtfbjdfgadhlhlaaBytA
namespace Go.Proofs.Ytfbjdfgadhlhlaa.P
open Go.RowKit Go.Proofs.YtfbjdfgadhlhlaaW.PrintWords Go.Proofs.YtfbjdfgadhlhlaaW.PrintLast Go.Proofs.YtfbjdfgadhlhlaaW.PrintMore
set_option linter.unusedVariables false
set_option linter.unusedSimpArgs false

theorem bytes_round {L : List S29} {i : Nat} (h2 : i < 2) (hi : i < L.length) {u : S29} (hu : L[i] = u) (hf : fine u) (hs : size29 u ≤ 100000)
    (next : Ev (fun k => thyrsuslaw1_CodeBytes.l0 k L ((i + 1 : Nat) : Int)) true) : Ev (fun k => thyrsuslaw1_CodeBytes.l0 k L (i : Int)) true := by
  have e1 : code_Bytes.f u.f0 u.f1 u.f2 = some (enc u) := bytes_ok (by omega)
  obtain ⟨K1, e2⟩ := rbytes_ev u (by omega)
  obtain ⟨K3, e3⟩ := next
  have p1 := parse_val (enc_ok u)
  have p2 : thyrsusref1_Parse.f (enc u) = _ := p1
  have hw : wrap64 ((i : Int) + 1) = ((i + 1 : Nat) : Int) := by rw [wrap_id (by omega)]; omega
  by_cases ho : deep29 u ≤ 120 ∧ size29 u ≤ 3000
  · rw [parse_enc hf ho.1 ho.2] at p1 p2
    obtain ⟨r, ⟨K2, e4⟩, hr⟩ := same_ev u (by omega) u
    have r1 : r = true := hr.2 rfl
    subst r1
    refine ⟨max K1 (max K2 K3) + 1, fun k hk => ?_⟩
    obtain ⟨k, rfl⟩ : ∃ j, k = j + 1 := ⟨k - 1, by omega⟩
    have e2 := e2 k (by omega)
    have e3 := e3 k (by omega)
    have e4 := e4 k (by omega)
    simp only at e2 e3 e4
    simp only [thyrsuslaw1_CodeBytes.l0, if_pos (show (i : Int) < 2 by omega), if_pos (show 0 ≤ (i : Int) by omega), if_pos (show (i : Int) < (L.length : Int) by omega), rd29 hi, hu, e1, e2, e4, p1, p2, Option.bind_some, if_true, hw, e3]
  · rw [parse_over hf ho] at p1 p2
    obtain ⟨r, ⟨K2, e4⟩, hr⟩ := same_ev (⟨0, 0, []⟩ : S29) (by simp [size29, sizes29]) ⟨0, 0, []⟩
    have r1 : r = true := hr.2 rfl
    subst r1
    refine ⟨max K1 (max K2 K3) + 1, fun k hk => ?_⟩
    obtain ⟨k, rfl⟩ : ∃ j, k = j + 1 := ⟨k - 1, by omega⟩
    have e2 := e2 k (by omega)
    have e3 := e3 k (by omega)
    have e4 := e4 k (by omega)
    simp only at e2 e3 e4
    simp only [thyrsuslaw1_CodeBytes.l0, if_pos (show (i : Int) < 2 by omega), if_pos (show 0 ≤ (i : Int) by omega), if_pos (show (i : Int) < (L.length : Int) by omega), rd29 hi, hu, e1, e2, e4, p1, p2, Option.bind_some, if_true, hw, e3, if_neg (show ¬ (5 : Int) = 0 by decide)]
theorem bytes_pure {x : S24} (hx : WF24 x) : ∃ k, thyrsuslaw1_CodeBytes.f k x.f0 x.f1 x.f2 = some true := by
  refine Ev.rounds ?_
  unfold thyrsuslaw1_CodeBytes.f
  rw [known_ok]
  simp only [Option.bind_some, if_true]
  obtain ⟨b, hb, hf⟩ := few_ev hx
  refine Ev.bind hb ?_
  cases b with
  | false => simpa using Ev.now true
  | true =>
    simp only [if_true]
    have hs := hf rfl
    have hp := plain_size x
    obtain ⟨t, hE, hft, hd, hsz⟩ := make_all 6 x hx 6 2 (by omega) (by omega) (by omega) (by omega) (by omega)
    have hs6 : size29 t ≤ 5461 := hsz
    refine Ev.bind (plain_ev hx) ?_
    refine Ev.bind hE ?_
    simp only [S29.eta']
    have e2 : Ev (fun k => thyrsuslaw1_CodeBytes.l0 k [plain x, t] ((2 : Nat) : Int)) true := Ev.step (f := fun _ => some true) (fun k => by simp only [thyrsuslaw1_CodeBytes.l0]; rw [if_neg (by omega)]) (Ev.now true)
    have e1 := bytes_round (L := [plain x, t]) (i := 1) (by omega) (by simp) (u := t) rfl hft (by omega) e2
    exact bytes_round (L := [plain x, t]) (i := 0) (by omega) (by simp) (u := plain x) rfl (plain_fine hx) (by omega) e1
theorem codeBytes_walk (x : S24) (A : Option Addr) (c : Nat) {w0 : World} (hl : x.f2.length ≤ c) (hC : Kd.C k24 w0 A x.f2.length x.f2) (wf : WF24 x) (w : World) (hw : w = w0 := by rfl) :
    Calls Try.prog 5 #[.agg #[.int .i64 x.f0, .int .i64 x.f1, .slice A x.f2.length c]] w fun e w' => e = .returned (.bool true) ∧ Below w.heap.size w w' := by
  subst hw
  obtain ⟨k, hk⟩ := bytes_pure wf
  exact thyrsuslaw1_CodeBytes.calls k _ _ _ _ _ _ _ hC hl hk
end Go.Proofs.Ytfbjdfgadhlhlaa.P
