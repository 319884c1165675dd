/- CodeUnlike: the plain law over the printed body, and the call's walk. -/
import Derived.Test.YtfbjdfgadhlhlaaPureB
import Derived.Test.YtfbjdfgadhlhlaaUnA
import Derived.Test.YtfbjdfgadhlhlaaUnB
import Derived.Lib.Bytes
namespace Go.Proofs.Ytfbjdfgadhlhlaa.P
open Go.RowKit Go.Proofs.YtfbjdfgadhlhlaaW.PrintWords Go.Proofs.YtfbjdfgadhlhlaaW.PrintLast Go.Proofs.YtfbjdfgadhlhlaaW.PrintMore
set_option linter.unusedVariables false
set_option linter.unusedSimpArgs false

theorem toList_same {x y : S29} (hx : fine x) (hy : fine y) : ((strOfNums (enc x)).toList == (strOfNums (enc y)).toList) = true ↔ x = y := by
  rw [beq_iff_eq]
  constructor
  · intro h
    refine (same_bytes hx hy).1 ?_
    rw [Go.Lib.strOfNums_toList, Go.Lib.strOfNums_toList] at h
    exact congrArg (fun l : List UInt8 => (⟨l.toArray⟩ : ByteArray)) h
  · intro h
    rw [h]
theorem unlike_pure {x y : S24} (hx : WF24 x) (hy : WF24 y) : ∃ k, thyrsuslaw1_CodeUnlike.f k x.f0 x.f1 x.f2 y.f0 y.f1 y.f2 = some true := by
  refine Ev.rounds ?_
  unfold thyrsuslaw1_CodeUnlike.f
  rw [known_ok]
  simp only [Option.bind_some, if_true]
  obtain ⟨b, hb, hf⟩ := few_ev hx
  refine Ev.bind hb ?_
  have now : Ev (fun k => thyrsuslaw1_CodeUnlike.j0 k true x.f0 x.f1 x.f2 y.f0 y.f1 y.f2) true := by
    refine Ev.step (f := fun _ => some true) (fun k => ?_) (Ev.now true)
    simp [thyrsuslaw1_CodeUnlike.j0]
  cases b with
  | false => simpa using now
  | true =>
    simp only [if_true]
    obtain ⟨b2, hb2, hf2⟩ := few_ev hy
    refine Ev.bind hb2 ?_
    cases b2 with
    | false => simpa using now
    | true =>
      have hs := hf rfl
      have hs2 := hf2 rfl
      have hp := plain_size x
      have hp2 := plain_size y
      have e1 : code_Bytes.f (plain x).f0 (plain x).f1 (plain x).f2 = some (enc (plain x)) := bytes_ok (by omega)
      have e2 : code_Bytes.f (plain y).f0 (plain y).f1 (plain y).f2 = some (enc (plain y)) := bytes_ok (by omega)
      obtain ⟨r, er, hr⟩ := same_ev (plain x) (by omega) (plain y)
      refine Ev.step (f := fun k => ((thyrsuslaw1_Plain.f k x.f0 x.f1 x.f2).bind fun t => ((thyrsuslaw1_Plain.f k y.f0 y.f1 y.f2).bind fun u => ((code_Bytes.f t.1 t.2.1 t.2.2).bind fun p => ((code_Bytes.f u.1 u.2.1 u.2.2).bind fun q => ((thyrsusref4_Same.f k t.1 t.2.1 t.2.2 u.1 u.2.1 u.2.2).bind fun s => (some (((strOfNums p).toList == (strOfNums q).toList) == s)))))))) (fun k => by simp [thyrsuslaw1_CodeUnlike.j0]) ?_
      refine Ev.bind (plain_ev hx) ?_
      refine Ev.bind (plain_ev hy) ?_
      simp only [e1, e2, Option.bind_some]
      refine Ev.bind er ?_
      have h := toList_same (plain_fine hx) (plain_fine hy)
      have hv : (((strOfNums (enc (plain x))).toList == (strOfNums (enc (plain y))).toList) == r) = true := by
        rw [beq_iff_eq, Bool.eq_iff_iff, h, hr]
      rw [hv]
      exact Ev.now true
theorem codeUnlike_walk (x : S24) (A : Option Addr) (c : Nat) {w0 w1 : World} (hl : x.f2.length ≤ c) (hC : Kd.C k24 w0 A x.f2.length x.f2) (wf : WF24 x) (y : S24) (A' : Option Addr) (c' : Nat) (hl' : y.f2.length ≤ c') (hC' : Kd.C k24 w1 A' y.f2.length y.f2) (wf' : WF24 y) (w : World) (hw : w = w0 := by rfl) (hw' : w = w1 := by rfl) :
    Calls Try.prog 4 #[.agg #[.int .i64 x.f0, .int .i64 x.f1, .slice A x.f2.length c], .agg #[.int .i64 y.f0, .int .i64 y.f1, .slice A' y.f2.length c']] w fun e w' => e = .returned (.bool true) ∧ Below w.heap.size w w' := by
  subst hw
  subst hw'
  obtain ⟨k, hk⟩ := unlike_pure wf wf'
  exact thyrsuslaw1_CodeUnlike.calls k _ _ _ _ _ _ _ _ _ _ true _ hC hl hC' hl' hk
end Go.Proofs.Ytfbjdfgadhlhlaa.P
