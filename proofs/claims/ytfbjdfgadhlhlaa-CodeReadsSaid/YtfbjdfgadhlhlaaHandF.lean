/- The contract of package code's Bytes. -/
import Derived.Test.YtfbjdfgadhlhlaaHandE
import Derived.Laws.CopyOwn
namespace Go.Proofs.Ytfbjdfgadhlhlaa.P
open Go.RowKit Go.Proofs.YtfbjdfgadhlhlaaW.PrintWords Go.Proofs.YtfbjdfgadhlhlaaW.PrintLast Go.Proofs.YtfbjdfgadhlhlaaW.PrintMore
set_option linter.unusedVariables false
set_option linter.unusedSimpArgs false

theorem size5 : (Try.prog.info? 5).map (·.size) = some 1 := by kernel_rfl
/-- A row of bytes of the call's own, laid open. -/
theorem own_bytes {w : World} {base : Nat} {ok : Nat → Prop} {v : Value} {xs : List Int} (h : Kd.R (Kd.int .u8) 5 w base ok v xs) (hn : 0 < xs.length) :
    ∃ (g cap : Nat) (cur : List Value), v = .slice (some ⟨g, 0, none⟩) xs.length cap ∧ base ≤ g ∧ w.heap[g]? = some (.cells cur.toArray 5 (0, 0)) ∧ xs.length ≤ cap ∧ cap ≤ maxLen ∧ cur.length = cap ∧ cur.take xs.length = nums .u8 xs := by
  have ho := Kd.own_of_R (enc := Value.int .u8) (h1 := fun _ => rfl) h
  rcases ho.2 with ⟨_, h0⟩ | ⟨g, cap, cur, e, hb, hh, h1, h2, h3, h4⟩
  · omega
  · exact ⟨g, cap, cur.toList, e, hb, by simpa using hh, h1, h2, by simpa using h3, by simpa [nums, Go.Proofs.YtfbjdfgadhlhlaaW.PrintWords.encs] using h4⟩
theorem bytes_own {w : World} {base g cap : Nat} {cur : List Value} {xs : List Int} (hb : base ≤ g) (hh : w.heap[g]? = some (.cells cur.toArray 5 (0, 0))) (h1 : xs.length ≤ cap) (h2 : cap ≤ maxLen) (h3 : cur.length = cap) (h4 : cur.take xs.length = nums .u8 xs) :
    Kd.R (Kd.int .u8) 5 w base (fun _ => True) (.slice (some ⟨g, 0, none⟩) xs.length cap) xs :=
  Kd.R_of_own (enc := Value.int .u8) (h1 := fun _ => rfl) ⟨by simp [Go.Proofs.YtfbjdfgadhlhlaaW.PrintWords.encs], .inr ⟨g, cap, cur.toArray, rfl, hb, hh, h1, h2, by simpa using h3, by simpa [nums, Go.Proofs.YtfbjdfgadhlhlaaW.PrintWords.encs] using h4⟩⟩ (fun _ _ => trivial)

theorem code_Bytes.calls (a0_0 : Int) (a0_1 : Int) (A0_2 : Option Addr) (c0_2 : Nat) (l0_2 : List (S29)) (r : List Int) (w : World) (hr0_2 : Kd.C k29 w A0_2 l0_2.length l0_2) (hc0_2 : l0_2.length ≤ c0_2) (h : code_Bytes.f a0_0 a0_1 l0_2 = some r) :
    Calls Try.prog 12 #[.agg #[.int .i64 a0_0, .int .i64 a0_1, .slice A0_2 l0_2.length c0_2]] w fun e w' => ∃ v0_ : Value, e = .returned (v0_) ∧ Kd.R (Kd.int .u8) 5 w' w.heap.size (fun _ => True) v0_ r ∧ Below w.heap.size w w' := by
  unfold code_Bytes.f at h
  split at h
  · rename_i hlen
    obtain rfl := Option.some.inj h
    clear h
    obtain ⟨y, hy⟩ : ∃ y, y = enc ⟨a0_0, a0_1, l0_2⟩ := ⟨_, rfl⟩
    have hy10 : 10 ≤ y.length := by rw [hy]; exact enc_len _
    rw [← hy] at hlen
    rw [← hy]
    have HY := Aside0.mk hy
    have HL := Aside0.mk hlen
    have HC := Aside0.mk hr0_2
    have HCC := Aside0.mk hc0_2
    clear hlen hr0_2 hc0_2 hy
    have hu29 := Try.underlying29
    go_enter Try.func12, Try.ntmps12
    go_wp2_with (first | ((with_reducible refine gate_dst (N := 1) rfl ?_); refine box_event ?hg (N := 1) ?hd (cs := #[.int .i64 a0_0, .int .i64 a0_1, .slice A0_2 l0_2.length c0_2]) (t := 29) ?hr ?_; (case hd => rfl); (case hg => rfl); (case hr => first | (go_simp; done) | (go_simp; rfl)); intro g1 hg1 w1 hbox hb1; have K1 := Aside0.mk hbox; have B1 := Aside0.mk hb1; have G1 := Aside0.mk hg1; clear hbox hb1 hg1; have kc0 : w1.cell? ⟨g1, 0, none⟩ = some (.int .i64 a0_0) := (blk_cell K1.out 0).trans rfl; have kc1 : w1.cell? ⟨g1, 1, none⟩ = some (.int .i64 a0_1) := (blk_cell K1.out 1).trans rfl; have kc2 : w1.cell? ⟨g1, 2, none⟩ = some (.slice A0_2 l0_2.length c0_2) := (blk_cell K1.out 2).trans rfl) | fail)
    refine (lay_any (tr_all ⟨a0_0, a0_1, l0_2⟩) (W := w) (base := w.heap.size) (v := .slice none 0 0) (xs := []) HC.out HCC.out B1.out (Nat.le_refl _) B1.out.size (Kd.R_nil _ _ _ _ _) (by rw [← HY.out]; simpa using HL.out)).mono ?_
    rintro e w2 ⟨v2, rfl, h1, h2⟩
    rw [← HY.out] at h1
    have O2 := Aside0.mk (show Kd.R (Kd.int .u8) 5 w2 w.heap.size (fun _ => True) v2 y from h1)
    have B2 := Aside0.mk (h2.old B1.out (fun k hk => by simp [Value.ownBlock] at hk))
    clear h1 h2 K1 kc0 kc1 kc2
    obtain ⟨Ay, cy, ey⟩ := Kd.R_slice O2.out
    subst ey
    have t1 : decide ((0 : Int) ≤ (y.length : Int)) = true := decide_eq_true (by omega)
    go_wp2_with (first | ((with_reducible refine gate_dst (N := 9) rfl ?_); refine Kd.R_make (Kd.int .u8) (w0 := w) w.heap.size 5 rfl (N := 9) rfl 31 _ _ rfl (y.length : Int) rfl rfl Try.underlying31 (.int .u8 0) 1 info5 rfl (by decide) (by omega) 0 (ok := fun _ => True) (okp := fun _ => True) rfl (fun _ hk => hk) trivial (by omega) (by have := HL.out; simp; omega) B2.out B2.out.size ?_; intro v3 w3 ho hb hg hat; have hl3 : (List.replicate (y.length : Int).toNat (0 : Int)).length = y.length := (by simp); obtain ⟨g3, cap3, cur3, e3, hb3, hh3, hc3, hm3, hs3, ht3⟩ := own_bytes ho (by omega); subst e3; rw [hl3] at hc3; have E3 := Aside0.mk hl3; have H3 := Aside0.mk hh3; have C3 := Aside0.mk hc3; have M3 := Aside0.mk hm3; have S3 := Aside0.mk hs3; have W3 := Aside0.mk hb3; have B3 := Aside0.mk hb; have N3 := Aside0.mk (Kd.R_grown O2.out hg (fun k _ => by simp)); clear ho hb hg hat hl3 hb3 hh3 hc3 hm3 hs3 ht3) | ((with_reducible refine gate_builtin (b := .copy) (xs := #[.tmp 10, .tmp 11]) rfl ?_); obtain ⟨gy, capy, cury, ey, hby, hhy, hcy, hmy, hsy, hty⟩ := own_bytes N3.out (by omega); injection ey with ey1 ey2 ey3; subst ey1; have TY := Aside0.mk hty; have HHY := Aside0.mk hhy; clear ey2 ey3 hby hcy hmy hsy hty hhy; refine wpList_copy_splice rfl (.tmp 10) (.tmp 11) 31 31 rfl 5 Try.underlying31 size5 _ _ _ _ _ _ rfl rfl g3 0 cur3 5 H3.out (nums .u8 y) ?q1 ?q2 ?q3 ?q4 w.heap.size w B3.out W3.out ?_; (case q1 => simp [nums]); (case q2 => intro _; refine ⟨rfl, _, rfl, fun j v hj => ?_⟩; rw [add_plain]; have hj2 : cury[j]? = some v := (by rw [← TY.out] at hj; rw [List.getElem?_take] at hj; split at hj; exact hj; cases hj); exact (blk_cell HHY.out j).trans (by simpa using hj2)); (case q3 => have := S3.out; have := C3.out; simp [nums]; omega); (case q4 => intro v hv; simp [nums] at hv; obtain ⟨x, _, rfl⟩ := hv; rfl); intro w4 hh4 hb4; have H4 := Aside0.mk hh4.out; have B4 := Aside0.mk hb4; clear hh4 hb4) | fail)
    go_ret
    refine ⟨_, rfl, ?_, B4.out⟩
    have h4 := H4.out
    refine bytes_own (g := g3) (cap := cap3) W3.out h4 C3.out M3.out ?_ ?_
    · have := S3.out
      have := C3.out
      simp [splice, nums]
      omega
    · simp [splice, nums]
  · simp at h
end Go.Proofs.Ytfbjdfgadhlhlaa.P
