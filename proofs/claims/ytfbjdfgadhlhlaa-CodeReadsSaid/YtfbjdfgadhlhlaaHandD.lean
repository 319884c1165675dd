/- The contract of package code's Parse. -/
import Derived.Test.YtfbjdfgadhlhlaaHandC
import Derived.Test.YtfbjdfgadhlhlaaPx1 -- code_own
namespace Go.Proofs.Ytfbjdfgadhlhlaa.P
open Go.RowKit Go.Proofs.YtfbjdfgadhlhlaaW.PrintWords Go.Proofs.YtfbjdfgadhlhlaaW.PrintLast Go.Proofs.YtfbjdfgadhlhlaaW.PrintMore
set_option linter.unusedVariables false
set_option linter.unusedSimpArgs false

theorem term_any : ∀ (f : Nat) {W w : World} {g : Nat} {l : List Int} {n d : Int}, RD W w g l n 0 → Below W.heap.size W w → W.heap.size ≤ g → (∀ x ∈ l, 0 ≤ x ∧ x ≤ 255) → d + f = 121 → 0 ≤ d → 0 ≤ n → n ≤ 3000 →
      Calls Try.prog 25 #[.pointer (some ⟨g, 0, none⟩), .int .i64 d] w fun en w' => ∃ v, en = .returned (.agg #[.int .i64 (rdTerm f l n).1.f0, .int .i64 (rdTerm f l n).1.f1, v]) ∧ Kd.R k29 29 w' w.heap.size (fun _ => True) v (rdTerm f l n).1.f2 ∧ RD W w' g (rdTerm f l n).2.1 (rdTerm f l n).2.2.1 (rdTerm f l n).2.2.2 ∧ KeepBut w w' g none ∧ Below W.heap.size W w'
  | 0, W, w, g, l, n, d, h, hB, hg, hx, hd, hd0, hn0, hn => by
    refine (term_err 0 h hB hg hn0 hn hd0 (by omega) (.inl (by omega))).mono fun en w' hh => ?_
    exact ⟨_, hh.1, Kd.R_nil _ _ _ _ _, hh.2⟩
  | f + 1, W, w, g, l, n, d, h, hB, hg, hx, hd, hd0, hn0, hn => by
    by_cases h3 : 3000 ≤ n
    · refine (term_err 0 h hB hg hn0 hn hd0 (by omega) (.inr ⟨by omega, h3⟩)).mono fun en w' hh => ?_
      have e : rdTerm (f + 1) l n = (⟨0, 0, []⟩, l, n + 1, 5) := by
        unfold rdTerm
        rw [if_pos (by omega)]
      rw [e]
      exact ⟨_, hh.1, Kd.R_nil _ _ _ _ _, hh.2⟩
    · exact term_some f (fun {W w g l n d} a b c x y z u v => term_any f a b c x y z u v) h hB hg hx (by omega) hd0 hn0 (by omega)

theorem S29.eta_ (x : S29) : (⟨x.f0, x.f1, x.f2⟩ : S29) = x := by cases x; rfl

/-- Lists of kids that are not too long. -/
inductive Sm : S29 → Prop
  | mk (a b : Int) (l : List S29) (h : l.length ≤ 7036874417766) (hl : ∀ x ∈ l, Sm x) : Sm ⟨a, b, l⟩

theorem own_loop (a b : Int) (l : List S29) (h : l.length ≤ 7036874417766) (K : Nat) (hK : ∀ x ∈ l, ∀ k, K ≤ k → code_own.f k x.f0 x.f1 x.f2 = some (x.f0, x.f1, x.f2)) :
    ∀ (d i k : Nat) (xs : List S29), i + d = l.length → K + d < k → xs.length = l.length → xs.take i = l.take i → code_own.l0 k xs l (l.length : Int) (i : Int) a b l = some (a, b, l)
  | 0, i, k, xs, hi, hk, hx, ht => by
    obtain ⟨k, rfl⟩ : ∃ m, k = m + 1 := ⟨k - 1, by omega⟩
    simp only [code_own.l0]
    rw [if_neg (by omega)]
    rw [List.take_of_length_le (by omega), List.take_of_length_le (by omega)] at ht
    rw [ht]
  | d + 1, i, k, xs, hi, hk, hx, ht => by
    obtain ⟨k, rfl⟩ : ∃ m, k = m + 1 := ⟨k - 1, by omega⟩
    simp only [code_own.l0]
    have hil : i < l.length := by omega
    rw [if_pos (by omega), if_pos (by omega), if_pos (by omega)]
    have hg : rd_T29 l (i : Int) = l[i] := by simp [rd_T29, hil]
    rw [hg, hK l[i] (List.getElem_mem hil) k (by omega)]
    simp only [Option.bind_some]
    rw [if_pos (by omega), show wrap64 ((i : Int) + 1) = ((i + 1 : Nat) : Int) from by unfold wrap64; omega]
    refine own_loop a b l h K hK d (i + 1) k _ (by omega) (by omega) (by simp [hx]) ?_
    rw [List.take_succ_eq_append_getElem hil, ← ht, List.take_succ_eq_append_getElem (by simpa [hx] using hil)]
    simp only [Int.toNat_natCast, List.getElem_set_self]
    rw [List.take_set, List.set_eq_of_length_le (by simp; omega)]
    rw [S29.eta_]

theorem own_total {t : S29} (h : Sm t) : ∃ K, ∀ k, K ≤ k → code_own.f k t.f0 t.f1 t.f2 = some (t.f0, t.f1, t.f2) := by
  induction h with
  | mk a b l h hl ih =>
    have hK : ∃ K, ∀ x ∈ l, ∀ k, K ≤ k → code_own.f k x.f0 x.f1 x.f2 = some (x.f0, x.f1, x.f2) := by
      clear h hl
      induction l with
      | nil => exact ⟨0, fun x hx => by simp at hx⟩
      | cons y l ihl =>
        obtain ⟨K1, h1⟩ := ih y (by simp)
        obtain ⟨K2, h2⟩ := ihl (fun x hx => ih x (List.mem_cons_of_mem _ hx))
        refine ⟨max K1 K2, fun x hx k hk => ?_⟩
        rcases List.mem_cons.1 hx with rfl | hx
        · exact h1 k (by omega)
        · exact h2 x hx k (by omega)
    obtain ⟨K, hK⟩ := hK
    refine ⟨K + l.length + 2, fun k hk => ?_⟩
    obtain ⟨k, rfl⟩ : ∃ m, k = m + 1 := ⟨k - 1, by omega⟩
    simp only [code_own.f]
    rw [if_pos (by omega), if_pos (by simpa using h)]
    exact own_loop a b l h K hK l.length 0 k _ (by omega) (by omega) (by simp) (by simp)

theorem rdKids_sub (rec : List Int → Int → S29 × List Int × Int × Int) (hrec : ∀ l n x, x ∈ (rec l n).2.1 → x ∈ l) :
    ∀ (m : Nat) (ks : List S29) (l : List Int) (n e x : Int), x ∈ (rdKids rec m ks l n e).2.1 → x ∈ l
  | 0, ks, l, n, e, x, h => h
  | m + 1, ks, l, n, e, x, h => by
    unfold rdKids at h
    by_cases he : e = 0
    · rw [if_pos he] at h
      exact hrec l n x (rdKids_sub rec hrec m _ _ _ _ x h)
    · rw [if_neg he] at h
      exact h
theorem rdTerm_sub : ∀ (f : Nat) (l : List Int) (n x : Int), x ∈ (rdTerm f l n).2.1 → x ∈ l
  | 0, l, n, x, h => h
  | f + 1, l, n, x, h => by
    unfold rdTerm at h
    split at h
    · exact h
    · exact rdByte_sub (rdNum_sub (rdByte_sub (rdKids_sub (rdTerm f) (rdTerm_sub f) _ _ _ _ _ x h)))

theorem rdKids_sm (rec : List Int → Int → S29 × List Int × Int × Int) (hrec : ∀ l n, (∀ x ∈ l, 0 ≤ x ∧ x ≤ 255) → Sm (rec l n).1) (hsub : ∀ l n x, x ∈ (rec l n).2.1 → x ∈ l) :
    ∀ (m : Nat) (ks : List S29) (l : List Int) (n e : Int), (∀ x ∈ l, 0 ≤ x ∧ x ≤ 255) → (∀ x ∈ ks, Sm x) → (∀ x ∈ (rdKids rec m ks l n e).1, Sm x) ∧ (rdKids rec m ks l n e).1.length ≤ ks.length + m
  | 0, ks, l, n, e, hx, h => ⟨h, by simp [rdKids]⟩
  | m + 1, ks, l, n, e, hx, h => by
    unfold rdKids
    by_cases he : e = 0
    · rw [if_pos he]
      have hr := rdKids_sm rec hrec hsub m (ks ++ [(rec l n).1]) (rec l n).2.1 (rec l n).2.2.1 (rec l n).2.2.2 (fun x h => hx x (hsub _ _ _ h)) (fun x hx2 => by
        rcases List.mem_append.1 hx2 with hx2 | hx2
        · exact h x hx2
        · rw [List.mem_singleton.1 hx2]
          exact hrec l n hx)
      exact ⟨hr.1, by have := hr.2; simp at this ⊢; omega⟩
    · rw [if_neg he]
      exact ⟨h, by simp⟩

theorem rdTerm_sm : ∀ (f : Nat) (l : List Int) (n : Int), (∀ x ∈ l, 0 ≤ x ∧ x ≤ 255) → Sm (rdTerm f l n).1
  | 0, l, n, hx => Sm.mk _ _ _ (by simp) (by simp)
  | f + 1, l, n, hx => by
    unfold rdTerm
    split
    · exact Sm.mk _ _ _ (by simp) (by simp)
    · have h3 : ∀ x ∈ (rdNum (rdByte l 0).2.1 (rdByte l 0).2.2 8).2.1, 0 ≤ x ∧ x ≤ 255 := fun x h => hx x (rdByte_sub (rdNum_sub h))
      have hr := rdKids_sm (rdTerm f) (fun l n h => rdTerm_sm f l n h) (rdTerm_sub f) (rdByte (rdNum (rdByte l 0).2.1 (rdByte l 0).2.2 8).2.1 (rdNum (rdByte l 0).2.1 (rdByte l 0).2.2 8).2.2).1.toNat []
          (rdByte (rdNum (rdByte l 0).2.1 (rdByte l 0).2.2 8).2.1 (rdNum (rdByte l 0).2.1 (rdByte l 0).2.2 8).2.2).2.1 (n + 1)
          (rdByte (rdNum (rdByte l 0).2.1 (rdByte l 0).2.2 8).2.1 (rdNum (rdByte l 0).2.1 (rdByte l 0).2.2 8).2.2).2.2 (fun x h => h3 x (rdByte_sub h)) (by simp)
      have hm := rdByte_range (e := (rdNum (rdByte l 0).2.1 (rdByte l 0).2.2 8).2.2) h3
      exact Sm.mk _ _ _ (by have := hr.2; simp at this; omega) hr.1

/-- What Parse answers. -/
def rdParse (l : List Int) : S29 × Int :=
  if (rdTerm 120 l 0).2.2.2 = 0 then (if 0 < (rdTerm 120 l 0).2.1.length then (⟨0, 0, []⟩, 3) else ((rdTerm 120 l 0).1, 0)) else (⟨0, 0, []⟩, (rdTerm 120 l 0).2.2.2)

def code_Parse.f (l : List Int) : Option (Int × Int × List S29 × Int) :=
  if ∀ x ∈ l, 0 ≤ x ∧ x ≤ 255 then some ((rdParse l).1.f0, (rdParse l).1.f1, (rdParse l).1.f2, (rdParse l).2) else none

theorem parse_bad {f : Nat} (hf : f = 120) {w : World} {A : Option Addr} {c : Nat} {l : List Int} (hr : Kd.C (Kd.int .u8) w A l.length l) (hc : l.length ≤ c) (hx : ∀ x ∈ l, 0 ≤ x ∧ x ≤ 255)
    {l' : List Int} {e' : Int} (hl : (rdTerm f l 0).2.1 = l') (he : (rdTerm f l 0).2.2.2 = e') (hcase : e' ≠ 0 ∨ (e' = 0 ∧ 0 < l'.length)) :
    Calls Try.prog 16 #[.slice A l.length c] w fun e w' => e = .returned (.tuple #[.agg #[.int .i64 0, .int .i64 0, .slice none 0 0], .int .i64 (if e' = 0 then 3 else e')]) ∧ Below w.heap.size w w' := by
  have HF := Aside0.mk hf
  clear hf
  have HC := Aside0.mk hc
  have HR := Aside0.mk hr
  have HX := Aside0.mk hx
  have HL := Aside0.mk hl
  have HE := Aside0.mk he
  clear hc hr hx hl he
  have hu56 := Try.underlying56
  have hu29 := Try.underlying29
  rcases hcase with h | ⟨h, hp⟩
  · have h1 : (e' == 0) = false := by simpa using h
    have h2 : (e' != 0) = true := by simpa using h
    have HH : Aside0 ((if e' = 0 then 3 else e') = e') := ⟨if_neg h⟩
    rw [HH.out]
    clear h HH
    go_enter Try.func16, Try.ntmps16
    go_wp2_with (first | ((with_reducible refine gate_dst (N := 2) rfl ?_); refine box_event ?hg (N := 2) ?hd (cs := #[.int .i64 0, .int .i64 0, .slice none 0 0]) (t := 29) ?hr ?_; (case hd => rfl); (case hg => rfl); (case hr => first | (go_simp; done) | (go_simp; rfl)); intro g2 hg2 w2 hbox hb2; have K2 := Aside0.mk hbox; have B2 := Aside0.mk hb2; have G2 := Aside0.mk hg2; clear hbox hb2 hg2) | ((with_reducible refine gate_dst (N := 8) rfl ?_); refine box_event ?hg (N := 8) ?hd (cs := #[.slice A l.length c, .int .i64 0, .int .i64 0]) (t := 56) ?hr ?_; (case hd => rfl); (case hg => rfl); (case hr => first | (go_simp; done) | (go_simp; rfl)); intro g hg w3 hbox hb3; have R3 : Aside0 (RD w w3 g l 0 0) := ⟨⟨A, c, hbox, HC.out, HR.out⟩⟩; have K3 := Aside0.mk (blk_below K2.out hb3); have B3 := Aside0.mk (B2.out.trans (hb3.mono B2.out.size)); have G3 := Aside0.mk hg; have N3 : Aside0 (g2 ≠ g) := ⟨by have := blk_lt K2.out; omega⟩; have S2 := Aside0.mk B2.out.size; clear hbox hb3 hg K2 B2) | (go_at_call 25; refine (term_any f R3.out B3.out (by rw [G3.out]; exact S2.out) HX.out (by have := HF.out; omega) (by omega) (by omega) (by omega)).mono ?_; rintro en w4 ⟨v4, rfl, hR, hRD, hK, hB⟩; obtain ⟨Ac, cc, ec⟩ := Kd.R_slice hR; subst ec; have O4 := Aside0.mk hR; rw [HL.out, HE.out] at hRD; obtain ⟨A5, c5, r1, r2, r3⟩ := hRD; have K4 := Aside0.mk (keep_blk hK K3.out N3.out); have B4 := Aside0.mk hB; have Z4 := Aside0.mk hK.1; have U3 := Aside0.mk (RD.lt R3.out); have R1 := Aside0.mk r1; clear hR r1 r2 r3 hK hB R3 K3) | ((with_reducible refine gate_dst (N := 5) rfl ?_); refine box_event ?hg (N := 5) ?hd (cs := #[.int .i64 0, .int .i64 0, .slice none 0 0]) (t := 29) ?hr ?_; (case hd => rfl); (case hg => rfl); (case hr => first | (go_simp; done) | (go_simp; rfl)); intro g5 hg5 w5 hbox hb5; have R5 := Aside0.mk (blk_below R1.out hb5); have L5 := Aside0.mk hbox; have K5 := Aside0.mk (blk_below K4.out hb5); have G5 := Aside0.mk hg5; have ne1 : g ≠ g5 := (by have := blk_lt R1.out; omega); have ne2 : g5 ≠ g := Ne.symm ne1; have ne3 : g2 ≠ g5 := (by have := blk_lt K4.out; omega); have ne4 : g5 ≠ g2 := Ne.symm ne3; have ne5 := N3.out; have ne6 := Ne.symm N3.out; have O5 := Aside0.mk (Kd.R_below O4.out hb5); have B5 := Aside0.mk (B4.out.trans (hb5.mono B4.out.size)); have e0 : w5.cell? ⟨g, 0, none⟩ = some (.slice A5 l'.length c5) := (blk_cell R5.out 0).trans rfl; have e2 : w5.cell? ⟨g, 2, none⟩ = some (.int .i64 e') := (blk_cell R5.out 2).trans rfl; have f2 := blk_frozen R5.out 2; have d0 : w5.cell? ⟨g5, 0, none⟩ = some (.int .i64 0) := (blk_cell L5.out 0).trans rfl; have d1 : w5.cell? ⟨g5, 1, none⟩ = some (.int .i64 0) := (blk_cell L5.out 1).trans rfl; have d2 : w5.cell? ⟨g5, 2, none⟩ = some (.slice none 0 0) := (blk_cell L5.out 2).trans rfl; have fd0 := blk_frozen L5.out 0; have fd1 := blk_frozen L5.out 1; have fd2 := blk_frozen L5.out 2; have k0 : w5.cell? ⟨g2, 0, none⟩ = some (.int .i64 0) := (blk_cell K5.out 0).trans rfl; have k1 : w5.cell? ⟨g2, 1, none⟩ = some (.int .i64 0) := (blk_cell K5.out 1).trans rfl; have k2 : w5.cell? ⟨g2, 2, none⟩ = some (.slice none 0 0) := (blk_cell K5.out 2).trans rfl; have kf0 := blk_frozen K5.out 0; have kf1 := blk_frozen K5.out 1; have kf2 := blk_frozen K5.out 2; clear hbox hb5 hg5) | fail)
    generalize hw6 : World.setCell (World.setCell (World.setCell w5 ⟨g5, 0, none⟩ _) ⟨g5, 1, none⟩ _) ⟨g5, 2, none⟩ _ = w6
    have W2 : w.heap.size ≤ g2 := by rw [G2.out]; exact Nat.le_refl _
    have WW5 : w.heap.size ≤ g5 := by rw [G5.out]; exact B4.out.size
    have WG : w.heap.size ≤ g := by rw [G3.out]; exact S2.out
    have B6 := Aside0.mk (show Below w.heap.size w w6 by rw [← hw6]; exact below_set (below_set (below_set B5.out WW5) WW5) WW5)
    have K6 := Aside0.mk (show w6.heap[g2]? = some (.cells #[.int .i64 0, .int .i64 0, .slice none 0 0] 29 (0, 0)) by rw [← hw6]; exact blk_far (blk_far (blk_far K5.out ne3 _) ne3 _) ne3 _)
    have R6 := Aside0.mk (show w6.heap[g]? = some (.cells #[.slice A5 l'.length c5, .int .i64 _, .int .i64 e'] 56 (0, 0)) by rw [← hw6]; exact blk_far (blk_far (blk_far R5.out ne1 _) ne1 _) ne1 _)
    clear hw6 e0 e2 f2 d0 d1 d2 fd0 fd1 fd2 k0 k1 k2 kf0 kf1 kf2
    have e2 : w6.cell? ⟨g, 2, none⟩ = some (.int .i64 e') := (blk_cell R6.out 2).trans rfl
    have k0 : w6.cell? ⟨g2, 0, none⟩ = some (.int .i64 0) := (blk_cell K6.out 0).trans rfl
    have k1 : w6.cell? ⟨g2, 1, none⟩ = some (.int .i64 0) := (blk_cell K6.out 1).trans rfl
    have k2 : w6.cell? ⟨g2, 2, none⟩ = some (.slice none 0 0) := (blk_cell K6.out 2).trans rfl
    have kf0 := blk_frozen K6.out 0
    have kf1 := blk_frozen K6.out 1
    have kf2 := blk_frozen K6.out 2
    have e2d : w6.drew.cell? ⟨g, 2, none⟩ = some (.int .i64 e') := e2
    have K7 := Aside0.mk (blk_drew K6.out)
    have B7 := Aside0.mk (below_drew1 B6.out)
    clear k0 k1 k2 kf0 kf1 kf2 e2 K6 B6
    refine start_ (n := 7) (S := fun w' => w'.cell? ⟨g, 2, none⟩ = some (.int .i64 e')) (ds := []) #[false, false, false, false, false, false, false] (by kernel_rfl) rfl rfl e2d (fun hHeld => ?_)
    generalize w6.drew = w7 at K7 B7 e2d hHeld ⊢
    refine pure_ (i := 0) (N := some 32) (v := ?_) (a' := ?_) #[true, false, false, false, false, false, false] rfl rfl (by kernel_rfl) (fun _ _ _ h => h) (Or.inl ⟨by rfl, ?_⟩) ?_ ?_
    rotate_left
    · intro w'
      go_simp
      with_reducible rfl
    rotate_left
    · simp only [Act.put, List.setIfInBounds_toArray, List.set_cons_zero, List.set_cons_succ, i64_w, i32_w]
      rfl
    refine pure_ (i := 1) (N := some 33) (v := ?_) (a' := ?_) #[true, true, false, false, false, false, false] rfl rfl (by kernel_rfl) (fun _ _ _ h => h) (Or.inl ⟨by rfl, ?_⟩) ?_ ?_
    rotate_left
    · intro w'
      go_simp
      with_reducible rfl
    rotate_left
    · simp only [Act.put, List.setIfInBounds_toArray, List.set_cons_zero, List.set_cons_succ, i64_w, i32_w]
      rfl
    refine pure_ (i := 2) (N := some 34) (v := ?_) (a' := ?_) #[true, true, true, false, false, false, false] rfl rfl (by kernel_rfl) (fun _ _ _ h => h) (Or.inl ⟨by rfl, ?_⟩) ?_ ?_
    rotate_left
    · intro w'
      go_simp
      with_reducible rfl
    rotate_left
    · simp only [Act.put, List.setIfInBounds_toArray, List.set_cons_zero, List.set_cons_succ, i64_w, i32_w]
      rfl
    refine pure_ (i := 3) (N := some 35) (v := ?_) (a' := ?_) #[true, true, true, true, false, false, false] rfl rfl (by kernel_rfl) (fun _ _ _ h => h) (Or.inl ⟨by rfl, ?_⟩) ?_ ?_
    rotate_left
    · intro w'
      go_simp
      with_reducible rfl
    rotate_left
    · simp only [Act.put, List.setIfInBounds_toArray, List.set_cons_zero, List.set_cons_succ, i64_w, i32_w]
      rfl
    refine take_ (i := 4) (N := some 36) (v := ?_) (a' := ?_) #[true, true, true, true, true, false, false] rfl rfl (by kernel_rfl) (fun _ _ _ h => h) (Or.inl ⟨by rfl, ?_⟩) hHeld ?_ ?_
    rotate_left
    · intro w' s0
      go_simp
      with_reducible rfl
    rotate_left
    · simp only [Act.put, List.setIfInBounds_toArray, List.set_cons_zero, List.set_cons_succ, i64_w, i32_w]
      rfl
    refine one_ (i := 5) (N := none) #[true, true, true, true, true, true, false] rfl rfl (by kernel_rfl) (by decide) (fun K hK => ?_)
    have k0 : w7.cell? ⟨g2, 0, none⟩ = some (.int .i64 0) := (blk_cell K7.out 0).trans rfl
    have k1 : w7.cell? ⟨g2, 1, none⟩ = some (.int .i64 0) := (blk_cell K7.out 1).trans rfl
    have k2 : w7.cell? ⟨g2, 2, none⟩ = some (.slice none 0 0) := (blk_cell K7.out 2).trans rfl
    have kf0 := blk_frozen K7.out 0
    have kf1 := blk_frozen K7.out 1
    have kf2 := blk_frozen K7.out 2
    refine skip_ (w1 := ?_) (by rfl) rfl ?_ ?_
    rotate_left
    · go_simp
      rfl
    refine hK.out _ _ ((cell_far (p := ⟨g2, _, none⟩) (Ne.symm N3.out) _).trans ((cell_far (p := ⟨g2, _, none⟩) (Ne.symm N3.out) _).trans ((cell_far (p := ⟨g2, _, none⟩) (Ne.symm N3.out) _).trans hHeld))) (fun hHeld => ?_)
    clear hK K
    refine pure_ (i := 6) (N := some 3) (v := ?_) (a' := ?_) #[true, true, true, true, true, true, true] rfl rfl (by kernel_rfl) (fun _ _ _ h => h) (Or.inl ⟨by rfl, ?_⟩) ?_ ?_
    rotate_left
    · intro w'
      go_simp
      with_reducible rfl
    rotate_left
    · simp only [Act.put, List.setIfInBounds_toArray, List.set_cons_zero, List.set_cons_succ, i64_w, i32_w]
      rfl
    refine done_ (by kernel_rfl) ?_
    clear k0 k1 k2 kf0 kf1 kf2 e2d hHeld
    go_wp2
    have K8 := Aside0.mk (blk_put (blk_put (blk_put K7.out 0 (.int .i64 0) rfl) 1 (.int .i64 0) rfl) 2 (.slice none 0 0) rfl)
    have m0 := (blk_cell K8.out 0).trans rfl
    have m1 := (blk_cell K8.out 1).trans rfl
    have m2 := (blk_cell K8.out 2).trans rfl
    have hu29b := Try.underlying29
    refine bodyPost_ret (v := .tuple #[.agg #[.int .i64 0, .int .i64 0, .slice none 0 0], .int .i64 e']) (by simp [results, Try.results16, go_sem, hu29b, m0, m1, m2]) rfl ⟨rfl, ?_⟩
    exact below_set (below_set (below_set B7.out W2) W2) W2
  · have HH : Aside0 ((if e' = 0 then 3 else e') = 3) := ⟨if_pos h⟩
    rw [HH.out]
    subst h
    clear HH
    have hp1 : decide (0 < l'.length) = true := decide_eq_true hp
    have hp2 : decide ((0 : Int) < (l'.length : Int)) = true := decide_eq_true (by omega)
    go_enter Try.func16, Try.ntmps16
    go_wp2_with (first | ((with_reducible refine gate_dst (N := 2) rfl ?_); refine box_event ?hg (N := 2) ?hd (cs := #[.int .i64 0, .int .i64 0, .slice none 0 0]) (t := 29) ?hr ?_; (case hd => rfl); (case hg => rfl); (case hr => first | (go_simp; done) | (go_simp; rfl)); intro g2 hg2 w2 hbox hb2; have K2 := Aside0.mk hbox; have B2 := Aside0.mk hb2; have G2 := Aside0.mk hg2; clear hbox hb2 hg2) | ((with_reducible refine gate_dst (N := 8) rfl ?_); refine box_event ?hg (N := 8) ?hd (cs := #[.slice A l.length c, .int .i64 0, .int .i64 0]) (t := 56) ?hr ?_; (case hd => rfl); (case hg => rfl); (case hr => first | (go_simp; done) | (go_simp; rfl)); intro g hg w3 hbox hb3; have R3 : Aside0 (RD w w3 g l 0 0) := ⟨⟨A, c, hbox, HC.out, HR.out⟩⟩; have K3 := Aside0.mk (blk_below K2.out hb3); have B3 := Aside0.mk (B2.out.trans (hb3.mono B2.out.size)); have G3 := Aside0.mk hg; have N3 : Aside0 (g2 ≠ g) := ⟨by have := blk_lt K2.out; omega⟩; have S2 := Aside0.mk B2.out.size; clear hbox hb3 hg K2 B2) | (go_at_call 25; refine (term_any f R3.out B3.out (by rw [G3.out]; exact S2.out) HX.out (by have := HF.out; omega) (by omega) (by omega) (by omega)).mono ?_; rintro en w4 ⟨v4, rfl, hR, hRD, hK, hB⟩; obtain ⟨Ac, cc, ec⟩ := Kd.R_slice hR; subst ec; have O4 := Aside0.mk hR; rw [HL.out, HE.out] at hRD; obtain ⟨A5, c5, r1, r2, r3⟩ := hRD; have K4 := Aside0.mk (keep_blk hK K3.out N3.out); have B4 := Aside0.mk hB; have Z4 := Aside0.mk hK.1; have U3 := Aside0.mk (RD.lt R3.out); have R1 := Aside0.mk r1; clear hR r1 r2 r3 hK hB R3 K3) | ((with_reducible refine gate_dst (N := 5) rfl ?_); refine box_event ?hg (N := 5) ?hd (cs := #[.int .i64 0, .int .i64 0, .slice none 0 0]) (t := 29) ?hr ?_; (case hd => rfl); (case hg => rfl); (case hr => first | (go_simp; done) | (go_simp; rfl)); intro g5 hg5 w5 hbox hb5; have R5 := Aside0.mk (blk_below R1.out hb5); have L5 := Aside0.mk hbox; have K5 := Aside0.mk (blk_below K4.out hb5); have G5 := Aside0.mk hg5; have ne1 : g ≠ g5 := (by have := blk_lt R1.out; omega); have ne2 : g5 ≠ g := Ne.symm ne1; have ne3 : g2 ≠ g5 := (by have := blk_lt K4.out; omega); have ne4 : g5 ≠ g2 := Ne.symm ne3; have ne5 := N3.out; have ne6 := Ne.symm N3.out; have O5 := Aside0.mk (Kd.R_below O4.out hb5); have B5 := Aside0.mk (B4.out.trans (hb5.mono B4.out.size)); have e0 : w5.cell? ⟨g, 0, none⟩ = some (.slice A5 l'.length c5) := (blk_cell R5.out 0).trans rfl; have e2 : w5.cell? ⟨g, 2, none⟩ = some (.int .i64 0) := (blk_cell R5.out 2).trans rfl; have f2 := blk_frozen R5.out 2; have d0 : w5.cell? ⟨g5, 0, none⟩ = some (.int .i64 0) := (blk_cell L5.out 0).trans rfl; have d1 : w5.cell? ⟨g5, 1, none⟩ = some (.int .i64 0) := (blk_cell L5.out 1).trans rfl; have d2 : w5.cell? ⟨g5, 2, none⟩ = some (.slice none 0 0) := (blk_cell L5.out 2).trans rfl; have fd0 := blk_frozen L5.out 0; have fd1 := blk_frozen L5.out 1; have fd2 := blk_frozen L5.out 2; have k0 : w5.cell? ⟨g2, 0, none⟩ = some (.int .i64 0) := (blk_cell K5.out 0).trans rfl; have k1 : w5.cell? ⟨g2, 1, none⟩ = some (.int .i64 0) := (blk_cell K5.out 1).trans rfl; have k2 : w5.cell? ⟨g2, 2, none⟩ = some (.slice none 0 0) := (blk_cell K5.out 2).trans rfl; have kf0 := blk_frozen K5.out 0; have kf1 := blk_frozen K5.out 1; have kf2 := blk_frozen K5.out 2; clear hbox hb5 hg5) | fail)
    generalize hw6 : World.setCell (World.setCell (World.setCell (World.setCell w5 ⟨g5, 0, none⟩ _) ⟨g5, 1, none⟩ _) ⟨g5, 2, none⟩ _) ⟨g, 2, none⟩ _ = w6
    have W2 : w.heap.size ≤ g2 := by rw [G2.out]; exact Nat.le_refl _
    have WW5 : w.heap.size ≤ g5 := by rw [G5.out]; exact B4.out.size
    have WG : w.heap.size ≤ g := by rw [G3.out]; exact S2.out
    have B6 := Aside0.mk (show Below w.heap.size w w6 by rw [← hw6]; exact below_set (below_set (below_set (below_set B5.out WW5) WW5) WW5) WG)
    have K6 := Aside0.mk (show w6.heap[g2]? = some (.cells #[.int .i64 0, .int .i64 0, .slice none 0 0] 29 (0, 0)) by rw [← hw6]; exact blk_far (blk_far (blk_far (blk_far K5.out ne3 _) ne3 _) ne3 _) ne5 _)
    have R6 := Aside0.mk (show w6.heap[g]? = some (.cells #[.slice A5 l'.length c5, .int .i64 _, .int .i64 3] 56 (0, 0)) by rw [← hw6]; exact blk_put (blk_far (blk_far (blk_far R5.out ne1 _) ne1 _) ne1 _) 2 _ rfl)
    clear hw6 e0 e2 f2 d0 d1 d2 fd0 fd1 fd2 k0 k1 k2 kf0 kf1 kf2
    have e2 : w6.cell? ⟨g, 2, none⟩ = some (.int .i64 3) := (blk_cell R6.out 2).trans rfl
    have k0 : w6.cell? ⟨g2, 0, none⟩ = some (.int .i64 0) := (blk_cell K6.out 0).trans rfl
    have k1 : w6.cell? ⟨g2, 1, none⟩ = some (.int .i64 0) := (blk_cell K6.out 1).trans rfl
    have k2 : w6.cell? ⟨g2, 2, none⟩ = some (.slice none 0 0) := (blk_cell K6.out 2).trans rfl
    have kf0 := blk_frozen K6.out 0
    have kf1 := blk_frozen K6.out 1
    have kf2 := blk_frozen K6.out 2
    have e2d : w6.drew.cell? ⟨g, 2, none⟩ = some (.int .i64 3) := e2
    have K7 := Aside0.mk (blk_drew K6.out)
    have B7 := Aside0.mk (below_drew1 B6.out)
    clear k0 k1 k2 kf0 kf1 kf2 e2 K6 B6
    refine start_ (n := 7) (S := fun w' => w'.cell? ⟨g, 2, none⟩ = some (.int .i64 3)) (ds := []) #[false, false, false, false, false, false, false] (by kernel_rfl) rfl rfl e2d (fun hHeld => ?_)
    generalize w6.drew = w7 at K7 B7 e2d hHeld ⊢
    refine pure_ (i := 0) (N := some 32) (v := ?_) (a' := ?_) #[true, false, false, false, false, false, false] rfl rfl (by kernel_rfl) (fun _ _ _ h => h) (Or.inl ⟨by rfl, ?_⟩) ?_ ?_
    rotate_left
    · intro w'
      go_simp
      with_reducible rfl
    rotate_left
    · simp only [Act.put, List.setIfInBounds_toArray, List.set_cons_zero, List.set_cons_succ, i64_w, i32_w]
      rfl
    refine pure_ (i := 1) (N := some 33) (v := ?_) (a' := ?_) #[true, true, false, false, false, false, false] rfl rfl (by kernel_rfl) (fun _ _ _ h => h) (Or.inl ⟨by rfl, ?_⟩) ?_ ?_
    rotate_left
    · intro w'
      go_simp
      with_reducible rfl
    rotate_left
    · simp only [Act.put, List.setIfInBounds_toArray, List.set_cons_zero, List.set_cons_succ, i64_w, i32_w]
      rfl
    refine pure_ (i := 2) (N := some 34) (v := ?_) (a' := ?_) #[true, true, true, false, false, false, false] rfl rfl (by kernel_rfl) (fun _ _ _ h => h) (Or.inl ⟨by rfl, ?_⟩) ?_ ?_
    rotate_left
    · intro w'
      go_simp
      with_reducible rfl
    rotate_left
    · simp only [Act.put, List.setIfInBounds_toArray, List.set_cons_zero, List.set_cons_succ, i64_w, i32_w]
      rfl
    refine pure_ (i := 3) (N := some 35) (v := ?_) (a' := ?_) #[true, true, true, true, false, false, false] rfl rfl (by kernel_rfl) (fun _ _ _ h => h) (Or.inl ⟨by rfl, ?_⟩) ?_ ?_
    rotate_left
    · intro w'
      go_simp
      with_reducible rfl
    rotate_left
    · simp only [Act.put, List.setIfInBounds_toArray, List.set_cons_zero, List.set_cons_succ, i64_w, i32_w]
      rfl
    refine take_ (i := 4) (N := some 36) (v := ?_) (a' := ?_) #[true, true, true, true, true, false, false] rfl rfl (by kernel_rfl) (fun _ _ _ h => h) (Or.inl ⟨by rfl, ?_⟩) hHeld ?_ ?_
    rotate_left
    · intro w' s0
      go_simp
      with_reducible rfl
    rotate_left
    · simp only [Act.put, List.setIfInBounds_toArray, List.set_cons_zero, List.set_cons_succ, i64_w, i32_w]
      rfl
    refine one_ (i := 5) (N := none) #[true, true, true, true, true, true, false] rfl rfl (by kernel_rfl) (by decide) (fun K hK => ?_)
    have k0 : w7.cell? ⟨g2, 0, none⟩ = some (.int .i64 0) := (blk_cell K7.out 0).trans rfl
    have k1 : w7.cell? ⟨g2, 1, none⟩ = some (.int .i64 0) := (blk_cell K7.out 1).trans rfl
    have k2 : w7.cell? ⟨g2, 2, none⟩ = some (.slice none 0 0) := (blk_cell K7.out 2).trans rfl
    have kf0 := blk_frozen K7.out 0
    have kf1 := blk_frozen K7.out 1
    have kf2 := blk_frozen K7.out 2
    refine skip_ (w1 := ?_) (by rfl) rfl ?_ ?_
    rotate_left
    · go_simp
      rfl
    refine hK.out _ _ ((cell_far (p := ⟨g2, _, none⟩) (Ne.symm N3.out) _).trans ((cell_far (p := ⟨g2, _, none⟩) (Ne.symm N3.out) _).trans ((cell_far (p := ⟨g2, _, none⟩) (Ne.symm N3.out) _).trans hHeld))) (fun hHeld => ?_)
    clear hK K
    refine pure_ (i := 6) (N := some 3) (v := ?_) (a' := ?_) #[true, true, true, true, true, true, true] rfl rfl (by kernel_rfl) (fun _ _ _ h => h) (Or.inl ⟨by rfl, ?_⟩) ?_ ?_
    rotate_left
    · intro w'
      go_simp
      with_reducible rfl
    rotate_left
    · simp only [Act.put, List.setIfInBounds_toArray, List.set_cons_zero, List.set_cons_succ, i64_w, i32_w]
      rfl
    refine done_ (by kernel_rfl) ?_
    clear k0 k1 k2 kf0 kf1 kf2 e2d hHeld
    go_wp2
    have K8 := Aside0.mk (blk_put (blk_put (blk_put K7.out 0 (.int .i64 0) rfl) 1 (.int .i64 0) rfl) 2 (.slice none 0 0) rfl)
    have m0 := (blk_cell K8.out 0).trans rfl
    have m1 := (blk_cell K8.out 1).trans rfl
    have m2 := (blk_cell K8.out 2).trans rfl
    have hu29b := Try.underlying29
    refine bodyPost_ret (v := .tuple #[.agg #[.int .i64 0, .int .i64 0, .slice none 0 0], .int .i64 3]) (by simp [results, Try.results16, go_sem, hu29b, m0, m1, m2]) rfl ⟨rfl, ?_⟩
    exact below_set (below_set (below_set B7.out W2) W2) W2

theorem parse_good {f : Nat} (hf : f = 120) {w : World} {A : Option Addr} {c : Nat} {l : List Int} (hr : Kd.C (Kd.int .u8) w A l.length l) (hc : l.length ≤ c) (hx : ∀ x ∈ l, 0 ≤ x ∧ x ≤ 255)
    {l' : List Int} {e' : Int} (hl : (rdTerm f l 0).2.1 = l') (he : (rdTerm f l 0).2.2.2 = e') (hcase : e' = 0 ∧ l'.length = 0) :
    Calls Try.prog 16 #[.slice A l.length c] w fun e w' => ∃ v2_ : Value, e = .returned (.tuple #[.agg #[.int .i64 (rdTerm f l 0).1.f0, .int .i64 (rdTerm f l 0).1.f1, v2_], .int .i64 0]) ∧ Kd.R k29 29 w' w.heap.size (fun _ => True) v2_ (rdTerm f l 0).1.f2 ∧ Below w.heap.size w w' := by
  obtain ⟨KO, hKO⟩ := own_total (rdTerm_sm f l 0 hx)
  have OW := Aside0.mk (hKO KO (Nat.le_refl _))
  clear hKO
  have HF := Aside0.mk hf
  clear hf
  have HC := Aside0.mk hc
  have HR := Aside0.mk hr
  have HX := Aside0.mk hx
  have HL := Aside0.mk hl
  have HE := Aside0.mk he
  clear hc hr hx hl he
  have hu56 := Try.underlying56
  have hu29 := Try.underlying29
  obtain ⟨h, hp⟩ := hcase
  subst h
  have hp1 : decide (0 < l'.length) = false := decide_eq_false (by omega)
  have hp2 : decide ((0 : Int) < (l'.length : Int)) = false := decide_eq_false (by omega)
  clear hp
  go_enter Try.func16, Try.ntmps16
  go_wp2_with (first | ((with_reducible refine gate_dst (N := 2) rfl ?_); refine box_event ?hg (N := 2) ?hd (cs := #[.int .i64 0, .int .i64 0, .slice none 0 0]) (t := 29) ?hr ?_; (case hd => rfl); (case hg => rfl); (case hr => first | (go_simp; done) | (go_simp; rfl)); intro g2 hg2 w2 hbox hb2; have K2 := Aside0.mk hbox; have B2 := Aside0.mk hb2; have G2 := Aside0.mk hg2; clear hbox hb2 hg2) | ((with_reducible refine gate_dst (N := 8) rfl ?_); refine box_event ?hg (N := 8) ?hd (cs := #[.slice A l.length c, .int .i64 0, .int .i64 0]) (t := 56) ?hr ?_; (case hd => rfl); (case hg => rfl); (case hr => first | (go_simp; done) | (go_simp; rfl)); intro g hg w3 hbox hb3; have R3 : Aside0 (RD w w3 g l 0 0) := ⟨⟨A, c, hbox, HC.out, HR.out⟩⟩; have K3 := Aside0.mk (blk_below K2.out hb3); have B3 := Aside0.mk (B2.out.trans (hb3.mono B2.out.size)); have G3 := Aside0.mk hg; have N3 : Aside0 (g2 ≠ g) := ⟨by have := blk_lt K2.out; omega⟩; have S2 := Aside0.mk B2.out.size; clear hbox hb3 hg K2 B2) | (go_at_call 25; refine (term_any f R3.out B3.out (by rw [G3.out]; exact S2.out) HX.out (by have := HF.out; omega) (by omega) (by omega) (by omega)).mono ?_; rintro en w4 ⟨v4, rfl, hR, hRD, hK, hB⟩; obtain ⟨Ac, cc, ec⟩ := Kd.R_slice hR; subst ec; have O4 := Aside0.mk hR; rw [HL.out, HE.out] at hRD; obtain ⟨A5, c5, r1, r2, r3⟩ := hRD; have K4 := Aside0.mk (keep_blk hK K3.out N3.out); have B4 := Aside0.mk hB; have Z4 := Aside0.mk hK.1; have U3 := Aside0.mk (RD.lt R3.out); have R1 := Aside0.mk r1; clear hR r1 r2 r3 hK hB R3 K3) | ((with_reducible refine gate_dst (N := 5) rfl ?_); refine box_event ?hg (N := 5) ?hd (cs := #[.int .i64 0, .int .i64 0, .slice none 0 0]) (t := 29) ?hr ?_; (case hd => rfl); (case hg => rfl); (case hr => first | (go_simp; done) | (go_simp; rfl)); intro g5 hg5 w5 hbox hb5; have R5 := Aside0.mk (blk_below R1.out hb5); have L5 := Aside0.mk hbox; have K5 := Aside0.mk (blk_below K4.out hb5); have G5 := Aside0.mk hg5; have B45 := Aside0.mk hb5; have ne1 : g ≠ g5 := (by have := blk_lt R1.out; omega); have ne2 : g5 ≠ g := Ne.symm ne1; have ne3 : g2 ≠ g5 := (by have := blk_lt K4.out; omega); have ne4 : g5 ≠ g2 := Ne.symm ne3; have ne5 := N3.out; have ne6 := Ne.symm N3.out; have O5 := Aside0.mk (Kd.R_below O4.out hb5); have B5 := Aside0.mk (B4.out.trans (hb5.mono B4.out.size)); have e0 : w5.cell? ⟨g, 0, none⟩ = some (.slice A5 l'.length c5) := (blk_cell R5.out 0).trans rfl; have e2 : w5.cell? ⟨g, 2, none⟩ = some (.int .i64 0) := (blk_cell R5.out 2).trans rfl; have f2 := blk_frozen R5.out 2; have d0 : w5.cell? ⟨g5, 0, none⟩ = some (.int .i64 0) := (blk_cell L5.out 0).trans rfl; have d1 : w5.cell? ⟨g5, 1, none⟩ = some (.int .i64 0) := (blk_cell L5.out 1).trans rfl; have d2 : w5.cell? ⟨g5, 2, none⟩ = some (.slice none 0 0) := (blk_cell L5.out 2).trans rfl; have fd0 := blk_frozen L5.out 0; have fd1 := blk_frozen L5.out 1; have fd2 := blk_frozen L5.out 2; have k0 : w5.cell? ⟨g2, 0, none⟩ = some (.int .i64 0) := (blk_cell K5.out 0).trans rfl; have k1 : w5.cell? ⟨g2, 1, none⟩ = some (.int .i64 0) := (blk_cell K5.out 1).trans rfl; have k2 : w5.cell? ⟨g2, 2, none⟩ = some (.slice none 0 0) := (blk_cell K5.out 2).trans rfl; have kf0 := blk_frozen K5.out 0; have kf1 := blk_frozen K5.out 1; have kf2 := blk_frozen K5.out 2; clear hbox hb5 hg5) | fail)
  generalize hw6 : World.setCell (World.setCell (World.setCell w5 ⟨g5, 0, none⟩ _) ⟨g5, 1, none⟩ _) ⟨g5, 2, none⟩ _ = w6
  have W2 : w.heap.size ≤ g2 := by rw [G2.out]; exact Nat.le_refl _
  have WW5 : w.heap.size ≤ g5 := by rw [G5.out]; exact B4.out.size
  have B6 := Aside0.mk (show Below w.heap.size w w6 by rw [← hw6]; exact below_set (below_set (below_set B5.out WW5) WW5) WW5)
  have K6 := Aside0.mk (show w6.heap[g2]? = some (.cells #[.int .i64 0, .int .i64 0, .slice none 0 0] 29 (0, 0)) by rw [← hw6]; exact blk_far (blk_far (blk_far K5.out ne3 _) ne3 _) ne3 _)
  have V6 := Aside0.mk (show Kd.V k29 29 w6 w6.heap.size (fun k_ => (fun _ => True) k_) (.slice Ac (rdTerm f l 0).1.f2.length cc) (rdTerm f l 0).1.f2 by
    rw [← hw6]
    have q1 := Kd.R_mono (ok' := fun k => k ≠ g5) (Kd.R_bound O4.out) (fun k hk => by have := hk.2.2.1; have := G5.out; omega)
    have q2 := Kd.R_below q1 (show Below w4.heap.size w4 w5 from B45.out)
    exact Kd.V_mono (Kd.R_V (Kd.R_far (p := ⟨g5, 2, none⟩) (Kd.R_far (p := ⟨g5, 1, none⟩) (Kd.R_far (p := ⟨g5, 0, none⟩) q2 (fun k hk => hk) _) (fun k hk => hk) _) (fun k hk => hk) _)) (fun _ _ => trivial))
  clear hw6 e0 e2 f2 d0 d1 d2 fd0 fd1 fd2 k0 k1 k2 kf0 kf1 kf2
  refine (code_own.calls KO _ _ (fun _ => True) _ _ _ _ _ _ _ V6.out OW.out).mono ?_
  rintro en w7 ⟨v7, rfl, hR, hB⟩
  obtain ⟨A7, c7, ev7⟩ := Kd.R_slice hR
  subst ev7
  have O7 := Aside0.mk hR
  have B7 := Aside0.mk (B6.out.trans (hB.mono B6.out.size))
  have K7 := Aside0.mk (blk_below K6.out hB)
  have L6 := Aside0.mk (blk_lt K6.out)
  have S6 := Aside0.mk B6.out.size
  clear hR hB V6 B6 K6
  have k0 : w7.cell? ⟨g2, 0, none⟩ = some (.int .i64 0) := (blk_cell K7.out 0).trans rfl
  have k1 : w7.cell? ⟨g2, 1, none⟩ = some (.int .i64 0) := (blk_cell K7.out 1).trans rfl
  have k2 : w7.cell? ⟨g2, 2, none⟩ = some (.slice none 0 0) := (blk_cell K7.out 2).trans rfl
  have kf0 := blk_frozen K7.out 0
  have kf1 := blk_frozen K7.out 1
  have kf2 := blk_frozen K7.out 2
  go_wp2
  have K8 := Aside0.mk (blk_put (blk_put (blk_put K7.out 0 (.int .i64 (rdTerm f l 0).1.f0) rfl) 1 (.int .i64 (rdTerm f l 0).1.f1) rfl) 2 (.slice A7 (rdTerm f l 0).1.f2.length c7) rfl)
  clear k0 k1 k2
  have m0 := (blk_cell K8.out 0).trans rfl
  have m1 := (blk_cell K8.out 1).trans rfl
  have m2 := (blk_cell K8.out 2).trans rfl
  have hu29b := Try.underlying29
  refine bodyPost_ret (v := .tuple #[.agg #[.int .i64 (rdTerm f l 0).1.f0, .int .i64 (rdTerm f l 0).1.f1, .slice A7 (rdTerm f l 0).1.f2.length c7], .int .i64 0]) (by simp [results, Try.results16, go_sem, hu29b, m0, m1, m2]) rfl ⟨_, rfl, ?_, ?_⟩
  · have q1 := Kd.R_lower (Kd.R_mono (ok' := fun k => k ≠ g2) O7.out (fun k hk => by have := L6.out; omega)) S6.out
    exact Kd.R_mono (Kd.R_far (p := ⟨g2, 2, none⟩) (Kd.R_far (p := ⟨g2, 1, none⟩) (Kd.R_far (p := ⟨g2, 0, none⟩) q1 (fun k hk => hk) _) (fun k hk => hk) _) (fun k hk => hk) _) (fun _ _ => trivial)
  · exact below_set (below_set (below_set B7.out W2) W2) W2

theorem code_Parse.calls (A0 : Option Addr) (c0 : Nat) (l0 : List Int) (r1 r2 : Int) (r3 : List S29) (r4 : Int) (w : World) (hr0 : Kd.C (Kd.int .u8) w A0 l0.length l0) (hc0 : l0.length ≤ c0) (h : code_Parse.f l0 = some (r1, r2, r3, r4)) :
    Calls Try.prog 16 #[.slice A0 l0.length c0] w fun e w' => ∃ v2_ : Value, e = .returned (.tuple #[.agg #[.int .i64 r1, .int .i64 r2, v2_], .int .i64 r4]) ∧ Kd.R k29 29 w' w.heap.size (fun _ => True) v2_ r3 ∧ Below w.heap.size w w' := by
  unfold code_Parse.f at h
  split at h
  · rename_i hx
    obtain ⟨f, hf⟩ : ∃ f, f = 120 := ⟨_, rfl⟩
    simp only [Option.some.injEq, Prod.mk.injEq] at h
    obtain ⟨rfl, rfl, rfl, rfl⟩ := h
    unfold rdParse
    rw [← hf]
    by_cases he : (rdTerm f l0 0).2.2.2 = 0
    · rw [if_pos he]
      by_cases hl : 0 < (rdTerm f l0 0).2.1.length
      · rw [if_pos hl]
        refine (parse_bad hf hr0 hc0 hx rfl rfl (.inr ⟨he, hl⟩)).mono fun en w' hh => ?_
        rw [if_pos he] at hh
        exact ⟨_, hh.1, Kd.R_nil _ _ _ _ _, hh.2⟩
      · rw [if_neg hl]
        exact parse_good hf hr0 hc0 hx rfl rfl ⟨he, by omega⟩
    · rw [if_neg he]
      refine (parse_bad hf hr0 hc0 hx rfl rfl (.inl he)).mono fun en w' hh => ?_
      rw [if_neg he] at hh
      exact ⟨_, hh.1, Kd.R_nil _ _ _ _ _, hh.2⟩
  · simp at h
end Go.Proofs.Ytfbjdfgadhlhlaa.P
