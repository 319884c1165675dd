/- Package run: eval, by strong induction on how many rounds may be. -/
import Derived.Test.YtnecmclnokikoaaDoorCHandG
import Derived.Test.YtnecmclnokikoaaDoorCHandK
import Derived.Deep.LoopGhost
import Derived.WalkMore
namespace Go.Proofs.YtnecmclnokikoaaDoor.Run
open Go.RowKit Go.Proofs.YtnecmclnokikoaaDoor.P Go.Proofs.YtnecmclnokikoaaDoorW.PrintWords Go.Proofs.YtnecmclnokikoaaDoorW.PrintLast Go.Proofs.YtnecmclnokikoaaDoorW.PrintMore
set_option linter.unusedVariables false
set_option linter.unusedSimpArgs false
mutual
theorem RV_lt {w0 w : World} {ok : Nat → Prop} : ∀ (v : V) (p : Value), RV w0 w ok v p → RV w0 w (fun k => ok k ∧ k < w.heap.size) v p
  | .int n, p, h => by
    obtain ⟨g, h1, h2, h3⟩ := h
    exact ⟨g, h1, ⟨h2, blk_lt h3⟩, h3⟩
  | .pair a b, p, h => by
    obtain ⟨g, r, pa, pb, h1, h2, h3, h4, h5, h6, h7⟩ := h
    exact ⟨g, r, pa, pb, h1, ⟨h2, blk_lt h3⟩, h3, ⟨h4, blk_lt h5⟩, h5, RV_lt a pa h6, RV_lt b pb h7⟩
  | .fn t e, p, h => by
    obtain ⟨g, A, c, pe, h1, h2, h3, h4, h5, h6⟩ := h
    exact ⟨g, A, c, pe, h1, ⟨h2, blk_lt h3⟩, h3, h4, h5, RE_lt e pe h6⟩
theorem RE_lt {w0 w : World} {ok : Nat → Prop} : ∀ (e : E) (p : Value), RE w0 w ok e p → RE w0 w (fun k => ok k ∧ k < w.heap.size) e p
  | .nil, p, h => h
  | .val v up, p, h => by
    obtain ⟨g, pv, pu, h1, h2, h3, h4, h5⟩ := h
    exact ⟨g, pv, pu, h1, ⟨h2, blk_lt h3⟩, h3, RV_lt v pv h4, RE_lt up pu h5⟩
  | .loop t up, p, h => by
    obtain ⟨g, q, A, c, pu, h1, h2, h3, h4, h5, h6, h7, h8⟩ := h
    exact ⟨g, q, A, c, pu, h1, ⟨h2, blk_lt h3⟩, h3, ⟨h4, blk_lt h5⟩, h5, h6, h7, RE_lt up pu h8⟩
end
/-- Where values lie inside eval: not in its own term's block. -/
def Ok2 (ok : Nat → Prop) (n k : Nat) : Prop := (ok k ∧ k < n) ∨ n < k
theorem Ok2.up {ok : Nat → Prop} {n k : Nat} (h : Ok2 ok n k) : ok k ∨ n ≤ k := h.elim (fun h => Or.inl h.1) (fun h => Or.inr (Nat.le_of_lt h))
theorem Ok2.ne {ok : Nat → Prop} {n k : Nat} (h : Ok2 ok n k) : k ≠ n := h.elim (fun h => Nat.ne_of_lt h.2) (fun h => Nat.ne_of_gt h)
theorem Ok2.gm {ok : Nat → Prop} {n k gm : Nat} (h : Ok2 ok n k) (hok : ∀ k, ok k → k ≠ gm) (hg : gm < n) : k ≠ gm := h.elim (fun h => hok k h.1) (fun h => by omega)
theorem Ok2.at {ok : Nat → Prop} {n m k : Nat} (h : Ok2 ok n k ∨ m ≤ k) (hm : n < m) : Ok2 ok n k := h.elim id (fun h => Or.inr (Nat.lt_of_lt_of_le hm h))
theorem RV_end {w0 w w1 w' : World} {ok : Nat → Prop} {v : V} {p : Value} (h : RV w0 w' (fun k => Ok2 ok w.heap.size k ∨ w1.heap.size ≤ k) v p) (hs : w.heap.size ≤ w1.heap.size) : RV w0 w' (fun k => ok k ∨ w.heap.size ≤ k) v p :=
  RV_step (w := w') (fun k hk => hk.elim (fun h => h.up) (fun h => Or.inr (Nat.le_trans hs h))) (fun _ _ _ => rfl) _ _ h
theorem RV_at {w0 w w1 w' : World} {ok : Nat → Prop} {v : V} {p : Value} (h : RV w0 w' (fun k => Ok2 ok w.heap.size k ∨ w1.heap.size ≤ k) v p) (hs : w.heap.size < w1.heap.size) : RV w0 w' (Ok2 ok w.heap.size) v p :=
  RV_step (w := w') (fun k hk => Ok2.at hk hs) (fun _ _ _ => rfl) _ _ h
theorem RV_out {w0 w' : World} {ok : Nat → Prop} {n : Nat} {v : V} {p : Value} (h : RV w0 w' (Ok2 ok n) v p) : RV w0 w' (fun k => ok k ∨ n ≤ k) v p :=
  RV_step (w := w') (fun k hk => hk.up) (fun _ _ _ => rfl) _ _ h
/-- What is to come, of n rounds: something is wrong already; or a term's value. -/
def Ahead (F : Int) (r : V × Int × Int) (n : Nat) (e : E) (t : S29) (st er : Int) : Prop := (er ≠ 0 ∧ r = (.int 0, st, er)) ∨ (er = 0 ∧ ev F n e t st 0 = some r)
theorem ahead_of {F : Int} {r : V × Int × Int} : ∀ {n : Nat} {e : E} {t : S29} {st er : Int}, ev F n e t st er = some r → Ahead F r n e t st er
  | 0, e, t, st, er, h => by cases h
  | n + 1, e, t, st, er, h => by
    by_cases hz : er = 0
    · exact Or.inr ⟨hz, hz ▸ h⟩
    · unfold ev at h
      rw [if_pos hz] at h
      exact Or.inl ⟨hz, (Option.some.inj h).symm⟩
/-- What a round keeps, but for the term's block. -/
structure Mid (w0 w : World) (ok : Nat → Prop) (gm : Nat) (F st er : Int) (e : E) (pe : Value) (wr : World) : Prop where
  hi : Inv w0 wr gm st F er
  he : RE w0 wr (Ok2 ok w.heap.size) e pe
  hk : KeepBut w wr gm none
  hs : w.heap.size < wr.heap.size
/-- What holds ahead of a round. -/
def LoopI (w0 w : World) (ok : Nat → Prop) (gm : Nat) (F : Int) (r : V × Int × Int) (k n : Nat) (pe : Value) (wr : World) : Prop := n ≤ k ∧ ∃ e t A c st er,
  Mid w0 w ok gm F st er e pe wr ∧ wr.heap[w.heap.size]? = some (.cells #[.int .i64 t.f0, .int .i64 t.f1, .slice A t.f2.length c] 29 (0, 0)) ∧ t.f2.length ≤ c ∧ Kd.C k29 w0 A t.f2.length t.f2 ∧ Ahead F r n e t st er
/-- The world with a term's block turned. -/
theorem put3 {w : World} {g : Nat} {a b c a' b' c' : Value} (h : w.heap[g]? = some (.cells #[a, b, c] 29 (0, 0))) :
    (((w.setCell ⟨g, 0, none⟩ a').setCell ⟨g, 1, none⟩ b').setCell ⟨g, 2, none⟩ c').heap[g]? = some (.cells #[a', b', c'] 29 (0, 0)) :=
  blk_put (blk_put (blk_put h 0 a' rfl) 1 b' rfl) 2 c' rfl
theorem mid_put {w0 w : World} {ok : Nat → Prop} {gm : Nat} {F st er : Int} {e : E} {pe : Value} {wr : World} (h : Mid w0 w ok gm F st er e pe wr) (hg : gm < w.heap.size) (i : Nat) (v : Value) : Mid w0 w ok gm F st er e pe (wr.setCell ⟨w.heap.size, i, none⟩ v) where
  hi := ⟨blk_far h.hi.1 (Nat.ne_of_lt hg) v, below_set h.hi.2.1 (Nat.le_trans h.hi.2.2 (Nat.le_of_lt hg)), h.hi.2.2⟩
  he := RE_step (fun _ h => h) (fun k hk _ => Below.heap_setCell wr ⟨w.heap.size, i, none⟩ v k hk.ne) _ _ h.he
  hk := keep_far h.hk (Nat.le_refl _) v
  hs := by have := h.hs; simpa [World.setCell] using this
theorem loop_put {w0 w : World} {ok : Nat → Prop} {gm : Nat} {F st er : Int} {e : E} {pe : Value} {wr : World} {r : V × Int × Int} {k n : Nat} {a b c0 : Value} {t : S29} {A : Option Addr} {c : Nat} (h : Mid w0 w ok gm F st er e pe wr) (hg : gm < w.heap.size)
    (hb : wr.heap[w.heap.size]? = some (.cells #[a, b, c0] 29 (0, 0))) (hc : t.f2.length ≤ c) (hC : Kd.C k29 w0 A t.f2.length t.f2) (ha : Ahead F r n e t st er) (hn : n ≤ k) :
    LoopI w0 w ok gm F r k n pe (((wr.setCell ⟨w.heap.size, 0, none⟩ (.int .i64 t.f0)).setCell ⟨w.heap.size, 1, none⟩ (.int .i64 t.f1)).setCell ⟨w.heap.size, 2, none⟩ (.slice A t.f2.length c)) :=
  ⟨hn, e, t, A, c, st, er, mid_put (mid_put (mid_put h hg 0 _) hg 1 _) hg 2 _, put3 hb, hc, hC, ha⟩
theorem mid_keep {w0 w : World} {ok : Nat → Prop} {gm : Nat} {F st er st' er' : Int} {e : E} {pe : Value} {wr w' : World} (h : Mid w0 w ok gm F st er e pe wr) (hok : ∀ k, ok k → k ≠ gm) (hg : gm < w.heap.size) (hk : KeepBut wr w' gm none) (hi : Inv w0 w' gm st' F er') : Mid w0 w ok gm F st' er' e pe w' where
  hi := hi
  he := RE_keep h.he hk (fun k hk => hk.gm hok hg) (fun _ h => h)
  hk := KeepBut.trans h.hk hk (.inl rfl)
  hs := Nat.lt_of_lt_of_le h.hs hk.1
theorem mid_below {w0 w : World} {ok : Nat → Prop} {gm : Nat} {F st er : Int} {e : E} {pe : Value} {wr w' : World} (h : Mid w0 w ok gm F st er e pe wr) (hb : Below wr.heap.size wr w') : Mid w0 w ok gm F st er e pe w' where
  hi := h.hi.below hb
  he := RE_below h.he hb (fun _ h => h)
  hk := KeepBut.trans h.hk (KeepBut.of_below hb gm none) (.inl rfl)
  hs := Nat.lt_of_lt_of_le h.hs hb.size
/-- Another block of its own turned, in which nothing of e lies. -/
theorem mid_far {w0 w : World} {ok : Nat → Prop} {gm g : Nat} {F st er : Int} {e : E} {pe : Value} {wr : World} (h : Mid w0 w ok gm F st er e pe wr ∧ RE w0 wr (fun k => Ok2 ok w.heap.size k ∧ k < g) e pe) (hg : gm < g) (hw : w.heap.size ≤ g) (i : Nat) (v : Value) : Mid w0 w ok gm F st er e pe (wr.setCell ⟨g, i, none⟩ v) ∧ RE w0 (wr.setCell ⟨g, i, none⟩ v) (fun k => Ok2 ok w.heap.size k ∧ k < g) e pe := by
  have he : RE w0 (wr.setCell ⟨g, i, none⟩ v) (fun k => Ok2 ok w.heap.size k ∧ k < g) e pe := RE_step (fun _ h => h) (fun k hk _ => Below.heap_setCell wr ⟨g, i, none⟩ v k (Nat.ne_of_lt hk.2)) _ _ h.2
  exact ⟨⟨⟨blk_far h.1.hi.1 (Nat.ne_of_lt hg) v, below_set h.1.hi.2.1 (Nat.le_trans h.1.hi.2.2 (Nat.le_of_lt hg)), h.1.hi.2.2⟩, RE_step (w := wr.setCell ⟨g, i, none⟩ v) (fun _ h => h.1) (fun _ _ _ => rfl) _ _ he, keep_far h.1.hk hw v, by have := h.1.hs; simpa [World.setCell] using this⟩, he⟩
theorem Mid.with {w0 w : World} {ok : Nat → Prop} {gm : Nat} {F st er : Int} {e e' : E} {pe pe' : Value} {wr : World} (h : Mid w0 w ok gm F st er e pe wr) (he : RE w0 wr (Ok2 ok w.heap.size) e' pe') : Mid w0 w ok gm F st er e' pe' wr := ⟨h.hi, he, h.hk, h.hs⟩
set_option maxHeartbeats 16000000 in
set_option maxRecDepth 100000 in
theorem eval_step {F : Int} {k : Nat} (ih : ∀ j, j < k → CEV F j) : CEV F k := by
  intro w0 w gm e t pe A c st er ok r hi he hok hc hC hr
  have HOK := Aside0.mk hok
  have HGM := Aside0.mk (blk_lt hi.1)
  have IH := Aside0.mk ih
  have HI0 := Aside0.mk hi
  have START : Aside0 (LoopI w0 w ok gm F r k k pe (w.alloc (.cells #[.int .i64 t.f0, .int .i64 t.f1, .slice A t.f2.length c] 29))) := ⟨⟨Nat.le_refl _, e, t, A, c, st, er, ⟨hi.below (below_alloc (Below.refl _ _) _), RE_below (ok' := Ok2 ok w.heap.size) (RE_lt _ _ he) (below_alloc (Below.refl _ _) _) (fun k h => Or.inl h), keep_alloc (KeepBut.refl w gm none) _, by rw [size_alloc]; exact Nat.lt_succ_self _⟩, blk_new w _, hc, hC, ahead_of hr⟩⟩
  clear ih hi he hok hc hC hr
  go_enter Tryd.func29, Tryd.ntmps29
  go_wp2
  go_step3
  go_wp2
  go_step3
  go_wp2
  go_loopg [1] k (fun n p wr => Aside0 (LoopI w0 w ok gm F r k n p wr))
  case atStart => exact START
  case round =>
    obtain ⟨hn, e, t, A, c, st, er, hm, hb, hc, hC, ha⟩ := hrel.out
    clear START hrel
    by_cases hz : er ≠ 0
    · have R : r = (.int 0, st, er) := ha.elim And.right (fun h => absurd h.1 hz)
      subst R
      have HM := Aside0.mk hm
      have HB := Aside0.mk hb
      have HT := Aside0.mk (And.intro hc hC)
      have gmLT := Aside0.mk (show w.heap.size < wr.heap.size from hm.hs)
      have m0 : wr.cell? ⟨gm, 0, none⟩ = some (.int .i64 st) := (blk_cell hm.hi.1 0).trans rfl
      have m2 : wr.cell? ⟨gm, 2, none⟩ = some (.int .i64 er) := (blk_cell hm.hi.1 2).trans rfl
      have x0 : wr.cell? ⟨w.heap.size, 0, none⟩ = some (.int .i64 t.f0) := (blk_cell hb 0).trans rfl
      have x1 : wr.cell? ⟨w.heap.size, 1, none⟩ = some (.int .i64 t.f1) := (blk_cell hb 1).trans rfl
      have x2 : wr.cell? ⟨w.heap.size, 2, none⟩ = some (.slice A t.f2.length c) := (blk_cell hb 2).trans rfl
      have fz0 := blk_frozen hb 0
      have fz1 := blk_frozen hb 1
      have fz2 := blk_frozen hb 2
      have y1 : (er = 0) = False := eq_false hz
      have y2 : (er == 0) = false := by simpa using hz
      have y3 : (er != 0) = true := by simpa using hz
      clear hz ha hm hb hc hC hn
      go_wp2_with (first | (go_at_call 45; (with_reducible refine (whole39 _ _).mono ?_); rintro en w2 ⟨p2, rfl, hv⟩; have HV := Aside0.mk hv; clear hv))
      (try rw [Exit.noGoto_ret]); (try go_step)
      go_ret
      exact Ans_up (Ans_NV HM.out.hi HV.out) HM.out.hk
    · have hz : er = 0 := by simpa using hz
      subst hz
      obtain hv : ev F gk e t st 0 = some r := ha.elim (fun h => absurd rfl h.1) And.right
      clear ha
      obtain ⟨j, rfl⟩ : ∃ j, gk = j + 1 := by
        cases gk with
        | zero => cases hv
        | succ j => exact ⟨j, rfl⟩
      have JN := Aside0.mk hn
      have CJ : Aside0 (CEV F j) := ⟨@Aside0.out _ IH j (by omega)⟩
      have HM := Aside0.mk hm
      have HB := Aside0.mk hb
      have HT := Aside0.mk (And.intro hc hC)
      have gmLT := Aside0.mk (show w.heap.size < wr.heap.size from hm.hs)
      have m0 : wr.cell? ⟨gm, 0, none⟩ = some (.int .i64 st) := (blk_cell hm.hi.1 0).trans rfl
      have m2 : wr.cell? ⟨gm, 2, none⟩ = some (.int .i64 0) := (blk_cell hm.hi.1 2).trans rfl
      have x0 : wr.cell? ⟨w.heap.size, 0, none⟩ = some (.int .i64 t.f0) := (blk_cell hb 0).trans rfl
      have x1 : wr.cell? ⟨w.heap.size, 1, none⟩ = some (.int .i64 t.f1) := (blk_cell hb 1).trans rfl
      have x2 : wr.cell? ⟨w.heap.size, 2, none⟩ = some (.slice A t.f2.length c) := (blk_cell hb 2).trans rfl
      have fz0 := blk_frozen hb 0
      have fz1 := blk_frozen hb 1
      have fz2 := blk_frozen hb 2
      unfold ev at hv
      rw [if_neg (by simp)] at hv
      by_cases n1 : t.f0 = 1
      · have ho := n1
        rw [if_pos n1] at hv
        have q0 : (t.f0 == 1) = true := by simpa using ho
        have z0 : (t.f0 = 1) = True := eq_true ho
        have hle : ¬ 9223372036854775807 < t.f1 := fun h => by rw [if_pos h] at hv; cases hv
        rw [if_neg hle] at hv
        have C40 := Aside0.mk (find40 (n := t.f1) hm.he (by omega))
        obtain ⟨fe, hfe⟩ : ∃ fe, fe = find e t.f1.toNat := ⟨_, rfl⟩
        rw [← hfe] at hv C40
        clear hfe
        cases fe with
        | nil =>
          obtain rfl : r = (.int 0, st, 1) := (Option.some.inj hv).symm
          clear hv hm hb hc hC hn n1 ho hle
          go_wp2_with (first | (go_at_call 46; (with_reducible refine C40.out.mono ?_); rintro en w2_ ⟨px, rfl, hx, rfl⟩; obtain rfl : px = .pointer none := hx) | (go_at_call 47; (with_reducible refine (must_no HM.out.hi).mono ?_); rintro en w3 ⟨rfl, hi_, hk_⟩; have M3 := Aside0.mk (mid_keep HM.out HOK.out HGM.out hk_ hi_); have B3 := Aside0.mk (hk_.blk HB.out (Nat.ne_of_gt HGM.out) (by simp)); clear hi_ hk_) | (go_at_call 48; (with_reducible refine (step_err M3.out.hi (by decide)).mono ?_); rintro en w4 ⟨rfl, hi_, hk_⟩; have M4 := Aside0.mk (mid_keep M3.out HOK.out HGM.out hk_ hi_); have B4 := Aside0.mk (hk_.blk B3.out (Nat.ne_of_gt HGM.out) (by simp)); clear hi_ hk_))
          go_roundg j
          case measure => exact Nat.lt_succ_self j
          case rel => exact ⟨Nat.le_of_succ_le JN.out, _, _, _, _, _, _, M4.out, B4.out, HT.out.1, HT.out.2, Or.inl ⟨by decide, rfl⟩⟩

        | val v up =>
          obtain rfl : r = (v, st, 0) := (Option.some.inj hv).symm
          clear hv hm hb hc hC hn n1 ho hle
          go_wp2_with (first | (go_at_call 46; (with_reducible refine C40.out.mono ?_); rintro en w2_ ⟨px, rfl, hx, rfl⟩; obtain ⟨gx, pv, pu, rfl, okx, hx0, hxv, hxu⟩ := hx; have HX0 := Aside0.mk hx0; have HXV := Aside0.mk hxv; have XN := Aside0.mk (okx.gm HOK.out HGM.out); clear hx0 hxv hxu okx) | (go_at_call 47; (with_reducible refine (must_ok HM.out.hi).mono ?_); rintro en w3 ⟨rfl, hi_, hk_⟩; have M3 := Aside0.mk (mid_keep HM.out HOK.out HGM.out hk_ hi_); have B3 := Aside0.mk (hk_.blk HB.out (Nat.ne_of_gt HGM.out) (by simp)); have K3 := Aside0.mk hk_; have y0 : w3.cell? ⟨gx, 0, none⟩ = some pv := (blk_cell (hk_.blk HX0.out XN.out (by simp)) 0).trans rfl; have y1 : w3.cell? ⟨gx, 1, none⟩ = some (.pointer none) := (blk_cell (hk_.blk HX0.out XN.out (by simp)) 1).trans rfl; clear hi_ hk_))
          (try rw [Exit.noGoto_ret]); (try go_step)
          go_ret
          exact ⟨_, rfl, RV_out (RV_keep HXV.out K3.out (fun k hk => hk.gm HOK.out HGM.out) (fun _ h => h)), M3.out.hi, M3.out.hk⟩
        | loop b up =>
          replace hv : stepped F st ((kid b 1).bind fun c => ev F j (.loop b up) c (st + 1) 0) = some r := hv
          by_cases hst : F ≤ st
          · obtain rfl : r = (.int 0, st, 17) := by
              unfold stepped at hv
              rw [if_pos hst] at hv
              exact (Option.some.inj hv).symm
            have HST := Aside0.mk hst
            clear hv hm hb hc hC hn n1 ho hle hst
            go_wp2_with (first | (go_at_call 46; (with_reducible refine C40.out.mono ?_); rintro en w2_ ⟨px, rfl, hx, rfl⟩; obtain ⟨gx, hb_, A1, c1, pu, rfl, okx, hx0, okh, hh0, hc1, hC1, hxu⟩ := hx; have HX0 := Aside0.mk hx0; have HH0 := Aside0.mk hh0; have XR := Aside0.mk (And.intro hc1 hC1); have HXU := Aside0.mk hxu; have OK_ := Aside0.mk (And.intro okx okh); have XN := Aside0.mk (okx.gm HOK.out HGM.out); have HN := Aside0.mk (okh.gm HOK.out HGM.out); clear hx0 hh0 hxu okx okh hc1 hC1) | (go_at_call 47; (with_reducible refine (must_ok HM.out.hi).mono ?_); rintro en w3 ⟨rfl, hi_, hk_⟩; have M3 := Aside0.mk (mid_keep HM.out HOK.out HGM.out hk_ hi_); have B3 := Aside0.mk (hk_.blk HB.out (Nat.ne_of_gt HGM.out) (by simp)); have HX3 := Aside0.mk (hk_.blk HX0.out XN.out (by simp)); have HH3 := Aside0.mk (hk_.blk HH0.out HN.out (by simp)); have XU3 := Aside0.mk (RE_keep HXU.out hk_ (fun k hk => hk.gm HOK.out HGM.out) (fun _ h => h)); have y1 : w3.cell? ⟨gx, 1, none⟩ = some (.pointer (some ⟨hb_, 0, none⟩)) := (blk_cell HX3.out 1).trans rfl; clear hi_ hk_) | (go_at_call 48; (with_reducible refine (step_no M3.out.hi HST.out).mono ?_); rintro en w4 ⟨rfl, hi_, hk_⟩; have M4 := Aside0.mk (mid_keep M3.out HOK.out HGM.out hk_ hi_); have B4 := Aside0.mk (hk_.blk B3.out (Nat.ne_of_gt HGM.out) (by simp)); clear hi_ hk_))
            go_roundg j
            case measure => exact Nat.lt_succ_self j
            case rel => exact ⟨Nat.le_of_succ_le JN.out, _, _, _, _, _, _, M4.out, B4.out, HT.out.1, HT.out.2, Or.inl ⟨by decide, rfl⟩⟩

          · unfold stepped at hv
            rw [if_neg hst] at hv
            have hsr : 0 ≤ st ∧ st < 65536 := Decidable.byContradiction fun h => by rw [if_neg h] at hv; cases hv
            rw [if_pos hsr] at hv
            obtain ⟨b1, hb1, hv⟩ := Option.bind_eq_some_iff.mp hv
            have XF := Aside0.mk (And.intro (show st < F by omega) hsr)
            have HV := Aside0.mk (ahead_of hv)
            have HB1 := Aside0.mk hb1
            clear hv hm hb hc hC hn n1 ho hle hst hsr hb1
            go_wp2_with (first | (go_at_call 46; (with_reducible refine C40.out.mono ?_); rintro en w2_ ⟨px, rfl, hx, rfl⟩; obtain ⟨gx, hb_, A1, c1, pu, rfl, okx, hx0, okh, hh0, hc1, hC1, hxu⟩ := hx; have HX0 := Aside0.mk hx0; have HH0 := Aside0.mk hh0; have XR := Aside0.mk (And.intro hc1 hC1); have HXU := Aside0.mk hxu; have OK_ := Aside0.mk (And.intro okx okh); have XN := Aside0.mk (okx.gm HOK.out HGM.out); have HN := Aside0.mk (okh.gm HOK.out HGM.out); clear hx0 hh0 hxu okx okh hc1 hC1) | (go_at_call 47; (with_reducible refine (must_ok HM.out.hi).mono ?_); rintro en w3 ⟨rfl, hi_, hk_⟩; have M3 := Aside0.mk (mid_keep HM.out HOK.out HGM.out hk_ hi_); have B3 := Aside0.mk (hk_.blk HB.out (Nat.ne_of_gt HGM.out) (by simp)); have HX3 := Aside0.mk (hk_.blk HX0.out XN.out (by simp)); have HH3 := Aside0.mk (hk_.blk HH0.out HN.out (by simp)); have XU3 := Aside0.mk (RE_keep HXU.out hk_ (fun k hk => hk.gm HOK.out HGM.out) (fun _ h => h)); have y1 : w3.cell? ⟨gx, 1, none⟩ = some (.pointer (some ⟨hb_, 0, none⟩)) := (blk_cell HX3.out 1).trans rfl; clear hi_ hk_) | (go_at_call 48; (with_reducible refine (step_ok M3.out.hi XF.out.1 XF.out.2.1 XF.out.2.2).mono ?_); rintro en w4 ⟨rfl, hi_, hk_⟩; have M4 := Aside0.mk (mid_keep M3.out HOK.out HGM.out hk_ hi_); have B4 := Aside0.mk (hk_.blk B3.out (Nat.ne_of_gt HGM.out) (by simp)); have HX4 := Aside0.mk (hk_.blk HX3.out XN.out (by simp)); have HH4 := Aside0.mk (hk_.blk HH3.out HN.out (by simp)); have XU4 := Aside0.mk (RE_keep XU3.out hk_ (fun k hk => hk.gm HOK.out HGM.out) (fun _ h => h)); clear y1; clear hi_ hk_))
            obtain ⟨hlt, ad, A2, c2, hA1, e0, e1, e2, hc2, hC2⟩ := kid_at XR.out.2 HB1.out
            subst hA1
            rw [Nat.one_mul, add_pos _ 3 (by decide)] at e0 e1 e2
            replace e0 := pw_cell_below M4.out.hi.2.1 e0
            replace e1 := pw_cell_below M4.out.hi.2.1 e1
            replace e2 := pw_cell_below M4.out.hi.2.1 e2
            have XC := Aside0.mk (And.intro hc2 hC2)
            clear hc2 hC2 m0 m2 x0 x1 x2 fz0 fz1 fz2
            have d1 : ((1 : Int) < (b.f2.length : Int)) = True := eq_true (by omega)
            have d2 : (1 < b.f2.length) = True := eq_true (by omega)
            have d3 : decide ((1 : Int) < (b.f2.length : Int)) = true := decide_eq_true (by omega)
            clear hlt
            have M5 := Aside0.mk (mid_below M4.out (below_drew (Below.refl _ _)))
            have B5 := Aside0.mk (blk_drew B4.out)
            have HX5 := Aside0.mk (blk_drew HX4.out)
            have HH5 := Aside0.mk (blk_drew HH4.out)
            have XU5 := Aside0.mk (RE_below XU4.out (below_drew (Below.refl _ _)) (fun _ h => h))
            have y1 : w4.cell? ⟨gx, 1, none⟩ = some (.pointer (some ⟨hb_, 0, none⟩)) := (blk_cell HX4.out 1).trans rfl
            have y2 : w4.cell? ⟨hb_, 2, none⟩ = some (.slice (some ad) b.f2.length c1) := (blk_cell HH4.out 2).trans rfl
            go_still_tail 11, (by kernel_rfl)
            change wpList _ _ _ _ _ w4.drew
            clear y1 y2 e0 e1 e2 M4 B4 HX4 HH4 XU4
            generalize w4.drew = w5 at M5 B5 HX5 HH5 XU5 ⊢
            have x0 : w5.cell? ⟨w.heap.size, 0, none⟩ = some (.int .i64 t.f0) := (blk_cell B5.out 0).trans rfl
            have x1 : w5.cell? ⟨w.heap.size, 1, none⟩ = some (.int .i64 t.f1) := (blk_cell B5.out 1).trans rfl
            have x2 : w5.cell? ⟨w.heap.size, 2, none⟩ = some (.slice A t.f2.length c) := (blk_cell B5.out 2).trans rfl
            have fz0 := blk_frozen B5.out 0
            have fz1 := blk_frozen B5.out 1
            have fz2 := blk_frozen B5.out 2
            go_wp2
            go_roundg j
            case measure => exact Nat.lt_succ_self j
            case rel => exact ⟨loop_put (M5.out.with (e' := .loop b up) ⟨gx, hb_, _, c1, pu, rfl, OK_.out.1, HX5.out, OK_.out.2, HH5.out, XR.out.1, XR.out.2, XU5.out⟩) HGM.out B5.out XC.out.1 XC.out.2 HV.out (Nat.le_of_succ_le JN.out)⟩
      rw [if_neg n1] at hv
      by_cases n29 : t.f0 = 29
      · have ho := n29
        rw [if_pos n29] at hv
        have q0 : (t.f0 == 1) = false := by rw [beq_eq_false_iff_ne]; exact n1
        have z0 : (t.f0 = 1) = False := eq_false n1
        have q1 : (t.f0 == 29) = true := by simpa using ho
        have z1 : (t.f0 = 29) = True := eq_true ho
        obtain ⟨pa, rfl⟩ := RE_ptr hm.he
        obtain ⟨b1, hb1, hv⟩ := Option.bind_eq_some_iff.mp hv
        obtain ⟨hlt, ad, A2, c2, hA1, e0, e1, e2, hc2, hC2⟩ := kid_at hC hb1
        subst hA1
        rw [Nat.one_mul, add_pos _ 3 (by decide)] at e0 e1 e2
        have E0 := Aside0.mk (And.intro e0 (And.intro e1 e2))
        have XC := Aside0.mk (And.intro hc2 hC2)
        have HV := Aside0.mk (ahead_of hv)
        have d1 : ((1 : Int) < (t.f2.length : Int)) = True := eq_true (by omega)
        have d2 : (1 < t.f2.length) = True := eq_true (by omega)
        have d3 : decide ((1 : Int) < (t.f2.length : Int)) = true := decide_eq_true (by omega)
        clear hlt hc2 hC2 e0 e1 e2 hb1 hv hm hb hc hC hn n1 n29 ho
        go_wp2
        have M6 := Aside0.mk (mid_below HM.out (below_drew (below_alloc (Below.refl wr.heap.size wr) (.cells #[.int .i64 t.f0, .int .i64 t.f1, .slice (some ad) t.f2.length c] 29))))
        have B6 := Aside0.mk (blk_drew (blk_alloc HB.out (.cells #[.int .i64 t.f0, .int .i64 t.f1, .slice (some ad) t.f2.length c] 29)))
        have N6 := Aside0.mk (blk_drew (blk_new wr (.cells #[.int .i64 t.f0, .int .i64 t.f1, .slice (some ad) t.f2.length c] 29)))
        clear m0 m2 x0 x1 x2 fz0 fz1 fz2
        refine start_ (n := 9) (S := fun w' => w'.cell? ⟨w.heap.size, 2, none⟩ = some (.slice (some ad) t.f2.length c) ∧ w'.cell? ⟨ad.block, ad.off + 3, none⟩ = some (.int .i64 b1.f0) ∧ w'.cell? ⟨ad.block, ad.off + 3 + 1, none⟩ = some (.int .i64 b1.f1) ∧ w'.cell? ⟨ad.block, ad.off + 3 + 2, none⟩ = some (.slice A2 b1.f2.length c2)) (ds := [8]) #[false, false, false, false, false, false, false, false, false] (by kernel_rfl) rfl rfl ⟨(blk_cell B6.out 2).trans rfl, pw_cell_below M6.out.hi.2.1 E0.out.1, pw_cell_below M6.out.hi.2.1 E0.out.2.1, pw_cell_below M6.out.hi.2.1 E0.out.2.2⟩ (fun hHeld => ?_)
        generalize (World.drew (World.alloc wr _)) = w6 at M6 B6 N6 hHeld ⊢
        refine pure_ (i := 0) (N := some 56) (v := ?_) (a' := ?_) #[true, false, false, false, false, false, false, false, false] rfl rfl (by kernel_rfl) (fun _ _ _ h => h) (Or.inl ⟨by rfl, ?_⟩) ?_ ?_
        rotate_left
        · intro w'
          go_simp
          with_reducible rfl
        rotate_left
        · simp only [Act.put, List.setIfInBounds_toArray, List.set_cons_zero, List.set_cons_succ, i64_w, i32_w, u8_w, u32_w]
          rfl
        refine pure_ (i := 1) (N := some 57) (v := ?_) (a' := ?_) #[true, true, false, false, false, false, false, false, false] rfl rfl (by kernel_rfl) (fun _ _ _ h => h) (Or.inl ⟨by rfl, ?_⟩) ?_ ?_
        rotate_left
        · intro w'
          go_simp
          with_reducible rfl
        rotate_left
        · simp only [Act.put, List.setIfInBounds_toArray, List.set_cons_zero, List.set_cons_succ, i64_w, i32_w, u8_w, u32_w]
          rfl
        refine pure_ (i := 3) (N := some 59) (v := ?_) (a' := ?_) #[true, true, false, true, false, false, false, false, false] rfl rfl (by kernel_rfl) (fun _ _ _ h => h) (Or.inl ⟨by rfl, ?_⟩) ?_ ?_
        rotate_left
        · intro w'
          go_simp
          with_reducible rfl
        rotate_left
        · simp only [Act.put, List.setIfInBounds_toArray, List.set_cons_zero, List.set_cons_succ, i64_w, i32_w, u8_w, u32_w]
          rfl
        refine take_ (i := 4) (N := some 60) (v := ?_) (a' := ?_) #[true, true, false, true, true, false, false, false, false] rfl rfl (by kernel_rfl) (fun _ _ _ h => h) (Or.inl ⟨by rfl, ?_⟩) hHeld ?_ ?_
        rotate_left
        · rintro w' ⟨s0, s1, s2, s3⟩
          go_simp
          with_reducible rfl
        rotate_left
        · simp only [Act.put, List.setIfInBounds_toArray, List.set_cons_zero, List.set_cons_succ, i64_w, i32_w, u8_w, u32_w]
          rfl
        refine pure_ (i := 5) (N := some 61) (v := ?_) (a' := ?_) #[true, true, false, true, true, true, false, false, false] rfl rfl (by kernel_rfl) (fun _ _ _ h => h) (Or.inl ⟨by rfl, ?_⟩) ?_ ?_
        rotate_left
        · intro w'
          go_simp
          with_reducible rfl
        rotate_left
        · simp only [Act.put, List.setIfInBounds_toArray, List.set_cons_zero, List.set_cons_succ, i64_w, i32_w, u8_w, u32_w]
          rfl
        refine take_ (i := 6) (N := some 62) (v := ?_) (a' := ?_) #[true, true, false, true, true, true, true, false, false] rfl rfl (by kernel_rfl) (fun _ _ _ h => h) (Or.inl ⟨by rfl, ?_⟩) hHeld ?_ ?_
        rotate_left
        · rintro w' ⟨s0, s1, s2, s3⟩
          go_simp
          with_reducible rfl
        rotate_left
        · simp only [Act.put, List.setIfInBounds_toArray, List.set_cons_zero, List.set_cons_succ, i64_w, i32_w, u8_w, u32_w]
          rfl
        refine one_ (i := 2) (N := some 58) #[true, true, true, true, true, true, true, false, false] rfl rfl (by kernel_rfl) (by decide) (fun K hK => ?_)
        refine box_step (N := 58) (by rfl) rfl (cs := #[.pointer none, .pointer (some ⟨wr.heap.size, 0, none⟩), .pointer pa]) (t := 92) ?hr ?_
        (case hr => first | (go_simp; done) | (go_simp; rfl))
        intro g7 hg7 w7 hbox hb7
        have M7 := Aside0.mk (mid_below M6.out hb7)
        have B7 := Aside0.mk (blk_below B6.out hb7)
        have X7 := Aside0.mk hbox
        have G7 := Aside0.mk hg7
        have N7 := Aside0.mk (blk_below N6.out hb7)
        clear hbox hb7 hg7
        refine hK.out _ _ ⟨(blk_cell B7.out 2).trans rfl, pw_cell_below M7.out.hi.2.1 E0.out.1, pw_cell_below M7.out.hi.2.1 E0.out.2.1, pw_cell_below M7.out.hi.2.1 E0.out.2.2⟩ (fun hHeld => ?_)
        clear hK K
        refine norm_ (a' := ?_) ?_ ?_
        rotate_left
        · show Act.put _ (some 58) _ = _
          simp only [Act.put, List.setIfInBounds_toArray, List.set_cons_zero, List.set_cons_succ, i64_w, i32_w, u8_w, u32_w]
          rfl
        refine pure_ (i := 7) (N := some 1) (v := ?_) (a' := ?_) #[true, true, true, true, true, true, true, true, false] rfl rfl (by kernel_rfl) (fun _ _ _ h => h) (Or.inl ⟨by rfl, ?_⟩) ?_ ?_
        rotate_left
        · intro w'
          go_simp
          with_reducible rfl
        rotate_left
        · simp only [Act.put, List.setIfInBounds_toArray, List.set_cons_zero, List.set_cons_succ, i64_w, i32_w, u8_w, u32_w]
          rfl
        refine last_ (i := 8) (N := none) #[true, true, true, true, true, true, true, true, true] rfl rfl (by kernel_rfl) (by decide) (fun K hK => ?_)
        have x0 : w7.cell? ⟨w.heap.size, 0, none⟩ = some (.int .i64 t.f0) := (blk_cell B7.out 0).trans rfl
        have x1 : w7.cell? ⟨w.heap.size, 1, none⟩ = some (.int .i64 t.f1) := (blk_cell B7.out 1).trans rfl
        have x2 : w7.cell? ⟨w.heap.size, 2, none⟩ = some (.slice (some ad) t.f2.length c) := (blk_cell B7.out 2).trans rfl
        have fz0 := blk_frozen B7.out 0
        have fz1 := blk_frozen B7.out 1
        have fz2 := blk_frozen B7.out 2
        refine skip_ (w1 := ?_) (by rfl) rfl ?_ ?_
        rotate_left
        · go_simp
          rfl
        refine hK.out _ _ ?_
        clear hK K
        refine done_ (by kernel_rfl) ?_
        go_wp2
        go_roundg j
        case measure => exact Nat.lt_succ_self j
        case rel => exact ⟨loop_put (M7.out.with (e' := .loop t e) ⟨g7, wr.heap.size, _, c, .pointer pa, rfl, Or.inr (by rw [G7.out]; exact M6.out.hs), X7.out, Or.inr HM.out.hs, N7.out, HT.out.1, HT.out.2, M7.out.he⟩) HGM.out B7.out XC.out.1 XC.out.2 HV.out (Nat.le_of_succ_le JN.out)⟩
      rw [if_neg n29] at hv
      by_cases n28 : t.f0 = 28
      · have ho := n28
        rw [if_pos n28] at hv
        have q0 : (t.f0 == 1) = false := by rw [beq_eq_false_iff_ne]; exact n1
        have z0 : (t.f0 = 1) = False := eq_false n1
        have q1 : (t.f0 == 29) = false := by rw [beq_eq_false_iff_ne]; exact n29
        have z1 : (t.f0 = 29) = False := eq_false n29
        have q2 : (t.f0 == 28) = true := by simpa using ho
        have z2 : (t.f0 = 28) = True := eq_true ho
        obtain ⟨pa, rfl⟩ := RE_ptr hm.he
        obtain ⟨x, hx, hv⟩ := Option.bind_eq_some_iff.mp hv
        obtain ⟨⟨va, s1, e1⟩, ha, hv⟩ := Option.bind_eq_some_iff.mp hv
        obtain ⟨hlt0, ad, A1, c1, hA0, i0, i1, i2, hc1, hC1⟩ := kid_at hC hx
        subst hA0
        have C26 := Aside0.mk (fun w1 (h1 : Inv w0 w1 gm st F 0) (h2 : RE w0 w1 (Ok2 ok w.heap.size) e (.pointer pa)) => CJ.out h1 h2 (fun k hk => hk.gm HOK.out HGM.out) hc1 hC1 ha)
        rw [Nat.zero_mul, show ad.add 0 = ad by cases ad; simp [Addr.add]] at i0 i1 i2
        have D0 := Aside0.mk (And.intro i0 (And.intro i1 i2))
        have d4 : ((0 : Int) < (t.f2.length : Int)) = True := eq_true (by omega)
        have d5 : (0 < t.f2.length) = True := eq_true (by omega)
        have d6 : decide ((0 : Int) < (t.f2.length : Int)) = true := decide_eq_true (by omega)
        clear hlt0 hc1 hC1 i0 i1 i2 hx ha
        obtain ⟨b1, hb1, hv⟩ := Option.bind_eq_some_iff.mp hv
        obtain ⟨hlt, ad', A2, c2, hA1, e0, e1_, e2, hc2, hC2⟩ := kid_at hC hb1
        cases hA1
        rw [Nat.one_mul, add_pos _ 3 (by decide)] at e0 e1_ e2
        have E0 := Aside0.mk (And.intro e0 (And.intro e1_ e2))
        have XC := Aside0.mk (And.intro hc2 hC2)
        have HV := Aside0.mk (ahead_of hv)
        have d1 : ((1 : Int) < (t.f2.length : Int)) = True := eq_true (by omega)
        have d2 : (1 < t.f2.length) = True := eq_true (by omega)
        have d3 : decide ((1 : Int) < (t.f2.length : Int)) = true := decide_eq_true (by omega)
        clear hlt hc2 hC2 e0 e1_ e2 hb1 hv
        clear hm hb hc hC hn n1 n29 n28 ho
        go_wp2
        have M6 := Aside0.mk (mid_below HM.out (below_drew (Below.refl wr.heap.size wr)))
        have B6 := Aside0.mk (blk_drew HB.out)
        clear m0 m2 x0 x1 x2 fz0 fz1 fz2
        refine start_ (n := 16) (S := fun w' => w'.cell? ⟨w.heap.size, 2, none⟩ = some (.slice (some ad) t.f2.length c) ∧ w'.cell? ⟨ad.block, ad.off + 3, none⟩ = some (.int .i64 b1.f0) ∧ w'.cell? ⟨ad.block, ad.off + 3 + 1, none⟩ = some (.int .i64 b1.f1) ∧ w'.cell? ⟨ad.block, ad.off + 3 + 2, none⟩ = some (.slice A2 b1.f2.length c2) ∧ w'.cell? ad = some (.int .i64 x.f0) ∧ w'.cell? ⟨ad.block, ad.off + 1, none⟩ = some (.int .i64 x.f1) ∧ w'.cell? ⟨ad.block, ad.off + 2, none⟩ = some (.slice A1 x.f2.length c1)) (ds := [15]) #[false, false, false, false, false, false, false, false, false, false, false, false, false, false, false, false] (by kernel_rfl) rfl rfl ⟨(blk_cell B6.out 2).trans rfl, pw_cell_below M6.out.hi.2.1 E0.out.1, pw_cell_below M6.out.hi.2.1 E0.out.2.1, pw_cell_below M6.out.hi.2.1 E0.out.2.2, pw_cell_below M6.out.hi.2.1 D0.out.1, pw_cell_below M6.out.hi.2.1 D0.out.2.1, pw_cell_below M6.out.hi.2.1 D0.out.2.2⟩ (fun hHeld => ?_)
        generalize (World.drew wr) = w6 at M6 B6 hHeld ⊢
        refine pure_ (i := 0) (N := some 65) (v := ?_) (a' := ?_) #[true, false, false, false, false, false, false, false, false, false, false, false, false, false, false, false] rfl rfl (by kernel_rfl) (fun _ _ _ h => h) (Or.inl ⟨by rfl, ?_⟩) ?_ ?_
        rotate_left
        · intro w'
          go_simp
          with_reducible rfl
        rotate_left
        · simp only [Act.put, List.setIfInBounds_toArray, List.set_cons_zero, List.set_cons_succ, i64_w, i32_w, u8_w, u32_w]
          rfl
        refine pure_ (i := 1) (N := some 66) (v := ?_) (a' := ?_) #[true, true, false, false, false, false, false, false, false, false, false, false, false, false, false, false] rfl rfl (by kernel_rfl) (fun _ _ _ h => h) (Or.inl ⟨by rfl, ?_⟩) ?_ ?_
        rotate_left
        · intro w'
          go_simp
          with_reducible rfl
        rotate_left
        · simp only [Act.put, List.setIfInBounds_toArray, List.set_cons_zero, List.set_cons_succ, i64_w, i32_w, u8_w, u32_w]
          rfl
        refine pure_ (i := 2) (N := some 67) (v := ?_) (a' := ?_) #[true, true, true, false, false, false, false, false, false, false, false, false, false, false, false, false] rfl rfl (by kernel_rfl) (fun _ _ _ h => h) (Or.inl ⟨by rfl, ?_⟩) ?_ ?_
        rotate_left
        · intro w'
          go_simp
          with_reducible rfl
        rotate_left
        · simp only [Act.put, List.setIfInBounds_toArray, List.set_cons_zero, List.set_cons_succ, i64_w, i32_w, u8_w, u32_w]
          rfl
        refine take_ (i := 3) (N := some 68) (v := ?_) (a' := ?_) #[true, true, true, true, false, false, false, false, false, false, false, false, false, false, false, false] rfl rfl (by kernel_rfl) (fun _ _ _ h => h) (Or.inl ⟨by rfl, ?_⟩) hHeld ?_ ?_
        rotate_left
        · rintro w' ⟨s0, s1, s2, s3, s4, s5, s6⟩
          go_simp
          with_reducible rfl
        rotate_left
        · simp only [Act.put, List.setIfInBounds_toArray, List.set_cons_zero, List.set_cons_succ, i64_w, i32_w, u8_w, u32_w]
          rfl
        refine pure_ (i := 4) (N := some 69) (v := ?_) (a' := ?_) #[true, true, true, true, true, false, false, false, false, false, false, false, false, false, false, false] rfl rfl (by kernel_rfl) (fun _ _ _ h => h) (Or.inl ⟨by rfl, ?_⟩) ?_ ?_
        rotate_left
        · intro w'
          go_simp
          with_reducible rfl
        rotate_left
        · simp only [Act.put, List.setIfInBounds_toArray, List.set_cons_zero, List.set_cons_succ, i64_w, i32_w, u8_w, u32_w]
          rfl
        refine take_ (i := 5) (N := some 70) (v := ?_) (a' := ?_) #[true, true, true, true, true, true, false, false, false, false, false, false, false, false, false, false] rfl rfl (by kernel_rfl) (fun _ _ _ h => h) (Or.inl ⟨by rfl, ?_⟩) hHeld ?_ ?_
        rotate_left
        · rintro w' ⟨s0, s1, s2, s3, s4, s5, s6⟩
          go_simp
          with_reducible rfl
        rotate_left
        · simp only [Act.put, List.setIfInBounds_toArray, List.set_cons_zero, List.set_cons_succ, i64_w, i32_w, u8_w, u32_w]
          rfl
        refine pure_ (i := 7) (N := some 72) (v := ?_) (a' := ?_) #[true, true, true, true, true, true, false, true, false, false, false, false, false, false, false, false] rfl rfl (by kernel_rfl) (fun _ _ _ h => h) (Or.inl ⟨by rfl, ?_⟩) ?_ ?_
        rotate_left
        · intro w'
          go_simp
          with_reducible rfl
        rotate_left
        · simp only [Act.put, List.setIfInBounds_toArray, List.set_cons_zero, List.set_cons_succ, i64_w, i32_w, u8_w, u32_w]
          rfl
        refine pure_ (i := 10) (N := some 75) (v := ?_) (a' := ?_) #[true, true, true, true, true, true, false, true, false, false, true, false, false, false, false, false] rfl rfl (by kernel_rfl) (fun _ _ _ h => h) (Or.inl ⟨by rfl, ?_⟩) ?_ ?_
        rotate_left
        · intro w'
          go_simp
          with_reducible rfl
        rotate_left
        · simp only [Act.put, List.setIfInBounds_toArray, List.set_cons_zero, List.set_cons_succ, i64_w, i32_w, u8_w, u32_w]
          rfl
        refine take_ (i := 11) (N := some 76) (v := ?_) (a' := ?_) #[true, true, true, true, true, true, false, true, false, false, true, true, false, false, false, false] rfl rfl (by kernel_rfl) (fun _ _ _ h => h) (Or.inl ⟨by rfl, ?_⟩) hHeld ?_ ?_
        rotate_left
        · rintro w' ⟨s0, s1, s2, s3, s4, s5, s6⟩
          go_simp
          with_reducible rfl
        rotate_left
        · simp only [Act.put, List.setIfInBounds_toArray, List.set_cons_zero, List.set_cons_succ, i64_w, i32_w, u8_w, u32_w]
          rfl
        refine pure_ (i := 12) (N := some 77) (v := ?_) (a' := ?_) #[true, true, true, true, true, true, false, true, false, false, true, true, true, false, false, false] rfl rfl (by kernel_rfl) (fun _ _ _ h => h) (Or.inl ⟨by rfl, ?_⟩) ?_ ?_
        rotate_left
        · intro w'
          go_simp
          with_reducible rfl
        rotate_left
        · simp only [Act.put, List.setIfInBounds_toArray, List.set_cons_zero, List.set_cons_succ, i64_w, i32_w, u8_w, u32_w]
          rfl
        refine take_ (i := 13) (N := some 78) (v := ?_) (a' := ?_) #[true, true, true, true, true, true, false, true, false, false, true, true, true, true, false, false] rfl rfl (by kernel_rfl) (fun _ _ _ h => h) (Or.inl ⟨by rfl, ?_⟩) hHeld ?_ ?_
        rotate_left
        · rintro w' ⟨s0, s1, s2, s3, s4, s5, s6⟩
          go_simp
          with_reducible rfl
        rotate_left
        · simp only [Act.put, List.setIfInBounds_toArray, List.set_cons_zero, List.set_cons_succ, i64_w, i32_w, u8_w, u32_w]
          rfl
        refine one_ (i := 6) (N := some 71) #[true, true, true, true, true, true, true, true, false, false, true, true, true, true, false, false] rfl rfl (by kernel_rfl) (by decide) (fun K hK => ?_)
        refine goes_ Tryd.func29 (by kernel_rfl) rfl #[.pointer (some ⟨gm, 0, none⟩), .pointer pa, .agg #[.int .i64 x.f0, .int .i64 x.f1, .slice A1 x.f2.length c1]] (by rfl) rfl rfl (by (try simp only [List.map_toArray, List.map_cons, List.map_nil]); rfl) ?_
        with_reducible refine (C26.out _ M6.out.hi M6.out.he).mono ?_
        rintro en w7 ⟨pv, rfl, hv_, hi_, hk_⟩
        refine ⟨_, rfl, ?_⟩
        have M7 := Aside0.mk (mid_keep M6.out HOK.out HGM.out hk_ hi_)
        have B7 := Aside0.mk (hk_.blk B6.out (Nat.ne_of_gt HGM.out) (by simp))
        have V7 := Aside0.mk (RV_at hv_ M6.out.hs)
        obtain ⟨gv, _, _, _, _, _, rfl, -, -⟩ := RV_ptr V7.out
        clear hv_ hi_ hk_
        refine hK.out _ _ ⟨(blk_cell B7.out 2).trans rfl, pw_cell_below M7.out.hi.2.1 E0.out.1, pw_cell_below M7.out.hi.2.1 E0.out.2.1, pw_cell_below M7.out.hi.2.1 E0.out.2.2, pw_cell_below M7.out.hi.2.1 D0.out.1, pw_cell_below M7.out.hi.2.1 D0.out.2.1, pw_cell_below M7.out.hi.2.1 D0.out.2.2⟩ (fun hHeld => ?_)
        clear hK K
        refine norm_ (a' := ?_) ?_ ?_
        rotate_left
        · show Act.put _ (some 71) _ = _
          simp only [Act.put, List.setIfInBounds_toArray, List.set_cons_zero, List.set_cons_succ, i64_w, i32_w, u8_w, u32_w]
          rfl
        refine pure_ (i := 8) (N := some 73) (v := ?_) (a' := ?_) #[true, true, true, true, true, true, true, true, true, false, true, true, true, true, false, false] rfl rfl (by kernel_rfl) (fun _ _ _ h => h) (Or.inl ⟨by rfl, ?_⟩) ?_ ?_
        rotate_left
        · intro w'
          go_simp
          with_reducible rfl
        rotate_left
        · simp only [Act.put, List.setIfInBounds_toArray, List.set_cons_zero, List.set_cons_succ, i64_w, i32_w, u8_w, u32_w]
          rfl
        refine one_ (i := 9) (N := some 74) #[true, true, true, true, true, true, true, true, true, true, true, true, true, true, false, false] rfl rfl (by kernel_rfl) (by decide) (fun K hK => ?_)
        refine box_step (N := 74) (by rfl) rfl (cs := #[.pointer (some ⟨gv, 0, none⟩), .pointer none, .pointer pa]) (t := 92) ?hr ?_
        (case hr => first | (go_simp; done) | (go_simp; rfl))
        intro g8 hg8 w8 hbox hb7
        have M8 := Aside0.mk (mid_below M7.out hb7)
        have B8 := Aside0.mk (blk_below B7.out hb7)
        have X8 := Aside0.mk hbox
        have G8 := Aside0.mk hg8
        have V8 := Aside0.mk (RV_below V7.out hb7 (fun _ h => h))
        clear hbox hb7 hg8
        refine hK.out _ _ ⟨(blk_cell B8.out 2).trans rfl, pw_cell_below M8.out.hi.2.1 E0.out.1, pw_cell_below M8.out.hi.2.1 E0.out.2.1, pw_cell_below M8.out.hi.2.1 E0.out.2.2, pw_cell_below M8.out.hi.2.1 D0.out.1, pw_cell_below M8.out.hi.2.1 D0.out.2.1, pw_cell_below M8.out.hi.2.1 D0.out.2.2⟩ (fun hHeld => ?_)
        clear hK K
        refine norm_ (a' := ?_) ?_ ?_
        rotate_left
        · show Act.put _ (some 74) _ = _
          simp only [Act.put, List.setIfInBounds_toArray, List.set_cons_zero, List.set_cons_succ, i64_w, i32_w, u8_w, u32_w]
          rfl
        refine pure_ (i := 14) (N := some 1) (v := ?_) (a' := ?_) #[true, true, true, true, true, true, true, true, true, true, true, true, true, true, true, false] rfl rfl (by kernel_rfl) (fun _ _ _ h => h) (Or.inl ⟨by rfl, ?_⟩) ?_ ?_
        rotate_left
        · intro w'
          go_simp
          with_reducible rfl
        rotate_left
        · simp only [Act.put, List.setIfInBounds_toArray, List.set_cons_zero, List.set_cons_succ, i64_w, i32_w, u8_w, u32_w]
          rfl
        refine last_ (i := 15) (N := none) #[true, true, true, true, true, true, true, true, true, true, true, true, true, true, true, true] rfl rfl (by kernel_rfl) (by decide) (fun K hK => ?_)
        have x0 : w8.cell? ⟨w.heap.size, 0, none⟩ = some (.int .i64 t.f0) := (blk_cell B8.out 0).trans rfl
        have x1 : w8.cell? ⟨w.heap.size, 1, none⟩ = some (.int .i64 t.f1) := (blk_cell B8.out 1).trans rfl
        have x2 : w8.cell? ⟨w.heap.size, 2, none⟩ = some (.slice (some ad) t.f2.length c) := (blk_cell B8.out 2).trans rfl
        have fz0 := blk_frozen B8.out 0
        have fz1 := blk_frozen B8.out 1
        have fz2 := blk_frozen B8.out 2
        refine skip_ (w1 := ?_) (by rfl) rfl ?_ ?_
        rotate_left
        · go_simp
          rfl
        refine hK.out _ _ ?_
        clear hK K
        refine done_ (by kernel_rfl) ?_
        go_wp2
        go_roundg j
        case measure => exact Nat.lt_succ_self j
        case rel => exact ⟨loop_put (M8.out.with (e' := .val va e) ⟨g8, .pointer (some ⟨gv, 0, none⟩), .pointer pa, rfl, Or.inr (by rw [G8.out]; exact M7.out.hs), X8.out, V8.out, M8.out.he⟩) HGM.out B8.out XC.out.1 XC.out.2 HV.out (Nat.le_of_succ_le JN.out)⟩
      rw [if_neg n28] at hv
      by_cases n27 : t.f0 = 27
      · have ho := n27
        rw [if_pos n27] at hv
        have q0 : (t.f0 == 1) = false := by rw [beq_eq_false_iff_ne]; exact n1
        have z0 : (t.f0 = 1) = False := eq_false n1
        have q1 : (t.f0 == 29) = false := by rw [beq_eq_false_iff_ne]; exact n29
        have z1 : (t.f0 = 29) = False := eq_false n29
        have q2 : (t.f0 == 28) = false := by rw [beq_eq_false_iff_ne]; exact n28
        have z2 : (t.f0 = 28) = False := eq_false n28
        have q3 : (t.f0 == 27) = true := by simpa using ho
        have z3 : (t.f0 = 27) = True := eq_true ho
        obtain ⟨y, hy, hv⟩ := Option.bind_eq_some_iff.mp hv
        obtain ⟨hlty, ad, A3, c3, hA3, k0, k1, k2, hc3, hC3⟩ := kid_at hC hy
        subst hA3
        rw [show 2 * 3 = 6 from rfl, add_pos _ 6 (by decide)] at k0 k1 k2
        replace k0 := pw_cell_below hm.hi.2.1 k0
        replace k1 := pw_cell_below hm.hi.2.1 k1
        replace k2 := pw_cell_below hm.hi.2.1 k2
        have YC := Aside0.mk (And.intro hc3 hC3)
        have d7 : ((2 : Int) < (t.f2.length : Int)) = True := eq_true (by omega)
        have d8 : (2 < t.f2.length) = True := eq_true (by omega)
        have d9 : decide ((2 : Int) < (t.f2.length : Int)) = true := decide_eq_true (by omega)
        clear hlty hc3 hC3 hy
        obtain ⟨pa, rfl⟩ := RE_ptr hm.he
        obtain ⟨x, hx, hv⟩ := Option.bind_eq_some_iff.mp hv
        obtain ⟨⟨va, s1, e1⟩, ha, hv⟩ := Option.bind_eq_some_iff.mp hv
        obtain ⟨hlt0, ad', A1, c1, hA0, i0, i1, i2, hc1, hC1⟩ := kid_at hC hx
        cases hA0
        have C26 := Aside0.mk (fun w1 (h1 : Inv w0 w1 gm st F 0) (h2 : RE w0 w1 (Ok2 ok w.heap.size) e (.pointer pa)) => CJ.out h1 h2 (fun k hk => hk.gm HOK.out HGM.out) hc1 hC1 ha)
        rw [Nat.zero_mul, show ad.add 0 = ad by cases ad; simp [Addr.add]] at i0 i1 i2
        have d4 : ((0 : Int) < (t.f2.length : Int)) = True := eq_true (by omega)
        have d5 : (0 < t.f2.length) = True := eq_true (by omega)
        have d6 : decide ((0 : Int) < (t.f2.length : Int)) = true := decide_eq_true (by omega)
        replace i0 := fun o => pw_cell_below (below_alloc (Below.refl wr.heap.size wr) o) (pw_cell_below hm.hi.2.1 i0)
        replace i1 := fun o => pw_cell_below (below_alloc (Below.refl wr.heap.size wr) o) (pw_cell_below hm.hi.2.1 i1)
        replace i2 := fun o => pw_cell_below (below_alloc (Below.refl wr.heap.size wr) o) (pw_cell_below hm.hi.2.1 i2)
        have j2 := fun o => pw_cell_below (below_alloc (Below.refl wr.heap.size wr) o) x2
        clear hlt0 hc1 hC1 hx ha
        by_cases hnz : va.num ≠ 0
        · rw [if_pos hnz] at hv
          obtain ⟨b1, hb1, hv⟩ := Option.bind_eq_some_iff.mp hv
          obtain ⟨hlt, ad', A2, c2, hA1, e0, e1_, e2, hc2, hC2⟩ := kid_at hC hb1
          cases hA1
          rw [Nat.one_mul, add_pos _ 3 (by decide)] at e0 e1_ e2
          have E0 := Aside0.mk (And.intro e0 (And.intro e1_ e2))
          have XC := Aside0.mk (And.intro hc2 hC2)
          have HV := Aside0.mk (ahead_of hv)
          have d1 : ((1 : Int) < (t.f2.length : Int)) = True := eq_true (by omega)
          have d2 : (1 < t.f2.length) = True := eq_true (by omega)
          have d3 : decide ((1 : Int) < (t.f2.length : Int)) = true := decide_eq_true (by omega)
          clear hlt hc2 hC2 e0 e1_ e2 hb1 hv
          have z91 : (va.num = 0) = False := eq_false hnz
          have z92 : (va.num == 0) = false := by simpa using hnz
          have z93 : (va.num != 0) = true := by simpa using hnz
          clear hnz hm hb hc hC hn n1 n29 n28 n27 ho
          go_wp2_with (first | ((with_reducible refine gate_dst (N := 100) rfl ?_); refine gen_world (fun w8 => Mid w0 w ok gm F s1 e1 e (.pointer pa) w8 ∧ w8.heap[w.heap.size]? = some (.cells #[.int .i64 t.f0, .int .i64 t.f1, .slice (some ad) t.f2.length c] 29 (0, 0)) ∧ w8.heap[wr.heap.size]? = some (.cells #[.int .i64 b1.f0, .int .i64 b1.f1, .slice A2 b1.f2.length c2] 29 (0, 0))) ⟨(mid_far (mid_far (mid_far ⟨M7.out, EX7.out⟩ (Nat.lt_trans HGM.out HM.out.hs) (Nat.le_of_lt HM.out.hs) 0 _) (Nat.lt_trans HGM.out HM.out.hs) (Nat.le_of_lt HM.out.hs) 1 _) (Nat.lt_trans HGM.out HM.out.hs) (Nat.le_of_lt HM.out.hs) 2 _).1, blk_far (blk_far (blk_far B7.out (Nat.ne_of_lt HM.out.hs) _) (Nat.ne_of_lt HM.out.hs) _) (Nat.ne_of_lt HM.out.hs) _, put3 N7.out⟩ ?_; rintro w8 ⟨hm8, hb8, hn8⟩; have M8 := Aside0.mk hm8; have B8 := Aside0.mk hb8; have N8 := Aside0.mk hn8; clear hm8 hb8 hn8 x0 x1 x2 n0_ n1_ n2_ fz0 fz1 fz2 gz0 gz1 gz2; have n0_ : w8.cell? ⟨wr.heap.size, 0, none⟩ = some (.int .i64 b1.f0) := (blk_cell N8.out 0).trans rfl; have n1_ : w8.cell? ⟨wr.heap.size, 1, none⟩ = some (.int .i64 b1.f1) := (blk_cell N8.out 1).trans rfl; have n2_ : w8.cell? ⟨wr.heap.size, 2, none⟩ = some (.slice A2 b1.f2.length c2) := (blk_cell N8.out 2).trans rfl; have x0 : w8.cell? ⟨w.heap.size, 0, none⟩ = some (.int .i64 t.f0) := (blk_cell B8.out 0).trans rfl; have x1 : w8.cell? ⟨w.heap.size, 1, none⟩ = some (.int .i64 t.f1) := (blk_cell B8.out 1).trans rfl; have x2 : w8.cell? ⟨w.heap.size, 2, none⟩ = some (.slice (some ad) t.f2.length c) := (blk_cell B8.out 2).trans rfl; have fz0 := blk_frozen B8.out 0; have fz1 := blk_frozen B8.out 1; have fz2 := blk_frozen B8.out 2) | (go_at_call 29; (with_reducible refine (C26.out _ (HM.out.hi.below (below_alloc (Below.refl _ _) _)) (RE_below HM.out.he (below_alloc (Below.refl _ _) _) (fun _ h => h))).mono ?_); rintro en w7 ⟨pv, rfl, hv_, hi_, hk_⟩; have M7 := Aside0.mk (mid_keep (mid_below HM.out (below_alloc (Below.refl _ _) (.cells #[.int .i64 y.f0, .int .i64 y.f1, .slice A3 y.f2.length c3] 29))) HOK.out HGM.out hk_ hi_); have B7 := Aside0.mk (hk_.blk (blk_alloc HB.out (.cells #[.int .i64 y.f0, .int .i64 y.f1, .slice A3 y.f2.length c3] 29)) (Nat.ne_of_gt HGM.out) (by simp)); have N7 := Aside0.mk (hk_.blk (blk_new wr (.cells #[.int .i64 y.f0, .int .i64 y.f1, .slice A3 y.f2.length c3] 29)) (Nat.ne_of_gt (Nat.lt_trans HGM.out HM.out.hs)) (by simp)); have EX7 := Aside0.mk (RE_keep (RE_below (RE_lt _ _ HM.out.he) (below_alloc (Below.refl _ _) (.cells #[.int .i64 y.f0, .int .i64 y.f1, .slice A3 y.f2.length c3] 29)) (fun _ h => h)) hk_ (fun k hk => hk.1.gm HOK.out HGM.out) (fun _ h => h)); obtain ⟨gv, v1, v2, v3, v4, v5, rfl, okv, hv0⟩ := RV_ptr hv_; have b1_ : w7.cell? ⟨gv, 1, none⟩ = some (.int .i64 va.num) := (blk_cell hv0 1).trans rfl; have n0_ : w7.cell? ⟨wr.heap.size, 0, none⟩ = some (.int .i64 y.f0) := (blk_cell N7.out 0).trans rfl; have n1_ : w7.cell? ⟨wr.heap.size, 1, none⟩ = some (.int .i64 y.f1) := (blk_cell N7.out 1).trans rfl; have n2_ : w7.cell? ⟨wr.heap.size, 2, none⟩ = some (.slice A3 y.f2.length c3) := (blk_cell N7.out 2).trans rfl; clear x0 x1 x2 fz0 fz1 fz2; have x0 : w7.cell? ⟨w.heap.size, 0, none⟩ = some (.int .i64 t.f0) := (blk_cell B7.out 0).trans rfl; have x1 : w7.cell? ⟨w.heap.size, 1, none⟩ = some (.int .i64 t.f1) := (blk_cell B7.out 1).trans rfl; have x2 : w7.cell? ⟨w.heap.size, 2, none⟩ = some (.slice (some ad) t.f2.length c) := (blk_cell B7.out 2).trans rfl; have fz0 := blk_frozen B7.out 0; have fz1 := blk_frozen B7.out 1; have fz2 := blk_frozen B7.out 2; have gz0 := blk_frozen N7.out 0; have gz1 := blk_frozen N7.out 1; have gz2 := blk_frozen N7.out 2; have f0_ := pw_cell_below M7.out.hi.2.1 E0.out.1; have f1_ := pw_cell_below M7.out.hi.2.1 E0.out.2.1; have f2_ := pw_cell_below M7.out.hi.2.1 E0.out.2.2; clear hv_ hi_ hk_ hv0 okv))
          go_roundg j
          case measure => exact Nat.lt_succ_self j
          case rel => exact ⟨loop_put M8.out HGM.out B8.out XC.out.1 XC.out.2 HV.out (Nat.le_of_succ_le JN.out)⟩
        · rw [if_neg hnz] at hv
          have HV := Aside0.mk (ahead_of hv)
          have hnz : va.num = 0 := by simpa using hnz
          have z91 : (va.num = 0) = True := eq_true hnz
          have z92 : (va.num == 0) = true := by simpa using hnz
          have z93 : (va.num != 0) = false := by simpa using hnz
          clear hv hnz hm hb hc hC hn n1 n29 n28 n27 ho
          go_wp2_with (first | (go_at_call 29; (with_reducible refine (C26.out _ (HM.out.hi.below (below_alloc (Below.refl _ _) _)) (RE_below HM.out.he (below_alloc (Below.refl _ _) _) (fun _ h => h))).mono ?_); rintro en w7 ⟨pv, rfl, hv_, hi_, hk_⟩; have M7 := Aside0.mk (mid_keep (mid_below HM.out (below_alloc (Below.refl _ _) (.cells #[.int .i64 y.f0, .int .i64 y.f1, .slice A3 y.f2.length c3] 29))) HOK.out HGM.out hk_ hi_); have B7 := Aside0.mk (hk_.blk (blk_alloc HB.out (.cells #[.int .i64 y.f0, .int .i64 y.f1, .slice A3 y.f2.length c3] 29)) (Nat.ne_of_gt HGM.out) (by simp)); have N7 := Aside0.mk (hk_.blk (blk_new wr (.cells #[.int .i64 y.f0, .int .i64 y.f1, .slice A3 y.f2.length c3] 29)) (Nat.ne_of_gt (Nat.lt_trans HGM.out HM.out.hs)) (by simp)); have EX7 := Aside0.mk (RE_keep (RE_below (RE_lt _ _ HM.out.he) (below_alloc (Below.refl _ _) (.cells #[.int .i64 y.f0, .int .i64 y.f1, .slice A3 y.f2.length c3] 29)) (fun _ h => h)) hk_ (fun k hk => hk.1.gm HOK.out HGM.out) (fun _ h => h)); obtain ⟨gv, v1, v2, v3, v4, v5, rfl, okv, hv0⟩ := RV_ptr hv_; have b1_ : w7.cell? ⟨gv, 1, none⟩ = some (.int .i64 va.num) := (blk_cell hv0 1).trans rfl; have n0_ : w7.cell? ⟨wr.heap.size, 0, none⟩ = some (.int .i64 y.f0) := (blk_cell N7.out 0).trans rfl; have n1_ : w7.cell? ⟨wr.heap.size, 1, none⟩ = some (.int .i64 y.f1) := (blk_cell N7.out 1).trans rfl; have n2_ : w7.cell? ⟨wr.heap.size, 2, none⟩ = some (.slice A3 y.f2.length c3) := (blk_cell N7.out 2).trans rfl; clear x0 x1 x2 fz0 fz1 fz2; have x0 : w7.cell? ⟨w.heap.size, 0, none⟩ = some (.int .i64 t.f0) := (blk_cell B7.out 0).trans rfl; have x1 : w7.cell? ⟨w.heap.size, 1, none⟩ = some (.int .i64 t.f1) := (blk_cell B7.out 1).trans rfl; have x2 : w7.cell? ⟨w.heap.size, 2, none⟩ = some (.slice (some ad) t.f2.length c) := (blk_cell B7.out 2).trans rfl; have fz0 := blk_frozen B7.out 0; have fz1 := blk_frozen B7.out 1; have fz2 := blk_frozen B7.out 2; have gz0 := blk_frozen N7.out 0; have gz1 := blk_frozen N7.out 1; have gz2 := blk_frozen N7.out 2; clear hv_ hi_ hk_ hv0 okv))
          go_roundg j
          case measure => exact Nat.lt_succ_self j
          case rel => exact ⟨loop_put M7.out HGM.out B7.out YC.out.1 YC.out.2 HV.out (Nat.le_of_succ_le JN.out)⟩
      rw [if_neg n27] at hv
      by_cases n21 : t.f0 = 21
      · have ho := n21
        rw [if_pos n21] at hv
        have q0 : (t.f0 == 1) = false := by rw [beq_eq_false_iff_ne]; exact n1
        have z0 : (t.f0 = 1) = False := eq_false n1
        have q1 : (t.f0 == 29) = false := by rw [beq_eq_false_iff_ne]; exact n29
        have z1 : (t.f0 = 29) = False := eq_false n29
        have q2 : (t.f0 == 28) = false := by rw [beq_eq_false_iff_ne]; exact n28
        have z2 : (t.f0 = 28) = False := eq_false n28
        have q3 : (t.f0 == 27) = false := by rw [beq_eq_false_iff_ne]; exact n27
        have z3 : (t.f0 = 27) = False := eq_false n27
        have q4 : (t.f0 == 21) = true := by simpa using ho
        have z4 : (t.f0 = 21) = True := eq_true ho
        obtain ⟨⟨va, ob, s1, e1⟩, ht, hv⟩ := Option.bind_eq_some_iff.mp hv
        have C43 := Aside0.mk (two43 (@Aside0.out _ CJ) hm.hi hm.he (fun k hk => hk.gm HOK.out HGM.out) hc hC ht)
        by_cases hz : e1 ≠ 0
        · obtain rfl : r = (.int 0, s1, e1) := by
            cases ob with
            | none => exact (Option.some.inj hv).symm
            | some x =>
              dsimp only at hv
              rw [if_pos hz] at hv
              exact (Option.some.inj hv).symm
          have HZ := Aside0.mk hz
          clear hv hm hb hc hC hn n1 n29 n28 n27 n21 ho ht hz
          go_wp2_with (first | (go_at_call 49; (with_reducible refine C43.out.mono ?_); rintro en w2 ⟨pa_, pb_, rfl, hva, hvb, hi_, hk_⟩; have M2 := Aside0.mk (mid_keep HM.out HOK.out HGM.out hk_ hi_); have B2 := Aside0.mk (hk_.blk HB.out (Nat.ne_of_gt HGM.out) (by simp)); have VA2 := Aside0.mk (RV_at hva HM.out.hs); obtain ⟨ga, v1, v2, v3, v4, v5, rfl, oka, ha0⟩ := RV_ptr VA2.out; have b0_ : w2.cell? ⟨ga, 0, none⟩ = some (.int .i64 va.kind) := (blk_cell ha0 0).trans rfl; clear hva hvb ha0 oka; clear hi_ hk_) | (go_at_call 47; (with_reducible refine (must_err M2.out.hi _ HZ.out).mono ?_); rintro en w3 ⟨rfl, hi_, hk_⟩; have M3 := Aside0.mk (mid_keep M2.out HOK.out HGM.out hk_ hi_); have B3 := Aside0.mk (hk_.blk B2.out (Nat.ne_of_gt HGM.out) (by simp)); clear hi_ hk_))
          go_roundg j
          case measure => exact Nat.lt_succ_self j
          case rel => exact ⟨Nat.le_of_succ_le JN.out, _, _, _, _, _, _, M3.out, B3.out, HT.out.1, HT.out.2, Or.inl ⟨HZ.out, rfl⟩⟩
        · have hz : e1 = 0 := by simpa using hz
          subst hz
          cases ob with
          | none => exact absurd rfl (two_none ht)
          | some x =>
            dsimp only at hv
            rw [if_neg (by simp)] at hv
            cases va with
            | int n =>
              obtain rfl : r = (.int 0, s1, 1) := (Option.some.inj hv).symm
              clear hv hm hb hc hC hn n1 n29 n28 n27 n21 ho ht
              go_wp2_with (first | (go_at_call 49; (with_reducible refine C43.out.mono ?_); rintro en w2 ⟨pa_, pb_, rfl, hva, hvb, hi_, hk_⟩; have M2 := Aside0.mk (mid_keep HM.out HOK.out HGM.out hk_ hi_); have B2 := Aside0.mk (hk_.blk HB.out (Nat.ne_of_gt HGM.out) (by simp)); have VA2 := Aside0.mk (RV_at hva HM.out.hs); obtain ⟨ga, v1, v2, v3, v4, v5, rfl, oka, ha0⟩ := RV_ptr VA2.out; have b0_ : w2.cell? ⟨ga, 0, none⟩ = some (.int .i64 1) := (blk_cell ha0 0).trans rfl; clear hva hvb ha0 oka; clear hi_ hk_) | (go_at_call 47; (with_reducible refine (must_no M2.out.hi).mono ?_); rintro en w3 ⟨rfl, hi_, hk_⟩; have M3 := Aside0.mk (mid_keep M2.out HOK.out HGM.out hk_ hi_); have B3 := Aside0.mk (hk_.blk B2.out (Nat.ne_of_gt HGM.out) (by simp)); clear hi_ hk_))
              go_roundg j
              case measure => exact Nat.lt_succ_self j
              case rel => exact ⟨Nat.le_of_succ_le JN.out, _, _, _, _, _, _, M3.out, B3.out, HT.out.1, HT.out.2, Or.inl ⟨by decide, rfl⟩⟩
            | pair a b =>
              obtain rfl : r = (.int 0, s1, 1) := (Option.some.inj hv).symm
              clear hv hm hb hc hC hn n1 n29 n28 n27 n21 ho ht
              go_wp2_with (first | (go_at_call 49; (with_reducible refine C43.out.mono ?_); rintro en w2 ⟨pa_, pb_, rfl, hva, hvb, hi_, hk_⟩; have M2 := Aside0.mk (mid_keep HM.out HOK.out HGM.out hk_ hi_); have B2 := Aside0.mk (hk_.blk HB.out (Nat.ne_of_gt HGM.out) (by simp)); have VA2 := Aside0.mk (RV_at hva HM.out.hs); obtain ⟨ga, v1, v2, v3, v4, v5, rfl, oka, ha0⟩ := RV_ptr VA2.out; have b0_ : w2.cell? ⟨ga, 0, none⟩ = some (.int .i64 2) := (blk_cell ha0 0).trans rfl; clear hva hvb ha0 oka; clear hi_ hk_) | (go_at_call 47; (with_reducible refine (must_no M2.out.hi).mono ?_); rintro en w3 ⟨rfl, hi_, hk_⟩; have M3 := Aside0.mk (mid_keep M2.out HOK.out HGM.out hk_ hi_); have B3 := Aside0.mk (hk_.blk B2.out (Nat.ne_of_gt HGM.out) (by simp)); clear hi_ hk_))
              go_roundg j
              case measure => exact Nat.lt_succ_self j
              case rel => exact ⟨Nat.le_of_succ_le JN.out, _, _, _, _, _, _, M3.out, B3.out, HT.out.1, HT.out.2, Or.inl ⟨by decide, rfl⟩⟩
            | fn b up =>
              replace hv : stepped F s1 (ev F j (.val x up) b (s1 + 1) 0) = some r := hv
              unfold stepped at hv
              by_cases hst : F ≤ s1
              · obtain rfl : r = (.int 0, s1, 17) := by
                  rw [if_pos hst] at hv
                  exact (Option.some.inj hv).symm
                have HST := Aside0.mk hst
                clear hv hm hb hc hC hn n1 n29 n28 n27 n21 ho ht hst
                go_wp2_with (first | (go_at_call 49; (with_reducible refine C43.out.mono ?_); rintro en w2 ⟨pa_, pb_, rfl, hva, hvb, hi_, hk_⟩; have M2 := Aside0.mk (mid_keep HM.out HOK.out HGM.out hk_ hi_); have B2 := Aside0.mk (hk_.blk HB.out (Nat.ne_of_gt HGM.out) (by simp)); have VA2 := Aside0.mk (RV_at hva HM.out.hs); obtain ⟨gf, Af, cf, pef, rfl, okf, hf0, hcf, hCf, huf⟩ := VA2.out; obtain ⟨pef, rfl⟩ := RE_ptr huf; have VX2 := Aside0.mk (RV_at (v := x) hvb HM.out.hs); obtain ⟨gx, x1_, x2_, x3_, x4_, x5_, rfl, -, -⟩ := RV_ptr VX2.out; have HF2 := Aside0.mk hf0; have FC := Aside0.mk (And.intro hcf hCf); have UP2 := Aside0.mk huf; have FN := Aside0.mk (okf.gm HOK.out HGM.out); have b0_ : w2.cell? ⟨gf, 0, none⟩ = some (.int .i64 3) := (blk_cell hf0 0).trans rfl; clear hva hvb hf0 huf okf hcf hCf; clear hi_ hk_) | (go_at_call 47; (with_reducible refine (must_ok M2.out.hi).mono ?_); rintro en w3 ⟨rfl, hi_, hk_⟩; have M3 := Aside0.mk (mid_keep M2.out HOK.out HGM.out hk_ hi_); have B3 := Aside0.mk (hk_.blk B2.out (Nat.ne_of_gt HGM.out) (by simp)); have HF3 := Aside0.mk (hk_.blk HF2.out FN.out (by simp)); have VX3 := Aside0.mk (RV_keep VX2.out hk_ (fun k hk => hk.gm HOK.out HGM.out) (fun _ h => h)); have UP3 := Aside0.mk (RE_keep UP2.out hk_ (fun k hk => hk.gm HOK.out HGM.out) (fun _ h => h)); clear hi_ hk_) | (go_at_call 48; (with_reducible refine (step_no M3.out.hi HST.out).mono ?_); rintro en w4 ⟨rfl, hi_, hk_⟩; have M4 := Aside0.mk (mid_keep M3.out HOK.out HGM.out hk_ hi_); have B4 := Aside0.mk (hk_.blk B3.out (Nat.ne_of_gt HGM.out) (by simp)); clear hi_ hk_))
                go_roundg j
                case measure => exact Nat.lt_succ_self j
                case rel => exact ⟨Nat.le_of_succ_le JN.out, _, _, _, _, _, _, M4.out, B4.out, HT.out.1, HT.out.2, Or.inl ⟨by decide, rfl⟩⟩
              · rw [if_neg hst] at hv
                have hsr : 0 ≤ s1 ∧ s1 < 65536 := Decidable.byContradiction fun h => by rw [if_neg h] at hv; cases hv
                rw [if_pos hsr] at hv
                have XF := Aside0.mk (And.intro (show s1 < F by omega) hsr)
                have HV := Aside0.mk (ahead_of hv)
                clear hv hm hb hc hC hn n1 n29 n28 n27 n21 ho ht hst hsr
                go_wp2_with (first | (go_at_call 49; (with_reducible refine C43.out.mono ?_); rintro en w2 ⟨pa_, pb_, rfl, hva, hvb, hi_, hk_⟩; have M2 := Aside0.mk (mid_keep HM.out HOK.out HGM.out hk_ hi_); have B2 := Aside0.mk (hk_.blk HB.out (Nat.ne_of_gt HGM.out) (by simp)); have VA2 := Aside0.mk (RV_at hva HM.out.hs); obtain ⟨gf, Af, cf, pef, rfl, okf, hf0, hcf, hCf, huf⟩ := VA2.out; obtain ⟨pef, rfl⟩ := RE_ptr huf; have VX2 := Aside0.mk (RV_at (v := x) hvb HM.out.hs); obtain ⟨gx, x1_, x2_, x3_, x4_, x5_, rfl, -, -⟩ := RV_ptr VX2.out; have HF2 := Aside0.mk hf0; have FC := Aside0.mk (And.intro hcf hCf); have UP2 := Aside0.mk huf; have FN := Aside0.mk (okf.gm HOK.out HGM.out); have b0_ : w2.cell? ⟨gf, 0, none⟩ = some (.int .i64 3) := (blk_cell hf0 0).trans rfl; clear hva hvb hf0 huf okf hcf hCf; clear hi_ hk_) | (go_at_call 47; (with_reducible refine (must_ok M2.out.hi).mono ?_); rintro en w3 ⟨rfl, hi_, hk_⟩; have M3 := Aside0.mk (mid_keep M2.out HOK.out HGM.out hk_ hi_); have B3 := Aside0.mk (hk_.blk B2.out (Nat.ne_of_gt HGM.out) (by simp)); have HF3 := Aside0.mk (hk_.blk HF2.out FN.out (by simp)); have VX3 := Aside0.mk (RV_keep VX2.out hk_ (fun k hk => hk.gm HOK.out HGM.out) (fun _ h => h)); have UP3 := Aside0.mk (RE_keep UP2.out hk_ (fun k hk => hk.gm HOK.out HGM.out) (fun _ h => h)); clear hi_ hk_) | (go_at_call 48; (with_reducible refine (step_ok M3.out.hi XF.out.1 XF.out.2.1 XF.out.2.2).mono ?_); rintro en w4 ⟨rfl, hi_, hk_⟩; have M4 := Aside0.mk (mid_keep M3.out HOK.out HGM.out hk_ hi_); have B4 := Aside0.mk (hk_.blk B3.out (Nat.ne_of_gt HGM.out) (by simp)); have HF4 := Aside0.mk (hk_.blk HF3.out FN.out (by simp)); have VX4 := Aside0.mk (RV_keep VX3.out hk_ (fun k hk => hk.gm HOK.out HGM.out) (fun _ h => h)); have UP4 := Aside0.mk (RE_keep UP3.out hk_ (fun k hk => hk.gm HOK.out HGM.out) (fun _ h => h)); clear hi_ hk_))
                have M6 := Aside0.mk (mid_below M4.out (below_drew (Below.refl _ _)))
                have B6 := Aside0.mk (blk_drew B4.out)
                have HF6 := Aside0.mk (blk_drew HF4.out)
                have VX6 := Aside0.mk (RV_below VX4.out (below_drew (Below.refl _ _)) (fun _ h => h))
                have UP6 := Aside0.mk (RE_below UP4.out (below_drew (Below.refl _ _)) (fun _ h => h))
                clear m0 m2 x0 x1 x2 fz0 fz1 fz2 b0_ M4 B4 HF4 VX4 UP4
                refine start_ (n := 13) (S := fun w' => w'.cell? ⟨gf, 3, none⟩ = some (.int .i64 b.f0) ∧ w'.cell? ⟨gf, 4, none⟩ = some (.int .i64 b.f1) ∧ w'.cell? ⟨gf, 5, none⟩ = some (.slice Af b.f2.length cf) ∧ w'.cell? ⟨gf, 6, none⟩ = some (.pointer pef)) (ds := [12]) #[false, false, false, false, false, false, false, false, false, false, false, false, false] (by kernel_rfl) rfl rfl ⟨(blk_cell HF6.out 3).trans rfl, (blk_cell HF6.out 4).trans rfl, (blk_cell HF6.out 5).trans rfl, (blk_cell HF6.out 6).trans rfl⟩ (fun hHeld => ?_)
                generalize (World.drew w4) = w6 at M6 B6 HF6 VX6 UP6 hHeld ⊢
                refine pure_ (i := 0) (N := some 122) (v := ?_) (a' := ?_) #[true, false, false, false, false, false, false, false, false, false, false, false, false] rfl rfl (by kernel_rfl) (fun _ _ _ h => h) (Or.inl ⟨by rfl, ?_⟩) ?_ ?_
                rotate_left
                · intro w'
                  go_simp
                  with_reducible rfl
                rotate_left
                · simp only [Act.put, List.setIfInBounds_toArray, List.set_cons_zero, List.set_cons_succ, i64_w, i32_w, u8_w, u32_w]
                  rfl
                refine pure_ (i := 1) (N := some 123) (v := ?_) (a' := ?_) #[true, true, false, false, false, false, false, false, false, false, false, false, false] rfl rfl (by kernel_rfl) (fun _ _ _ h => h) (Or.inl ⟨by rfl, ?_⟩) ?_ ?_
                rotate_left
                · intro w'
                  go_simp
                  with_reducible rfl
                rotate_left
                · simp only [Act.put, List.setIfInBounds_toArray, List.set_cons_zero, List.set_cons_succ, i64_w, i32_w, u8_w, u32_w]
                  rfl
                refine pure_ (i := 2) (N := some 124) (v := ?_) (a' := ?_) #[true, true, true, false, false, false, false, false, false, false, false, false, false] rfl rfl (by kernel_rfl) (fun _ _ _ h => h) (Or.inl ⟨by rfl, ?_⟩) ?_ ?_
                rotate_left
                · intro w'
                  go_simp
                  with_reducible rfl
                rotate_left
                · simp only [Act.put, List.setIfInBounds_toArray, List.set_cons_zero, List.set_cons_succ, i64_w, i32_w, u8_w, u32_w]
                  rfl
                refine pure_ (i := 3) (N := some 125) (v := ?_) (a' := ?_) #[true, true, true, true, false, false, false, false, false, false, false, false, false] rfl rfl (by kernel_rfl) (fun _ _ _ h => h) (Or.inl ⟨by rfl, ?_⟩) ?_ ?_
                rotate_left
                · intro w'
                  go_simp
                  with_reducible rfl
                rotate_left
                · simp only [Act.put, List.setIfInBounds_toArray, List.set_cons_zero, List.set_cons_succ, i64_w, i32_w, u8_w, u32_w]
                  rfl
                refine take_ (i := 4) (N := some 126) (v := ?_) (a' := ?_) #[true, true, true, true, true, false, false, false, false, false, false, false, false] rfl rfl (by kernel_rfl) (fun _ _ _ h => h) (Or.inl ⟨by rfl, ?_⟩) hHeld ?_ ?_
                rotate_left
                · rintro w' ⟨s0, s1_, s2, s3⟩
                  go_simp
                  with_reducible rfl
                rotate_left
                · simp only [Act.put, List.setIfInBounds_toArray, List.set_cons_zero, List.set_cons_succ, i64_w, i32_w, u8_w, u32_w]
                  rfl
                refine pure_ (i := 5) (N := some 127) (v := ?_) (a' := ?_) #[true, true, true, true, true, true, false, false, false, false, false, false, false] rfl rfl (by kernel_rfl) (fun _ _ _ h => h) (Or.inl ⟨by rfl, ?_⟩) ?_ ?_
                rotate_left
                · intro w'
                  go_simp
                  with_reducible rfl
                rotate_left
                · simp only [Act.put, List.setIfInBounds_toArray, List.set_cons_zero, List.set_cons_succ, i64_w, i32_w, u8_w, u32_w]
                  rfl
                refine pure_ (i := 7) (N := some 129) (v := ?_) (a' := ?_) #[true, true, true, true, true, true, false, true, false, false, false, false, false] rfl rfl (by kernel_rfl) (fun _ _ _ h => h) (Or.inl ⟨by rfl, ?_⟩) ?_ ?_
                rotate_left
                · intro w'
                  go_simp
                  with_reducible rfl
                rotate_left
                · simp only [Act.put, List.setIfInBounds_toArray, List.set_cons_zero, List.set_cons_succ, i64_w, i32_w, u8_w, u32_w]
                  rfl
                refine pure_ (i := 8) (N := some 130) (v := ?_) (a' := ?_) #[true, true, true, true, true, true, false, true, true, false, false, false, false] rfl rfl (by kernel_rfl) (fun _ _ _ h => h) (Or.inl ⟨by rfl, ?_⟩) ?_ ?_
                rotate_left
                · intro w'
                  go_simp
                  with_reducible rfl
                rotate_left
                · simp only [Act.put, List.setIfInBounds_toArray, List.set_cons_zero, List.set_cons_succ, i64_w, i32_w, u8_w, u32_w]
                  rfl
                refine pure_ (i := 9) (N := some 131) (v := ?_) (a' := ?_) #[true, true, true, true, true, true, false, true, true, true, false, false, false] rfl rfl (by kernel_rfl) (fun _ _ _ h => h) (Or.inl ⟨by rfl, ?_⟩) ?_ ?_
                rotate_left
                · intro w'
                  go_simp
                  with_reducible rfl
                rotate_left
                · simp only [Act.put, List.setIfInBounds_toArray, List.set_cons_zero, List.set_cons_succ, i64_w, i32_w, u8_w, u32_w]
                  rfl
                refine take_ (i := 10) (N := some 132) (v := ?_) (a' := ?_) #[true, true, true, true, true, true, false, true, true, true, true, false, false] rfl rfl (by kernel_rfl) (fun _ _ _ h => h) (Or.inl ⟨by rfl, ?_⟩) hHeld ?_ ?_
                rotate_left
                · rintro w' ⟨s0, s1_, s2, s3⟩
                  go_simp
                  with_reducible rfl
                rotate_left
                · simp only [Act.put, List.setIfInBounds_toArray, List.set_cons_zero, List.set_cons_succ, i64_w, i32_w, u8_w, u32_w]
                  rfl
                refine one_ (i := 6) (N := some 128) #[true, true, true, true, true, true, true, true, true, true, true, false, false] rfl rfl (by kernel_rfl) (by decide) (fun K hK => ?_)
                refine box_step (N := 128) (by rfl) rfl (cs := #[.pointer (some ⟨gx, 0, none⟩), .pointer none, .pointer pef]) (t := 92) ?hr ?_
                (case hr => first | (go_simp; done) | (go_simp; rfl))
                intro g7 hg7 w7 hbox hb7
                have M7 := Aside0.mk (mid_below M6.out hb7)
                have B7 := Aside0.mk (blk_below B6.out hb7)
                have X7 := Aside0.mk hbox
                have G7 := Aside0.mk hg7
                have HF7 := Aside0.mk (blk_below HF6.out hb7)
                have VX7 := Aside0.mk (RV_below VX6.out hb7 (fun _ h => h))
                have UP7 := Aside0.mk (RE_below UP6.out hb7 (fun _ h => h))
                clear hbox hb7 hg7
                refine hK.out _ _ ⟨(blk_cell HF7.out 3).trans rfl, (blk_cell HF7.out 4).trans rfl, (blk_cell HF7.out 5).trans rfl, (blk_cell HF7.out 6).trans rfl⟩ (fun hHeld => ?_)
                clear hK K
                refine norm_ (a' := ?_) ?_ ?_
                rotate_left
                · show Act.put _ (some 128) _ = _
                  simp only [Act.put, List.setIfInBounds_toArray, List.set_cons_zero, List.set_cons_succ, i64_w, i32_w, u8_w, u32_w]
                  rfl
                refine pure_ (i := 11) (N := some 1) (v := ?_) (a' := ?_) #[true, true, true, true, true, true, true, true, true, true, true, true, false] rfl rfl (by kernel_rfl) (fun _ _ _ h => h) (Or.inl ⟨by rfl, ?_⟩) ?_ ?_
                rotate_left
                · intro w'
                  go_simp
                  with_reducible rfl
                rotate_left
                · simp only [Act.put, List.setIfInBounds_toArray, List.set_cons_zero, List.set_cons_succ, i64_w, i32_w, u8_w, u32_w]
                  rfl
                refine last_ (i := 12) (N := none) #[true, true, true, true, true, true, true, true, true, true, true, true, true] rfl rfl (by kernel_rfl) (by decide) (fun K hK => ?_)
                have x0 : w7.cell? ⟨w.heap.size, 0, none⟩ = some (.int .i64 t.f0) := (blk_cell B7.out 0).trans rfl
                have x1 : w7.cell? ⟨w.heap.size, 1, none⟩ = some (.int .i64 t.f1) := (blk_cell B7.out 1).trans rfl
                have x2 : w7.cell? ⟨w.heap.size, 2, none⟩ = some (.slice A t.f2.length c) := (blk_cell B7.out 2).trans rfl
                have fz0 := blk_frozen B7.out 0
                have fz1 := blk_frozen B7.out 1
                have fz2 := blk_frozen B7.out 2
                refine skip_ (w1 := ?_) (by rfl) rfl ?_ ?_
                rotate_left
                · go_simp
                  rfl
                refine hK.out _ _ ?_
                clear hK K
                refine done_ (by kernel_rfl) ?_
                go_wp2
                go_roundg j
                case measure => exact Nat.lt_succ_self j
                case rel => exact ⟨loop_put (M7.out.with (e' := .val x up) ⟨g7, .pointer (some ⟨gx, 0, none⟩), .pointer pef, rfl, Or.inr (by rw [G7.out]; exact M6.out.hs), X7.out, VX7.out, UP7.out⟩) HGM.out B7.out FC.out.1 FC.out.2 HV.out (Nat.le_of_succ_le JN.out)⟩
      rw [if_neg n21] at hv
      have q0 : (t.f0 == 1) = false := by rw [beq_eq_false_iff_ne]; exact n1
      have z0 : (t.f0 = 1) = False := eq_false n1
      have q1 : (t.f0 == 29) = false := by rw [beq_eq_false_iff_ne]; exact n29
      have z1 : (t.f0 = 29) = False := eq_false n29
      have q2 : (t.f0 == 28) = false := by rw [beq_eq_false_iff_ne]; exact n28
      have z2 : (t.f0 = 28) = False := eq_false n28
      have q3 : (t.f0 == 27) = false := by rw [beq_eq_false_iff_ne]; exact n27
      have z3 : (t.f0 = 27) = False := eq_false n27
      have q4 : (t.f0 == 21) = false := by rw [beq_eq_false_iff_ne]; exact n21
      have z4 : (t.f0 = 21) = False := eq_false n21
      have C44 := Aside0.mk (plain44 (@Aside0.out _ CJ) hm.hi hm.he (fun k hk => hk.gm HOK.out HGM.out) hc hC hv)
      clear hv hm hb hc hC hn n1 n29 n28 n27 n21
      go_wp2_with (first | (go_at_call 50; (with_reducible refine C44.out.mono ?_); rintro en w2 ⟨pv, rfl, hv, hi2, hk2⟩; have V2 := Aside0.mk hv; have I2 := Aside0.mk hi2; have K2 := Aside0.mk hk2; clear hv hi2 hk2))
      (try rw [Exit.noGoto_ret]); (try go_step)
      go_ret
      exact ⟨_, rfl, RV_end V2.out (Nat.le_of_lt HM.out.hs), I2.out, KeepBut.trans HM.out.hk K2.out (.inl rfl)⟩
theorem eval26 (F : Int) (k : Nat) : CEV F k := Nat.strongRecOn (motive := fun k => CEV F k) k fun k ih => @eval_step F k ih
end Go.Proofs.YtnecmclnokikoaaDoor.Run
