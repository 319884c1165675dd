/- CodePlaces: the call, walked by hand out of its callees' contracts. -/
import Derived.Test.YtfbjdfgadhlhlaaFacts
import Derived.Deep.RegionHeld3
import Derived.Deep.QuietTactic
import Derived.BigQuiet
namespace Go.Proofs.Ytfbjdfgadhlhlaa.P
open Go.RowKit Go.Proofs.YtfbjdfgadhlhlaaW.PrintWords Go.Proofs.YtfbjdfgadhlhlaaW.PrintLast Go.Proofs.YtfbjdfgadhlhlaaW.PrintMore
set_option linter.unusedVariables false
set_option linter.unusedSimpArgs false
set_option maxHeartbeats 4000000

theorem codePlaces_walk (x : S24) (A : Option Addr) (c : Nat) {w0 : World} (hl : x.f2.length ≤ c) (hC : Kd.C k24 w0 A x.f2.length x.f2) (wf : WF24 x) (w : World) (hw : w = w0 := by rfl) :
    Calls Try.prog 3 #[.agg #[.int .i64 x.f0, .int .i64 x.f1, .slice A x.f2.length c]] w fun e w' => e = .returned (.bool true) ∧ Below w.heap.size w w' := by
  subst hw
  obtain ⟨b, hs, few⟩ := few_rd wf
  have HL := Aside0.mk hl
  have HC := Aside0.mk hC
  clear hl hC
  have hu24 := Try.underlying24
  have hu29 := Try.underlying29
  cases b with
  | false =>
    clear hs
    go_enter Try.func3, Try.ntmps3
    go_wp2_with (first | ((with_reducible refine gate_dst (N := 1) rfl ?_); refine box_event ?hg (N := 1) ?hd (cs := #[.int .i64 x.f0, .int .i64 x.f1, .slice A x.f2.length c]) (t := 24) ?hr ?_; (case hd => rfl); (case hg => rfl); (case hr => first | (go_simp; done) | (go_simp; rfl)); intro g1 hg w1 hbox hb; have K1 := Aside0.mk hbox; have B := Aside0.mk hb; clear hbox hb hg) | (go_at_call 9; refine (known_rd _).mono ?_; rintro e w2 ⟨rfl, hb⟩; have K1_ := Aside0.mk (blk_below K1.out hb); clear K1; have K1 := K1_; clear K1_; have B_ := Aside0.mk (B.out.trans (hb.mono B.out.size)); clear B; have B := B_; clear B_; clear hb; have k10 : w2.cell? ⟨g1, 0, none⟩ = some (.int .i64 x.f0) := (blk_cell K1.out 0).trans rfl; have k11 : w2.cell? ⟨g1, 1, none⟩ = some (.int .i64 x.f1) := (blk_cell K1.out 1).trans rfl; have k12 : w2.cell? ⟨g1, 2, none⟩ = some (.slice A x.f2.length c) := (blk_cell K1.out 2).trans rfl) | (go_at_call 10; refine (few (Kd.C_below HC.out B.out) HL.out).mono ?_; rintro e w3 ⟨rfl, hb⟩; have K1_ := Aside0.mk (blk_below K1.out hb); clear K1; have K1 := K1_; clear K1_; have B_ := Aside0.mk (B.out.trans (hb.mono B.out.size)); clear B; have B := B_; clear B_; clear hb; clear k10 k11 k12; have k10 : w3.cell? ⟨g1, 0, none⟩ = some (.int .i64 x.f0) := (blk_cell K1.out 0).trans rfl; have k11 : w3.cell? ⟨g1, 1, none⟩ = some (.int .i64 x.f1) := (blk_cell K1.out 1).trans rfl; have k12 : w3.cell? ⟨g1, 2, none⟩ = some (.slice A x.f2.length c) := (blk_cell K1.out 2).trans rfl) | fail)
    go_ret
    exact ⟨rfl, B.out⟩
  | true =>
    have hs1 := hs rfl
    have hp := plain_size x
    have HS : Aside0 (size29 (plain x) ≤ 1000000) := ⟨by omega⟩
    clear hs hs1 hp
    obtain ⟨t, ht⟩ : ∃ t, plain x = t := ⟨_, rfl⟩
    have HT := Aside0.mk ht
    have HK : Aside0 (t.f2.length ≤ 255) := ⟨by rw [← ht]; cases x; exact plains_len 255 _⟩
    rw [ht] at HS
    clear ht
    obtain ⟨y, hy⟩ : ∃ y, y = enc t := ⟨_, rfl⟩
    have HY := Aside0.mk hy
    have hyl := enc_size t
    rw [← hy] at hyl
    have hy10 := enc_ten t
    rw [← hy] at hy10
    have h0 := rd_0 t
    rw [← hy] at h0
    have h9 := rd_9 HK.out
    rw [← hy] at h9
    have hsz : wrap64 (10 * (size29 t : Int)) = (y.length : Int) := by have := HS.out; rw [wrap_id (by omega)]; omega
    have h9w : wrap64 (t.f2.length : Int) = (t.f2.length : Int) := by have := HK.out; exact wrap_id (by omega)
    have Hsz := Aside0.mk hsz
    have H0 := Aside0.mk h0
    have H9 := Aside0.mk h9
    have H9w := Aside0.mk h9w
    have Hyl := Aside0.mk hyl
    have Hy10 := Aside0.mk hy10
    clear hy hsz h0 h9 h9w hyl hy10
    go_enter Try.func3, Try.ntmps3
    go_wp2_with (first | ((with_reducible refine gate_dst (N := 1) rfl ?_); refine box_event ?hg (N := 1) ?hd (cs := #[.int .i64 x.f0, .int .i64 x.f1, .slice A x.f2.length c]) (t := 24) ?hr ?_; (case hd => rfl); (case hg => rfl); (case hr => first | (go_simp; done) | (go_simp; rfl)); intro g1 hg w1 hbox hb; have K1 := Aside0.mk hbox; have B := Aside0.mk hb; clear hbox hb hg) | (go_at_call 9; refine (known_rd _).mono ?_; rintro e w2 ⟨rfl, hb⟩; have K1_ := Aside0.mk (blk_below K1.out hb); clear K1; have K1 := K1_; clear K1_; have B_ := Aside0.mk (B.out.trans (hb.mono B.out.size)); clear B; have B := B_; clear B_; clear hb; have k10 : w2.cell? ⟨g1, 0, none⟩ = some (.int .i64 x.f0) := (blk_cell K1.out 0).trans rfl; have k11 : w2.cell? ⟨g1, 1, none⟩ = some (.int .i64 x.f1) := (blk_cell K1.out 1).trans rfl; have k12 : w2.cell? ⟨g1, 2, none⟩ = some (.slice A x.f2.length c) := (blk_cell K1.out 2).trans rfl) | (go_at_call 10; refine (few (Kd.C_below HC.out B.out) HL.out).mono ?_; rintro e w3 ⟨rfl, hb⟩; have K1_ := Aside0.mk (blk_below K1.out hb); clear K1; have K1 := K1_; clear K1_; have B_ := Aside0.mk (B.out.trans (hb.mono B.out.size)); clear B; have B := B_; clear B_; clear hb; clear k10 k11 k12; have k10 : w3.cell? ⟨g1, 0, none⟩ = some (.int .i64 x.f0) := (blk_cell K1.out 0).trans rfl; have k11 : w3.cell? ⟨g1, 1, none⟩ = some (.int .i64 x.f1) := (blk_cell K1.out 1).trans rfl; have k12 : w3.cell? ⟨g1, 2, none⟩ = some (.slice A x.f2.length c) := (blk_cell K1.out 2).trans rfl) | (go_at_call 11; refine (plain_rd wf (Kd.C_below HC.out B.out) HL.out).mono ?_; rintro e w4 ⟨At, ct, rfl, hlt, hCt, hb⟩; rw [HT.out] at hlt hCt ⊢; have TL := Aside0.mk hlt; have TC := Aside0.mk hCt; have K1_ := Aside0.mk (blk_below K1.out hb); clear K1; have K1 := K1_; clear K1_; have B_ := Aside0.mk (B.out.trans (hb.mono B.out.size)); clear B; have B := B_; clear B_; clear hb hlt hCt k10 k11 k12) | ((with_reducible refine gate_dst (N := 3) rfl ?_); refine box_event ?hg (N := 3) ?hd (cs := #[.int .i64 0, .int .i64 0, .slice none 0 0]) (t := 29) ?hr ?_; (case hd => rfl); (case hg => rfl); (case hr => first | (go_simp; done) | (go_simp; rfl)); intro g3 hg w5 hbox hb; have K3 := Aside0.mk hbox; have G3 : Aside0 (w.heap.size ≤ g3) := ⟨by rw [hg]; exact B.out.size⟩; have G34 : Aside0 (w4.heap.size ≤ g3) := ⟨Nat.le_of_eq hg.symm⟩; have B45 := Aside0.mk hb; have K1_ := Aside0.mk (blk_below K1.out hb); clear K1; have K1 := K1_; clear K1_; have B_ := Aside0.mk (B.out.trans (hb.mono B.out.size)); clear B; have B := B_; clear B_; clear hbox hb hg; have k30 : w5.cell? ⟨g3, 0, none⟩ = some (.int .i64 0) := (blk_cell K3.out 0).trans rfl; have k31 : w5.cell? ⟨g3, 1, none⟩ = some (.int .i64 0) := (blk_cell K3.out 1).trans rfl; have k32 : w5.cell? ⟨g3, 2, none⟩ = some (.slice none 0 0) := (blk_cell K3.out 2).trans rfl; have f30 := blk_frozen K3.out 0; have f31 := blk_frozen K3.out 1; have f32 := blk_frozen K3.out 2) | fail)
    generalize hw6 : World.setCell (World.setCell (World.setCell w5 ⟨g3, 0, none⟩ _) ⟨g3, 1, none⟩ _) ⟨g3, 2, none⟩ _ = w6
    have K3' := Aside0.mk (show w6.heap[g3]? = some (.cells #[.int .i64 t.f0, .int .i64 t.f1, .slice At t.f2.length ct] 29 (0, 0)) by rw [← hw6]; exact blk_put (blk_put (blk_put K3.out 0 _ rfl) 1 _ rfl) 2 _ rfl)
    have B' := Aside0.mk (show Below w.heap.size w w6 by rw [← hw6]; exact below_set (below_set (below_set B.out G3.out) G3.out) G3.out)
    have TC' := Aside0.mk (show Kd.C k29 w6 At t.f2.length t.f2 by refine Kd.C_below TC.out ?_; rw [← hw6]; exact below_set (below_set (below_set B45.out G34.out) G34.out) G34.out)
    clear K3 TC B B45 G34 K1 hw6 k30 k31 k32 f30 f31 f32
    have K3 := K3'
    have B := B'
    have TC := TC'
    clear K3' B' TC'
    have k30 : w6.cell? ⟨g3, 0, none⟩ = some (.int .i64 t.f0) := (blk_cell K3.out 0).trans rfl
    have k31 : w6.cell? ⟨g3, 1, none⟩ = some (.int .i64 t.f1) := (blk_cell K3.out 1).trans rfl
    have k32 : w6.cell? ⟨g3, 2, none⟩ = some (.slice At t.f2.length ct) := (blk_cell K3.out 2).trans rfl
    go_wp2_with (first | (go_at_call 12; refine (bytes_rd (by have := HS.out; omega) TC.out TL.out).mono ?_; rintro e w7 ⟨Ay, cy, rfl, hly, hCy, hb⟩; rw [← HY.out] at hly hCy ⊢; have YL := Aside0.mk hly; have YC := Aside0.mk hCy; have K3_ := Aside0.mk (blk_below K3.out hb); clear K3; have K3 := K3_; clear K3_; have TC_ := Aside0.mk (Kd.C_below TC.out hb); clear TC; have TC := TC_; clear TC_; have B_ := Aside0.mk (B.out.trans (hb.mono B.out.size)); clear B; have B := B_; clear B_; clear hb hly hCy) | fail)
    clear k30 k31 k32
    obtain ⟨ad, e1, hx0⟩ := Kd.at_int YC.out 0 (by decide) (by have := Hy10.out; omega)
    subst e1
    rw [show ad.add (0 : Int).toNat = ad by cases ad; simp [Addr.add]] at hx0
    obtain ⟨ad', e', hx9⟩ := Kd.at_int YC.out 9 (by decide) (by have := Hy10.out; omega)
    cases e'
    have hsz := Hsz.out
    have h0 := H0.out
    have h9 := H9.out
    have h9w := H9w.out
    have q0 : ((0 : Int) < (y.length : Int)) = True := eq_true (by have := Hy10.out; omega)
    have q0n : (0 < y.length) = True := eq_true (by have := Hy10.out; omega)
    have q9n : (9 < y.length) = True := eq_true (by have := Hy10.out; omega)
    have q9 : ((9 : Int) < (y.length : Int)) = True := eq_true (by have := Hy10.out; omega)
    have K3_ := Aside0.mk (blk_drew K3.out)
    clear K3
    have K3 := K3_
    clear K3_
    have TC_ := Aside0.mk (Kd.C_drew TC.out)
    clear TC
    have TC := TC_
    clear TC_
    have YC_ := Aside0.mk (Kd.C_drew YC.out)
    clear YC
    have YC := YC_
    clear YC_
    have B_ := Aside0.mk (below_drew1 B.out)
    clear B
    have B := B_
    clear B_
    refine start_ (n := 25) (S := fun w' => w'.cell? ⟨g3, 0, none⟩ = some (.int .i64 t.f0) ∧ w'.cell? ⟨g3, 1, none⟩ = some (.int .i64 t.f1) ∧ w'.cell? ⟨g3, 2, none⟩ = some (.slice At t.f2.length ct) ∧ w'.cell? ad = some (.int .u8 (rd y 0)) ∧ w'.cell? { block := ad.block, off := ad.off + 9 } = some (.int .u8 (rd y 9))) (ds := []) #[false, false, false, false, false, false, false, false, false, false, false, false, false, false, false, false, false, false, false, false, false, false, false, false, false] (by kernel_rfl) rfl rfl ⟨(blk_cell K3.out 0).trans rfl, (blk_cell K3.out 1).trans rfl, (blk_cell K3.out 2).trans rfl, hx0, hx9⟩ (fun hHeld => ?_)
    generalize w7.drew = w8 at K3 TC YC B hx0 hx9 hHeld ⊢
    refine pure_ (i := 0) (N := some 18) (v := ?_) (a' := ?_) #[true, false, false, false, false, false, false, false, false, false, false, false, false, false, false, false, false, false, false, false, false, false, false, false, false] rfl rfl (by kernel_rfl) (fun _ _ _ h => h) (Or.inl ⟨by rfl, ?_⟩) ?_ ?_
    rotate_left
    · intro w'
      go_simp
      with_reducible rfl
    rotate_left
    · simp only [Act.put, List.setIfInBounds_toArray, List.set_cons_zero, List.set_cons_succ, i64_w, i32_w, u8_w, u32_w, hsz, h0, h9, h9w]
      rfl
    refine pure_ (i := 1) (N := some 19) (v := ?_) (a' := ?_) #[true, true, false, false, false, false, false, false, false, false, false, false, false, false, false, false, false, false, false, false, false, false, false, false, false] rfl rfl (by kernel_rfl) (fun _ _ _ h => h) (Or.inl ⟨by rfl, ?_⟩) ?_ ?_
    rotate_left
    · intro w'
      go_simp
      with_reducible rfl
    rotate_left
    · simp only [Act.put, List.setIfInBounds_toArray, List.set_cons_zero, List.set_cons_succ, i64_w, i32_w, u8_w, u32_w, hsz, h0, h9, h9w]
      rfl
    refine take_ (i := 2) (N := some 20) (v := ?_) (a' := ?_) #[true, true, true, false, false, false, false, false, false, false, false, false, false, false, false, false, false, false, false, false, false, false, false, false, false] rfl rfl (by kernel_rfl) (fun _ _ _ h => h) (Or.inl ⟨by rfl, ?_⟩) hHeld ?_ ?_
    rotate_left
    · rintro w' ⟨s0, s1, s2, s3, s4⟩
      go_simp
      with_reducible rfl
    rotate_left
    · simp only [Act.put, List.setIfInBounds_toArray, List.set_cons_zero, List.set_cons_succ, i64_w, i32_w, u8_w, u32_w, hsz, h0, h9, h9w]
      rfl
    refine one_ (i := 3) (N := some 21) #[true, true, true, true, false, false, false, false, false, false, false, false, false, false, false, false, false, false, false, false, false, false, false, false, false] rfl rfl (by kernel_rfl) (by decide) (fun K hK => ?_)
    refine goes_ Try.func13 (by kernel_rfl) rfl #[.agg #[.int .i64 t.f0, .int .i64 t.f1, .slice At t.f2.length ct]] (by rfl) rfl rfl (by (try simp only [List.map_toArray, List.map_cons, List.map_nil]); first | done | rfl | (simp only [List.length_drop, List.length_take]; rfl)) ?_
    with_reducible refine (size_rd (by have := HS.out; omega) TC.out TL.out).mono ?_
    rintro e w9 ⟨rfl, hb⟩
    refine ⟨_, rfl, ?_⟩
    have K3_ := Aside0.mk (blk_below K3.out hb); clear K3; have K3 := K3_; clear K3_; have TC_ := Aside0.mk (Kd.C_below TC.out hb); clear TC; have TC := TC_; clear TC_; have YC_ := Aside0.mk (Kd.C_below YC.out hb); clear YC; have YC := YC_; clear YC_; have B_ := Aside0.mk (B.out.trans (hb.mono B.out.size)); clear B; have B := B_; clear B_; clear hb hx0 hx9
    obtain ⟨ad', e', hx0⟩ := Kd.at_int YC.out 0 (by decide) (by have := Hy10.out; omega)
    cases e'
    rw [show ad.add (0 : Int).toNat = ad by cases ad; simp [Addr.add]] at hx0
    obtain ⟨ad', e', hx9⟩ := Kd.at_int YC.out 9 (by decide) (by have := Hy10.out; omega)
    cases e'
    refine hK.out _ _ ⟨(blk_cell K3.out 0).trans rfl, (blk_cell K3.out 1).trans rfl, (blk_cell K3.out 2).trans rfl, hx0, hx9⟩ (fun hHeld => ?_)
    clear hK K
    refine norm_ (a' := ?_) ?_ ?_
    rotate_left
    · show Act.put _ (some 21) _ = _
      simp only [Act.put, List.setIfInBounds_toArray, List.set_cons_zero, List.set_cons_succ, i64_w, i32_w, u8_w, u32_w]
      rfl
    refine pure_ (i := 4) (N := some 22) (v := ?_) (a' := ?_) #[true, true, true, true, true, false, false, false, false, false, false, false, false, false, false, false, false, false, false, false, false, false, false, false, false] rfl rfl (by kernel_rfl) (fun _ _ _ h => h) (Or.inl ⟨by rfl, ?_⟩) ?_ ?_
    rotate_left
    · intro w'
      go_simp
      with_reducible rfl
    rotate_left
    · simp only [Act.put, List.setIfInBounds_toArray, List.set_cons_zero, List.set_cons_succ, i64_w, i32_w, u8_w, u32_w, hsz, h0, h9, h9w]
      rfl
    refine pure_ (i := 5) (N := some 23) (v := ?_) (a' := ?_) #[true, true, true, true, true, true, false, false, false, false, false, false, false, false, false, false, false, false, false, false, false, false, false, false, false] rfl rfl (by kernel_rfl) (fun _ _ _ h => h) (Or.inl ⟨by rfl, ?_⟩) ?_ ?_
    rotate_left
    · intro w'
      go_simp
      with_reducible rfl
    rotate_left
    · simp only [Act.put, List.setIfInBounds_toArray, List.set_cons_zero, List.set_cons_succ, i64_w, i32_w, u8_w, u32_w, hsz, h0, h9, h9w]
      rfl
    refine pure_ (i := 6) (N := some 24) (v := ?_) (a' := ?_) #[true, true, true, true, true, true, true, false, false, false, false, false, false, false, false, false, false, false, false, false, false, false, false, false, false] rfl rfl (by kernel_rfl) (fun _ _ _ h => h) (Or.inl ⟨by rfl, ?_⟩) ?_ ?_
    rotate_left
    · intro w'
      go_simp
      with_reducible rfl
    rotate_left
    · simp only [Act.put, List.setIfInBounds_toArray, List.set_cons_zero, List.set_cons_succ, i64_w, i32_w, u8_w, u32_w, hsz, h0, h9, h9w]
      rfl
    refine pure_ (i := 7) (N := some 25) (v := ?_) (a' := ?_) #[true, true, true, true, true, true, true, true, false, false, false, false, false, false, false, false, false, false, false, false, false, false, false, false, false] rfl rfl (by kernel_rfl) (fun _ _ _ h => h) (Or.inl ⟨by rfl, ?_⟩) ?_ ?_
    rotate_left
    · intro w'
      go_simp
      with_reducible rfl
    rotate_left
    · simp only [Act.put, List.setIfInBounds_toArray, List.set_cons_zero, List.set_cons_succ, i64_w, i32_w, u8_w, u32_w, hsz, h0, h9, h9w]
      rfl
    refine pure_ (i := 8) (N := some 26) (v := ?_) (a' := ?_) #[true, true, true, true, true, true, true, true, true, false, false, false, false, false, false, false, false, false, false, false, false, false, false, false, false] rfl rfl (by kernel_rfl) (fun _ _ _ h => h) (Or.inl ⟨by rfl, ?_⟩) ?_ ?_
    rotate_left
    · intro w'
      go_simp
      with_reducible rfl
    rotate_left
    · simp only [Act.put, List.setIfInBounds_toArray, List.set_cons_zero, List.set_cons_succ, i64_w, i32_w, u8_w, u32_w, hsz, h0, h9, h9w]
      rfl
    refine take_ (i := 9) (N := some 27) (v := ?_) (a' := ?_) #[true, true, true, true, true, true, true, true, true, true, false, false, false, false, false, false, false, false, false, false, false, false, false, false, false] rfl rfl (by kernel_rfl) (fun _ _ _ h => h) (Or.inl ⟨by rfl, ?_⟩) hHeld ?_ ?_
    rotate_left
    · rintro w' ⟨s0, s1, s2, s3, s4⟩
      go_simp
      with_reducible rfl
    rotate_left
    · simp only [Act.put, List.setIfInBounds_toArray, List.set_cons_zero, List.set_cons_succ, i64_w, i32_w, u8_w, u32_w, hsz, h0, h9, h9w]
      rfl
    refine pure_ (i := 10) (N := some 28) (v := ?_) (a' := ?_) #[true, true, true, true, true, true, true, true, true, true, true, false, false, false, false, false, false, false, false, false, false, false, false, false, false] rfl rfl (by kernel_rfl) (fun _ _ _ h => h) (Or.inl ⟨by rfl, ?_⟩) ?_ ?_
    rotate_left
    · intro w'
      go_simp
      with_reducible rfl
    rotate_left
    · simp only [Act.put, List.setIfInBounds_toArray, List.set_cons_zero, List.set_cons_succ, i64_w, i32_w, u8_w, u32_w, hsz, h0, h9, h9w]
      rfl
    refine take_ (i := 11) (N := some 29) (v := ?_) (a' := ?_) #[true, true, true, true, true, true, true, true, true, true, true, true, false, false, false, false, false, false, false, false, false, false, false, false, false] rfl rfl (by kernel_rfl) (fun _ _ _ h => h) (Or.inl ⟨by rfl, ?_⟩) hHeld ?_ ?_
    rotate_left
    · rintro w' ⟨s0, s1, s2, s3, s4⟩
      go_simp
      with_reducible rfl
    rotate_left
    · simp only [Act.put, List.setIfInBounds_toArray, List.set_cons_zero, List.set_cons_succ, i64_w, i32_w, u8_w, u32_w, hsz, h0, h9, h9w]
      rfl
    refine pure_ (i := 12) (N := some 30) (v := ?_) (a' := ?_) #[true, true, true, true, true, true, true, true, true, true, true, true, true, false, false, false, false, false, false, false, false, false, false, false, false] rfl rfl (by kernel_rfl) (fun _ _ _ h => h) (Or.inl ⟨by rfl, ?_⟩) ?_ ?_
    rotate_left
    · intro w'
      go_simp
      with_reducible rfl
    rotate_left
    · simp only [Act.put, List.setIfInBounds_toArray, List.set_cons_zero, List.set_cons_succ, i64_w, i32_w, u8_w, u32_w, hsz, h0, h9, h9w]
      rfl
    refine pure_ (i := 13) (N := some 31) (v := ?_) (a' := ?_) #[true, true, true, true, true, true, true, true, true, true, true, true, true, true, false, false, false, false, false, false, false, false, false, false, false] rfl rfl (by kernel_rfl) (fun _ _ _ h => h) (Or.inl ⟨by rfl, ?_⟩) ?_ ?_
    rotate_left
    · intro w'
      go_simp
      with_reducible rfl
    rotate_left
    · simp only [Act.put, List.setIfInBounds_toArray, List.set_cons_zero, List.set_cons_succ, i64_w, i32_w, u8_w, u32_w, hsz, h0, h9, h9w]
      rfl
    refine pure_ (i := 14) (N := some 32) (v := ?_) (a' := ?_) #[true, true, true, true, true, true, true, true, true, true, true, true, true, true, true, false, false, false, false, false, false, false, false, false, false] rfl rfl (by kernel_rfl) (fun _ _ _ h => h) (Or.inl ⟨by rfl, ?_⟩) ?_ ?_
    rotate_left
    · intro w'
      go_simp
      with_reducible rfl
    rotate_left
    · simp only [Act.put, List.setIfInBounds_toArray, List.set_cons_zero, List.set_cons_succ, i64_w, i32_w, u8_w, u32_w, hsz, h0, h9, h9w]
      rfl
    refine pure_ (i := 15) (N := some 33) (v := ?_) (a' := ?_) #[true, true, true, true, true, true, true, true, true, true, true, true, true, true, true, true, false, false, false, false, false, false, false, false, false] rfl rfl (by kernel_rfl) (fun _ _ _ h => h) (Or.inl ⟨by rfl, ?_⟩) ?_ ?_
    rotate_left
    · intro w'
      go_simp
      with_reducible rfl
    rotate_left
    · simp only [Act.put, List.setIfInBounds_toArray, List.set_cons_zero, List.set_cons_succ, i64_w, i32_w, u8_w, u32_w, hsz, h0, h9, h9w]
      rfl
    refine pure_ (i := 16) (N := some 34) (v := ?_) (a' := ?_) #[true, true, true, true, true, true, true, true, true, true, true, true, true, true, true, true, true, false, false, false, false, false, false, false, false] rfl rfl (by kernel_rfl) (fun _ _ _ h => h) (Or.inl ⟨by rfl, ?_⟩) ?_ ?_
    rotate_left
    · intro w'
      go_simp
      with_reducible rfl
    rotate_left
    · simp only [Act.put, List.setIfInBounds_toArray, List.set_cons_zero, List.set_cons_succ, i64_w, i32_w, u8_w, u32_w, hsz, h0, h9, h9w]
      rfl
    refine pure_ (i := 17) (N := some 35) (v := ?_) (a' := ?_) #[true, true, true, true, true, true, true, true, true, true, true, true, true, true, true, true, true, true, false, false, false, false, false, false, false] rfl rfl (by kernel_rfl) (fun _ _ _ h => h) (Or.inl ⟨by rfl, ?_⟩) ?_ ?_
    rotate_left
    · intro w'
      go_simp
      with_reducible rfl
    rotate_left
    · simp only [Act.put, List.setIfInBounds_toArray, List.set_cons_zero, List.set_cons_succ, i64_w, i32_w, u8_w, u32_w, hsz, h0, h9, h9w]
      rfl
    refine take_ (i := 18) (N := some 36) (v := ?_) (a' := ?_) #[true, true, true, true, true, true, true, true, true, true, true, true, true, true, true, true, true, true, true, false, false, false, false, false, false] rfl rfl (by kernel_rfl) (fun _ _ _ h => h) (Or.inl ⟨by rfl, ?_⟩) hHeld ?_ ?_
    rotate_left
    · rintro w' ⟨s0, s1, s2, s3, s4⟩
      go_simp
      with_reducible rfl
    rotate_left
    · simp only [Act.put, List.setIfInBounds_toArray, List.set_cons_zero, List.set_cons_succ, i64_w, i32_w, u8_w, u32_w, hsz, h0, h9, h9w]
      rfl
    refine pure_ (i := 19) (N := some 37) (v := ?_) (a' := ?_) #[true, true, true, true, true, true, true, true, true, true, true, true, true, true, true, true, true, true, true, true, false, false, false, false, false] rfl rfl (by kernel_rfl) (fun _ _ _ h => h) (Or.inl ⟨by rfl, ?_⟩) ?_ ?_
    rotate_left
    · intro w'
      go_simp
      with_reducible rfl
    rotate_left
    · simp only [Act.put, List.setIfInBounds_toArray, List.set_cons_zero, List.set_cons_succ, i64_w, i32_w, u8_w, u32_w, hsz, h0, h9, h9w]
      rfl
    refine pure_ (i := 20) (N := some 38) (v := ?_) (a' := ?_) #[true, true, true, true, true, true, true, true, true, true, true, true, true, true, true, true, true, true, true, true, true, false, false, false, false] rfl rfl (by kernel_rfl) (fun _ _ _ h => h) (Or.inl ⟨by rfl, ?_⟩) ?_ ?_
    rotate_left
    · intro w'
      go_simp
      with_reducible rfl
    rotate_left
    · simp only [Act.put, List.setIfInBounds_toArray, List.set_cons_zero, List.set_cons_succ, i64_w, i32_w, u8_w, u32_w, hsz, h0, h9, h9w]
      rfl
    refine take_ (i := 21) (N := some 39) (v := ?_) (a' := ?_) #[true, true, true, true, true, true, true, true, true, true, true, true, true, true, true, true, true, true, true, true, true, true, false, false, false] rfl rfl (by kernel_rfl) (fun _ _ _ h => h) (Or.inl ⟨by rfl, ?_⟩) hHeld ?_ ?_
    rotate_left
    · rintro w' ⟨s0, s1, s2, s3, s4⟩
      go_simp
      with_reducible rfl
    rotate_left
    · simp only [Act.put, List.setIfInBounds_toArray, List.set_cons_zero, List.set_cons_succ, i64_w, i32_w, u8_w, u32_w, hsz, h0, h9, h9w]
      rfl
    refine pure_ (i := 22) (N := some 40) (v := ?_) (a' := ?_) #[true, true, true, true, true, true, true, true, true, true, true, true, true, true, true, true, true, true, true, true, true, true, true, false, false] rfl rfl (by kernel_rfl) (fun _ _ _ h => h) (Or.inl ⟨by rfl, ?_⟩) ?_ ?_
    rotate_left
    · intro w'
      go_simp
      with_reducible rfl
    rotate_left
    · simp only [Act.put, List.setIfInBounds_toArray, List.set_cons_zero, List.set_cons_succ, i64_w, i32_w, u8_w, u32_w, hsz, h0, h9, h9w]
      rfl
    refine pure_ (i := 23) (N := some 41) (v := ?_) (a' := ?_) #[true, true, true, true, true, true, true, true, true, true, true, true, true, true, true, true, true, true, true, true, true, true, true, true, false] rfl rfl (by kernel_rfl) (fun _ _ _ h => h) (Or.inl ⟨by rfl, ?_⟩) ?_ ?_
    rotate_left
    · intro w'
      go_simp
      with_reducible rfl
    rotate_left
    · simp only [Act.put, List.setIfInBounds_toArray, List.set_cons_zero, List.set_cons_succ, i64_w, i32_w, u8_w, u32_w, hsz, h0, h9, h9w]
      rfl
    refine pure_ (i := 24) (N := some 42) (v := ?_) (a' := ?_) #[true, true, true, true, true, true, true, true, true, true, true, true, true, true, true, true, true, true, true, true, true, true, true, true, true] rfl rfl (by kernel_rfl) (fun _ _ _ h => h) (Or.inl ⟨by rfl, ?_⟩) ?_ ?_
    rotate_left
    · intro w'
      go_simp
      with_reducible rfl
    rotate_left
    · simp only [Act.put, List.setIfInBounds_toArray, List.set_cons_zero, List.set_cons_succ, i64_w, i32_w, u8_w, u32_w, hsz, h0, h9, h9w]
      rfl
    refine done_ (by kernel_rfl) ?_
    clear hx0 hx9 hsz h0 h9 h9w q0 q9 q0n q9n hHeld
    go_wp2
    go_loopw [5] (fun v5 w' => ∃ i : Nat, i ≤ 8 ∧ v5 = .int .i64 i ∧ Aside0 (Kd.C k29 w' At t.f2.length t.f2) ∧ Aside0 (Kd.C (Kd.int .u8) w' (some ad) y.length y) ∧ Aside0 (w'.heap[g3]? = some (.cells #[.int .i64 t.f0, .int .i64 t.f1, .slice At t.f2.length ct] 29 (0, 0))) ∧ Aside0 (Below w.heap.size w w')) (fun v5 _ => 8 - (intOf v5).toNat)
    case atStart => exact ⟨0, by omega, rfl, TC, YC, K3, B⟩
    case round =>
      clear TC YC K3 B
      obtain ⟨i, hi, rfl, TC, YC, K3, B⟩ := hrel
      by_cases hlt : i < 8
      · go_wp2
        obtain ⟨ad', e', hxi⟩ := Kd.at_int YC.out (1 + (i : Int)) (by omega) (by have := Hy10.out; omega)
        cases e'
        rw [HY.out, rd_head' hlt] at hxi
        have hi1 : wrap64 (1 + (i : Int)) = 1 + (i : Int) := wrap_id (by omega)
        have hi8 : wrap64 (8 * (i : Int)) = 8 * (i : Int) := wrap_id (by omega)
        have hi8w : IntKind.u64.wrap (8 * (i : Int)) = 8 * (i : Int) := wrap_u64 (by omega) (by omega)
        have hsh := encN_shr t.f1 i hlt
        have q0 : ((0 : Int) ≤ 1 + (i : Int)) = True := eq_true (by omega)
        have q9 : (1 + (i : Int) < (y.length : Int)) = True := eq_true (by have := Hy10.out; omega)
        have q8 : decide ((0 : Int) ≤ 8 * (i : Int)) = true := decide_eq_true (by omega)
        have K3_ := Aside0.mk (blk_drew K3.out)
        clear K3
        have K3 := K3_
        clear K3_
        have TC_ := Aside0.mk (Kd.C_drew TC.out)
        clear TC
        have TC := TC_
        clear TC_
        have YC_ := Aside0.mk (Kd.C_drew YC.out)
        clear YC
        have YC := YC_
        clear YC_
        have B_ := Aside0.mk (below_drew1 B.out)
        clear B
        have B := B_
        clear B_
        refine start_ (n := 14) (S := fun w' => w'.cell? ⟨g3, 0, none⟩ = some (.int .i64 t.f0) ∧ w'.cell? ⟨g3, 1, none⟩ = some (.int .i64 t.f1) ∧ w'.cell? ⟨g3, 2, none⟩ = some (.slice At t.f2.length ct) ∧ w'.cell? (ad.add (1 + (i : Int)).toNat) = some (.int .u8 (encN t.f1 i))) (ds := []) #[false, false, false, false, false, false, false, false, false, false, false, false, false, false] (by kernel_rfl) rfl rfl ⟨(blk_cell K3.out 0).trans rfl, (blk_cell K3.out 1).trans rfl, (blk_cell K3.out 2).trans rfl, hxi⟩ (fun hHeld => ?_)
        generalize wr.drew = w10 at K3 TC YC B hxi hHeld ⊢
        refine pure_ (i := 0) (N := some 47) (v := ?_) (a' := ?_) #[true, false, false, false, false, false, false, false, false, false, false, false, false, false] rfl rfl (by kernel_rfl) (fun _ _ _ h => h) (Or.inl ⟨by rfl, ?_⟩) ?_ ?_
        rotate_left
        · intro w'
          go_simp
          with_reducible rfl
        rotate_left
        · simp only [Act.put, List.setIfInBounds_toArray, List.set_cons_zero, List.set_cons_succ, i64_w, i32_w, u8_w, u32_w, hi1, hi8, hi8w, hsh]
          rfl
        refine pure_ (i := 1) (N := some 48) (v := ?_) (a' := ?_) #[true, true, false, false, false, false, false, false, false, false, false, false, false, false] rfl rfl (by kernel_rfl) (fun _ _ _ h => h) (Or.inl ⟨by rfl, ?_⟩) ?_ ?_
        rotate_left
        · intro w'
          go_simp
          with_reducible rfl
        rotate_left
        · simp only [Act.put, List.setIfInBounds_toArray, List.set_cons_zero, List.set_cons_succ, i64_w, i32_w, u8_w, u32_w, hi1, hi8, hi8w, hsh]
          rfl
        refine pure_ (i := 2) (N := some 49) (v := ?_) (a' := ?_) #[true, true, true, false, false, false, false, false, false, false, false, false, false, false] rfl rfl (by kernel_rfl) (fun _ _ _ h => h) (Or.inl ⟨by rfl, ?_⟩) ?_ ?_
        rotate_left
        · intro w'
          go_simp
          with_reducible rfl
        rotate_left
        · simp only [Act.put, List.setIfInBounds_toArray, List.set_cons_zero, List.set_cons_succ, i64_w, i32_w, u8_w, u32_w, hi1, hi8, hi8w, hsh]
          rfl
        refine pure_ (i := 3) (N := some 50) (v := ?_) (a' := ?_) #[true, true, true, true, false, false, false, false, false, false, false, false, false, false] rfl rfl (by kernel_rfl) (fun _ _ _ h => h) (Or.inl ⟨by rfl, ?_⟩) ?_ ?_
        rotate_left
        · intro w'
          go_simp
          with_reducible rfl
        rotate_left
        · simp only [Act.put, List.setIfInBounds_toArray, List.set_cons_zero, List.set_cons_succ, i64_w, i32_w, u8_w, u32_w, hi1, hi8, hi8w, hsh]
          rfl
        refine take_ (i := 4) (N := some 51) (v := ?_) (a' := ?_) #[true, true, true, true, true, false, false, false, false, false, false, false, false, false] rfl rfl (by kernel_rfl) (fun _ _ _ h => h) (Or.inl ⟨by rfl, ?_⟩) hHeld ?_ ?_
        rotate_left
        · rintro w' ⟨s0, s1, s2, s3⟩
          go_simp
          with_reducible rfl
        rotate_left
        · simp only [Act.put, List.setIfInBounds_toArray, List.set_cons_zero, List.set_cons_succ, i64_w, i32_w, u8_w, u32_w, hi1, hi8, hi8w, hsh]
          rfl
        refine pure_ (i := 5) (N := some 52) (v := ?_) (a' := ?_) #[true, true, true, true, true, true, false, false, false, false, false, false, false, false] rfl rfl (by kernel_rfl) (fun _ _ _ h => h) (Or.inl ⟨by rfl, ?_⟩) ?_ ?_
        rotate_left
        · intro w'
          go_simp
          with_reducible rfl
        rotate_left
        · simp only [Act.put, List.setIfInBounds_toArray, List.set_cons_zero, List.set_cons_succ, i64_w, i32_w, u8_w, u32_w, hi1, hi8, hi8w, hsh]
          rfl
        refine take_ (i := 6) (N := some 53) (v := ?_) (a' := ?_) #[true, true, true, true, true, true, true, false, false, false, false, false, false, false] rfl rfl (by kernel_rfl) (fun _ _ _ h => h) (Or.inl ⟨by rfl, ?_⟩) hHeld ?_ ?_
        rotate_left
        · rintro w' ⟨s0, s1, s2, s3⟩
          go_simp
          with_reducible rfl
        rotate_left
        · simp only [Act.put, List.setIfInBounds_toArray, List.set_cons_zero, List.set_cons_succ, i64_w, i32_w, u8_w, u32_w, hi1, hi8, hi8w, hsh]
          rfl
        refine pure_ (i := 7) (N := some 54) (v := ?_) (a' := ?_) #[true, true, true, true, true, true, true, true, false, false, false, false, false, false] rfl rfl (by kernel_rfl) (fun _ _ _ h => h) (Or.inl ⟨by rfl, ?_⟩) ?_ ?_
        rotate_left
        · intro w'
          go_simp
          with_reducible rfl
        rotate_left
        · simp only [Act.put, List.setIfInBounds_toArray, List.set_cons_zero, List.set_cons_succ, i64_w, i32_w, u8_w, u32_w, hi1, hi8, hi8w, hsh]
          rfl
        refine pure_ (i := 8) (N := some 55) (v := ?_) (a' := ?_) #[true, true, true, true, true, true, true, true, true, false, false, false, false, false] rfl rfl (by kernel_rfl) (fun _ _ _ h => h) (Or.inl ⟨by rfl, ?_⟩) ?_ ?_
        rotate_left
        · intro w'
          go_simp
          with_reducible rfl
        rotate_left
        · simp only [Act.put, List.setIfInBounds_toArray, List.set_cons_zero, List.set_cons_succ, i64_w, i32_w, u8_w, u32_w, hi1, hi8, hi8w, hsh]
          rfl
        refine pure_ (i := 9) (N := some 56) (v := ?_) (a' := ?_) #[true, true, true, true, true, true, true, true, true, true, false, false, false, false] rfl rfl (by kernel_rfl) (fun _ _ _ h => h) (Or.inl ⟨by rfl, ?_⟩) ?_ ?_
        rotate_left
        · intro w'
          go_simp
          with_reducible rfl
        rotate_left
        · simp only [Act.put, List.setIfInBounds_toArray, List.set_cons_zero, List.set_cons_succ, i64_w, i32_w, u8_w, u32_w, hi1, hi8, hi8w, hsh]
          rfl
        refine pure_ (i := 10) (N := some 57) (v := ?_) (a' := ?_) #[true, true, true, true, true, true, true, true, true, true, true, false, false, false] rfl rfl (by kernel_rfl) (fun _ _ _ h => h) (Or.inl ⟨by rfl, ?_⟩) ?_ ?_
        rotate_left
        · intro w'
          go_simp
          with_reducible rfl
        rotate_left
        · simp only [Act.put, List.setIfInBounds_toArray, List.set_cons_zero, List.set_cons_succ, i64_w, i32_w, u8_w, u32_w, hi1, hi8, hi8w, hsh]
          rfl
        refine pure_ (i := 11) (N := some 58) (v := ?_) (a' := ?_) #[true, true, true, true, true, true, true, true, true, true, true, true, false, false] rfl rfl (by kernel_rfl) (fun _ _ _ h => h) (Or.inl ⟨by rfl, ?_⟩) ?_ ?_
        rotate_left
        · intro w'
          go_simp
          with_reducible rfl
        rotate_left
        · simp only [Act.put, List.setIfInBounds_toArray, List.set_cons_zero, List.set_cons_succ, i64_w, i32_w, u8_w, u32_w, hi1, hi8, hi8w, hsh]
          rfl
        refine pure_ (i := 12) (N := some 59) (v := ?_) (a' := ?_) #[true, true, true, true, true, true, true, true, true, true, true, true, true, false] rfl rfl (by kernel_rfl) (fun _ _ _ h => h) (Or.inl ⟨by rfl, ?_⟩) ?_ ?_
        rotate_left
        · intro w'
          go_simp
          with_reducible rfl
        rotate_left
        · simp only [Act.put, List.setIfInBounds_toArray, List.set_cons_zero, List.set_cons_succ, i64_w, i32_w, u8_w, u32_w, hi1, hi8, hi8w, hsh]
          rfl
        refine pure_ (i := 13) (N := some 60) (v := ?_) (a' := ?_) #[true, true, true, true, true, true, true, true, true, true, true, true, true, true] rfl rfl (by kernel_rfl) (fun _ _ _ h => h) (Or.inl ⟨by rfl, ?_⟩) ?_ ?_
        rotate_left
        · intro w'
          go_simp
          with_reducible rfl
        rotate_left
        · simp only [Act.put, List.setIfInBounds_toArray, List.set_cons_zero, List.set_cons_succ, i64_w, i32_w, u8_w, u32_w, hi1, hi8, hi8w, hsh]
          rfl
        refine done_ (by kernel_rfl) ?_
        go_wp2
        go_roundw
        case measure => simp [intOf]; omega
        case rel => exact ⟨i + 1, by omega, by go_num, TC, YC, K3, B⟩
      · have hd : ((i : Int) < 8) = False := eq_false (by omega)
        have hd2 : (i < 8) = False := eq_false (by omega)
        have hd3 : decide ((i : Int) < 8) = false := decide_eq_false (by omega)
        go_wp2
        clear hd hd2 hd3
        clear hlt hi
        go_loopw [6, 7, 8] (fun v6 v7 v8 w' => ∃ i : Nat, i ≤ t.f2.length ∧ v6 = .int .i64 (((10 + (encs (t.f2.take i)).length : Nat)) : Int) ∧ v7 = .int .i64 i ∧ Aside0 (Kd.C k29 w' At t.f2.length t.f2) ∧ Aside0 (Kd.C (Kd.int .u8) w' (some ad) y.length y) ∧ Aside0 (w'.heap[g3]? = some (.cells #[.int .i64 t.f0, .int .i64 t.f1, .slice At t.f2.length ct] 29 (0, 0))) ∧ Aside0 (Below w.heap.size w w')) (fun v6 v7 v8 _ => t.f2.length - (intOf v7).toNat)
        case atStart => exact ⟨0, by omega, rfl, rfl, TC, YC, K3, B⟩
        case round =>
          clear TC YC K3 B
          obtain ⟨i, hi, rfl, rfl, TC, YC, K3, B⟩ := hrel
          have k32 : wr.cell? ⟨g3, 2, none⟩ = some (.slice At t.f2.length ct) := (blk_cell K3.out 2).trans rfl
          have hK := HK.out
          by_cases hlt : i < t.f2.length
          · obtain ⟨adk, Au, cu, e1, hx0, hx1, hx2, hl2, hi2⟩ := at_T29 TC.out (i : Int) (by omega) (by omega)
            have hrd : rd_T29 t.f2 (i : Int) = t.f2[i] := by simp [rd_T29, hlt]
            rw [hrd] at hx0 hx1 hx2 hl2 hi2
            have KID := Aside0.mk (enc_kid t i hlt)
            have KS := Aside0.mk (kid_size t i hlt)
            clear hrd
            generalize t.f2[i] = u at hx0 hx1 hx2 hl2 hi2 KID KS
            subst e1
            obtain ⟨z, hz⟩ : ∃ z, z = enc u := ⟨_, rfl⟩
            have HZ := Aside0.mk hz
            clear hz
            rw [← HZ.out, ← HY.out] at KID
            simp only [Int.toNat_natCast] at hx0 hx1 hx2
            have UC := Aside0.mk hi2
            have UL := Aside0.mk hl2
            have hn : ((i : Int) < (t.f2.length : Int)) = True := eq_true (by omega)
            clear hi2 hl2
            obtain ⟨q, hq⟩ : ∃ q, q = 10 + (encs (t.f2.take i)).length := ⟨_, rfl⟩
            rw [← hq] at KID ⊢
            have HQ := Aside0.mk hq
            clear hq
            go_wp2_with (first | (go_at_call 12; refine (bytes_rd (by have := HS.out; have := KS.out; omega) UC.out UL.out).mono ?_; rintro e w11 ⟨Az, cz, rfl, hlz, hCz, hb⟩; rw [← HZ.out] at hlz hCz ⊢; have ZL := Aside0.mk hlz; have ZC := Aside0.mk hCz; have K3_ := Aside0.mk (blk_below K3.out hb); clear K3; have K3 := K3_; clear K3_; have TC_ := Aside0.mk (Kd.C_below TC.out hb); clear TC; have TC := TC_; clear TC_; have YC_ := Aside0.mk (Kd.C_below YC.out hb); clear YC; have YC := YC_; clear YC_; have B_ := Aside0.mk (B.out.trans (hb.mono B.out.size)); clear B; have B := B_; clear B_; clear hb hlz hCz hx0 hx1 hx2 k32) | fail)
            obtain ⟨kb, kd, ke⟩ := KID.out
            have hyl := Hyl.out
            have hsm := HS.out
            obtain ⟨r, hr⟩ : ∃ r, r = q + z.length := ⟨_, rfl⟩
            have HR := Aside0.mk hr
            have hqz : wrap64 ((q : Int) + (z.length : Int)) = (r : Int) := by rw [wrap_id (by omega)]; omega
            have hgt : decide ((y.length : Int) < (r : Int)) = false := decide_eq_false (by omega)
            have hgn : decide (y.length < r) = false := decide_eq_false (by omega)
            have hgm : (y.length < r) = False := eq_false (by omega)
            have K3_ := Aside0.mk (blk_drew K3.out)
            clear K3
            have K3 := K3_
            clear K3_
            have TC_ := Aside0.mk (Kd.C_drew TC.out)
            clear TC
            have TC := TC_
            clear TC_
            have YC_ := Aside0.mk (Kd.C_drew YC.out)
            clear YC
            have YC := YC_
            clear YC_
            have B_ := Aside0.mk (below_drew1 B.out)
            clear B
            have B := B_
            clear B_
            have ZC_ := Aside0.mk (Kd.C_drew ZC.out)
            clear ZC
            have ZC := ZC_
            clear ZC_
            obtain ⟨i0, hi0, _, hsz0, _⟩ := info_parts info5
            have hcut := cut_mid (P := Try.prog) 31 5 .i64 .i64 Try.underlying31 hi0 1 hsz0 (some ad) y.length cy (q : Int) (r : Int) (by omega) (by omega) (by omega) YL.out
            have hr2 := Kd.C_mid (lo := q) (hi := q + z.length) (c := cy) YC.out (by omega) (by omega) YL.out
            rw [kd] at hr2
            rw [Int.toNat_natCast, Int.toNat_natCast, show r - q = z.length by omega] at hcut
            obtain ⟨A5, hA5⟩ : ∃ A1, A1 = (if cy = q then some ad else (some ad).map (·.add (q * 1))) := ⟨_, rfl⟩
            obtain ⟨c5, hc5⟩ : ∃ c1, c1 = cy - q := ⟨_, rfl⟩
            rw [← hA5, ← hc5] at hcut
            replace hr2 : Kd.C (Kd.int .u8) w11.drew A5 z.length z := by rw [hA5]; exact hr2
            have hcv := Kd.C_string (P := Try.prog) (A := A5) (c := c5) Try.underlying31 Try.underlying5 Try.underlying9 hr2
            have hcz := Kd.C_string (P := Try.prog) (A := Az) (c := cz) Try.underlying31 Try.underlying5 Try.underlying9 ZC.out
            clear hi0 hsz0 hr hr2 hA5 hc5 hyl hsm kb kd ke

            refine start_ (n := 20) (S := fun w' => w' = w11.drew) (ds := []) #[false, false, false, false, false, false, false, false, false, false, false, false, false, false, false, false, false, false, false, false] (by kernel_rfl) rfl rfl rfl (fun hHeld => ?_)
            generalize w11.drew = w12 at TC YC K3 B ZC hcv hcz hHeld ⊢
            refine take_ (i := 0) (N := some 74) (v := ?_) (a' := ?_) #[true, false, false, false, false, false, false, false, false, false, false, false, false, false, false, false, false, false, false, false] rfl rfl (by kernel_rfl) (fun _ _ _ h => h) (Or.inl ⟨by rfl, ?_⟩) hHeld ?_ ?_
            rotate_left
            · rintro w' rfl
              go_simp
              with_reducible rfl
            rotate_left
            · simp only [Act.put, List.setIfInBounds_toArray, List.set_cons_zero, List.set_cons_succ, i64_w, i32_w, u8_w, u32_w, hqz, hgt, hgn, decide_false]
              rfl
            refine take_ (i := 1) (N := some 75) (v := ?_) (a' := ?_) #[true, true, false, false, false, false, false, false, false, false, false, false, false, false, false, false, false, false, false, false] rfl rfl (by kernel_rfl) (fun _ _ _ h => h) (Or.inl ⟨by rfl, ?_⟩) hHeld ?_ ?_
            rotate_left
            · rintro w' rfl
              go_simp
              with_reducible rfl
            rotate_left
            · simp only [Act.put, List.setIfInBounds_toArray, List.set_cons_zero, List.set_cons_succ, i64_w, i32_w, u8_w, u32_w, hqz, hgt, hgn, decide_false]
              rfl
            refine take_ (i := 2) (N := some 76) (v := ?_) (a' := ?_) #[true, true, true, false, false, false, false, false, false, false, false, false, false, false, false, false, false, false, false, false] rfl rfl (by kernel_rfl) (fun _ _ _ h => h) (Or.inl ⟨by rfl, ?_⟩) hHeld ?_ ?_
            rotate_left
            · rintro w' rfl
              go_simp
              with_reducible rfl
            rotate_left
            · simp only [Act.put, List.setIfInBounds_toArray, List.set_cons_zero, List.set_cons_succ, i64_w, i32_w, u8_w, u32_w, hqz, hgt, hgn, decide_false]
              rfl
            refine take_ (i := 3) (N := some 77) (v := ?_) (a' := ?_) #[true, true, true, true, false, false, false, false, false, false, false, false, false, false, false, false, false, false, false, false] rfl rfl (by kernel_rfl) (fun _ _ _ h => h) (Or.inl ⟨by rfl, ?_⟩) hHeld ?_ ?_
            rotate_left
            · rintro w' rfl
              go_simp
              with_reducible rfl
            rotate_left
            · simp only [Act.put, List.setIfInBounds_toArray, List.set_cons_zero, List.set_cons_succ, i64_w, i32_w, u8_w, u32_w, hqz, hgt, hgn, decide_false]
              rfl
            refine take_ (i := 4) (N := some 78) (v := ?_) (a' := ?_) #[true, true, true, true, true, false, false, false, false, false, false, false, false, false, false, false, false, false, false, false] rfl rfl (by kernel_rfl) (fun _ _ _ h => h) (Or.inl ⟨by rfl, ?_⟩) hHeld ?_ ?_
            rotate_left
            · rintro w' rfl
              go_simp
              with_reducible rfl
            rotate_left
            · simp only [Act.put, List.setIfInBounds_toArray, List.set_cons_zero, List.set_cons_succ, i64_w, i32_w, u8_w, u32_w, hqz, hgt, hgn, decide_false]
              rfl
            refine take_ (i := 5) (N := some 79) (v := ?_) (a' := ?_) #[true, true, true, true, true, true, false, false, false, false, false, false, false, false, false, false, false, false, false, false] rfl rfl (by kernel_rfl) (fun _ _ _ h => h) (Or.inl ⟨by rfl, ?_⟩) hHeld ?_ ?_
            rotate_left
            · rintro w' rfl
              go_simp
              with_reducible rfl
            rotate_left
            · simp only [Act.put, List.setIfInBounds_toArray, List.set_cons_zero, List.set_cons_succ, i64_w, i32_w, u8_w, u32_w, hqz, hgt, hgn, decide_false]
              rfl
            refine take_ (i := 6) (N := some 80) (v := ?_) (a' := ?_) #[true, true, true, true, true, true, true, false, false, false, false, false, false, false, false, false, false, false, false, false] rfl rfl (by kernel_rfl) (fun _ _ _ h => h) (Or.inl ⟨by rfl, ?_⟩) hHeld ?_ ?_
            rotate_left
            · rintro w' rfl
              go_simp
              with_reducible rfl
            rotate_left
            · simp only [Act.put, List.setIfInBounds_toArray, List.set_cons_zero, List.set_cons_succ, i64_w, i32_w, u8_w, u32_w, hqz, hgt, hgn, decide_false]
              rfl
            refine take_ (i := 7) (N := some 81) (v := ?_) (a' := ?_) #[true, true, true, true, true, true, true, true, false, false, false, false, false, false, false, false, false, false, false, false] rfl rfl (by kernel_rfl) (fun _ _ _ h => h) (Or.inl ⟨by rfl, ?_⟩) hHeld ?_ ?_
            rotate_left
            · rintro w' rfl
              go_simp
              with_reducible rfl
            rotate_left
            · simp only [Act.put, List.setIfInBounds_toArray, List.set_cons_zero, List.set_cons_succ, i64_w, i32_w, u8_w, u32_w, hqz, hgt, hgn, decide_false]
              rfl
            refine take_ (i := 8) (N := some 82) (v := ?_) (a' := ?_) #[true, true, true, true, true, true, true, true, true, false, false, false, false, false, false, false, false, false, false, false] rfl rfl (by kernel_rfl) (fun _ _ _ h => h) (Or.inl ⟨by rfl, ?_⟩) hHeld ?_ ?_
            rotate_left
            · rintro w' rfl
              go_simp
              with_reducible rfl
            rotate_left
            · simp only [Act.put, List.setIfInBounds_toArray, List.set_cons_zero, List.set_cons_succ, i64_w, i32_w, u8_w, u32_w, hqz, hgt, hgn, decide_false]
              rfl
            refine take_ (i := 9) (N := some 83) (v := ?_) (a' := ?_) #[true, true, true, true, true, true, true, true, true, true, false, false, false, false, false, false, false, false, false, false] rfl rfl (by kernel_rfl) (fun _ _ _ h => h) (Or.inl ⟨by rfl, ?_⟩) hHeld ?_ ?_
            rotate_left
            · rintro w' rfl
              go_simp
              with_reducible rfl
            rotate_left
            · simp only [Act.put, List.setIfInBounds_toArray, List.set_cons_zero, List.set_cons_succ, i64_w, i32_w, u8_w, u32_w, hqz, hgt, hgn, decide_false]
              rfl
            refine take_ (i := 10) (N := some 84) (v := ?_) (a' := ?_) #[true, true, true, true, true, true, true, true, true, true, true, false, false, false, false, false, false, false, false, false] rfl rfl (by kernel_rfl) (fun _ _ _ h => h) (Or.inl ⟨by rfl, ?_⟩) hHeld ?_ ?_
            rotate_left
            · rintro w' rfl
              go_simp
              with_reducible rfl
            rotate_left
            · simp only [Act.put, List.setIfInBounds_toArray, List.set_cons_zero, List.set_cons_succ, i64_w, i32_w, u8_w, u32_w, hqz, hgt, hgn, decide_false]
              rfl
            refine take_ (i := 11) (N := some 85) (v := ?_) (a' := ?_) #[true, true, true, true, true, true, true, true, true, true, true, true, false, false, false, false, false, false, false, false] rfl rfl (by kernel_rfl) (fun _ _ _ h => h) (Or.inl ⟨by rfl, ?_⟩) hHeld ?_ ?_
            rotate_left
            · rintro w' rfl
              go_simp
              with_reducible rfl
            rotate_left
            · simp only [Act.put, List.setIfInBounds_toArray, List.set_cons_zero, List.set_cons_succ, i64_w, i32_w, u8_w, u32_w, hqz, hgt, hgn, decide_false]
              rfl
            refine take_ (i := 12) (N := some 86) (v := ?_) (a' := ?_) #[true, true, true, true, true, true, true, true, true, true, true, true, true, false, false, false, false, false, false, false] rfl rfl (by kernel_rfl) (fun _ _ _ h => h) (Or.inl ⟨by rfl, ?_⟩) hHeld ?_ ?_
            rotate_left
            · rintro w' rfl
              go_simp
              with_reducible rfl
            rotate_left
            · simp only [Act.put, List.setIfInBounds_toArray, List.set_cons_zero, List.set_cons_succ, i64_w, i32_w, u8_w, u32_w, hqz, hgt, hgn, decide_false]
              rfl
            refine take_ (i := 13) (N := some 87) (v := ?_) (a' := ?_) #[true, true, true, true, true, true, true, true, true, true, true, true, true, true, false, false, false, false, false, false] rfl rfl (by kernel_rfl) (fun _ _ _ h => h) (Or.inl ⟨by rfl, ?_⟩) hHeld ?_ ?_
            rotate_left
            · rintro w' rfl
              go_simp
              with_reducible rfl
            rotate_left
            · simp only [Act.put, List.setIfInBounds_toArray, List.set_cons_zero, List.set_cons_succ, i64_w, i32_w, u8_w, u32_w, hqz, hgt, hgn, decide_false]
              rfl
            refine take_ (i := 14) (N := some 88) (v := ?_) (a' := ?_) #[true, true, true, true, true, true, true, true, true, true, true, true, true, true, true, false, false, false, false, false] rfl rfl (by kernel_rfl) (fun _ _ _ h => h) (Or.inl ⟨by rfl, ?_⟩) hHeld ?_ ?_
            rotate_left
            · rintro w' rfl
              go_simp
              with_reducible rfl
            rotate_left
            · simp only [Act.put, List.setIfInBounds_toArray, List.set_cons_zero, List.set_cons_succ, i64_w, i32_w, u8_w, u32_w, hqz, hgt, hgn, decide_false]
              rfl
            refine take_ (i := 15) (N := some 89) (v := ?_) (a' := ?_) #[true, true, true, true, true, true, true, true, true, true, true, true, true, true, true, true, false, false, false, false] rfl rfl (by kernel_rfl) (fun _ _ _ h => h) (Or.inl ⟨by rfl, ?_⟩) hHeld ?_ ?_
            rotate_left
            · rintro w' rfl
              go_simp
              with_reducible rfl
            rotate_left
            · simp only [Act.put, List.setIfInBounds_toArray, List.set_cons_zero, List.set_cons_succ, i64_w, i32_w, u8_w, u32_w, hqz, hgt, hgn, decide_false]
              rfl
            refine take_ (i := 16) (N := some 90) (v := ?_) (a' := ?_) #[true, true, true, true, true, true, true, true, true, true, true, true, true, true, true, true, true, false, false, false] rfl rfl (by kernel_rfl) (fun _ _ _ h => h) (Or.inl ⟨by rfl, ?_⟩) hHeld ?_ ?_
            rotate_left
            · rintro w' rfl
              go_simp
              with_reducible rfl
            rotate_left
            · simp only [Act.put, List.setIfInBounds_toArray, List.set_cons_zero, List.set_cons_succ, i64_w, i32_w, u8_w, u32_w, hqz, hgt, hgn, decide_false]
              rfl
            refine take_ (i := 17) (N := some 91) (v := ?_) (a' := ?_) #[true, true, true, true, true, true, true, true, true, true, true, true, true, true, true, true, true, true, false, false] rfl rfl (by kernel_rfl) (fun _ _ _ h => h) (Or.inl ⟨by rfl, ?_⟩) hHeld ?_ ?_
            rotate_left
            · rintro w' rfl
              go_simp
              with_reducible rfl
            rotate_left
            · simp only [Act.put, List.setIfInBounds_toArray, List.set_cons_zero, List.set_cons_succ, i64_w, i32_w, u8_w, u32_w, hqz, hgt, hgn, decide_false]
              rfl
            refine take_ (i := 18) (N := some 92) (v := ?_) (a' := ?_) #[true, true, true, true, true, true, true, true, true, true, true, true, true, true, true, true, true, true, true, false] rfl rfl (by kernel_rfl) (fun _ _ _ h => h) (Or.inl ⟨by rfl, ?_⟩) hHeld ?_ ?_
            rotate_left
            · rintro w' rfl
              go_simp
              with_reducible rfl
            rotate_left
            · simp only [Act.put, List.setIfInBounds_toArray, List.set_cons_zero, List.set_cons_succ, i64_w, i32_w, u8_w, u32_w, hqz, hgt, hgn, decide_false]
              rfl
            refine take_ (i := 19) (N := some 93) (v := ?_) (a' := ?_) #[true, true, true, true, true, true, true, true, true, true, true, true, true, true, true, true, true, true, true, true] rfl rfl (by kernel_rfl) (fun _ _ _ h => h) (Or.inl ⟨by rfl, ?_⟩) hHeld ?_ ?_
            rotate_left
            · rintro w' rfl
              go_simp
              with_reducible rfl
            rotate_left
            · simp only [Act.put, List.setIfInBounds_toArray, List.set_cons_zero, List.set_cons_succ, i64_w, i32_w, u8_w, u32_w, hqz, hgt, hgn, decide_false]
              rfl
            refine done_ (by kernel_rfl) ?_
            clear hcv hcz hcut hHeld hgt hgn hgm
            have hqz' : IntKind.i64.wrap ((q : Int) + (z.length : Int)) = (r : Int) := by rw [i64_w]; exact hqz
            obtain ⟨kb, kd, ke⟩ := KID.out
            go_wp2
            go_roundw
            case measure => simp [intOf]; omega
            case rel => exact ⟨i + 1, by omega, by rw [ke, HR.out, HQ.out]; simp; omega, by go_num, TC, YC, K3, B⟩
          · obtain rfl : i = t.f2.length := by omega
            have he : 10 + (encs (t.f2.take t.f2.length)).length = y.length := by rw [List.take_length]; exact Hy10.out.symm
            rw [he]
            clear he
            go_wp2
            go_ret
            exact ⟨rfl, B.out⟩
end Go.Proofs.Ytfbjdfgadhlhlaa.P
