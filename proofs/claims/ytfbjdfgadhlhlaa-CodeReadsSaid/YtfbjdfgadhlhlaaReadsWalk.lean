/- CodeReads: the call, walked by hand out of its callees' contracts. -/
import Derived.Test.YtfbjdfgadhlhlaaReadC
import Derived.Deep.RegionHeld3
import Derived.Deep.QuietTactic
import Derived.BigQuiet
namespace Go.Proofs.Ytfbjdfgadhlhlaa.P
open Go.RowKit Go.Proofs.YtfbjdfgadhlhlaaW.PrintWords Go.Proofs.YtfbjdfgadhlhlaaW.PrintLast Go.Proofs.YtfbjdfgadhlhlaaW.PrintMore
set_option linter.unusedVariables false
set_option linter.unusedSimpArgs false
set_option maxHeartbeats 8000000

theorem codeReads_go (x : S24) (A : Option Addr) (c : Nat) (wf : WF24 x) (hl : x.f2.length ≤ c)
    (A1 : Option Addr) (c1 : Nat) (at' : List Int) (h1 : at'.length ≤ c1) (r1 : ∀ z ∈ at', -9223372036854775808 ≤ z ∧ z ≤ 9223372036854775807) (z1 : at'.length ≤ 4611686018427387904)
    (A2 : Option Addr) (c2 : Nat) (by' : List Int) (h2 : by'.length ≤ c2) (r2 : ∀ z ∈ by', 0 ≤ z ∧ z ≤ 255) (z2 : by'.length ≤ 4611686018427387904)
    (cut : Int) (hcut : -9223372036854775808 ≤ cut ∧ cut ≤ 9223372036854775807)
    (A4 : Option Addr) (c4 : Nat) (raw : List Int) (h4 : raw.length ≤ c4) (r4 : ∀ z ∈ raw, 0 ≤ z ∧ z ≤ 255) (z4 : raw.length ≤ 4611686018427387904)
    (w : World) (hC : Kd.C k24 w A x.f2.length x.f2) (hC1 : Kd.C (Kd.int .i64) w A1 at'.length at') (hC2 : Kd.C (Kd.int .u8) w A2 by'.length by') (hC4 : Kd.C (Kd.int .u8) w A4 raw.length raw) :
    Calls Try.prog 6 #[.agg #[.int .i64 x.f0, .int .i64 x.f1, .slice A x.f2.length c], .slice A1 at'.length c1, .slice A2 by'.length c2, .int .i64 cut, .slice A4 raw.length c4] w fun e w' => e = .returned (.bool true) ∧ Below w.heap.size w w' := by
  obtain ⟨b, hs, few⟩ := few_rd wf
  obtain ⟨t, tf, ts, make⟩ := make_rd wf
  have HL := Aside0.mk hl
  have HC := Aside0.mk hC
  have C1 := Aside0.mk hC1
  have C2 := Aside0.mk hC2
  have C4 := Aside0.mk hC4
  have L1 := Aside0.mk h1
  have L2 := Aside0.mk h2
  have L4 := Aside0.mk h4
  have R1 := Aside0.mk r1
  have R2 := Aside0.mk r2
  have R4 := Aside0.mk r4
  have Z1 := Aside0.mk z1
  have Z2 := Aside0.mk z2
  have Z4 := Aside0.mk z4
  have HCUT := Aside0.mk hcut
  have TS := Aside0.mk ts
  have TF := Aside0.mk tf
  have MAKE := Aside0.mk @make
  clear hl hC hC1 hC2 hC4 h1 h2 h4 r1 r2 r4 z1 z2 z4 hcut ts tf make hs
  have hu24 := Try.underlying24
  have hu29 := Try.underlying29
  cases b with
  | false =>
    go_enter Try.func6, Try.ntmps6
    go_wp2_with (first | ((with_reducible refine gate_dst (N := 5) rfl ?_); refine box_event ?hg (N := 5) ?hd (cs := #[.int .i64 x.f0, .int .i64 x.f1, .slice A x.f2.length c]) (t := 24) ?hr ?_; (case hd => rfl); (case hg => rfl); (case hr => first | (go_simp; done) | (go_simp; rfl)); intro g5 hg_ w1 hbox hb_; have K5 := Aside0.mk hbox; have HB := Aside0.mk hb_; clear hbox hb_ hg_) | (go_at_call 9; refine (known_rd _).mono ?_; rintro e w2 ⟨rfl, hb⟩; have K5_ := Aside0.mk (blk_below K5.out hb); clear K5; have K5 := K5_; clear K5_; have HB_ := Aside0.mk (HB.out.trans (hb.mono HB.out.size)); clear HB; have HB := HB_; clear HB_; clear hb; have k0 : w2.cell? ⟨g5, 0, none⟩ = some (.int .i64 x.f0) := (blk_cell K5.out 0).trans rfl; have k1 : w2.cell? ⟨g5, 1, none⟩ = some (.int .i64 x.f1) := (blk_cell K5.out 1).trans rfl; have k2 : w2.cell? ⟨g5, 2, none⟩ = some (.slice A x.f2.length c) := (blk_cell K5.out 2).trans rfl) | (go_at_call 10; refine (few (Kd.C_below HC.out HB.out) HL.out).mono ?_; rintro e w3 ⟨rfl, hb⟩; clear k0 k1 k2; have K5_ := Aside0.mk (blk_below K5.out hb); clear K5; have K5 := K5_; clear K5_; have HB_ := Aside0.mk (HB.out.trans (hb.mono HB.out.size)); clear HB; have HB := HB_; clear HB_; clear hb; have k0 : w3.cell? ⟨g5, 0, none⟩ = some (.int .i64 x.f0) := (blk_cell K5.out 0).trans rfl; have k1 : w3.cell? ⟨g5, 1, none⟩ = some (.int .i64 x.f1) := (blk_cell K5.out 1).trans rfl; have k2 : w3.cell? ⟨g5, 2, none⟩ = some (.slice A x.f2.length c) := (blk_cell K5.out 2).trans rfl) | fail)
    go_ret
    exact ⟨rfl, HB.out⟩
  | true =>
    by_cases hr : raw.length ≤ 300
    · have hrd : decide ((300 : Int) < (raw.length : Int)) = false := decide_eq_false (by omega)
      have hrn : decide (300 < raw.length) = false := decide_eq_false (by omega)
      have HR := Aside0.mk hr
      obtain ⟨y, hy⟩ : ∃ y, y = enc t := ⟨_, rfl⟩
      have HY := Aside0.mk hy
      have YS : Aside0 (10 ≤ y.length ∧ y.length ≤ 13650) := ⟨by have h1 := enc_size t; have h2 := enc_ten t; have h3 := TS.out; rw [hy]; omega⟩
      have YB : Aside0 (∀ z ∈ y, 0 ≤ z ∧ z ≤ 255) := ⟨by rw [hy]; exact enc_ok t⟩
      clear hy hr
      go_enter Try.func6, Try.ntmps6
      go_wp2_with (first | ((with_reducible refine gate_dst (N := 5) rfl ?_); refine box_event ?hg (N := 5) ?hd (cs := #[.int .i64 x.f0, .int .i64 x.f1, .slice A x.f2.length c]) (t := 24) ?hr ?_; (case hd => rfl); (case hg => rfl); (case hr => first | (go_simp; done) | (go_simp; rfl)); intro g5 hg_ w1 hbox hb_; have K5 := Aside0.mk hbox; have HB := Aside0.mk hb_; clear hbox hb_ hg_) | (go_at_call 9; refine (known_rd _).mono ?_; rintro e w2 ⟨rfl, hb⟩; have K5_ := Aside0.mk (blk_below K5.out hb); clear K5; have K5 := K5_; clear K5_; have HB_ := Aside0.mk (HB.out.trans (hb.mono HB.out.size)); clear HB; have HB := HB_; clear HB_; clear hb; have k0 : w2.cell? ⟨g5, 0, none⟩ = some (.int .i64 x.f0) := (blk_cell K5.out 0).trans rfl; have k1 : w2.cell? ⟨g5, 1, none⟩ = some (.int .i64 x.f1) := (blk_cell K5.out 1).trans rfl; have k2 : w2.cell? ⟨g5, 2, none⟩ = some (.slice A x.f2.length c) := (blk_cell K5.out 2).trans rfl) | (go_at_call 10; refine (few (Kd.C_below HC.out HB.out) HL.out).mono ?_; rintro e w3 ⟨rfl, hb⟩; clear k0 k1 k2; have K5_ := Aside0.mk (blk_below K5.out hb); clear K5; have K5 := K5_; clear K5_; have HB_ := Aside0.mk (HB.out.trans (hb.mono HB.out.size)); clear HB; have HB := HB_; clear HB_; clear hb; have k0 : w3.cell? ⟨g5, 0, none⟩ = some (.int .i64 x.f0) := (blk_cell K5.out 0).trans rfl; have k1 : w3.cell? ⟨g5, 1, none⟩ = some (.int .i64 x.f1) := (blk_cell K5.out 1).trans rfl; have k2 : w3.cell? ⟨g5, 2, none⟩ = some (.slice A x.f2.length c) := (blk_cell K5.out 2).trans rfl) | (go_at_call 15; refine (MAKE.out (Kd.C_below HC.out HB.out) HL.out).mono ?_; rintro e w4 ⟨At, ct, rfl, hlt, hCt, hb⟩; have TL := Aside0.mk hlt; have TC := Aside0.mk hCt; clear hlt hCt k0 k1 k2; have K5_ := Aside0.mk (blk_below K5.out hb); clear K5; have K5 := K5_; clear K5_; have HB_ := Aside0.mk (HB.out.trans (hb.mono HB.out.size)); clear HB; have HB := HB_; clear HB_; clear hb) | (go_at_call 18; refine (rbytes_rd (by have := TS.out; omega) TC.out TL.out).mono ?_; rintro e w5 ⟨Ay, cy, rfl, hly, hCy, hb⟩; rw [← HY.out] at hly hCy ⊢; have YL := Aside0.mk hly; have YC := Aside0.mk hCy; clear hly hCy TL TC; have K5_ := Aside0.mk (blk_below K5.out hb); clear K5; have K5 := K5_; clear K5_; have HB_ := Aside0.mk (HB.out.trans (hb.mono HB.out.size)); clear HB; have HB := HB_; clear HB_; clear hb) | ((with_reducible refine gate_dst (N := 33) rfl ?_); refine Kd.R_lit (Kd.int .u8) _ 5 ?hg (N := 33) ?hd (xs := ([] : List Int)) (inner := []) (ok := fun _ => True) (okp := fun _ => True) ?hr ?hp (fun _ hk => hk) trivial (Below.refl _ _) (Nat.le_refl _) (by simp) ?_; (case hd => rfl); (case hg => rfl); (case hr => first | (go_simp; done) | (go_simp; rfl)); (case hp => exact (Reps.none _ _)); intro v3 w6 ho_ hb_ hg_ hnew_; clear hg_ hnew_; have HO := Aside0.mk ho_; have HN := Aside0.mk hb_; clear ho_ hb_) | ((with_reducible refine gate_builtin (b := .append) (xs := #[.tmp 33, .tmp 34]) rfl ?_); at_builtin; refine Kd.R_append_rows (Kd.int .u8) (w0 := w5) w5.heap.size rfl (.tmp 33) (.tmp 34) 31 5 (.int .u8 0) 1 rfl Try.underlying31 info5 rfl (by decide) (by omega) v3 ([] : List Int) y _ _ _ (fun _ => True) (fun _ => False) rfl rfl ?aO ?aR (fun _ _ h => h) (fun _ h => h.elim) ?aF ?aB ?aS ?aL ?_; (case aR => exact Kd.C_below YC.out HN.out); (case aB => exact HN.out); (case aF => exact (fun _ _ => trivial)); (case aO => exact HO.out); (case aS => exact HN.out.size); (case aL => have := YS.out; simp; omega); intro v4 w7 ho_ hb_ hg_ hat_; clear hg_ hat_ HO HN; have HO := Aside0.mk ho_; have HN := Aside0.mk hb_; clear ho_ hb_) | fail)
      have HO_ := Aside0.mk (show Kd.R (Kd.int .u8) 5 w7 w5.heap.size (fun _ => True) v4 y from HO.out)
      clear HO
      have HO := HO_
      clear HO_
      obtain ⟨gc, cc, ev, hgc, _⟩ := Kd.R_form HO.out (by have := YS.out; omega)
      subst ev
      have GC := Aside0.mk hgc
      clear hgc
      have BA := Aside0.mk (show ∀ w', Below w5.heap.size w5 w' → Below w.heap.size w w' from fun w' h => HB.out.trans (h.mono HB.out.size))
      go_loopw [13] (fun v13 w' => ∃ (i : Nat) (C : List Int), i ≤ 3 ∧ v13 = .int .i64 i ∧ C.length = y.length ∧ Aside0 (∀ z ∈ C, 0 ≤ z ∧ z ≤ 255) ∧ Aside0 (Kd.R (Kd.int .u8) 5 w' w5.heap.size (fun _ => True) (.slice (some ⟨gc, 0, none⟩) y.length cc) C) ∧ Aside0 (Below w5.heap.size w5 w')) (fun v13 _ => 3 - (intOf v13).toNat)
      case atStart => exact ⟨0, y, by omega, rfl, rfl, YB, HO, HN⟩
      case round =>
        clear HO HN
        obtain ⟨i, C, hi, rfl, hCl, CB, HO, HN⟩ := hrel
        have CL := Aside0.mk hCl
        by_cases hgo : i < at'.length ∧ i < by'.length ∧ i < 3
        · obtain ⟨q1, q2, q3⟩ := hgo
          have d1 : decide ((i : Int) < (at'.length : Int)) = true := decide_eq_true (by omega)
          have d2 : decide ((i : Int) < (by'.length : Int)) = true := decide_eq_true (by omega)
          have d3 : decide ((i : Int) < 3) = true := decide_eq_true (by omega)
          have e1 : ((i : Int) < (at'.length : Int)) = True := eq_true (by omega)
          have e2 : ((i : Int) < (by'.length : Int)) = True := eq_true (by omega)
          have n1 : (i < at'.length) = True := eq_true (by omega)
          have n2 : (i < by'.length) = True := eq_true (by omega)
          go_wp2
          obtain ⟨q, hq⟩ : ∃ q : Nat, rd at' (i : Int) % (y.length : Int) = (q : Int) := Int.eq_ofNat_of_zero_le (Int.emod_nonneg _ (by have := YS.out; omega))
          have hql : q < y.length := by have h1 := Int.emod_lt_of_pos (rd at' (i : Int)) (show (0 : Int) < (y.length : Int) by have := YS.out; omega); omega
          have hat := rd_at q1
          have hw19 : thyrsuslaw1_within.f (rd at' (i : Int)) (y.length : Int) = some (q : Int) := by
            rw [within_val (by rw [hat]; exact R1.out _ (List.getElem_mem q1)) (by have := YS.out; omega) (by have := YS.out; omega), hq]
          clear hat hq
          have HBc := Aside0.mk (BA.out _ HN.out)
          have HOd := Aside0.mk (Kd.R_drew HO.out)
          have HNd := Aside0.mk (below_drew1 HN.out)
          have C1d := Aside0.mk (Kd.C_drew (Kd.C_below C1.out HBc.out))
          have C2d := Aside0.mk (Kd.C_drew (Kd.C_below C2.out HBc.out))
          obtain ⟨ad1, e', hx1⟩ := Kd.at_int C1d.out (i : Int) (by omega) (by omega)
          subst e'
          rw [Int.toNat_natCast] at hx1
          obtain ⟨ad2, e', hx2⟩ := Kd.at_int C2d.out (i : Int) (by omega) (by omega)
          subst e'
          rw [Int.toNat_natCast] at hx2
          have hxc := (Kd.R_celln (0 : Int) HOd.out (q : Int) (by omega) (by omega)).1
          rw [Int.toNat_natCast] at hxc
          generalize hva : rd at' (i : Int) = va at hx1 hw19
          generalize hvb : rd by' (i : Int) = vb at hx2
          have hvc : rdOf (0 : Int) C (q : Int) = rd C (q : Int) := rfl
          rw [hvc] at hxc
          generalize hvd : rd C (q : Int) = vc at hxc
          clear hvc
          have WI := Aside0.mk hw19
          have QL := Aside0.mk hql
          have QLn : ((q : Int) < (y.length : Int)) = True := eq_true (by omega)
          have QLm : (q < y.length) = True := eq_true (by omega)
          clear hw19 hva hvb hvd HBc HO HN q1 q2 hql
          refine start_ (n := 17) (S := fun w' => w'.cell? (ad1.add i) = some (.int .i64 va) ∧ w'.cell? (ad2.add i) = some (.int .u8 vb) ∧ w'.cell? ⟨gc, q, none⟩ = some (.int .u8 vc)) (ds := [16]) #[false, false, false, false, false, false, false, false, false, false, false, false, false, false, false, false, false] (by kernel_rfl) rfl rfl ⟨hx1, hx2, hxc⟩ (fun hHeld => ?_)
          generalize wr.drew = w10 at HOd HNd hx1 hx2 hxc hHeld ⊢
          refine pure_ (i := 0) (N := some 52) (v := ?_) (a' := ?_) #[true, false, false, false, false, false, false, false, false, false, false, false, false, false, false, false, false] rfl rfl (by kernel_rfl) (fun _ _ _ h => h) (Or.inl ⟨by rfl, ?_⟩) ?_ ?_
          rotate_left
          · intro w'
            go_simp
            with_reducible rfl
          rotate_left
          · simp only [Act.put, List.setIfInBounds_toArray, List.set_cons_zero, List.set_cons_succ, i64_w, i32_w, u8_w, u32_w]
            rfl
          refine pure_ (i := 1) (N := some 53) (v := ?_) (a' := ?_) #[true, true, false, false, false, false, false, false, false, false, false, false, false, false, false, false, false] rfl rfl (by kernel_rfl) (fun _ _ _ h => h) (Or.inl ⟨by rfl, ?_⟩) ?_ ?_
          rotate_left
          · intro w'
            go_simp
            with_reducible rfl
          rotate_left
          · simp only [Act.put, List.setIfInBounds_toArray, List.set_cons_zero, List.set_cons_succ, i64_w, i32_w, u8_w, u32_w]
            rfl
          refine pure_ (i := 2) (N := some 54) (v := ?_) (a' := ?_) #[true, true, true, false, false, false, false, false, false, false, false, false, false, false, false, false, false] rfl rfl (by kernel_rfl) (fun _ _ _ h => h) (Or.inl ⟨by rfl, ?_⟩) ?_ ?_
          rotate_left
          · intro w'
            go_simp
            with_reducible rfl
          rotate_left
          · simp only [Act.put, List.setIfInBounds_toArray, List.set_cons_zero, List.set_cons_succ, i64_w, i32_w, u8_w, u32_w]
            rfl
          refine pure_ (i := 3) (N := some 55) (v := ?_) (a' := ?_) #[true, true, true, true, false, false, false, false, false, false, false, false, false, false, false, false, false] rfl rfl (by kernel_rfl) (fun _ _ _ h => h) (Or.inl ⟨by rfl, ?_⟩) ?_ ?_
          rotate_left
          · intro w'
            go_simp
            with_reducible rfl
          rotate_left
          · simp only [Act.put, List.setIfInBounds_toArray, List.set_cons_zero, List.set_cons_succ, i64_w, i32_w, u8_w, u32_w]
            rfl
          refine take_ (i := 4) (N := some 56) (v := ?_) (a' := ?_) #[true, true, true, true, true, false, false, false, false, false, false, false, false, false, false, false, false] rfl rfl (by kernel_rfl) (fun _ _ _ h => h) (Or.inl ⟨by rfl, ?_⟩) hHeld ?_ ?_
          rotate_left
          · rintro w' ⟨s0, s1, s2⟩
            go_simp
            with_reducible rfl
          rotate_left
          · simp only [Act.put, List.setIfInBounds_toArray, List.set_cons_zero, List.set_cons_succ, i64_w, i32_w, u8_w, u32_w]
            rfl
          refine pure_ (i := 5) (N := some 57) (v := ?_) (a' := ?_) #[true, true, true, true, true, true, false, false, false, false, false, false, false, false, false, false, false] rfl rfl (by kernel_rfl) (fun _ _ _ h => h) (Or.inl ⟨by rfl, ?_⟩) ?_ ?_
          rotate_left
          · intro w'
            go_simp
            with_reducible rfl
          rotate_left
          · simp only [Act.put, List.setIfInBounds_toArray, List.set_cons_zero, List.set_cons_succ, i64_w, i32_w, u8_w, u32_w]
            rfl
          refine pure_ (i := 6) (N := some 58) (v := ?_) (a' := ?_) #[true, true, true, true, true, true, true, false, false, false, false, false, false, false, false, false, false] rfl rfl (by kernel_rfl) (fun _ _ _ h => h) (Or.inl ⟨by rfl, ?_⟩) ?_ ?_
          rotate_left
          · intro w'
            go_simp
            with_reducible rfl
          rotate_left
          · simp only [Act.put, List.setIfInBounds_toArray, List.set_cons_zero, List.set_cons_succ, i64_w, i32_w, u8_w, u32_w]
            rfl
          refine pure_ (i := 10) (N := some 62) (v := ?_) (a' := ?_) #[true, true, true, true, true, true, true, false, false, false, true, false, false, false, false, false, false] rfl rfl (by kernel_rfl) (fun _ _ _ h => h) (Or.inl ⟨by rfl, ?_⟩) ?_ ?_
          rotate_left
          · intro w'
            go_simp
            with_reducible rfl
          rotate_left
          · simp only [Act.put, List.setIfInBounds_toArray, List.set_cons_zero, List.set_cons_succ, i64_w, i32_w, u8_w, u32_w]
            rfl
          refine pure_ (i := 11) (N := some 63) (v := ?_) (a' := ?_) #[true, true, true, true, true, true, true, false, false, false, true, true, false, false, false, false, false] rfl rfl (by kernel_rfl) (fun _ _ _ h => h) (Or.inl ⟨by rfl, ?_⟩) ?_ ?_
          rotate_left
          · intro w'
            go_simp
            with_reducible rfl
          rotate_left
          · simp only [Act.put, List.setIfInBounds_toArray, List.set_cons_zero, List.set_cons_succ, i64_w, i32_w, u8_w, u32_w]
            rfl
          refine pure_ (i := 12) (N := some 64) (v := ?_) (a' := ?_) #[true, true, true, true, true, true, true, false, false, false, true, true, true, false, false, false, false] rfl rfl (by kernel_rfl) (fun _ _ _ h => h) (Or.inl ⟨by rfl, ?_⟩) ?_ ?_
          rotate_left
          · intro w'
            go_simp
            with_reducible rfl
          rotate_left
          · simp only [Act.put, List.setIfInBounds_toArray, List.set_cons_zero, List.set_cons_succ, i64_w, i32_w, u8_w, u32_w]
            rfl
          refine take_ (i := 13) (N := some 65) (v := ?_) (a' := ?_) #[true, true, true, true, true, true, true, false, false, false, true, true, true, true, false, false, false] rfl rfl (by kernel_rfl) (fun _ _ _ h => h) (Or.inl ⟨by rfl, ?_⟩) hHeld ?_ ?_
          rotate_left
          · rintro w' ⟨s0, s1, s2⟩
            go_simp
            with_reducible rfl
          rotate_left
          · simp only [Act.put, List.setIfInBounds_toArray, List.set_cons_zero, List.set_cons_succ, i64_w, i32_w, u8_w, u32_w]
            rfl
          refine one_ (i := 7) (N := some 59) #[true, true, true, true, true, true, true, true, false, false, true, true, true, true, false, false, false] rfl rfl (by kernel_rfl) (by decide) (fun K hK => ?_)
          refine goes_ Try.func19 (by kernel_rfl) rfl #[.int .i64 va, .int .i64 (y.length : Int)] (by rfl) rfl rfl (by (try simp only [List.map_toArray, List.map_cons, List.map_nil]); first | done | rfl | (simp only [List.length_drop, List.length_take]; rfl)) ?_
          with_reducible refine (thyrsuslaw1_within.calls va (y.length : Int) (q : Int) _ WI.out).mono ?_
          rintro e w' ⟨rfl, ⟨nd, rfl⟩⟩
          refine ⟨_, rfl, ?_⟩
          have HOe := Aside0.mk (Kd.R_drewN HOd.out nd)
          have HNe := Aside0.mk (pw_below_drewN HNd.out nd)
          clear HOd HNd
          have hx1 : (w10.drewN nd).cell? (ad1.add i) = some (.int .i64 va) := hHeld.1
          have hx2 : (w10.drewN nd).cell? (ad2.add i) = some (.int .u8 vb) := hHeld.2.1
          have hxc : (w10.drewN nd).cell? ⟨gc, q, none⟩ = some (.int .u8 vc) := hHeld.2.2
          generalize w10.drewN nd = w11 at HOe HNe hx1 hx2 hxc ⊢
          refine hK.out _ _ ⟨hx1, hx2, hxc⟩ (fun hHeld => ?_)
          clear hK K
          refine norm_ (a' := ?_) ?_ ?_
          rotate_left
          · show Act.put _ (some 59) _ = _
            simp only [Act.put, List.setIfInBounds_toArray, List.set_cons_zero, List.set_cons_succ, i64_w, i32_w, u8_w, u32_w]
            rfl
          refine pure_ (i := 8) (N := some 60) (v := ?_) (a' := ?_) #[true, true, true, true, true, true, true, true, true, false, true, true, true, true, false, false, false] rfl rfl (by kernel_rfl) (fun _ _ _ h => h) (Or.inl ⟨by rfl, ?_⟩) ?_ ?_
          rotate_left
          · intro w'
            go_simp
            with_reducible rfl
          rotate_left
          · simp only [Act.put, List.setIfInBounds_toArray, List.set_cons_zero, List.set_cons_succ, i64_w, i32_w, u8_w, u32_w]
            rfl
          refine take_ (i := 9) (N := some 61) (v := ?_) (a' := ?_) #[true, true, true, true, true, true, true, true, true, true, true, true, true, true, false, false, false] rfl rfl (by kernel_rfl) (fun _ _ _ h => h) (Or.inl ⟨by rfl, ?_⟩) hHeld ?_ ?_
          rotate_left
          · rintro w' ⟨s0, s1, s2⟩
            go_simp
            with_reducible rfl
          rotate_left
          · simp only [Act.put, List.setIfInBounds_toArray, List.set_cons_zero, List.set_cons_succ, i64_w, i32_w, u8_w, u32_w]
            rfl
          refine pure_ (i := 14) (N := some 66) (v := ?_) (a' := ?_) #[true, true, true, true, true, true, true, true, true, true, true, true, true, true, true, false, false] rfl rfl (by kernel_rfl) (fun _ _ _ h => h) (Or.inl ⟨by rfl, ?_⟩) ?_ ?_
          rotate_left
          · intro w'
            go_simp
            with_reducible rfl
          rotate_left
          · simp only [Act.put, List.setIfInBounds_toArray, List.set_cons_zero, List.set_cons_succ, i64_w, i32_w, u8_w, u32_w]
            rfl
          refine pure_ (i := 15) (N := some 67) (v := ?_) (a' := ?_) #[true, true, true, true, true, true, true, true, true, true, true, true, true, true, true, true, false] rfl rfl (by kernel_rfl) (fun _ _ _ h => h) (Or.inl ⟨by rfl, ?_⟩) ?_ ?_
          rotate_left
          · intro w'
            go_simp
            with_reducible rfl
          rotate_left
          · simp only [Act.put, List.setIfInBounds_toArray, List.set_cons_zero, List.set_cons_succ, i64_w, i32_w, u8_w, u32_w]
            rfl
          refine last_ (i := 16) (N := none) #[true, true, true, true, true, true, true, true, true, true, true, true, true, true, true, true, true] rfl rfl (by kernel_rfl) (by decide) (fun K hK => ?_)
          have hfc := (Kd.R_celln (0 : Int) HOe.out (q : Int) (by omega) (by have := QL.out; omega)).2
          rw [Int.toNat_natCast] at hfc
          refine skip_ (w1 := ?_) (by rfl) rfl ?_ ?_
          rotate_left
          · go_simp
            rfl
          refine hK.out _ _ ?_
          clear hK K
          refine done_ (by kernel_rfl) ?_
          clear hx1 hx2 hxc hfc QLn QLm hHeld d1 d2 d3 e1 e2 n1 n2
          go_wp2
          go_roundw
          case measure => simp [intOf]; omega
          case rel => exact ⟨i + 1, C.set q ((vc + vb) % 256), by omega, by go_num, by rw [List.length_set]; exact CL.out, ⟨fun z hz => (List.mem_or_eq_of_mem_set hz).elim (CB.out z) (fun e => by omega)⟩, ⟨by have h := Kd.R_putn HOe.out (q : Int) ((vc + vb) % 256); rw [Int.toNat_natCast] at h; exact h⟩, ⟨below_set HNe.out GC.out⟩⟩
        · have hex : ((((i : Int) < (at'.length : Int)) = False) ∧ ((i < at'.length) = False) ∧ (decide ((i : Int) < (at'.length : Int)) = false)) ∨ ((((i : Int) < (at'.length : Int)) = True) ∧ ((i < at'.length) = True) ∧ (decide ((i : Int) < (at'.length : Int)) = true) ∧ (((i : Int) < (by'.length : Int)) = False) ∧ ((i < by'.length) = False) ∧ (decide ((i : Int) < (by'.length : Int)) = false)) ∨ ((((i : Int) < (at'.length : Int)) = True) ∧ ((i < at'.length) = True) ∧ (decide ((i : Int) < (at'.length : Int)) = true) ∧ (((i : Int) < (by'.length : Int)) = True) ∧ ((i < by'.length) = True) ∧ (decide ((i : Int) < (by'.length : Int)) = true) ∧ (((i : Int) < 3) = False) ∧ ((i < 3) = False) ∧ (decide ((i : Int) < 3) = false)) := by
            by_cases q1 : i < at'.length
            · by_cases q2 : i < by'.length
              · exact .inr (.inr ⟨eq_true (by omega), eq_true (by omega), decide_eq_true (by omega), eq_true (by omega), eq_true (by omega), decide_eq_true (by omega), eq_false (by omega), eq_false (by omega), decide_eq_false (by omega)⟩)
              · exact .inr (.inl ⟨eq_true (by omega), eq_true (by omega), decide_eq_true (by omega), eq_false (by omega), eq_false (by omega), decide_eq_false (by omega)⟩)
            · exact .inl ⟨eq_false (by omega), eq_false (by omega), decide_eq_false (by omega)⟩
          clear hgo
          have HBr := Aside0.mk (BA.out _ HN.out)
          have DR := Kd.R_reads' HO.out
          have YCr := Aside0.mk (Kd.C_below YC.out HN.out)
          have RCr := Aside0.mk (Kd.C_below C4.out HBr.out)
          have DL := Aside0.mk DR.2.1
          have DC0 := Aside0.mk DR.2.2
          clear DR HO HN
          by_cases hc3 : cut.tmod 3 = 1
          · have hc4 : (cut.tmod 3 == 1) = true := by simpa using hc3
            have hc5 : (cut.tmod 3 = 1) = True := eq_true hc3
            obtain ⟨m, hm⟩ : ∃ m : Nat, cut.tdiv 3 % ((y.length : Int) + 1) = (m : Int) := Int.eq_ofNat_of_zero_le (Int.emod_nonneg _ (by omega))
            have hml : m ≤ y.length := by have h1 := Int.emod_lt_of_pos (cut.tdiv 3) (show (0 : Int) < (y.length : Int) + 1 by omega); omega
            have hq3 : -9223372036854775808 ≤ cut.tdiv 3 ∧ cut.tdiv 3 ≤ 9223372036854775807 := by
              have h1 := HCUT.out
              rcases Int.le_total 0 cut with h2 | h2
              · rw [Int.tdiv_eq_ediv_of_nonneg h2]
                omega
              · have h3 : cut.tdiv 3 = -((-cut).tdiv 3) := by rw [Int.neg_tdiv, Int.neg_neg]
                rw [h3, Int.tdiv_eq_ediv_of_nonneg (by omega)]
                omega
            have WI := Aside0.mk (show thyrsuslaw1_within.f (cut.tdiv 3) ((y.length : Int) + 1) = some (m : Int) by rw [within_val hq3 (by omega) (by have := YS.out; omega), hm])
            have ML := Aside0.mk hml
            have hq4 : wrap64 (cut.tdiv 3) = cut.tdiv 3 := wrap_id hq3
            have hy1 : wrap64 ((y.length : Int) + 1) = (y.length : Int) + 1 := wrap_id (by have := YS.out; omega)
            clear hm hml hq3
            have DLn : Aside0 ((C.take m).length = m) := ⟨by rw [List.length_take]; have h1 := ML.out; have h2 := CL.out; omega⟩
            have DM : Aside0 (m ≤ 13650) := ⟨Nat.le_trans ML.out YS.out.2⟩
            have DB : Aside0 (∀ z ∈ C.take m, 0 ≤ z ∧ z ≤ 255) := ⟨fun z hz => CB.out z (List.mem_of_mem_take hz)⟩
            have DL_ := DL
            clear DL
            have DL : Aside0 (m ≤ cc) := ⟨Nat.le_trans ML.out DL_.out⟩
            obtain ⟨i0, hi0, _, hsz0, _⟩ := info_parts info5
            have hcut_ := cut_to (P := Try.prog) 31 5 .i64 Try.underlying31 hi0 (some ⟨gc, 0, none⟩) y.length cc (m : Int) (by omega) (by have := ML.out; omega) DL_.out
            rw [Int.toNat_natCast] at hcut_
            have m1 : ((m : Int) ≤ (y.length : Int)) = True := eq_true (by have := ML.out; omega)
            have m2 : (m ≤ y.length) = True := eq_true ML.out
            clear hi0 hsz0
            rcases hex with ⟨d1, d2, d3⟩ | ⟨d1, d2, d3, d4, d5, d6⟩ | ⟨d1, d2, d3, d4, d5, d6, d7, d8, d9⟩
            all_goals
              go_wp2_with (first | (go_at_call 19; refine (thyrsuslaw1_within.calls (cut.tdiv 3) ((y.length : Int) + 1) (m : Int) _ WI.out).mono ?_; rintro e w' ⟨rfl, ⟨nd, rfl⟩⟩; have DCa := Aside0.mk (Kd.C_drewN (Kd.C_take DC0.out (by have h1 := ML.out; have h2 := CL.out; omega : m ≤ C.length)) nd); have YCr_ := Aside0.mk (Kd.C_drewN YCr.out nd); have RCr_ := Aside0.mk (Kd.C_drewN RCr.out nd); have HBr_ := Aside0.mk (pw_below_drewN HBr.out nd); clear YCr RCr HBr DC0; have YCr := YCr_; have RCr := RCr_; have HBr := HBr_; clear YCr_ RCr_ HBr_; generalize wr.drewN nd = wd at DCa YCr RCr HBr ⊢) | ((with_reducible refine gate_dst (N := 80) rfl ?_); refine Kd.R_lit (Kd.int .u8) _ 5 ?hg (N := 80) ?hd (xs := ([] : List Int)) (inner := []) (ok := fun _ => True) (okp := fun _ => True) ?hr ?hp (fun _ hk => hk) trivial (Below.refl _ _) (Nat.le_refl _) (by simp) ?_; (case hd => rfl); (case hg => rfl); (case hr => first | (go_simp; done) | (go_simp; rfl)); (case hp => exact (Reps.none _ _)); intro v5 w12 ho_ hb_ hg_ hnew_; clear hg_ hnew_; have HO := Aside0.mk ho_; have HN := Aside0.mk hb_; clear ho_ hb_) | ((with_reducible refine gate_builtin (b := .append) (xs := #[.tmp 80, .tmp 81]) rfl ?_); at_builtin; refine Kd.R_append_rows (Kd.int .u8) (w0 := wd) wd.heap.size rfl (.tmp 80) (.tmp 81) 31 5 (.int .u8 0) 1 rfl Try.underlying31 info5 rfl (by decide) (by omega) v5 ([] : List Int) y _ _ _ (fun _ => True) (fun _ => False) rfl rfl ?aO ?aR (fun _ _ h => h) (fun _ h => h.elim) ?aF ?aB ?aS ?aL ?_; (case aR => exact Kd.C_below YCr.out HN.out); (case aB => exact HN.out); (case aF => exact (fun _ _ => trivial)); (case aO => exact HO.out); (case aS => exact HN.out.size); (case aL => have := YS.out; simp; omega); intro v6 w13 ho_ hb_ hg_ hat_; clear hg_ hat_ HO HN; have HO := Aside0.mk ho_; have HN := Aside0.mk hb_; clear ho_ hb_) | ((with_reducible refine gate_builtin (b := .append) (xs := #[.tmp 82, .tmp 83]) rfl ?_); at_builtin; refine Kd.R_append_rows (Kd.int .u8) (w0 := wd) wd.heap.size rfl (.tmp 82) (.tmp 83) 31 5 (.int .u8 0) 1 rfl Try.underlying31 info5 rfl (by decide) (by omega) v6 ([] ++ y) raw _ _ _ (fun _ => True) (fun _ => False) rfl rfl ?aO ?aR (fun _ _ h => h) (fun _ h => h.elim) ?aF ?aB ?aS ?aL ?_; (case aR => exact Kd.C_below RCr.out HN.out); (case aB => exact HN.out); (case aF => exact (fun _ _ => trivial)); (case aO => exact HO.out); (case aS => exact HN.out.size); (case aL => have := YS.out; have := HR.out; simp; omega); intro v7 w14 ho_ hb_ hg_ hat_; clear hg_ hat_ HO HN; have HO := Aside0.mk ho_; have HN := Aside0.mk hb_; clear ho_ hb_; obtain ⟨Az, cz, ez⟩ := Kd.R_slice HO.out; subst ez) | fail)
              have HO_ := Aside0.mk (show Kd.R (Kd.int .u8) 5 w14 wd.heap.size (fun _ => True) (.slice Az (y ++ raw).length cz) (y ++ raw) from HO.out)
              clear HO
              obtain ⟨gR, hgR⟩ : ∃ g, g = w14.heap.size := ⟨_, rfl⟩
              have KR := blk_new w14 (.cells #[.slice (some ⟨gc, 0, none⟩) m cc, .slice Az (y.length + raw.length) cz, .slice A4 raw.length c4] 31 (0, 0))
              have BR := below_alloc (Below.refl w14.heap.size w14) (.cells #[.slice (some ⟨gc, 0, none⟩) m cc, .slice Az (y.length + raw.length) cz, .slice A4 raw.length c4] 31 (0, 0))
              rw [← hgR] at KR ⊢
              generalize hwR : w14.alloc (.cells #[.slice (some ⟨gc, 0, none⟩) m cc, .slice Az (y.length + raw.length) cz, .slice A4 raw.length c4] 31 (0, 0)) = wR at KR BR ⊢
              have ROW : Aside0 (∀ i : Nat, i < 3 → ∃ (Ar : Option Addr) (cr : Nat) (l : List Int), wR.cell? ⟨gR, i, none⟩ = some (.slice Ar l.length cr) ∧ l.length ≤ cr ∧ l.length ≤ 20000 ∧ (∀ z ∈ l, 0 ≤ z ∧ z ≤ 255) ∧ Kd.C (Kd.int .u8) wR Ar l.length l) := ⟨fun i hi => by
                have hh : i = 0 ∨ i = 1 ∨ i = 2 := by omega
                have bW : Below wd.heap.size wd wR := HN.out.trans (BR.mono HN.out.size)
                have ys := YS.out
                have hr9 := HR.out
                rcases hh with rfl | rfl | rfl
                · exact ⟨_, cc, (C.take m), by rw [DLn.out]; exact (blk_cell KR 0).trans rfl, by rw [DLn.out]; exact DL.out, by rw [DLn.out]; have := DM.out; omega, DB.out, Kd.C_below DCa.out bW⟩
                · exact ⟨_, cz, y ++ raw, by rw [List.length_append]; exact (blk_cell KR 1).trans rfl, (Kd.R_reads' HO_.out).2.1, by simp; omega, fun z hz => (List.mem_append.1 hz).elim (YB.out z) (R4.out z), Kd.C_below (Kd.R_reads' HO_.out).2.2 BR⟩
                · exact ⟨_, c4, raw, (blk_cell KR 2).trans rfl, L4.out, by omega, R4.out, Kd.C_below RCr.out bW⟩⟩
              have GR : Aside0 (gR < wR.heap.size) := ⟨blk_lt KR⟩
              have BWR := Aside0.mk (show Below w.heap.size w wR from HBr.out.trans ((HN.out.trans (BR.mono HN.out.size)).mono HBr.out.size))
              clear HO_ HN KR BR hgR
              go_loopw [15] (fun v15 w' => ∃ i : Nat, i ≤ 3 ∧ v15 = .int .i64 i ∧ Aside0 (Below wR.heap.size wR w')) (fun v15 _ => 3 - (intOf v15).toNat)
              case atStart => exact ⟨0, by omega, rfl, ⟨Below.refl _ _⟩⟩
              case round =>
                obtain ⟨i, hi, rfl, HX⟩ := hrel
                by_cases hlt : i < 3
                · obtain ⟨Ar, cr, l, hrow0, hlr, hlb, hlB, hlC⟩ := ROW.out i hlt
                  have ROWc := Aside0.mk hrow0
                  have ROWl := Aside0.mk hlr
                  have ROWC := Aside0.mk hlC
                  have LB := Aside0.mk hlb
                  have PR := Aside0.mk (@parse_rd l hlB)
                  have PR2 := Aside0.mk (@rparse_rd l hlB)
                  obtain ⟨r, hr, same⟩ := same_rd (x := (rdParse l).1) (y := (rdParse l).1) (by have := rdParse_size hlB; omega)
                  have r1 : r = true := hr.2 rfl
                  subst r1
                  have SAME := Aside0.mk @same
                  clear hr same hrow0 hlr hlb hlB hlC
                  generalize (rdParse l).1 = T at PR PR2 SAME
                  generalize (rdParse l).2 = E at PR PR2
                  have hrow : wr.cell? ⟨gR, i, none⟩ = some (.slice Ar l.length cr) := (HX.out.cell (World.block_lt_of_cell? _ _ ROWc.out)).trans ROWc.out
                  have p1 : ((i : Int) < 3) = True := eq_true (by omega)
                  have p2 : (i < 3) = True := eq_true (by omega)
                  have p3 : decide ((i : Int) < 3) = true := decide_eq_true (by omega)
                  go_wp2_with (first | ((with_reducible refine gate_dst (N := 92) rfl ?_); refine Kd.R_lit (Kd.int .u8) _ 5 ?hg (N := 92) ?hd (xs := ([] : List Int)) (inner := []) (ok := fun _ => True) (okp := fun _ => True) ?hr ?hp (fun _ hk => hk) trivial (Below.refl _ _) (Nat.le_refl _) (by simp) ?_; (case hd => rfl); (case hg => rfl); (case hr => first | (go_simp; done) | (go_simp; rfl)); (case hp => exact (Reps.none _ _)); intro v9 w19 ho_ hb_ hg_ hnew_; clear hg_ hnew_; have HO := Aside0.mk ho_; have HN := Aside0.mk hb_; clear ho_ hb_; have hrow2 : w19.cell? ⟨gR, i, none⟩ = some (.slice Ar l.length cr) := (HN.out.cell (World.block_lt_of_cell? _ _ hrow)).trans hrow; clear hrow) | ((with_reducible refine gate_builtin (b := .append) (xs := #[.tmp 92, .tmp 96]) rfl ?_); at_builtin; refine Kd.R_append_rows (Kd.int .u8) (w0 := wr) wr.heap.size rfl (.tmp 92) (.tmp 96) 31 5 (.int .u8 0) 1 rfl Try.underlying31 info5 rfl (by decide) (by omega) v9 ([] : List Int) l _ _ _ (fun _ => True) (fun _ => False) rfl rfl ?aO ?aR (fun _ _ h => h) (fun _ h => h.elim) ?aF ?aB ?aS ?aL ?_; (case aR => exact Kd.C_below (Kd.C_below ROWC.out HX.out) HN.out); (case aB => exact HN.out); (case aF => exact (fun _ _ => trivial)); (case aO => exact HO.out); (case aS => exact HN.out.size); (case aL => have := LB.out; simp; omega); intro v10 w20 ho_ hb_ hg_ hat_; clear hg_ hat_ HO HN; have HO := Aside0.mk ho_; have HN := Aside0.mk hb_; clear ho_ hb_; clear hrow2; obtain ⟨Aw, cw, ew⟩ := Kd.R_slice HO.out; subst ew; have HO_ := Aside0.mk (show Kd.R (Kd.int .u8) 5 w20 wr.heap.size (fun _ => True) (.slice Aw l.length cw) l from HO.out); clear HO; have HO := HO_; clear HO_) | (go_at_call 16; refine (PR.out (Kd.R_reads' HO.out).2.2 (Kd.R_reads' HO.out).2.1).mono ?_; rintro e w21 ⟨Ap, cp, rfl, hlp, hCp, hb⟩; have PL := Aside0.mk hlp; have PC := Aside0.mk hCp; have HX_ := Aside0.mk (HX.out.trans ((HN.out.trans (hb.mono HN.out.size)).mono HX.out.size)); clear HX; have HX := HX_; clear HX_; have HX21 := Aside0.mk HX.out.size; clear hlp hCp hb HO HN) | ((with_reducible refine gate_dst (N := 16) rfl ?_); refine box_event ?hg (N := 16) ?hd (cs := #[.int .i64 0, .int .i64 0, .slice none 0 0]) (t := 29) ?hr ?_; (case hd => rfl); (case hg => rfl); (case hr => first | (go_simp; done) | (go_simp; rfl)); intro g16 hg_ w22 hbox hb_; have X16 := Aside0.mk hbox; have GE := Aside0.mk (Nat.le_of_eq hg_.symm); have HY := Aside0.mk hb_; have HX_ := Aside0.mk (HX.out.trans (hb_.mono HX.out.size)); clear HX; have HX := HX_; clear HX_; clear hbox hb_ hg_; have x0 : w22.cell? ⟨g16, 0, none⟩ = some (.int .i64 0) := (blk_cell X16.out 0).trans rfl; have x1 : w22.cell? ⟨g16, 1, none⟩ = some (.int .i64 0) := (blk_cell X16.out 1).trans rfl; have x2 : w22.cell? ⟨g16, 2, none⟩ = some (.slice none 0 0) := (blk_cell X16.out 2).trans rfl; have fx0 := blk_frozen X16.out 0; have fx1 := blk_frozen X16.out 1; have fx2 := blk_frozen X16.out 2; have nG : g16 ≠ gR := (by have h1 := GE.out; have h2 := GR.out; have h3 := HX21.out; omega); have nG' : gR ≠ g16 := Ne.symm nG; have hrow : w22.cell? ⟨gR, i, none⟩ = some (.slice Ar l.length cr) := (HX.out.cell (World.block_lt_of_cell? _ _ ROWc.out)).trans ROWc.out) | (go_at_call 17; generalize hw23 : World.setCell (World.setCell (World.setCell w22 ⟨g16, 0, none⟩ _) ⟨g16, 1, none⟩ _) ⟨g16, 2, none⟩ _ = w23; have GER := Aside0.mk (Nat.le_trans HX21.out GE.out); have X23 := Aside0.mk (show w23.heap[g16]? = some (.cells #[.int .i64 T.f0, .int .i64 T.f1, .slice Ap T.f2.length cp] 29 (0, 0)) by rw [← hw23]; exact blk_put (blk_put (blk_put X16.out 0 _ rfl) 1 _ rfl) 2 _ rfl); have HY23 := Aside0.mk (show Below w21.heap.size w21 w23 by rw [← hw23]; exact below_set (below_set (below_set HY.out GE.out) GE.out) GE.out); have HX23 := Aside0.mk (show Below wR.heap.size wR w23 by rw [← hw23]; exact below_set (below_set (below_set HX.out GER.out) GER.out) GER.out); clear hw23 HY HX X16 x0 x1 x2 fx0 fx1 fx2 hrow nG nG'; refine (PR2.out (Kd.C_below ROWC.out HX23.out) ROWl.out).mono ?_; rintro e w24 ⟨Aq, cq, rfl, hlq, hCq, hb⟩; have QLn := Aside0.mk hlq; have QC := Aside0.mk hCq; have HY := Aside0.mk (HY23.out.trans (hb.mono HY23.out.size)); have HX := Aside0.mk (HX23.out.trans (hb.mono HX23.out.size)); have X16 := Aside0.mk (blk_below X23.out hb); have HY24 := Aside0.mk HY.out.size; clear hlq hCq hb HY23 HX23 X23) | ((with_reducible refine gate_dst (N := 18) rfl ?_); refine box_event ?hg (N := 18) ?hd (cs := #[.int .i64 0, .int .i64 0, .slice none 0 0]) (t := 29) ?hr ?_; (case hd => rfl); (case hg => rfl); (case hr => first | (go_simp; done) | (go_simp; rfl)); intro g18 hg_ w25 hbox hb_; have X18 := Aside0.mk hbox; have GE18 := Aside0.mk (Nat.le_of_eq hg_.symm); have HZ := Aside0.mk hb_; have X16_ := Aside0.mk (blk_below X16.out hb_); have LT16 := Aside0.mk (blk_lt X16.out); clear X16; have X16 := X16_; clear X16_; have HX_ := Aside0.mk (HX.out.trans (hb_.mono HX.out.size)); clear HX; have HX := HX_; clear HX_; have HY_ := Aside0.mk (HY.out.trans (hb_.mono HY.out.size)); clear HY; have HY := HY_; clear HY_; clear hbox hb_ hg_; have y0 : w25.cell? ⟨g18, 0, none⟩ = some (.int .i64 0) := (blk_cell X18.out 0).trans rfl; have y1 : w25.cell? ⟨g18, 1, none⟩ = some (.int .i64 0) := (blk_cell X18.out 1).trans rfl; have y2 : w25.cell? ⟨g18, 2, none⟩ = some (.slice none 0 0) := (blk_cell X18.out 2).trans rfl; have fy0 := blk_frozen X18.out 0; have fy1 := blk_frozen X18.out 1; have fy2 := blk_frozen X18.out 2; have x0 : w25.cell? ⟨g16, 0, none⟩ = some (.int .i64 T.f0) := (blk_cell X16.out 0).trans rfl; have x1 : w25.cell? ⟨g16, 1, none⟩ = some (.int .i64 T.f1) := (blk_cell X16.out 1).trans rfl; have x2 : w25.cell? ⟨g16, 2, none⟩ = some (.slice Ap T.f2.length cp) := (blk_cell X16.out 2).trans rfl; have nH : g18 ≠ g16 := (by have h1 := GE18.out; have h2 := LT16.out; omega); have nH' : g16 ≠ g18 := Ne.symm nH) | (go_at_call 14; generalize hw26 : World.setCell (World.setCell (World.setCell w25 ⟨g18, 0, none⟩ _) ⟨g18, 1, none⟩ _) ⟨g18, 2, none⟩ _ = w26; have G1 := Aside0.mk (show w21.heap.size ≤ g18 by have h1 := GE18.out; have h2 := HY24.out; omega); have G2 := Aside0.mk (show wR.heap.size ≤ g18 by have h1 := G1.out; have h2 := HX21.out; omega); have HY26 := Aside0.mk (show Below w21.heap.size w21 w26 by rw [← hw26]; exact below_set (below_set (below_set HY.out G1.out) G1.out) G1.out); have HX26 := Aside0.mk (show Below wR.heap.size wR w26 by rw [← hw26]; exact below_set (below_set (below_set HX.out G2.out) G2.out) G2.out); have HZ26 := Aside0.mk (show Below w24.heap.size w24 w26 by rw [← hw26]; exact below_set (below_set (below_set HZ.out GE18.out) GE18.out) GE18.out); clear hw26 HY HX HZ X16 X18 x0 x1 x2 y0 y1 y2 fy0 fy1 fy2 nH nH'; refine (SAME.out (Kd.C_below PC.out HY26.out) PL.out (Kd.C_below QC.out HZ26.out) QLn.out).mono ?_; rintro e w27 ⟨rfl, hb⟩; have HX := Aside0.mk (HX26.out.trans (hb.mono HX26.out.size)); clear hb HX26 HY26 HZ26) | fail)
                  go_roundw
                  case measure => simp [intOf]; omega
                  case rel => exact ⟨i + 1, by omega, by go_num, HX⟩
                · have p1 : ((i : Int) < 3) = False := eq_false (by omega)
                  have p2 : (i < 3) = False := eq_false (by omega)
                  have p3 : decide ((i : Int) < 3) = false := decide_eq_false (by omega)
                  go_wp2
                  go_ret
                  exact ⟨rfl, BWR.out.trans (HX.out.mono BWR.out.size)⟩
          · have hc4 : (cut.tmod 3 == 1) = false := by simpa using hc3
            have DCa := Aside0.mk (show Kd.C (Kd.int .u8) wr (some ⟨gc, 0, none⟩) C.length C from DC0.out)
            have DLn : Aside0 (C.length = y.length) := CL
            have DM : Aside0 (y.length ≤ 13650) := ⟨YS.out.2⟩
            have DB := CB
            rcases hex with ⟨d1, d2, d3⟩ | ⟨d1, d2, d3, d4, d5, d6⟩ | ⟨d1, d2, d3, d4, d5, d6, d7, d8, d9⟩
            all_goals
              go_wp2_with (first | ((with_reducible refine gate_dst (N := 80) rfl ?_); refine Kd.R_lit (Kd.int .u8) _ 5 ?hg (N := 80) ?hd (xs := ([] : List Int)) (inner := []) (ok := fun _ => True) (okp := fun _ => True) ?hr ?hp (fun _ hk => hk) trivial (Below.refl _ _) (Nat.le_refl _) (by simp) ?_; (case hd => rfl); (case hg => rfl); (case hr => first | (go_simp; done) | (go_simp; rfl)); (case hp => exact (Reps.none _ _)); intro v5 w12 ho_ hb_ hg_ hnew_; clear hg_ hnew_; have HO := Aside0.mk ho_; have HN := Aside0.mk hb_; clear ho_ hb_) | ((with_reducible refine gate_builtin (b := .append) (xs := #[.tmp 80, .tmp 81]) rfl ?_); at_builtin; refine Kd.R_append_rows (Kd.int .u8) (w0 := wr) wr.heap.size rfl (.tmp 80) (.tmp 81) 31 5 (.int .u8 0) 1 rfl Try.underlying31 info5 rfl (by decide) (by omega) v5 ([] : List Int) y _ _ _ (fun _ => True) (fun _ => False) rfl rfl ?aO ?aR (fun _ _ h => h) (fun _ h => h.elim) ?aF ?aB ?aS ?aL ?_; (case aR => exact Kd.C_below YCr.out HN.out); (case aB => exact HN.out); (case aF => exact (fun _ _ => trivial)); (case aO => exact HO.out); (case aS => exact HN.out.size); (case aL => have := YS.out; simp; omega); intro v6 w13 ho_ hb_ hg_ hat_; clear hg_ hat_ HO HN; have HO := Aside0.mk ho_; have HN := Aside0.mk hb_; clear ho_ hb_) | ((with_reducible refine gate_builtin (b := .append) (xs := #[.tmp 82, .tmp 83]) rfl ?_); at_builtin; refine Kd.R_append_rows (Kd.int .u8) (w0 := wr) wr.heap.size rfl (.tmp 82) (.tmp 83) 31 5 (.int .u8 0) 1 rfl Try.underlying31 info5 rfl (by decide) (by omega) v6 ([] ++ y) raw _ _ _ (fun _ => True) (fun _ => False) rfl rfl ?aO ?aR (fun _ _ h => h) (fun _ h => h.elim) ?aF ?aB ?aS ?aL ?_; (case aR => exact Kd.C_below RCr.out HN.out); (case aB => exact HN.out); (case aF => exact (fun _ _ => trivial)); (case aO => exact HO.out); (case aS => exact HN.out.size); (case aL => have := YS.out; have := HR.out; simp; omega); intro v7 w14 ho_ hb_ hg_ hat_; clear hg_ hat_ HO HN; have HO := Aside0.mk ho_; have HN := Aside0.mk hb_; clear ho_ hb_; obtain ⟨Az, cz, ez⟩ := Kd.R_slice HO.out; subst ez) | fail)
              have HO_ := Aside0.mk (show Kd.R (Kd.int .u8) 5 w14 wr.heap.size (fun _ => True) (.slice Az (y ++ raw).length cz) (y ++ raw) from HO.out)
              clear HO
              obtain ⟨gR, hgR⟩ : ∃ g, g = w14.heap.size := ⟨_, rfl⟩
              have KR := blk_new w14 (.cells #[.slice (some ⟨gc, 0, none⟩) y.length cc, .slice Az (y.length + raw.length) cz, .slice A4 raw.length c4] 31 (0, 0))
              have BR := below_alloc (Below.refl w14.heap.size w14) (.cells #[.slice (some ⟨gc, 0, none⟩) y.length cc, .slice Az (y.length + raw.length) cz, .slice A4 raw.length c4] 31 (0, 0))
              rw [← hgR] at KR ⊢
              generalize hwR : w14.alloc (.cells #[.slice (some ⟨gc, 0, none⟩) y.length cc, .slice Az (y.length + raw.length) cz, .slice A4 raw.length c4] 31 (0, 0)) = wR at KR BR ⊢
              have ROW : Aside0 (∀ i : Nat, i < 3 → ∃ (Ar : Option Addr) (cr : Nat) (l : List Int), wR.cell? ⟨gR, i, none⟩ = some (.slice Ar l.length cr) ∧ l.length ≤ cr ∧ l.length ≤ 20000 ∧ (∀ z ∈ l, 0 ≤ z ∧ z ≤ 255) ∧ Kd.C (Kd.int .u8) wR Ar l.length l) := ⟨fun i hi => by
                have hh : i = 0 ∨ i = 1 ∨ i = 2 := by omega
                have bW : Below wr.heap.size wr wR := HN.out.trans (BR.mono HN.out.size)
                have ys := YS.out
                have hr9 := HR.out
                rcases hh with rfl | rfl | rfl
                · exact ⟨_, cc, C, by rw [DLn.out]; exact (blk_cell KR 0).trans rfl, by rw [DLn.out]; exact DL.out, by rw [DLn.out]; have := DM.out; omega, DB.out, Kd.C_below DCa.out bW⟩
                · exact ⟨_, cz, y ++ raw, by rw [List.length_append]; exact (blk_cell KR 1).trans rfl, (Kd.R_reads' HO_.out).2.1, by simp; omega, fun z hz => (List.mem_append.1 hz).elim (YB.out z) (R4.out z), Kd.C_below (Kd.R_reads' HO_.out).2.2 BR⟩
                · exact ⟨_, c4, raw, (blk_cell KR 2).trans rfl, L4.out, by omega, R4.out, Kd.C_below RCr.out bW⟩⟩
              have GR : Aside0 (gR < wR.heap.size) := ⟨blk_lt KR⟩
              have BWR := Aside0.mk (show Below w.heap.size w wR from HBr.out.trans ((HN.out.trans (BR.mono HN.out.size)).mono HBr.out.size))
              clear HO_ HN KR BR hgR
              go_loopw [15] (fun v15 w' => ∃ i : Nat, i ≤ 3 ∧ v15 = .int .i64 i ∧ Aside0 (Below wR.heap.size wR w')) (fun v15 _ => 3 - (intOf v15).toNat)
              case atStart => exact ⟨0, by omega, rfl, ⟨Below.refl _ _⟩⟩
              case round =>
                obtain ⟨i, hi, rfl, HX⟩ := hrel
                by_cases hlt : i < 3
                · obtain ⟨Ar, cr, l, hrow0, hlr, hlb, hlB, hlC⟩ := ROW.out i hlt
                  have ROWc := Aside0.mk hrow0
                  have ROWl := Aside0.mk hlr
                  have ROWC := Aside0.mk hlC
                  have LB := Aside0.mk hlb
                  have PR := Aside0.mk (@parse_rd l hlB)
                  have PR2 := Aside0.mk (@rparse_rd l hlB)
                  obtain ⟨r, hr, same⟩ := same_rd (x := (rdParse l).1) (y := (rdParse l).1) (by have := rdParse_size hlB; omega)
                  have r1 : r = true := hr.2 rfl
                  subst r1
                  have SAME := Aside0.mk @same
                  clear hr same hrow0 hlr hlb hlB hlC
                  generalize (rdParse l).1 = T at PR PR2 SAME
                  generalize (rdParse l).2 = E at PR PR2
                  have hrow : wr.cell? ⟨gR, i, none⟩ = some (.slice Ar l.length cr) := (HX.out.cell (World.block_lt_of_cell? _ _ ROWc.out)).trans ROWc.out
                  have p1 : ((i : Int) < 3) = True := eq_true (by omega)
                  have p2 : (i < 3) = True := eq_true (by omega)
                  have p3 : decide ((i : Int) < 3) = true := decide_eq_true (by omega)
                  go_wp2_with (first | ((with_reducible refine gate_dst (N := 92) rfl ?_); refine Kd.R_lit (Kd.int .u8) _ 5 ?hg (N := 92) ?hd (xs := ([] : List Int)) (inner := []) (ok := fun _ => True) (okp := fun _ => True) ?hr ?hp (fun _ hk => hk) trivial (Below.refl _ _) (Nat.le_refl _) (by simp) ?_; (case hd => rfl); (case hg => rfl); (case hr => first | (go_simp; done) | (go_simp; rfl)); (case hp => exact (Reps.none _ _)); intro v9 w19 ho_ hb_ hg_ hnew_; clear hg_ hnew_; have HO := Aside0.mk ho_; have HN := Aside0.mk hb_; clear ho_ hb_; have hrow2 : w19.cell? ⟨gR, i, none⟩ = some (.slice Ar l.length cr) := (HN.out.cell (World.block_lt_of_cell? _ _ hrow)).trans hrow; clear hrow) | ((with_reducible refine gate_builtin (b := .append) (xs := #[.tmp 92, .tmp 96]) rfl ?_); at_builtin; refine Kd.R_append_rows (Kd.int .u8) (w0 := wr) wr.heap.size rfl (.tmp 92) (.tmp 96) 31 5 (.int .u8 0) 1 rfl Try.underlying31 info5 rfl (by decide) (by omega) v9 ([] : List Int) l _ _ _ (fun _ => True) (fun _ => False) rfl rfl ?aO ?aR (fun _ _ h => h) (fun _ h => h.elim) ?aF ?aB ?aS ?aL ?_; (case aR => exact Kd.C_below (Kd.C_below ROWC.out HX.out) HN.out); (case aB => exact HN.out); (case aF => exact (fun _ _ => trivial)); (case aO => exact HO.out); (case aS => exact HN.out.size); (case aL => have := LB.out; simp; omega); intro v10 w20 ho_ hb_ hg_ hat_; clear hg_ hat_ HO HN; have HO := Aside0.mk ho_; have HN := Aside0.mk hb_; clear ho_ hb_; clear hrow2; obtain ⟨Aw, cw, ew⟩ := Kd.R_slice HO.out; subst ew; have HO_ := Aside0.mk (show Kd.R (Kd.int .u8) 5 w20 wr.heap.size (fun _ => True) (.slice Aw l.length cw) l from HO.out); clear HO; have HO := HO_; clear HO_) | (go_at_call 16; refine (PR.out (Kd.R_reads' HO.out).2.2 (Kd.R_reads' HO.out).2.1).mono ?_; rintro e w21 ⟨Ap, cp, rfl, hlp, hCp, hb⟩; have PL := Aside0.mk hlp; have PC := Aside0.mk hCp; have HX_ := Aside0.mk (HX.out.trans ((HN.out.trans (hb.mono HN.out.size)).mono HX.out.size)); clear HX; have HX := HX_; clear HX_; have HX21 := Aside0.mk HX.out.size; clear hlp hCp hb HO HN) | ((with_reducible refine gate_dst (N := 16) rfl ?_); refine box_event ?hg (N := 16) ?hd (cs := #[.int .i64 0, .int .i64 0, .slice none 0 0]) (t := 29) ?hr ?_; (case hd => rfl); (case hg => rfl); (case hr => first | (go_simp; done) | (go_simp; rfl)); intro g16 hg_ w22 hbox hb_; have X16 := Aside0.mk hbox; have GE := Aside0.mk (Nat.le_of_eq hg_.symm); have HY := Aside0.mk hb_; have HX_ := Aside0.mk (HX.out.trans (hb_.mono HX.out.size)); clear HX; have HX := HX_; clear HX_; clear hbox hb_ hg_; have x0 : w22.cell? ⟨g16, 0, none⟩ = some (.int .i64 0) := (blk_cell X16.out 0).trans rfl; have x1 : w22.cell? ⟨g16, 1, none⟩ = some (.int .i64 0) := (blk_cell X16.out 1).trans rfl; have x2 : w22.cell? ⟨g16, 2, none⟩ = some (.slice none 0 0) := (blk_cell X16.out 2).trans rfl; have fx0 := blk_frozen X16.out 0; have fx1 := blk_frozen X16.out 1; have fx2 := blk_frozen X16.out 2; have nG : g16 ≠ gR := (by have h1 := GE.out; have h2 := GR.out; have h3 := HX21.out; omega); have nG' : gR ≠ g16 := Ne.symm nG; have hrow : w22.cell? ⟨gR, i, none⟩ = some (.slice Ar l.length cr) := (HX.out.cell (World.block_lt_of_cell? _ _ ROWc.out)).trans ROWc.out) | (go_at_call 17; generalize hw23 : World.setCell (World.setCell (World.setCell w22 ⟨g16, 0, none⟩ _) ⟨g16, 1, none⟩ _) ⟨g16, 2, none⟩ _ = w23; have GER := Aside0.mk (Nat.le_trans HX21.out GE.out); have X23 := Aside0.mk (show w23.heap[g16]? = some (.cells #[.int .i64 T.f0, .int .i64 T.f1, .slice Ap T.f2.length cp] 29 (0, 0)) by rw [← hw23]; exact blk_put (blk_put (blk_put X16.out 0 _ rfl) 1 _ rfl) 2 _ rfl); have HY23 := Aside0.mk (show Below w21.heap.size w21 w23 by rw [← hw23]; exact below_set (below_set (below_set HY.out GE.out) GE.out) GE.out); have HX23 := Aside0.mk (show Below wR.heap.size wR w23 by rw [← hw23]; exact below_set (below_set (below_set HX.out GER.out) GER.out) GER.out); clear hw23 HY HX X16 x0 x1 x2 fx0 fx1 fx2 hrow nG nG'; refine (PR2.out (Kd.C_below ROWC.out HX23.out) ROWl.out).mono ?_; rintro e w24 ⟨Aq, cq, rfl, hlq, hCq, hb⟩; have QLn := Aside0.mk hlq; have QC := Aside0.mk hCq; have HY := Aside0.mk (HY23.out.trans (hb.mono HY23.out.size)); have HX := Aside0.mk (HX23.out.trans (hb.mono HX23.out.size)); have X16 := Aside0.mk (blk_below X23.out hb); have HY24 := Aside0.mk HY.out.size; clear hlq hCq hb HY23 HX23 X23) | ((with_reducible refine gate_dst (N := 18) rfl ?_); refine box_event ?hg (N := 18) ?hd (cs := #[.int .i64 0, .int .i64 0, .slice none 0 0]) (t := 29) ?hr ?_; (case hd => rfl); (case hg => rfl); (case hr => first | (go_simp; done) | (go_simp; rfl)); intro g18 hg_ w25 hbox hb_; have X18 := Aside0.mk hbox; have GE18 := Aside0.mk (Nat.le_of_eq hg_.symm); have HZ := Aside0.mk hb_; have X16_ := Aside0.mk (blk_below X16.out hb_); have LT16 := Aside0.mk (blk_lt X16.out); clear X16; have X16 := X16_; clear X16_; have HX_ := Aside0.mk (HX.out.trans (hb_.mono HX.out.size)); clear HX; have HX := HX_; clear HX_; have HY_ := Aside0.mk (HY.out.trans (hb_.mono HY.out.size)); clear HY; have HY := HY_; clear HY_; clear hbox hb_ hg_; have y0 : w25.cell? ⟨g18, 0, none⟩ = some (.int .i64 0) := (blk_cell X18.out 0).trans rfl; have y1 : w25.cell? ⟨g18, 1, none⟩ = some (.int .i64 0) := (blk_cell X18.out 1).trans rfl; have y2 : w25.cell? ⟨g18, 2, none⟩ = some (.slice none 0 0) := (blk_cell X18.out 2).trans rfl; have fy0 := blk_frozen X18.out 0; have fy1 := blk_frozen X18.out 1; have fy2 := blk_frozen X18.out 2; have x0 : w25.cell? ⟨g16, 0, none⟩ = some (.int .i64 T.f0) := (blk_cell X16.out 0).trans rfl; have x1 : w25.cell? ⟨g16, 1, none⟩ = some (.int .i64 T.f1) := (blk_cell X16.out 1).trans rfl; have x2 : w25.cell? ⟨g16, 2, none⟩ = some (.slice Ap T.f2.length cp) := (blk_cell X16.out 2).trans rfl; have nH : g18 ≠ g16 := (by have h1 := GE18.out; have h2 := LT16.out; omega); have nH' : g16 ≠ g18 := Ne.symm nH) | (go_at_call 14; generalize hw26 : World.setCell (World.setCell (World.setCell w25 ⟨g18, 0, none⟩ _) ⟨g18, 1, none⟩ _) ⟨g18, 2, none⟩ _ = w26; have G1 := Aside0.mk (show w21.heap.size ≤ g18 by have h1 := GE18.out; have h2 := HY24.out; omega); have G2 := Aside0.mk (show wR.heap.size ≤ g18 by have h1 := G1.out; have h2 := HX21.out; omega); have HY26 := Aside0.mk (show Below w21.heap.size w21 w26 by rw [← hw26]; exact below_set (below_set (below_set HY.out G1.out) G1.out) G1.out); have HX26 := Aside0.mk (show Below wR.heap.size wR w26 by rw [← hw26]; exact below_set (below_set (below_set HX.out G2.out) G2.out) G2.out); have HZ26 := Aside0.mk (show Below w24.heap.size w24 w26 by rw [← hw26]; exact below_set (below_set (below_set HZ.out GE18.out) GE18.out) GE18.out); clear hw26 HY HX HZ X16 X18 x0 x1 x2 y0 y1 y2 fy0 fy1 fy2 nH nH'; refine (SAME.out (Kd.C_below PC.out HY26.out) PL.out (Kd.C_below QC.out HZ26.out) QLn.out).mono ?_; rintro e w27 ⟨rfl, hb⟩; have HX := Aside0.mk (HX26.out.trans (hb.mono HX26.out.size)); clear hb HX26 HY26 HZ26) | fail)
                  go_roundw
                  case measure => simp [intOf]; omega
                  case rel => exact ⟨i + 1, by omega, by go_num, HX⟩
                · have p1 : ((i : Int) < 3) = False := eq_false (by omega)
                  have p2 : (i < 3) = False := eq_false (by omega)
                  have p3 : decide ((i : Int) < 3) = false := decide_eq_false (by omega)
                  go_wp2
                  go_ret
                  exact ⟨rfl, BWR.out.trans (HX.out.mono BWR.out.size)⟩
    · have hrd : decide ((300 : Int) < (raw.length : Int)) = true := decide_eq_true (by omega)
      have hrn : decide (300 < raw.length) = true := decide_eq_true (by omega)
      go_enter Try.func6, Try.ntmps6
      go_wp2_with (first | ((with_reducible refine gate_dst (N := 5) rfl ?_); refine box_event ?hg (N := 5) ?hd (cs := #[.int .i64 x.f0, .int .i64 x.f1, .slice A x.f2.length c]) (t := 24) ?hr ?_; (case hd => rfl); (case hg => rfl); (case hr => first | (go_simp; done) | (go_simp; rfl)); intro g5 hg_ w1 hbox hb_; have K5 := Aside0.mk hbox; have HB := Aside0.mk hb_; clear hbox hb_ hg_) | (go_at_call 9; refine (known_rd _).mono ?_; rintro e w2 ⟨rfl, hb⟩; have K5_ := Aside0.mk (blk_below K5.out hb); clear K5; have K5 := K5_; clear K5_; have HB_ := Aside0.mk (HB.out.trans (hb.mono HB.out.size)); clear HB; have HB := HB_; clear HB_; clear hb; have k0 : w2.cell? ⟨g5, 0, none⟩ = some (.int .i64 x.f0) := (blk_cell K5.out 0).trans rfl; have k1 : w2.cell? ⟨g5, 1, none⟩ = some (.int .i64 x.f1) := (blk_cell K5.out 1).trans rfl; have k2 : w2.cell? ⟨g5, 2, none⟩ = some (.slice A x.f2.length c) := (blk_cell K5.out 2).trans rfl) | (go_at_call 10; refine (few (Kd.C_below HC.out HB.out) HL.out).mono ?_; rintro e w3 ⟨rfl, hb⟩; clear k0 k1 k2; have K5_ := Aside0.mk (blk_below K5.out hb); clear K5; have K5 := K5_; clear K5_; have HB_ := Aside0.mk (HB.out.trans (hb.mono HB.out.size)); clear HB; have HB := HB_; clear HB_; clear hb; have k0 : w3.cell? ⟨g5, 0, none⟩ = some (.int .i64 x.f0) := (blk_cell K5.out 0).trans rfl; have k1 : w3.cell? ⟨g5, 1, none⟩ = some (.int .i64 x.f1) := (blk_cell K5.out 1).trans rfl; have k2 : w3.cell? ⟨g5, 2, none⟩ = some (.slice A x.f2.length c) := (blk_cell K5.out 2).trans rfl) | fail)
      go_ret
      exact ⟨rfl, HB.out⟩
end Go.Proofs.Ytfbjdfgadhlhlaa.P
