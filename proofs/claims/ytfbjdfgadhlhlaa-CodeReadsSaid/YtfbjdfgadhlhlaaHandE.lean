/- The contracts of package code's lay and Bytes. -/
import Derived.Test.YtfbjdfgadhlhlaaPx0
namespace Go.Proofs.Ytfbjdfgadhlhlaa.P
open Go.RowKit Go.Proofs.YtfbjdfgadhlhlaaW.PrintWords Go.Proofs.YtfbjdfgadhlhlaaW.PrintLast Go.Proofs.YtfbjdfgadhlhlaaW.PrintMore
set_option linter.unusedVariables false
set_option linter.unusedSimpArgs false

/-- The k-th byte of a number. -/
def encN (n : Int) (k : Nat) : Int := (IntKind.u64.wrap n / 2 ^ (8 * k)) % 256

mutual
/-- A term's bytes. -/
def enc : S29 → List Int
  | ⟨a, b, l⟩ => [a % 256] ++ (List.range 8).map (encN b) ++ [(l.length : Int) % 256] ++ encs l
def encs : List S29 → List Int
  | [] => []
  | x :: l => enc x ++ encs l
end

inductive Tr : S29 → Prop
  | mk (a b : Int) (l : List S29) (h : ∀ x ∈ l, Tr x) : Tr ⟨a, b, l⟩
mutual
theorem tr_all : ∀ t : S29, Tr t
  | ⟨a, b, l⟩ => Tr.mk a b l (tr_alls l)
theorem tr_alls : ∀ (l : List S29) (x : S29), x ∈ l → Tr x
  | [], x, h => by simp at h
  | y :: l, x, h => by
    rcases List.mem_cons.1 h with h | h
    · rw [h]; exact tr_all y
    · exact tr_alls l x h
end
theorem encs_append : ∀ a b : List S29, encs (a ++ b) = encs a ++ encs b
  | [], b => by simp [encs]
  | x :: a, b => by simp [encs, encs_append a b]
theorem encs_take (l : List S29) (i : Nat) (h : i < l.length) : encs (l.take (i + 1)) = encs (l.take i) ++ enc (l[i]) := by
  rw [List.take_succ_eq_append_getElem h, encs_append]
  simp [encs]

/-- The row at v may be written, and no elder block but r0. -/
def Grow (w w' : World) (r0 : Option Nat) (v : Value) : Prop := w.grownBy w' r0 ∧ (v.ownBlock = r0 ∨ ∃ b, v.ownBlock = some b ∧ w.heap.size ≤ b)
theorem Grow.refl (w : World) (v : Value) : Grow w w v.ownBlock v := ⟨⟨rfl, rfl, rfl, Nat.le_refl _, fun _ _ _ => rfl⟩, .inl rfl⟩
theorem Grow.below {w w1 w2 : World} {r0 : Option Nat} {v : Value} (h : Grow w w1 r0 v) (hb : Below w1.heap.size w1 w2) : Grow w w2 r0 v :=
  ⟨⟨hb.os.trans h.1.os, hb.tape.trans h.1.tape, hb.output.trans h.1.output, Nat.le_trans h.1.size hb.size, fun i hi hr => (hb.block i (Nat.lt_of_lt_of_le hi h.1.size)).trans (h.1.block i hi hr)⟩, h.2⟩
theorem Grow.step {w w1 w2 : World} {r0 : Option Nat} {v v2 : Value} (h : Grow w w1 r0 v) (hg : w1.grownBy w2 v.ownBlock) (hat : v2.ownBlock = v.ownBlock ∨ ∃ b, v2.ownBlock = some b ∧ w1.heap.size ≤ b) : Grow w w2 r0 v2 := by
  refine ⟨⟨hg.os.trans h.1.os, hg.tape.trans h.1.tape, hg.output.trans h.1.output, Nat.le_trans h.1.size hg.size, fun i hi hr => (hg.block i (Nat.lt_of_lt_of_le hi h.1.size) (fun e => ?_)).trans (h.1.block i hi hr)⟩, ?_⟩
  · rcases h.2 with h2 | ⟨b, h2, h3⟩
    · exact hr (e.trans h2)
    · rw [h2] at e
      cases e
      omega
  · rcases hat with h1 | ⟨b, h1, h2⟩
    · rcases h.2 with h3 | ⟨b, h3, h4⟩
      · exact .inl (h1.trans h3)
      · exact .inr ⟨b, h1.trans h3, h4⟩
    · exact .inr ⟨b, h1, Nat.le_trans h.1.size h2⟩
/-- What came in before the row stays. -/
theorem Grow.old {w w1 : World} {r0 : Option Nat} {v : Value} (h : Grow w w1 r0 v) {W : World} (hb : Below W.heap.size W w) (hr : ∀ k, r0 = some k → W.heap.size ≤ k) : Below W.heap.size W w1 :=
  hb.trans ⟨h.1.os, h.1.tape, h.1.output, h.1.size, fun k hk => h.1.block k (Nat.lt_of_lt_of_le hk hb.size) (fun e => by have := hr k e.symm; omega)⟩
theorem below_alloc' {a W w : World} (h : Below a.heap.size W w) (o : Obj) (hs : a.heap.size ≤ w.heap.size := by exact h.size) : Below a.heap.size W (w.alloc o) := h.alloc hs o
mutual
theorem enc_len : ∀ x : S29, 10 ≤ (enc x).length
  | ⟨a, b, l⟩ => by simp [enc]; omega
theorem encs_len : ∀ l : List S29, l.length ≤ (encs l).length
  | [] => by simp [encs]
  | x :: l => by
    have h1 := enc_len x
    have h2 := encs_len l
    simp [encs]
    omega
end
theorem encs_take_le (l : List S29) (i : Nat) : (encs (l.take i)).length ≤ (encs l).length := by
  have h : encs l = encs (l.take i) ++ encs (l.drop i) := by rw [← encs_append, List.take_append_drop]
  rw [h]
  simp
set_option maxHeartbeats 400000 in
theorem lay_any {t : S29} (ht : Tr t) : ∀ {W w : World} {base : Nat} {v : Value} {xs : List Int} {A : Option Addr} {c : Nat}, Kd.C k29 W A t.f2.length t.f2 → t.f2.length ≤ c → Below W.heap.size W w → W.heap.size ≤ base → base ≤ w.heap.size →
    Kd.R (Kd.int .u8) 5 w base (fun _ => True) v xs → xs.length + (enc t).length ≤ 140737488355328 →
    Calls Try.prog 21 #[v, .agg #[.int .i64 t.f0, .int .i64 t.f1, .slice A t.f2.length c]] w fun e w' => ∃ v', e = .returned v' ∧ Kd.R (Kd.int .u8) 5 w' base (fun _ => True) v' (xs ++ enc t) ∧ Grow w w' v.ownBlock v' := by
  induction ht with
  | mk a b l hl ih =>
  intro W w base v xs A c hC hc hB hWb hbs hR hlen
  have IH := Aside0.mk ih
  have HC := Aside0.mk hC
  have HCC := Aside0.mk hc
  have HB := Aside0.mk hB
  have WB := Aside0.mk hWb
  have BS := Aside0.mk hbs
  have HO0 := Aside0.mk hR
  have R0 : Aside0 (∀ k, v.ownBlock = some k → W.heap.size ≤ k) := ⟨fun k hk => Nat.le_trans hWb (Kd.R_base hR k hk)⟩
  have LEN : Aside0 (xs.length + (10 + (encs l).length) ≤ 140737488355328) := ⟨by simp [enc] at hlen; omega⟩
  clear ih hC hc hB hWb hbs hR hlen hl
  have hu29 := Try.underlying29
  go_enter Try.func21, Try.ntmps21
  go_wp2_with (first | ((with_reducible refine gate_dst (N := 3) rfl ?_); refine box_event ?hg (N := 3) ?hd (cs := #[.int .i64 a, .int .i64 b, .slice A l.length c]) (t := 29) ?hr ?_; (case hd => rfl); (case hg => rfl); (case hr => first | (go_simp; done) | (go_simp; rfl)); intro g3 hg3 w3 hbox hb3; have KB := Aside0.mk hbox; have HO : Aside0 (Kd.R (Kd.int .u8) 5 w3 base (fun k => k ≠ g3) v xs) := ⟨Kd.R_below (Kd.R_mono (Kd.R_bound HO0.out) (fun k hk => by have := hk.2.2.1; omega)) hb3⟩; have HG : Aside0 (Grow w w3 v.ownBlock v) := ⟨(Grow.refl w v).below hb3⟩; clear hbox hb3; have kc0 : w3.cell? ⟨g3, 0, none⟩ = some (.int .i64 a) := (blk_cell KB.out 0).trans rfl; clear hg3) | ((with_reducible refine gate_builtin (b := .append) (xs := #[.tmp 8, .tmp 12]) rfl ?_); at_builtin; refine Kd.R_append (Kd.int .u8) (w0 := w3) base rfl (.tmp 8) (.tmp 12) 31 5 (.int .u8 0) 1 rfl Try.underlying31 info5 rfl (by decide) (by omega) v xs (a % 256) [.int .u8 (a % 256)] (fun k => k ≠ g3) (fun _ => False) rfl rfl ?aP (fun _ hk => hk.elim) ?aF ?aO ?aB ?aS ?aL ?_; (case aP => exact rfl); (case aB => exact Below.refl _ _); (case aF => exact (fun k hk => by have := blk_lt KB.out; omega)); (case aO => exact HO.out); (case aS => exact Nat.le_trans BS.out HG.out.1.size); (case aL => have := LEN.out; omega); intro v2 w2 ho hb hg hat; have HO2 := Aside0.mk ho; have HG2 := Aside0.mk (HG.out.step hg hat); have KB2 := Aside0.mk (blk_grown KB.out hg (fun e => HO.out.1 g3 e.symm rfl)); clear ho hb hg hat HO HG KB; have HO := HO2; have HG := HG2; have KB := KB2; clear HO2 HG2 KB2) | fail)
  go_loopw [0, 14] (fun u0 u14 w' => ∃ k : Nat, k ≤ 8 ∧ u14 = .int .i64 k ∧ Aside0 (Kd.R (Kd.int .u8) 5 w' base (fun k => k ≠ g3) u0 (xs ++ [a % 256] ++ (List.range k).map (encN b))) ∧ Aside0 (Grow w w' v.ownBlock u0) ∧ Aside0 (w'.heap[g3]? = some (.cells #[.int .i64 a, .int .i64 b, .slice A l.length c] 29 (0, 0)))) (fun _ u14 _ => 8 - (intOf u14).toNat)
  case atStart => exact ⟨0, by omega, rfl, ⟨by simpa using HO.out⟩, HG, KB⟩
  case round =>
    clear HO HG KB
    obtain ⟨k, hk, rfl, HO, HG, KB⟩ := hrel
    by_cases hlt : k < 8
    · have kc1 : wr.cell? ⟨g3, 1, none⟩ = some (.int .i64 b) := (blk_cell KB.out 1).trans rfl
      have kc0 : wr.cell? ⟨g3, 0, none⟩ = some (.int .i64 a) := (blk_cell KB.out 0).trans rfl
      go_wp2_with (first | ((with_reducible refine gate_builtin (b := .append) (xs := #[.tmp 17, .tmp 25]) rfl ?_); at_builtin; refine Kd.R_append (Kd.int .u8) (w0 := wr) base rfl (.tmp 17) (.tmp 25) 31 5 (.int .u8 0) 1 rfl Try.underlying31 info5 rfl (by decide) (by omega) u0 (xs ++ [a % 256] ++ (List.range k).map (encN b)) (IntKind.u64.wrap b / 2 ^ (8 * k) % 256) [.int .u8 (IntKind.u64.wrap b / 2 ^ (8 * k) % 256)] (fun k => k ≠ g3) (fun _ => False) rfl rfl ?aP (fun _ hk => hk.elim) ?aF ?aO ?aB ?aS ?aL ?_; (case aP => exact rfl); (case aB => exact Below.refl _ _); (case aF => exact (fun k hk => by have := blk_lt KB.out; omega)); (case aO => exact HO.out); (case aS => exact Nat.le_trans BS.out HG.out.1.size); (case aL => have := LEN.out; simp; omega); intro v2 w2 ho hb hg hat; have HO2 := Aside0.mk ho; have HG2 := Aside0.mk (HG.out.step hg hat); have KB2 := Aside0.mk (blk_grown KB.out hg (fun e => HO.out.1 g3 e.symm rfl)); clear ho hb hg hat HO HG KB; have HO := HO2; have HG := HG2; have KB := KB2; clear HO2 HG2 KB2) | fail)
      go_roundw
      case measure => simp [intOf]; omega
      case rel => exact ⟨k + 1, by omega, by go_num, ⟨by rw [List.range_succ, List.map_append, ← List.append_assoc]; exact HO.out⟩, HG, KB⟩
    · obtain rfl : k = 8 := by omega
      have kc2 : wr.cell? ⟨g3, 2, none⟩ = some (.slice A l.length c) := (blk_cell KB.out 2).trans rfl
      go_wp2_with (first | ((with_reducible refine gate_builtin (b := .append) (xs := #[.tmp 28, .tmp 33]) rfl ?_); at_builtin; refine Kd.R_append (Kd.int .u8) (w0 := wr) base rfl (.tmp 28) (.tmp 33) 31 5 (.int .u8 0) 1 rfl Try.underlying31 info5 rfl (by decide) (by omega) u0 (xs ++ [a % 256] ++ (List.range 8).map (encN b)) ((l.length : Int) % 256) [.int .u8 ((l.length : Int) % 256)] (fun k => k ≠ g3) (fun _ => False) rfl rfl ?aP (fun _ hk => hk.elim) ?aF ?aO ?aB ?aS ?aL ?_; (case aP => exact rfl); (case aB => exact Below.refl _ _); (case aF => exact (fun k hk => by have := blk_lt KB.out; omega)); (case aO => exact HO.out); (case aS => exact Nat.le_trans BS.out HG.out.1.size); (case aL => have := LEN.out; simp; omega); intro v2 w2 ho hb hg hat; have HO2 := Aside0.mk ho; have HG2 := Aside0.mk (HG.out.step hg hat); have KB2 := Aside0.mk (blk_grown KB.out hg (fun e => HO.out.1 g3 e.symm rfl)); clear ho hb hg hat HO HG KB; have HO := HO2; have HG := HG2; have KB := KB2; clear HO2 HG2 KB2; have kc2' : w2.cell? ⟨g3, 2, none⟩ = some (.slice A l.length c) := (blk_cell KB.out 2).trans rfl) | fail)
      have LL : Aside0 (l.length ≤ 140737488355328) := ⟨by
        have := LEN.out
        have h2 := encs_len l
        omega⟩
      go_loopw [0, 38] (fun u0 u38 w' => ∃ i : Nat, i ≤ l.length ∧ u38 = .int .i64 i ∧ Aside0 (Kd.R (Kd.int .u8) 5 w' base (fun k => k ≠ g3) u0 ((xs ++ [a % 256] ++ (List.range 8).map (encN b)) ++ [(l.length : Int) % 256] ++ encs (l.take i))) ∧ Aside0 (Grow w w' v.ownBlock u0) ∧ Aside0 (w'.heap[g3]? = some (.cells #[.int .i64 a, .int .i64 b, .slice A l.length c] 29 (0, 0)))) (fun _ u38 _ => l.length - (intOf u38).toNat)
      case atStart => exact ⟨0, by omega, rfl, ⟨by simpa [encs] using HO.out⟩, HG, KB⟩
      case round =>
        clear HO HG KB kc2 kc2'
        obtain ⟨i, hi, rfl, HO, HG, KB⟩ := hrel
        have hl9 := LL.out
        by_cases hlt : i < l.length
        · obtain ⟨ad, A2, c2, e1, hx0, hx1, hx2, hl2, hi2⟩ := at_T29 HC.out (i : Int) (by omega) (by omega)
          have hrd : rd_T29 l (i : Int) = l[i] := by simp [rd_T29, hlt]
          rw [hrd] at hx0 hx1 hx2 hl2 hi2
          have HM : Aside0 (l[i] ∈ l) := ⟨List.getElem_mem hlt⟩
          have HT : Aside0 (encs (l.take (i + 1)) = encs (l.take i) ++ enc l[i]) := ⟨encs_take l i hlt⟩
          have HE : Aside0 ((encs (l.take i)).length + (enc l[i]).length ≤ (encs l).length) := ⟨by
            have h1 := congrArg List.length HT.out
            have h2 := encs_take_le l (i + 1)
            simp at h1
            omega⟩
          clear hrd
          generalize l[i] = x at hx0 hx1 hx2 hl2 hi2 HM HT HE
          subst e1
          have BO := Aside0.mk (HG.out.old HB.out R0.out)
          replace hx0 := (BO.out.cell (World.block_lt_of_cell? W _ hx0)).trans hx0
          replace hx1 := (BO.out.cell (World.block_lt_of_cell? W _ hx1)).trans hx1
          replace hx2 := (BO.out.cell (World.block_lt_of_cell? W _ hx2)).trans hx2
          simp only [Int.toNat_natCast] at hx0 hx1 hx2
          have HI2 := Aside0.mk hi2
          have HL2 := Aside0.mk hl2
          clear hi2 hl2
          go_wp2_with fail
          refine (IH.out x HM.out (W := W) (base := base) (v := u0) (xs := (xs ++ [a % 256] ++ (List.range 8).map (encN b)) ++ [(l.length : Int) % 256] ++ encs (l.take i)) HI2.out HL2.out (BO.out.alloc BO.out.size _) WB.out ?b2 ?b3 ?b4).mono ?_
          case b2 => have h1 := BS.out; have h2 := HG.out.1.size; simp; omega
          case b3 => exact Kd.R_mono (Kd.R_alloc HO.out _) (fun _ _ => trivial)
          case b4 => have h1 := LEN.out; have h2 := HE.out; simp; omega
          rintro e w2 ⟨v2, rfl, h1, h2⟩
          have KG : g3 < wr.heap.size := blk_lt KB.out
          have HG1 := HG.out.below (w2 := wr.alloc _) (Below.alloc (Below.refl _ _) (Nat.le_refl _) (.cells #[.int .i64 x.f0, .int .i64 x.f1, .slice A2 x.f2.length c2] 29))
          have HG2 := Aside0.mk (HG1.step h2.1 h2.2)
          have KB2 := Aside0.mk ((h2.1.block g3 (by simp; omega) (fun e => HO.out.1 g3 e.symm rfl)).trans (blk_alloc KB.out _))
          have HO2 : Aside0 (Kd.R (Kd.int .u8) 5 w2 base (fun k => k ≠ g3) v2 ((xs ++ [a % 256] ++ (List.range 8).map (encN b)) ++ [(l.length : Int) % 256] ++ encs (l.take (i + 1)))) := ⟨by
            rw [HT.out, ← List.append_assoc]
            refine ⟨fun k hk => ?_, h1.2⟩
            rcases h2.2 with h3 | ⟨b2, h3, h4⟩
            · exact HO.out.1 k (h3.symm.trans hk)
            · rw [h3] at hk
              cases hk
              simp at h4
              omega⟩
          clear HG1 h1 h2 HO HG KB KG hx0 hx1 hx2
          go_wp2
          go_roundw
          case measure => simp [intOf]; omega
          case rel => exact ⟨i + 1, by omega, by go_num, HO2, HG2, KB2⟩
        · obtain rfl : i = l.length := by omega
          go_wp2
          go_ret
          have h1 := HO.out
          rw [List.take_length] at h1
          have h2 : Kd.R (Kd.int .u8) 5 wr base (fun k => k ≠ g3) u0 (xs ++ enc ⟨a, b, l⟩) := by simpa [enc, List.append_assoc] using h1
          exact ⟨_, rfl, Kd.R_mono h2 (fun _ _ => trivial), HG.out⟩

/-- A term's bytes, as a row of the call's own. -/
def code_Bytes.f (a b : Int) (l : List S29) : Option (List Int) :=
  if (enc ⟨a, b, l⟩).length ≤ 140737488355328 then some (enc ⟨a, b, l⟩) else none
end Go.Proofs.Ytfbjdfgadhlhlaa.P
