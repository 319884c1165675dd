/- Several texts in one. -/
import Derived.Test.YtkkmgahgejjhgaaDoorCP0
import Derived.Test.YtkkmgahgejjhgaaDoorCFMod
import Derived.Lib.SmallJoins
import Derived.ProofKit
import Derived.ChangeMaps5
import Derived.Test.YtkkmgahgejjhgaaDoorRows
import Derived.Lib.LaidTab
import Derived.KernelRfl
/- Chapter 3's texts read back, plainly: a made form's text is read as just that form. No conditions but those that each theorem tells. -/
namespace Go.Proofs.YtkkmgahgejjhgaaDoor.Pure
open Go.RowKit Go.Proofs.YtkkmgahgejjhgaaDoor.P Go.Proofs.YtkkmgahgejjhgaaDoor.Lex Go.Proofs.YtkkmgahgejjhgaaDoor.Frm Go.Proofs.YtkkmgahgejjhgaaDoorW.PrintWords Go.Proofs.YtkkmgahgejjhgaaDoorW.PrintLast Go.Proofs.YtkkmgahgejjhgaaDoorW.PrintMore
set_option linter.unusedVariables false
set_option linter.unusedSimpArgs false
/-- No byte that may stand in a name begins it. -/
def Delim (r : List UInt8) : Prop := spn pInner r = 0
theorem spn_app {p : Int → Bool} : ∀ (l r : List UInt8), (∀ c ∈ l, p (c.toNat : Int) = true) → spn p (l ++ r) = l.length + spn p r
  | [], r, _ => by simp
  | c :: l, r, h => by
    rw [List.cons_append, spn, if_pos (h c (by simp)), spn_app l r (fun d hd => h d (by simp [hd]))]
    simp only [List.length_cons]
    omega
theorem delim_digit {r : List UInt8} (h : Delim r) : spn pDigit r = 0 := by
  cases r with
  | nil => rfl
  | cons c r =>
    unfold Delim at h
    rw [spn] at h ⊢
    by_cases hd : pDigit (c.toNat : Int) = true
    · rw [if_pos (by unfold pInner; rw [hd]; simp)] at h
      omega
    · rw [if_neg hd]
theorem nb_0 (c : UInt8) (l : List UInt8) : nb (c :: l) 0 = (c.toNat : Int) := rfl
theorem nb_1 (c d : UInt8) (l : List UInt8) : nb (c :: d :: l) 1 = (d.toNat : Int) := rfl
theorem blk_no {c : UInt8} {r : List UInt8} (h1 : pBlank (c.toNat : Int) = false) (h2 : (c.toNat : Int) ≠ 59) : blk false (c :: r) = 0 := by
  rw [blk_f, if_neg (by rw [h1]; decide), if_neg h2]
/-- A token of kind 3, whole. -/
theorem next_name {s : ByteArray} (hs : s ∈ names) {r : List UInt8} (hr : Delim r) : blk false (lst s ++ r) = 0 ∧ nextT (lst s ++ r) = (3, 0, (lst s).length, 0) := by
  have gen : ∀ (c : UInt8) (l : List UInt8), pFront (c.toNat : Int) = true → (∀ d ∈ c :: l, pInner (d.toNat : Int) = true) → (c :: l).length ≤ 20 → pBlank (c.toNat : Int) = false → (c.toNat : Int) ≠ 59 → (c.toNat : Int) ≠ 40 → (c.toNat : Int) ≠ 41 → (c.toNat : Int) ≠ 42 → (c.toNat : Int) ≠ 45 →
      blk false ((c :: l) ++ r) = 0 ∧ nextT ((c :: l) ++ r) = (3, 0, (c :: l).length, 0) := by
    intro c l h1 h2 h3 h4 h5 h6 h7 h8 h9
    have e : spn pInner ((c :: l) ++ r) = (c :: l).length := by
      rw [spn_app _ _ h2]
      have : spn pInner r = 0 := hr
      omega
    refine ⟨blk_no h4 h5, ?_⟩
    unfold nextT
    rw [e]
    rw [show nb ((c :: l) ++ r) 0 = (c.toNat : Int) from rfl, if_neg h6, if_neg h7, if_neg h8, if_neg (fun h => h9 h.1), if_pos h1, if_neg (by omega)]
  have hc : s = ⟨#[97]⟩ ∨ s = ⟨#[98]⟩ ∨ s = ⟨#[102, 110]⟩ ∨ s = ⟨#[45, 62]⟩ ∨ s = ⟨#[42]⟩ ∨ s = ⟨#[122, 101, 114, 111]⟩ ∨ s = ⟨#[120, 39]⟩ ∨ s = ⟨#[95]⟩ ∨ s = ⟨#[85, 48]⟩ ∨ s = ⟨#[112, 97, 105, 114]⟩ := by simpa [names] using hs
  rcases hc with rfl | rfl | rfl | rfl | rfl | rfl | rfl | rfl | rfl | rfl
  · exact gen 97 [] (by decide) (by decide) (by decide) (by decide) (by decide) (by decide) (by decide) (by decide) (by decide)
  · exact gen 98 [] (by decide) (by decide) (by decide) (by decide) (by decide) (by decide) (by decide) (by decide) (by decide)
  · exact gen 102 [110] (by decide) (by decide) (by decide) (by decide) (by decide) (by decide) (by decide) (by decide) (by decide)
  · refine ⟨blk_no (by decide) (by decide), ?_⟩
    show nextT (45 :: 62 :: r) = (3, 0, 2, 0)
    unfold nextT
    rw [nb_0, nb_1, if_neg (by decide), if_neg (by decide), if_neg (by decide), if_pos ⟨by decide, by simp, by decide⟩]
  · refine ⟨blk_no (by decide) (by decide), ?_⟩
    show nextT (42 :: r) = (3, 0, 1, 0)
    unfold nextT
    rw [nb_0, if_neg (by decide), if_neg (by decide), if_pos (by decide)]
  · exact gen 122 [101, 114, 111] (by decide) (by decide) (by decide) (by decide) (by decide) (by decide) (by decide) (by decide) (by decide)
  · exact gen 120 [39] (by decide) (by decide) (by decide) (by decide) (by decide) (by decide) (by decide) (by decide) (by decide)
  · exact gen 95 [] (by decide) (by decide) (by decide) (by decide) (by decide) (by decide) (by decide) (by decide) (by decide)
  · exact gen 85 [48] (by decide) (by decide) (by decide) (by decide) (by decide) (by decide) (by decide) (by decide) (by decide)
  · exact gen 112 [97, 105, 114] (by decide) (by decide) (by decide) (by decide) (by decide) (by decide) (by decide) (by decide) (by decide)
/-! ### Numbers -/
theorem dig (n : Nat) (h : n < 10) : ((UInt8.ofNat (48 + n)).toNat : Int) = 48 + n := by
  rw [UInt8.toNat_ofNat']
  omega
theorem dec_digits : ∀ (n : Nat), ∀ c ∈ Lib.decDigits n, pDigit (c.toNat : Int) = true := by
  intro n
  induction n using Nat.strongRecOn with
  | _ n ih =>
    intro c hc
    rw [Lib.decDigits] at hc
    have one : ∀ m, m < 10 → pDigit ((UInt8.ofNat (48 + m)).toNat : Int) = true := by
      intro m hm
      rw [dig m hm]
      unfold pDigit
      simp
      omega
    split at hc
    · rename_i h
      rw [List.mem_singleton.1 hc]
      exact one n h
    · rename_i h
      rcases List.mem_append.1 hc with hc | hc
      · exact ih (n / 10) (by omega) c hc
      · rw [List.mem_singleton.1 hc]
        exact one (n % 10) (by omega)
theorem dec_pos (n : Nat) : ∃ c l, Lib.decDigits n = c :: l := by
  rw [Lib.decDigits]
  split
  · exact ⟨_, _, rfl⟩
  · cases h : Lib.decDigits (n / 10) with
    | nil => exact ⟨_, _, rfl⟩
    | cons c l => exact ⟨_, _, rfl⟩
theorem numD_snoc : ∀ (l : List UInt8) (c : UInt8) (a : Int), numD (l ++ [c]) a = (numD l a).bind (fun n => numD [c] n)
  | [], c, a => by simp [numD]
  | d :: l, c, a => by
    rw [List.cons_append, numD, numD]
    split
    · rfl
    · exact numD_snoc l c _
theorem numD_dec : ∀ (n : Nat), n ≤ 4611686018427387904 → numD (Lib.decDigits n) 0 = some (n : Int) := by
  intro n
  induction n using Nat.strongRecOn with
  | _ n ih =>
    intro hn
    rw [Lib.decDigits]
    split
    · rename_i h
      rw [numD, dig n h, if_neg (by omega), numD]
      congr 1
      omega
    · rename_i h
      rw [numD_snoc, ih (n / 10) (by omega) (by omega), Option.bind_some, numD, dig (n % 10) (by omega), if_neg (by omega), numD]
      congr 1
      omega
theorem next_num {z : Int} (hz : -549755813888 ≤ z ∧ z < 549755813888) {r : List UInt8} (hr : Delim r) : blk false (Lib.itoa z ++ r) = 0 ∧ nextT (Lib.itoa z ++ r) = (4, z, (Lib.itoa z).length, 0) := by
  have dg : ∀ c : Int, pDigit c = true → 48 ≤ c ∧ c ≤ 57 := by
    intro c h
    unfold pDigit at h
    simpa using h
  have nf : ∀ c : Int, 48 ≤ c ∧ c ≤ 57 → pFront c = false := by
    intro c h
    unfold pFront
    simp
    omega
  unfold Lib.itoa
  by_cases h : z < 0
  · rw [if_pos h]
    obtain ⟨c, l, e⟩ := dec_pos z.natAbs
    have hd := dec_digits z.natAbs
    have hnum := numD_dec z.natAbs (by omega)
    rw [e] at hd hnum ⊢
    have hc := dg _ (hd c (by simp))
    have hs : spn pDigit ((c :: l) ++ r) = (c :: l).length := by
      rw [spn_app _ _ hd, delim_digit hr]
      omega
    refine ⟨blk_no (by decide) (by decide), ?_⟩
    show nextT (45 :: ((c :: l) ++ r)) = (4, z, (45 :: c :: l).length, 0)
    have hsg : sgn (45 :: ((c :: l) ++ r)) = 1 + (c :: l).length := by
      unfold sgn
      rw [nb_0, if_pos (by decide), List.drop_succ_cons, List.drop_zero, hs, if_pos (by simp)]
    have htk : (45 :: ((c :: l) ++ r)).take (1 + (c :: l).length) = 45 :: c :: l := by
      rw [Nat.add_comm, List.take_succ_cons, List.take_left]
    have hnm : num (45 :: c :: l) = some z := by
      unfold num
      rw [nb_0, if_pos (by decide), List.drop_succ_cons, List.drop_zero, hnum]
      simp only [Option.map_some, Option.some.injEq]
      omega
    unfold nextT
    rw [nb_0, hsg, htk, hnm, if_neg (by decide), if_neg (by decide), if_neg (by decide)]
    rw [if_neg (by
      rintro ⟨-, -, h2⟩
      rw [List.cons_append, nb_1] at h2
      omega), if_neg (by decide), if_neg (by simp)]
    simp only [List.length_cons]
    congr 3
    omega
  · rw [if_neg h]
    obtain ⟨c, l, e⟩ := dec_pos z.toNat
    have hd := dec_digits z.toNat
    have hnum := numD_dec z.toNat (by omega)
    rw [e] at hd hnum ⊢
    have hc := dg _ (hd c (by simp))
    have hs : spn pDigit ((c :: l) ++ r) = (c :: l).length := by
      rw [spn_app _ _ hd, delim_digit hr]
      omega
    refine ⟨blk_no (by unfold pBlank; simp; omega) (by omega), ?_⟩
    have hsg : sgn ((c :: l) ++ r) = (c :: l).length := by
      unfold sgn
      rw [List.cons_append, nb_0, if_neg (by omega), ← List.cons_append, hs]
    have htk : ((c :: l) ++ r).take (c :: l).length = c :: l := List.take_left
    have hnm : num (c :: l) = some z := by
      unfold num
      rw [nb_0, if_neg (by omega), hnum]
      simp only [Option.some.injEq]
      omega
    unfold nextT
    rw [hsg, htk, hnm, show nb ((c :: l) ++ r) 0 = (c.toNat : Int) from rfl, if_neg (by omega), if_neg (by omega), if_neg (by omega), if_neg (by omega), if_neg (by rw [nf _ hc]; decide), if_neg (by simp)]
/-! ### Forms -/
end Go.Proofs.YtkkmgahgejjhgaaDoor.Pure
/- Two forms are the same: what the reference's Same comes to; texts tell made forms apart. No conditions but those that each theorem tells. -/
namespace Go.Proofs.YtkkmgahgejjhgaaDoor.Pure
open Go.RowKit Go.Proofs.YtkkmgahgejjhgaaDoor.P Go.Proofs.YtkkmgahgejjhgaaDoor.Lex Go.Proofs.YtkkmgahgejjhgaaDoor.Frm Go.Proofs.YtkkmgahgejjhgaaDoorW.PrintWords Go.Proofs.YtkkmgahgejjhgaaDoorW.PrintLast Go.Proofs.YtkkmgahgejjhgaaDoorW.PrintMore
set_option linter.unusedVariables false
set_option linter.unusedSimpArgs false
mutual
/-- Are two forms the same? -/
def sm : S42 → S42 → Bool
  | ⟨k, z, s, l⟩, ⟨k', z', s', l'⟩ => decide (k = k') && (decide (z = z') && (decide (s.toList = s'.toList) && sms l l'))
def sms : List S42 → List S42 → Bool
  | [], [] => true
  | x :: l, y :: l' => sm x y && sms l l'
  | [], _ :: _ => false
  | _ :: _, [] => false
end
mutual
theorem sm_iff : ∀ (x y : S42), sm x y = true ↔ x = y
  | ⟨k, z, s, l⟩, ⟨k', z', s', l'⟩ => by
    have h := sms_iff l l'
    simp only [sm, Bool.and_eq_true, decide_eq_true_eq, h, S42.mk.injEq]
    refine and_congr_right fun _ => and_congr_right fun _ => and_congr_left fun _ => ?_
    rw [lst_toList, lst_toList]
    exact ⟨fun h => lst_inj h, fun h => by rw [h]⟩
theorem sms_iff : ∀ (l l' : List S42), sms l l' = true ↔ l = l'
  | [], [] => by simp [sms]
  | x :: l, y :: l' => by
    have h1 := sm_iff x y
    have h2 := sms_iff l l'
    simp only [sms, Bool.and_eq_true, h1, h2, List.cons.injEq]
  | [], _ :: _ => by simp [sms]
  | _ :: _, [] => by simp [sms]
end
theorem sms_len : ∀ (l l' : List S42), l.length ≠ l'.length → sms l l' = false
  | [], [], h => absurd rfl h
  | x :: l, y :: l', h => by
    rw [sms, sms_len l l' (by simpa using h), Bool.and_false]
  | [], _ :: _, _ => rfl
  | _ :: _, [], _ => rfl
theorem same_ev : ∀ (n : Nat) (x y : S42), size42 x ≤ n → n ≤ 1000000 → Ev (fun k => thyrsusref3_Same.f k x.f0 x.f1 x.f2 x.f3 y.f0 y.f1 y.f2 y.f3) (sm x y) := by
  intro n
  induction n with
  | zero => intro x y h; cases x; simp [size42] at h
  | succ n ih =>
    rintro ⟨k, z, s, l⟩ ⟨k', z', s', l'⟩ hs hn
    have no : Ev (fun j => thyrsusref3_Same.j0 j true k z s l k' z' s' l') false := Ev.step (f := fun _ => some false) (fun j => by simp only [thyrsusref3_Same.j0, if_true]) (Ev.now _)
    simp only [sm]
    by_cases h1 : k = k'
    · by_cases h2 : z = z'
      · by_cases h3 : s.toList = s'.toList
        · rw [decide_eq_true h1, decide_eq_true h2, decide_eq_true h3, Bool.true_and, Bool.true_and, Bool.true_and]
          refine Ev.step (f := fun j => thyrsusref3_Same.j0 j ((l.length : Int) != (l'.length : Int)) k z s l k' z' s' l') (fun j => by simp only [thyrsusref3_Same.f]; rw [if_pos h1, if_pos h2, if_pos h3]) ?_
          by_cases h4 : l.length = l'.length
          · have e : ((l.length : Int) != (l'.length : Int)) = false := by simp [h4]
            rw [e]
            simp only [size42] at hs
            have hll : l.length ≤ 1000000 := Nat.le_trans (sizes42_len l) (by omega)
            have loop : ∀ (d i : Nat), i + d = l.length → Ev (fun j => thyrsusref3_Same.l0 j (i : Int) k z s l k' z' s' l') (sms (l.drop i) (l'.drop i)) := by
              intro d
              induction d with
              | zero =>
                intro i hi
                rw [List.drop_of_length_le (by omega), List.drop_of_length_le (by omega)]
                refine Ev.step (f := fun _ => some true) (fun j => ?_) (Ev.now _)
                simp only [thyrsusref3_Same.l0]
                rw [if_neg (by omega)]
              | succ d ihd =>
                intro i hi
                have hil : i < l.length := by omega
                have hil' : i < l'.length := by omega
                have hm := sizes42_mem l l[i] (List.getElem_mem hil)
                rw [List.drop_eq_getElem_cons hil, List.drop_eq_getElem_cons hil', sms]
                have h5 := ih l[i] l'[i] (by omega) (by omega)
                refine Ev.step (f := fun j => (thyrsusref3_Same.f j l[i].f0 l[i].f1 l[i].f2 l[i].f3 l'[i].f0 l'[i].f1 l'[i].f2 l'[i].f3).bind fun t => if t = true then thyrsusref3_Same.l0 j ((i + 1 : Nat) : Int) k z s l k' z' s' l' else some false) (fun j => ?_) (Ev.bind h5 ?_)
                · simp only [thyrsusref3_Same.l0]
                  rw [if_pos (by omega), if_pos (by omega), if_pos (by omega), rd42 hil, rd42 hil', wrap_id (n := (i : Int) + 1) (by omega)]
                  rfl
                · cases hb : sm l[i] l'[i] with
                  | true => simpa using ihd (i + 1) (by omega)
                  | false => simpa using Ev.now false
            refine Ev.step (f := fun j => thyrsusref3_Same.l0 j ((0 : Nat) : Int) k z s l k' z' s' l') (fun j => by simp only [thyrsusref3_Same.j0]; rfl) (loop l.length 0 (by omega))
          · have e : ((l.length : Int) != (l'.length : Int)) = true := by simp; omega
            rw [e, sms_len l l' h4]
            exact no
        · rw [decide_eq_false h3, Bool.false_and, Bool.and_false, Bool.and_false]
          exact Ev.step (f := fun j => thyrsusref3_Same.j0 j true k z s l k' z' s' l') (fun j => by simp only [thyrsusref3_Same.f]; rw [if_pos h1, if_pos h2, if_neg h3]) no
      · rw [decide_eq_false h2, Bool.false_and, Bool.and_false]
        exact Ev.step (f := fun j => thyrsusref3_Same.j0 j true k z s l k' z' s' l') (fun j => by simp only [thyrsusref3_Same.f]; rw [if_pos h1, if_neg h2]) no
    · rw [decide_eq_false h1, Bool.false_and]
      exact Ev.step (f := fun j => thyrsusref3_Same.j0 j true k z s l k' z' s' l') (fun j => by simp only [thyrsusref3_Same.f]; rw [if_neg h1]) no
end Go.Proofs.YtkkmgahgejjhgaaDoor.Pure
/- FormsParse: plain facts: how great the forms of a text are; a row of forms is the same as itself; the texts that the law makes. No conditions but those that each theorem tells. -/
namespace Go.Proofs.YtkkmgahgejjhgaaDoor.Pure
open Go.RowKit Go.Proofs.YtkkmgahgejjhgaaDoor.P Go.Proofs.YtkkmgahgejjhgaaDoor.Lex Go.Proofs.YtkkmgahgejjhgaaDoor.Frm Go.Proofs.YtkkmgahgejjhgaaDoorW.PrintWords Go.Proofs.YtkkmgahgejjhgaaDoorW.PrintLast Go.Proofs.YtkkmgahgejjhgaaDoorW.PrintMore
set_option linter.unusedVariables false
set_option linter.unusedSimpArgs false
def sizeR : List (List S42) → Nat
  | [] => 0
  | x :: l => sizes42 x + sizeR l
theorem frun_sizes : ∀ (ts : List S63) (st : List (List S42)) (top : List S42) (z : Int), sizes42 (frun ts st top z).1 ≤ ts.length + sizes42 top + sizeR st
  | [], [], top, z => by simp [frun]
  | [], _ :: _, top, z => by simp [frun, sizes42]
  | t :: r, st, top, z => by
    unfold frun
    split
    · split
      · have := frun_sizes r (top :: st) [] z
        simp only [sizes42, sizeR, List.length_cons] at this ⊢
        omega
      · simp [sizes42]
    · split
      · cases st with
        | nil => simp [sizes42]
        | cons p st' =>
          have := frun_sizes r st' (p ++ [⟨3, 0, ⟨#[]⟩, top⟩]) z
          rw [sizes42_snoc] at this
          simp only [size42, sizeR, List.length_cons] at this ⊢
          omega
      · split
        · have := frun_sizes r st (top ++ [⟨1, 0, t.f3, []⟩]) z
          rw [sizes42_snoc] at this
          simp only [size42, sizes42, List.length_cons] at this ⊢
          omega
        · have := frun_sizes r st (top ++ [⟨2, t.f1, ⟨#[]⟩, []⟩]) z
          rw [sizes42_snoc] at this
          simp only [size42, sizes42, List.length_cons] at this ⊢
          omega
theorem fparse_sizes (s : ByteArray) : sizes42 (fparse s).1 ≤ 4000 := by
  unfold fparse
  split
  · have h1 := frun_sizes (tokens (lst s)).1 [] [] s.size
    have h2 := (tokens_all (lst s)).2
    simp only [sizes42, sizeR] at h1
    omega
  · simp [sizes42]
/-- A row of forms is the same as itself. -/
theorem sames_ev (l : List S42) (h : sizes42 l ≤ 1000000) : Ev (fun k => thyrsuslaw3_Same.f k l l) true := by
  have hl := sizes42_len l
  have loop : ∀ (d i : Nat), i + d = l.length → Ev (fun k => thyrsuslaw3_Same.l0 k l l (i : Int)) true := by
    intro d
    induction d with
    | zero =>
      intro i hi
      refine Ev.step (f := fun _ => some true) (fun k => ?_) (Ev.now _)
      simp only [thyrsuslaw3_Same.l0]
      rw [if_neg (by omega)]
    | succ d ihd =>
      intro i hi
      have hil : i < l.length := by omega
      have hm := sizes42_mem l l[i] (List.getElem_mem hil)
      have hs := same_ev 1000000 l[i] l[i] (by omega) (Nat.le_refl _)
      rw [(sm_iff l[i] l[i]).2 rfl] at hs
      refine Ev.step (f := fun k => (thyrsusref3_Same.f k l[i].f0 l[i].f1 l[i].f2 l[i].f3 l[i].f0 l[i].f1 l[i].f2 l[i].f3).bind fun t => (if t = true then (thyrsuslaw3_Same.l0 k l l ((i + 1 : Nat) : Int)) else (some false))) (fun k => ?_) (Ev.bind hs ?_)
      · simp only [thyrsuslaw3_Same.l0]
        rw [if_pos (by omega), if_pos (by omega), if_pos (by omega), rd42 hil, wrap_id (n := (i : Int) + 1) (by omega), show (i : Int) + 1 = ((i + 1 : Nat) : Int) by omega]
      · simp only [if_true]
        exact ihd (i + 1) (by omega)
  unfold thyrsuslaw3_Same.f
  simp only [if_true]
  exact loop l.length 0 (by omega)
theorem sames_k (l : List S42) (h : sizes42 l ≤ 1000000) : ∃ k, thyrsuslaw3_Same.f k l l = some true := Ev.rounds (sames_ev l h)
theorem within2_ex {a n : Int} (ha : -9223372036854775808 ≤ a ∧ a ≤ 9223372036854775807) (h0 : 0 < n) (hn : n ≤ 4611686018427387904) : ∃ t : Nat, (t : Int) < n ∧ thyrsuslaw2_within.f a n = some (t : Int) := within_ex ha h0 hn
def pieces : List ByteArray := [(⟨#[40]⟩ : ByteArray), (⟨#[41]⟩ : ByteArray), (⟨#[97]⟩ : ByteArray), (⟨#[102, 110, 32]⟩ : ByteArray), (⟨#[32]⟩ : ByteArray), (⟨#[49, 50]⟩ : ByteArray), (⟨#[45, 51]⟩ : ByteArray), (⟨#[45, 62]⟩ : ByteArray), (⟨#[42]⟩ : ByteArray), (⟨#[45]⟩ : ByteArray), (⟨#[59, 32, 120, 10]⟩ : ByteArray), (⟨#[10]⟩ : ByteArray), (⟨#[98, 39]⟩ : ByteArray), (⟨#[95, 99]⟩ : ByteArray), (⟨#[48]⟩ : ByteArray), (⟨#[122, 101, 114, 111, 32]⟩ : ByteArray), (⟨#[57, 97]⟩ : ByteArray), (⟨#[33]⟩ : ByteArray), (⟨#[9]⟩ : ByteArray), (⟨#[85, 48]⟩ : ByteArray)]
theorem pieces_ok : ∀ t : Nat, t < 20 → (rdOf ByteArray.empty pieces (t : Int)).size ≤ 5 ∧ ∀ c ∈ lst (rdOf ByteArray.empty pieces (t : Int)), c ≠ 13 := by
  intro t ht
  have : t = 0 ∨ t = 1 ∨ t = 2 ∨ t = 3 ∨ t = 4 ∨ t = 5 ∨ t = 6 ∨ t = 7 ∨ t = 8 ∨ t = 9 ∨ t = 10 ∨ t = 11 ∨ t = 12 ∨ t = 13 ∨ t = 14 ∨ t = 15 ∨ t = 16 ∨ t = 17 ∨ t = 18 ∨ t = 19 := by omega
  rcases this with rfl | rfl | rfl | rfl | rfl | rfl | rfl | rfl | rfl | rfl | rfl | rfl | rfl | rfl | rfl | rfl | rfl | rfl | rfl | rfl <;> exact ⟨by decide, by decide⟩
theorem text_l0 (ns : List Int) (hn : ∀ x ∈ ns, (Lit.int .i64 x).wf = true) : ∀ (d i k : Nat) (s : ByteArray), 60 - i ≤ d → s.size ≤ 5 * i → (∀ c ∈ lst s, c ≠ 13) → d < k → i ≤ 60 → ∃ r, thyrsuslaw2_Text.l0 k ns s (i : Int) = some r ∧ r.size ≤ 300 ∧ ∀ c ∈ lst r, c ≠ 13
  | d, i, k, s, hd, hs, hc, hk, hi => by
    obtain ⟨k, rfl⟩ : ∃ k', k = k' + 1 := ⟨k - 1, by omega⟩
    rw [thyrsuslaw2_Text.l0]
    by_cases h1 : (i : Int) < (ns.length : Int)
    · rw [if_pos h1]
      by_cases h2 : i < 60
      · obtain ⟨d, rfl⟩ : ∃ d', d = d' + 1 := ⟨d - 1, by omega⟩
        have hr : rd ns (i : Int) ∈ ns := by
          unfold rd
          rw [Int.toNat_natCast, List.getD_eq_getElem?_getD, List.getElem?_eq_getElem (by omega)]
          exact List.getElem_mem _
        obtain ⟨t, ht, e⟩ := within2_ex (Pure.i64_of (hn _ hr)) (n := 20) (by decide) (by decide)
        obtain ⟨p1, p2⟩ := pieces_ok t (by omega)
        rw [if_pos (by omega), Option.bind_some, if_pos (by omega), e, Option.bind_some, if_pos (by omega), if_pos (by show (t : Int) < 20; omega)]
        rw [show ([(⟨#[40]⟩ : ByteArray), (⟨#[41]⟩ : ByteArray), (⟨#[97]⟩ : ByteArray), (⟨#[102, 110, 32]⟩ : ByteArray), (⟨#[32]⟩ : ByteArray), (⟨#[49, 50]⟩ : ByteArray), (⟨#[45, 51]⟩ : ByteArray), (⟨#[45, 62]⟩ : ByteArray), (⟨#[42]⟩ : ByteArray), (⟨#[45]⟩ : ByteArray), (⟨#[59, 32, 120, 10]⟩ : ByteArray), (⟨#[10]⟩ : ByteArray), (⟨#[98, 39]⟩ : ByteArray), (⟨#[95, 99]⟩ : ByteArray), (⟨#[48]⟩ : ByteArray), (⟨#[122, 101, 114, 111, 32]⟩ : ByteArray), (⟨#[57, 97]⟩ : ByteArray), (⟨#[33]⟩ : ByteArray), (⟨#[9]⟩ : ByteArray), (⟨#[85, 48]⟩ : ByteArray)] : List ByteArray) = pieces from rfl]
        generalize rdOf ByteArray.empty pieces (t : Int) = q at *
        have hz : (s ++ q).size = s.size + q.size := ByteArray.size_append
        rw [if_pos (by omega), Pure.wrap_ok _ (by omega) (by omega), show (i : Int) + 1 = ((i + 1 : Nat) : Int) by omega]
        refine text_l0 ns hn d (i + 1) k (s ++ q) (by omega) (by omega) ?_ (by omega) (by omega)
        intro c h
        rw [lst_append, List.mem_append] at h
        rcases h with h | h
        · exact hc c h
        · exact p2 c h
      · rw [if_neg (by omega)]
        exact ⟨s, rfl, by omega, hc⟩
    · rw [if_neg h1]
      exact ⟨s, rfl, by omega, hc⟩
theorem text_f (ns : List Int) (hn : ∀ x ∈ ns, (Lit.int .i64 x).wf = true) {k : Nat} (hk : 100 ≤ k) : ∃ r, thyrsuslaw2_Text.f k ns = some r ∧ r.size ≤ 300 ∧ ∀ c ∈ lst r, c ≠ 13 :=
  text_l0 ns hn 60 0 k ⟨#[]⟩ (by omega) (Nat.le_refl _) (by intro c h; exact absurd h (by simp [lst])) (by omega) (by omega)
end Go.Proofs.YtkkmgahgejjhgaaDoor.Pure
/- FormsParse: its walk: both Parses answer the model's fparse of each of the six texts. No conditions. Printed by genwlkp.py. -/
namespace Go.Proofs.YtkkmgahgejjhgaaDoor.P
open Go.RowKit Go.Proofs.YtkkmgahgejjhgaaDoor.Pure Go.Proofs.YtkkmgahgejjhgaaDoor.Lex Go.Proofs.YtkkmgahgejjhgaaDoor.Frm Go.Proofs.YtkkmgahgejjhgaaDoorW.PrintWords Go.Proofs.YtkkmgahgejjhgaaDoorW.PrintLast Go.Proofs.YtkkmgahgejjhgaaDoorW.PrintMore
set_option linter.unusedVariables false
set_option linter.unusedSimpArgs false
section
variable {P : Program} {ops : Array Oper} {rest : List Oper} {o : Oper} {a : Act} {Q : Exit → Act → World → Prop}
/-- '[]byte(s)': a new row of bytes. -/
theorem bytes_event {W : World} (hgd : o.guard = none) {N : Tmp} (_hd : o.dst = some N) {s : ByteArray} (hs : s.size ≤ 9223372036854775807)
    (hrun : (execOp a.eval o).run P W = .ok (.value (.slice (some ⟨W.heap.size, 0, none⟩) s.size (grownCap W s.size 0 5))) (Lib.bytesWorld W 5 s))
    (h : ∀ g c w1, g = W.heap.size → ReadsInt w1 .u8 (some ⟨g, 0, none⟩) s.size (bytesOf s) → (∀ j, j < s.size → w1.frozen? ⟨g, j, none⟩ = false) → Below W.heap.size W w1 → wpList P ops Q rest (a.put o.dst (.slice (some ⟨g, 0, none⟩) s.size c)) w1) : wpList P ops Q (o :: rest) a W := by
  refine Kd.event_run hgd hrun (h _ _ _ rfl (bytes_reads W 5 s hs) (fun j hj => ?_) (bytes_below (Below.refl _ _) (Nat.le_refl _) 5 s))
  have hz : s.size ≤ (Lib.bytesCells W 5 s).size := by
    unfold Lib.bytesCells
    rw [Array.size_append, Array.size_map]
    exact Nat.le_trans (Nat.le_of_eq rfl) (Nat.le_add_right _ _)
  unfold World.frozen?
  rw [Lib.bytesWorld_at_new]
  simp only [Bool.and_eq_false_imp, decide_eq_true_eq, decide_eq_false_iff_not]
  omega
end
theorem reads_set {w : World} {g n : Nat} {xs : List Int} {j : Nat} {v : Int} (h : ReadsInt w .u8 (some ⟨g, 0, none⟩) n xs) (hj : j < n) : ReadsInt (w.setCell ⟨g, j, none⟩ (.int .u8 v)) .u8 (some ⟨g, 0, none⟩) n (xs.set j v) := by
  obtain ⟨h1, h2, h3⟩ := h
  refine ⟨by rw [List.length_set]; exact h1, h2, fun hp => ⟨_, rfl, fun i hi => ?_⟩⟩
  obtain ⟨ad, e, hc⟩ := h3 hp
  cases e
  have hci := hc i hi
  rw [add_plain] at hci ⊢
  by_cases hij : i = j
  · subst hij
    rw [World.cell?_setCell_same' w _ _ (by rw [hci]; rfl)]
    simp [List.getD_eq_getElem?_getD, List.getElem?_set, h1, hi]
  · rw [World.cell?_setCell_other w ⟨g, j, none⟩ ⟨g, i, none⟩ (.int .u8 v) (by intro he; injection he with _ he; exact hij he.symm), hci]
    simp [List.getD_eq_getElem?_getD, List.getElem?_set_ne (Ne.symm hij)]
theorem reads_cell {w : World} {g n : Nat} {xs : List Int} {j : Nat} (h : ReadsInt w .u8 (some ⟨g, 0, none⟩) n xs) (hj : j < n) : w.cell? ⟨g, j, none⟩ = some (.int .u8 (xs.getD j 0)) := by
  obtain ⟨ad, e, hc⟩ := h.2.2 (by omega)
  cases e
  have := hc j hj
  rwa [add_plain] at this
set_option maxHeartbeats 8000000 in
set_option maxRecDepth 100000 in
theorem formsParse_go (A0 : Option Addr) (c0 : Nat) (l0 : List Int) (at_ by_ : Int) (raw : ByteArray) {W : World} (hC : Kd.C (Kd.int .i64) W A0 l0.length l0) (hc : l0.length ≤ c0) (hw : ∀ x ∈ l0, (Lit.int .i64 x).wf = true) (hat : -9223372036854775808 ≤ at_ ∧ at_ ≤ 9223372036854775807) (hT : TabP W) :
    Calls Tryd.prog 3 #[.slice A0 l0.length c0, .int .i64 at_, .int .u8 by_, .string raw] W fun e w' => e = .returned (.bool true) ∧ Below W.heap.size W w' := by
  have hu25 := Tryd.underlying25
  have hu27 := Tryd.underlying27
  have hu5 := Tryd.underlying5
  obtain ⟨s, hs, hs3, -⟩ := text_f l0 hw (k := 100) (Nat.le_refl _)
  have KN := Aside0.mk (fun (w : World) (h : TabP w) => thyrsuslaw3_known.calls 3 true w h (known_k 0))
  have TX := Aside0.mk (fun (w : World) (h : Kd.C (Kd.int .i64) w A0 l0.length l0) => thyrsuslaw2_Text.calls 100 A0 c0 l0 s w h hc hs)
  have HT := Aside0.mk hT
  have HC := Aside0.mk hC
  have SZ := Aside0.mk hs3
  have HAT := Aside0.mk hat
  clear hC hc hw hat hT hs hs3
  have kb := fun W => print_bytes (P := Tryd.prog) 9 25 5 Tryd.underlying9 Tryd.underlying25 Tryd.underlying5 s W
  by_cases hraw : raw.size > 300
  · have c1b : (300 < (raw.size : Int)) = True := eq_true (by omega)
    have c2b : (300 < raw.size) = True := eq_true hraw
    clear hraw
    go_enter Tryd.func3, Tryd.ntmps3
    go_wp2_with (first | (go_at_call 10; refine (KN.out _ HT.out).mono ?_; rintro e w1 ⟨rfl, hb⟩; have B1 := Aside0.mk hb; have C1 := Aside0.mk (Kd.C_below HC.out hb); clear hb))
    go_ret
    exact ⟨by first | rfl | (simp; done), B1.out⟩
  have c1b : (300 < (raw.size : Int)) = False := eq_false (by omega)
  have c2b : (300 < raw.size) = False := eq_false (by omega)
  have z1 := Aside0.mk (show (⟨#[40]⟩ ++ s : ByteArray).size = 1 + s.size by rw [ByteArray.size_append]; rfl)
  have z2 := Aside0.mk (show (s ++ ⟨#[41]⟩ : ByteArray).size = s.size + 1 by rw [ByteArray.size_append]; rfl)
  have z3 := Aside0.mk (show ((⟨#[40]⟩ ++ s) ++ ⟨#[41]⟩ : ByteArray).size = 1 + s.size + 1 by rw [ByteArray.size_append, z1.out]; rfl)
  have z4 : (9223372036854775807 < 1 + s.size) = False := eq_false (by have := SZ.out; omega)
  have z5 : (9223372036854775807 < 1 + s.size + 1) = False := eq_false (by have := SZ.out; omega)
  have z6 : (9223372036854775807 < s.size + 1) = False := eq_false (by have := SZ.out; omega)
  by_cases h0 : s.size = 0
  · have c3b : (0 < (s.size : Int)) = False := eq_false (by omega)
    have c4b : (0 < s.size) = False := eq_false (by omega)
    clear h0 hraw
    go_enter Tryd.func3, Tryd.ntmps3
    go_wp2_with (first | (go_at_call 10; refine (KN.out _ HT.out).mono ?_; rintro e w1 ⟨rfl, hb⟩; have B1 := Aside0.mk hb; have C1 := Aside0.mk (Kd.C_below HC.out hb); clear hb) | (go_at_call 11; refine (TX.out _ C1.out).mono ?_; rintro e w2 ⟨rfl, hb⟩; have B2 := Aside0.mk (B1.out.trans (hb.mono B1.out.size)); clear hb) | ((with_reducible refine gate_dst (N := 27) rfl ?_); refine bytes_event ?hg (N := 27) ?hd (s := s) (by have := SZ.out; omega) ?hr ?_; (case hd => rfl); (case hg => rfl); (case hr => first | (go_simp; done) | (go_simp; rfl)); intro g c3 w3 hg hr hf hb; have B3 := Aside0.mk (B2.out.trans (hb.mono B2.out.size)); have RD := Aside0.mk hr; have FZ := Aside0.mk hf; have GE := Aside0.mk (show W.heap.size ≤ g by rw [hg]; exact B2.out.size); clear hg hr hf hb; have kc := string_of_reads (P := Tryd.prog) (dst := 9) Tryd.underlying25 Tryd.underlying5 Tryd.underlying9 (c := c3) RD.out; generalize strOfNums (bytesOf s) = b at kc) | ((with_reducible refine gate_dst (N := 52) rfl ?_); refine Kd.R_lit Kd.string (w0 := W) W.heap.size 9 ?hg (N := 52) ?hd (xs := ([s, b, raw, (⟨#[40]⟩ ++ s) ++ ⟨#[41]⟩, s ++ ⟨#[41]⟩, ⟨#[40]⟩ ++ s] : List ByteArray)) (inner := [.string s, .string b, .string raw, .string ((⟨#[40]⟩ ++ s) ++ ⟨#[41]⟩), .string (s ++ ⟨#[41]⟩), .string (⟨#[40]⟩ ++ s)]) (ok := fun _ => True) (okp := fun _ => True) ?hr ?hp (fun _ h => h) trivial B3.out B3.out.size (by simp) ?_; (case hd => rfl); (case hg => rfl); (case hr => first | (go_simp; done) | (go_simp; rfl)); (case hp => exact (Reps.one (show Kd.M Kd.string _ _ _ (s : ByteArray) [.string (s : ByteArray)] from rfl) (Reps.one (show Kd.M Kd.string _ _ _ (b : ByteArray) [.string (b : ByteArray)] from rfl) (Reps.one (show Kd.M Kd.string _ _ _ (raw : ByteArray) [.string (raw : ByteArray)] from rfl) (Reps.one (show Kd.M Kd.string _ _ _ ((⟨#[40]⟩ ++ s) ++ ⟨#[41]⟩ : ByteArray) [.string ((⟨#[40]⟩ ++ s) ++ ⟨#[41]⟩ : ByteArray)] from rfl) (Reps.one (show Kd.M Kd.string _ _ _ (s ++ ⟨#[41]⟩ : ByteArray) [.string (s ++ ⟨#[41]⟩ : ByteArray)] from rfl) (Reps.one (show Kd.M Kd.string _ _ _ (⟨#[40]⟩ ++ s : ByteArray) [.string (⟨#[40]⟩ ++ s : ByteArray)] from rfl) (Reps.none _ _)))))))); intro v5 w5 ho hb hg _; obtain ⟨L, cap, e5, _, _, _⟩ := Kd.R_form ho (by simp); replace e5 : v5 = .slice (some ⟨L, 0, none⟩) 6 cap := e5; subst e5; have B5 := Aside0.mk hb; have RW := Aside0.mk ho; clear ho hb hg kc))
    generalize hxs : ([s, b, raw, (⟨#[40]⟩ ++ s) ++ ⟨#[41]⟩, s ++ ⟨#[41]⟩, ⟨#[40]⟩ ++ s] : List ByteArray) = xs at RW
    have HXL := Aside0.mk (show xs.length = 6 by rw [← hxs]; rfl)
    clear hxs
    go_loopw [12] (fun v12 w' => ∃ i : Nat, v12 = .int .i64 i ∧ Aside0 (i ≤ 6) ∧ Aside0 (Below W.heap.size W w') ∧ Aside0 (Kd.R Kd.string 9 w' W.heap.size (fun _ => True) (.slice (some ⟨L, 0, none⟩) 6 cap) xs)) (fun v12 _ => 6 - (intOf v12).toNat)
    case atStart => exact ⟨0, rfl, ⟨by omega⟩, B5, RW⟩
    case round =>
      obtain ⟨i, rfl, HI, B6, R6⟩ := hrel
      clear B5 RW
      by_cases hlt : i < 6
      · have V1 := Aside0.mk (show wrap64 ((i : Int) + 1) = ((i + 1 : Nat) : Int) by unfold wrap64; omega)
        have c1b : ((i : Int) < 6) = True := eq_true (by omega)
        have c2b : decide ((i : Int) < 6) = true := decide_eq_true (by omega)
        have c3b : (i < 6) = True := eq_true hlt
        have HLT := Aside0.mk hlt
        obtain ⟨x, hx⟩ : ∃ x, x = rdOf ByteArray.empty xs (i : Int) := ⟨_, rfl⟩
        have HX := Aside0.mk hx
        have k1 : wr.cell? ⟨L, i, none⟩ = some (.string x) := by
          have h_ := (Kd.R_celln (enc := Value.string) (h1 := fun _ => rfl) ByteArray.empty R6.out (i : Int) (by omega) (by omega)).1
          rw [hx]
          exact h_
        have PA := fun w => Frm.parse13 x w
        have PB := fun w => Frm.rparse14 x w
        have hz := fparse_sizes x
        obtain ⟨r, hr⟩ : ∃ r, r = fparse x := ⟨_, rfl⟩
        rw [← hr] at PA PB hz
        obtain ⟨r1, r2, r3⟩ := r
        obtain ⟨ks, hks⟩ := sames_k r1 (by simp only [] at hz; omega)
        have PA_ := Aside0.mk PA
        have PB_ := Aside0.mk PB
        have KS := Aside0.mk hks
        clear PA PB hz hr hks hx hlt
        go_wp2_with (first | (rw [V1.out]) | (go_at_call 13; refine (PA_.out _).mono ?_; rintro e w7 ⟨v7, rfl, hR, hb⟩; obtain ⟨A7, c7, rfl, hc7, hC7⟩ := Kd.R_reads hR; have HC7 := Aside0.mk hc7; have CC7 := Aside0.mk hC7; have B7 := Aside0.mk (B6.out.trans (hb.mono B6.out.size)); have R7 := Aside0.mk (Kd.R_below R6.out hb); clear k1 hR hb hc7 hC7; have k1 : w7.cell? ⟨L, i, none⟩ = some (.string x) := (by have h_ := (Kd.R_celln (enc := Value.string) (h1 := fun _ => rfl) ByteArray.empty R7.out (i : Int) (by omega) (by have := HLT.out; omega)).1; rw [HX.out]; exact h_)) | (go_at_call 14; refine (PB_.out _).mono ?_; rintro e w8 ⟨v8, rfl, hR, hb⟩; obtain ⟨A8, c8, rfl, hc8, hC8⟩ := Kd.R_reads hR; have HC8 := Aside0.mk hc8; have CC8 := Aside0.mk hC8; have CD7 := Aside0.mk (Kd.C_below CC7.out hb); have B8 := Aside0.mk (B7.out.trans (hb.mono B7.out.size)); have R8 := Aside0.mk (Kd.R_below R7.out hb); clear k1 hR hb hc8 hC8) | (go_at_call 15; refine (thyrsuslaw3_Same.calls ks A7 c7 r1 A8 c8 r1 true _ CD7.out HC7.out CC8.out HC8.out KS.out).mono ?_; rintro e w9 ⟨rfl, hb⟩; have B9 := Aside0.mk (B8.out.trans (hb.mono B8.out.size)); have R9 := Aside0.mk (Kd.R_below R8.out hb); clear hb))
        have h1_ := HLT.out
        refine ⟨⟨i + 1, rfl, ⟨by omega⟩, B9, R9⟩, ?_⟩
        simp only [intOf, Int.toNat_natCast]
        omega
      · obtain rfl : i = 6 := by have := HI.out; omega
        clear hlt
        go_wp2
        go_ret
        exact ⟨by first | rfl | (simp; done), B6.out⟩

  · obtain ⟨t, ht, he⟩ := within_ex HAT.out (n := (s.size : Int)) (by omega) (by have := SZ.out; omega)
    have TL := Aside0.mk (show t < s.size by omega)
    have WI := Aside0.mk (fun w => thyrsuslaw3_within.calls at_ (s.size : Int) (t : Int) w he)
    have c3b : (0 < (s.size : Int)) = True := eq_true (by omega)
    have c4b : (0 < s.size) = True := eq_true (by omega)
    have c5b : (t < s.size) = True := eq_true (by omega)
    have c6b : ((t : Int) < (s.size : Int)) = True := eq_true (by omega)
    clear h0 hraw he ht
    go_enter Tryd.func3, Tryd.ntmps3
    go_wp2_with (first | (go_at_call 10; refine (KN.out _ HT.out).mono ?_; rintro e w1 ⟨rfl, hb⟩; have B1 := Aside0.mk hb; have C1 := Aside0.mk (Kd.C_below HC.out hb); clear hb) | (go_at_call 11; refine (TX.out _ C1.out).mono ?_; rintro e w2 ⟨rfl, hb⟩; have B2 := Aside0.mk (B1.out.trans (hb.mono B1.out.size)); clear hb) | ((with_reducible refine gate_dst (N := 27) rfl ?_); refine bytes_event ?hg (N := 27) ?hd (s := s) (by have := SZ.out; omega) ?hr ?_; (case hd => rfl); (case hg => rfl); (case hr => first | (go_simp; done) | (go_simp; rfl)); intro g c3 w3 hg hr hf hb; have B3 := Aside0.mk (B2.out.trans (hb.mono B2.out.size)); have RD := Aside0.mk hr; have FZ := Aside0.mk hf; have GE := Aside0.mk (show W.heap.size ≤ g by rw [hg]; exact B2.out.size); clear hg hr hf hb; have k1 := reads_cell RD.out TL.out; have kf1 := FZ.out _ TL.out) | (go_at_call 12; refine (WI.out _).mono ?_; rintro e w' ⟨rfl, ⟨nd, rfl⟩⟩) | ((with_reducible refine gate_ (.store 5 (.tmp 40) (.tmp 39)) rfl ?_); refine store_event (w1 := ?inw) rfl rfl rfl ?hr ?_; (case hr => go_simp; rfl); intro w4 hw4; clear k1 kf1; have R4 := Aside0.mk (show ReadsInt w4 .u8 (some ⟨g, 0, none⟩) s.size _ by rw [hw4]; exact reads_set (ReadsInt.drewN RD.out nd) TL.out); have B4 := Aside0.mk (show Below W.heap.size W w4 by rw [hw4]; exact Below.setCell (p := ⟨g, t, none⟩) (pw_below_drewN B3.out nd) GE.out _); have kc := string_of_reads (P := Tryd.prog) (dst := 9) Tryd.underlying25 Tryd.underlying5 Tryd.underlying9 (c := c3) R4.out; generalize hbz : strOfNums _ = b at kc; clear hbz hw4 RD B3; have B3 := Aside0.mk B4.out; clear B4) | ((with_reducible refine gate_dst (N := 52) rfl ?_); refine Kd.R_lit Kd.string (w0 := W) W.heap.size 9 ?hg (N := 52) ?hd (xs := ([s, b, raw, (⟨#[40]⟩ ++ s) ++ ⟨#[41]⟩, s ++ ⟨#[41]⟩, ⟨#[40]⟩ ++ s] : List ByteArray)) (inner := [.string s, .string b, .string raw, .string ((⟨#[40]⟩ ++ s) ++ ⟨#[41]⟩), .string (s ++ ⟨#[41]⟩), .string (⟨#[40]⟩ ++ s)]) (ok := fun _ => True) (okp := fun _ => True) ?hr ?hp (fun _ h => h) trivial B3.out B3.out.size (by simp) ?_; (case hd => rfl); (case hg => rfl); (case hr => first | (go_simp; done) | (go_simp; rfl)); (case hp => exact (Reps.one (show Kd.M Kd.string _ _ _ (s : ByteArray) [.string (s : ByteArray)] from rfl) (Reps.one (show Kd.M Kd.string _ _ _ (b : ByteArray) [.string (b : ByteArray)] from rfl) (Reps.one (show Kd.M Kd.string _ _ _ (raw : ByteArray) [.string (raw : ByteArray)] from rfl) (Reps.one (show Kd.M Kd.string _ _ _ ((⟨#[40]⟩ ++ s) ++ ⟨#[41]⟩ : ByteArray) [.string ((⟨#[40]⟩ ++ s) ++ ⟨#[41]⟩ : ByteArray)] from rfl) (Reps.one (show Kd.M Kd.string _ _ _ (s ++ ⟨#[41]⟩ : ByteArray) [.string (s ++ ⟨#[41]⟩ : ByteArray)] from rfl) (Reps.one (show Kd.M Kd.string _ _ _ (⟨#[40]⟩ ++ s : ByteArray) [.string (⟨#[40]⟩ ++ s : ByteArray)] from rfl) (Reps.none _ _)))))))); intro v5 w5 ho hb hg _; obtain ⟨L, cap, e5, _, _, _⟩ := Kd.R_form ho (by simp); replace e5 : v5 = .slice (some ⟨L, 0, none⟩) 6 cap := e5; subst e5; have B5 := Aside0.mk hb; have RW := Aside0.mk ho; clear ho hb hg kc))
    generalize hxs : ([s, b, raw, (⟨#[40]⟩ ++ s) ++ ⟨#[41]⟩, s ++ ⟨#[41]⟩, ⟨#[40]⟩ ++ s] : List ByteArray) = xs at RW
    have HXL := Aside0.mk (show xs.length = 6 by rw [← hxs]; rfl)
    clear hxs
    go_loopw [12] (fun v12 w' => ∃ i : Nat, v12 = .int .i64 i ∧ Aside0 (i ≤ 6) ∧ Aside0 (Below W.heap.size W w') ∧ Aside0 (Kd.R Kd.string 9 w' W.heap.size (fun _ => True) (.slice (some ⟨L, 0, none⟩) 6 cap) xs)) (fun v12 _ => 6 - (intOf v12).toNat)
    case atStart => exact ⟨0, rfl, ⟨by omega⟩, B5, RW⟩
    case round =>
      obtain ⟨i, rfl, HI, B6, R6⟩ := hrel
      clear B5 RW
      by_cases hlt : i < 6
      · have V1 := Aside0.mk (show wrap64 ((i : Int) + 1) = ((i + 1 : Nat) : Int) by unfold wrap64; omega)
        have c1b : ((i : Int) < 6) = True := eq_true (by omega)
        have c2b : decide ((i : Int) < 6) = true := decide_eq_true (by omega)
        have c3b : (i < 6) = True := eq_true hlt
        have HLT := Aside0.mk hlt
        obtain ⟨x, hx⟩ : ∃ x, x = rdOf ByteArray.empty xs (i : Int) := ⟨_, rfl⟩
        have HX := Aside0.mk hx
        have k1 : wr.cell? ⟨L, i, none⟩ = some (.string x) := by
          have h_ := (Kd.R_celln (enc := Value.string) (h1 := fun _ => rfl) ByteArray.empty R6.out (i : Int) (by omega) (by omega)).1
          rw [hx]
          exact h_
        have PA := fun w => Frm.parse13 x w
        have PB := fun w => Frm.rparse14 x w
        have hz := fparse_sizes x
        obtain ⟨r, hr⟩ : ∃ r, r = fparse x := ⟨_, rfl⟩
        rw [← hr] at PA PB hz
        obtain ⟨r1, r2, r3⟩ := r
        obtain ⟨ks, hks⟩ := sames_k r1 (by simp only [] at hz; omega)
        have PA_ := Aside0.mk PA
        have PB_ := Aside0.mk PB
        have KS := Aside0.mk hks
        clear PA PB hz hr hks hx hlt
        go_wp2_with (first | (rw [V1.out]) | (go_at_call 13; refine (PA_.out _).mono ?_; rintro e w7 ⟨v7, rfl, hR, hb⟩; obtain ⟨A7, c7, rfl, hc7, hC7⟩ := Kd.R_reads hR; have HC7 := Aside0.mk hc7; have CC7 := Aside0.mk hC7; have B7 := Aside0.mk (B6.out.trans (hb.mono B6.out.size)); have R7 := Aside0.mk (Kd.R_below R6.out hb); clear k1 hR hb hc7 hC7; have k1 : w7.cell? ⟨L, i, none⟩ = some (.string x) := (by have h_ := (Kd.R_celln (enc := Value.string) (h1 := fun _ => rfl) ByteArray.empty R7.out (i : Int) (by omega) (by have := HLT.out; omega)).1; rw [HX.out]; exact h_)) | (go_at_call 14; refine (PB_.out _).mono ?_; rintro e w8 ⟨v8, rfl, hR, hb⟩; obtain ⟨A8, c8, rfl, hc8, hC8⟩ := Kd.R_reads hR; have HC8 := Aside0.mk hc8; have CC8 := Aside0.mk hC8; have CD7 := Aside0.mk (Kd.C_below CC7.out hb); have B8 := Aside0.mk (B7.out.trans (hb.mono B7.out.size)); have R8 := Aside0.mk (Kd.R_below R7.out hb); clear k1 hR hb hc8 hC8) | (go_at_call 15; refine (thyrsuslaw3_Same.calls ks A7 c7 r1 A8 c8 r1 true _ CD7.out HC7.out CC8.out HC8.out KS.out).mono ?_; rintro e w9 ⟨rfl, hb⟩; have B9 := Aside0.mk (B8.out.trans (hb.mono B8.out.size)); have R9 := Aside0.mk (Kd.R_below R8.out hb); clear hb))
        have h1_ := HLT.out
        refine ⟨⟨i + 1, rfl, ⟨by omega⟩, B9, R9⟩, ?_⟩
        simp only [intOf, Int.toNat_natCast]
        omega
      · obtain rfl : i = 6 := by have := HI.out; omega
        clear hlt
        go_wp2
        go_ret
        exact ⟨by first | rfl | (simp; done), B6.out⟩

theorem row_Cp {k : IntKind} {w : World} {a : Option Addr} {len cap : Nat} {zs : List Int} (h : (a = none ∧ len = 0 ∧ cap = 0 ∧ zs = []) ∨ ∃ x, a = some x ∧ len ≤ cap ∧ cap ≤ maxLen ∧ zs.length = cap ∧ (∀ i, i < zs.length → w.cell? (x.add i) = some (.int k (zs.getD i 0))) ∧ ∀ n ∈ zs, (Lit.int k n).wf = true) :
    ∃ l : List Int, len = l.length ∧ l.length ≤ cap ∧ Kd.C (Kd.int k) w a l.length l ∧ ∀ x ∈ l, (Lit.int k x).wf = true := by
  obtain ⟨l, h1, h2, h3, h4⟩ := ReadsInt.ofRow h
  refine ⟨l, h1, ?_, Kd.C_of_reads (enc := Value.int k) (d := (0 : Int)) h2, h4⟩
  rcases h with ⟨_, h5, h6, _⟩ | ⟨_, _, h5, _⟩ <;> omega
theorem formsParse_walk {W : World} (a0 : Option Addr) (len0 cap0 : Nat) (z0 : List Int) (h0 : (a0 = none ∧ len0 = 0 ∧ cap0 = 0 ∧ z0 = []) ∨ ∃ x, a0 = some x ∧ len0 ≤ cap0 ∧ cap0 ≤ maxLen ∧ z0.length = cap0 ∧ (∀ i, i < z0.length → W.cell? (x.add i) = some (.int .i64 (z0.getD i 0))) ∧ ∀ n ∈ z0, (Lit.int .i64 n).wf = true) (y0 : len0 * 8 ≤ 140737488351232)
    (a1 : Int) (w1 : (Lit.int .i64 a1).wf = true) (a2 : Int) (w2 : (Lit.int .u8 a2).wf = true) (a3 : ByteArray) (w3 : a3.size ≤ 140737488351232) (hT : TabP W) :
    Calls Tryd.prog 3 #[.slice a0 len0 cap0, .int .i64 a1, .int .u8 a2, .string a3] W fun e w' => e = .returned (.bool true) ∧ Below W.heap.size W w' := by
  obtain ⟨l, rfl, e2, C2, r2⟩ := row_Cp h0
  exact formsParse_go a0 cap0 l a1 a2 a3 C2 e2 r2 (i64_of w1) hT
end Go.Proofs.YtkkmgahgejjhgaaDoor.P
/- A tree that came in (struct type 38: two numbers, a string, a slice of itself), opened: it reads as a Lean tree. -/
namespace Go.Proofs.YtkkmgahgejjhgaaDoor.P
open Go.RowKit Go.ChangeShapes Go.WideShapes Go.ChangeAt Go.Proofs.YtkkmgahgejjhgaaDoor.Pure Go.Proofs.YtkkmgahgejjhgaaDoorW.PrintWords Go.Proofs.YtkkmgahgejjhgaaDoorW.PrintLast Go.Proofs.YtkkmgahgejjhgaaDoorW.PrintMore
set_option linter.unusedVariables false
set_option linter.unusedSimpArgs false
end Go.Proofs.YtkkmgahgejjhgaaDoor.P
/- The rows' condition on listed variables, for strconv's table of powers of ten. -/
namespace Go.Proofs.YtkkmgahgejjhgaaDoor.P
theorem tabP_of {W : World} (h : laidMetH Tryd.prog Rows.formsDeepRow.laid W) : TabP W := by
  have h' : laidMet Tryd.prog Rows.formsDeepRow.laid W := h
  obtain ⟨ps, ⟨g1, t1, c1, f1, p1, q1, _, _, _, _, ⟨g2, t2, c2, f2, p2, q2, _, _, _, _, ⟨g, t, cs, fuel, p, q, hg, ht, hvar, hd, _, _⟩, _⟩, _⟩, _⟩ := h'
  have hg1 : Tryd.prog.globalNamed "internal/strconv.uint64pow10" = some 0 := by kernel_rfl
  obtain rfl := Option.some.inj (hg1.symm.trans hg)
  have ht1 : (Tryd.prog.globals[0]?).map (·.type) = some 107 := by kernel_rfl
  obtain rfl := Option.some.inj (ht1.symm.trans ht)
  have e := Lib.cells_of_tab (n := 20) (k := .u64) (zs := Lib.pow10Tab) Tryd.underlying107 Tryd.underlying91 (by kernel_rfl) (by kernel_rfl) hd
  unfold TabP Lib.TabIs
  rw [hvar, ← e]
end Go.Proofs.YtkkmgahgejjhgaaDoor.P
