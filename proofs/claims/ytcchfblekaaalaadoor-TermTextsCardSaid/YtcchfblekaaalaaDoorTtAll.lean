/- Several texts in one: HandG0, Want, TxtA, TxtR, TxtW, RefS, PureTxA, PureTermTexts, TabL. -/
import Derived.Test.YtcchfblekaaalaaDoorQx3
import Derived.Test.YtcchfblekaaalaaDoorQx6
import Derived.Test.YtcchfblekaaalaaDoorPx0
import Derived.Test.YtcchfblekaaalaaDoorQx1
import Derived.Test.YtcchfblekaaalaaDoorHandSame
import Derived.Test.YtcchfblekaaalaaDoorPx1
import Derived.Test.YtcchfblekaaalaaDoorTextA
import Derived.Test.YtcchfblekaaalaaDoorMake2
import Derived.Test.YtcchfblekaaalaaDoorRows
import Derived.Lib.LaidTab
import Derived.KernelRfl
/- Rows of terms that are read (TV); Make, ref.Same over them. As HandGo, without Shift and Subst. -/
namespace Go.Proofs.YtcchfblekaaalaaDoor.P
open Go.RowKit Go.Proofs.YtcchfblekaaalaaDoorW.PrintWords Go.Proofs.YtcchfblekaaalaaDoorW.PrintLast Go.Proofs.YtcchfblekaaalaaDoorW.PrintMore
set_option linter.unusedVariables false
def TV (w : World) (G : Nat → Prop) (v : Value) (ks : List S29) : Prop := Kd.V k29 29 w 0 (fun k_ => ¬ G k_) v ks
section
variable {w w' W : World} {G G' ok : Nat → Prop} {v : Value} {ks : List S29} {g j n : Nat}
theorem TV.below (h : TV w G v ks) (hb : Below w.heap.size w w') (hG : ∀ k, G' k → G k ∨ w.heap.size ≤ k) : TV w' G' v ks :=
  Kd.V_mono (Kd.V_below (Kd.V_bound h) hb) (fun k hk h' => (hG k h').elim hk.1 (fun hle => by have := hk.2; omega))
theorem TV.old (h : TV W (fun _ => False) v ks) (hb : Below W.heap.size W w') (hG : ∀ k, G k → W.heap.size ≤ k) : TV w' G v ks := h.below hb (fun k hk => .inr (hG k hk))
theorem TV.step (h : TV w G v ks) (hb : Below w.heap.size w w') : TV w' G v ks := h.below hb (fun _ hk => .inl hk)
theorem TV.set (h : TV w G v ks) (hg : G g) (u : Value) : TV (w.setCell ⟨g, j, none⟩ u) G v ks := Kd.V_far h (fun k hk e => hk (by rw [e]; exact hg)) u
theorem TV.set3 (h : TV w G v ks) (hg : G g) (x y z : Value) : TV (((w.setCell ⟨g, 0, none⟩ x).setCell ⟨g, 1, none⟩ y).setCell ⟨g, 2, none⟩ z) G v ks := ((h.set hg x).set hg y).set hg z
theorem TV.free (h : TV w G v ks) : TV w (fun _ => False) v ks := Kd.V_mono h (fun _ _ h => h)
theorem TV.ofN (h : Kd.N k29 29 w' n ok v ks) (hok : ∀ k, ok k → ¬ G k) : TV w' G v ks := Kd.V_mono (Kd.N_V h) hok
theorem TV.ofR (h : Kd.R k29 29 w' n ok v ks) (hG : ∀ k, G k → k < n) : TV w' G v ks := Kd.V_mono (Kd.R_V (Kd.R_bound h)) (fun k hk hg => by have := hG k hg; have := hk.2.1; omega)
theorem TV.ofV (h : Kd.V k29 29 w' n ok v ks) (hok : ∀ k, ok k → ¬ G k) : TV w' G v ks := Kd.V_mono (Kd.V_map h (fun _ h => h)) hok
theorem TV.reads (h : TV w G v ks) : ∃ A c, v = .slice A ks.length c ∧ ks.length ≤ c ∧ Kd.C k29 w A ks.length ks := by
  obtain ⟨A, c, rfl⟩ := Kd.V_slice h
  exact ⟨A, c, rfl, (Kd.V_reads' h).2⟩
theorem blk_set3 {cs : Array Value} {t : TypeId} (h : w.heap[g]? = some (.cells cs t (0, 0))) (hs : cs.size = 3) (x y z : Value) : (((w.setCell ⟨g, 0, none⟩ x).setCell ⟨g, 1, none⟩ y).setCell ⟨g, 2, none⟩ z).heap[g]? = some (.cells #[x, y, z] t (0, 0)) := by
  refine blk_put (blk_put (blk_put h 0 x rfl) 1 y rfl) 2 z ?_
  obtain ⟨l⟩ := cs
  match l, hs with
  | [_, _, _], _ => rfl
theorem blk_far3 {cs : Array Value} {t : TypeId} {g' : Nat} (h : w.heap[g]? = some (.cells cs t (0, 0))) (hne : g ≠ g') (x y z : Value) : (((w.setCell ⟨g', 0, none⟩ x).setCell ⟨g', 1, none⟩ y).setCell ⟨g', 2, none⟩ z).heap[g]? = some (.cells cs t (0, 0)) :=
  blk_far (p := ⟨g', 2, none⟩) (blk_far (p := ⟨g', 1, none⟩) (blk_far (p := ⟨g', 0, none⟩) h hne x) hne y) hne z
theorem below_set3 (h : Below W.heap.size W w) (hg : W.heap.size ≤ g) (x y z : Value) : Below W.heap.size W (((w.setCell ⟨g, 0, none⟩ x).setCell ⟨g, 1, none⟩ y).setCell ⟨g, 2, none⟩ z) := below_set (below_set (below_set h hg) hg) hg
theorem size_set3 (x y z : Value) : (((w.setCell ⟨g, 0, none⟩ x).setCell ⟨g, 1, none⟩ y).setCell ⟨g, 2, none⟩ z).heap.size = w.heap.size := by simp [World.setCell]
end
theorem make_go (k : Nat) (a0 a1 : Int) (A : Option Addr) (c : Nat) (l : List S24) (d n r1 r2 : Int) (r3 : List S29) (w : World) (G : Nat → Prop) (hG : ∀ k, G k → k < w.heap.size) (hr : Kd.C k24 w A l.length l) (hc : l.length ≤ c) (h : thyrsuslaw1_Make.f k a0 a1 l d n = some (r1, r2, r3)) :
    Calls Tryd.prog 16 #[.agg #[.int .i64 a0, .int .i64 a1, .slice A l.length c], .int .i64 d, .int .i64 n] w fun e w' => ∃ v : Value, e = .returned (.agg #[.int .i64 r1, .int .i64 r2, v]) ∧ TV w' G v r3 ∧ Below w.heap.size w w' :=
  (thyrsuslaw1_Make.calls k a0 a1 A c l d n r1 r2 r3 w hr hc h).mono fun e w' ⟨v, he, hR, hb⟩ => ⟨v, he, TV.ofR hR hG, hb⟩
theorem same_go (k : Nat) (op n : Int) (v : Value) (kids : List S29) (uop un : Int) (vu : Value) (uk : List S29) (r : Bool) (w : World) {G G' : Nat → Prop} (hs : TV w G v kids) (hu : TV w G' vu uk) (h : thyrsusref4_Same.f k op n kids uop un uk = some r) :
    Calls Tryd.prog 18 #[.agg #[.int .i64 op, .int .i64 n, v], .agg #[.int .i64 uop, .int .i64 un, vu]] w fun e w' => e = .returned (.bool r) ∧ Below w.heap.size w w' := by
  obtain ⟨A, c, rfl, hc, hC⟩ := hs.reads
  obtain ⟨Au, cu, rfl, hcu, hCu⟩ := hu.reads
  exact thyrsusref4_Same.calls k op n A c kids uop un Au cu uk r w hC hc hCu hcu h
end Go.Proofs.YtcchfblekaaalaaDoor.P
/- Guarded operations, for regions by one relation (three of the print's words, which prune.py had struck). -/
namespace Go.Proofs.YtcchfblekaaalaaDoor.P
open Go.RowKit Go.Proofs.YtcchfblekaaalaaDoorW.PrintWords Go.Proofs.YtcchfblekaaalaaDoorW.PrintLast Go.Proofs.YtcchfblekaaalaaDoorW.PrintMore
set_option linter.unusedVariables false
variable {P : Program} {ops : Array Oper} {Q : Exit → Act → World → Prop} {o og : Oper} {g : Nat} {u : Bool} {t : Tmp} {a : Act}
theorem wanted_on (hg : o.guard = some (g, u)) (ho : ops[g]? = some og) (hd : og.dst = some t) (hv : a.tmps[t]? = some (.bool u)) : Region.wanted o (yielded ops a.tmps) = true := by
  simp [Region.wanted, hg, yielded, ho, hd, hv]
theorem wanted_off (hg : o.guard = some (g, u)) (ho : ops[g]? = some og) (hd : og.dst = some t) (hv : a.tmps[t]? = some (.bool (!u))) : Region.wanted o (yielded ops a.tmps) = false := by
  cases u <;> simp_all [Region.wanted, yielded]
theorem wanted_undef (hg : o.guard = some (g, true)) (ho : ops[g]? = some og) (hd : og.dst = some t) (hv : a.tmps[t]? = some undef) : Region.wanted o (yielded ops a.tmps) = false := by
  simp [Region.wanted, hg, yielded, ho, hd, hv, undef]
theorem off_ {oi : Oper} {N : Option Tmp} {a : Act} {w : World} {K : Act → World → Prop} (hw : Region.wanted oi (yielded ops a.tmps) = false) (h : K (a.put N undef) w) : if Region.wanted oi (yielded ops a.tmps) = true then Oper.wp P oi a w K Q else K (a.put N undef) w := by
  rw [hw, if_neg (by simp)]
  exact h
end Go.Proofs.YtcchfblekaaalaaDoor.P
/- TermTexts: what it comes to, and its drawn regions' tables (the print's) -/
namespace Go.Proofs.YtcchfblekaaalaaDoor.P
open Go.RowKit Go.Proofs.YtcchfblekaaalaaDoorW.PrintWords Go.Proofs.YtcchfblekaaalaaDoorW.PrintLast Go.Proofs.YtcchfblekaaalaaDoorW.PrintMore
set_option linter.unusedVariables false
set_option linter.unusedSimpArgs false
/-! ### thyrsuslaw4_TermTexts: function 3 -/
def thyrsuslaw4_TermTexts.j0 : Nat → Bool → Int → Int → List (S24) → Int → Int → List (S24) → Option (Bool)
  | 0, _, _, _, _, _, _, _ => none
  | k + 1, x16, x290000, x290001, x290002, x291000, x291001, x291002 => if x16 = true then (some true) else ((thyrsuslaw1_Make.f k x290000 x290001 x290002 5 3).bind fun bt294 => ((thyrsuslaw1_Make.f k x291000 x291001 x291002 5 3).bind fun bt299 => ((term_TextA.f k bt294.1 bt294.2.1 bt294.2.2).bind fun t306 => ((term_TextA.f k bt299.1 bt299.2.1 bt299.2.2).bind fun t307 => ((thyrsusref4_Same.f k bt294.1 bt294.2.1 bt294.2.2 bt299.1 bt299.2.1 bt299.2.2).bind fun t308 => (if ((t306.toList == t307.toList) == t308) = true then ((term_Same.f k bt294.1 bt294.2.1 bt294.2.2 bt299.1 bt299.2.1 bt299.2.2).bind fun t309 => ((thyrsusref4_Same.f k bt294.1 bt294.2.1 bt294.2.2 bt299.1 bt299.2.1 bt299.2.2).bind fun t310 => (some (t309 == t310)))) else (none)))))))
def thyrsuslaw4_TermTexts.f (k : Nat) (a0_0 : Int) (a0_1 : Int) (l0_2 : List (S24)) (a1_0 : Int) (a1_1 : Int) (l1_2 : List (S24)) : Option (Bool) := (thyrsuslaw4_known.f k).bind fun t291 => (if t291 = true then ((thyrsuslaw1_Few.f k a0_0 a0_1 l0_2).bind fun t292 => (if t292 = true then ((thyrsuslaw1_Few.f k a1_0 a1_1 l1_2).bind fun t293 => (thyrsuslaw4_TermTexts.j0 k (!t293) a0_0 a0_1 l0_2 a1_0 a1_1 l1_2)) else (thyrsuslaw4_TermTexts.j0 k true a0_0 a0_1 l0_2 a1_0 a1_1 l1_2))) else (none))
theorem thyrsuslaw4_TermTexts.mono_l : ∀ k, (∀ y0 y1 y2 y3 y4 y5 y6, LeO (thyrsuslaw4_TermTexts.j0 k y0 y1 y2 y3 y4 y5 y6) (thyrsuslaw4_TermTexts.j0 (k + 1) y0 y1 y2 y3 y4 y5 y6))
  | 0 => fun _ _ _ _ _ _ _ r h => by simp [thyrsuslaw4_TermTexts.j0] at h
  | k + 1 => by
    have ih0 := thyrsuslaw4_TermTexts.mono_l k
    · intro y0 y1 y2 y3 y4 y5 y6
      unfold thyrsuslaw4_TermTexts.j0
      repeat' first
      | (with_reducible exact ih0 _ _ _ _ _ _ _)
      | (with_reducible exact term_Same.mono _ _ _ _ _ _ _)
      | (with_reducible exact term_TextA.mono _ _ _ _)
      | (with_reducible exact thyrsuslaw1_Few.mono _ _ _ _)
      | (with_reducible exact thyrsuslaw1_Make.mono _ _ _ _ _ _)
      | (with_reducible exact thyrsuslaw4_known.mono _)
      | (with_reducible exact thyrsusref4_Same.mono _ _ _ _ _ _ _)
      | (with_reducible exact LeO.refl _)
      | (with_reducible exact LeO.none _)
      | (with_reducible refine LeO.ite ?_ ?_)
      | (with_reducible refine LeO.bind ?_ (fun _ => ?_))
      | exact ih0 _ _ _ _ _ _ _
      | exact term_Same.mono _ _ _ _ _ _ _
      | exact term_TextA.mono _ _ _ _
      | exact thyrsuslaw1_Few.mono _ _ _ _
      | exact thyrsuslaw1_Make.mono _ _ _ _ _ _
      | exact thyrsuslaw4_known.mono _
      | exact thyrsusref4_Same.mono _ _ _ _ _ _ _
      | exact LeO.none _
      | refine LeO.ite ?_ ?_
      | refine LeO.bind ?_ (fun _ => ?_)
theorem thyrsuslaw4_TermTexts.mono : ∀ a0 a1 a2 a3 a4 a5 k, LeO (thyrsuslaw4_TermTexts.f k a0 a1 a2 a3 a4 a5) (thyrsuslaw4_TermTexts.f (k + 1) a0 a1 a2 a3 a4 a5) := by
  intro a0 a1 a2 a3 a4 a5 k
  have ih0 := thyrsuslaw4_TermTexts.mono_l k
  unfold thyrsuslaw4_TermTexts.f
  repeat' first
      | (with_reducible exact ih0 _ _ _ _ _ _ _)
      | (with_reducible exact term_Same.mono _ _ _ _ _ _ _)
      | (with_reducible exact term_TextA.mono _ _ _ _)
      | (with_reducible exact thyrsuslaw1_Few.mono _ _ _ _)
      | (with_reducible exact thyrsuslaw1_Make.mono _ _ _ _ _ _)
      | (with_reducible exact thyrsuslaw4_known.mono _)
      | (with_reducible exact thyrsusref4_Same.mono _ _ _ _ _ _ _)
      | (with_reducible exact LeO.refl _)
      | (with_reducible exact LeO.none _)
      | (with_reducible refine LeO.ite ?_ ?_)
      | (with_reducible refine LeO.bind ?_ (fun _ => ?_))
      | exact ih0 _ _ _ _ _ _ _
      | exact term_Same.mono _ _ _ _ _ _ _
      | exact term_TextA.mono _ _ _ _
      | exact thyrsuslaw1_Few.mono _ _ _ _
      | exact thyrsuslaw1_Make.mono _ _ _ _ _ _
      | exact thyrsuslaw4_known.mono _
      | exact thyrsusref4_Same.mono _ _ _ _ _ _ _
      | exact LeO.none _
      | refine LeO.ite ?_ ?_
      | refine LeO.bind ?_ (fun _ => ?_)
def thyrsuslaw4_TermTexts.T5 : Bool × List (List Nat × List Nat) := (true, [([], []), ([0], [0]), ([], []), ([2, 1], [2]), ([], []), ([], []), ([4, 1, 3, 0, 1, 4, 5], [1, 4]), ([5, 3, 6, 0, 1, 2, 3, 4, 5, 6], [3, 5])])
def thyrsuslaw4_TermTexts.B5 : List Nat := [0, 1, 0, 7, 0, 0, 63, 127]
theorem thyrsuslaw4_TermTexts.tab5 : rtab .any (opsOf Tryd.f3 5) = thyrsuslaw4_TermTexts.T5 := by kernel_rfl
theorem thyrsuslaw4_TermTexts.bits5 : waitsOk thyrsuslaw4_TermTexts.T5.2 thyrsuslaw4_TermTexts.B5 = true := by kernel_rfl
def thyrsuslaw4_TermTexts.T6 : Bool × List (List Nat × List Nat) := (true, [([], []), ([0], [0]), ([], []), ([2, 1], [2]), ([1, 3], [1, 3]), ([], []), ([], []), ([5, 6, 3], [5, 6]), ([4, 7], [4, 7]), ([8, 7], [8]), ([9], [9]), ([9], [9]), ([10, 11, 9, 9], [9, 10, 11]), ([9], [9]), ([9], [9]), ([13, 14, 12, 9], [9, 13, 14]), ([12, 15, 9], [9, 12, 15]), ([9, 16], [9, 16]), ([17, 15, 0, 1, 2, 3, 4, 5, 6, 7, 8, 9, 10, 11, 12, 13, 14, 15, 16, 17], [17])])
def thyrsuslaw4_TermTexts.B6 : List Nat := [0, 1, 0, 7, 15, 0, 0, 111, 255, 511, 1023, 1023, 4095, 1023, 1023, 32767, 65535, 131071, 262143]
theorem thyrsuslaw4_TermTexts.tab6 : rtab .any (opsOf Tryd.f3 6) = thyrsuslaw4_TermTexts.T6 := by kernel_rfl
theorem thyrsuslaw4_TermTexts.bits6 : waitsOk thyrsuslaw4_TermTexts.T6.2 thyrsuslaw4_TermTexts.B6 = true := by kernel_rfl
end Go.Proofs.YtcchfblekaaalaaDoor.P
/- TermTexts: its drawn regions, each by one relation (printed by gentt.py) -/
namespace Go.Proofs.YtcchfblekaaalaaDoor.P
open Go.RowKit Go.Proofs.YtcchfblekaaalaaDoorW.PrintWords Go.Proofs.YtcchfblekaaalaaDoorW.PrintLast Go.Proofs.YtcchfblekaaalaaDoorW.PrintMore
set_option linter.unusedVariables false
set_option linter.unusedSimpArgs false
theorem text_go (k : Nat) (op n : Int) (v : Value) (kids : List S29) (r : ByteArray) (w : World) (hT : TabP w) {G : Nat → Prop} (hs : TV w G v kids) (h : term_TextA.f k op n kids = some r) :
    Calls Tryd.prog 17 #[.agg #[.int .i64 op, .int .i64 n, v]] w fun e w' => e = .returned (.string r) ∧ Below w.heap.size w w' := by
  obtain ⟨A, c, rfl, hc, hC⟩ := hs.reads
  exact term_TextA.calls k op n A c kids r w hT hC hc h
theorem tsame_go (k : Nat) (op n : Int) (v : Value) (kids : List S29) (uop un : Int) (vu : Value) (uk : List S29) (r : Bool) (w : World) {G G' : Nat → Prop} (hs : TV w G v kids) (hu : TV w G' vu uk) (h : term_Same.f k op n kids uop un uk = some r) :
    Calls Tryd.prog 19 #[.agg #[.int .i64 op, .int .i64 n, v], .agg #[.int .i64 uop, .int .i64 un, vu]] w fun e w' => e = .returned (.bool r) ∧ Below w.heap.size w w' := by
  obtain ⟨A, c, rfl, hc, hC⟩ := hs.reads
  obtain ⟨Au, cu, rfl, hcu, hCu⟩ := hu.reads
  exact term_Same.calls k op n A c kids uop un Au cu uk r w hC hc hCu hcu h
set_option maxHeartbeats 4000000 in
set_option maxRecDepth 100000 in
theorem texts_r5 {Q : Exit → Act → World → Prop} {a : Act} {W : World} (hsz : a.tmps.size = 39) (kk : Nat) (pd qd : Int) (Ad : Option Addr) (cd : Nat) (ld : List S24) (bd : Nat) (hd : a.tmps[2]? = some (.pointer (some ⟨bd, 0, none⟩))) (Bd_ : W.heap[bd]? = some (.cells #[.int .i64 pd, .int .i64 qd, .slice Ad ld.length cd] 24 (0, 0))) (Rd_ : Kd.C k24 W Ad ld.length ld) (Cd_ : ld.length ≤ cd)
    (pe qe : Int) (Ae : Option Addr) (ce : Nat) (le : List S24) (be : Nat) (he : a.tmps[3]? = some (.pointer (some ⟨be, 0, none⟩))) (Be_ : W.heap[be]? = some (.cells #[.int .i64 pe, .int .i64 qe, .slice Ae le.length ce] 24 (0, 0))) (Re_ : Kd.C k24 W Ae le.length le) (Ce_ : le.length ≤ ce)
    (r1_0 r1_1 : Int) (k1_ : List S29)
    (r3_0 r3_1 : Int) (k3_ : List S29)
    (H1 : thyrsuslaw1_Make.f kk pd qd ld 5 3 = some (r1_0, r1_1, k1_))
    (H3 : thyrsuslaw1_Make.f kk pe qe le 5 3 = some (r3_0, r3_1, k3_))
    (hQ : ∀ (u1 u3 : Value) (g4 g5 : Nat) (w' : World), Below W.heap.size W w' → W.heap.size ≤ g4 → w'.heap[g4]? = some (.cells #[.int .i64 r1_0, .int .i64 r1_1, u1] 29 (0, 0)) → TV w' (fun _ => False) u1 k1_ → W.heap.size ≤ g5 → w'.heap[g5]? = some (.cells #[.int .i64 r3_0, .int .i64 r3_1, u3] 29 (0, 0)) → TV w' (fun _ => False) u3 k3_ → Q .normal ((((((a.put (some 17) (.agg #[.int .i64 pd, .int .i64 qd, .slice Ad ld.length cd])).put (some 18) (.agg #[.int .i64 r1_0, .int .i64 r1_1, u1])).put (some 19) (.agg #[.int .i64 pe, .int .i64 qe, .slice Ae le.length ce])).put (some 20) (.agg #[.int .i64 r3_0, .int .i64 r3_1, u3])).put (some 5) (.pointer (some ⟨g4, 0, none⟩))).put (some 6) (.pointer (some ⟨g5, 0, none⟩))) w') :
    (Code.region 5 (opsOf Tryd.f3 5) true).wp Tryd.prog Q a W := by
  have HT_ := Aside0.mk thyrsuslaw4_TermTexts.tab5
  have HW_ := Aside0.mk thyrsuslaw4_TermTexts.bits5
  have BKd := Aside0.mk Bd_
  have HRd := Aside0.mk Rd_
  have HCd := Aside0.mk Cd_
  clear Bd_ Rd_ Cd_
  have BKe := Aside0.mk Be_
  have HRe := Aside0.mk Re_
  have HCe := Aside0.mk Ce_
  clear Be_ Re_ Ce_
  have AH1 := Aside0.mk H1
  clear H1
  have AH3 := Aside0.mk H3
  clear H3
  have HB := Aside0.mk (below_drew1 (Below.refl W.heap.size W))
  conv in (opsOf Tryd.f3 5) => whnf
  refine start_ (n := 8) (S := fun w' => True) (ds := []) #[false, false, false, false, false, false, false, false] (by kernel_rfl) rfl rfl trivial (fun hHeld => ?_)
  clear hHeld
  generalize W.drew = W1 at HB ⊢
  refine inv_at [0, 1, 2, 3, 4, 5, 6, 7] (fun a0_ b a w' => ∃ (u1 : Value) (u3 : Value) (g4 : Nat) (g5 : Nat) (m1_ : Value) (m3_ : Value) (m4_ : Value) (m5_ : Value), a = putSel a0_ b [(0, 17, .agg #[.int .i64 pd, .int .i64 qd, .slice Ad ld.length cd]), (1, 18, m1_), (2, 19, .agg #[.int .i64 pe, .int .i64 qe, .slice Ae le.length ce]), (3, 20, m3_), (4, 5, m4_), (5, 6, m5_)] ∧ (Below W.heap.size W w') ∧ (b 1 = true → TV w' (fun k_ => (b 4 = true ∧ k_ = g4) ∨ (b 5 = true ∧ k_ = g5)) u1 k1_) ∧ (b 3 = true → TV w' (fun k_ => (b 4 = true ∧ k_ = g4) ∨ (b 5 = true ∧ k_ = g5)) u3 k3_) ∧ (b 4 = true → W.heap.size ≤ g4 ∧ g4 < w'.heap.size) ∧ (b 4 = true → b 6 = false → w'.heap[g4]? = some (.cells #[.int .i64 0, .int .i64 0, .slice none 0 0] 29 (0, 0))) ∧ (b 6 = true → w'.heap[g4]? = some (.cells #[.int .i64 r1_0, .int .i64 r1_1, u1] 29 (0, 0))) ∧ (b 5 = true → W.heap.size ≤ g5 ∧ g5 < w'.heap.size) ∧ (b 5 = true → b 7 = false → w'.heap[g5]? = some (.cells #[.int .i64 0, .int .i64 0, .slice none 0 0] 29 (0, 0))) ∧ (b 7 = true → w'.heap[g5]? = some (.cells #[.int .i64 r3_0, .int .i64 r3_1, u3] 29 (0, 0))) ∧ (b 4 = true → b 5 = true → g4 ≠ g5) ∧ (b 1 = true → (m1_ : Value) = .agg #[.int .i64 r1_0, .int .i64 r1_1, u1]) ∧ (b 3 = true → (m3_ : Value) = .agg #[.int .i64 r3_0, .int .i64 r3_1, u3]) ∧ (b 4 = true → (m4_ : Value) = .pointer (some ⟨g4, 0, none⟩)) ∧ (b 5 = true → (m5_ : Value) = .pointer (some ⟨g5, 0, none⟩))) HT_.out HW_.out (by kernel_rfl) (by kernel_rfl) ?_ ?_ ?_
  · exact ⟨.bool false, .bool false, 0, 0, .bool false, .bool false, .bool false, .bool false, by simp only [putSel, Bool.false_eq_true, if_false], HB.out, fun h_ => absurd h_ (by decide), fun h_ => absurd h_ (by decide), fun h_ => absurd h_ (by decide), fun h_ => absurd h_ (by decide), fun h_ => absurd h_ (by decide), fun h_ => absurd h_ (by decide), fun h_ => absurd h_ (by decide), fun h_ => absurd h_ (by decide), fun h_ => absurd h_ (by decide), fun h_ => absurd h_ (by decide), fun h_ => absurd h_ (by decide), fun h_ => absurd h_ (by decide), fun h_ => absurd h_ (by decide)⟩
  · skip
    clear HB
    refine steps_cons ?_ ?_
    · rintro b a w' ⟨u1, u3, g4, g5, m1_, m3_, m4_, m5_, ha, Q_HB, Q_F1, Q_F3, Q_Z4, Q_B4, Q_S4, Q_Z5, Q_B5, Q_S5, Q_N4_5, Q_X1_, Q_X3_, Q_X4_, Q_X5_⟩ hb_ hon hoff
      refine ⟨_, rfl, fun K hK => ?_⟩
      have e2 : a.tmps[2]? = some (.pointer (some ⟨bd, 0, none⟩)) := by rw [ha]; exact (putSel_off rfl).trans hd
      replace ha := Aside0.mk ha
      have HB := Aside0.mk Q_HB
      have hc0_ : w'.cell? ⟨bd, 0, none⟩ = some (.int .i64 pd) := (blk_cell (blk_below BKd.out HB.out) 0).trans rfl
      have hc1_ : w'.cell? ⟨bd, 1, none⟩ = some (.int .i64 qd) := (blk_cell (blk_below BKd.out HB.out) 1).trans rfl
      have hc2_ : w'.cell? ⟨bd, 2, none⟩ = some (.slice Ad ld.length cd) := (blk_cell (blk_below BKd.out HB.out) 2).trans rfl
      refine value_ (w1 := w') (v := .agg #[.int .i64 pd, .int .i64 qd, .slice Ad ld.length cd]) (by rfl) rfl ?_ ?_
      · go_simp
        (try simp only [i64_w])
        try rfl
      refine hK.out _ _ ⟨u1, u3, g4, g5, m1_, m3_, m4_, m5_, (by rw [ha.out]; exact putSel_upk 0 hb_ rfl rfl rfl), Q_HB, fun h0_ => absurd ((hoff 1 (by kernel_rfl)).symm.trans h0_) (by decide), fun h0_ => absurd ((hoff 3 (by kernel_rfl)).symm.trans h0_) (by decide), Q_Z4, Q_B4, fun h0_ => absurd ((hoff 6 (by kernel_rfl)).symm.trans h0_) (by decide), Q_Z5, Q_B5, fun h0_ => absurd ((hoff 7 (by kernel_rfl)).symm.trans h0_) (by decide), Q_N4_5, fun h0_ => absurd ((hoff 1 (by kernel_rfl)).symm.trans h0_) (by decide), fun h0_ => absurd ((hoff 3 (by kernel_rfl)).symm.trans h0_) (by decide), Q_X4_, Q_X5_⟩
    refine steps_cons ?_ ?_
    · rintro b a w' ⟨u1, u3, g4, g5, m1_, m3_, m4_, m5_, ha, Q_HB, Q_F1, Q_F3, Q_Z4, Q_B4, Q_S4, Q_Z5, Q_B5, Q_S5, Q_N4_5, Q_X1_, Q_X3_, Q_X4_, Q_X5_⟩ hb_ hon hoff
      refine ⟨_, rfl, fun K hK => ?_⟩
      have e17 : a.tmps[17]? = some (.agg #[.int .i64 pd, .int .i64 qd, .slice Ad ld.length cd]) := by rw [ha]; exact putSel_on (e := (0, 17, .agg #[.int .i64 pd, .int .i64 qd, .slice Ad ld.length cd])) 0 rfl rfl (hon 0 (by kernel_rfl)) (by rw [hsz]; rfl)
      replace ha := Aside0.mk ha
      have HB := Aside0.mk Q_HB
      refine goes_ Tryd.func16 (by kernel_rfl) rfl #[.agg #[.int .i64 pd, .int .i64 qd, .slice Ad ld.length cd], .int .i64 5, .int .i64 3] (by rfl) rfl rfl (by first | (simp only [List.map_toArray, List.map_cons, List.map_nil, Act.eval, Array.getD_eq_getD_getElem?, Option.getD_some, e17]; done) | (simp only [List.map_toArray, List.map_cons, List.map_nil, Act.eval, Array.getD_eq_getD_getElem?, Option.getD_some, e17]; rfl)) ?_
      refine (make_go kk pd qd Ad cd ld 5 3 r1_0 r1_1 k1_ w' (fun k_ => (b 4 = true ∧ k_ = g4) ∨ (b 5 = true ∧ k_ = g5)) (fun k_ h_ => h_.elim (fun h_ => h_.2 ▸ (Q_Z4 h_.1).2) (fun h_ => h_.2 ▸ (Q_Z5 h_.1).2)) (Kd.C_below HRd.out HB.out) HCd.out AH1.out).mono ?_
      rintro e w1 ⟨v_, rfl, hv, hb⟩
      refine ⟨_, rfl, ?_⟩
      refine hK.out _ _ ⟨v_, u3, g4, g5, (.agg #[.int .i64 r1_0, .int .i64 r1_1, v_]), m3_, m4_, m5_, (by rw [ha.out]; exact putSel_upk 1 hb_ rfl rfl rfl), below_step HB.out hb, fun _ => hv, fun h0_ => absurd ((hoff 3 (by kernel_rfl)).symm.trans h0_) (by decide), fun h0_ => ⟨(Q_Z4 h0_).1, Nat.lt_of_lt_of_le (Q_Z4 h0_).2 hb.size⟩, fun h0_ h1_ => blk_below (Q_B4 h0_ h1_) hb, fun h0_ => absurd ((hoff 6 (by kernel_rfl)).symm.trans h0_) (by decide), fun h0_ => ⟨(Q_Z5 h0_).1, Nat.lt_of_lt_of_le (Q_Z5 h0_).2 hb.size⟩, fun h0_ h1_ => blk_below (Q_B5 h0_ h1_) hb, fun h0_ => absurd ((hoff 7 (by kernel_rfl)).symm.trans h0_) (by decide), Q_N4_5, fun _ => rfl, fun h0_ => absurd ((hoff 3 (by kernel_rfl)).symm.trans h0_) (by decide), Q_X4_, Q_X5_⟩
    refine steps_cons ?_ ?_
    · rintro b a w' ⟨u1, u3, g4, g5, m1_, m3_, m4_, m5_, ha, Q_HB, Q_F1, Q_F3, Q_Z4, Q_B4, Q_S4, Q_Z5, Q_B5, Q_S5, Q_N4_5, Q_X1_, Q_X3_, Q_X4_, Q_X5_⟩ hb_ hon hoff
      refine ⟨_, rfl, fun K hK => ?_⟩
      have e3 : a.tmps[3]? = some (.pointer (some ⟨be, 0, none⟩)) := by rw [ha]; exact (putSel_off rfl).trans he
      replace ha := Aside0.mk ha
      have HB := Aside0.mk Q_HB
      have hc0_ : w'.cell? ⟨be, 0, none⟩ = some (.int .i64 pe) := (blk_cell (blk_below BKe.out HB.out) 0).trans rfl
      have hc1_ : w'.cell? ⟨be, 1, none⟩ = some (.int .i64 qe) := (blk_cell (blk_below BKe.out HB.out) 1).trans rfl
      have hc2_ : w'.cell? ⟨be, 2, none⟩ = some (.slice Ae le.length ce) := (blk_cell (blk_below BKe.out HB.out) 2).trans rfl
      refine value_ (w1 := w') (v := .agg #[.int .i64 pe, .int .i64 qe, .slice Ae le.length ce]) (by rfl) rfl ?_ ?_
      · go_simp
        (try simp only [i64_w])
        try rfl
      refine hK.out _ _ ⟨u1, u3, g4, g5, m1_, m3_, m4_, m5_, (by rw [ha.out]; exact putSel_upk 2 hb_ rfl rfl rfl), Q_HB, Q_F1, fun h0_ => absurd ((hoff 3 (by kernel_rfl)).symm.trans h0_) (by decide), Q_Z4, Q_B4, fun h0_ => absurd ((hoff 6 (by kernel_rfl)).symm.trans h0_) (by decide), Q_Z5, Q_B5, fun h0_ => absurd ((hoff 7 (by kernel_rfl)).symm.trans h0_) (by decide), Q_N4_5, Q_X1_, fun h0_ => absurd ((hoff 3 (by kernel_rfl)).symm.trans h0_) (by decide), Q_X4_, Q_X5_⟩
    refine steps_cons ?_ ?_
    · rintro b a w' ⟨u1, u3, g4, g5, m1_, m3_, m4_, m5_, ha, Q_HB, Q_F1, Q_F3, Q_Z4, Q_B4, Q_S4, Q_Z5, Q_B5, Q_S5, Q_N4_5, Q_X1_, Q_X3_, Q_X4_, Q_X5_⟩ hb_ hon hoff
      refine ⟨_, rfl, fun K hK => ?_⟩
      have e19 : a.tmps[19]? = some (.agg #[.int .i64 pe, .int .i64 qe, .slice Ae le.length ce]) := by rw [ha]; exact putSel_on (e := (2, 19, .agg #[.int .i64 pe, .int .i64 qe, .slice Ae le.length ce])) 2 rfl rfl (hon 2 (by kernel_rfl)) (by rw [hsz]; rfl)
      replace ha := Aside0.mk ha
      have HB := Aside0.mk Q_HB
      have F1 := Aside0.mk (Q_F1 (hon 1 (by kernel_rfl)))
      refine goes_ Tryd.func16 (by kernel_rfl) rfl #[.agg #[.int .i64 pe, .int .i64 qe, .slice Ae le.length ce], .int .i64 5, .int .i64 3] (by rfl) rfl rfl (by first | (simp only [List.map_toArray, List.map_cons, List.map_nil, Act.eval, Array.getD_eq_getD_getElem?, Option.getD_some, e19]; done) | (simp only [List.map_toArray, List.map_cons, List.map_nil, Act.eval, Array.getD_eq_getD_getElem?, Option.getD_some, e19]; rfl)) ?_
      refine (make_go kk pe qe Ae ce le 5 3 r3_0 r3_1 k3_ w' (fun k_ => (b 4 = true ∧ k_ = g4) ∨ (b 5 = true ∧ k_ = g5)) (fun k_ h_ => h_.elim (fun h_ => h_.2 ▸ (Q_Z4 h_.1).2) (fun h_ => h_.2 ▸ (Q_Z5 h_.1).2)) (Kd.C_below HRe.out HB.out) HCe.out AH3.out).mono ?_
      rintro e w1 ⟨v_, rfl, hv, hb⟩
      refine ⟨_, rfl, ?_⟩
      refine hK.out _ _ ⟨u1, v_, g4, g5, m1_, (.agg #[.int .i64 r3_0, .int .i64 r3_1, v_]), m4_, m5_, (by rw [ha.out]; exact putSel_upk 3 hb_ rfl rfl rfl), below_step HB.out hb, fun _ => F1.out.step hb, fun _ => hv, fun h0_ => ⟨(Q_Z4 h0_).1, Nat.lt_of_lt_of_le (Q_Z4 h0_).2 hb.size⟩, fun h0_ h1_ => blk_below (Q_B4 h0_ h1_) hb, fun h0_ => absurd ((hoff 6 (by kernel_rfl)).symm.trans h0_) (by decide), fun h0_ => ⟨(Q_Z5 h0_).1, Nat.lt_of_lt_of_le (Q_Z5 h0_).2 hb.size⟩, fun h0_ h1_ => blk_below (Q_B5 h0_ h1_) hb, fun h0_ => absurd ((hoff 7 (by kernel_rfl)).symm.trans h0_) (by decide), Q_N4_5, Q_X1_, fun _ => rfl, Q_X4_, Q_X5_⟩
    refine steps_cons ?_ ?_
    · rintro b a w' ⟨u1, u3, g4, g5, m1_, m3_, m4_, m5_, ha, Q_HB, Q_F1, Q_F3, Q_Z4, Q_B4, Q_S4, Q_Z5, Q_B5, Q_S5, Q_N4_5, Q_X1_, Q_X3_, Q_X4_, Q_X5_⟩ hb_ hon hoff
      refine ⟨_, rfl, fun K hK => ?_⟩
      replace ha := Aside0.mk ha
      have HB := Aside0.mk Q_HB
      refine box_step ?hg (N := 5) ?hd (cs := #[.int .i64 0, .int .i64 0, .slice none 0 0]) (t := 29) ?hr ?_; (case hd => rfl); (case hg => rfl); (case hr => first | (go_simp; done) | (go_simp; rfl))
      intro gn hg w1 hbox hb
      refine hK.out _ _ ⟨u1, u3, gn, g5, m1_, m3_, (.pointer (some ⟨gn, 0, none⟩)), m5_, (by rw [ha.out]; exact putSel_upk 4 hb_ rfl rfl rfl), below_step HB.out hb, fun h0_ => (Q_F1 h0_).below hb (fun k_ h_ => h_.elim (fun h_ => .inr (by rw [h_.2, hg]; exact Nat.le_refl _)) (fun h_ => .inl (.inr h_))), fun h0_ => (Q_F3 h0_).below hb (fun k_ h_ => h_.elim (fun h_ => .inr (by rw [h_.2, hg]; exact Nat.le_refl _)) (fun h_ => .inl (.inr h_))), fun _ => ⟨by rw [hg]; exact below_size HB.out, blk_lt hbox⟩, fun _ _ => hbox, fun h0_ => absurd ((hoff 6 (by kernel_rfl)).symm.trans h0_) (by decide), fun h0_ => ⟨(Q_Z5 h0_).1, Nat.lt_of_lt_of_le (Q_Z5 h0_).2 hb.size⟩, fun h0_ h1_ => blk_below (Q_B5 h0_ h1_) hb, fun h0_ => absurd ((hoff 7 (by kernel_rfl)).symm.trans h0_) (by decide), fun (h0_ : up b 4 4 = true) (h1_ : up b 4 5 = true) => (by have := (Q_Z5 h1_).2; omega), Q_X1_, Q_X3_, fun _ => rfl, Q_X5_⟩
    refine steps_cons ?_ ?_
    · rintro b a w' ⟨u1, u3, g4, g5, m1_, m3_, m4_, m5_, ha, Q_HB, Q_F1, Q_F3, Q_Z4, Q_B4, Q_S4, Q_Z5, Q_B5, Q_S5, Q_N4_5, Q_X1_, Q_X3_, Q_X4_, Q_X5_⟩ hb_ hon hoff
      refine ⟨_, rfl, fun K hK => ?_⟩
      replace ha := Aside0.mk ha
      have HB := Aside0.mk Q_HB
      refine box_step ?hg (N := 6) ?hd (cs := #[.int .i64 0, .int .i64 0, .slice none 0 0]) (t := 29) ?hr ?_; (case hd => rfl); (case hg => rfl); (case hr => first | (go_simp; done) | (go_simp; rfl))
      intro gn hg w1 hbox hb
      refine hK.out _ _ ⟨u1, u3, g4, gn, m1_, m3_, m4_, (.pointer (some ⟨gn, 0, none⟩)), (by rw [ha.out]; exact putSel_upk 5 hb_ rfl rfl rfl), below_step HB.out hb, fun h0_ => (Q_F1 h0_).below hb (fun k_ h_ => h_.elim (fun h_ => .inl (.inl h_)) (fun h_ => .inr (by rw [h_.2, hg]; exact Nat.le_refl _))), fun h0_ => (Q_F3 h0_).below hb (fun k_ h_ => h_.elim (fun h_ => .inl (.inl h_)) (fun h_ => .inr (by rw [h_.2, hg]; exact Nat.le_refl _))), fun h0_ => ⟨(Q_Z4 h0_).1, Nat.lt_of_lt_of_le (Q_Z4 h0_).2 hb.size⟩, fun h0_ h1_ => blk_below (Q_B4 h0_ h1_) hb, fun h0_ => absurd ((hoff 6 (by kernel_rfl)).symm.trans h0_) (by decide), fun _ => ⟨by rw [hg]; exact below_size HB.out, blk_lt hbox⟩, fun _ _ => hbox, fun h0_ => absurd ((hoff 7 (by kernel_rfl)).symm.trans h0_) (by decide), fun (h0_ : up b 5 4 = true) (h1_ : up b 5 5 = true) => (by have := (Q_Z4 h0_).2; omega), Q_X1_, Q_X3_, Q_X4_, fun _ => rfl⟩
    refine steps_cons ?_ ?_
    · rintro b a w' ⟨u1, u3, g4, g5, m1_, m3_, m4_, m5_, ha, Q_HB, Q_F1, Q_F3, Q_Z4, Q_B4, Q_S4, Q_Z5, Q_B5, Q_S5, Q_N4_5, Q_X1_, Q_X3_, Q_X4_, Q_X5_⟩ hb_ hon hoff
      refine ⟨_, rfl, fun K hK => ?_⟩
      have e5 : a.tmps[5]? = some (m4_) := by rw [ha]; exact putSel_on (e := (4, 5, m4_)) 4 rfl rfl (hon 4 (by kernel_rfl)) (by rw [hsz]; rfl)
      rw [Q_X4_ (hon 4 (by kernel_rfl))] at e5
      have e18 : a.tmps[18]? = some (m1_) := by rw [ha]; exact putSel_on (e := (1, 18, m1_)) 1 rfl rfl (hon 1 (by kernel_rfl)) (by rw [hsz]; rfl)
      rw [Q_X1_ (hon 1 (by kernel_rfl))] at e18
      replace ha := Aside0.mk ha
      have HB := Aside0.mk Q_HB
      have F1 := Aside0.mk (Q_F1 (hon 1 (by kernel_rfl)))
      have F3 := Aside0.mk (Q_F3 (hon 3 (by kernel_rfl)))
      have Z4 := Aside0.mk (Q_Z4 (hon 4 (by kernel_rfl)))
      have B4 := Aside0.mk (Q_B4 (hon 4 (by kernel_rfl)) hb_)
      have Z5 := Aside0.mk (Q_Z5 (hon 5 (by kernel_rfl)))
      have B5 := Aside0.mk (Q_B5 (hon 5 (by kernel_rfl)) (hoff 7 (by kernel_rfl)))
      have N4_5 := Aside0.mk (Q_N4_5 (hon 4 (by kernel_rfl)) (hon 5 (by kernel_rfl)))
      have hs0_ : w'.cell? ⟨g4, 0, none⟩ = some (.int .i64 0) := (blk_cell B4.out 0).trans rfl
      have hs1_ : w'.cell? ⟨g4, 1, none⟩ = some (.int .i64 0) := (blk_cell B4.out 1).trans rfl
      have hs2_ : w'.cell? ⟨g4, 2, none⟩ = some (.slice none 0 0) := (blk_cell B4.out 2).trans rfl
      have hf0_ := blk_frozen B4.out 0
      have hf1_ := blk_frozen B4.out 1
      have hf2_ := blk_frozen B4.out 2
      obtain ⟨As_, cs_, hu_⟩ := Kd.V_slice F1.out
      subst hu_
      refine skip_ (w1 := ?_) (by rfl) rfl ?_ ?_
      rotate_left
      · go_simp
        rfl
      refine hK.out _ _ ⟨.slice As_ k1_.length cs_, u3, g4, g5, m1_, m3_, m4_, m5_, (by rw [ha.out]; exact putSel_none (v := undef) rfl), below_set3 HB.out Z4.out.1 (.int .i64 r1_0) (.int .i64 r1_1) (.slice As_ k1_.length cs_), fun _ => F1.out.set3 (.inl ⟨hon 4 (by kernel_rfl), rfl⟩) (.int .i64 r1_0) (.int .i64 r1_1) (.slice As_ k1_.length cs_), fun _ => F3.out.set3 (.inl ⟨hon 4 (by kernel_rfl), rfl⟩) (.int .i64 r1_0) (.int .i64 r1_1) (.slice As_ k1_.length cs_), fun _ => ⟨Z4.out.1, by rw [size_set3]; exact Z4.out.2⟩, fun _ h1_ => absurd ((up_self b 6).symm.trans h1_) (by decide), fun _ => blk_set3 B4.out rfl (.int .i64 r1_0) (.int .i64 r1_1) (.slice As_ k1_.length cs_), fun _ => ⟨Z5.out.1, by rw [size_set3]; exact Z5.out.2⟩, fun _ _ => blk_far3 B5.out (N4_5.out.symm) (.int .i64 r1_0) (.int .i64 r1_1) (.slice As_ k1_.length cs_), fun h0_ => absurd ((hoff 7 (by kernel_rfl)).symm.trans h0_) (by decide), Q_N4_5, Q_X1_, Q_X3_, Q_X4_, Q_X5_⟩
    refine steps_cons ?_ ?_
    · rintro b a w' ⟨u1, u3, g4, g5, m1_, m3_, m4_, m5_, ha, Q_HB, Q_F1, Q_F3, Q_Z4, Q_B4, Q_S4, Q_Z5, Q_B5, Q_S5, Q_N4_5, Q_X1_, Q_X3_, Q_X4_, Q_X5_⟩ hb_ hon hoff
      refine ⟨_, rfl, fun K hK => ?_⟩
      have e6 : a.tmps[6]? = some (m5_) := by rw [ha]; exact putSel_on (e := (5, 6, m5_)) 5 rfl rfl (hon 5 (by kernel_rfl)) (by rw [hsz]; rfl)
      rw [Q_X5_ (hon 5 (by kernel_rfl))] at e6
      have e20 : a.tmps[20]? = some (m3_) := by rw [ha]; exact putSel_on (e := (3, 20, m3_)) 3 rfl rfl (hon 3 (by kernel_rfl)) (by rw [hsz]; rfl)
      rw [Q_X3_ (hon 3 (by kernel_rfl))] at e20
      replace ha := Aside0.mk ha
      have HB := Aside0.mk Q_HB
      have F1 := Aside0.mk (Q_F1 (hon 1 (by kernel_rfl)))
      have F3 := Aside0.mk (Q_F3 (hon 3 (by kernel_rfl)))
      have Z4 := Aside0.mk (Q_Z4 (hon 4 (by kernel_rfl)))
      have S4 := Aside0.mk (Q_S4 (hon 6 (by kernel_rfl)))
      have Z5 := Aside0.mk (Q_Z5 (hon 5 (by kernel_rfl)))
      have B5 := Aside0.mk (Q_B5 (hon 5 (by kernel_rfl)) hb_)
      have N4_5 := Aside0.mk (Q_N4_5 (hon 4 (by kernel_rfl)) (hon 5 (by kernel_rfl)))
      have hs0_ : w'.cell? ⟨g5, 0, none⟩ = some (.int .i64 0) := (blk_cell B5.out 0).trans rfl
      have hs1_ : w'.cell? ⟨g5, 1, none⟩ = some (.int .i64 0) := (blk_cell B5.out 1).trans rfl
      have hs2_ : w'.cell? ⟨g5, 2, none⟩ = some (.slice none 0 0) := (blk_cell B5.out 2).trans rfl
      have hf0_ := blk_frozen B5.out 0
      have hf1_ := blk_frozen B5.out 1
      have hf2_ := blk_frozen B5.out 2
      obtain ⟨As_, cs_, hu_⟩ := Kd.V_slice F3.out
      subst hu_
      refine skip_ (w1 := ?_) (by rfl) rfl ?_ ?_
      rotate_left
      · go_simp
        rfl
      refine hK.out _ _ ⟨u1, .slice As_ k3_.length cs_, g4, g5, m1_, m3_, m4_, m5_, (by rw [ha.out]; exact putSel_none (v := undef) rfl), below_set3 HB.out Z5.out.1 (.int .i64 r3_0) (.int .i64 r3_1) (.slice As_ k3_.length cs_), fun _ => F1.out.set3 (.inr ⟨hon 5 (by kernel_rfl), rfl⟩) (.int .i64 r3_0) (.int .i64 r3_1) (.slice As_ k3_.length cs_), fun _ => F3.out.set3 (.inr ⟨hon 5 (by kernel_rfl), rfl⟩) (.int .i64 r3_0) (.int .i64 r3_1) (.slice As_ k3_.length cs_), fun _ => ⟨Z4.out.1, by rw [size_set3]; exact Z4.out.2⟩, fun _ h1_ => absurd ((hon 6 (by kernel_rfl)).symm.trans h1_) (by decide), fun _ => blk_far3 S4.out (N4_5.out) (.int .i64 r3_0) (.int .i64 r3_1) (.slice As_ k3_.length cs_), fun _ => ⟨Z5.out.1, by rw [size_set3]; exact Z5.out.2⟩, fun _ h1_ => absurd ((up_self b 7).symm.trans h1_) (by decide), fun _ => blk_set3 B5.out rfl (.int .i64 r3_0) (.int .i64 r3_1) (.slice As_ k3_.length cs_), Q_N4_5, Q_X1_, Q_X3_, Q_X4_, Q_X5_⟩
    exact steps_nil
  · rintro b a w' hall ⟨u1, u3, g4, g5, m1_, m3_, m4_, m5_, ha, Q_HB, Q_F1, Q_F3, Q_Z4, Q_B4, Q_S4, Q_Z5, Q_B5, Q_S5, Q_N4_5, Q_X1_, Q_X3_, Q_X4_, Q_X5_⟩
    clear HB
    have hb0_ := hall 0 (by kernel_rfl)
    have hb1_ := hall 1 (by kernel_rfl)
    have hb2_ := hall 2 (by kernel_rfl)
    have hb3_ := hall 3 (by kernel_rfl)
    have hb4_ := hall 4 (by kernel_rfl)
    have hb5_ := hall 5 (by kernel_rfl)
    have hb6_ := hall 6 (by kernel_rfl)
    have hb7_ := hall 7 (by kernel_rfl)
    subst ha
    obtain rfl := Q_X1_ hb1_
    obtain rfl := Q_X3_ hb3_
    obtain rfl := Q_X4_ hb4_
    obtain rfl := Q_X5_ hb5_
    simp only [putSel, hb0_, hb1_, hb2_, hb3_, hb4_, hb5_, hb6_, hb7_, if_true]
    have HB := Aside0.mk Q_HB
    clear Q_HB
    have F1 := Aside0.mk (Q_F1 hb1_)
    clear Q_F1
    have F3 := Aside0.mk (Q_F3 hb3_)
    clear Q_F3
    have Z4 := Aside0.mk (Q_Z4 hb4_)
    clear Q_Z4
    clear Q_B4
    have S4 := Aside0.mk (Q_S4 hb6_)
    clear Q_S4
    have Z5 := Aside0.mk (Q_Z5 hb5_)
    clear Q_Z5
    clear Q_B5
    have S5 := Aside0.mk (Q_S5 hb7_)
    clear Q_S5
    have N4_5 := Aside0.mk (Q_N4_5 hb4_ hb5_)
    clear Q_N4_5
    clear hall hb0_ hb1_ hb2_ hb3_ hb4_ hb5_ hb6_ hb7_
    exact hQ  u1 u3 g4 g5 w' HB.out Z4.out.1 S4.out F1.out.free Z5.out.1 S5.out F3.out.free
set_option maxHeartbeats 4000000 in
set_option maxRecDepth 100000 in
theorem texts_r6 {Q : Exit → Act → World → Prop} {a : Act} {W : World} (hsz : a.tmps.size = 39) (kk : Nat) (xt yt : Int) (vt : Value) (kt : List S29) (bt : Nat) (ht : a.tmps[5]? = some (.pointer (some ⟨bt, 0, none⟩))) (Bt_ : W.heap[bt]? = some (.cells #[.int .i64 xt, .int .i64 yt, vt] 29 (0, 0))) (Tt_ : TV W (fun _ => False) vt kt)
    (xu yu : Int) (vu : Value) (ku : List S29) (bu : Nat) (hu : a.tmps[6]? = some (.pointer (some ⟨bu, 0, none⟩))) (Bu_ : W.heap[bu]? = some (.cells #[.int .i64 xu, .int .i64 yu, vu] 29 (0, 0))) (Tu_ : TV W (fun _ => False) vu ku)
    (s0 : Bool)
    (s1 : Bool)
    (s2 : Bool)
    (tx : ByteArray)
    (ty : ByteArray)
    (htx : (tx.toList == ty.toList) = s0)
    (hT : TabP W)
    (H1 : term_TextA.f kk xt yt kt  = some tx)
    (H3 : term_TextA.f kk xu yu ku  = some ty)
    (H7 : thyrsusref4_Same.f kk xt yt kt xu yu ku = some s0)
    (H12 : term_Same.f kk xt yt kt xu yu ku = some s1)
    (H15 : thyrsusref4_Same.f kk xt yt kt xu yu ku = some s2)
    (hQ : ∀ (w' : World), Below W.heap.size W w' → Q .normal (((((((((((((((((((a.put (some 21) (.agg #[.int .i64 xt, .int .i64 yt, vt])).put (some 22) (.string tx)).put (some 23) (.agg #[.int .i64 xu, .int .i64 yu, vu])).put (some 24) (.string ty)).put (some 25) (.bool s0)).put (some 26) (.agg #[.int .i64 xt, .int .i64 yt, vt])).put (some 27) (.agg #[.int .i64 xu, .int .i64 yu, vu])).put (some 28) (.bool s0)).put (some 29) (.bool true)).put (some 30) (.bool true)).put (some 31) (.agg #[.int .i64 xt, .int .i64 yt, vt])).put (some 32) (.agg #[.int .i64 xu, .int .i64 yu, vu])).put (some 33) (.bool s1)).put (some 34) (.agg #[.int .i64 xt, .int .i64 yt, vt])).put (some 35) (.agg #[.int .i64 xu, .int .i64 yu, vu])).put (some 36) (.bool s2)).put (some 37) (.bool (s1 == s2))).put (some 38) (.bool (s1 == s2))).put (some 4) (.bool (s1 == s2))) w') :
    (Code.region 6 (opsOf Tryd.f3 6) true).wp Tryd.prog Q a W := by
  have HT_ := Aside0.mk thyrsuslaw4_TermTexts.tab6
  have HW_ := Aside0.mk thyrsuslaw4_TermTexts.bits6
  have BKt := Aside0.mk Bt_
  have Tt := Aside0.mk Tt_
  clear Bt_ Tt_
  have BKu := Aside0.mk Bu_
  have Tu := Aside0.mk Tu_
  clear Bu_ Tu_
  have AH1 := Aside0.mk H1
  clear H1
  have AH3 := Aside0.mk H3
  clear H3
  have AH7 := Aside0.mk H7
  clear H7
  have AH12 := Aside0.mk H12
  clear H12
  have AH15 := Aside0.mk H15
  clear H15
  have HTB := Aside0.mk hT
  clear hT
  have HB := Aside0.mk (below_drew1 (Below.refl W.heap.size W))
  conv in (opsOf Tryd.f3 6) => whnf
  refine start_ (n := 19) (S := fun w' => True) (ds := []) #[false, false, false, false, false, false, false, false, false, false, false, false, false, false, false, false, false, false, false] (by kernel_rfl) rfl rfl trivial (fun hHeld => ?_)
  clear hHeld
  generalize W.drew = W1 at HB ⊢
  refine inv_at [0, 1, 2, 3, 4, 5, 6, 7, 8, 9, 10, 11, 12, 13, 14, 15, 16, 17, 18] (fun a0_ b a w' => a = putSel a0_ b [(0, 21, .agg #[.int .i64 xt, .int .i64 yt, vt]), (1, 22, .string tx), (2, 23, .agg #[.int .i64 xu, .int .i64 yu, vu]), (3, 24, .string ty), (4, 25, .bool s0), (5, 26, .agg #[.int .i64 xt, .int .i64 yt, vt]), (6, 27, .agg #[.int .i64 xu, .int .i64 yu, vu]), (7, 28, .bool s0), (8, 29, .bool true), (9, 30, .bool true), (10, 31, .agg #[.int .i64 xt, .int .i64 yt, vt]), (11, 32, .agg #[.int .i64 xu, .int .i64 yu, vu]), (12, 33, .bool s1), (13, 34, .agg #[.int .i64 xt, .int .i64 yt, vt]), (14, 35, .agg #[.int .i64 xu, .int .i64 yu, vu]), (15, 36, .bool s2), (16, 37, .bool (s1 == s2)), (17, 38, .bool (s1 == s2)), (18, 4, .bool (s1 == s2))] ∧ (Below W.heap.size W w')) HT_.out HW_.out (by kernel_rfl) (by kernel_rfl) ?_ ?_ ?_
  · exact ⟨by simp only [putSel, Bool.false_eq_true, if_false], HB.out⟩
  · skip
    clear HB
    refine steps_cons ?_ ?_
    · rintro b a w' ⟨ha, Q_HB⟩ hb_ hon hoff
      refine ⟨_, rfl, fun K hK => ?_⟩
      have e5 : a.tmps[5]? = some (.pointer (some ⟨bt, 0, none⟩)) := by rw [ha]; exact (putSel_off rfl).trans ht
      replace ha := Aside0.mk ha
      have HB := Aside0.mk Q_HB
      have hc0_ : w'.cell? ⟨bt, 0, none⟩ = some (.int .i64 xt) := (blk_cell (blk_below BKt.out HB.out) 0).trans rfl
      have hc1_ : w'.cell? ⟨bt, 1, none⟩ = some (.int .i64 yt) := (blk_cell (blk_below BKt.out HB.out) 1).trans rfl
      have hc2_ : w'.cell? ⟨bt, 2, none⟩ = some (vt) := (blk_cell (blk_below BKt.out HB.out) 2).trans rfl
      refine value_ (w1 := w') (v := .agg #[.int .i64 xt, .int .i64 yt, vt]) (by rfl) rfl ?_ ?_
      · go_simp
        (try simp only [i64_w])
        try rfl
      refine hK.out _ _ ⟨(by rw [ha.out]; exact putSel_upk 0 hb_ rfl rfl rfl), Q_HB⟩
    refine steps_cons ?_ ?_
    · rintro b a w' ⟨ha, Q_HB⟩ hb_ hon hoff
      refine ⟨_, rfl, fun K hK => ?_⟩
      have e21 : a.tmps[21]? = some (.agg #[.int .i64 xt, .int .i64 yt, vt]) := by rw [ha]; exact putSel_on (e := (0, 21, .agg #[.int .i64 xt, .int .i64 yt, vt])) 0 rfl rfl (hon 0 (by kernel_rfl)) (by rw [hsz]; rfl)
      replace ha := Aside0.mk ha
      have HB := Aside0.mk Q_HB
      refine goes_ Tryd.func17 (by kernel_rfl) rfl #[.agg #[.int .i64 xt, .int .i64 yt, vt]] (by rfl) rfl rfl (by first | (simp only [List.map_toArray, List.map_cons, List.map_nil, Act.eval, Array.getD_eq_getD_getElem?, Option.getD_some, e21]; done) | (simp only [List.map_toArray, List.map_cons, List.map_nil, Act.eval, Array.getD_eq_getD_getElem?, Option.getD_some, e21]; rfl)) ?_
      refine (text_go kk xt yt vt kt  tx w' (TabP.below HTB.out HB.out) (TV.old (G := fun _ => False) Tt.out HB.out (fun _ h_ => h_.elim)) AH1.out).mono ?_
      rintro e w1 ⟨rfl, hb⟩
      refine ⟨_, rfl, ?_⟩
      refine hK.out _ _ ⟨(by rw [ha.out]; exact putSel_upk 1 hb_ rfl rfl rfl), below_step HB.out hb⟩
    refine steps_cons ?_ ?_
    · rintro b a w' ⟨ha, Q_HB⟩ hb_ hon hoff
      refine ⟨_, rfl, fun K hK => ?_⟩
      have e6 : a.tmps[6]? = some (.pointer (some ⟨bu, 0, none⟩)) := by rw [ha]; exact (putSel_off rfl).trans hu
      replace ha := Aside0.mk ha
      have HB := Aside0.mk Q_HB
      have hc0_ : w'.cell? ⟨bu, 0, none⟩ = some (.int .i64 xu) := (blk_cell (blk_below BKu.out HB.out) 0).trans rfl
      have hc1_ : w'.cell? ⟨bu, 1, none⟩ = some (.int .i64 yu) := (blk_cell (blk_below BKu.out HB.out) 1).trans rfl
      have hc2_ : w'.cell? ⟨bu, 2, none⟩ = some (vu) := (blk_cell (blk_below BKu.out HB.out) 2).trans rfl
      refine value_ (w1 := w') (v := .agg #[.int .i64 xu, .int .i64 yu, vu]) (by rfl) rfl ?_ ?_
      · go_simp
        (try simp only [i64_w])
        try rfl
      refine hK.out _ _ ⟨(by rw [ha.out]; exact putSel_upk 2 hb_ rfl rfl rfl), Q_HB⟩
    refine steps_cons ?_ ?_
    · rintro b a w' ⟨ha, Q_HB⟩ hb_ hon hoff
      refine ⟨_, rfl, fun K hK => ?_⟩
      have e23 : a.tmps[23]? = some (.agg #[.int .i64 xu, .int .i64 yu, vu]) := by rw [ha]; exact putSel_on (e := (2, 23, .agg #[.int .i64 xu, .int .i64 yu, vu])) 2 rfl rfl (hon 2 (by kernel_rfl)) (by rw [hsz]; rfl)
      replace ha := Aside0.mk ha
      have HB := Aside0.mk Q_HB
      refine goes_ Tryd.func17 (by kernel_rfl) rfl #[.agg #[.int .i64 xu, .int .i64 yu, vu]] (by rfl) rfl rfl (by first | (simp only [List.map_toArray, List.map_cons, List.map_nil, Act.eval, Array.getD_eq_getD_getElem?, Option.getD_some, e23]; done) | (simp only [List.map_toArray, List.map_cons, List.map_nil, Act.eval, Array.getD_eq_getD_getElem?, Option.getD_some, e23]; rfl)) ?_
      refine (text_go kk xu yu vu ku  ty w' (TabP.below HTB.out HB.out) (TV.old (G := fun _ => False) Tu.out HB.out (fun _ h_ => h_.elim)) AH3.out).mono ?_
      rintro e w1 ⟨rfl, hb⟩
      refine ⟨_, rfl, ?_⟩
      refine hK.out _ _ ⟨(by rw [ha.out]; exact putSel_upk 3 hb_ rfl rfl rfl), below_step HB.out hb⟩
    refine steps_cons ?_ ?_
    · rintro b a w' ⟨ha, Q_HB⟩ hb_ hon hoff
      refine ⟨_, rfl, fun K hK => ?_⟩
      have e22 : a.tmps[22]? = some (.string tx) := by rw [ha]; exact putSel_on (e := (1, 22, .string tx)) 1 rfl rfl (hon 1 (by kernel_rfl)) (by rw [hsz]; rfl)
      have e24 : a.tmps[24]? = some (.string ty) := by rw [ha]; exact putSel_on (e := (3, 24, .string ty)) 3 rfl rfl (hon 3 (by kernel_rfl)) (by rw [hsz]; rfl)
      replace ha := Aside0.mk ha
      have HB := Aside0.mk Q_HB
      refine value_ (w1 := w') (v := .bool s0) (by rfl) rfl ?_ ?_
      · go_simp
        (try simp only [i64_w])
        try rfl
      refine hK.out _ _ ⟨(by rw [ha.out]; exact putSel_upk 4 hb_ rfl rfl rfl), Q_HB⟩
    refine steps_cons ?_ ?_
    · rintro b a w' ⟨ha, Q_HB⟩ hb_ hon hoff
      refine ⟨_, rfl, fun K hK => ?_⟩
      have e5 : a.tmps[5]? = some (.pointer (some ⟨bt, 0, none⟩)) := by rw [ha]; exact (putSel_off rfl).trans ht
      replace ha := Aside0.mk ha
      have HB := Aside0.mk Q_HB
      have hc0_ : w'.cell? ⟨bt, 0, none⟩ = some (.int .i64 xt) := (blk_cell (blk_below BKt.out HB.out) 0).trans rfl
      have hc1_ : w'.cell? ⟨bt, 1, none⟩ = some (.int .i64 yt) := (blk_cell (blk_below BKt.out HB.out) 1).trans rfl
      have hc2_ : w'.cell? ⟨bt, 2, none⟩ = some (vt) := (blk_cell (blk_below BKt.out HB.out) 2).trans rfl
      refine value_ (w1 := w') (v := .agg #[.int .i64 xt, .int .i64 yt, vt]) (by rfl) rfl ?_ ?_
      · go_simp
        (try simp only [i64_w])
        try rfl
      refine hK.out _ _ ⟨(by rw [ha.out]; exact putSel_upk 5 hb_ rfl rfl rfl), Q_HB⟩
    refine steps_cons ?_ ?_
    · rintro b a w' ⟨ha, Q_HB⟩ hb_ hon hoff
      refine ⟨_, rfl, fun K hK => ?_⟩
      have e6 : a.tmps[6]? = some (.pointer (some ⟨bu, 0, none⟩)) := by rw [ha]; exact (putSel_off rfl).trans hu
      replace ha := Aside0.mk ha
      have HB := Aside0.mk Q_HB
      have hc0_ : w'.cell? ⟨bu, 0, none⟩ = some (.int .i64 xu) := (blk_cell (blk_below BKu.out HB.out) 0).trans rfl
      have hc1_ : w'.cell? ⟨bu, 1, none⟩ = some (.int .i64 yu) := (blk_cell (blk_below BKu.out HB.out) 1).trans rfl
      have hc2_ : w'.cell? ⟨bu, 2, none⟩ = some (vu) := (blk_cell (blk_below BKu.out HB.out) 2).trans rfl
      refine value_ (w1 := w') (v := .agg #[.int .i64 xu, .int .i64 yu, vu]) (by rfl) rfl ?_ ?_
      · go_simp
        (try simp only [i64_w])
        try rfl
      refine hK.out _ _ ⟨(by rw [ha.out]; exact putSel_upk 6 hb_ rfl rfl rfl), Q_HB⟩
    refine steps_cons ?_ ?_
    · rintro b a w' ⟨ha, Q_HB⟩ hb_ hon hoff
      refine ⟨_, rfl, fun K hK => ?_⟩
      have e26 : a.tmps[26]? = some (.agg #[.int .i64 xt, .int .i64 yt, vt]) := by rw [ha]; exact putSel_on (e := (5, 26, .agg #[.int .i64 xt, .int .i64 yt, vt])) 5 rfl rfl (hon 5 (by kernel_rfl)) (by rw [hsz]; rfl)
      have e27 : a.tmps[27]? = some (.agg #[.int .i64 xu, .int .i64 yu, vu]) := by rw [ha]; exact putSel_on (e := (6, 27, .agg #[.int .i64 xu, .int .i64 yu, vu])) 6 rfl rfl (hon 6 (by kernel_rfl)) (by rw [hsz]; rfl)
      replace ha := Aside0.mk ha
      have HB := Aside0.mk Q_HB
      refine goes_ Tryd.func18 (by kernel_rfl) rfl #[.agg #[.int .i64 xt, .int .i64 yt, vt], .agg #[.int .i64 xu, .int .i64 yu, vu]] (by rfl) rfl rfl (by first | (simp only [List.map_toArray, List.map_cons, List.map_nil, Act.eval, Array.getD_eq_getD_getElem?, Option.getD_some, e26, e27]; done) | (simp only [List.map_toArray, List.map_cons, List.map_nil, Act.eval, Array.getD_eq_getD_getElem?, Option.getD_some, e26, e27]; rfl)) ?_
      refine (same_go kk xt yt vt kt xu yu vu ku s0 w' (TV.old (G := fun _ => False) Tt.out HB.out (fun _ h_ => h_.elim)) (TV.old (G := fun _ => False) Tu.out HB.out (fun _ h_ => h_.elim)) AH7.out).mono ?_
      rintro e w1 ⟨rfl, hb⟩
      refine ⟨_, rfl, ?_⟩
      refine hK.out _ _ ⟨(by rw [ha.out]; exact putSel_upk 7 hb_ rfl rfl rfl), below_step HB.out hb⟩
    refine steps_cons ?_ ?_
    · rintro b a w' ⟨ha, Q_HB⟩ hb_ hon hoff
      refine ⟨_, rfl, fun K hK => ?_⟩
      have e25 : a.tmps[25]? = some (.bool s0) := by rw [ha]; exact putSel_on (e := (4, 25, .bool s0)) 4 rfl rfl (hon 4 (by kernel_rfl)) (by rw [hsz]; rfl)
      have e28 : a.tmps[28]? = some (.bool s0) := by rw [ha]; exact putSel_on (e := (7, 28, .bool s0)) 7 rfl rfl (hon 7 (by kernel_rfl)) (by rw [hsz]; rfl)
      replace ha := Aside0.mk ha
      have HB := Aside0.mk Q_HB
      refine value_ (w1 := w') (v := .bool true) (by rfl) rfl ?_ ?_
      · go_simp
        (try simp only [i64_w])
        try rfl
      refine hK.out _ _ ⟨(by rw [ha.out]; exact putSel_upk 8 hb_ rfl rfl rfl), Q_HB⟩
    refine steps_cons ?_ ?_
    · rintro b a w' ⟨ha, Q_HB⟩ hb_ hon hoff
      refine ⟨_, rfl, fun K hK => ?_⟩
      have e29 : a.tmps[29]? = some (.bool true) := by rw [ha]; exact putSel_on (e := (8, 29, .bool true)) 8 rfl rfl (hon 8 (by kernel_rfl)) (by rw [hsz]; rfl)
      replace ha := Aside0.mk ha
      have HB := Aside0.mk Q_HB
      refine value_ (w1 := w') (v := .bool true) (by rfl) rfl ?_ ?_
      · go_simp
        (try simp only [i64_w])
        try rfl
      refine hK.out _ _ ⟨(by rw [ha.out]; exact putSel_upk 9 hb_ rfl rfl rfl), Q_HB⟩
    refine steps_cons ?_ ?_
    · rintro b a w' ⟨ha, Q_HB⟩ hb_ hon hoff
      refine ⟨_, rfl, fun K hK => ?_⟩
      have e5 : a.tmps[5]? = some (.pointer (some ⟨bt, 0, none⟩)) := by rw [ha]; exact (putSel_off rfl).trans ht
      have e30 : a.tmps[30]? = some (.bool true) := by rw [ha]; exact putSel_on (e := (9, 30, .bool true)) 9 rfl rfl (hon 9 (by kernel_rfl)) (by rw [hsz]; rfl)
      replace ha := Aside0.mk ha
      have HB := Aside0.mk Q_HB
      have hc0_ : w'.cell? ⟨bt, 0, none⟩ = some (.int .i64 xt) := (blk_cell (blk_below BKt.out HB.out) 0).trans rfl
      have hc1_ : w'.cell? ⟨bt, 1, none⟩ = some (.int .i64 yt) := (blk_cell (blk_below BKt.out HB.out) 1).trans rfl
      have hc2_ : w'.cell? ⟨bt, 2, none⟩ = some (vt) := (blk_cell (blk_below BKt.out HB.out) 2).trans rfl
      refine value_ (w1 := w') (v := .agg #[.int .i64 xt, .int .i64 yt, vt]) (wanted_on rfl rfl rfl (e30.trans (by first | rfl | (simp [*]; done)))) rfl ?_ ?_
      · go_simp
        (try simp only [i64_w])
        try rfl
      refine hK.out _ _ ⟨(by rw [ha.out]; exact putSel_upk 10 hb_ rfl rfl rfl), Q_HB⟩
    refine steps_cons ?_ ?_
    · rintro b a w' ⟨ha, Q_HB⟩ hb_ hon hoff
      refine ⟨_, rfl, fun K hK => ?_⟩
      have e6 : a.tmps[6]? = some (.pointer (some ⟨bu, 0, none⟩)) := by rw [ha]; exact (putSel_off rfl).trans hu
      have e30 : a.tmps[30]? = some (.bool true) := by rw [ha]; exact putSel_on (e := (9, 30, .bool true)) 9 rfl rfl (hon 9 (by kernel_rfl)) (by rw [hsz]; rfl)
      replace ha := Aside0.mk ha
      have HB := Aside0.mk Q_HB
      have hc0_ : w'.cell? ⟨bu, 0, none⟩ = some (.int .i64 xu) := (blk_cell (blk_below BKu.out HB.out) 0).trans rfl
      have hc1_ : w'.cell? ⟨bu, 1, none⟩ = some (.int .i64 yu) := (blk_cell (blk_below BKu.out HB.out) 1).trans rfl
      have hc2_ : w'.cell? ⟨bu, 2, none⟩ = some (vu) := (blk_cell (blk_below BKu.out HB.out) 2).trans rfl
      refine value_ (w1 := w') (v := .agg #[.int .i64 xu, .int .i64 yu, vu]) (wanted_on rfl rfl rfl (e30.trans (by first | rfl | (simp [*]; done)))) rfl ?_ ?_
      · go_simp
        (try simp only [i64_w])
        try rfl
      refine hK.out _ _ ⟨(by rw [ha.out]; exact putSel_upk 11 hb_ rfl rfl rfl), Q_HB⟩
    refine steps_cons ?_ ?_
    · rintro b a w' ⟨ha, Q_HB⟩ hb_ hon hoff
      refine ⟨_, rfl, fun K hK => ?_⟩
      have e31 : a.tmps[31]? = some (.agg #[.int .i64 xt, .int .i64 yt, vt]) := by rw [ha]; exact putSel_on (e := (10, 31, .agg #[.int .i64 xt, .int .i64 yt, vt])) 10 rfl rfl (hon 10 (by kernel_rfl)) (by rw [hsz]; rfl)
      have e32 : a.tmps[32]? = some (.agg #[.int .i64 xu, .int .i64 yu, vu]) := by rw [ha]; exact putSel_on (e := (11, 32, .agg #[.int .i64 xu, .int .i64 yu, vu])) 11 rfl rfl (hon 11 (by kernel_rfl)) (by rw [hsz]; rfl)
      have e30 : a.tmps[30]? = some (.bool true) := by rw [ha]; exact putSel_on (e := (9, 30, .bool true)) 9 rfl rfl (hon 9 (by kernel_rfl)) (by rw [hsz]; rfl)
      replace ha := Aside0.mk ha
      have HB := Aside0.mk Q_HB
      refine goes_ Tryd.func19 (by kernel_rfl) rfl #[.agg #[.int .i64 xt, .int .i64 yt, vt], .agg #[.int .i64 xu, .int .i64 yu, vu]] (wanted_on rfl rfl rfl (e30.trans (by first | rfl | (simp [*]; done)))) rfl rfl (by first | (simp only [List.map_toArray, List.map_cons, List.map_nil, Act.eval, Array.getD_eq_getD_getElem?, Option.getD_some, e31, e32, e30]; done) | (simp only [List.map_toArray, List.map_cons, List.map_nil, Act.eval, Array.getD_eq_getD_getElem?, Option.getD_some, e31, e32, e30]; rfl)) ?_
      refine (tsame_go kk xt yt vt kt xu yu vu ku s1 w' (TV.old (G := fun _ => False) Tt.out HB.out (fun _ h_ => h_.elim)) (TV.old (G := fun _ => False) Tu.out HB.out (fun _ h_ => h_.elim)) AH12.out).mono ?_
      rintro e w1 ⟨rfl, hb⟩
      refine ⟨_, rfl, ?_⟩
      refine hK.out _ _ ⟨(by rw [ha.out]; exact putSel_upk 12 hb_ rfl rfl rfl), below_step HB.out hb⟩
    refine steps_cons ?_ ?_
    · rintro b a w' ⟨ha, Q_HB⟩ hb_ hon hoff
      refine ⟨_, rfl, fun K hK => ?_⟩
      have e5 : a.tmps[5]? = some (.pointer (some ⟨bt, 0, none⟩)) := by rw [ha]; exact (putSel_off rfl).trans ht
      have e30 : a.tmps[30]? = some (.bool true) := by rw [ha]; exact putSel_on (e := (9, 30, .bool true)) 9 rfl rfl (hon 9 (by kernel_rfl)) (by rw [hsz]; rfl)
      replace ha := Aside0.mk ha
      have HB := Aside0.mk Q_HB
      have hc0_ : w'.cell? ⟨bt, 0, none⟩ = some (.int .i64 xt) := (blk_cell (blk_below BKt.out HB.out) 0).trans rfl
      have hc1_ : w'.cell? ⟨bt, 1, none⟩ = some (.int .i64 yt) := (blk_cell (blk_below BKt.out HB.out) 1).trans rfl
      have hc2_ : w'.cell? ⟨bt, 2, none⟩ = some (vt) := (blk_cell (blk_below BKt.out HB.out) 2).trans rfl
      refine value_ (w1 := w') (v := .agg #[.int .i64 xt, .int .i64 yt, vt]) (wanted_on rfl rfl rfl (e30.trans (by first | rfl | (simp [*]; done)))) rfl ?_ ?_
      · go_simp
        (try simp only [i64_w])
        try rfl
      refine hK.out _ _ ⟨(by rw [ha.out]; exact putSel_upk 13 hb_ rfl rfl rfl), Q_HB⟩
    refine steps_cons ?_ ?_
    · rintro b a w' ⟨ha, Q_HB⟩ hb_ hon hoff
      refine ⟨_, rfl, fun K hK => ?_⟩
      have e6 : a.tmps[6]? = some (.pointer (some ⟨bu, 0, none⟩)) := by rw [ha]; exact (putSel_off rfl).trans hu
      have e30 : a.tmps[30]? = some (.bool true) := by rw [ha]; exact putSel_on (e := (9, 30, .bool true)) 9 rfl rfl (hon 9 (by kernel_rfl)) (by rw [hsz]; rfl)
      replace ha := Aside0.mk ha
      have HB := Aside0.mk Q_HB
      have hc0_ : w'.cell? ⟨bu, 0, none⟩ = some (.int .i64 xu) := (blk_cell (blk_below BKu.out HB.out) 0).trans rfl
      have hc1_ : w'.cell? ⟨bu, 1, none⟩ = some (.int .i64 yu) := (blk_cell (blk_below BKu.out HB.out) 1).trans rfl
      have hc2_ : w'.cell? ⟨bu, 2, none⟩ = some (vu) := (blk_cell (blk_below BKu.out HB.out) 2).trans rfl
      refine value_ (w1 := w') (v := .agg #[.int .i64 xu, .int .i64 yu, vu]) (wanted_on rfl rfl rfl (e30.trans (by first | rfl | (simp [*]; done)))) rfl ?_ ?_
      · go_simp
        (try simp only [i64_w])
        try rfl
      refine hK.out _ _ ⟨(by rw [ha.out]; exact putSel_upk 14 hb_ rfl rfl rfl), Q_HB⟩
    refine steps_cons ?_ ?_
    · rintro b a w' ⟨ha, Q_HB⟩ hb_ hon hoff
      refine ⟨_, rfl, fun K hK => ?_⟩
      have e34 : a.tmps[34]? = some (.agg #[.int .i64 xt, .int .i64 yt, vt]) := by rw [ha]; exact putSel_on (e := (13, 34, .agg #[.int .i64 xt, .int .i64 yt, vt])) 13 rfl rfl (hon 13 (by kernel_rfl)) (by rw [hsz]; rfl)
      have e35 : a.tmps[35]? = some (.agg #[.int .i64 xu, .int .i64 yu, vu]) := by rw [ha]; exact putSel_on (e := (14, 35, .agg #[.int .i64 xu, .int .i64 yu, vu])) 14 rfl rfl (hon 14 (by kernel_rfl)) (by rw [hsz]; rfl)
      have e30 : a.tmps[30]? = some (.bool true) := by rw [ha]; exact putSel_on (e := (9, 30, .bool true)) 9 rfl rfl (hon 9 (by kernel_rfl)) (by rw [hsz]; rfl)
      replace ha := Aside0.mk ha
      have HB := Aside0.mk Q_HB
      refine goes_ Tryd.func18 (by kernel_rfl) rfl #[.agg #[.int .i64 xt, .int .i64 yt, vt], .agg #[.int .i64 xu, .int .i64 yu, vu]] (wanted_on rfl rfl rfl (e30.trans (by first | rfl | (simp [*]; done)))) rfl rfl (by first | (simp only [List.map_toArray, List.map_cons, List.map_nil, Act.eval, Array.getD_eq_getD_getElem?, Option.getD_some, e34, e35, e30]; done) | (simp only [List.map_toArray, List.map_cons, List.map_nil, Act.eval, Array.getD_eq_getD_getElem?, Option.getD_some, e34, e35, e30]; rfl)) ?_
      refine (same_go kk xt yt vt kt xu yu vu ku s2 w' (TV.old (G := fun _ => False) Tt.out HB.out (fun _ h_ => h_.elim)) (TV.old (G := fun _ => False) Tu.out HB.out (fun _ h_ => h_.elim)) AH15.out).mono ?_
      rintro e w1 ⟨rfl, hb⟩
      refine ⟨_, rfl, ?_⟩
      refine hK.out _ _ ⟨(by rw [ha.out]; exact putSel_upk 15 hb_ rfl rfl rfl), below_step HB.out hb⟩
    refine steps_cons ?_ ?_
    · rintro b a w' ⟨ha, Q_HB⟩ hb_ hon hoff
      refine ⟨_, rfl, fun K hK => ?_⟩
      have e33 : a.tmps[33]? = some (.bool s1) := by rw [ha]; exact putSel_on (e := (12, 33, .bool s1)) 12 rfl rfl (hon 12 (by kernel_rfl)) (by rw [hsz]; rfl)
      have e36 : a.tmps[36]? = some (.bool s2) := by rw [ha]; exact putSel_on (e := (15, 36, .bool s2)) 15 rfl rfl (hon 15 (by kernel_rfl)) (by rw [hsz]; rfl)
      have e30 : a.tmps[30]? = some (.bool true) := by rw [ha]; exact putSel_on (e := (9, 30, .bool true)) 9 rfl rfl (hon 9 (by kernel_rfl)) (by rw [hsz]; rfl)
      replace ha := Aside0.mk ha
      have HB := Aside0.mk Q_HB
      refine value_ (w1 := w') (v := .bool (s1 == s2)) (wanted_on rfl rfl rfl (e30.trans (by first | rfl | (simp [*]; done)))) rfl ?_ ?_
      · go_simp
        (try simp only [i64_w])
        try rfl
      refine hK.out _ _ ⟨(by rw [ha.out]; exact putSel_upk 16 hb_ rfl rfl rfl), Q_HB⟩
    refine steps_cons ?_ ?_
    · rintro b a w' ⟨ha, Q_HB⟩ hb_ hon hoff
      refine ⟨_, rfl, fun K hK => ?_⟩
      have e30 : a.tmps[30]? = some (.bool true) := by rw [ha]; exact putSel_on (e := (9, 30, .bool true)) 9 rfl rfl (hon 9 (by kernel_rfl)) (by rw [hsz]; rfl)
      have e37 : a.tmps[37]? = some (.bool (s1 == s2)) := by rw [ha]; exact putSel_on (e := (16, 37, .bool (s1 == s2))) 16 rfl rfl (hon 16 (by kernel_rfl)) (by rw [hsz]; rfl)
      replace ha := Aside0.mk ha
      have HB := Aside0.mk Q_HB
      refine value_ (w1 := w') (v := .bool (s1 == s2)) (by rfl) rfl ?_ ?_
      · go_simp
        (try simp only [i64_w])
        try rfl
      refine hK.out _ _ ⟨(by rw [ha.out]; exact putSel_upk 17 hb_ rfl rfl rfl), Q_HB⟩
    refine steps_cons ?_ ?_
    · rintro b a w' ⟨ha, Q_HB⟩ hb_ hon hoff
      refine ⟨_, rfl, fun K hK => ?_⟩
      have e38 : a.tmps[38]? = some (.bool (s1 == s2)) := by rw [ha]; exact putSel_on (e := (17, 38, .bool (s1 == s2))) 17 rfl rfl (hon 17 (by kernel_rfl)) (by rw [hsz]; rfl)
      replace ha := Aside0.mk ha
      have HB := Aside0.mk Q_HB
      refine value_ (w1 := w') (v := .bool (s1 == s2)) (by rfl) rfl ?_ ?_
      · go_simp
        (try simp only [i64_w])
        try rfl
      refine hK.out _ _ ⟨(by rw [ha.out]; exact putSel_upk 18 hb_ rfl rfl rfl), Q_HB⟩
    exact steps_nil
  · rintro b a w' hall ⟨ha, Q_HB⟩
    clear HB
    have hb0_ := hall 0 (by kernel_rfl)
    have hb1_ := hall 1 (by kernel_rfl)
    have hb2_ := hall 2 (by kernel_rfl)
    have hb3_ := hall 3 (by kernel_rfl)
    have hb4_ := hall 4 (by kernel_rfl)
    have hb5_ := hall 5 (by kernel_rfl)
    have hb6_ := hall 6 (by kernel_rfl)
    have hb7_ := hall 7 (by kernel_rfl)
    have hb8_ := hall 8 (by kernel_rfl)
    have hb9_ := hall 9 (by kernel_rfl)
    have hb10_ := hall 10 (by kernel_rfl)
    have hb11_ := hall 11 (by kernel_rfl)
    have hb12_ := hall 12 (by kernel_rfl)
    have hb13_ := hall 13 (by kernel_rfl)
    have hb14_ := hall 14 (by kernel_rfl)
    have hb15_ := hall 15 (by kernel_rfl)
    have hb16_ := hall 16 (by kernel_rfl)
    have hb17_ := hall 17 (by kernel_rfl)
    have hb18_ := hall 18 (by kernel_rfl)
    subst ha
    simp only [putSel, hb0_, hb1_, hb2_, hb3_, hb4_, hb5_, hb6_, hb7_, hb8_, hb9_, hb10_, hb11_, hb12_, hb13_, hb14_, hb15_, hb16_, hb17_, hb18_, if_true]
    have HB := Aside0.mk Q_HB
    clear Q_HB
    clear hall hb0_ hb1_ hb2_ hb3_ hb4_ hb5_ hb6_ hb7_ hb8_ hb9_ hb10_ hb11_ hb12_ hb13_ hb14_ hb15_ hb16_ hb17_ hb18_
    exact hQ    w' HB.out 
end Go.Proofs.YtcchfblekaaalaaDoor.P
/- TermTexts: its walk (genttw.py: the print's head, then the drawn regions' lemmas) -/
namespace Go.Proofs.YtcchfblekaaalaaDoor.P
open Go.RowKit Go.Proofs.YtcchfblekaaalaaDoorW.PrintWords Go.Proofs.YtcchfblekaaalaaDoorW.PrintLast Go.Proofs.YtcchfblekaaalaaDoorW.PrintMore
set_option linter.unusedVariables false
set_option linter.unusedSimpArgs false
attribute [local go_sem] max2_int min2_int max_two min_two max_three min_three max_four min_four
set_option maxHeartbeats 8000000 in
set_option maxRecDepth 100000 in
theorem thyrsuslaw4_TermTexts.calls (k : Nat) (a0_0 : Int) (a0_1 : Int) (A0_2 : Option Addr) (c0_2 : Nat) (l0_2 : List (S24)) (a1_0 : Int) (a1_1 : Int) (A1_2 : Option Addr) (c1_2 : Nat) (l1_2 : List (S24)) (r : Bool) (w : World) (hT : TabP w) (hr0_2 : Kd.C k24 w A0_2 l0_2.length l0_2) (hc0_2 : l0_2.length ≤ c0_2) (hr1_2 : Kd.C k24 w A1_2 l1_2.length l1_2) (hc1_2 : l1_2.length ≤ c1_2) (h : thyrsuslaw4_TermTexts.f k a0_0 a0_1 l0_2 a1_0 a1_1 l1_2 = some r) :
    Calls Tryd.prog 3 #[.agg #[.int .i64 a0_0, .int .i64 a0_1, .slice A0_2 l0_2.length c0_2], .agg #[.int .i64 a1_0, .int .i64 a1_1, .slice A1_2 l1_2.length c1_2]] w fun e w' => e = .returned (.bool r) ∧ Below w.heap.size w w' := by
  have HTB := Aside0.mk hT
  clear hT
  have hu24 := Tryd.underlying24
  have hu29 := Tryd.underlying29
  have HR0_2 := Aside0.mk hr0_2
  have HC0_2 := Aside0.mk hc0_2
  clear hr0_2 hc0_2
  have HR1_2 := Aside0.mk hr1_2
  have HC1_2 := Aside0.mk hc1_2
  clear hr1_2 hc1_2
  have HB := Aside0.mk (Below.refl w.heap.size w)
  have H : ((thyrsuslaw4_known.f k).bind fun t291 => (if t291 = true then ((thyrsuslaw1_Few.f k a0_0 a0_1 l0_2).bind fun t292 => (if t292 = true then ((thyrsuslaw1_Few.f k a1_0 a1_1 l1_2).bind fun t293 => (thyrsuslaw4_TermTexts.j0 k (!t293) a0_0 a0_1 l0_2 a1_0 a1_1 l1_2)) else (thyrsuslaw4_TermTexts.j0 k true a0_0 a0_1 l0_2 a1_0 a1_1 l1_2))) else (none))) = some r := h
  clear h
  replace H := Option.bind_eq_some_iff.mp H
  obtain ⟨t291, A30, H⟩ := H
  replace H : (if t291 = true then ((thyrsuslaw1_Few.f k a0_0 a0_1 l0_2).bind fun t292 => (if t292 = true then ((thyrsuslaw1_Few.f k a1_0 a1_1 l1_2).bind fun t293 => (thyrsuslaw4_TermTexts.j0 k (!t293) a0_0 a0_1 l0_2 a1_0 a1_1 l1_2)) else (thyrsuslaw4_TermTexts.j0 k true a0_0 a0_1 l0_2 a1_0 a1_1 l1_2))) else (none)) = some r := H
  have A3 := Aside0.mk A30
  clear A30
  by_cases c4 : t291 = true
  · subst c4
    have H1 : ((thyrsuslaw1_Few.f k a0_0 a0_1 l0_2).bind fun t292 => (if t292 = true then ((thyrsuslaw1_Few.f k a1_0 a1_1 l1_2).bind fun t293 => (thyrsuslaw4_TermTexts.j0 k (!t293) a0_0 a0_1 l0_2 a1_0 a1_1 l1_2)) else (thyrsuslaw4_TermTexts.j0 k true a0_0 a0_1 l0_2 a1_0 a1_1 l1_2))) = some r := by rw [if_pos rfl] at H; exact H
    clear H
    have H := H1
    clear H1
    have HC5 := Aside0.mk H
    clear H
    go_enter Tryd.func3, Tryd.ntmps3
    go_upto_region 3 with (first | ((with_reducible refine gate_dst (N := 2) rfl ?_); refine box_event ?hg (N := 2) ?hd (cs := #[.int .i64 a0_0, .int .i64 a0_1, .slice A0_2 l0_2.length c0_2]) (t := 24) ?hr ?_; (case hd => rfl); (case hg => rfl); (case hr => first | (go_simp; done) | (go_simp; rfl)); intro gb289 hg w6 hbox hb; have n0_ := Aside0.mk (below_step (by repeat (first | (with_reducible first | exact HB.out | apply below_alloc | apply pw_below_drewN | apply below_drew1) | exact HB.out)) hb); have n1_ := Aside0.mk (hbox); have n2_ := Aside0.mk ((by rw [hg]; exact (below_size (by repeat (first | (with_reducible first | exact HB.out | apply below_alloc | apply pw_below_drewN | apply below_drew1) | exact HB.out))) : w.heap.size ≤ gb289)); have n3_ := Aside0.mk ((by rw [hg]; exact (below_size (by repeat (first | (with_reducible first | exact HB.out | apply below_alloc | apply pw_below_drewN | apply below_drew1) | exact HB.out))) : w.heap.size ≤ gb289)); clear HB; have HB := n0_; have BK289 := n1_; have GW289 := n2_; have GE289 := n3_; clear n0_ n1_ n2_ n3_; clear hb hbox hg) | ((with_reducible refine gate_dst (N := 3) rfl ?_); refine box_event ?hg (N := 3) ?hd (cs := #[.int .i64 a1_0, .int .i64 a1_1, .slice A1_2 l1_2.length c1_2]) (t := 24) ?hr ?_; (case hd => rfl); (case hg => rfl); (case hr => first | (go_simp; done) | (go_simp; rfl)); intro gb290 hg w7 hbox hb; have n0_ := Aside0.mk (blk_below (g := gb289) (o := .cells #[.int .i64 a0_0, .int .i64 a0_1, .slice A0_2 l0_2.length c0_2] 24 (0, 0)) (by (with_reducible repeat (first | refine blk_drewN ?_ _ | refine blk_drew ?_ | refine blk_alloc ?_ _)); exact BK289.out) hb); have n1_ := Aside0.mk (below_step (by repeat (first | (with_reducible first | exact HB.out | apply below_alloc | apply pw_below_drewN | apply below_drew1 | refine below_set ?_ GE289.out) | exact HB.out)) hb); have n2_ := Aside0.mk (hbox); have n3_ := Aside0.mk ((by rw [hg]; exact (below_size (by repeat (first | (with_reducible first | exact HB.out | apply below_alloc | apply pw_below_drewN | apply below_drew1 | refine below_set ?_ GE289.out) | exact HB.out))) : w.heap.size ≤ gb290)); have n4_ := Aside0.mk ((by rw [hg]; exact (below_size (by repeat (first | (with_reducible first | exact HB.out | apply below_alloc | apply pw_below_drewN | apply below_drew1 | refine below_set ?_ GE289.out) | exact HB.out))) : w.heap.size ≤ gb290)); have n5_ := Aside0.mk ((by rw [hg]; exact Nat.ne_of_lt (blk_lt (g := gb289) (o := .cells #[.int .i64 a0_0, .int .i64 a0_1, .slice A0_2 l0_2.length c0_2] 24 (0, 0)) (by (with_reducible repeat (first | refine blk_drewN ?_ _ | refine blk_drew ?_ | refine blk_alloc ?_ _)); exact BK289.out)) : gb289 ≠ gb290)); have n6_ := Aside0.mk ((by rw [hg]; exact Nat.ne_of_gt (blk_lt (g := gb289) (o := .cells #[.int .i64 a0_0, .int .i64 a0_1, .slice A0_2 l0_2.length c0_2] 24 (0, 0)) (by (with_reducible repeat (first | refine blk_drewN ?_ _ | refine blk_drew ?_ | refine blk_alloc ?_ _)); exact BK289.out)) : gb290 ≠ gb289)); clear BK289; clear HB; have BK289 := n0_; have HB := n1_; have BK290 := n2_; have GW290 := n3_; have GE290 := n4_; have NB289_290 := n5_; have NB290_289 := n6_; clear n0_ n1_ n2_ n3_ n4_ n5_ n6_; clear hb hbox hg) | ((with_reducible refine gate_callee (f := 14) rfl ?_); refine goesL_ (some 7) rfl rfl Tryd.func14 (by kernel_rfl) rfl #[] rfl (by (try simp only [List.map_toArray, List.map_cons, List.map_nil]); first | done | rfl | (simp only [List.length_drop, List.length_take]; rfl)) ?_; (with_reducible refine (thyrsuslaw4_known.calls k  true _ A3.out).mono ?_); rintro e w8 ⟨rfl, hb⟩; refine ⟨_, rfl, ?_⟩; have n0_ := Aside0.mk (blk_below (g := gb289) (o := .cells #[.int .i64 a0_0, .int .i64 a0_1, .slice A0_2 l0_2.length c0_2] 24 (0, 0)) (by (with_reducible repeat (first | refine blk_drewN ?_ _ | refine blk_drew ?_ | refine blk_alloc ?_ _)); exact BK289.out) hb); have n1_ := Aside0.mk (blk_below (g := gb290) (o := .cells #[.int .i64 a1_0, .int .i64 a1_1, .slice A1_2 l1_2.length c1_2] 24 (0, 0)) (by (with_reducible repeat (first | refine blk_drewN ?_ _ | refine blk_drew ?_ | refine blk_alloc ?_ _)); exact BK290.out) hb); have n2_ := Aside0.mk (below_step (by repeat (first | (with_reducible first | exact HB.out | apply below_alloc | apply pw_below_drewN | apply below_drew1 | refine below_set ?_ GE289.out | refine below_set ?_ GE290.out) | exact HB.out)) hb); clear BK289; clear BK290; clear HB; have BK289 := n0_; have BK290 := n1_; have HB := n2_; clear n0_ n1_ n2_; (try clear hb); (try clear hb2); (try clear hk); (try clear hi)))
    (try simp only [Act.put, List.setIfInBounds_toArray, List.set_cons_zero, List.set_cons_succ])
    go_cut [16] (fun v16 wc => ∃ (kq : Nat) (x16_4 : Bool), v16 = .bool x16_4 ∧ Aside0 (thyrsuslaw4_TermTexts.j0 kq x16_4 a0_0 a0_1 l0_2 a1_0 a1_1 l1_2 = some r) ∧ Aside0 (kq ≤ k) ∧ Aside0 (wc.heap[gb289]? = some (.cells #[.int .i64 a0_0, .int .i64 a0_1, (.slice A0_2 l0_2.length c0_2)] 24 (0, 0))) ∧ Aside0 (wc.heap[gb290]? = some (.cells #[.int .i64 a1_0, .int .i64 a1_1, (.slice A1_2 l1_2.length c1_2)] 24 (0, 0))) ∧ Aside0 (Below w.heap.size w wc))
    case first =>
      have H := HC5.out
      clear HC5
      replace H := Option.bind_eq_some_iff.mp H
      obtain ⟨t292, A90, H⟩ := H
      replace H : (if t292 = true then ((thyrsuslaw1_Few.f k a1_0 a1_1 l1_2).bind fun t293 => (thyrsuslaw4_TermTexts.j0 k (!t293) a0_0 a0_1 l0_2 a1_0 a1_1 l1_2)) else (thyrsuslaw4_TermTexts.j0 k true a0_0 a0_1 l0_2 a1_0 a1_1 l1_2)) = some r := H
      have A9 := Aside0.mk A90
      clear A90
      by_cases c10 : t292 = true
      · subst c10
        have H1 : ((thyrsuslaw1_Few.f k a1_0 a1_1 l1_2).bind fun t293 => (thyrsuslaw4_TermTexts.j0 k (!t293) a0_0 a0_1 l0_2 a1_0 a1_1 l1_2)) = some r := by rw [if_pos rfl] at H; exact H
        clear H
        have H := H1
        clear H1
        replace H := Option.bind_eq_some_iff.mp H
        obtain ⟨t293, A110, H⟩ := H
        replace H : (thyrsuslaw4_TermTexts.j0 k (!t293) a0_0 a0_1 l0_2 a1_0 a1_1 l1_2) = some r := H
        have A11 := Aside0.mk A110
        clear A110
        have H' := Aside0.mk H
        clear H
        have hnb12 := NB289_290.out
        have hnc12 := NB290_289.out
        have hcz13_0 : w8.cell? ⟨gb289, 0, none⟩ = some (.int .i64 a0_0) := (blk_cell BK289.out 0).trans rfl
        have hcz13_1 : w8.cell? ⟨gb289, 1, none⟩ = some (.int .i64 a0_1) := (blk_cell BK289.out 1).trans rfl
        have hcz13_2 : w8.cell? ⟨gb289, 2, none⟩ = some (.slice A0_2 l0_2.length c0_2) := (blk_cell BK289.out 2).trans rfl
        have hfz13_0 := blk_frozen BK289.out 0
        have hfz13_1 := blk_frozen BK289.out 1
        have hfz13_2 := blk_frozen BK289.out 2
        go_wp2_with (first | ((with_reducible refine gate_callee (f := 15) rfl ?_); refine goesL_ (some 10) rfl rfl Tryd.func15 (by kernel_rfl) rfl #[.agg #[.int .i64 a0_0, .int .i64 a0_1, .slice A0_2 l0_2.length c0_2]] rfl (by (try simp only [List.map_toArray, List.map_cons, List.map_nil]); first | done | rfl | (simp only [List.length_drop, List.length_take]; rfl)) ?_; (with_reducible refine (thyrsuslaw1_Few.calls k a0_0 a0_1 _ _ l0_2 true _ ?side1 ?side2 A9.out).mono ?_); (case side1 => repeat (first | exact (Kd.C_below HR0_2.out HB.out) | (with_reducible refine Kd.C_alloc ?_ _) | (with_reducible refine Kd.C_drewN ?_ _) | (with_reducible refine Kd.C_drew ?_))); (case side2 => exact HC0_2.out); rintro e w14 ⟨rfl, hb⟩; refine ⟨_, rfl, ?_⟩; have n0_ := Aside0.mk (blk_below (g := gb289) (o := .cells #[.int .i64 a0_0, .int .i64 a0_1, .slice A0_2 l0_2.length c0_2] 24 (0, 0)) (by (with_reducible repeat (first | refine blk_drewN ?_ _ | refine blk_drew ?_ | refine blk_alloc ?_ _)); exact BK289.out) hb); have n1_ := Aside0.mk (blk_below (g := gb290) (o := .cells #[.int .i64 a1_0, .int .i64 a1_1, .slice A1_2 l1_2.length c1_2] 24 (0, 0)) (by (with_reducible repeat (first | refine blk_drewN ?_ _ | refine blk_drew ?_ | refine blk_alloc ?_ _)); exact BK290.out) hb); have n2_ := Aside0.mk (below_step (by repeat (first | (with_reducible first | exact HB.out | apply below_alloc | apply pw_below_drewN | apply below_drew1 | refine below_set ?_ GE289.out | refine below_set ?_ GE290.out) | exact HB.out)) hb); clear BK289; clear BK290; clear HB; have BK289 := n0_; have BK290 := n1_; have HB := n2_; clear n0_ n1_ n2_; (try clear hb); (try clear hb2); (try clear hk); (try clear hi); have hcz15_0 : w14.cell? ⟨gb290, 0, none⟩ = some (.int .i64 a1_0) := (blk_cell BK290.out 0).trans rfl; have hcz15_1 : w14.cell? ⟨gb290, 1, none⟩ = some (.int .i64 a1_1) := (blk_cell BK290.out 1).trans rfl; have hcz15_2 : w14.cell? ⟨gb290, 2, none⟩ = some (.slice A1_2 l1_2.length c1_2) := (blk_cell BK290.out 2).trans rfl; have hfz15_0 := blk_frozen BK290.out 0; have hfz15_1 := blk_frozen BK290.out 1; have hfz15_2 := blk_frozen BK290.out 2) | (go_at_call 15; (with_reducible refine (thyrsuslaw1_Few.calls k a1_0 a1_1 _ _ l1_2 t293 _ ?side1 ?side2 A11.out).mono ?_); (case side1 => repeat (first | exact (Kd.C_below HR1_2.out HB.out) | (with_reducible refine Kd.C_alloc ?_ _) | (with_reducible refine Kd.C_drewN ?_ _) | (with_reducible refine Kd.C_drew ?_))); (case side2 => exact HC1_2.out); rintro e w16 ⟨rfl, hb⟩; have n0_ := Aside0.mk (blk_below (g := gb289) (o := .cells #[.int .i64 a0_0, .int .i64 a0_1, .slice A0_2 l0_2.length c0_2] 24 (0, 0)) (by (with_reducible repeat (first | refine blk_drewN ?_ _ | refine blk_drew ?_ | refine blk_alloc ?_ _)); exact BK289.out) hb); have n1_ := Aside0.mk (blk_below (g := gb290) (o := .cells #[.int .i64 a1_0, .int .i64 a1_1, .slice A1_2 l1_2.length c1_2] 24 (0, 0)) (by (with_reducible repeat (first | refine blk_drewN ?_ _ | refine blk_drew ?_ | refine blk_alloc ?_ _)); exact BK290.out) hb); have n2_ := Aside0.mk (below_step (by repeat (first | (with_reducible first | exact HB.out | apply below_alloc | apply pw_below_drewN | apply below_drew1 | refine below_set ?_ GE289.out | refine below_set ?_ GE290.out) | exact HB.out)) hb); clear BK289; clear BK290; clear HB; have BK289 := n0_; have BK290 := n1_; have HB := n2_; clear n0_ n1_ n2_; (try clear hb); (try clear hb2); (try clear hk); (try clear hi)))
        go_meet
        case rel => exact ⟨_, (!t293), (by first | rfl | (simp; done) | (simp [*]; done)), H', ⟨by first | omega | exact Nat.le_refl _⟩, ⟨by (with_reducible repeat (first | refine blk_drewN ?_ _ | refine blk_drew ?_ | refine blk_alloc ?_ _)); exact BK289.out⟩, ⟨by (with_reducible repeat (first | refine blk_drewN ?_ _ | refine blk_drew ?_ | refine blk_alloc ?_ _)); exact BK290.out⟩, ⟨by repeat (first | (with_reducible first | exact HB.out | apply below_alloc | apply pw_below_drewN | apply below_drew1 | refine below_set ?_ GE289.out | refine below_set ?_ GE290.out) | exact HB.out)⟩⟩
      · replace c10 := Bool.eq_false_iff.mpr c10
        subst c10
        have H1 : (thyrsuslaw4_TermTexts.j0 k true a0_0 a0_1 l0_2 a1_0 a1_1 l1_2) = some r := by rw [if_neg (show ¬ (false = true) by decide)] at H; exact H
        clear H
        have H := H1
        clear H1
        have H' := Aside0.mk H
        clear H
        have hnb17 := NB289_290.out
        have hnc17 := NB290_289.out
        have hcz18_0 : w8.cell? ⟨gb289, 0, none⟩ = some (.int .i64 a0_0) := (blk_cell BK289.out 0).trans rfl
        have hcz18_1 : w8.cell? ⟨gb289, 1, none⟩ = some (.int .i64 a0_1) := (blk_cell BK289.out 1).trans rfl
        have hcz18_2 : w8.cell? ⟨gb289, 2, none⟩ = some (.slice A0_2 l0_2.length c0_2) := (blk_cell BK289.out 2).trans rfl
        have hfz18_0 := blk_frozen BK289.out 0
        have hfz18_1 := blk_frozen BK289.out 1
        have hfz18_2 := blk_frozen BK289.out 2
        go_wp2_with (first | ((with_reducible refine gate_callee (f := 15) rfl ?_); refine goesL_ (some 10) rfl rfl Tryd.func15 (by kernel_rfl) rfl #[.agg #[.int .i64 a0_0, .int .i64 a0_1, .slice A0_2 l0_2.length c0_2]] rfl (by (try simp only [List.map_toArray, List.map_cons, List.map_nil]); first | done | rfl | (simp only [List.length_drop, List.length_take]; rfl)) ?_; (with_reducible refine (thyrsuslaw1_Few.calls k a0_0 a0_1 _ _ l0_2 false _ ?side1 ?side2 A9.out).mono ?_); (case side1 => repeat (first | exact (Kd.C_below HR0_2.out HB.out) | (with_reducible refine Kd.C_alloc ?_ _) | (with_reducible refine Kd.C_drewN ?_ _) | (with_reducible refine Kd.C_drew ?_))); (case side2 => exact HC0_2.out); rintro e w19 ⟨rfl, hb⟩; refine ⟨_, rfl, ?_⟩; have n0_ := Aside0.mk (blk_below (g := gb289) (o := .cells #[.int .i64 a0_0, .int .i64 a0_1, .slice A0_2 l0_2.length c0_2] 24 (0, 0)) (by (with_reducible repeat (first | refine blk_drewN ?_ _ | refine blk_drew ?_ | refine blk_alloc ?_ _)); exact BK289.out) hb); have n1_ := Aside0.mk (blk_below (g := gb290) (o := .cells #[.int .i64 a1_0, .int .i64 a1_1, .slice A1_2 l1_2.length c1_2] 24 (0, 0)) (by (with_reducible repeat (first | refine blk_drewN ?_ _ | refine blk_drew ?_ | refine blk_alloc ?_ _)); exact BK290.out) hb); have n2_ := Aside0.mk (below_step (by repeat (first | (with_reducible first | exact HB.out | apply below_alloc | apply pw_below_drewN | apply below_drew1 | refine below_set ?_ GE289.out | refine below_set ?_ GE290.out) | exact HB.out)) hb); clear BK289; clear BK290; clear HB; have BK289 := n0_; have BK290 := n1_; have HB := n2_; clear n0_ n1_ n2_; (try clear hb); (try clear hb2); (try clear hk); (try clear hi)))
        go_meet
        case rel => exact ⟨_, (true), (by first | rfl | (simp; done) | (simp [*]; done)), H', ⟨by first | omega | exact Nat.le_refl _⟩, ⟨by (with_reducible repeat (first | refine blk_drewN ?_ _ | refine blk_drew ?_ | refine blk_alloc ?_ _)); exact BK289.out⟩, ⟨by (with_reducible repeat (first | refine blk_drewN ?_ _ | refine blk_drew ?_ | refine blk_alloc ?_ _)); exact BK290.out⟩, ⟨by repeat (first | (with_reducible first | exact HB.out | apply below_alloc | apply pw_below_drewN | apply below_drew1 | refine below_set ?_ GE289.out | refine below_set ?_ GE290.out) | exact HB.out)⟩⟩
    case rest =>
      clear HC5
      try clear c1
      try clear p2
      try clear c3
      try clear c4
      try clear c10
      try clear c12
      try clear c14
      try clear c15
      try clear c17
      try clear hcz13_0
      try clear hcz13_1
      try clear hcz13_2
      try clear hcz15_0
      try clear hcz15_1
      try clear hcz15_2
      try clear hcz18_0
      try clear hcz18_1
      try clear hcz18_2
      try clear hfz13_0
      try clear hfz13_1
      try clear hfz13_2
      try clear hfz15_0
      try clear hfz15_1
      try clear hfz15_2
      try clear hfz18_0
      try clear hfz18_1
      try clear hfz18_2
      obtain ⟨kq, x16_4, rfl, HA, HJ4, BK289, BK290, HB⟩ := hcut
      cases kq with
      | zero => exact absurd HA.out (by simp [thyrsuslaw4_TermTexts.j0])
      | succ kj4 =>
        have H := HA.out
        clear HA
        simp only [thyrsuslaw4_TermTexts.j0] at H
        by_cases c20 : x16_4 = true
        · subst c20
          have H1 : (some true) = some r := by rw [if_pos rfl] at H; exact H
          clear H
          have H := H1
          clear H1
          obtain rfl := Option.some.inj H
          go_wp2
          go_ret
          exact ⟨by first | rfl | (simp [errW_none, errW_some] <;> rfl) | (simp [*, errW_none, errW_some] <;> rfl), by repeat (first | (with_reducible first | exact HB.out | apply below_alloc | apply pw_below_drewN | apply below_drew1 | refine below_set ?_ GE289.out | refine below_set ?_ GE290.out) | exact HB.out)⟩
        · replace c20 := Bool.eq_false_iff.mpr c20
          subst c20
          have H1 : ((thyrsuslaw1_Make.f kj4 a0_0 a0_1 l0_2 5 3).bind fun bt294 => ((thyrsuslaw1_Make.f kj4 a1_0 a1_1 l1_2 5 3).bind fun bt299 => ((term_TextA.f kj4 bt294.1 bt294.2.1 bt294.2.2).bind fun t306 => ((term_TextA.f kj4 bt299.1 bt299.2.1 bt299.2.2).bind fun t307 => ((thyrsusref4_Same.f kj4 bt294.1 bt294.2.1 bt294.2.2 bt299.1 bt299.2.1 bt299.2.2).bind fun t308 => (if ((t306.toList == t307.toList) == t308) = true then ((term_Same.f kj4 bt294.1 bt294.2.1 bt294.2.2 bt299.1 bt299.2.1 bt299.2.2).bind fun t309 => ((thyrsusref4_Same.f kj4 bt294.1 bt294.2.1 bt294.2.2 bt299.1 bt299.2.1 bt299.2.2).bind fun t310 => (some (t309 == t310)))) else (none))))))) = some r := by rw [if_neg (show ¬ (false = true) by decide)] at H; exact H
          clear H
          have H := H1
          clear H1
          replace H := Option.bind_eq_some_iff.mp H
          obtain ⟨⟨t294, t295, t296⟩, A210, H⟩ := H
          replace H : ((thyrsuslaw1_Make.f kj4 a1_0 a1_1 l1_2 5 3).bind fun bt299 => ((term_TextA.f kj4 t294 t295 t296).bind fun t306 => ((term_TextA.f kj4 bt299.1 bt299.2.1 bt299.2.2).bind fun t307 => ((thyrsusref4_Same.f kj4 t294 t295 t296 bt299.1 bt299.2.1 bt299.2.2).bind fun t308 => (if ((t306.toList == t307.toList) == t308) = true then ((term_Same.f kj4 t294 t295 t296 bt299.1 bt299.2.1 bt299.2.2).bind fun t309 => ((thyrsusref4_Same.f kj4 t294 t295 t296 bt299.1 bt299.2.1 bt299.2.2).bind fun t310 => (some (t309 == t310)))) else (none)))))) = some r := H
          have A21 := Aside0.mk A210
          clear A210
          replace H := Option.bind_eq_some_iff.mp H
          obtain ⟨⟨t299, t300, t301⟩, A220, H⟩ := H
          replace H : ((term_TextA.f kj4 t294 t295 t296).bind fun t306 => ((term_TextA.f kj4 t299 t300 t301).bind fun t307 => ((thyrsusref4_Same.f kj4 t294 t295 t296 t299 t300 t301).bind fun t308 => (if ((t306.toList == t307.toList) == t308) = true then ((term_Same.f kj4 t294 t295 t296 t299 t300 t301).bind fun t309 => ((thyrsusref4_Same.f kj4 t294 t295 t296 t299 t300 t301).bind fun t310 => (some (t309 == t310)))) else (none))))) = some r := H
          have A22 := Aside0.mk A220
          clear A220
          replace H := Option.bind_eq_some_iff.mp H
          obtain ⟨t306, A230, H⟩ := H
          replace H : ((term_TextA.f kj4 t299 t300 t301).bind fun t307 => ((thyrsusref4_Same.f kj4 t294 t295 t296 t299 t300 t301).bind fun t308 => (if ((t306.toList == t307.toList) == t308) = true then ((term_Same.f kj4 t294 t295 t296 t299 t300 t301).bind fun t309 => ((thyrsusref4_Same.f kj4 t294 t295 t296 t299 t300 t301).bind fun t310 => (some (t309 == t310)))) else (none)))) = some r := H
          have A23 := Aside0.mk A230
          clear A230
          replace H := Option.bind_eq_some_iff.mp H
          obtain ⟨t307, A240, H⟩ := H
          replace H : ((thyrsusref4_Same.f kj4 t294 t295 t296 t299 t300 t301).bind fun t308 => (if ((t306.toList == t307.toList) == t308) = true then ((term_Same.f kj4 t294 t295 t296 t299 t300 t301).bind fun t309 => ((thyrsusref4_Same.f kj4 t294 t295 t296 t299 t300 t301).bind fun t310 => (some (t309 == t310)))) else (none))) = some r := H
          have A24 := Aside0.mk A240
          clear A240
          replace H := Option.bind_eq_some_iff.mp H
          obtain ⟨t308, A250, H⟩ := H
          replace H : (if ((t306.toList == t307.toList) == t308) = true then ((term_Same.f kj4 t294 t295 t296 t299 t300 t301).bind fun t309 => ((thyrsusref4_Same.f kj4 t294 t295 t296 t299 t300 t301).bind fun t310 => (some (t309 == t310)))) else (none)) = some r := H
          have A25 := Aside0.mk A250
          clear A250
          by_cases c26 : ((t306.toList == t307.toList) == t308) = true
          rotate_left
          · rw [if_neg c26] at H
            exact absurd H (by simp)
          rw [if_pos c26] at H
          have c26b := Aside0.mk (eq_of_beq c26)
          clear c26
          obtain ⟨t309, A270, H⟩ := Option.bind_eq_some_iff.mp H
          have A27 := Aside0.mk A270
          clear A270
          obtain ⟨t310, A280, H⟩ := Option.bind_eq_some_iff.mp H
          have A28 := Aside0.mk A280
          clear A280
          obtain rfl := Option.some.inj H
          try go_wp2
          refine texts_r5 (by rfl) kj4 a0_0 a0_1 A0_2 c0_2 l0_2 gb289 rfl BK289.out (Kd.C_below HR0_2.out HB.out) HC0_2.out a1_0 a1_1 A1_2 c1_2 l1_2 gb290 rfl BK290.out (Kd.C_below HR1_2.out HB.out) HC1_2.out t294 t295 t296 t299 t300 t301 A21.out A22.out ?_
          rintro u1 u3 g4 g5 w1 hb _ S4 F4 _ S5 F5
          replace HB := Aside0.mk (below_step HB.out hb)
          clear hb BK289 BK290
          have B4 := Aside0.mk S4
          have T4 := Aside0.mk F4
          clear S4 F4
          have B5 := Aside0.mk S5
          have T5 := Aside0.mk F5
          clear S5 F5
          (try simp only [Act.put, List.setIfInBounds_toArray, List.set_cons_zero, List.set_cons_succ])
          try go_wp2
          refine texts_r6 (by rfl) kj4 t294 t295 u1 t296 g4 rfl B4.out T4.out t299 t300 u3 t301 g5 rfl B5.out T5.out t308 t309 t310 t306 t307 c26b.out (TabP.below HTB.out HB.out) A23.out A24.out A25.out A27.out A28.out ?_
          rintro w3 hb
          replace HB := Aside0.mk (below_step HB.out hb)
          clear hb
          (try simp only [Act.put, List.setIfInBounds_toArray, List.set_cons_zero, List.set_cons_succ])
          try go_wp2
          go_ret
          exact ⟨by first | rfl | (simp [errW_none, errW_some] <;> rfl) | (simp [*, errW_none, errW_some] <;> rfl), HB.out⟩
  · replace c4 := Bool.eq_false_iff.mpr c4
    subst c4
    have H1 : (none) = some r := by rw [if_neg (show ¬ (false = true) by decide)] at H; exact H
    exact absurd H1 (by simp)
end Go.Proofs.YtcchfblekaaalaaDoor.P
/- Chapter 4, plainly: the two Sames. -/
namespace Go.Proofs.YtcchfblekaaalaaDoor.Pure
open Go.RowKit Go.Proofs.YtcchfblekaaalaaDoor.P Go.Proofs.YtcchfblekaaalaaDoorW.PrintWords Go.Proofs.YtcchfblekaaalaaDoorW.PrintLast Go.Proofs.YtcchfblekaaalaaDoorW.PrintMore
set_option linter.unusedVariables false
/- the two Sames of terms that differ -/
mutual
theorem rsame_ne {B C : Int} : ∀ (t u : S29) (k : Nat), good B t → good C u → t ≠ u → 4 * size29 t ≤ k → thyrsusref4_Same.f k t.f0 t.f1 t.f2 u.f0 u.f1 u.f2 = some false
  | ⟨a, b, l⟩, ⟨a', b', l'⟩, k, hg, hg', hne, hk => by
    rw [size29] at hk
    obtain ⟨k, rfl⟩ : ∃ k', k = k' + 2 := ⟨k - 2, by omega⟩
    show thyrsusref4_Same.f (k + 2) a b l a' b' l' = _
    rw [thyrsusref4_Same.f]
    by_cases h1 : a = a'
    · rw [if_pos h1]
      by_cases h2 : b = b'
      · rw [if_pos h2, thyrsusref4_Same.j0]
        by_cases h3 : l.length = l'.length
        · rw [if_neg (by rw [h3]; simp)]
          exact rsame_nes (a := a) (b := b) (a' := a') (b' := b') l l' [] [] k l l' rfl rfl rfl hg.2.2.2 hg'.2.2.2 (by omega) hg.2.2.1 (fun h => hne (by rw [h1, h2, h])) (by omega)
        · rw [if_pos (by simp; omega)]
      · rw [if_neg h2, thyrsusref4_Same.j0, if_pos rfl]
    · rw [if_neg h1, thyrsusref4_Same.j0, if_pos rfl]
theorem rsame_nes {B C a b a' b' : Int} : ∀ (r r' pre pre' : List S29) (k : Nat) (l l' : List S29), l = pre ++ r → l' = pre' ++ r' → pre.length = pre'.length → goods B r → goods C r' → r.length = r'.length → l.length ≤ 1000000 → r ≠ r' → 1 + 4 * sizes29 r ≤ k →
    thyrsusref4_Same.l0 k (pre.length : Int) a b l a' b' l' = some false
  | [], [], pre, pre', k, l, l', hl, hl', hpp, hg, hg', hrr, hn, hne, hk => absurd rfl hne
  | [], y :: r', pre, pre', k, l, l', hl, hl', hpp, hg, hg', hrr, hn, hne, hk => by simp at hrr
  | x :: r, [], pre, pre', k, l, l', hl, hl', hpp, hg, hg', hrr, hn, hne, hk => by simp at hrr
  | x :: r, y :: r', pre, pre', k, l, l', hl, hl', hpp, hg, hg', hrr, hn, hne, hk => by
    rw [sizes29] at hk
    have hp := size_pos x
    rw [List.length_cons, List.length_cons] at hrr
    obtain ⟨k, rfl⟩ : ∃ k', k = k' + 1 := ⟨k - 1, by omega⟩
    have hlen : l.length = pre.length + (r.length + 1) := by rw [hl, List.length_append, List.length_cons]
    have hlen' : l'.length = pre'.length + (r'.length + 1) := by rw [hl', List.length_append, List.length_cons]
    have hx : rd_T29 l (pre.length : Int) = x := by
      rw [rd29 (show pre.length < l.length by omega)]
      subst hl
      simp
    have hy : rd_T29 l' (pre.length : Int) = y := by
      rw [hpp, rd29 (show pre'.length < l'.length by omega)]
      subst hl'
      simp
    rw [thyrsusref4_Same.l0, if_pos (by omega), if_pos (by omega), if_pos (by omega), hx, hy]
    by_cases h : x = y
    · have ih := rsame_nes (a := a) (b := b) (a' := a') (b' := b') r r' (pre ++ [x]) (pre' ++ [y]) k l l' (by rw [hl, List.append_assoc]; rfl) (by rw [hl', List.append_assoc]; rfl) (by rw [List.length_append, List.length_append, hpp]; rfl) hg.2 hg'.2 (by omega) hn (fun e => hne (by rw [h, e])) (by omega)
      rw [List.length_append, List.length_singleton] at ih
      rw [same_eq h hg.1 k (by omega), Option.bind_some, if_pos rfl, wrap_ok _ (by omega) (by omega), show (pre.length : Int) + 1 = ((pre.length + 1 : Nat) : Int) by omega, ih]
    · rw [rsame_ne x y k hg.1 hg'.1 h (by omega), Option.bind_some, if_neg (by decide)]
end
/-- Are they the same? -/
noncomputable def eqv {α : Type} (t u : α) : Bool := @decide (t = u) (Classical.propDecidable _)
theorem eqv_yes {α : Type} {t u : α} (h : t = u) : eqv t u = true := @decide_eq_true _ (Classical.propDecidable _) h
theorem eqv_no {α : Type} {t u : α} (h : t ≠ u) : eqv t u = false := @decide_eq_false _ (Classical.propDecidable _) h
theorem rsame_run {B C : Int} (t u : S29) (k : Nat) (hg : good B t) (hg' : good C u) (hk : 4 * size29 t ≤ k) : thyrsusref4_Same.f k t.f0 t.f1 t.f2 u.f0 u.f1 u.f2 = some (eqv t u) := by
  by_cases h : t = u
  · rw [same_eq h hg k hk, eqv_yes h]
  · rw [rsame_ne t u k hg hg' h hk, eqv_no h]
theorem sizes_len : ∀ l : List S29, l.length ≤ sizes29 l
  | [] => by simp [sizes29]
  | x :: l => by
    have h1 := size_pos x
    have h2 := sizes_len l
    rw [List.length_cons, sizes29]
    omega
mutual
theorem tsame_run {B C : Int} : ∀ (t u : S29) (k : Nat), good B t → good C u → 3 * size29 t ≤ k → term_Same.f k t.f0 t.f1 t.f2 u.f0 u.f1 u.f2 = some (eqv t u)
  | ⟨a, b, l⟩, ⟨a', b', l'⟩, k, hg, hg', hk => by
    rw [size29] at hk
    obtain ⟨k, rfl⟩ : ∃ k', k = k' + 1 := ⟨k - 1, by omega⟩
    show term_Same.f (k + 1) a b l a' b' l' = _
    rw [term_Same.f]
    have hsl := sizes_len l
    by_cases h1 : a = a'
    · rw [if_pos h1]
      by_cases h2 : b = b'
      · rw [if_pos h2, eqL.f]
        by_cases h3 : l.length = l'.length
        · have hlp := tsame_loop l l' [] [] k k l l' rfl rfl rfl hg.2.2.2 hg'.2.2.2 h3 hg.2.2.1 (by omega) (by omega)
          rw [List.length_nil] at hlp
          rw [if_pos (by omega)]
          refine hlp.trans ?_
          subst h1
          subst h2
          congr 1
          by_cases h4 : l = l'
          · subst h4
            rw [eqv_yes rfl, eqv_yes rfl]
          · rw [eqv_no h4, eqv_no (fun e => h4 (by injection e))]
        · rw [if_neg (by omega), eqv_no (fun e => h3 (by injection e with _ _ e3; rw [e3]))]
      · rw [if_neg h2, eqv_no (fun e => h2 (by injection e))]
    · rw [if_neg h1, eqv_no (fun e => h1 (by injection e))]
theorem tsame_loop {B C : Int} : ∀ (r r' pre pre' : List S29) (k j : Nat) (l l' : List S29), l = pre ++ r → l' = pre' ++ r' → pre.length = pre'.length → goods B r → goods C r' → r.length = r'.length → l.length ≤ 1000000 → 3 * sizes29 r ≤ k → 1 + r.length ≤ j →
    eqL.l0 (term_Same.f k) j l' l (l.length : Int) (pre.length : Int) = some (eqv r r')
  | [], [], pre, pre', k, j, l, l', hl, hl', hpp, hg, hg', hrr, hn, hk, hj => by
    obtain ⟨j, rfl⟩ : ∃ k', j = k' + 1 := ⟨j - 1, by omega⟩
    subst hl
    rw [eqL.l0, if_neg (by simp)]
    exact congrArg some (eqv_yes rfl).symm
  | [], y :: r', pre, pre', k, j, l, l', hl, hl', hpp, hg, hg', hrr, hn, hk, hj => by simp at hrr
  | x :: r, [], pre, pre', k, j, l, l', hl, hl', hpp, hg, hg', hrr, hn, hk, hj => by simp at hrr
  | x :: r, y :: r', pre, pre', k, j, l, l', hl, hl', hpp, hg, hg', hrr, hn, hk, hj => by
    rw [sizes29] at hk
    rw [List.length_cons] at hj
    have hp := size_pos x
    rw [List.length_cons, List.length_cons] at hrr
    obtain ⟨j, rfl⟩ : ∃ k', j = k' + 1 := ⟨j - 1, by omega⟩
    have hlen : l.length = pre.length + (r.length + 1) := by rw [hl, List.length_append, List.length_cons]
    have hlen' : l'.length = pre'.length + (r'.length + 1) := by rw [hl', List.length_append, List.length_cons]
    have hx : rd_T29 l (pre.length : Int) = x := by
      rw [rd29 (show pre.length < l.length by omega)]
      subst hl
      simp
    have hy : rd_T29 l' (pre.length : Int) = y := by
      rw [hpp, rd29 (show pre'.length < l'.length by omega)]
      subst hl'
      simp
    rw [eqL.l0, if_pos (by omega), if_pos (by omega), if_pos (by omega), if_pos (by omega), hx, hy, tsame_run x y k hg.1 hg'.1 (by omega), Option.bind_some]
    have ih := tsame_loop r r' (pre ++ [x]) (pre' ++ [y]) k j l l' (by rw [hl, List.append_assoc]; rfl) (by rw [hl', List.append_assoc]; rfl) (by rw [List.length_append, List.length_append, hpp]; rfl) hg.2 hg'.2 (by omega) hn (by omega) (by omega)
    rw [List.length_append, List.length_singleton] at ih
    by_cases h : x = y
    · subst h
      rw [eqv_yes rfl, if_pos rfl, wrap_ok _ (by omega) (by omega), show (pre.length : Int) + 1 = ((pre.length + 1 : Nat) : Int) by omega, ih]
      congr 1
      by_cases h4 : r = r'
      · subst h4
        rw [eqv_yes rfl, eqv_yes rfl]
      · rw [eqv_no h4, eqv_no (fun e => h4 (by injection e))]
    · rw [eqv_no h, if_neg (by decide), eqv_no (fun e => h (by injection e))]
end
end Go.Proofs.YtcchfblekaaalaaDoor.Pure
/- Chapter 4, plainly: the text of a term. -/
namespace Go.Proofs.YtcchfblekaaalaaDoor.Pure
open Go.RowKit Go.Proofs.YtcchfblekaaalaaDoor.P Go.Proofs.YtcchfblekaaalaaDoorW.PrintWords Go.Proofs.YtcchfblekaaalaaDoorW.PrintLast Go.Proofs.YtcchfblekaaalaaDoorW.PrintMore
set_option linter.unusedVariables false
/-- A row of bytes, as a string. -/
def bs (l : List UInt8) : ByteArray := ⟨l.toArray⟩
theorem bs_app (l m : List UInt8) : bs l ++ bs m = bs (l ++ m) := by
  apply ByteArray.ext
  simp [bs, ByteArray.data_append]
theorem bs_size (l : List UInt8) : (bs l).size = l.length := by
  show l.toArray.size = _
  simp
theorem bs_list (l : List UInt8) : (bs l).data.toList = l := by simp [bs]
def hdt (a b : Int) : List UInt8 := if a = 1 then 118 :: Lib.itoa b else if a = 2 then 85 :: Lib.itoa b else if a = 25 then 105 :: Lib.itoa b else if a = 26 then Lib.itoa a ++ 47 :: Lib.itoa b else Lib.itoa a
mutual
/-- The text of a term. -/
def txt : S29 → List UInt8
  | ⟨a, b, l⟩ => if l.length = 0 then hdt a b else 40 :: (hdt a b ++ (txts l ++ [41]))
def txts : List S29 → List UInt8
  | [] => []
  | x :: l => 32 :: (txt x ++ txts l)
end
theorem txts_snoc : ∀ (l : List S29) (x : S29), txts (l ++ [x]) = txts l ++ 32 :: txt x
  | [], x => by simp [txts]
  | y :: l, x => by rw [List.cons_append, txts, txts, txts_snoc l x, List.cons_append, List.append_assoc]
theorem dec_len : ∀ (d n : Nat), n < 10 ^ (d + 1) → (Lib.decDigits n).length ≤ d + 1 := by
  intro d
  induction d with
  | zero =>
    intro n hn
    rw [Lib.decDigits, dif_pos (by simpa using hn)]
    simp
  | succ d ih =>
    intro n hn
    rw [Lib.decDigits]
    by_cases h : n < 10
    · rw [dif_pos h]
      simp
    · rw [dif_neg h, List.length_append]
      have := ih (n / 10) (by rw [Nat.pow_succ] at hn; omega)
      simp only [List.length_cons, List.length_nil]
      omega
theorem itoa_len {n : Int} (h : -9223372036854775808 ≤ n ∧ n ≤ 9223372036854775807) : (Lib.itoa n).length ≤ 21 := by
  unfold Lib.itoa
  split
  · have := dec_len 19 n.natAbs (by omega)
    simp only [List.length_cons]
    omega
  · have := dec_len 19 n.toNat (by omega)
    omega
theorem hdt_len {a b : Int} (ha : -9223372036854775808 ≤ a ∧ a ≤ 9223372036854775807) (hb : -9223372036854775808 ≤ b ∧ b ≤ 9223372036854775807) : (hdt a b).length ≤ 43 := by
  have h1 := itoa_len ha
  have h2 := itoa_len hb
  unfold hdt
  repeat' split
  all_goals first | omega | (simp only [List.length_cons, List.length_append]; omega)
/- Of terms whose numbers are whole numbers of 64 bits -/
mutual
def nums : S29 → Prop
  | ⟨a, b, l⟩ => (-9223372036854775808 ≤ a ∧ a ≤ 9223372036854775807) ∧ (-9223372036854775808 ≤ b ∧ b ≤ 9223372036854775807) ∧ l.length ≤ 1000000 ∧ numss l
def numss : List S29 → Prop
  | [] => True
  | x :: l => nums x ∧ numss l
end
mutual
theorem txt_len : ∀ t : S29, nums t → (txt t).length + 10 ≤ 60 * size29 t
  | ⟨a, b, l⟩, h => by
    have h1 := hdt_len h.1 h.2.1
    rw [txt, size29]
    split
    · omega
    · have h2 := txts_len l h.2.2.2
      simp only [List.length_cons, List.length_append, List.length_nil]
      omega
theorem txts_len : ∀ l : List S29, numss l → (txts l).length ≤ 60 * sizes29 l
  | [], _ => by simp [txts]
  | x :: l, h => by
    have h1 := txt_len x h.1
    have h2 := txts_len l h.2
    rw [txts, sizes29]
    simp only [List.length_cons, List.length_append]
    omega
end
theorem itoaA {n : Int} (h : -9223372036854775808 ≤ n ∧ n ≤ 9223372036854775807) : strconv_ItoaA.f n = some (bs (Lib.itoa n)) := by
  unfold strconv_ItoaA.f
  rw [if_pos h]
  rfl
theorem signE {a b : Int} (ha : -9223372036854775808 ≤ a ∧ a ≤ 9223372036854775807) (hb : -9223372036854775808 ≤ b ∧ b ≤ 9223372036854775807) (l : List S29) : term_signA.f a b l = some (bs (hdt a b)) := by
  have h1 := itoa_len ha
  have h2 := itoa_len hb
  have e1 : ∀ c : UInt8, (⟨#[c]⟩ : ByteArray) = bs [c] := fun _ => rfl
  unfold term_signA.f hdt
  rw [itoaA hb, Option.bind_some]
  by_cases c1 : a = 1
  · rw [if_pos c1, if_pos c1, if_pos (by rw [bs_size]; omega), e1, bs_app]
    rfl
  · rw [if_neg c1, if_neg c1]
    by_cases c2 : a = 2
    · rw [if_pos c2, if_pos c2, if_pos (by rw [bs_size]; omega), e1, bs_app]
      rfl
    · rw [if_neg c2, if_neg c2]
      by_cases c3 : a = 25
      · rw [if_pos c3, if_pos c3, if_pos (by rw [bs_size]; omega), e1, bs_app]
        rfl
      · rw [if_neg c3, if_neg c3, itoaA ha, Option.bind_some, Option.bind_some]
        by_cases c4 : a = 26
        · rw [if_pos c4, if_pos c4, if_pos (by rw [bs_size]; omega), e1, bs_app, if_pos (by rw [bs_size, bs_size, List.length_append]; simp only [List.length_cons, List.length_nil]; omega), bs_app, List.append_assoc]
          rfl
        · rw [if_neg c4, if_neg c4]
theorem tail_eq : ∀ l : List S29, Lib.joinTail [32] (l.map txt) = txts l
  | [] => by rw [txts]; rfl
  | x :: l => by
    have := tail_eq l
    unfold Lib.joinTail at this ⊢
    rw [List.map_cons, List.map_cons, List.flatten_cons, this, txts]
    rfl
theorem joinE {h : List UInt8} {l : List S29} (hl : l.length ≤ 1000000) (hh : h.length ≤ 1000) (hs : (txts l).length ≤ 100000000000) : strings_Join.f (bs h :: l.map (fun x => bs (txt x))) (⟨#[32]⟩ : ByteArray) = some (bs (h ++ txts l)) := by
  have e : ((bs h :: l.map (fun x => bs (txt x))).map (·.data.toList)) = h :: l.map txt := by
    rw [List.map_cons, List.map_map]
    exact congr (congrArg List.cons (bs_list h)) (List.map_congr_left fun x _ => bs_list (txt x))
  have e2 : (⟨#[32]⟩ : ByteArray).data.toList = [32] := rfl
  unfold strings_Join.f
  rw [e, e2, Lib.join_cons, tail_eq, if_pos]
  · rfl
  · rw [List.length_cons, List.length_map, List.length_append]
    omega
mutual
theorem text_run : ∀ (t : S29) (k : Nat), nums t → size29 t ≤ 1000000000 → 3 * size29 t ≤ k → term_TextA.f k t.f0 t.f1 t.f2 = some (bs (txt t))
  | ⟨a, b, l⟩, k, hg, hs, hk => by
    rw [size29] at hk hs
    obtain ⟨k, rfl⟩ : ∃ k', k = k' + 1 := ⟨k - 1, by omega⟩
    show term_TextA.f (k + 1) a b l = _
    rw [term_TextA.f, signE hg.1 hg.2.1, Option.bind_some, Option.bind_some, txt]
    by_cases h : l.length = 0
    · rw [if_pos (by omega), if_pos h]
    · rw [if_neg (by omega), if_neg h]
      exact text_loop (a := a) (b := b) hg.1 hg.2.1 l [] k l rfl hg.2.2.2 (by simpa using hg.2.2.2) hg.2.2.1 (by omega) (by omega)
theorem text_loop {a b : Int} (ha : -9223372036854775808 ≤ a ∧ a ≤ 9223372036854775807) (hb : -9223372036854775808 ≤ b ∧ b ≤ 9223372036854775807) : ∀ (r pre : List S29) (k : Nat) (l : List S29), l = pre ++ r → numss r → numss l → l.length ≤ 1000000 → sizes29 l ≤ 1000000000 → 1 + 3 * sizes29 r ≤ k →
    term_TextA.l0 k (bs (hdt a b) :: pre.map (fun x => bs (txt x))) l (l.length : Int) (pre.length : Int) = some (bs (40 :: (hdt a b ++ (txts l ++ [41]))))
  | [], pre, k, l, hl, hg, hgl, hn, hs, hk => by
    obtain ⟨k, rfl⟩ : ∃ k', k = k' + 1 := ⟨k - 1, by omega⟩
    rw [List.append_nil] at hl
    subst hl
    have h1 := txts_len l hgl
    have h2 := hdt_len ha hb
    have e1 : ∀ c : UInt8, (⟨#[c]⟩ : ByteArray) = bs [c] := fun _ => rfl
    rw [term_TextA.l0, if_neg (by simp), joinE hn (by omega) (by omega), Option.bind_some, if_pos (by rw [bs_size, List.length_append]; omega), e1 40, bs_app, if_pos (by rw [bs_size]; simp only [List.length_cons, List.length_append, List.length_nil]; omega), e1 41, bs_app]
    simp [List.append_assoc]
  | x :: r, pre, k, l, hl, hg, hgl, hn, hs, hk => by
    rw [sizes29] at hk
    have hp := size_pos x
    obtain ⟨k, rfl⟩ : ∃ k', k = k' + 1 := ⟨k - 1, by omega⟩
    have hlen : l.length = pre.length + (r.length + 1) := by rw [hl, List.length_append, List.length_cons]
    have hx : rd_T29 l (pre.length : Int) = x := by
      rw [rd29 (show pre.length < l.length by omega)]
      subst hl
      simp
    have hsx : size29 x ≤ sizes29 l := by
      rw [hl]
      exact size_mid pre x r
    have ih := text_loop (a := a) (b := b) ha hb r (pre ++ [x]) k l (by rw [hl, List.append_assoc]; rfl) hg.2 hgl hn hs (by omega)
    rw [List.length_append, List.length_singleton, List.map_append] at ih
    rw [term_TextA.l0, if_pos (by omega), if_pos (by omega), if_pos (by omega), hx, text_run x k hg.1 (by omega) (by omega), Option.bind_some, if_pos (by rw [List.length_cons, List.length_map]; omega), wrap_ok _ (by omega) (by omega), show (pre.length : Int) + 1 = ((pre.length + 1 : Nat) : Int) by omega]
    exact ih
theorem size_mid : ∀ (pre : List S29) (x : S29) (r : List S29), size29 x ≤ sizes29 (pre ++ x :: r)
  | [], x, r => by rw [List.nil_append, sizes29]; omega
  | y :: pre, x, r => by
    have := size_mid pre x r
    rw [List.cons_append, sizes29]
    omega
end
/- what Make makes has such numbers -/
mutual
theorem mk_nums : ∀ (t : S29) {v : Int}, mk v t → v + 2 * deep29 t ≤ 1000000 → nums t
  | ⟨a, b, l⟩, v, ⟨h1, h2, h3, h4⟩, hd => by
    rw [deep29] at hd
    have hk := kids_le h1
    unfold numM at h3
    refine ⟨by omega, ?_, by omega, mks_nums l h4 (by omega)⟩
    repeat' split at h3
    all_goals omega
theorem mks_nums : ∀ (l : List S29) {v a : Int} {i : Nat}, mks v a i l → v + 2 + 2 * deeps29 l ≤ 1000000 → numss l
  | [], v, a, i, _, _ => trivial
  | x :: l, v, a, i, ⟨h1, h2⟩, hd => by
    rw [deeps29] at hd
    have hb := bnd_range a (i : Int)
    exact ⟨mk_nums x h1 (by omega), mks_nums l h2 (by omega)⟩
end
end Go.Proofs.YtcchfblekaaalaaDoor.Pure
/- TermTexts, the plain law: the texts of made terms tell the terms apart. -/
namespace Go.Proofs.YtcchfblekaaalaaDoor.Pure
open Go.RowKit Go.Proofs.YtcchfblekaaalaaDoor.P Go.Proofs.YtcchfblekaaalaaDoorW.PrintWords Go.Proofs.YtcchfblekaaalaaDoorW.PrintLast Go.Proofs.YtcchfblekaaalaaDoorW.PrintMore
set_option linter.unusedVariables false
/-- A digit. -/
def isD (c : UInt8) : Prop := 48 ≤ c.toNat ∧ c.toNat ≤ 57
/-- No digit stands ahead. -/
def nd (x : List UInt8) : Prop := ∀ c, x.head? = some c → ¬ isD c
theorem span_eq {P : UInt8 → Prop} : ∀ (l m x y : List UInt8), (∀ c ∈ l, P c) → (∀ c ∈ m, P c) → (∀ c, x.head? = some c → ¬ P c) → (∀ c, y.head? = some c → ¬ P c) → l ++ x = m ++ y → l = m ∧ x = y
  | [], [], x, y, hl, hm, hx, hy, h => ⟨rfl, h⟩
  | [], d :: m, x, y, hl, hm, hx, hy, h => by
    have h' : x = d :: (m ++ y) := h
    exact absurd (hm d (by simp)) (hx d (by rw [h']; rfl))
  | c :: l, [], x, y, hl, hm, hx, hy, h => by
    have h' : y = c :: (l ++ x) := h.symm
    exact absurd (hl c (by simp)) (hy c (by rw [h']; rfl))
  | c :: l, d :: m, x, y, hl, hm, hx, hy, h => by
    injection h with h1 h2
    obtain ⟨e1, e2⟩ := span_eq l m x y (fun c hc => hl c (by simp [hc])) (fun c hc => hm c (by simp [hc])) hx hy h2
    exact ⟨by rw [h1, e1], e2⟩
def val (l : List UInt8) : Nat := l.foldl (fun a c => a * 10 + (c.toNat - 48)) 0
theorem toN {n : Nat} (h : n < 10) : (UInt8.ofNat (48 + n)).toNat = 48 + n := by
  rw [UInt8.toNat_ofNat']
  omega
theorem dec_val : ∀ n : Nat, val (Lib.decDigits n) = n := by
  intro n
  induction n using Nat.strongRecOn with
  | _ n ih =>
    by_cases h : n < 10
    · rw [Lib.decDigits, dif_pos h]
      show 0 * 10 + ((UInt8.ofNat (48 + n)).toNat - 48) = n
      rw [toN h]
      omega
    · rw [Lib.decDigits, dif_neg h]
      have e := ih (n / 10) (by omega)
      unfold val at e ⊢
      rw [List.foldl_append, e]
      show n / 10 * 10 + ((UInt8.ofNat (48 + n % 10)).toNat - 48) = n
      rw [toN (by omega)]
      omega
theorem dec_all : ∀ n : Nat, (∀ c ∈ Lib.decDigits n, isD c) ∧ Lib.decDigits n ≠ [] := by
  intro n
  induction n using Nat.strongRecOn with
  | _ n ih =>
    by_cases h : n < 10
    · rw [Lib.decDigits, dif_pos h]
      refine ⟨fun c hc => ?_, by simp⟩
      obtain rfl : c = UInt8.ofNat (48 + n) := by simpa using hc
      unfold isD
      rw [toN h]
      omega
    · rw [Lib.decDigits, dif_neg h]
      obtain ⟨e1, e2⟩ := ih (n / 10) (by omega)
      refine ⟨fun c hc => ?_, by simp⟩
      rcases List.mem_append.mp hc with hc | hc
      · exact e1 c hc
      · obtain rfl : c = UInt8.ofNat (48 + n % 10) := by simpa using hc
        unfold isD
        rw [toN (by omega)]
        omega
theorem dec_split {n m : Nat} {x y : List UInt8} (hx : nd x) (hy : nd y) (h : Lib.decDigits n ++ x = Lib.decDigits m ++ y) : n = m ∧ x = y := by
  obtain ⟨e1, e2⟩ := span_eq (P := isD) _ _ x y (dec_all n).1 (dec_all m).1 hx hy h
  refine ⟨?_, e2⟩
  have := congrArg val e1
  rwa [dec_val, dec_val] at this
theorem itoa_head (n : Int) (x : List UInt8) : ∃ c r, Lib.itoa n ++ x = c :: r ∧ (isD c ∨ c = 45) := by
  unfold Lib.itoa
  split
  · exact ⟨45, _, rfl, .inr rfl⟩
  · obtain ⟨e1, e2⟩ := dec_all n.toNat
    cases h : Lib.decDigits n.toNat with
    | nil => exact absurd h e2
    | cons c r => exact ⟨c, r ++ x, rfl, .inl (e1 c (by rw [h]; simp))⟩
theorem not_d45 : ¬ isD 45 := by
  unfold isD
  decide
theorem itoa_split {n m : Int} {x y : List UInt8} (hx : nd x) (hy : nd y) (h : Lib.itoa n ++ x = Lib.itoa m ++ y) : n = m ∧ x = y := by
  have pos : ∀ (k : Nat) (z : List UInt8) (w : List UInt8), Lib.decDigits k ++ z ≠ 45 :: w := fun k z w e => by
    obtain ⟨e1, e2⟩ := dec_all k
    cases hk : Lib.decDigits k with
    | nil => exact e2 hk
    | cons c r =>
      rw [hk] at e
      injection e with e3
      exact not_d45 (e3 ▸ e1 c (by rw [hk]; simp))
  unfold Lib.itoa at h
  split at h
  · split at h
    · injection h with _ h
      obtain ⟨e1, e2⟩ := dec_split hx hy h
      exact ⟨by omega, e2⟩
    · exact absurd h.symm (pos _ _ _)
  · split at h
    · exact absurd h (pos _ _ _)
    · obtain ⟨e1, e2⟩ := dec_split hx hy h
      exact ⟨by omega, e2⟩
/-- What stands behind a term's text: nothing, a blank, a closing bracket. -/
def dl (x : List UInt8) : Prop := x = [] ∨ (∃ r, x = 32 :: r) ∨ ∃ r, x = 41 :: r
theorem dl_nd {x : List UInt8} (h : dl x) : nd x := by
  intro c hc
  rcases h with rfl | ⟨r, rfl⟩ | ⟨r, rfl⟩
  · cases hc
  · cases hc
    unfold isD
    decide
  · cases hc
    unfold isD
    decide
theorem dl_47 {x : List UInt8} (h : dl x) (r : List UInt8) : x ≠ 47 :: r := by
  rcases h with rfl | ⟨r, rfl⟩ | ⟨r, rfl⟩ <;> simp
theorem nd_47 (r : List UInt8) : nd (47 :: r) := by
  intro c hc
  cases hc
  unfold isD
  decide
/-- The heads of texts of terms. -/
theorem hdt_head (a b : Int) (h : 1 ≤ a) (x : List UInt8) : ∃ c r, hdt a b ++ x = c :: r ∧ c ≠ 40 := by
  unfold hdt
  split
  · exact ⟨118, _, rfl, by decide⟩
  · split
    · exact ⟨85, _, rfl, by decide⟩
    · split
      · exact ⟨105, _, rfl, by decide⟩
      · have n40 : ∀ c : UInt8, isD c ∨ c = 45 → c ≠ 40 := by
          rintro c (h | h) e
          · unfold isD at h
            rw [e] at h
            revert h
            decide
          · rw [h] at e
            revert e
            decide
        split
        · obtain ⟨c, r, e, hc⟩ := itoa_head a (47 :: Lib.itoa b ++ x)
          exact ⟨c, r, by rw [List.append_assoc]; exact e, n40 c hc⟩
        · obtain ⟨c, r, e, hc⟩ := itoa_head a x
          exact ⟨c, r, e, n40 c hc⟩
/-- Which kind a head is: by its first letter. -/
def kindOf (a : Int) : Nat := if a = 1 then 118 else if a = 2 then 85 else if a = 25 then 105 else 0
theorem hdt_kind (a b : Int) (h : 1 ≤ a) (x : List UInt8) : ∃ c r, hdt a b ++ x = c :: r ∧ (kindOf a ≠ 0 → c.toNat = kindOf a ∧ r = Lib.itoa b ++ x) ∧ (kindOf a = 0 → isD c) := by
  unfold hdt kindOf
  by_cases c1 : a = 1
  · rw [if_pos c1, if_pos c1]
    exact ⟨118, _, rfl, fun _ => ⟨rfl, rfl⟩, fun h => by cases h⟩
  · rw [if_neg c1, if_neg c1]
    by_cases c2 : a = 2
    · rw [if_pos c2, if_pos c2]
      exact ⟨85, _, rfl, fun _ => ⟨rfl, rfl⟩, fun h => by cases h⟩
    · rw [if_neg c2, if_neg c2]
      by_cases c3 : a = 25
      · rw [if_pos c3, if_pos c3]
        exact ⟨105, _, rfl, fun _ => ⟨rfl, rfl⟩, fun h => by cases h⟩
      · rw [if_neg c3, if_neg c3]
        have hp : ∀ z : List UInt8, ∃ c r, Lib.itoa a ++ z = c :: r ∧ isD c := fun z => by
          unfold Lib.itoa
          rw [if_neg (by omega)]
          obtain ⟨e1, e2⟩ := dec_all a.toNat
          cases h : Lib.decDigits a.toNat with
          | nil => exact absurd h e2
          | cons c r => exact ⟨c, r ++ z, rfl, e1 c (by rw [h]; simp)⟩
        by_cases c4 : a = 26
        · rw [if_pos c4]
          obtain ⟨c, r, e, hc⟩ := hp (47 :: Lib.itoa b ++ x)
          exact ⟨c, r, by rw [List.append_assoc]; exact e, fun h => absurd rfl h, fun _ => hc⟩
        · rw [if_neg c4]
          obtain ⟨c, r, e, hc⟩ := hp x
          exact ⟨c, r, e, fun h => absurd rfl h, fun _ => hc⟩
theorem hdt_split {a b a' b' v v' : Int} {x y : List UInt8} (ha : 1 ≤ a ∧ a ≤ 30) (ha' : 1 ≤ a' ∧ a' ≤ 30) (hb : numM v a b) (hb' : numM v' a' b') (hx : dl x) (hy : dl y) (h : hdt a b ++ x = hdt a' b' ++ y) : a = a' ∧ b = b' ∧ x = y := by
  obtain ⟨c, r, e, k1, k2⟩ := hdt_kind a b ha.1 x
  obtain ⟨c', r', e', k1', k2'⟩ := hdt_kind a' b' ha'.1 y
  have hh : c :: r = c' :: r' := e.symm.trans (h.trans e')
  injection hh with hc hr
  subst hc
  subst hr
  have notd : ∀ a : Int, kindOf a ≠ 0 → ∀ c : UInt8, c.toNat = kindOf a → ¬ isD c := fun a hk c hc hd => by
    unfold isD at hd
    rw [hc] at hd
    unfold kindOf at hd hk
    revert hd hk
    repeat' split
    all_goals simp
  by_cases hk : kindOf a = 0
  · have hk' : kindOf a' = 0 := Decidable.byContradiction fun hn => notd a' hn c (k1' hn).1 (k2 hk)
    have n1 : ∀ {a : Int}, kindOf a = 0 → a ≠ 1 ∧ a ≠ 2 ∧ a ≠ 25 := fun {a} h => by
      unfold kindOf at h
      refine ⟨fun e => ?_, fun e => ?_, fun e => ?_⟩ <;> subst e <;> simp at h
    obtain ⟨p1, p2, p3⟩ := n1 hk
    obtain ⟨q1, q2, q3⟩ := n1 hk'
    unfold hdt at h
    rw [if_neg p1, if_neg p2, if_neg p3, if_neg q1, if_neg q2, if_neg q3] at h
    unfold numM at hb hb'
    rw [if_neg p1, if_neg p2] at hb
    rw [if_neg q1, if_neg q2] at hb'
    by_cases c4 : a = 26
    · rw [if_pos c4] at h
      by_cases c4' : a' = 26
      · rw [if_pos c4', List.append_assoc, List.append_assoc] at h
        obtain ⟨e1, e2⟩ := itoa_split (nd_47 _) (nd_47 _) h
        injection e2 with _ e2
        obtain ⟨e3, e4⟩ := itoa_split (dl_nd hx) (dl_nd hy) e2
        exact ⟨e1, e3, e4⟩
      · rw [if_neg c4', List.append_assoc] at h
        obtain ⟨e1, e2⟩ := itoa_split (nd_47 _) (dl_nd hy) h
        exact absurd e2.symm (dl_47 hy _)
    · rw [if_neg c4] at h
      by_cases c4' : a' = 26
      · rw [if_pos c4', List.append_assoc] at h
        obtain ⟨e1, e2⟩ := itoa_split (dl_nd hx) (nd_47 _) h
        exact absurd e2 (dl_47 hx _)
      · rw [if_neg c4'] at h
        obtain ⟨e1, e2⟩ := itoa_split (dl_nd hx) (dl_nd hy) h
        rw [if_neg c4, if_neg p3] at hb
        rw [if_neg c4', if_neg q3] at hb'
        exact ⟨e1, by rw [hb, hb'], e2⟩
  · have hk' : kindOf a' ≠ 0 := fun hn => notd a hk c (k1 hk).1 (k2' hn)
    obtain ⟨e1, e2⟩ := k1 hk
    obtain ⟨e3, e4⟩ := k1' hk'
    obtain ⟨e5, e6⟩ := itoa_split (dl_nd hx) (dl_nd hy) (e2.symm.trans e4)
    refine ⟨?_, e5, e6⟩
    have e7 : kindOf a = kindOf a' := e1.symm.trans e3
    unfold kindOf at e7 hk hk'
    revert e7 hk hk'
    repeat' split
    all_goals intro h1 h2 h3
    all_goals first | omega | contradiction
theorem txts_dl : ∀ (l : List S29) (x : List UInt8), dl (txts l ++ 41 :: x)
  | [], x => by
    rw [txts]
    exact .inr (.inr ⟨x, rfl⟩)
  | t :: l, x => by
    rw [txts]
    exact .inr (.inl ⟨_, rfl⟩)
mutual
theorem txt_inj : ∀ (t u : S29) {v v' : Int} {x y : List UInt8}, mk v t → mk v' u → dl x → dl y → txt t ++ x = txt u ++ y → t = u ∧ x = y
  | ⟨a, b, l⟩, ⟨a', b', l'⟩, v, v', x, y, ⟨h1, h2, h3, h4⟩, ⟨h1', h2', h3', h4'⟩, hx, hy, h => by
    rw [txt, txt] at h
    by_cases hl : l.length = 0
    · rw [if_pos hl] at h
      by_cases hl' : l'.length = 0
      · rw [if_pos hl'] at h
        obtain ⟨e1, e2, e3⟩ := hdt_split h1 h1' h3 h3' hx hy h
        subst e1
        subst e2
        obtain rfl := List.eq_nil_of_length_eq_zero hl
        obtain rfl := List.eq_nil_of_length_eq_zero hl'
        exact ⟨rfl, e3⟩
      · rw [if_neg hl'] at h
        obtain ⟨c, r, e, hc⟩ := hdt_head a b h1.1 x
        have := e.symm.trans h
        injection this with h5 _
        exact absurd h5 hc
    · rw [if_neg hl] at h
      by_cases hl' : l'.length = 0
      · rw [if_pos hl'] at h
        obtain ⟨c, r, e, hc⟩ := hdt_head a' b' h1'.1 y
        have := e.symm.trans h.symm
        injection this with h5 _
        exact absurd h5 hc
      · rw [if_neg hl'] at h
        rw [List.cons_append, List.cons_append] at h
        injection h with _ h
        rw [List.append_assoc, List.append_assoc, List.append_assoc, List.append_assoc] at h
        obtain ⟨e1, e2, e3⟩ := hdt_split h1 h1' h3 h3' (txts_dl l _) (txts_dl l' _) h
        subst e1
        subst e2
        have hll : l.length = l'.length := by omega
        obtain ⟨e4, e5⟩ := txts_inj l l' hll h4 h4' e3
        subst e4
        exact ⟨rfl, e5⟩
theorem txts_inj : ∀ (l l' : List S29) {v v' a : Int} {i : Nat} {x y : List UInt8}, l.length = l'.length → mks v a i l → mks v' a i l' → txts l ++ 41 :: x = txts l' ++ 41 :: y → l = l' ∧ x = y
  | [], [], v, v', a, i, x, y, hll, h, h', e => by
    rw [txts] at e
    injection e with _ e
    exact ⟨rfl, e⟩
  | [], u :: l', v, v', a, i, x, y, hll, h, h', e => by simp at hll
  | t :: l, [], v, v', a, i, x, y, hll, h, h', e => by simp at hll
  | t :: l, u :: l', v, v', a, i, x, y, hll, ⟨h1, h2⟩, ⟨h1', h2'⟩, e => by
    rw [txts, txts, List.cons_append, List.cons_append] at e
    injection e with _ e
    rw [List.append_assoc, List.append_assoc] at e
    obtain ⟨e1, e2⟩ := txt_inj t u h1 h1' (txts_dl l _) (txts_dl l' _) e
    subst e1
    obtain ⟨e3, e4⟩ := txts_inj l l' (by simpa using hll) h2 h2' e2
    subst e3
    exact ⟨rfl, e4⟩
end
theorem mkT {x : S24} (hx : WF24 x) (n : Nat) (vars : Int) (hn : n ≤ 6) (hv : 0 ≤ vars) (hv2 : vars ≤ 100) :
    ∃ t : S29, Ev (fun k => thyrsuslaw1_Make.f k x.f0 x.f1 x.f2 (n : Int) vars) (t.f0, t.f1, t.f2) ∧ good 1000 t ∧ deep29 t ≤ 11 ∧ size29 t ≤ 100000 ∧ nums t ∧ mk vars t := by
  obtain ⟨t, h1, h2, h3, h4⟩ := make2_all n x hx (n : Int) vars (Int.le_refl _) (by omega) hv (by omega) (by omega)
  have hc : cap n ≤ 100000 := by
    have : n = 0 ∨ n = 1 ∨ n = 2 ∨ n = 3 ∨ n = 4 ∨ n = 5 ∨ n = 6 := by omega
    rcases this with rfl | rfl | rfl | rfl | rfl | rfl | rfl <;> decide
  exact ⟨t, h1, mk_good (by omega) t h2 (by omega), by omega, by omega, mk_nums t h2 (by omega), h2⟩
theorem bs_eqv {t u : S29} {v v' : Int} (h : mk v t) (h' : mk v' u) : ((bs (txt t)).toList == (bs (txt u)).toList) = eqv t u := by
  rw [ByteArray.toList_eq, ByteArray.toList_eq, bs_list, bs_list]
  by_cases e : t = u
  · rw [eqv_yes e, e, beq_self_eq_true]
  · rw [eqv_no e]
    refine beq_eq_false_iff_ne.mpr fun e2 => e (txt_inj t u (x := []) (y := []) h h' (.inl rfl) (.inl rfl) (by rw [e2])).1
theorem TermTexts {x y : S24} (hx : WF24 x) (hy : WF24 y) :
    Ev (fun k => thyrsuslaw4_TermTexts.f k x.f0 x.f1 x.f2 y.f0 y.f1 y.f2) true := by
  unfold thyrsuslaw4_TermTexts.f
  refine Ev.bind ⟨10, fun k hk => known_k hk⟩ ?_
  simp only [if_true]
  obtain ⟨c1, e1, _⟩ := few_ev hx
  refine Ev.bind e1 ?_
  have out : ∀ c : Bool, Ev (fun k => thyrsuslaw4_TermTexts.j0 k c x.f0 x.f1 x.f2 y.f0 y.f1 y.f2) true := by
    intro c
    cases c with
    | true => exact Ev.step (f := fun k => some true) (fun k => by simp only [thyrsuslaw4_TermTexts.j0, if_true]) (Ev.now _)
    | false =>
      obtain ⟨t, m1, g1, d1, s1, q1, k1⟩ := mkT hx 5 3 (by omega) (by omega) (by omega)
      obtain ⟨u, m2, g2, d2, s2, q2, k2⟩ := mkT hy 5 3 (by omega) (by omega) (by omega)
      have r1 : Ev (fun k => term_TextA.f k t.f0 t.f1 t.f2) (bs (txt t)) := ⟨_, fun k hk => text_run t k q1 (by omega) hk⟩
      have r2 : Ev (fun k => term_TextA.f k u.f0 u.f1 u.f2) (bs (txt u)) := ⟨_, fun k hk => text_run u k q2 (by omega) hk⟩
      have r15 : Ev (fun k => term_Same.f k t.f0 t.f1 t.f2 u.f0 u.f1 u.f2) (eqv t u) := ⟨_, fun k hk => tsame_run t u k g1 g2 hk⟩
      have r16 : Ev (fun k => thyrsusref4_Same.f k t.f0 t.f1 t.f2 u.f0 u.f1 u.f2) (eqv t u) := ⟨_, fun k hk => rsame_run t u k g1 g2 hk⟩
      refine Ev.step (fun k => by simp only [thyrsuslaw4_TermTexts.j0, Bool.false_eq_true, if_false]; rfl) ?_
      refine Ev.bind m1 (Ev.bind m2 (Ev.bind r1 (Ev.bind r2 (Ev.bind r16 ?_))))
      simp only [bs_eqv k1 k2, beq_self_eq_true, if_true]
      refine Ev.bind r15 (Ev.bind r16 ?_)
      simp only [beq_self_eq_true]
      exact Ev.now _
  cases c1 with
  | true =>
    simp only [if_true]
    obtain ⟨c2, e2, _⟩ := few_ev hy
    exact Ev.bind e2 (out (!c2))
  | false =>
    simp only [Bool.false_eq_true, if_false]
    exact out true
end Go.Proofs.YtcchfblekaaalaaDoor.Pure
namespace Go.Proofs.YtcchfblekaaalaaDoor.P
open Go.RowKit Go.Proofs.YtcchfblekaaalaaDoorW.PrintWords Go.Proofs.YtcchfblekaaalaaDoorW.PrintLast Go.Proofs.YtcchfblekaaalaaDoorW.PrintMore
theorem termTexts_walk (x0 : S24) (A0 : Option Addr) (c0 : Nat) {W : World} (hl0 : x0.f2.length ≤ c0) (hC0 : Kd.C k24 W A0 x0.f2.length x0.f2) (wf0 : WF24 x0) (x1 : S24) (A1 : Option Addr) (c1 : Nat) (hl1 : x1.f2.length ≤ c1) (hC1 : Kd.C k24 W A1 x1.f2.length x1.f2) (wf1 : WF24 x1) (hT : TabP W) :
    Calls Tryd.prog 3 #[.agg #[.int .i64 x0.f0, .int .i64 x0.f1, .slice A0 x0.f2.length c0], .agg #[.int .i64 x1.f0, .int .i64 x1.f1, .slice A1 x1.f2.length c1]] W fun e w' => e = .returned (.bool true) ∧ Below W.heap.size W w' := by
  obtain ⟨k, h⟩ := (Pure.TermTexts wf0 wf1).rounds
  exact thyrsuslaw4_TermTexts.calls k x0.f0 x0.f1 A0 c0 x0.f2 x1.f0 x1.f1 A1 c1 x1.f2 true W hT hC0 hl0 hC1 hl1 h
end Go.Proofs.YtcchfblekaaalaaDoor.P
/- The rows' condition on listed variables, for strconv's table of powers of ten. -/
namespace Go.Proofs.YtcchfblekaaalaaDoor.P
theorem tabP_of {W : World} (h : laidMetH Tryd.prog Rows.termMovesRow.laid W) : TabP W := by
  have h' : laidMet Tryd.prog Rows.termMovesRow.laid W := h
  obtain ⟨ps, ⟨g1, t1, c1, f1, p1, q1, _, _, _, _, ⟨g2, t2, c2, f2, p2, q2, _, _, _, _, ⟨g, t, cs, fuel, p, q, hg, ht, hvar, hd, _, _⟩, _⟩, _⟩, _⟩ := h'
  have hg1 : Tryd.prog.globalNamed "internal/strconv.uint64pow10" = some 1 := by kernel_rfl
  obtain rfl := Option.some.inj (hg1.symm.trans hg)
  have ht1 : (Tryd.prog.globals[1]?).map (·.type) = some 98 := by kernel_rfl
  obtain rfl := Option.some.inj (ht1.symm.trans ht)
  have e := Lib.cells_of_tab (n := 20) (k := .u64) (zs := Lib.pow10Tab) Tryd.underlying98 Tryd.underlying92 (by kernel_rfl) (by kernel_rfl) hd
  unfold TabP Lib.TabIs
  rw [hvar, ← e]
end Go.Proofs.YtcchfblekaaalaaDoor.P
