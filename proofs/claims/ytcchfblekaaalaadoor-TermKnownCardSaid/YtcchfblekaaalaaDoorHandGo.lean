/- Calls over terms, told by one relation: TV w G v ks: v is a row of terms ks, read in w; none of its blocks is in G (the boxes that may still be written). For walks of drawn regions by one relation. -/
import Derived.Test.YtcchfblekaaalaaDoorQx3
import Derived.Test.YtcchfblekaaalaaDoorQx6
import Derived.Test.YtcchfblekaaalaaDoorHandShift
import Derived.Test.YtcchfblekaaalaaDoorHandSubst
namespace Go.Proofs.YtcchfblekaaalaaDoor.P
open Go.RowKit Go.Proofs.YtcchfblekaaalaaDoorW.PrintWords Go.Proofs.YtcchfblekaaalaaDoorW.PrintLast Go.Proofs.YtcchfblekaaalaaDoorW.PrintMore
set_option linter.unusedVariables false
def TV (w : World) (G : Nat → Prop) (v : Value) (ks : List S29) : Prop := Kd.V k29 29 w 0 (fun k_ => ¬ G k_) v ks
section
variable {w w' W : World} {G G' ok : Nat → Prop} {v : Value} {ks : List S29} {g j n : Nat}
theorem TV.below (h : TV w G v ks) (hb : Below w.heap.size w w') (hG : ∀ k, G' k → G k ∨ w.heap.size ≤ k) : TV w' G' v ks :=
  Kd.V_mono (Kd.V_below (Kd.V_bound h) hb) (fun k hk h' => (hG k h').elim hk.1 (fun hle => by have := hk.2; omega))
theorem TV.old (h : TV W (fun _ => False) v ks) (hb : Below W.heap.size W w') (hG : ∀ k, G k → W.heap.size ≤ k) : TV w' G v ks := h.below hb (fun k hk => .inr (hG k hk))
theorem TV.step (h : TV w G v ks) (hb : Below w.heap.size w w') : TV w' G v ks := h.below hb (fun _ hk => .inl hk)
theorem TV.set (h : TV w G v ks) (hg : G g) (u : Value) : TV (w.setCell ⟨g, j, none⟩ u) G v ks := Kd.V_far h (fun k hk e => hk (by rw [e]; exact hg)) u
theorem TV.set3 (h : TV w G v ks) (hg : G g) (x y z : Value) : TV (((w.setCell ⟨g, 0, none⟩ x).setCell ⟨g, 1, none⟩ y).setCell ⟨g, 2, none⟩ z) G v ks := ((h.set hg x).set hg y).set hg z
theorem TV.free (h : TV w G v ks) : TV w (fun _ => False) v ks := Kd.V_mono h (fun _ _ h => h)
theorem TV.ofN (h : Kd.N k29 29 w' n ok v ks) (hok : ∀ k, ok k → ¬ G k) : TV w' G v ks := Kd.V_mono (Kd.N_V h) hok
theorem TV.ofR (h : Kd.R k29 29 w' n ok v ks) (hG : ∀ k, G k → k < n) : TV w' G v ks := Kd.V_mono (Kd.R_V (Kd.R_bound h)) (fun k hk hg => by have := hG k hg; have := hk.2.1; omega)
theorem TV.ofV (h : Kd.V k29 29 w' n ok v ks) (hok : ∀ k, ok k → ¬ G k) : TV w' G v ks := Kd.V_mono (Kd.V_map h (fun _ h => h)) hok
theorem TV.reads (h : TV w G v ks) : ∃ A c, v = .slice A ks.length c ∧ ks.length ≤ c ∧ Kd.C k29 w A ks.length ks := by
  obtain ⟨A, c, rfl⟩ := Kd.V_slice h
  exact ⟨A, c, rfl, (Kd.V_reads' h).2⟩
theorem blk_set3 {cs : Array Value} {t : TypeId} (h : w.heap[g]? = some (.cells cs t (0, 0))) (hs : cs.size = 3) (x y z : Value) : (((w.setCell ⟨g, 0, none⟩ x).setCell ⟨g, 1, none⟩ y).setCell ⟨g, 2, none⟩ z).heap[g]? = some (.cells #[x, y, z] t (0, 0)) := by
  refine blk_put (blk_put (blk_put h 0 x rfl) 1 y rfl) 2 z ?_
  obtain ⟨l⟩ := cs
  match l, hs with
  | [_, _, _], _ => rfl
theorem blk_far3 {cs : Array Value} {t : TypeId} {g' : Nat} (h : w.heap[g]? = some (.cells cs t (0, 0))) (hne : g ≠ g') (x y z : Value) : (((w.setCell ⟨g', 0, none⟩ x).setCell ⟨g', 1, none⟩ y).setCell ⟨g', 2, none⟩ z).heap[g]? = some (.cells cs t (0, 0)) :=
  blk_far (p := ⟨g', 2, none⟩) (blk_far (p := ⟨g', 1, none⟩) (blk_far (p := ⟨g', 0, none⟩) h hne x) hne y) hne z
theorem below_set3 (h : Below W.heap.size W w) (hg : W.heap.size ≤ g) (x y z : Value) : Below W.heap.size W (((w.setCell ⟨g, 0, none⟩ x).setCell ⟨g, 1, none⟩ y).setCell ⟨g, 2, none⟩ z) := below_set (below_set (below_set h hg) hg) hg
theorem size_set3 (x y z : Value) : (((w.setCell ⟨g, 0, none⟩ x).setCell ⟨g, 1, none⟩ y).setCell ⟨g, 2, none⟩ z).heap.size = w.heap.size := by simp [World.setCell]
end
theorem make_go (k : Nat) (a0 a1 : Int) (A : Option Addr) (c : Nat) (l : List S24) (d n r1 r2 : Int) (r3 : List S29) (w : World) (G : Nat → Prop) (hG : ∀ k, G k → k < w.heap.size) (hr : Kd.C k24 w A l.length l) (hc : l.length ≤ c) (h : thyrsuslaw1_Make.f k a0 a1 l d n = some (r1, r2, r3)) :
    Calls Tryd.prog 16 #[.agg #[.int .i64 a0, .int .i64 a1, .slice A l.length c], .int .i64 d, .int .i64 n] w fun e w' => ∃ v : Value, e = .returned (.agg #[.int .i64 r1, .int .i64 r2, v]) ∧ TV w' G v r3 ∧ Below w.heap.size w w' :=
  (thyrsuslaw1_Make.calls k a0 a1 A c l d n r1 r2 r3 w hr hc h).mono fun e w' ⟨v, he, hR, hb⟩ => ⟨v, he, TV.ofR hR hG, hb⟩
theorem shift_go (k : Nat) (op n : Int) (v : Value) (kids : List S29) (by_ from_ r1 r2 : Int) (r3 : List S29) (w : World) (G : Nat → Prop) (hG : ∀ k, G k → k < w.heap.size) (hs : TV w G v kids) (h : term_Shift.f k op n kids by_ from_ = some (r1, r2, r3)) :
    Calls Tryd.prog 23 #[.agg #[.int .i64 op, .int .i64 n, v], .int .i64 by_, .int .i64 from_] w fun e w' => ∃ v : Value, e = .returned (.agg #[.int .i64 r1, .int .i64 r2, v]) ∧ TV w' G v r3 ∧ Below w.heap.size w w' := by
  obtain ⟨A, c, rfl⟩ := Kd.V_slice hs
  exact (term_Shift.calls k op n (fun k_ => ¬ G k_) A c kids by_ from_ r1 r2 r3 w (Kd.V_map hs (fun _ h => h)) h).mono fun e w' ⟨v, he, hN, hb⟩ => ⟨v, he, TV.ofN hN (fun k hk hg => hk.elim (fun h => h hg) (fun h => by have := hG k hg; omega)), hb⟩
theorem subst_go (k : Nat) (op n : Int) (v : Value) (kids : List S29) (m uop un : Int) (vu : Value) (uk : List S29) (r1 r2 : Int) (r3 : List S29) (w : World) (G : Nat → Prop) (hG : ∀ k, G k → k < w.heap.size) (hs : TV w G v kids) (hu : TV w G vu uk) (h : term_Subst.f k op n kids m uop un uk = some (r1, r2, r3)) :
    Calls Tryd.prog 22 #[.agg #[.int .i64 op, .int .i64 n, v], .int .i64 m, .agg #[.int .i64 uop, .int .i64 un, vu]] w fun e w' => ∃ v : Value, e = .returned (.agg #[.int .i64 r1, .int .i64 r2, v]) ∧ TV w' G v r3 ∧ Below w.heap.size w w' := by
  obtain ⟨A, c, rfl⟩ := Kd.V_slice hs
  obtain ⟨Au, cu, rfl⟩ := Kd.V_slice hu
  exact (term_Subst.calls k op n (fun k_ => ¬ G k_) A c kids m uop un (fun k_ => ¬ G k_) Au cu uk r1 r2 r3 w (Kd.V_map hs (fun _ h => h)) (Kd.V_map hu (fun _ h => h)) h).mono fun e w' ⟨v, he, hN, hb⟩ => ⟨v, he, TV.ofN hN (fun k hk hg => hk.elim (fun h => h.elim (fun h => h hg) (fun h => h hg)) (fun h => by have := hG k hg; omega)), hb⟩
theorem same_go (k : Nat) (op n : Int) (v : Value) (kids : List S29) (uop un : Int) (vu : Value) (uk : List S29) (r : Bool) (w : World) {G G' : Nat → Prop} (hs : TV w G v kids) (hu : TV w G' vu uk) (h : thyrsusref4_Same.f k op n kids uop un uk = some r) :
    Calls Tryd.prog 18 #[.agg #[.int .i64 op, .int .i64 n, v], .agg #[.int .i64 uop, .int .i64 un, vu]] w fun e w' => e = .returned (.bool r) ∧ Below w.heap.size w w' := by
  obtain ⟨A, c, rfl, hc, hC⟩ := hs.reads
  obtain ⟨Au, cu, rfl, hcu, hCu⟩ := hu.reads
  exact thyrsusref4_Same.calls k op n A c kids uop un Au cu uk r w hC hc hCu hcu h
end Go.Proofs.YtcchfblekaaalaaDoor.P
