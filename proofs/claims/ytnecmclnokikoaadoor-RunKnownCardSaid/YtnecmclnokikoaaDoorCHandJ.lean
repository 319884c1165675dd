/- Package run: told: a value as it is told. -/
import Derived.Test.YtnecmclnokikoaaDoorCHandE
namespace Go.Proofs.YtnecmclnokikoaaDoor.Run
open Go.RowKit Go.Proofs.YtnecmclnokikoaaDoor.P Go.Proofs.YtnecmclnokikoaaDoorW.PrintWords Go.Proofs.YtnecmclnokikoaaDoorW.PrintLast Go.Proofs.YtnecmclnokikoaaDoorW.PrintMore
set_option linter.unusedVariables false
set_option linter.unusedSimpArgs false
def kidsV : V → List V
  | .pair a b => [a, b]
  | .int _ => []
  | .fn _ _ => []
theorem told_eq (v : V) : told v = ⟨v.kind, v.num, (kidsV v).map told⟩ := by cases v <;> rfl
theorem kidsV_len (v : V) : (kidsV v).length ≤ 2 := by cases v <;> simp [kidsV]
theorem RV_kids {w0 w : World} {ok : Nat → Prop} : ∀ {v : V} {p : Value}, RV w0 w ok v p → ∃ g AL op n ks pe, p = .pointer (some ⟨g, 0, none⟩) ∧ w.heap[g]? = some (.cells #[.int .i64 v.kind, .int .i64 v.num, .slice AL (kidsV v).length (kidsV v).length, op, n, ks, pe] 95 (0, 0)) ∧ ∀ (i : Nat) (x : V), (kidsV v)[i]? = some x → ∃ (r : Nat) (cs : Array Value) (q : Value), AL = some ⟨r, 0, none⟩ ∧ w.heap[r]? = some (.cells cs 67 (0, 0)) ∧ cs[i]? = some q ∧ RV w0 w ok x q
  | .int n, p, h => by
    obtain ⟨g, h1, h2, h3⟩ := h
    exact ⟨g, _, _, _, _, _, h1, h3, fun i x hx => by simp [kidsV] at hx⟩
  | .pair a b, p, h => by
    obtain ⟨g, r, pa, pb, h1, h2, h3, h4, h5, h6, h7⟩ := h
    refine ⟨g, _, _, _, _, _, h1, h3, fun i x hx => ?_⟩
    match i, hx with
    | 0, hx => cases hx; exact ⟨r, _, pa, rfl, h5, rfl, h6⟩
    | 1, hx => cases hx; exact ⟨r, _, pb, rfl, h5, rfl, h7⟩
    | i + 2, hx => simp [kidsV] at hx
  | .fn t e, p, h => by
    obtain ⟨g, A, c, pe, h1, h2, h3, h4, h5, h6⟩ := h
    exact ⟨g, _, _, _, _, _, h1, h3, fun i x hx => by simp [kidsV] at hx⟩
theorem gen_any {P : Program} {md : Region.Mode} {ops : Array Oper} {Q : Exit → Act → World → Prop} {S : World → Prop} {ds : List Nat} {fuel : Nat} {l : Array Bool} {a : Act} {W : World} (R : World → Prop) (h : R W) (k : ∀ w, R w → wpAnyLast P md ops Q S ds fuel l a w) : wpAnyLast P md ops Q S ds fuel l a W := k W h
theorem put3_ {w : World} {g : Nat} {t : TypeId} {a b c a' b' c' : Value} (h : w.heap[g]? = some (.cells #[a, b, c] t (0, 0))) :
    (((w.setCell ⟨g, 0, none⟩ a').setCell ⟨g, 1, none⟩ b').setCell ⟨g, 2, none⟩ c').heap[g]? = some (.cells #[a', b', c'] t (0, 0)) :=
  blk_put (blk_put (blk_put h 0 a' rfl) 1 b' rfl) 2 c' rfl
/-- What told does. -/
structure Told (v : V) : Prop where
  out : ∀ {w0 w : World} {ok : Nat → Prop} {p : Value}, RV w0 w ok v p → Calls Tryd.prog 30 #[p] w fun en w' => ∃ vl, en = .returned (.agg #[.int .i64 (told v).f0, .int .i64 (told v).f1, vl]) ∧ Kd.R k36 36 w' w.heap.size (fun _ => True) vl (told v).f2 ∧ Below w.heap.size w w'
theorem meas2 {n i : Nat} (h : i < n) (hw : wrap64 ((i : Int) + 1) = ((i + 1 : Nat) : Int)) : n - (intOf (.int .i64 (wrap64 ((i : Int) + 1)))).toNat < n - (intOf (.int .i64 (i : Int))).toNat := by
  rw [hw]
  show n - (((i + 1 : Nat) : Int)).toNat < n - ((i : Int)).toNat
  omega
set_option maxHeartbeats 16000000 in
set_option maxRecDepth 100000 in
theorem told_step (v : V) (ih : ∀ x, x ∈ kidsV v → Told x) : Told v := by
  refine ⟨?_⟩
  intro w0 w ok p hv
  obtain ⟨gv, AL, r1, r2, r3, r4, rfl, hg, hL⟩ := RV_kids hv
  have hn2 := kidsV_len v
  have HL := Aside0.mk hL
  have HG := Aside0.mk hg
  have IH := Aside0.mk ih
  have hu36 := Tryd.underlying36
  obtain ⟨n, hn⟩ : ∃ n, n = (kidsV v).length := ⟨_, rfl⟩
  have TO := Aside0.mk (told_eq v)
  have HN := Aside0.mk hn
  rw [← hn] at hg hn2
  have HG := Aside0.mk hg
  clear hv hL hg ih hn
  go_enter Tryd.func30, Tryd.ntmps30
  go_wp2
  have T1 := Aside0.mk (blk_drew (blk_new w (.cells #[.int .i64 0, .int .i64 0, .slice none 0 0] 36)))
  have V1 := Aside0.mk (blk_drew (blk_alloc HG.out (.cells #[.int .i64 0, .int .i64 0, .slice none 0 0] 36)))
  have B1 := Aside0.mk (below_drew1 (below_alloc (Below.refl w.heap.size w) (.cells #[.int .i64 0, .int .i64 0, .slice none 0 0] 36)))
  have Z1 : Aside0 (w.heap.size < (World.drew (w.alloc (.cells #[.int .i64 0, .int .i64 0, .slice none 0 0] 36))).heap.size) := ⟨blk_lt T1.out⟩
  refine start_ (n := 11) (S := fun w' => w'.cell? ⟨gv, 0, none⟩ = some (.int .i64 v.kind) ∧ w'.cell? ⟨gv, 1, none⟩ = some (.int .i64 v.num)) (ds := [10]) #[false, false, false, false, false, false, false, false, false, false, false] (by kernel_rfl) rfl rfl ⟨(blk_cell V1.out 0).trans rfl, (blk_cell V1.out 1).trans rfl⟩ (fun hHeld => ?_)
  generalize (World.drew (World.alloc w _)) = w1 at T1 V1 B1 Z1 hHeld ⊢
  refine pure_ (i := 0) (N := some 6) (v := ?_) (a' := ?_) #[true, false, false, false, false, false, false, false, false, false, false] rfl rfl (by kernel_rfl) (fun _ _ _ h => h) (Or.inl ⟨by rfl, ?_⟩) ?_ ?_
  rotate_left
  · intro w'
    go_simp
    with_reducible rfl
  rotate_left
  · simp only [Act.put, List.setIfInBounds_toArray, List.set_cons_zero, List.set_cons_succ, i64_w, i32_w, u8_w, u32_w]
    rfl
  refine pure_ (i := 1) (N := some 7) (v := ?_) (a' := ?_) #[true, true, false, false, false, false, false, false, false, false, false] rfl rfl (by kernel_rfl) (fun _ _ _ h => h) (Or.inl ⟨by rfl, ?_⟩) ?_ ?_
  rotate_left
  · intro w'
    go_simp
    with_reducible rfl
  rotate_left
  · simp only [Act.put, List.setIfInBounds_toArray, List.set_cons_zero, List.set_cons_succ, i64_w, i32_w, u8_w, u32_w]
    rfl
  refine pure_ (i := 2) (N := some 8) (v := ?_) (a' := ?_) #[true, true, true, false, false, false, false, false, false, false, false] rfl rfl (by kernel_rfl) (fun _ _ _ h => h) (Or.inl ⟨by rfl, ?_⟩) ?_ ?_
  rotate_left
  · intro w'
    go_simp
    with_reducible rfl
  rotate_left
  · simp only [Act.put, List.setIfInBounds_toArray, List.set_cons_zero, List.set_cons_succ, i64_w, i32_w, u8_w, u32_w]
    rfl
  refine take_ (i := 3) (N := some 9) (v := ?_) (a' := ?_) #[true, true, true, true, false, false, false, false, false, false, false] rfl rfl (by kernel_rfl) (fun _ _ _ h => h) (Or.inl ⟨by rfl, ?_⟩) hHeld ?_ ?_
  rotate_left
  · rintro w' ⟨s0, s1⟩
    go_simp
    with_reducible rfl
  rotate_left
  · simp only [Act.put, List.setIfInBounds_toArray, List.set_cons_zero, List.set_cons_succ, i64_w, i32_w, u8_w, u32_w]
    rfl
  refine pure_ (i := 4) (N := some 10) (v := ?_) (a' := ?_) #[true, true, true, true, true, false, false, false, false, false, false] rfl rfl (by kernel_rfl) (fun _ _ _ h => h) (Or.inl ⟨by rfl, ?_⟩) ?_ ?_
  rotate_left
  · intro w'
    go_simp
    with_reducible rfl
  rotate_left
  · simp only [Act.put, List.setIfInBounds_toArray, List.set_cons_zero, List.set_cons_succ, i64_w, i32_w, u8_w, u32_w]
    rfl
  refine pure_ (i := 5) (N := some 11) (v := ?_) (a' := ?_) #[true, true, true, true, true, true, false, false, false, false, false] rfl rfl (by kernel_rfl) (fun _ _ _ h => h) (Or.inl ⟨by rfl, ?_⟩) ?_ ?_
  rotate_left
  · intro w'
    go_simp
    with_reducible rfl
  rotate_left
  · simp only [Act.put, List.setIfInBounds_toArray, List.set_cons_zero, List.set_cons_succ, i64_w, i32_w, u8_w, u32_w]
    rfl
  refine pure_ (i := 6) (N := some 12) (v := ?_) (a' := ?_) #[true, true, true, true, true, true, true, false, false, false, false] rfl rfl (by kernel_rfl) (fun _ _ _ h => h) (Or.inl ⟨by rfl, ?_⟩) ?_ ?_
  rotate_left
  · intro w'
    go_simp
    with_reducible rfl
  rotate_left
  · simp only [Act.put, List.setIfInBounds_toArray, List.set_cons_zero, List.set_cons_succ, i64_w, i32_w, u8_w, u32_w]
    rfl
  refine take_ (i := 7) (N := some 13) (v := ?_) (a' := ?_) #[true, true, true, true, true, true, true, true, false, false, false] rfl rfl (by kernel_rfl) (fun _ _ _ h => h) (Or.inl ⟨by rfl, ?_⟩) hHeld ?_ ?_
  rotate_left
  · rintro w' ⟨s0, s1⟩
    go_simp
    with_reducible rfl
  rotate_left
  · simp only [Act.put, List.setIfInBounds_toArray, List.set_cons_zero, List.set_cons_succ, i64_w, i32_w, u8_w, u32_w]
    rfl
  refine pure_ (i := 8) (N := some 14) (v := ?_) (a' := ?_) #[true, true, true, true, true, true, true, true, true, false, false] rfl rfl (by kernel_rfl) (fun _ _ _ h => h) (Or.inl ⟨by rfl, ?_⟩) ?_ ?_
  rotate_left
  · intro w'
    go_simp
    with_reducible rfl
  rotate_left
  · simp only [Act.put, List.setIfInBounds_toArray, List.set_cons_zero, List.set_cons_succ, i64_w, i32_w, u8_w, u32_w]
    rfl
  refine one_ (i := 9) (N := some 3) #[true, true, true, true, true, true, true, true, true, true, false] rfl rfl (by kernel_rfl) (by decide) (fun K hK => ?_)
  refine box_step (N := 3) (by rfl) rfl (cs := #[.int .i64 0, .int .i64 0, .slice none 0 0]) (t := 36) ?hr ?_
  (case hr => first | (go_simp; done) | (go_simp; rfl))
  intro g3 hg3 w2 hbox hb2
  have T2 := Aside0.mk (blk_below T1.out hb2)
  have V2 := Aside0.mk (blk_below V1.out hb2)
  have U2 := Aside0.mk hbox
  have B2 := Aside0.mk (below_step B1.out hb2)
  have G3 : Aside0 (w.heap.size < g3) := ⟨by rw [hg3]; exact Z1.out⟩
  clear hbox hb2 hg3
  refine hK.out _ _ ⟨(blk_cell V2.out 0).trans rfl, (blk_cell V2.out 1).trans rfl⟩ (fun hHeld => ?_)
  clear hK K
  refine norm_ (a' := ?_) ?_ ?_
  rotate_left
  · show Act.put _ (some 3) _ = _
    simp only [Act.put, List.setIfInBounds_toArray, List.set_cons_zero, List.set_cons_succ, i64_w, i32_w, u8_w, u32_w]
    rfl
  refine last_ (i := 10) (N := none) #[true, true, true, true, true, true, true, true, true, true, true] rfl rfl (by kernel_rfl) (by decide) (fun K hK => ?_)
  have z0 : w2.cell? ⟨g3, 0, none⟩ = some (.int .i64 0) := (blk_cell U2.out 0).trans rfl
  have z1 : w2.cell? ⟨g3, 1, none⟩ = some (.int .i64 0) := (blk_cell U2.out 1).trans rfl
  have z2 : w2.cell? ⟨g3, 2, none⟩ = some (.slice none 0 0) := (blk_cell U2.out 2).trans rfl
  have fz0 := blk_frozen U2.out 0
  have fz1 := blk_frozen U2.out 1
  have fz2 := blk_frozen U2.out 2
  refine skip_ (w1 := ?_) (by rfl) rfl ?_ ?_
  rotate_left
  · go_simp
    rfl
  refine hK.out _ _ ?_
  clear hK K
  have NE : Aside0 (gv ≠ g3 ∧ w.heap.size ≠ g3 ∧ gv ≠ w.heap.size) := ⟨by have h1 := blk_lt HG.out; have h2 := G3.out; omega⟩
  refine gen_any (fun w3 => w3.heap[g3]? = some (.cells #[.int .i64 v.kind, .int .i64 v.num, .slice none 0 0] 36 (0, 0)) ∧ w3.heap[w.heap.size]? = some (.cells #[.int .i64 0, .int .i64 0, .slice none 0 0] 36 (0, 0)) ∧ w3.heap[gv]? = some (.cells #[.int .i64 v.kind, .int .i64 v.num, .slice AL n n, r1, r2, r3, r4] 95 (0, 0)) ∧ Below w.heap.size w w3) ⟨put3_ U2.out, blk_far (blk_far (blk_far T2.out NE.out.2.1 _) NE.out.2.1 _) NE.out.2.1 _, blk_far (blk_far (blk_far V2.out NE.out.1 _) NE.out.1 _) NE.out.1 _, below_set (below_set (below_set B2.out (Nat.le_of_lt G3.out)) (Nat.le_of_lt G3.out)) (Nat.le_of_lt G3.out)⟩ ?_
  rintro w3 ⟨h1, h2, h3, h4⟩
  clear z0 z1 z2 fz0 fz1 fz2 hHeld T1 V1 B1 Z1 T2 V2 U2 B2
  have U3 := Aside0.mk h1
  have T3 := Aside0.mk h2
  have V3 := Aside0.mk h3
  have B3 := Aside0.mk h4
  clear h1 h2 h3 h4
  refine done_ (by kernel_rfl) ?_
  have v2_ : w3.cell? ⟨gv, 2, none⟩ = some (.slice AL n n) := (blk_cell V3.out 2).trans rfl
  go_wp2
  clear v2_
  go_loopw [20] (fun v20 w' => ∃ (i : Nat) (ks : List S36) (vl : Value), v20 = .int .i64 i ∧ i ≤ n ∧ Aside0 (ks = ((kidsV v).take i).map told) ∧ Aside0 (ks.length ≤ 2) ∧ Aside0 (Kd.R k36 36 w' w.heap.size (fun k => k ≠ w.heap.size ∧ k ≠ g3) vl ks) ∧ Aside0 (w'.heap[g3]? = some (.cells #[.int .i64 v.kind, .int .i64 v.num, vl] 36 (0, 0))) ∧ Aside0 (w'.heap[w.heap.size]? = some (.cells #[.int .i64 0, .int .i64 0, .slice none 0 0] 36 (0, 0))) ∧ Aside0 (Below w.heap.size w w')) (fun v20 _ => n - (intOf v20).toNat)
  case atStart => exact ⟨0, [], .slice none 0 0, rfl, Nat.zero_le _, ⟨rfl⟩, ⟨by simp⟩, ⟨Kd.R_nil _ _ _ _ _⟩, U3, T3, B3⟩
  case round =>
    clear U3 T3 B3 V3
    obtain ⟨i, ks, vl, rfl, hi, KE, KL, HO, Ud, Td, Bd⟩ := hrel
    obtain ⟨Av, cv, ev⟩ := Kd.R_slice HO.out
    subst ev
    have W3 := Aside0.mk (show wrap64 ((i : Int) + 1) = ((i + 1 : Nat) : Int) by unfold wrap64; omega)
    by_cases hlt : i < n
    · have LT := Aside0.mk hlt
      obtain ⟨x, hx⟩ : ∃ x, (kidsV v)[i]? = some x := ⟨_, List.getElem?_eq_getElem (by have := HN.out; omega)⟩
      obtain ⟨r, cs, q, hAL, hr, hq, hrq⟩ := HL.out i x hx
      subst hAL
      have e1 : ((i : Int) < (n : Int)) = True := eq_true (by omega)
      have e2 : (i < n) = True := eq_true hlt
      have e3 : decide ((i : Int) < (n : Int)) = true := decide_eq_true (by omega)
      have e4 : (0 ≤ (i : Int)) = True := eq_true (by omega)
      have y0 : wr.cell? ⟨r, i, none⟩ = some q := (blk_cell (blk_below hr Bd.out) i).trans hq
      have IX : Aside0 (∀ w10 : World, RV w0 w10 ok x q → Calls Tryd.prog 30 #[q] w10 fun en w' => ∃ vl, en = .returned (.agg #[.int .i64 (told x).f0, .int .i64 (told x).f1, vl]) ∧ Kd.R k36 36 w' w10.heap.size (fun _ => True) vl (told x).f2 ∧ Below w10.heap.size w10 w') := ⟨fun w10 h => (IH.out x (List.mem_of_getElem? hx)).out h⟩
      have RQ := Aside0.mk (RV_below (RV_below hrq Bd.out (fun _ h => h)) (below_drew (Below.refl wr.heap.size wr)) (fun _ h => h))
      have NX : Aside0 (ks ++ [told x] = ((kidsV v).take (i + 1)).map told) := ⟨by rw [KE.out, List.take_add_one, hx]; simp⟩
      clear hx hr hq hrq hlt hi
      have l2 : wr.cell? ⟨g3, 2, none⟩ = some (.slice Av ks.length cv) := (blk_cell Ud.out 2).trans rfl
      go_wp2
      have HOd := Aside0.mk (Kd.R_drew HO.out)
      replace Ud := Aside0.mk (blk_drew Ud.out)
      replace Td := Aside0.mk (blk_drew Td.out)
      replace Bd := Aside0.mk (below_drew1 Bd.out)
      have l2d : wr.drew.cell? ⟨g3, 2, none⟩ = some (.slice Av ks.length cv) := l2
      clear HO y0 l2
      refine start_ (n := 8) (S := fun w' => w'.cell? ⟨g3, 2, none⟩ = some (.slice Av ks.length cv)) (ds := [7]) #[false, false, false, false, false, false, false, false] (by kernel_rfl) rfl rfl l2d (fun hHeld => ?_)
      generalize wr.drew = w10 at HOd Td Ud Bd RQ l2d hHeld ⊢
      refine pure_ (i := 0) (N := some 24) (v := ?_) (a' := ?_) #[true, false, false, false, false, false, false, false] rfl rfl (by kernel_rfl) (fun _ _ _ h => h) (Or.inl ⟨by rfl, ?_⟩) ?_ ?_
      rotate_left
      · intro w'
        go_simp
        with_reducible rfl
      rotate_left
      · simp only [Act.put, List.setIfInBounds_toArray, List.set_cons_zero, List.set_cons_succ, i64_w, i32_w, u8_w, u32_w]
        rfl
      refine pure_ (i := 2) (N := some 26) (v := ?_) (a' := ?_) #[true, false, true, false, false, false, false, false] rfl rfl (by kernel_rfl) (fun _ _ _ h => h) (Or.inl ⟨by rfl, ?_⟩) ?_ ?_
      rotate_left
      · intro w'
        go_simp
        with_reducible rfl
      rotate_left
      · simp only [Act.put, List.setIfInBounds_toArray, List.set_cons_zero, List.set_cons_succ, i64_w, i32_w, u8_w, u32_w]
        rfl
      refine take_ (i := 1) (N := some 25) (v := ?_) (a' := ?_) #[true, true, true, false, false, false, false, false] rfl rfl (by kernel_rfl) (fun _ _ _ h => h) (Or.inl ⟨by rfl, ?_⟩) hHeld ?_ ?_
      rotate_left
      · rintro w' s0
        go_simp
        with_reducible rfl
      rotate_left
      · simp only [Act.put, List.setIfInBounds_toArray, List.set_cons_zero, List.set_cons_succ, i64_w, i32_w, u8_w, u32_w]
        rfl
      refine one_ (i := 3) (N := some 27) #[true, true, true, true, false, false, false, false] rfl rfl (by kernel_rfl) (by decide) (fun K hK => ?_)
      refine goes_ Tryd.func30 (by kernel_rfl) rfl #[q] (by rfl) rfl rfl (by (try simp only [List.map_toArray, List.map_cons, List.map_nil]); rfl) ?_
      with_reducible refine (IX.out _ RQ.out).mono ?_
      rintro e w11 ⟨vc, rfl, hR, hB11⟩
      refine ⟨_, rfl, ?_⟩
      obtain ⟨Ac, cc, ec⟩ := Kd.R_slice hR
      subst ec
      have own_lt : Aside0 (∀ k, (Value.slice Av ks.length cv).ownBlock = some k → k < w10.heap.size ∧ w.heap.size ≤ k ∧ k ≠ w.heap.size ∧ k ≠ g3) := ⟨fun k hk => by
        have hk1 := (Kd.R_bound HOd.out).1 k hk
        exact ⟨hk1.2.2.1, hk1.2.1, hk1.1⟩⟩
      have HO11 : Aside0 (Kd.R k36 36 w11 w.heap.size (fun k => k ≠ w.heap.size ∧ k ≠ g3) (.slice Av ks.length cv) ks) := ⟨Kd.R_keep HOd.out (KeepBut.of_below hB11 g3 none) (fun k hk => hk.2)⟩
      have t_lt := Aside0.mk (blk_lt Td.out)
      have g_lt := Aside0.mk (blk_lt Ud.out)
      have HC11 : Aside0 (Kd.R k36 36 w11 w.heap.size (fun k => (k ≠ w.heap.size ∧ k ≠ g3) ∧ some k ≠ (Value.slice Av ks.length cv).ownBlock) (.slice Ac (told x).f2.length cc) (told x).f2) := ⟨Kd.R_lower (Kd.R_mono (Kd.R_bound hR) (fun k hk => by
        have a1 := t_lt.out
        have a2 := g_lt.out
        have a4 := hk.2.1
        exact ⟨⟨by omega, by omega⟩, fun e => by have := (own_lt.out k e.symm).1; omega⟩)) Bd.out.size⟩
      have T11 := Aside0.mk (blk_below Td.out hB11)
      have U11 := Aside0.mk (blk_below Ud.out hB11)
      have B11 := Aside0.mk (below_step Bd.out hB11)
      have S11 := Aside0.mk hB11.size
      clear hR hB11 HOd Td Ud Bd
      refine hK.out _ _ ((blk_cell U11.out 2).trans rfl) (fun hHeld => ?_)
      clear hK K
      refine norm_ (a' := ?_) ?_ ?_
      rotate_left
      · show Act.put _ (some 27) _ = _
        simp only [Act.put, List.setIfInBounds_toArray, List.set_cons_zero, List.set_cons_succ, i64_w, i32_w, u8_w, u32_w]
        rfl
      refine one_ (i := 4) (N := some 28) #[true, true, true, true, true, false, false, false] rfl rfl (by kernel_rfl) (by decide) (fun K hK => ?_)
      refine value_ (w1 := ?_) (v := ?_) (by rfl) rfl ?_ ?_
      rotate_left 2
      · go_simp
        constructor
        · rfl
        · rfl
      refine hK.out _ _ ((blk_cell (blk_alloc U11.out _) 2).trans rfl) (fun hHeld => ?_)
      clear hK K
      refine norm_ (a' := ?_) ?_ ?_
      rotate_left
      · show Act.put _ (some 28) _ = _
        simp only [Act.put, List.setIfInBounds_toArray, List.set_cons_zero, List.set_cons_succ, i64_w, i32_w, u8_w, u32_w]
        rfl
      refine one_ (i := 5) (N := some 29) #[true, true, true, true, true, true, false, false] rfl rfl (by kernel_rfl) (by decide) (fun K hK => ?_)
      refine Kd.R_append_step k36 (w0 := w11) w.heap.size (by rfl) (.tmp 25) (.tmp 28) 34 36 (.agg #[(.int .i64 0), (.int .i64 0), (.slice none 0 0)]) 40 rfl Tryd.underlying34 info36 rfl (by decide) (by omega) (.slice Av ks.length cv) ks (told x) [.int .i64 (told x).f0, .int .i64 (told x).f1, .slice Ac (told x).f2.length cc] (fun k_ => k_ ≠ w.heap.size ∧ k_ ≠ g3) (fun k_ => (k_ ≠ w.heap.size ∧ k_ ≠ g3) ∧ some k_ ≠ (Value.slice Av ks.length cv).ownBlock) rfl rfl ?aP (fun _ hk => hk) ?aF ?aO ?aB ?aS ?aL ?_
      (case aP => exact k36_mkM _ _ _ (told x) HC11.out)
      (case aB => exact Below.refl _ _)
      (case aF => exact (fun k_ hk => by
        have a0 := S11.out
        have a1 := t_lt.out
        have a2 := g_lt.out
        exact ⟨by omega, by omega⟩))
      (case aO => exact HO11.out)
      (case aS => exact B11.out.size)
      (case aL => have := KL.out; omega)
      intro v2 w12 ho hb hg hat
      have T12 := Aside0.mk (blk_grown T11.out hg (fun e => (own_lt.out _ e.symm).2.2.1 rfl))
      have U12 := Aside0.mk (blk_grown U11.out hg (fun e => (own_lt.out g3 e.symm).2.2.2 rfl))
      have B12 : Aside0 (Below w.heap.size w w12) := ⟨B11.out.grown hg B11.out.size (fun k hk => (own_lt.out k hk).2.1)⟩
      have HO12 := Aside0.mk ho
      clear ho hb hg hat HO11 HC11 T11 U11 B11
      obtain ⟨Av2, cv2, ev2⟩ := Kd.R_slice HO12.out
      subst ev2
      refine hK.out _ _ ((blk_cell U12.out 2).trans rfl) (fun hHeld => ?_)
      clear hK K
      refine norm_ (a' := ?_) ?_ ?_
      rotate_left
      · show Act.put _ (some 29) _ = _
        simp only [Act.put, List.setIfInBounds_toArray, List.set_cons_zero, List.set_cons_succ, i64_w, i32_w, u8_w, u32_w]
        rfl
      refine pure_ (i := 6) (N := some 30) (v := ?_) (a' := ?_) #[true, true, true, true, true, true, true, false] rfl rfl (by kernel_rfl) (fun _ _ _ h => h) (Or.inl ⟨by rfl, ?_⟩) ?_ ?_
      rotate_left
      · intro w'
        go_simp
        with_reducible rfl
      rotate_left
      · simp only [Act.put, List.setIfInBounds_toArray, List.set_cons_zero, List.set_cons_succ, i64_w, i32_w, u8_w, u32_w]
        rfl
      refine last_ (i := 7) (N := none) #[true, true, true, true, true, true, true, true] rfl rfl (by kernel_rfl) (by decide) (fun K hK => ?_)
      have hs9 : w12.cell? ⟨g3, 2, none⟩ = some (.slice Av ks.length cv) := (blk_cell U12.out 2).trans rfl
      have hfs9 := blk_frozen U12.out 2
      refine skip_ (w1 := ?_) (by rfl) rfl ?_ ?_
      rotate_left
      · go_simp
        rfl
      refine hK.out _ _ ?_
      clear hK K
      refine done_ (by kernel_rfl) ?_
      clear hs9 hfs9 hHeld
      go_wp2
      go_roundw
      case measure => exact meas2 LT.out W3.out
      case rel => exact ⟨i + 1, ks ++ [told x], _, by rw [W3.out], LT.out, NX, ⟨by have := KL.out; have := LT.out; rw [NX.out]; simp; omega⟩, ⟨Kd.R_mono (Kd.R_far (p := ⟨g3, 2, none⟩) HO12.out (fun k hk => hk.2) _) (fun k hk => hk)⟩, ⟨blk_put U12.out 2 _ (by simp)⟩, ⟨blk_far T12.out NE.out.2.1 _⟩, ⟨below_set B12.out (Nat.le_of_lt G3.out)⟩⟩
    · obtain rfl : i = n := by omega
      have e1 : ((i : Int) < (i : Int)) = False := eq_false (by omega)
      have KF : Aside0 (ks = (told v).f2) := ⟨by rw [KE.out, TO.out, HN.out, List.take_length]⟩
      have u0 : wr.cell? ⟨g3, 0, none⟩ = some (.int .i64 v.kind) := (blk_cell Ud.out 0).trans rfl
      have u1 : wr.cell? ⟨g3, 1, none⟩ = some (.int .i64 v.num) := (blk_cell Ud.out 1).trans rfl
      have u2 : wr.cell? ⟨g3, 2, none⟩ = some (.slice Av ks.length cv) := (blk_cell Ud.out 2).trans rfl
      have k0 : wr.cell? ⟨w.heap.size, 0, none⟩ = some (.int .i64 0) := (blk_cell Td.out 0).trans rfl
      have k1 : wr.cell? ⟨w.heap.size, 1, none⟩ = some (.int .i64 0) := (blk_cell Td.out 1).trans rfl
      have k2 : wr.cell? ⟨w.heap.size, 2, none⟩ = some (.slice none 0 0) := (blk_cell Td.out 2).trans rfl
      have kf0 := blk_frozen Td.out 0
      have kf1 := blk_frozen Td.out 1
      have kf2 := blk_frozen Td.out 2
      have KO := Aside0.mk (show (told v).f0 = v.kind ∧ (told v).f1 = v.num by rw [TO.out]; exact ⟨rfl, rfl⟩)
      clear hlt hi hn2
      go_wp2
      refine bodyPost_ret (results_cell_row rfl _ _ w.heap.size 36 #[.int .i64 v.kind, .int .i64 v.num, .slice Av ks.length cv] (0, 0) _ rfl (by exact put3_ Td.out) Tryd.underlying36 rfl (by kernel_rfl)) rfl ?_
      have hR := Kd.R_mono (ok' := fun _ => True) (Kd.R_far (p := ⟨w.heap.size, 2, none⟩) (Kd.R_far (p := ⟨w.heap.size, 1, none⟩) (Kd.R_far (p := ⟨w.heap.size, 0, none⟩) HO.out (fun k hk => hk.1) (.int .i64 v.kind)) (fun k hk => hk.1) (.int .i64 v.num)) (fun k hk => hk.1) (.slice Av ks.length cv)) (fun _ _ => trivial)
      refine ⟨.slice Av ks.length cv, by rw [KO.out.1, KO.out.2], ?_, below_set (below_set (below_set Bd.out (Nat.le_refl _)) (Nat.le_refl _)) (Nat.le_refl _)⟩
      rw [← KF.out]
      exact hR
theorem told27 : ∀ v : V, Told v
  | .int n => told_step _ (fun x hx => by simp [kidsV] at hx)
  | .fn t e => told_step _ (fun x hx => by simp [kidsV] at hx)
  | .pair a b => told_step _ (fun x hx => by
    have hx : x = a ∨ x = b := by simpa [kidsV] using hx
    exact hx.elim (fun h => h ▸ told27 a) (fun h => h ▸ told27 b))
end Go.Proofs.YtnecmclnokikoaaDoor.Run
