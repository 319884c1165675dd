/- Several texts in one. -/
import Derived.Test.YtnecmclnokikoaaDoorCP0
import Derived.Test.YtnecmclnokikoaaDoorRows
import Derived.Test.YtnecmclnokikoaaDoorCHandStr
import Derived.Lib.LaidTab
import Derived.KernelRfl
/- RunKnown: its drawn region 7, part 1 (genrk.py). -/
namespace Go.Proofs.YtnecmclnokikoaaDoor.P
open Go.RowKit Go.Proofs.YtnecmclnokikoaaDoorW.PrintWords Go.Proofs.YtnecmclnokikoaaDoorW.PrintLast Go.Proofs.YtnecmclnokikoaaDoorW.PrintMore
attribute [local go_sem] max2_int min2_int max_two min_two max_three min_three max_four min_four
set_option linter.unusedVariables false
set_option linter.unusedSimpArgs false
set_option maxHeartbeats 32000000 in
set_option maxRecDepth 100000 in
theorem rk7_1 (a0 : Int) (g4 : Nat) (A14 : Option Addr) (c14 : Nat) (v17 : Value) (A18 : Option Addr) (c18 : Nat) (g6 : Nat) (v21 : Value) (v23 : Value) (v24 : Value) (v25 : Value) (A26 : Option Addr) (c26 : Nat) (g7 : Nat) (v30 : Value) (v32 : Value) (v33 : Value) (v34 : Value) (v35 : Value) (v36 : Value) (A37 : Option Addr) (c37 : Nat) (g8 : Nat) (v39 : Value) (v43 : Value) (v44 : Value) (v45 : Value) (v47 : Value) (v49 : Value) (v50 : Value) (v52 : Value) (v54 : Value) (v55 : Value) (v56 : Value) (v57 : Value) (v58 : Value) (v60 : Value) (v62 : Value) (v64 : Value) (v65 : Value) (w x : World) {ops : Array Oper} {K : Act → World → Prop} {R : Ending → World → Prop} (hops : ops = opsOf Tryd.f5 7) (hF : ALLG x (fun _ => False) [(v65, ([⟨25, 2, []⟩, ⟨25, 3, []⟩] : List S29)), (v60, ([] : List S29)), (v58, ([⟨22, 0, [⟨25, 1, []⟩, ⟨25, 2, []⟩]⟩] : List S29)), (v50, ([⟨25, 1, []⟩, ⟨20, 0, [⟨15, 0, []⟩, ⟨26, 0, [⟨1, 0, []⟩, ⟨25, 1, []⟩]⟩]⟩] : List S29)), (v45, ([⟨20, 0, [⟨15, 0, []⟩, ⟨26, 0, [⟨1, 0, []⟩, ⟨25, 1, []⟩]⟩]⟩, ⟨25, 4, []⟩] : List S29)), (v39, ([] : List S29)), ((.slice A14 0 c14), ([] : List S29)), ((.slice A18 2 c18), ([⟨15, 0, []⟩, ⟨15, 0, []⟩] : List S29)), ((.slice A26 2 c26), ([⟨15, 0, []⟩, ⟨26, 0, [⟨1, 0, []⟩, ⟨25, 1, []⟩]⟩] : List S29)), ((.slice A37 2 c37), ([⟨15, 0, []⟩, ⟨20, 0, [⟨15, 0, []⟩, ⟨26, 0, [⟨1, 0, []⟩, ⟨1, 1, []⟩]⟩]⟩] : List S29))]) (hJ : KB w x [(g8, 20, 0, (.slice A37 2 c37)), (g7, 20, 0, (.slice A26 2 c26)), (g6, 16, 0, (.slice A18 2 c18)), (g4, 15, 0, (.slice A14 0 c14))])
    (hQ : ∀ (v66 : Value) (v67 : Value) (v68 : Value) (v69 : Value) (v70 : Value) (v72 : Value) (v74 : Value) (v76 : Value) (v77 : Value) (v78 : Value) (v80 : Value) (v82 : Value) (v83 : Value) (v85 : Value) (v87 : Value) (v88 : Value) (v89 : Value) (x' : World), ALLG x' (fun _ => False) [(v89, ([⟨26, 4, [⟨25, 2, []⟩, ⟨25, 2, []⟩]⟩, ⟨25, 1, []⟩, ⟨25, 2, []⟩] : List S29)), (v78, ([⟨25, -3, []⟩, ⟨25, 1, []⟩, ⟨25, 2, []⟩] : List S29)), (v70, ([⟨22, 0, [⟨25, 1, []⟩, ⟨22, 0, [⟨25, 2, []⟩, ⟨25, 3, []⟩]⟩]⟩] : List S29)), (v58, ([⟨22, 0, [⟨25, 1, []⟩, ⟨25, 2, []⟩]⟩] : List S29)), (v50, ([⟨25, 1, []⟩, ⟨20, 0, [⟨15, 0, []⟩, ⟨26, 0, [⟨1, 0, []⟩, ⟨25, 1, []⟩]⟩]⟩] : List S29)), (v45, ([⟨20, 0, [⟨15, 0, []⟩, ⟨26, 0, [⟨1, 0, []⟩, ⟨25, 1, []⟩]⟩]⟩, ⟨25, 4, []⟩] : List S29)), (v39, ([] : List S29)), ((.slice A14 0 c14), ([] : List S29)), ((.slice A18 2 c18), ([⟨15, 0, []⟩, ⟨15, 0, []⟩] : List S29)), ((.slice A26 2 c26), ([⟨15, 0, []⟩, ⟨26, 0, [⟨1, 0, []⟩, ⟨25, 1, []⟩]⟩] : List S29)), ((.slice A37 2 c37), ([⟨15, 0, []⟩, ⟨20, 0, [⟨15, 0, []⟩, ⟨26, 0, [⟨1, 0, []⟩, ⟨1, 1, []⟩]⟩]⟩] : List S29))] → KB w x' [(g8, 20, 0, (.slice A37 2 c37)), (g7, 20, 0, (.slice A26 2 c26)), (g6, 16, 0, (.slice A18 2 c18)), (g4, 15, 0, (.slice A14 0 c14))] → wpAnyLast Tryd.prog .any ops (Exit.then K (bodyPost Tryd.prog Tryd.f5 R)) (fun w' => w'.cell? ⟨g4, 0, none⟩ = some (.int .i64 15) ∧ w'.cell? ⟨g4, 1, none⟩ = some (.int .i64 0) ∧ w'.cell? ⟨g4, 2, none⟩ = some ((.slice A14 0 c14)) ∧ w'.cell? ⟨g6, 0, none⟩ = some (.int .i64 16) ∧ w'.cell? ⟨g6, 1, none⟩ = some (.int .i64 0) ∧ w'.cell? ⟨g6, 2, none⟩ = some ((.slice A18 2 c18)) ∧ w'.cell? ⟨g7, 0, none⟩ = some (.int .i64 20) ∧ w'.cell? ⟨g7, 1, none⟩ = some (.int .i64 0) ∧ w'.cell? ⟨g7, 2, none⟩ = some ((.slice A26 2 c26)) ∧ w'.cell? ⟨g8, 0, none⟩ = some (.int .i64 20) ∧ w'.cell? ⟨g8, 1, none⟩ = some (.int .i64 0) ∧ w'.cell? ⟨g8, 2, none⟩ = some ((.slice A37 2 c37))) [] 68 (bl 153 457223903692353016069030977467399476409794559) ({ tmps := #[.int .i64 a0, undef, .bool false, .func (.func 20) #[] #[], .pointer (some ⟨g4, 0, none⟩), .func (.func 22) #[] #[], .pointer (some ⟨g6, 0, none⟩), .pointer (some ⟨g7, 0, none⟩), .pointer (some ⟨g8, 0, none⟩), undef, undef, undef, .bool true, .bool false, .agg #[.int .i64 (15), .int .i64 (0), (.slice A14 0 c14)], .agg #[.int .i64 (15), .int .i64 (0), (.slice A14 0 c14)], .agg #[.int .i64 (15), .int .i64 (0), (.slice A14 0 c14)], v17, .agg #[.int .i64 (16), .int .i64 (0), (.slice A18 2 c18)], .agg #[.int .i64 (15), .int .i64 (0), (.slice A14 0 c14)], .func (.func 20) #[] #[], .agg #[.int .i64 (1), .int .i64 (0), v21], .func (.func 22) #[] #[], .agg #[.int .i64 (25), .int .i64 (1), v23], .agg #[.int .i64 (26), .int .i64 (0), v24], v25, .agg #[.int .i64 (20), .int .i64 (0), (.slice A26 2 c26)], .agg #[.int .i64 (15), .int .i64 (0), (.slice A14 0 c14)], .agg #[.int .i64 (15), .int .i64 (0), (.slice A14 0 c14)], .func (.func 20) #[] #[], .agg #[.int .i64 (1), .int .i64 (0), v30], .func (.func 20) #[] #[], .agg #[.int .i64 (1), .int .i64 (1), v32], .agg #[.int .i64 (26), .int .i64 (0), v33], v34, .agg #[.int .i64 (20), .int .i64 (0), v35], v36, .agg #[.int .i64 (20), .int .i64 (0), (.slice A37 2 c37)], .func (.func 22) #[] #[], .agg #[.int .i64 (25), .int .i64 (7), v39], .agg #[.int .i64 (20), .int .i64 (0), (.slice A26 2 c26)], .agg #[.int .i64 (20), .int .i64 (0), (.slice A26 2 c26)], .func (.func 22) #[] #[], .agg #[.int .i64 (25), .int .i64 (4), v43], v44, .agg #[.int .i64 (21), .int .i64 (0), v45], .func (.func 22) #[] #[], .agg #[.int .i64 (25), .int .i64 (1), v47], .agg #[.int .i64 (20), .int .i64 (0), (.slice A26 2 c26)], v49, .agg #[.int .i64 (22), .int .i64 (0), v50], .func (.func 22) #[] #[], .agg #[.int .i64 (25), .int .i64 (1), v52], .func (.func 22) #[] #[], .agg #[.int .i64 (25), .int .i64 (2), v54], v55, .agg #[.int .i64 (22), .int .i64 (0), v56], v57, .agg #[.int .i64 (23), .int .i64 (0), v58], .func (.func 22) #[] #[], .agg #[.int .i64 (25), .int .i64 (1), v60], .func (.func 22) #[] #[], .agg #[.int .i64 (25), .int .i64 (2), v62], .func (.func 22) #[] #[], .agg #[.int .i64 (25), .int .i64 (3), v64], v65, .agg #[.int .i64 (22), .int .i64 (0), v66], v67, .agg #[.int .i64 (22), .int .i64 (0), v68], v69, .agg #[.int .i64 (24), .int .i64 (0), v70], .func (.func 22) #[] #[], .agg #[.int .i64 (25), .int .i64 (-3), v72], .func (.func 22) #[] #[], .agg #[.int .i64 (25), .int .i64 (1), v74], .func (.func 22) #[] #[], .agg #[.int .i64 (25), .int .i64 (2), v76], v77, .agg #[.int .i64 (27), .int .i64 (0), v78], .func (.func 22) #[] #[], .agg #[.int .i64 (25), .int .i64 (2), v80], .func (.func 22) #[] #[], .agg #[.int .i64 (25), .int .i64 (2), v82], .agg #[.int .i64 (26), .int .i64 (4), v83], .func (.func 22) #[] #[], .agg #[.int .i64 (25), .int .i64 (1), v85], .func (.func 22) #[] #[], .agg #[.int .i64 (25), .int .i64 (2), v87], v88, .agg #[.int .i64 (27), .int .i64 (0), v89], .func (.func 22) #[] #[], undef, .func (.func 20) #[] #[], undef, .func (.func 20) #[] #[], undef, undef, undef, undef, .agg #[.int .i64 (20), .int .i64 (0), (.slice A37 2 c37)], .func (.func 22) #[] #[], undef, undef, undef, .func (.func 22) #[] #[], undef, undef, undef, .func (.func 22) #[] #[], undef, .agg #[.int .i64 (15), .int .i64 (0), (.slice A14 0 c14)], .func (.func 20) #[] #[], undef, undef, undef, .func (.func 22) #[] #[], undef, .func (.func 20) #[] #[], undef, .func (.func 22) #[] #[], undef, undef, undef, undef, undef, undef, undef, undef, undef, .func (.func 22) #[] #[], undef, .func (.func 22) #[] #[], undef, undef, .func (.func 22) #[] #[], undef, .func (.func 22) #[] #[], undef, undef, .func (.func 22) #[] #[], undef, .func (.func 22) #[] #[], undef, .func (.func 22) #[] #[], undef, undef, .func (.func 22) #[] #[], undef, undef, undef, .func (.func 22) #[] #[], undef, .func (.func 22) #[] #[], undef, undef, .func (.func 22) #[] #[], undef, undef, undef, .func (.func 22) #[] #[], undef, .func (.func 22) #[] #[], undef, undef, .func (.func 22) #[] #[], undef, undef, undef, .agg #[.int .i64 (16), .int .i64 (0), (.slice A18 2 c18)], .func (.func 20) #[] #[], undef, .func (.func 20) #[] #[], undef, .func (.func 22) #[] #[], undef, undef, undef, undef, undef, undef, undef, .agg #[.int .i64 (20), .int .i64 (0), (.slice A26 2 c26)], undef, undef, .func (.func 22) #[] #[], undef, .func (.func 22) #[] #[], undef, undef, undef, undef, undef, undef, undef, undef, undef, undef, undef, undef, undef, undef, undef, undef, undef, undef], defers := [] } : Act) x') :
    wpAnyLast Tryd.prog .any ops (Exit.then K (bodyPost Tryd.prog Tryd.f5 R)) (fun w' => w'.cell? ⟨g4, 0, none⟩ = some (.int .i64 15) ∧ w'.cell? ⟨g4, 1, none⟩ = some (.int .i64 0) ∧ w'.cell? ⟨g4, 2, none⟩ = some ((.slice A14 0 c14)) ∧ w'.cell? ⟨g6, 0, none⟩ = some (.int .i64 16) ∧ w'.cell? ⟨g6, 1, none⟩ = some (.int .i64 0) ∧ w'.cell? ⟨g6, 2, none⟩ = some ((.slice A18 2 c18)) ∧ w'.cell? ⟨g7, 0, none⟩ = some (.int .i64 20) ∧ w'.cell? ⟨g7, 1, none⟩ = some (.int .i64 0) ∧ w'.cell? ⟨g7, 2, none⟩ = some ((.slice A26 2 c26)) ∧ w'.cell? ⟨g8, 0, none⟩ = some (.int .i64 20) ∧ w'.cell? ⟨g8, 1, none⟩ = some (.int .i64 0) ∧ w'.cell? ⟨g8, 2, none⟩ = some ((.slice A37 2 c37))) [] 85 (bl 153 457223903692353016069030977463258896276652031) ({ tmps := #[.int .i64 a0, undef, .bool false, .func (.func 20) #[] #[], .pointer (some ⟨g4, 0, none⟩), .func (.func 22) #[] #[], .pointer (some ⟨g6, 0, none⟩), .pointer (some ⟨g7, 0, none⟩), .pointer (some ⟨g8, 0, none⟩), undef, undef, undef, .bool true, .bool false, .agg #[.int .i64 (15), .int .i64 (0), (.slice A14 0 c14)], .agg #[.int .i64 (15), .int .i64 (0), (.slice A14 0 c14)], .agg #[.int .i64 (15), .int .i64 (0), (.slice A14 0 c14)], v17, .agg #[.int .i64 (16), .int .i64 (0), (.slice A18 2 c18)], .agg #[.int .i64 (15), .int .i64 (0), (.slice A14 0 c14)], .func (.func 20) #[] #[], .agg #[.int .i64 (1), .int .i64 (0), v21], .func (.func 22) #[] #[], .agg #[.int .i64 (25), .int .i64 (1), v23], .agg #[.int .i64 (26), .int .i64 (0), v24], v25, .agg #[.int .i64 (20), .int .i64 (0), (.slice A26 2 c26)], .agg #[.int .i64 (15), .int .i64 (0), (.slice A14 0 c14)], .agg #[.int .i64 (15), .int .i64 (0), (.slice A14 0 c14)], .func (.func 20) #[] #[], .agg #[.int .i64 (1), .int .i64 (0), v30], .func (.func 20) #[] #[], .agg #[.int .i64 (1), .int .i64 (1), v32], .agg #[.int .i64 (26), .int .i64 (0), v33], v34, .agg #[.int .i64 (20), .int .i64 (0), v35], v36, .agg #[.int .i64 (20), .int .i64 (0), (.slice A37 2 c37)], .func (.func 22) #[] #[], .agg #[.int .i64 (25), .int .i64 (7), v39], .agg #[.int .i64 (20), .int .i64 (0), (.slice A26 2 c26)], .agg #[.int .i64 (20), .int .i64 (0), (.slice A26 2 c26)], .func (.func 22) #[] #[], .agg #[.int .i64 (25), .int .i64 (4), v43], v44, .agg #[.int .i64 (21), .int .i64 (0), v45], .func (.func 22) #[] #[], .agg #[.int .i64 (25), .int .i64 (1), v47], .agg #[.int .i64 (20), .int .i64 (0), (.slice A26 2 c26)], v49, .agg #[.int .i64 (22), .int .i64 (0), v50], .func (.func 22) #[] #[], .agg #[.int .i64 (25), .int .i64 (1), v52], .func (.func 22) #[] #[], .agg #[.int .i64 (25), .int .i64 (2), v54], v55, .agg #[.int .i64 (22), .int .i64 (0), v56], v57, .agg #[.int .i64 (23), .int .i64 (0), v58], .func (.func 22) #[] #[], .agg #[.int .i64 (25), .int .i64 (1), v60], .func (.func 22) #[] #[], .agg #[.int .i64 (25), .int .i64 (2), v62], .func (.func 22) #[] #[], .agg #[.int .i64 (25), .int .i64 (3), v64], v65, undef, undef, undef, undef, undef, .func (.func 22) #[] #[], undef, .func (.func 22) #[] #[], undef, .func (.func 22) #[] #[], undef, undef, undef, .func (.func 22) #[] #[], undef, .func (.func 22) #[] #[], undef, undef, .func (.func 22) #[] #[], undef, .func (.func 22) #[] #[], undef, undef, undef, .func (.func 22) #[] #[], undef, .func (.func 20) #[] #[], undef, .func (.func 20) #[] #[], undef, undef, undef, undef, .agg #[.int .i64 (20), .int .i64 (0), (.slice A37 2 c37)], .func (.func 22) #[] #[], undef, undef, undef, .func (.func 22) #[] #[], undef, undef, undef, .func (.func 22) #[] #[], undef, .agg #[.int .i64 (15), .int .i64 (0), (.slice A14 0 c14)], .func (.func 20) #[] #[], undef, undef, undef, .func (.func 22) #[] #[], undef, .func (.func 20) #[] #[], undef, .func (.func 22) #[] #[], undef, undef, undef, undef, undef, undef, undef, undef, undef, .func (.func 22) #[] #[], undef, .func (.func 22) #[] #[], undef, undef, .func (.func 22) #[] #[], undef, .func (.func 22) #[] #[], undef, undef, .func (.func 22) #[] #[], undef, .func (.func 22) #[] #[], undef, .func (.func 22) #[] #[], undef, undef, .func (.func 22) #[] #[], undef, undef, undef, .func (.func 22) #[] #[], undef, .func (.func 22) #[] #[], undef, undef, .func (.func 22) #[] #[], undef, undef, undef, .func (.func 22) #[] #[], undef, .func (.func 22) #[] #[], undef, undef, .func (.func 22) #[] #[], undef, undef, undef, .agg #[.int .i64 (16), .int .i64 (0), (.slice A18 2 c18)], .func (.func 20) #[] #[], undef, .func (.func 20) #[] #[], undef, .func (.func 22) #[] #[], undef, undef, undef, undef, undef, undef, undef, .agg #[.int .i64 (20), .int .i64 (0), (.slice A26 2 c26)], undef, undef, .func (.func 22) #[] #[], undef, .func (.func 22) #[] #[], undef, undef, undef, undef, undef, undef, undef, undef, undef, undef, undef, undef, undef, undef, undef, undef, undef, undef], defers := [] } : Act) x := by
  subst hops
  have hu29 := Tryd.underlying29
  conv in (occs := *) (opsOf Tryd.f5 7) => all_goals whnf
  have F := Aside0.mk hF
  have J := Aside0.mk hJ
  clear hF hJ
  refine with_tabW rk7.tab7 rk7.bits7 (fun HT_ HW_ => ?_)
  refine one_ (i := 28) (N := (some 66)) (bl 153 457223903692353016069030977463258896545087487) rfl rfl (one_of HT_.out (by kernel_rfl)) (by decide) (fun K hK => ?_)
  refine goes_ Tryd.func21 (by kernel_rfl) rfl #[.int .i64 22, v65] (by rfl) rfl rfl (by (try simp only [List.map_toArray, List.map_cons, List.map_nil]); first | done | rfl | (simp only [List.length_drop, List.length_take]; rfl)) ?_
  refine (T_goG 22 _ _ _ (fun _ => False) (fun _ h => h.elim) (F.out (_, _) mem_x)).mono ?_
  rintro e w66 ⟨v66, rfl, hv_, hb_⟩
  refine ⟨_, rfl, ?_⟩
  replace F := Aside0.mk (allg_step F.out hb_ hv_)
  replace J := Aside0.mk (J.out.below hb_)
  clear hb_ hv_
  refine hK.out _ _ (KB.four J.out) (fun hHeld => ?_)
  clear hK K
  refine norm_ (a' := ?_) ?_ ?_
  rotate_left
  · show Act.put _ (some 66) _ = _
    simp only [Act.put, List.setIfInBounds_toArray, List.set_cons_zero, List.set_cons_succ, i64_w, i32_w, u8_w, u32_w]
    rfl
  refine one_ (i := 29) (N := (some 67)) (bl 153 457223903692353016069030977463258897081958399) rfl rfl (one_of HT_.out (by kernel_rfl)) (by decide) (fun K hK => ?_)
  refine lit_step_goG (fun _ => False) (fun _ h => h.elim) ?hg (N' := 67) ?hd (xs := ([⟨25, 1, []⟩, ⟨22, 0, [⟨25, 2, []⟩, ⟨25, 3, []⟩]⟩] : List S29)) (inner := ?inn67_23) ?hr ?hp (by simp) ?_
  (case hd => rfl)
  (case hg => rfl)
  (case hr => first | (go_simp; done) | (go_simp; rfl))
  (case hp => exact Reps.c3 ⟨_, rfl, F.out (_, _) mem_x⟩ (Reps.c3 ⟨_, rfl, F.out (_, _) mem_x⟩ (Reps.none _ _)))
  intro v67 w67 hv_ hb_
  replace F := Aside0.mk (allg_step F.out hb_ hv_)
  replace J := Aside0.mk (J.out.below hb_)
  clear hb_ hv_
  refine hK.out _ _ (KB.four J.out) (fun hHeld => ?_)
  clear hK K
  refine norm_ (a' := ?_) ?_ ?_
  rotate_left
  · show Act.put _ (some 67) _ = _
    simp only [Act.put, List.setIfInBounds_toArray, List.set_cons_zero, List.set_cons_succ, i64_w, i32_w, u8_w, u32_w]
    rfl
  refine one_ (i := 30) (N := (some 68)) (bl 153 457223903692353016069030977463258898155700223) rfl rfl (one_of HT_.out (by kernel_rfl)) (by decide) (fun K hK => ?_)
  refine goes_ Tryd.func21 (by kernel_rfl) rfl #[.int .i64 22, v67] (by rfl) rfl rfl (by (try simp only [List.map_toArray, List.map_cons, List.map_nil]); first | done | rfl | (simp only [List.length_drop, List.length_take]; rfl)) ?_
  refine (T_goG 22 _ _ _ (fun _ => False) (fun _ h => h.elim) (F.out (_, _) mem_x)).mono ?_
  rintro e w68 ⟨v68, rfl, hv_, hb_⟩
  refine ⟨_, rfl, ?_⟩
  replace F := Aside0.mk (allg_step F.out hb_ hv_)
  replace J := Aside0.mk (J.out.below hb_)
  clear hb_ hv_
  refine hK.out _ _ (KB.four J.out) (fun hHeld => ?_)
  clear hK K
  refine norm_ (a' := ?_) ?_ ?_
  rotate_left
  · show Act.put _ (some 68) _ = _
    simp only [Act.put, List.setIfInBounds_toArray, List.set_cons_zero, List.set_cons_succ, i64_w, i32_w, u8_w, u32_w]
    rfl
  refine one_ (i := 31) (N := (some 69)) (bl 153 457223903692353016069030977463258900303183871) rfl rfl (one_of HT_.out (by kernel_rfl)) (by decide) (fun K hK => ?_)
  refine lit_step_goG (fun _ => False) (fun _ h => h.elim) ?hg (N' := 69) ?hd (xs := ([⟨22, 0, [⟨25, 1, []⟩, ⟨22, 0, [⟨25, 2, []⟩, ⟨25, 3, []⟩]⟩]⟩] : List S29)) (inner := ?inn69_24) ?hr ?hp (by simp) ?_
  (case hd => rfl)
  (case hg => rfl)
  (case hr => first | (go_simp; done) | (go_simp; rfl))
  (case hp => exact Reps.c3 ⟨_, rfl, F.out (_, _) mem_x⟩ (Reps.none _ _))
  intro v69 w69 hv_ hb_
  replace F := Aside0.mk (allg_step F.out hb_ hv_)
  replace J := Aside0.mk (J.out.below hb_)
  clear hb_ hv_
  refine hK.out _ _ (KB.four J.out) (fun hHeld => ?_)
  clear hK K
  refine norm_ (a' := ?_) ?_ ?_
  rotate_left
  · show Act.put _ (some 69) _ = _
    simp only [Act.put, List.setIfInBounds_toArray, List.set_cons_zero, List.set_cons_succ, i64_w, i32_w, u8_w, u32_w]
    rfl
  refine one_ (i := 32) (N := (some 70)) (bl 153 457223903692353016069030977463258904598151167) rfl rfl (one_of HT_.out (by kernel_rfl)) (by decide) (fun K hK => ?_)
  refine goes_ Tryd.func21 (by kernel_rfl) rfl #[.int .i64 24, v69] (by rfl) rfl rfl (by (try simp only [List.map_toArray, List.map_cons, List.map_nil]); first | done | rfl | (simp only [List.length_drop, List.length_take]; rfl)) ?_
  refine (T_goG 24 _ _ _ (fun _ => False) (fun _ h => h.elim) (F.out (_, _) mem_x)).mono ?_
  rintro e w70 ⟨v70, rfl, hv_, hb_⟩
  refine ⟨_, rfl, ?_⟩
  replace F := Aside0.mk (allg_step F.out hb_ hv_)
  replace J := Aside0.mk (J.out.below hb_)
  clear hb_ hv_
  refine hK.out _ _ (KB.four J.out) (fun hHeld => ?_)
  clear hK K
  refine norm_ (a' := ?_) ?_ ?_
  rotate_left
  · show Act.put _ (some 70) _ = _
    simp only [Act.put, List.setIfInBounds_toArray, List.set_cons_zero, List.set_cons_succ, i64_w, i32_w, u8_w, u32_w]
    rfl
  refine one_ (i := 34) (N := (some 72)) (bl 153 457223903692353016069030977463258921778020351) rfl rfl (one_of HT_.out (by kernel_rfl)) (by decide) (fun K hK => ?_)
  refine goesV_ Tryd.func22 (by kernel_rfl) rfl #[.int .i64 (-3)] (by rfl) rfl rfl rfl (by (try simp only [List.map_toArray, List.map_cons, List.map_nil]); first | done | rfl | (simp only [List.length_drop, List.length_take]; rfl)) ?_
  refine (Int_goG (-3) _ (fun _ => False) (fun _ h => h.elim)).mono ?_
  rintro e w72 ⟨v72, rfl, hv_, hb_⟩
  refine ⟨_, rfl, ?_⟩
  replace F := Aside0.mk (allg_step F.out hb_ hv_)
  replace J := Aside0.mk (J.out.below hb_)
  clear hb_ hv_
  refine hK.out _ _ (KB.four J.out) (fun hHeld => ?_)
  clear hK K
  refine norm_ (a' := ?_) ?_ ?_
  rotate_left
  · show Act.put _ (some 72) _ = _
    simp only [Act.put, List.setIfInBounds_toArray, List.set_cons_zero, List.set_cons_succ, i64_w, i32_w, u8_w, u32_w]
    rfl
  refine one_ (i := 36) (N := (some 74)) (bl 153 457223903692353016069030977463258990497497087) rfl rfl (one_of HT_.out (by kernel_rfl)) (by decide) (fun K hK => ?_)
  refine goesV_ Tryd.func22 (by kernel_rfl) rfl #[.int .i64 (1)] (by rfl) rfl rfl rfl (by (try simp only [List.map_toArray, List.map_cons, List.map_nil]); first | done | rfl | (simp only [List.length_drop, List.length_take]; rfl)) ?_
  refine (Int_goG (1) _ (fun _ => False) (fun _ h => h.elim)).mono ?_
  rintro e w74 ⟨v74, rfl, hv_, hb_⟩
  refine ⟨_, rfl, ?_⟩
  replace F := Aside0.mk (allg_step F.out hb_ hv_)
  replace J := Aside0.mk (J.out.below hb_)
  clear hb_ hv_
  refine hK.out _ _ (KB.four J.out) (fun hHeld => ?_)
  clear hK K
  refine norm_ (a' := ?_) ?_ ?_
  rotate_left
  · show Act.put _ (some 74) _ = _
    simp only [Act.put, List.setIfInBounds_toArray, List.set_cons_zero, List.set_cons_succ, i64_w, i32_w, u8_w, u32_w]
    rfl
  refine one_ (i := 38) (N := (some 76)) (bl 153 457223903692353016069030977463259265375404031) rfl rfl (one_of HT_.out (by kernel_rfl)) (by decide) (fun K hK => ?_)
  refine goesV_ Tryd.func22 (by kernel_rfl) rfl #[.int .i64 (2)] (by rfl) rfl rfl rfl (by (try simp only [List.map_toArray, List.map_cons, List.map_nil]); first | done | rfl | (simp only [List.length_drop, List.length_take]; rfl)) ?_
  refine (Int_goG (2) _ (fun _ => False) (fun _ h => h.elim)).mono ?_
  rintro e w76 ⟨v76, rfl, hv_, hb_⟩
  refine ⟨_, rfl, ?_⟩
  replace F := Aside0.mk (allg_step F.out hb_ hv_)
  replace J := Aside0.mk (J.out.below hb_)
  clear hb_ hv_
  refine hK.out _ _ (KB.four J.out) (fun hHeld => ?_)
  clear hK K
  refine norm_ (a' := ?_) ?_ ?_
  rotate_left
  · show Act.put _ (some 76) _ = _
    simp only [Act.put, List.setIfInBounds_toArray, List.set_cons_zero, List.set_cons_succ, i64_w, i32_w, u8_w, u32_w]
    rfl
  refine one_ (i := 39) (N := (some 77)) (bl 153 457223903692353016069030977463259815131217919) rfl rfl (one_of HT_.out (by kernel_rfl)) (by decide) (fun K hK => ?_)
  refine lit_step_goG (fun _ => False) (fun _ h => h.elim) ?hg (N' := 77) ?hd (xs := ([⟨25, -3, []⟩, ⟨25, 1, []⟩, ⟨25, 2, []⟩] : List S29)) (inner := ?inn77_25) ?hr ?hp (by simp) ?_
  (case hd => rfl)
  (case hg => rfl)
  (case hr => first | (go_simp; done) | (go_simp; rfl))
  (case hp => exact Reps.c3 ⟨_, rfl, F.out (_, _) mem_x⟩ (Reps.c3 ⟨_, rfl, F.out (_, _) mem_x⟩ (Reps.c3 ⟨_, rfl, F.out (_, _) mem_x⟩ (Reps.none _ _))))
  intro v77 w77 hv_ hb_
  replace F := Aside0.mk (allg_step F.out hb_ hv_)
  replace J := Aside0.mk (J.out.below hb_)
  clear hb_ hv_
  refine hK.out _ _ (KB.four J.out) (fun hHeld => ?_)
  clear hK K
  refine norm_ (a' := ?_) ?_ ?_
  rotate_left
  · show Act.put _ (some 77) _ = _
    simp only [Act.put, List.setIfInBounds_toArray, List.set_cons_zero, List.set_cons_succ, i64_w, i32_w, u8_w, u32_w]
    rfl
  refine one_ (i := 40) (N := (some 78)) (bl 153 457223903692353016069030977463260914642845695) rfl rfl (one_of HT_.out (by kernel_rfl)) (by decide) (fun K hK => ?_)
  refine goes_ Tryd.func21 (by kernel_rfl) rfl #[.int .i64 27, v77] (by rfl) rfl rfl (by (try simp only [List.map_toArray, List.map_cons, List.map_nil]); first | done | rfl | (simp only [List.length_drop, List.length_take]; rfl)) ?_
  refine (T_goG 27 _ _ _ (fun _ => False) (fun _ h => h.elim) (F.out (_, _) mem_x)).mono ?_
  rintro e w78 ⟨v78, rfl, hv_, hb_⟩
  refine ⟨_, rfl, ?_⟩
  replace F := Aside0.mk (allg_step F.out hb_ hv_)
  replace J := Aside0.mk (J.out.below hb_)
  clear hb_ hv_
  refine hK.out _ _ (KB.four J.out) (fun hHeld => ?_)
  clear hK K
  refine norm_ (a' := ?_) ?_ ?_
  rotate_left
  · show Act.put _ (some 78) _ = _
    simp only [Act.put, List.setIfInBounds_toArray, List.set_cons_zero, List.set_cons_succ, i64_w, i32_w, u8_w, u32_w]
    rfl
  refine one_ (i := 42) (N := (some 80)) (bl 153 457223903692353016069030977463265312689356799) rfl rfl (one_of HT_.out (by kernel_rfl)) (by decide) (fun K hK => ?_)
  refine goesV_ Tryd.func22 (by kernel_rfl) rfl #[.int .i64 (2)] (by rfl) rfl rfl rfl (by (try simp only [List.map_toArray, List.map_cons, List.map_nil]); first | done | rfl | (simp only [List.length_drop, List.length_take]; rfl)) ?_
  refine (Int_goG (2) _ (fun _ => False) (fun _ h => h.elim)).mono ?_
  rintro e w80 ⟨v80, rfl, hv_, hb_⟩
  refine ⟨_, rfl, ?_⟩
  replace F := Aside0.mk (allg_step F.out hb_ hv_)
  replace J := Aside0.mk (J.out.below hb_)
  clear hb_ hv_
  refine hK.out _ _ (KB.four J.out) (fun hHeld => ?_)
  clear hK K
  refine norm_ (a' := ?_) ?_ ?_
  rotate_left
  · show Act.put _ (some 80) _ = _
    simp only [Act.put, List.setIfInBounds_toArray, List.set_cons_zero, List.set_cons_succ, i64_w, i32_w, u8_w, u32_w]
    rfl
  refine one_ (i := 44) (N := (some 82)) (bl 153 457223903692353016069030977463282904875401215) rfl rfl (one_of HT_.out (by kernel_rfl)) (by decide) (fun K hK => ?_)
  refine goesV_ Tryd.func22 (by kernel_rfl) rfl #[.int .i64 (2)] (by rfl) rfl rfl rfl (by (try simp only [List.map_toArray, List.map_cons, List.map_nil]); first | done | rfl | (simp only [List.length_drop, List.length_take]; rfl)) ?_
  refine (Int_goG (2) _ (fun _ => False) (fun _ h => h.elim)).mono ?_
  rintro e w82 ⟨v82, rfl, hv_, hb_⟩
  refine ⟨_, rfl, ?_⟩
  replace F := Aside0.mk (allg_step F.out hb_ hv_)
  replace J := Aside0.mk (J.out.below hb_)
  clear hb_ hv_
  refine hK.out _ _ (KB.four J.out) (fun hHeld => ?_)
  clear hK K
  refine norm_ (a' := ?_) ?_ ?_
  rotate_left
  · show Act.put _ (some 82) _ = _
    simp only [Act.put, List.setIfInBounds_toArray, List.set_cons_zero, List.set_cons_succ, i64_w, i32_w, u8_w, u32_w]
    rfl
  refine one_ (i := 45) (N := (some 83)) (bl 153 457223903692353016069030977463318089247490047) rfl rfl (one_of HT_.out (by kernel_rfl)) (by decide) (fun K hK => ?_)
  refine goes_ Tryd.func23 (by kernel_rfl) rfl #[.int .i64 4, .agg #[.int .i64 (25), .int .i64 (2), v80], .agg #[.int .i64 (25), .int .i64 (2), v82]] (by rfl) rfl rfl (by (try simp only [List.map_toArray, List.map_cons, List.map_nil]); first | done | rfl | (simp only [List.length_drop, List.length_take]; rfl)) ?_
  refine (prim_goG 4 ⟨25, 2, []⟩ ⟨25, 2, []⟩ _ _ _ (fun _ => False) (fun _ h => h.elim) (F.out (_, _) mem_x) (F.out (_, _) mem_x)).mono ?_
  rintro e w83 ⟨v83, rfl, hv_, hb_⟩
  refine ⟨_, rfl, ?_⟩
  replace F := Aside0.mk (allg_step F.out hb_ hv_)
  replace J := Aside0.mk (J.out.below hb_)
  clear hb_ hv_
  refine hK.out _ _ (KB.four J.out) (fun hHeld => ?_)
  clear hK K
  refine norm_ (a' := ?_) ?_ ?_
  rotate_left
  · show Act.put _ (some 83) _ = _
    simp only [Act.put, List.setIfInBounds_toArray, List.set_cons_zero, List.set_cons_succ, i64_w, i32_w, u8_w, u32_w]
    rfl
  refine one_ (i := 47) (N := (some 85)) (bl 153 457223903692353016069030977463458826735845375) rfl rfl (one_of HT_.out (by kernel_rfl)) (by decide) (fun K hK => ?_)
  refine goesV_ Tryd.func22 (by kernel_rfl) rfl #[.int .i64 (1)] (by rfl) rfl rfl rfl (by (try simp only [List.map_toArray, List.map_cons, List.map_nil]); first | done | rfl | (simp only [List.length_drop, List.length_take]; rfl)) ?_
  refine (Int_goG (1) _ (fun _ => False) (fun _ h => h.elim)).mono ?_
  rintro e w85 ⟨v85, rfl, hv_, hb_⟩
  refine ⟨_, rfl, ?_⟩
  replace F := Aside0.mk (allg_step F.out hb_ hv_)
  replace J := Aside0.mk (J.out.below hb_)
  clear hb_ hv_
  refine hK.out _ _ (KB.four J.out) (fun hHeld => ?_)
  clear hK K
  refine norm_ (a' := ?_) ?_ ?_
  rotate_left
  · show Act.put _ (some 85) _ = _
    simp only [Act.put, List.setIfInBounds_toArray, List.set_cons_zero, List.set_cons_succ, i64_w, i32_w, u8_w, u32_w]
    rfl
  refine one_ (i := 49) (N := (some 87)) (bl 153 457223903692353016069030977464021776689266687) rfl rfl (one_of HT_.out (by kernel_rfl)) (by decide) (fun K hK => ?_)
  refine goesV_ Tryd.func22 (by kernel_rfl) rfl #[.int .i64 (2)] (by rfl) rfl rfl rfl (by (try simp only [List.map_toArray, List.map_cons, List.map_nil]); first | done | rfl | (simp only [List.length_drop, List.length_take]; rfl)) ?_
  refine (Int_goG (2) _ (fun _ => False) (fun _ h => h.elim)).mono ?_
  rintro e w87 ⟨v87, rfl, hv_, hb_⟩
  refine ⟨_, rfl, ?_⟩
  replace F := Aside0.mk (allg_step F.out hb_ hv_)
  replace J := Aside0.mk (J.out.below hb_)
  clear hb_ hv_
  refine hK.out _ _ (KB.four J.out) (fun hHeld => ?_)
  clear hK K
  refine norm_ (a' := ?_) ?_ ?_
  rotate_left
  · show Act.put _ (some 87) _ = _
    simp only [Act.put, List.setIfInBounds_toArray, List.set_cons_zero, List.set_cons_succ, i64_w, i32_w, u8_w, u32_w]
    rfl
  refine one_ (i := 50) (N := (some 88)) (bl 153 457223903692353016069030977465147676596109311) rfl rfl (one_of HT_.out (by kernel_rfl)) (by decide) (fun K hK => ?_)
  refine lit_step_goG (fun _ => False) (fun _ h => h.elim) ?hg (N' := 88) ?hd (xs := ([⟨26, 4, [⟨25, 2, []⟩, ⟨25, 2, []⟩]⟩, ⟨25, 1, []⟩, ⟨25, 2, []⟩] : List S29)) (inner := ?inn88_26) ?hr ?hp (by simp) ?_
  (case hd => rfl)
  (case hg => rfl)
  (case hr => first | (go_simp; done) | (go_simp; rfl))
  (case hp => exact Reps.c3 ⟨_, rfl, F.out (_, _) mem_x⟩ (Reps.c3 ⟨_, rfl, F.out (_, _) mem_x⟩ (Reps.c3 ⟨_, rfl, F.out (_, _) mem_x⟩ (Reps.none _ _))))
  intro v88 w88 hv_ hb_
  replace F := Aside0.mk (allg_step F.out hb_ hv_)
  replace J := Aside0.mk (J.out.below hb_)
  clear hb_ hv_
  refine hK.out _ _ (KB.four J.out) (fun hHeld => ?_)
  clear hK K
  refine norm_ (a' := ?_) ?_ ?_
  rotate_left
  · show Act.put _ (some 88) _ = _
    simp only [Act.put, List.setIfInBounds_toArray, List.set_cons_zero, List.set_cons_succ, i64_w, i32_w, u8_w, u32_w]
    rfl
  refine one_ (i := 51) (N := (some 89)) (bl 153 457223903692353016069030977467399476409794559) rfl rfl (one_of HT_.out (by kernel_rfl)) (by decide) (fun K hK => ?_)
  refine goes_ Tryd.func21 (by kernel_rfl) rfl #[.int .i64 27, v88] (by rfl) rfl rfl (by (try simp only [List.map_toArray, List.map_cons, List.map_nil]); first | done | rfl | (simp only [List.length_drop, List.length_take]; rfl)) ?_
  refine (T_goG 27 _ _ _ (fun _ => False) (fun _ h => h.elim) (F.out (_, _) mem_x)).mono ?_
  rintro e w89 ⟨v89, rfl, hv_, hb_⟩
  refine ⟨_, rfl, ?_⟩
  replace F := Aside0.mk (allg_step F.out hb_ hv_)
  replace J := Aside0.mk (J.out.below hb_)
  clear hb_ hv_
  refine hK.out _ _ (KB.four J.out) (fun hHeld => ?_)
  clear hK K
  refine norm_ (a' := ?_) ?_ ?_
  rotate_left
  · show Act.put _ (some 89) _ = _
    simp only [Act.put, List.setIfInBounds_toArray, List.set_cons_zero, List.set_cons_succ, i64_w, i32_w, u8_w, u32_w]
    rfl
  exact hQ v66 v67 v68 v69 v70 v72 v74 v76 v77 v78 v80 v82 v83 v85 v87 v88 v89 _ ((allg_cons (F.out (_, _) mem_x) (allg_cons (F.out (_, _) mem_x) (allg_cons (F.out (_, _) mem_x) (allg_cons (F.out (_, _) mem_x) (allg_cons (F.out (_, _) mem_x) (allg_cons (F.out (_, _) mem_x) (allg_cons (F.out (_, _) mem_x) (allg_cons (F.out (_, _) mem_x) (allg_cons (F.out (_, _) mem_x) (allg_cons (F.out (_, _) mem_x) (allg_cons (F.out (_, _) mem_x) (allg_nil _ _))))))))))))) J.out
end Go.Proofs.YtnecmclnokikoaaDoor.P
/- RunKnown: its drawn region 7, part 2 (genrk.py). -/
namespace Go.Proofs.YtnecmclnokikoaaDoor.P
open Go.RowKit Go.Proofs.YtnecmclnokikoaaDoorW.PrintWords Go.Proofs.YtnecmclnokikoaaDoorW.PrintLast Go.Proofs.YtnecmclnokikoaaDoorW.PrintMore
attribute [local go_sem] max2_int min2_int max_two min_two max_three min_three max_four min_four
set_option linter.unusedVariables false
set_option linter.unusedSimpArgs false
set_option maxHeartbeats 32000000 in
set_option maxRecDepth 100000 in
theorem rk7_2 (a0 : Int) (g4 : Nat) (A14 : Option Addr) (c14 : Nat) (v17 : Value) (A18 : Option Addr) (c18 : Nat) (g6 : Nat) (v21 : Value) (v23 : Value) (v24 : Value) (v25 : Value) (A26 : Option Addr) (c26 : Nat) (g7 : Nat) (v30 : Value) (v32 : Value) (v33 : Value) (v34 : Value) (v35 : Value) (v36 : Value) (A37 : Option Addr) (c37 : Nat) (g8 : Nat) (v39 : Value) (v43 : Value) (v44 : Value) (v45 : Value) (v47 : Value) (v49 : Value) (v50 : Value) (v52 : Value) (v54 : Value) (v55 : Value) (v56 : Value) (v57 : Value) (v58 : Value) (v60 : Value) (v62 : Value) (v64 : Value) (v65 : Value) (v66 : Value) (v67 : Value) (v68 : Value) (v69 : Value) (v70 : Value) (v72 : Value) (v74 : Value) (v76 : Value) (v77 : Value) (v78 : Value) (v80 : Value) (v82 : Value) (v83 : Value) (v85 : Value) (v87 : Value) (v88 : Value) (v89 : Value) (w x : World) {ops : Array Oper} {K : Act → World → Prop} {R : Ending → World → Prop} (hops : ops = opsOf Tryd.f5 7) (hF : ALLG x (fun _ => False) [(v89, ([⟨26, 4, [⟨25, 2, []⟩, ⟨25, 2, []⟩]⟩, ⟨25, 1, []⟩, ⟨25, 2, []⟩] : List S29)), (v78, ([⟨25, -3, []⟩, ⟨25, 1, []⟩, ⟨25, 2, []⟩] : List S29)), (v70, ([⟨22, 0, [⟨25, 1, []⟩, ⟨22, 0, [⟨25, 2, []⟩, ⟨25, 3, []⟩]⟩]⟩] : List S29)), (v58, ([⟨22, 0, [⟨25, 1, []⟩, ⟨25, 2, []⟩]⟩] : List S29)), (v50, ([⟨25, 1, []⟩, ⟨20, 0, [⟨15, 0, []⟩, ⟨26, 0, [⟨1, 0, []⟩, ⟨25, 1, []⟩]⟩]⟩] : List S29)), (v45, ([⟨20, 0, [⟨15, 0, []⟩, ⟨26, 0, [⟨1, 0, []⟩, ⟨25, 1, []⟩]⟩]⟩, ⟨25, 4, []⟩] : List S29)), (v39, ([] : List S29)), ((.slice A14 0 c14), ([] : List S29)), ((.slice A18 2 c18), ([⟨15, 0, []⟩, ⟨15, 0, []⟩] : List S29)), ((.slice A26 2 c26), ([⟨15, 0, []⟩, ⟨26, 0, [⟨1, 0, []⟩, ⟨25, 1, []⟩]⟩] : List S29)), ((.slice A37 2 c37), ([⟨15, 0, []⟩, ⟨20, 0, [⟨15, 0, []⟩, ⟨26, 0, [⟨1, 0, []⟩, ⟨1, 1, []⟩]⟩]⟩] : List S29))]) (hJ : KB w x [(g8, 20, 0, (.slice A37 2 c37)), (g7, 20, 0, (.slice A26 2 c26)), (g6, 16, 0, (.slice A18 2 c18)), (g4, 15, 0, (.slice A14 0 c14))])
    (hQ : ∀ (v91 : Value) (v93 : Value) (v95 : Value) (v96 : Value) (v97 : Value) (v98 : Value) (v101 : Value) (v102 : Value) (v103 : Value) (v105 : Value) (v106 : Value) (v107 : Value) (v109 : Value) (v112 : Value) (v113 : Value) (v114 : Value) (v116 : Value) (x' : World), ALLG x' (fun _ => False) [(v116, ([] : List S29)), (v114, ([⟨15, 0, []⟩, ⟨1, 1, []⟩] : List S29)), (v109, ([] : List S29)), (v107, ([⟨21, 0, [⟨20, 0, [⟨15, 0, []⟩, ⟨20, 0, [⟨15, 0, []⟩, ⟨26, 0, [⟨1, 0, []⟩, ⟨1, 1, []⟩]⟩]⟩]⟩, ⟨25, 3, []⟩]⟩, ⟨25, 4, []⟩] : List S29)), (v98, ([⟨25, 5, []⟩, ⟨26, 2, [⟨1, 0, []⟩, ⟨1, 0, []⟩]⟩] : List S29)), (v89, ([⟨26, 4, [⟨25, 2, []⟩, ⟨25, 2, []⟩]⟩, ⟨25, 1, []⟩, ⟨25, 2, []⟩] : List S29)), (v78, ([⟨25, -3, []⟩, ⟨25, 1, []⟩, ⟨25, 2, []⟩] : List S29)), (v70, ([⟨22, 0, [⟨25, 1, []⟩, ⟨22, 0, [⟨25, 2, []⟩, ⟨25, 3, []⟩]⟩]⟩] : List S29)), (v58, ([⟨22, 0, [⟨25, 1, []⟩, ⟨25, 2, []⟩]⟩] : List S29)), (v50, ([⟨25, 1, []⟩, ⟨20, 0, [⟨15, 0, []⟩, ⟨26, 0, [⟨1, 0, []⟩, ⟨25, 1, []⟩]⟩]⟩] : List S29)), (v45, ([⟨20, 0, [⟨15, 0, []⟩, ⟨26, 0, [⟨1, 0, []⟩, ⟨25, 1, []⟩]⟩]⟩, ⟨25, 4, []⟩] : List S29)), (v39, ([] : List S29)), ((.slice A14 0 c14), ([] : List S29)), ((.slice A18 2 c18), ([⟨15, 0, []⟩, ⟨15, 0, []⟩] : List S29)), ((.slice A26 2 c26), ([⟨15, 0, []⟩, ⟨26, 0, [⟨1, 0, []⟩, ⟨25, 1, []⟩]⟩] : List S29)), ((.slice A37 2 c37), ([⟨15, 0, []⟩, ⟨20, 0, [⟨15, 0, []⟩, ⟨26, 0, [⟨1, 0, []⟩, ⟨1, 1, []⟩]⟩]⟩] : List S29))] → KB w x' [(g8, 20, 0, (.slice A37 2 c37)), (g7, 20, 0, (.slice A26 2 c26)), (g6, 16, 0, (.slice A18 2 c18)), (g4, 15, 0, (.slice A14 0 c14))] → wpAnyLast Tryd.prog .any ops (Exit.then K (bodyPost Tryd.prog Tryd.f5 R)) (fun w' => w'.cell? ⟨g4, 0, none⟩ = some (.int .i64 15) ∧ w'.cell? ⟨g4, 1, none⟩ = some (.int .i64 0) ∧ w'.cell? ⟨g4, 2, none⟩ = some ((.slice A14 0 c14)) ∧ w'.cell? ⟨g6, 0, none⟩ = some (.int .i64 16) ∧ w'.cell? ⟨g6, 1, none⟩ = some (.int .i64 0) ∧ w'.cell? ⟨g6, 2, none⟩ = some ((.slice A18 2 c18)) ∧ w'.cell? ⟨g7, 0, none⟩ = some (.int .i64 20) ∧ w'.cell? ⟨g7, 1, none⟩ = some (.int .i64 0) ∧ w'.cell? ⟨g7, 2, none⟩ = some ((.slice A26 2 c26)) ∧ w'.cell? ⟨g8, 0, none⟩ = some (.int .i64 20) ∧ w'.cell? ⟨g8, 1, none⟩ = some (.int .i64 0) ∧ w'.cell? ⟨g8, 2, none⟩ = some ((.slice A37 2 c37))) [] 51 (bl 153 457223903692353016069468896155101121721925631) ({ tmps := #[.int .i64 a0, undef, .bool false, .func (.func 20) #[] #[], .pointer (some ⟨g4, 0, none⟩), .func (.func 22) #[] #[], .pointer (some ⟨g6, 0, none⟩), .pointer (some ⟨g7, 0, none⟩), .pointer (some ⟨g8, 0, none⟩), undef, undef, undef, .bool true, .bool false, .agg #[.int .i64 (15), .int .i64 (0), (.slice A14 0 c14)], .agg #[.int .i64 (15), .int .i64 (0), (.slice A14 0 c14)], .agg #[.int .i64 (15), .int .i64 (0), (.slice A14 0 c14)], v17, .agg #[.int .i64 (16), .int .i64 (0), (.slice A18 2 c18)], .agg #[.int .i64 (15), .int .i64 (0), (.slice A14 0 c14)], .func (.func 20) #[] #[], .agg #[.int .i64 (1), .int .i64 (0), v21], .func (.func 22) #[] #[], .agg #[.int .i64 (25), .int .i64 (1), v23], .agg #[.int .i64 (26), .int .i64 (0), v24], v25, .agg #[.int .i64 (20), .int .i64 (0), (.slice A26 2 c26)], .agg #[.int .i64 (15), .int .i64 (0), (.slice A14 0 c14)], .agg #[.int .i64 (15), .int .i64 (0), (.slice A14 0 c14)], .func (.func 20) #[] #[], .agg #[.int .i64 (1), .int .i64 (0), v30], .func (.func 20) #[] #[], .agg #[.int .i64 (1), .int .i64 (1), v32], .agg #[.int .i64 (26), .int .i64 (0), v33], v34, .agg #[.int .i64 (20), .int .i64 (0), v35], v36, .agg #[.int .i64 (20), .int .i64 (0), (.slice A37 2 c37)], .func (.func 22) #[] #[], .agg #[.int .i64 (25), .int .i64 (7), v39], .agg #[.int .i64 (20), .int .i64 (0), (.slice A26 2 c26)], .agg #[.int .i64 (20), .int .i64 (0), (.slice A26 2 c26)], .func (.func 22) #[] #[], .agg #[.int .i64 (25), .int .i64 (4), v43], v44, .agg #[.int .i64 (21), .int .i64 (0), v45], .func (.func 22) #[] #[], .agg #[.int .i64 (25), .int .i64 (1), v47], .agg #[.int .i64 (20), .int .i64 (0), (.slice A26 2 c26)], v49, .agg #[.int .i64 (22), .int .i64 (0), v50], .func (.func 22) #[] #[], .agg #[.int .i64 (25), .int .i64 (1), v52], .func (.func 22) #[] #[], .agg #[.int .i64 (25), .int .i64 (2), v54], v55, .agg #[.int .i64 (22), .int .i64 (0), v56], v57, .agg #[.int .i64 (23), .int .i64 (0), v58], .func (.func 22) #[] #[], .agg #[.int .i64 (25), .int .i64 (1), v60], .func (.func 22) #[] #[], .agg #[.int .i64 (25), .int .i64 (2), v62], .func (.func 22) #[] #[], .agg #[.int .i64 (25), .int .i64 (3), v64], v65, .agg #[.int .i64 (22), .int .i64 (0), v66], v67, .agg #[.int .i64 (22), .int .i64 (0), v68], v69, .agg #[.int .i64 (24), .int .i64 (0), v70], .func (.func 22) #[] #[], .agg #[.int .i64 (25), .int .i64 (-3), v72], .func (.func 22) #[] #[], .agg #[.int .i64 (25), .int .i64 (1), v74], .func (.func 22) #[] #[], .agg #[.int .i64 (25), .int .i64 (2), v76], v77, .agg #[.int .i64 (27), .int .i64 (0), v78], .func (.func 22) #[] #[], .agg #[.int .i64 (25), .int .i64 (2), v80], .func (.func 22) #[] #[], .agg #[.int .i64 (25), .int .i64 (2), v82], .agg #[.int .i64 (26), .int .i64 (4), v83], .func (.func 22) #[] #[], .agg #[.int .i64 (25), .int .i64 (1), v85], .func (.func 22) #[] #[], .agg #[.int .i64 (25), .int .i64 (2), v87], v88, .agg #[.int .i64 (27), .int .i64 (0), v89], .func (.func 22) #[] #[], .agg #[.int .i64 (25), .int .i64 (5), v91], .func (.func 20) #[] #[], .agg #[.int .i64 (1), .int .i64 (0), v93], .func (.func 20) #[] #[], .agg #[.int .i64 (1), .int .i64 (0), v95], .agg #[.int .i64 (26), .int .i64 (2), v96], v97, .agg #[.int .i64 (28), .int .i64 (0), v98], .agg #[.int .i64 (20), .int .i64 (0), (.slice A37 2 c37)], .func (.func 22) #[] #[], .agg #[.int .i64 (25), .int .i64 (3), v101], v102, .agg #[.int .i64 (21), .int .i64 (0), v103], .func (.func 22) #[] #[], .agg #[.int .i64 (25), .int .i64 (4), v105], v106, .agg #[.int .i64 (21), .int .i64 (0), v107], .func (.func 22) #[] #[], .agg #[.int .i64 (25), .int .i64 (1), v109], .agg #[.int .i64 (15), .int .i64 (0), (.slice A14 0 c14)], .func (.func 20) #[] #[], .agg #[.int .i64 (1), .int .i64 (1), v112], v113, .agg #[.int .i64 (20), .int .i64 (0), v114], .func (.func 22) #[] #[], .agg #[.int .i64 (25), .int .i64 (2), v116], .func (.func 20) #[] #[], undef, .func (.func 22) #[] #[], undef, undef, undef, undef, undef, undef, undef, undef, undef, .func (.func 22) #[] #[], undef, .func (.func 22) #[] #[], undef, undef, .func (.func 22) #[] #[], undef, .func (.func 22) #[] #[], undef, undef, .func (.func 22) #[] #[], undef, .func (.func 22) #[] #[], undef, .func (.func 22) #[] #[], undef, undef, .func (.func 22) #[] #[], undef, undef, undef, .func (.func 22) #[] #[], undef, .func (.func 22) #[] #[], undef, undef, .func (.func 22) #[] #[], undef, undef, undef, .func (.func 22) #[] #[], undef, .func (.func 22) #[] #[], undef, undef, .func (.func 22) #[] #[], undef, undef, undef, .agg #[.int .i64 (16), .int .i64 (0), (.slice A18 2 c18)], .func (.func 20) #[] #[], undef, .func (.func 20) #[] #[], undef, .func (.func 22) #[] #[], undef, undef, undef, undef, undef, undef, undef, .agg #[.int .i64 (20), .int .i64 (0), (.slice A26 2 c26)], undef, undef, .func (.func 22) #[] #[], undef, .func (.func 22) #[] #[], undef, undef, undef, undef, undef, undef, undef, undef, undef, undef, undef, undef, undef, undef, undef, undef, undef, undef], defers := [] } : Act) x') :
    wpAnyLast Tryd.prog .any ops (Exit.then K (bodyPost Tryd.prog Tryd.f5 R)) (fun w' => w'.cell? ⟨g4, 0, none⟩ = some (.int .i64 15) ∧ w'.cell? ⟨g4, 1, none⟩ = some (.int .i64 0) ∧ w'.cell? ⟨g4, 2, none⟩ = some ((.slice A14 0 c14)) ∧ w'.cell? ⟨g6, 0, none⟩ = some (.int .i64 16) ∧ w'.cell? ⟨g6, 1, none⟩ = some (.int .i64 0) ∧ w'.cell? ⟨g6, 2, none⟩ = some ((.slice A18 2 c18)) ∧ w'.cell? ⟨g7, 0, none⟩ = some (.int .i64 20) ∧ w'.cell? ⟨g7, 1, none⟩ = some (.int .i64 0) ∧ w'.cell? ⟨g7, 2, none⟩ = some ((.slice A26 2 c26)) ∧ w'.cell? ⟨g8, 0, none⟩ = some (.int .i64 20) ∧ w'.cell? ⟨g8, 1, none⟩ = some (.int .i64 0) ∧ w'.cell? ⟨g8, 2, none⟩ = some ((.slice A37 2 c37))) [] 68 (bl 153 457223903692353016069030977467399476409794559) ({ tmps := #[.int .i64 a0, undef, .bool false, .func (.func 20) #[] #[], .pointer (some ⟨g4, 0, none⟩), .func (.func 22) #[] #[], .pointer (some ⟨g6, 0, none⟩), .pointer (some ⟨g7, 0, none⟩), .pointer (some ⟨g8, 0, none⟩), undef, undef, undef, .bool true, .bool false, .agg #[.int .i64 (15), .int .i64 (0), (.slice A14 0 c14)], .agg #[.int .i64 (15), .int .i64 (0), (.slice A14 0 c14)], .agg #[.int .i64 (15), .int .i64 (0), (.slice A14 0 c14)], v17, .agg #[.int .i64 (16), .int .i64 (0), (.slice A18 2 c18)], .agg #[.int .i64 (15), .int .i64 (0), (.slice A14 0 c14)], .func (.func 20) #[] #[], .agg #[.int .i64 (1), .int .i64 (0), v21], .func (.func 22) #[] #[], .agg #[.int .i64 (25), .int .i64 (1), v23], .agg #[.int .i64 (26), .int .i64 (0), v24], v25, .agg #[.int .i64 (20), .int .i64 (0), (.slice A26 2 c26)], .agg #[.int .i64 (15), .int .i64 (0), (.slice A14 0 c14)], .agg #[.int .i64 (15), .int .i64 (0), (.slice A14 0 c14)], .func (.func 20) #[] #[], .agg #[.int .i64 (1), .int .i64 (0), v30], .func (.func 20) #[] #[], .agg #[.int .i64 (1), .int .i64 (1), v32], .agg #[.int .i64 (26), .int .i64 (0), v33], v34, .agg #[.int .i64 (20), .int .i64 (0), v35], v36, .agg #[.int .i64 (20), .int .i64 (0), (.slice A37 2 c37)], .func (.func 22) #[] #[], .agg #[.int .i64 (25), .int .i64 (7), v39], .agg #[.int .i64 (20), .int .i64 (0), (.slice A26 2 c26)], .agg #[.int .i64 (20), .int .i64 (0), (.slice A26 2 c26)], .func (.func 22) #[] #[], .agg #[.int .i64 (25), .int .i64 (4), v43], v44, .agg #[.int .i64 (21), .int .i64 (0), v45], .func (.func 22) #[] #[], .agg #[.int .i64 (25), .int .i64 (1), v47], .agg #[.int .i64 (20), .int .i64 (0), (.slice A26 2 c26)], v49, .agg #[.int .i64 (22), .int .i64 (0), v50], .func (.func 22) #[] #[], .agg #[.int .i64 (25), .int .i64 (1), v52], .func (.func 22) #[] #[], .agg #[.int .i64 (25), .int .i64 (2), v54], v55, .agg #[.int .i64 (22), .int .i64 (0), v56], v57, .agg #[.int .i64 (23), .int .i64 (0), v58], .func (.func 22) #[] #[], .agg #[.int .i64 (25), .int .i64 (1), v60], .func (.func 22) #[] #[], .agg #[.int .i64 (25), .int .i64 (2), v62], .func (.func 22) #[] #[], .agg #[.int .i64 (25), .int .i64 (3), v64], v65, .agg #[.int .i64 (22), .int .i64 (0), v66], v67, .agg #[.int .i64 (22), .int .i64 (0), v68], v69, .agg #[.int .i64 (24), .int .i64 (0), v70], .func (.func 22) #[] #[], .agg #[.int .i64 (25), .int .i64 (-3), v72], .func (.func 22) #[] #[], .agg #[.int .i64 (25), .int .i64 (1), v74], .func (.func 22) #[] #[], .agg #[.int .i64 (25), .int .i64 (2), v76], v77, .agg #[.int .i64 (27), .int .i64 (0), v78], .func (.func 22) #[] #[], .agg #[.int .i64 (25), .int .i64 (2), v80], .func (.func 22) #[] #[], .agg #[.int .i64 (25), .int .i64 (2), v82], .agg #[.int .i64 (26), .int .i64 (4), v83], .func (.func 22) #[] #[], .agg #[.int .i64 (25), .int .i64 (1), v85], .func (.func 22) #[] #[], .agg #[.int .i64 (25), .int .i64 (2), v87], v88, .agg #[.int .i64 (27), .int .i64 (0), v89], .func (.func 22) #[] #[], undef, .func (.func 20) #[] #[], undef, .func (.func 20) #[] #[], undef, undef, undef, undef, .agg #[.int .i64 (20), .int .i64 (0), (.slice A37 2 c37)], .func (.func 22) #[] #[], undef, undef, undef, .func (.func 22) #[] #[], undef, undef, undef, .func (.func 22) #[] #[], undef, .agg #[.int .i64 (15), .int .i64 (0), (.slice A14 0 c14)], .func (.func 20) #[] #[], undef, undef, undef, .func (.func 22) #[] #[], undef, .func (.func 20) #[] #[], undef, .func (.func 22) #[] #[], undef, undef, undef, undef, undef, undef, undef, undef, undef, .func (.func 22) #[] #[], undef, .func (.func 22) #[] #[], undef, undef, .func (.func 22) #[] #[], undef, .func (.func 22) #[] #[], undef, undef, .func (.func 22) #[] #[], undef, .func (.func 22) #[] #[], undef, .func (.func 22) #[] #[], undef, undef, .func (.func 22) #[] #[], undef, undef, undef, .func (.func 22) #[] #[], undef, .func (.func 22) #[] #[], undef, undef, .func (.func 22) #[] #[], undef, undef, undef, .func (.func 22) #[] #[], undef, .func (.func 22) #[] #[], undef, undef, .func (.func 22) #[] #[], undef, undef, undef, .agg #[.int .i64 (16), .int .i64 (0), (.slice A18 2 c18)], .func (.func 20) #[] #[], undef, .func (.func 20) #[] #[], undef, .func (.func 22) #[] #[], undef, undef, undef, undef, undef, undef, undef, .agg #[.int .i64 (20), .int .i64 (0), (.slice A26 2 c26)], undef, undef, .func (.func 22) #[] #[], undef, .func (.func 22) #[] #[], undef, undef, undef, undef, undef, undef, undef, undef, undef, undef, undef, undef, undef, undef, undef, undef, undef, undef], defers := [] } : Act) x := by
  subst hops
  have hu29 := Tryd.underlying29
  conv in (occs := *) (opsOf Tryd.f5 7) => all_goals whnf
  have F := Aside0.mk hF
  have J := Aside0.mk hJ
  clear hF hJ
  refine with_tabW rk7.tab7 rk7.bits7 (fun HT_ HW_ => ?_)
  refine one_ (i := 53) (N := (some 91)) (bl 153 457223903692353016069030977476406675664535551) rfl rfl (one_of HT_.out (by kernel_rfl)) (by decide) (fun K hK => ?_)
  refine goesV_ Tryd.func22 (by kernel_rfl) rfl #[.int .i64 (5)] (by rfl) rfl rfl rfl (by (try simp only [List.map_toArray, List.map_cons, List.map_nil]); first | done | rfl | (simp only [List.length_drop, List.length_take]; rfl)) ?_
  refine (Int_goG (5) _ (fun _ => False) (fun _ h => h.elim)).mono ?_
  rintro e w91 ⟨v91, rfl, hv_, hb_⟩
  refine ⟨_, rfl, ?_⟩
  replace F := Aside0.mk (allg_step F.out hb_ hv_)
  replace J := Aside0.mk (J.out.below hb_)
  clear hb_ hv_
  refine hK.out _ _ (KB.four J.out) (fun hHeld => ?_)
  clear hK K
  refine norm_ (a' := ?_) ?_ ?_
  rotate_left
  · show Act.put _ (some 91) _ = _
    simp only [Act.put, List.setIfInBounds_toArray, List.set_cons_zero, List.set_cons_succ, i64_w, i32_w, u8_w, u32_w]
    rfl
  refine one_ (i := 55) (N := (some 93)) (bl 153 457223903692353016069030977512435472683499519) rfl rfl (one_of HT_.out (by kernel_rfl)) (by decide) (fun K hK => ?_)
  refine goesV_ Tryd.func20 (by kernel_rfl) rfl #[.int .i64 (0)] (by rfl) rfl rfl rfl (by (try simp only [List.map_toArray, List.map_cons, List.map_nil]); first | done | rfl | (simp only [List.length_drop, List.length_take]; rfl)) ?_
  refine (V_goG (0) _ (fun _ => False) (fun _ h => h.elim)).mono ?_
  rintro e w93 ⟨v93, rfl, hv_, hb_⟩
  refine ⟨_, rfl, ?_⟩
  replace F := Aside0.mk (allg_step F.out hb_ hv_)
  replace J := Aside0.mk (J.out.below hb_)
  clear hb_ hv_
  refine hK.out _ _ (KB.four J.out) (fun hHeld => ?_)
  clear hK K
  refine norm_ (a' := ?_) ?_ ?_
  rotate_left
  · show Act.put _ (some 93) _ = _
    simp only [Act.put, List.setIfInBounds_toArray, List.set_cons_zero, List.set_cons_succ, i64_w, i32_w, u8_w, u32_w]
    rfl
  refine one_ (i := 57) (N := (some 95)) (bl 153 457223903692353016069030977656550660759355391) rfl rfl (one_of HT_.out (by kernel_rfl)) (by decide) (fun K hK => ?_)
  refine goesV_ Tryd.func20 (by kernel_rfl) rfl #[.int .i64 (0)] (by rfl) rfl rfl rfl (by (try simp only [List.map_toArray, List.map_cons, List.map_nil]); first | done | rfl | (simp only [List.length_drop, List.length_take]; rfl)) ?_
  refine (V_goG (0) _ (fun _ => False) (fun _ h => h.elim)).mono ?_
  rintro e w95 ⟨v95, rfl, hv_, hb_⟩
  refine ⟨_, rfl, ?_⟩
  replace F := Aside0.mk (allg_step F.out hb_ hv_)
  replace J := Aside0.mk (J.out.below hb_)
  clear hb_ hv_
  refine hK.out _ _ (KB.four J.out) (fun hHeld => ?_)
  clear hK K
  refine norm_ (a' := ?_) ?_ ?_
  rotate_left
  · show Act.put _ (some 95) _ = _
    simp only [Act.put, List.setIfInBounds_toArray, List.set_cons_zero, List.set_cons_succ, i64_w, i32_w, u8_w, u32_w]
    rfl
  refine one_ (i := 58) (N := (some 96)) (bl 153 457223903692353016069030977944781036911067135) rfl rfl (one_of HT_.out (by kernel_rfl)) (by decide) (fun K hK => ?_)
  refine goes_ Tryd.func23 (by kernel_rfl) rfl #[.int .i64 2, .agg #[.int .i64 (1), .int .i64 (0), v93], .agg #[.int .i64 (1), .int .i64 (0), v95]] (by rfl) rfl rfl (by (try simp only [List.map_toArray, List.map_cons, List.map_nil]); first | done | rfl | (simp only [List.length_drop, List.length_take]; rfl)) ?_
  refine (prim_goG 2 ⟨1, 0, []⟩ ⟨1, 0, []⟩ _ _ _ (fun _ => False) (fun _ h => h.elim) (F.out (_, _) mem_x) (F.out (_, _) mem_x)).mono ?_
  rintro e w96 ⟨v96, rfl, hv_, hb_⟩
  refine ⟨_, rfl, ?_⟩
  replace F := Aside0.mk (allg_step F.out hb_ hv_)
  replace J := Aside0.mk (J.out.below hb_)
  clear hb_ hv_
  refine hK.out _ _ (KB.four J.out) (fun hHeld => ?_)
  clear hK K
  refine norm_ (a' := ?_) ?_ ?_
  rotate_left
  · show Act.put _ (some 96) _ = _
    simp only [Act.put, List.setIfInBounds_toArray, List.set_cons_zero, List.set_cons_succ, i64_w, i32_w, u8_w, u32_w]
    rfl
  refine one_ (i := 59) (N := (some 97)) (bl 153 457223903692353016069030978521241789214490623) rfl rfl (one_of HT_.out (by kernel_rfl)) (by decide) (fun K hK => ?_)
  refine lit_step_goG (fun _ => False) (fun _ h => h.elim) ?hg (N' := 97) ?hd (xs := ([⟨25, 5, []⟩, ⟨26, 2, [⟨1, 0, []⟩, ⟨1, 0, []⟩]⟩] : List S29)) (inner := ?inn97_27) ?hr ?hp (by simp) ?_
  (case hd => rfl)
  (case hg => rfl)
  (case hr => first | (go_simp; done) | (go_simp; rfl))
  (case hp => exact Reps.c3 ⟨_, rfl, F.out (_, _) mem_x⟩ (Reps.c3 ⟨_, rfl, F.out (_, _) mem_x⟩ (Reps.none _ _)))
  intro v97 w97 hv_ hb_
  replace F := Aside0.mk (allg_step F.out hb_ hv_)
  replace J := Aside0.mk (J.out.below hb_)
  clear hb_ hv_
  refine hK.out _ _ (KB.four J.out) (fun hHeld => ?_)
  clear hK K
  refine norm_ (a' := ?_) ?_ ?_
  rotate_left
  · show Act.put _ (some 97) _ = _
    simp only [Act.put, List.setIfInBounds_toArray, List.set_cons_zero, List.set_cons_succ, i64_w, i32_w, u8_w, u32_w]
    rfl
  refine one_ (i := 60) (N := (some 98)) (bl 153 457223903692353016069030979674163293821337599) rfl rfl (one_of HT_.out (by kernel_rfl)) (by decide) (fun K hK => ?_)
  refine goes_ Tryd.func21 (by kernel_rfl) rfl #[.int .i64 28, v97] (by rfl) rfl rfl (by (try simp only [List.map_toArray, List.map_cons, List.map_nil]); first | done | rfl | (simp only [List.length_drop, List.length_take]; rfl)) ?_
  refine (T_goG 28 _ _ _ (fun _ => False) (fun _ h => h.elim) (F.out (_, _) mem_x)).mono ?_
  rintro e w98 ⟨v98, rfl, hv_, hb_⟩
  refine ⟨_, rfl, ?_⟩
  replace F := Aside0.mk (allg_step F.out hb_ hv_)
  replace J := Aside0.mk (J.out.below hb_)
  clear hb_ hv_
  refine hK.out _ _ (KB.four J.out) (fun hHeld => ?_)
  clear hK K
  refine norm_ (a' := ?_) ?_ ?_
  rotate_left
  · show Act.put _ (some 98) _ = _
    simp only [Act.put, List.setIfInBounds_toArray, List.set_cons_zero, List.set_cons_succ, i64_w, i32_w, u8_w, u32_w]
    rfl
  refine one_ (i := 63) (N := (some 101)) (bl 153 457223903692353016069030988897535330676113407) rfl rfl (one_of HT_.out (by kernel_rfl)) (by decide) (fun K hK => ?_)
  refine goesV_ Tryd.func22 (by kernel_rfl) rfl #[.int .i64 (3)] (by rfl) rfl rfl rfl (by (try simp only [List.map_toArray, List.map_cons, List.map_nil]); first | done | rfl | (simp only [List.length_drop, List.length_take]; rfl)) ?_
  refine (Int_goG (3) _ (fun _ => False) (fun _ h => h.elim)).mono ?_
  rintro e w101 ⟨v101, rfl, hv_, hb_⟩
  refine ⟨_, rfl, ?_⟩
  replace F := Aside0.mk (allg_step F.out hb_ hv_)
  replace J := Aside0.mk (J.out.below hb_)
  clear hb_ hv_
  refine hK.out _ _ (KB.four J.out) (fun hHeld => ?_)
  clear hK K
  refine norm_ (a' := ?_) ?_ ?_
  rotate_left
  · show Act.put _ (some 101) _ = _
    simp only [Act.put, List.setIfInBounds_toArray, List.set_cons_zero, List.set_cons_succ, i64_w, i32_w, u8_w, u32_w]
    rfl
  refine one_ (i := 64) (N := (some 102)) (bl 153 457223903692353016069031007344279404385665023) rfl rfl (one_of HT_.out (by kernel_rfl)) (by decide) (fun K hK => ?_)
  refine lit_step_goG (fun _ => False) (fun _ h => h.elim) ?hg (N' := 102) ?hd (xs := ([⟨20, 0, [⟨15, 0, []⟩, ⟨20, 0, [⟨15, 0, []⟩, ⟨26, 0, [⟨1, 0, []⟩, ⟨1, 1, []⟩]⟩]⟩]⟩, ⟨25, 3, []⟩] : List S29)) (inner := ?inn102_28) ?hr ?hp (by simp) ?_
  (case hd => rfl)
  (case hg => rfl)
  (case hr => first | (go_simp; done) | (go_simp; rfl))
  (case hp => exact Reps.c3 ⟨_, rfl, F.out (_, _) mem_x⟩ (Reps.c3 ⟨_, rfl, F.out (_, _) mem_x⟩ (Reps.none _ _)))
  intro v102 w102 hv_ hb_
  replace F := Aside0.mk (allg_step F.out hb_ hv_)
  replace J := Aside0.mk (J.out.below hb_)
  clear hb_ hv_
  refine hK.out _ _ (KB.four J.out) (fun hHeld => ?_)
  clear hK K
  refine norm_ (a' := ?_) ?_ ?_
  rotate_left
  · show Act.put _ (some 102) _ = _
    simp only [Act.put, List.setIfInBounds_toArray, List.set_cons_zero, List.set_cons_succ, i64_w, i32_w, u8_w, u32_w]
    rfl
  refine one_ (i := 65) (N := (some 103)) (bl 153 457223903692353016069031044237767551804768255) rfl rfl (one_of HT_.out (by kernel_rfl)) (by decide) (fun K hK => ?_)
  refine goes_ Tryd.func21 (by kernel_rfl) rfl #[.int .i64 21, v102] (by rfl) rfl rfl (by (try simp only [List.map_toArray, List.map_cons, List.map_nil]); first | done | rfl | (simp only [List.length_drop, List.length_take]; rfl)) ?_
  refine (T_goG 21 _ _ _ (fun _ => False) (fun _ h => h.elim) (F.out (_, _) mem_x)).mono ?_
  rintro e w103 ⟨v103, rfl, hv_, hb_⟩
  refine ⟨_, rfl, ?_⟩
  replace F := Aside0.mk (allg_step F.out hb_ hv_)
  replace J := Aside0.mk (J.out.below hb_)
  clear hb_ hv_
  refine hK.out _ _ (KB.four J.out) (fun hHeld => ?_)
  clear hK K
  refine norm_ (a' := ?_) ?_ ?_
  rotate_left
  · show Act.put _ (some 103) _ = _
    simp only [Act.put, List.setIfInBounds_toArray, List.set_cons_zero, List.set_cons_succ, i64_w, i32_w, u8_w, u32_w]
    rfl
  refine one_ (i := 67) (N := (some 105)) (bl 153 457223903692353016069031191811720141481181183) rfl rfl (one_of HT_.out (by kernel_rfl)) (by decide) (fun K hK => ?_)
  refine goesV_ Tryd.func22 (by kernel_rfl) rfl #[.int .i64 (4)] (by rfl) rfl rfl rfl (by (try simp only [List.map_toArray, List.map_cons, List.map_nil]); first | done | rfl | (simp only [List.length_drop, List.length_take]; rfl)) ?_
  refine (Int_goG (4) _ (fun _ => False) (fun _ h => h.elim)).mono ?_
  rintro e w105 ⟨v105, rfl, hv_, hb_⟩
  refine ⟨_, rfl, ?_⟩
  replace F := Aside0.mk (allg_step F.out hb_ hv_)
  replace J := Aside0.mk (J.out.below hb_)
  clear hb_ hv_
  refine hK.out _ _ (KB.four J.out) (fun hHeld => ?_)
  clear hK K
  refine norm_ (a' := ?_) ?_ ?_
  rotate_left
  · show Act.put _ (some 105) _ = _
    simp only [Act.put, List.setIfInBounds_toArray, List.set_cons_zero, List.set_cons_succ, i64_w, i32_w, u8_w, u32_w]
    rfl
  refine one_ (i := 68) (N := (some 106)) (bl 153 457223903692353016069031486959625320834007039) rfl rfl (one_of HT_.out (by kernel_rfl)) (by decide) (fun K hK => ?_)
  refine lit_step_goG (fun _ => False) (fun _ h => h.elim) ?hg (N' := 106) ?hd (xs := ([⟨21, 0, [⟨20, 0, [⟨15, 0, []⟩, ⟨20, 0, [⟨15, 0, []⟩, ⟨26, 0, [⟨1, 0, []⟩, ⟨1, 1, []⟩]⟩]⟩]⟩, ⟨25, 3, []⟩]⟩, ⟨25, 4, []⟩] : List S29)) (inner := ?inn106_29) ?hr ?hp (by simp) ?_
  (case hd => rfl)
  (case hg => rfl)
  (case hr => first | (go_simp; done) | (go_simp; rfl))
  (case hp => exact Reps.c3 ⟨_, rfl, F.out (_, _) mem_x⟩ (Reps.c3 ⟨_, rfl, F.out (_, _) mem_x⟩ (Reps.none _ _)))
  intro v106 w106 hv_ hb_
  replace F := Aside0.mk (allg_step F.out hb_ hv_)
  replace J := Aside0.mk (J.out.below hb_)
  clear hb_ hv_
  refine hK.out _ _ (KB.four J.out) (fun hHeld => ?_)
  clear hK K
  refine norm_ (a' := ?_) ?_ ?_
  rotate_left
  · show Act.put _ (some 106) _ = _
    simp only [Act.put, List.setIfInBounds_toArray, List.set_cons_zero, List.set_cons_succ, i64_w, i32_w, u8_w, u32_w]
    rfl
  refine one_ (i := 69) (N := (some 107)) (bl 153 457223903692353016069032077255435679539658751) rfl rfl (one_of HT_.out (by kernel_rfl)) (by decide) (fun K hK => ?_)
  refine goes_ Tryd.func21 (by kernel_rfl) rfl #[.int .i64 21, v106] (by rfl) rfl rfl (by (try simp only [List.map_toArray, List.map_cons, List.map_nil]); first | done | rfl | (simp only [List.length_drop, List.length_take]; rfl)) ?_
  refine (T_goG 21 _ _ _ (fun _ => False) (fun _ h => h.elim) (F.out (_, _) mem_x)).mono ?_
  rintro e w107 ⟨v107, rfl, hv_, hb_⟩
  refine ⟨_, rfl, ?_⟩
  replace F := Aside0.mk (allg_step F.out hb_ hv_)
  replace J := Aside0.mk (J.out.below hb_)
  clear hb_ hv_
  refine hK.out _ _ (KB.four J.out) (fun hHeld => ?_)
  clear hK K
  refine norm_ (a' := ?_) ?_ ?_
  rotate_left
  · show Act.put _ (some 107) _ = _
    simp only [Act.put, List.setIfInBounds_toArray, List.set_cons_zero, List.set_cons_succ, i64_w, i32_w, u8_w, u32_w]
    rfl
  refine one_ (i := 71) (N := (some 109)) (bl 153 457223903692353016069034438438677114362265599) rfl rfl (one_of HT_.out (by kernel_rfl)) (by decide) (fun K hK => ?_)
  refine goesV_ Tryd.func22 (by kernel_rfl) rfl #[.int .i64 (1)] (by rfl) rfl rfl rfl (by (try simp only [List.map_toArray, List.map_cons, List.map_nil]); first | done | rfl | (simp only [List.length_drop, List.length_take]; rfl)) ?_
  refine (Int_goG (1) _ (fun _ => False) (fun _ h => h.elim)).mono ?_
  rintro e w109 ⟨v109, rfl, hv_, hb_⟩
  refine ⟨_, rfl, ?_⟩
  replace F := Aside0.mk (allg_step F.out hb_ hv_)
  replace J := Aside0.mk (J.out.below hb_)
  clear hb_ hv_
  refine hK.out _ _ (KB.four J.out) (fun hHeld => ?_)
  clear hK K
  refine norm_ (a' := ?_) ?_ ?_
  rotate_left
  · show Act.put _ (some 109) _ = _
    simp only [Act.put, List.setIfInBounds_toArray, List.set_cons_zero, List.set_cons_succ, i64_w, i32_w, u8_w, u32_w]
    rfl
  refine one_ (i := 74) (N := (some 112)) (bl 153 457223903692353016069053327904608592943120383) rfl rfl (one_of HT_.out (by kernel_rfl)) (by decide) (fun K hK => ?_)
  refine goesV_ Tryd.func20 (by kernel_rfl) rfl #[.int .i64 (1)] (by rfl) rfl rfl rfl (by (try simp only [List.map_toArray, List.map_cons, List.map_nil]); first | done | rfl | (simp only [List.length_drop, List.length_take]; rfl)) ?_
  refine (V_goG (1) _ (fun _ => False) (fun _ h => h.elim)).mono ?_
  rintro e w112 ⟨v112, rfl, hv_, hb_⟩
  refine ⟨_, rfl, ?_⟩
  replace F := Aside0.mk (allg_step F.out hb_ hv_)
  replace J := Aside0.mk (J.out.below hb_)
  clear hb_ hv_
  refine hK.out _ _ (KB.four J.out) (fun hHeld => ?_)
  clear hK K
  refine norm_ (a' := ?_) ?_ ?_
  rotate_left
  · show Act.put _ (some 112) _ = _
    simp only [Act.put, List.setIfInBounds_toArray, List.set_cons_zero, List.set_cons_succ, i64_w, i32_w, u8_w, u32_w]
    rfl
  refine one_ (i := 75) (N := (some 113)) (bl 153 457223903692353016069091106836471550104829951) rfl rfl (one_of HT_.out (by kernel_rfl)) (by decide) (fun K hK => ?_)
  refine lit_step_goG (fun _ => False) (fun _ h => h.elim) ?hg (N' := 113) ?hd (xs := ([⟨15, 0, []⟩, ⟨1, 1, []⟩] : List S29)) (inner := ?inn113_30) ?hr ?hp (by simp) ?_
  (case hd => rfl)
  (case hg => rfl)
  (case hr => first | (go_simp; done) | (go_simp; rfl))
  (case hp => exact Reps.c3 ⟨_, rfl, F.out (_, _) mem_x⟩ (Reps.c3 ⟨_, rfl, F.out (_, _) mem_x⟩ (Reps.none _ _)))
  intro v113 w113 hv_ hb_
  replace F := Aside0.mk (allg_step F.out hb_ hv_)
  replace J := Aside0.mk (J.out.below hb_)
  clear hb_ hv_
  refine hK.out _ _ (KB.four J.out) (fun hHeld => ?_)
  clear hK K
  refine norm_ (a' := ?_) ?_ ?_
  rotate_left
  · show Act.put _ (some 113) _ = _
    simp only [Act.put, List.setIfInBounds_toArray, List.set_cons_zero, List.set_cons_succ, i64_w, i32_w, u8_w, u32_w]
    rfl
  refine one_ (i := 76) (N := (some 114)) (bl 153 457223903692353016069166664700197464428249087) rfl rfl (one_of HT_.out (by kernel_rfl)) (by decide) (fun K hK => ?_)
  refine goes_ Tryd.func21 (by kernel_rfl) rfl #[.int .i64 20, v113] (by rfl) rfl rfl (by (try simp only [List.map_toArray, List.map_cons, List.map_nil]); first | done | rfl | (simp only [List.length_drop, List.length_take]; rfl)) ?_
  refine (T_goG 20 _ _ _ (fun _ => False) (fun _ h => h.elim) (F.out (_, _) mem_x)).mono ?_
  rintro e w114 ⟨v114, rfl, hv_, hb_⟩
  refine ⟨_, rfl, ?_⟩
  replace F := Aside0.mk (allg_step F.out hb_ hv_)
  replace J := Aside0.mk (J.out.below hb_)
  clear hb_ hv_
  refine hK.out _ _ (KB.four J.out) (fun hHeld => ?_)
  clear hK K
  refine norm_ (a' := ?_) ?_ ?_
  rotate_left
  · show Act.put _ (some 114) _ = _
    simp only [Act.put, List.setIfInBounds_toArray, List.set_cons_zero, List.set_cons_succ, i64_w, i32_w, u8_w, u32_w]
    rfl
  refine one_ (i := 78) (N := (some 116)) (bl 153 457223903692353016069468896155101121721925631) rfl rfl (one_of HT_.out (by kernel_rfl)) (by decide) (fun K hK => ?_)
  refine goesV_ Tryd.func22 (by kernel_rfl) rfl #[.int .i64 (2)] (by rfl) rfl rfl rfl (by (try simp only [List.map_toArray, List.map_cons, List.map_nil]); first | done | rfl | (simp only [List.length_drop, List.length_take]; rfl)) ?_
  refine (Int_goG (2) _ (fun _ => False) (fun _ h => h.elim)).mono ?_
  rintro e w116 ⟨v116, rfl, hv_, hb_⟩
  refine ⟨_, rfl, ?_⟩
  replace F := Aside0.mk (allg_step F.out hb_ hv_)
  replace J := Aside0.mk (J.out.below hb_)
  clear hb_ hv_
  refine hK.out _ _ (KB.four J.out) (fun hHeld => ?_)
  clear hK K
  refine norm_ (a' := ?_) ?_ ?_
  rotate_left
  · show Act.put _ (some 116) _ = _
    simp only [Act.put, List.setIfInBounds_toArray, List.set_cons_zero, List.set_cons_succ, i64_w, i32_w, u8_w, u32_w]
    rfl
  exact hQ v91 v93 v95 v96 v97 v98 v101 v102 v103 v105 v106 v107 v109 v112 v113 v114 v116 _ ((allg_cons (F.out (_, _) mem_x) (allg_cons (F.out (_, _) mem_x) (allg_cons (F.out (_, _) mem_x) (allg_cons (F.out (_, _) mem_x) (allg_cons (F.out (_, _) mem_x) (allg_cons (F.out (_, _) mem_x) (allg_cons (F.out (_, _) mem_x) (allg_cons (F.out (_, _) mem_x) (allg_cons (F.out (_, _) mem_x) (allg_cons (F.out (_, _) mem_x) (allg_cons (F.out (_, _) mem_x) (allg_cons (F.out (_, _) mem_x) (allg_cons (F.out (_, _) mem_x) (allg_cons (F.out (_, _) mem_x) (allg_cons (F.out (_, _) mem_x) (allg_cons (F.out (_, _) mem_x) (allg_nil _ _)))))))))))))))))) J.out
end Go.Proofs.YtnecmclnokikoaaDoor.P
/- RunKnown: its drawn region 7, part 3 (genrk.py). -/
namespace Go.Proofs.YtnecmclnokikoaaDoor.P
open Go.RowKit Go.Proofs.YtnecmclnokikoaaDoorW.PrintWords Go.Proofs.YtnecmclnokikoaaDoorW.PrintLast Go.Proofs.YtnecmclnokikoaaDoorW.PrintMore
attribute [local go_sem] max2_int min2_int max_two min_two max_three min_three max_four min_four
set_option linter.unusedVariables false
set_option linter.unusedSimpArgs false
set_option maxHeartbeats 32000000 in
set_option maxRecDepth 100000 in
theorem rk7_3 (a0 : Int) (g4 : Nat) (A14 : Option Addr) (c14 : Nat) (v17 : Value) (A18 : Option Addr) (c18 : Nat) (g6 : Nat) (v21 : Value) (v23 : Value) (v24 : Value) (v25 : Value) (A26 : Option Addr) (c26 : Nat) (g7 : Nat) (v30 : Value) (v32 : Value) (v33 : Value) (v34 : Value) (v35 : Value) (v36 : Value) (A37 : Option Addr) (c37 : Nat) (g8 : Nat) (v39 : Value) (v43 : Value) (v44 : Value) (v45 : Value) (v47 : Value) (v49 : Value) (v50 : Value) (v52 : Value) (v54 : Value) (v55 : Value) (v56 : Value) (v57 : Value) (v58 : Value) (v60 : Value) (v62 : Value) (v64 : Value) (v65 : Value) (v66 : Value) (v67 : Value) (v68 : Value) (v69 : Value) (v70 : Value) (v72 : Value) (v74 : Value) (v76 : Value) (v77 : Value) (v78 : Value) (v80 : Value) (v82 : Value) (v83 : Value) (v85 : Value) (v87 : Value) (v88 : Value) (v89 : Value) (v91 : Value) (v93 : Value) (v95 : Value) (v96 : Value) (v97 : Value) (v98 : Value) (v101 : Value) (v102 : Value) (v103 : Value) (v105 : Value) (v106 : Value) (v107 : Value) (v109 : Value) (v112 : Value) (v113 : Value) (v114 : Value) (v116 : Value) (w x : World) {ops : Array Oper} {K : Act → World → Prop} {R : Ending → World → Prop} (hops : ops = opsOf Tryd.f5 7) (hF : ALLG x (fun _ => False) [(v116, ([] : List S29)), (v114, ([⟨15, 0, []⟩, ⟨1, 1, []⟩] : List S29)), (v109, ([] : List S29)), (v107, ([⟨21, 0, [⟨20, 0, [⟨15, 0, []⟩, ⟨20, 0, [⟨15, 0, []⟩, ⟨26, 0, [⟨1, 0, []⟩, ⟨1, 1, []⟩]⟩]⟩]⟩, ⟨25, 3, []⟩]⟩, ⟨25, 4, []⟩] : List S29)), (v98, ([⟨25, 5, []⟩, ⟨26, 2, [⟨1, 0, []⟩, ⟨1, 0, []⟩]⟩] : List S29)), (v89, ([⟨26, 4, [⟨25, 2, []⟩, ⟨25, 2, []⟩]⟩, ⟨25, 1, []⟩, ⟨25, 2, []⟩] : List S29)), (v78, ([⟨25, -3, []⟩, ⟨25, 1, []⟩, ⟨25, 2, []⟩] : List S29)), (v70, ([⟨22, 0, [⟨25, 1, []⟩, ⟨22, 0, [⟨25, 2, []⟩, ⟨25, 3, []⟩]⟩]⟩] : List S29)), (v58, ([⟨22, 0, [⟨25, 1, []⟩, ⟨25, 2, []⟩]⟩] : List S29)), (v50, ([⟨25, 1, []⟩, ⟨20, 0, [⟨15, 0, []⟩, ⟨26, 0, [⟨1, 0, []⟩, ⟨25, 1, []⟩]⟩]⟩] : List S29)), (v45, ([⟨20, 0, [⟨15, 0, []⟩, ⟨26, 0, [⟨1, 0, []⟩, ⟨25, 1, []⟩]⟩]⟩, ⟨25, 4, []⟩] : List S29)), (v39, ([] : List S29)), ((.slice A14 0 c14), ([] : List S29)), ((.slice A18 2 c18), ([⟨15, 0, []⟩, ⟨15, 0, []⟩] : List S29)), ((.slice A26 2 c26), ([⟨15, 0, []⟩, ⟨26, 0, [⟨1, 0, []⟩, ⟨25, 1, []⟩]⟩] : List S29)), ((.slice A37 2 c37), ([⟨15, 0, []⟩, ⟨20, 0, [⟨15, 0, []⟩, ⟨26, 0, [⟨1, 0, []⟩, ⟨1, 1, []⟩]⟩]⟩] : List S29))]) (hJ : KB w x [(g8, 20, 0, (.slice A37 2 c37)), (g7, 20, 0, (.slice A26 2 c26)), (g6, 16, 0, (.slice A18 2 c18)), (g4, 15, 0, (.slice A14 0 c14))])
    (hQ : ∀ (v118 : Value) (v120 : Value) (v121 : Value) (v122 : Value) (v123 : Value) (v124 : Value) (v125 : Value) (v126 : Value) (v127 : Value) (v128 : Value) (v130 : Value) (v132 : Value) (v133 : Value) (v135 : Value) (v137 : Value) (v138 : Value) (v140 : Value) (x' : World), ALLG x' (fun _ => False) [(v140, ([] : List S29)), (v138, ([⟨25, 7, []⟩, ⟨25, 0, []⟩] : List S29)), (v133, ([⟨25, -7, []⟩, ⟨25, 2, []⟩] : List S29)), (v128, ([⟨25, 1, []⟩, ⟨28, 0, [⟨20, 0, [⟨15, 0, []⟩, ⟨1, 1, []⟩]⟩, ⟨28, 0, [⟨25, 2, []⟩, ⟨21, 0, [⟨1, 1, []⟩, ⟨25, 9, []⟩]⟩]⟩]⟩] : List S29)), (v107, ([⟨21, 0, [⟨20, 0, [⟨15, 0, []⟩, ⟨20, 0, [⟨15, 0, []⟩, ⟨26, 0, [⟨1, 0, []⟩, ⟨1, 1, []⟩]⟩]⟩]⟩, ⟨25, 3, []⟩]⟩, ⟨25, 4, []⟩] : List S29)), (v98, ([⟨25, 5, []⟩, ⟨26, 2, [⟨1, 0, []⟩, ⟨1, 0, []⟩]⟩] : List S29)), (v89, ([⟨26, 4, [⟨25, 2, []⟩, ⟨25, 2, []⟩]⟩, ⟨25, 1, []⟩, ⟨25, 2, []⟩] : List S29)), (v78, ([⟨25, -3, []⟩, ⟨25, 1, []⟩, ⟨25, 2, []⟩] : List S29)), (v70, ([⟨22, 0, [⟨25, 1, []⟩, ⟨22, 0, [⟨25, 2, []⟩, ⟨25, 3, []⟩]⟩]⟩] : List S29)), (v58, ([⟨22, 0, [⟨25, 1, []⟩, ⟨25, 2, []⟩]⟩] : List S29)), (v50, ([⟨25, 1, []⟩, ⟨20, 0, [⟨15, 0, []⟩, ⟨26, 0, [⟨1, 0, []⟩, ⟨25, 1, []⟩]⟩]⟩] : List S29)), (v45, ([⟨20, 0, [⟨15, 0, []⟩, ⟨26, 0, [⟨1, 0, []⟩, ⟨25, 1, []⟩]⟩]⟩, ⟨25, 4, []⟩] : List S29)), (v39, ([] : List S29)), ((.slice A14 0 c14), ([] : List S29)), ((.slice A18 2 c18), ([⟨15, 0, []⟩, ⟨15, 0, []⟩] : List S29)), ((.slice A26 2 c26), ([⟨15, 0, []⟩, ⟨26, 0, [⟨1, 0, []⟩, ⟨25, 1, []⟩]⟩] : List S29)), ((.slice A37 2 c37), ([⟨15, 0, []⟩, ⟨20, 0, [⟨15, 0, []⟩, ⟨26, 0, [⟨1, 0, []⟩, ⟨1, 1, []⟩]⟩]⟩] : List S29))] → KB w x' [(g8, 20, 0, (.slice A37 2 c37)), (g7, 20, 0, (.slice A26 2 c26)), (g6, 16, 0, (.slice A18 2 c18)), (g4, 15, 0, (.slice A14 0 c14))] → wpAnyLast Tryd.prog .any ops (Exit.then K (bodyPost Tryd.prog Tryd.f5 R)) (fun w' => w'.cell? ⟨g4, 0, none⟩ = some (.int .i64 15) ∧ w'.cell? ⟨g4, 1, none⟩ = some (.int .i64 0) ∧ w'.cell? ⟨g4, 2, none⟩ = some ((.slice A14 0 c14)) ∧ w'.cell? ⟨g6, 0, none⟩ = some (.int .i64 16) ∧ w'.cell? ⟨g6, 1, none⟩ = some (.int .i64 0) ∧ w'.cell? ⟨g6, 2, none⟩ = some ((.slice A18 2 c18)) ∧ w'.cell? ⟨g7, 0, none⟩ = some (.int .i64 20) ∧ w'.cell? ⟨g7, 1, none⟩ = some (.int .i64 0) ∧ w'.cell? ⟨g7, 2, none⟩ = some ((.slice A26 2 c26)) ∧ w'.cell? ⟨g8, 0, none⟩ = some (.int .i64 20) ∧ w'.cell? ⟨g8, 1, none⟩ = some (.int .i64 0) ∧ w'.cell? ⟨g8, 2, none⟩ = some ((.slice A37 2 c37))) [] 34 (bl 153 457223903692360213449230523897175497706045439) ({ tmps := #[.int .i64 a0, undef, .bool false, .func (.func 20) #[] #[], .pointer (some ⟨g4, 0, none⟩), .func (.func 22) #[] #[], .pointer (some ⟨g6, 0, none⟩), .pointer (some ⟨g7, 0, none⟩), .pointer (some ⟨g8, 0, none⟩), undef, undef, undef, .bool true, .bool false, .agg #[.int .i64 (15), .int .i64 (0), (.slice A14 0 c14)], .agg #[.int .i64 (15), .int .i64 (0), (.slice A14 0 c14)], .agg #[.int .i64 (15), .int .i64 (0), (.slice A14 0 c14)], v17, .agg #[.int .i64 (16), .int .i64 (0), (.slice A18 2 c18)], .agg #[.int .i64 (15), .int .i64 (0), (.slice A14 0 c14)], .func (.func 20) #[] #[], .agg #[.int .i64 (1), .int .i64 (0), v21], .func (.func 22) #[] #[], .agg #[.int .i64 (25), .int .i64 (1), v23], .agg #[.int .i64 (26), .int .i64 (0), v24], v25, .agg #[.int .i64 (20), .int .i64 (0), (.slice A26 2 c26)], .agg #[.int .i64 (15), .int .i64 (0), (.slice A14 0 c14)], .agg #[.int .i64 (15), .int .i64 (0), (.slice A14 0 c14)], .func (.func 20) #[] #[], .agg #[.int .i64 (1), .int .i64 (0), v30], .func (.func 20) #[] #[], .agg #[.int .i64 (1), .int .i64 (1), v32], .agg #[.int .i64 (26), .int .i64 (0), v33], v34, .agg #[.int .i64 (20), .int .i64 (0), v35], v36, .agg #[.int .i64 (20), .int .i64 (0), (.slice A37 2 c37)], .func (.func 22) #[] #[], .agg #[.int .i64 (25), .int .i64 (7), v39], .agg #[.int .i64 (20), .int .i64 (0), (.slice A26 2 c26)], .agg #[.int .i64 (20), .int .i64 (0), (.slice A26 2 c26)], .func (.func 22) #[] #[], .agg #[.int .i64 (25), .int .i64 (4), v43], v44, .agg #[.int .i64 (21), .int .i64 (0), v45], .func (.func 22) #[] #[], .agg #[.int .i64 (25), .int .i64 (1), v47], .agg #[.int .i64 (20), .int .i64 (0), (.slice A26 2 c26)], v49, .agg #[.int .i64 (22), .int .i64 (0), v50], .func (.func 22) #[] #[], .agg #[.int .i64 (25), .int .i64 (1), v52], .func (.func 22) #[] #[], .agg #[.int .i64 (25), .int .i64 (2), v54], v55, .agg #[.int .i64 (22), .int .i64 (0), v56], v57, .agg #[.int .i64 (23), .int .i64 (0), v58], .func (.func 22) #[] #[], .agg #[.int .i64 (25), .int .i64 (1), v60], .func (.func 22) #[] #[], .agg #[.int .i64 (25), .int .i64 (2), v62], .func (.func 22) #[] #[], .agg #[.int .i64 (25), .int .i64 (3), v64], v65, .agg #[.int .i64 (22), .int .i64 (0), v66], v67, .agg #[.int .i64 (22), .int .i64 (0), v68], v69, .agg #[.int .i64 (24), .int .i64 (0), v70], .func (.func 22) #[] #[], .agg #[.int .i64 (25), .int .i64 (-3), v72], .func (.func 22) #[] #[], .agg #[.int .i64 (25), .int .i64 (1), v74], .func (.func 22) #[] #[], .agg #[.int .i64 (25), .int .i64 (2), v76], v77, .agg #[.int .i64 (27), .int .i64 (0), v78], .func (.func 22) #[] #[], .agg #[.int .i64 (25), .int .i64 (2), v80], .func (.func 22) #[] #[], .agg #[.int .i64 (25), .int .i64 (2), v82], .agg #[.int .i64 (26), .int .i64 (4), v83], .func (.func 22) #[] #[], .agg #[.int .i64 (25), .int .i64 (1), v85], .func (.func 22) #[] #[], .agg #[.int .i64 (25), .int .i64 (2), v87], v88, .agg #[.int .i64 (27), .int .i64 (0), v89], .func (.func 22) #[] #[], .agg #[.int .i64 (25), .int .i64 (5), v91], .func (.func 20) #[] #[], .agg #[.int .i64 (1), .int .i64 (0), v93], .func (.func 20) #[] #[], .agg #[.int .i64 (1), .int .i64 (0), v95], .agg #[.int .i64 (26), .int .i64 (2), v96], v97, .agg #[.int .i64 (28), .int .i64 (0), v98], .agg #[.int .i64 (20), .int .i64 (0), (.slice A37 2 c37)], .func (.func 22) #[] #[], .agg #[.int .i64 (25), .int .i64 (3), v101], v102, .agg #[.int .i64 (21), .int .i64 (0), v103], .func (.func 22) #[] #[], .agg #[.int .i64 (25), .int .i64 (4), v105], v106, .agg #[.int .i64 (21), .int .i64 (0), v107], .func (.func 22) #[] #[], .agg #[.int .i64 (25), .int .i64 (1), v109], .agg #[.int .i64 (15), .int .i64 (0), (.slice A14 0 c14)], .func (.func 20) #[] #[], .agg #[.int .i64 (1), .int .i64 (1), v112], v113, .agg #[.int .i64 (20), .int .i64 (0), v114], .func (.func 22) #[] #[], .agg #[.int .i64 (25), .int .i64 (2), v116], .func (.func 20) #[] #[], .agg #[.int .i64 (1), .int .i64 (1), v118], .func (.func 22) #[] #[], .agg #[.int .i64 (25), .int .i64 (9), v120], v121, .agg #[.int .i64 (21), .int .i64 (0), v122], v123, .agg #[.int .i64 (28), .int .i64 (0), v124], v125, .agg #[.int .i64 (28), .int .i64 (0), v126], v127, .agg #[.int .i64 (28), .int .i64 (0), v128], .func (.func 22) #[] #[], .agg #[.int .i64 (25), .int .i64 (-7), v130], .func (.func 22) #[] #[], .agg #[.int .i64 (25), .int .i64 (2), v132], .agg #[.int .i64 (26), .int .i64 (3), v133], .func (.func 22) #[] #[], .agg #[.int .i64 (25), .int .i64 (7), v135], .func (.func 22) #[] #[], .agg #[.int .i64 (25), .int .i64 (0), v137], .agg #[.int .i64 (26), .int .i64 (3), v138], .func (.func 22) #[] #[], .agg #[.int .i64 (25), .int .i64 (0), v140], .func (.func 22) #[] #[], undef, .func (.func 22) #[] #[], undef, undef, .func (.func 22) #[] #[], undef, undef, undef, .func (.func 22) #[] #[], undef, .func (.func 22) #[] #[], undef, undef, .func (.func 22) #[] #[], undef, undef, undef, .func (.func 22) #[] #[], undef, .func (.func 22) #[] #[], undef, undef, .func (.func 22) #[] #[], undef, undef, undef, .agg #[.int .i64 (16), .int .i64 (0), (.slice A18 2 c18)], .func (.func 20) #[] #[], undef, .func (.func 20) #[] #[], undef, .func (.func 22) #[] #[], undef, undef, undef, undef, undef, undef, undef, .agg #[.int .i64 (20), .int .i64 (0), (.slice A26 2 c26)], undef, undef, .func (.func 22) #[] #[], undef, .func (.func 22) #[] #[], undef, undef, undef, undef, undef, undef, undef, undef, undef, undef, undef, undef, undef, undef, undef, undef, undef, undef], defers := [] } : Act) x') :
    wpAnyLast Tryd.prog .any ops (Exit.then K (bodyPost Tryd.prog Tryd.f5 R)) (fun w' => w'.cell? ⟨g4, 0, none⟩ = some (.int .i64 15) ∧ w'.cell? ⟨g4, 1, none⟩ = some (.int .i64 0) ∧ w'.cell? ⟨g4, 2, none⟩ = some ((.slice A14 0 c14)) ∧ w'.cell? ⟨g6, 0, none⟩ = some (.int .i64 16) ∧ w'.cell? ⟨g6, 1, none⟩ = some (.int .i64 0) ∧ w'.cell? ⟨g6, 2, none⟩ = some ((.slice A18 2 c18)) ∧ w'.cell? ⟨g7, 0, none⟩ = some (.int .i64 20) ∧ w'.cell? ⟨g7, 1, none⟩ = some (.int .i64 0) ∧ w'.cell? ⟨g7, 2, none⟩ = some ((.slice A26 2 c26)) ∧ w'.cell? ⟨g8, 0, none⟩ = some (.int .i64 20) ∧ w'.cell? ⟨g8, 1, none⟩ = some (.int .i64 0) ∧ w'.cell? ⟨g8, 2, none⟩ = some ((.slice A37 2 c37))) [] 51 (bl 153 457223903692353016069468896155101121721925631) ({ tmps := #[.int .i64 a0, undef, .bool false, .func (.func 20) #[] #[], .pointer (some ⟨g4, 0, none⟩), .func (.func 22) #[] #[], .pointer (some ⟨g6, 0, none⟩), .pointer (some ⟨g7, 0, none⟩), .pointer (some ⟨g8, 0, none⟩), undef, undef, undef, .bool true, .bool false, .agg #[.int .i64 (15), .int .i64 (0), (.slice A14 0 c14)], .agg #[.int .i64 (15), .int .i64 (0), (.slice A14 0 c14)], .agg #[.int .i64 (15), .int .i64 (0), (.slice A14 0 c14)], v17, .agg #[.int .i64 (16), .int .i64 (0), (.slice A18 2 c18)], .agg #[.int .i64 (15), .int .i64 (0), (.slice A14 0 c14)], .func (.func 20) #[] #[], .agg #[.int .i64 (1), .int .i64 (0), v21], .func (.func 22) #[] #[], .agg #[.int .i64 (25), .int .i64 (1), v23], .agg #[.int .i64 (26), .int .i64 (0), v24], v25, .agg #[.int .i64 (20), .int .i64 (0), (.slice A26 2 c26)], .agg #[.int .i64 (15), .int .i64 (0), (.slice A14 0 c14)], .agg #[.int .i64 (15), .int .i64 (0), (.slice A14 0 c14)], .func (.func 20) #[] #[], .agg #[.int .i64 (1), .int .i64 (0), v30], .func (.func 20) #[] #[], .agg #[.int .i64 (1), .int .i64 (1), v32], .agg #[.int .i64 (26), .int .i64 (0), v33], v34, .agg #[.int .i64 (20), .int .i64 (0), v35], v36, .agg #[.int .i64 (20), .int .i64 (0), (.slice A37 2 c37)], .func (.func 22) #[] #[], .agg #[.int .i64 (25), .int .i64 (7), v39], .agg #[.int .i64 (20), .int .i64 (0), (.slice A26 2 c26)], .agg #[.int .i64 (20), .int .i64 (0), (.slice A26 2 c26)], .func (.func 22) #[] #[], .agg #[.int .i64 (25), .int .i64 (4), v43], v44, .agg #[.int .i64 (21), .int .i64 (0), v45], .func (.func 22) #[] #[], .agg #[.int .i64 (25), .int .i64 (1), v47], .agg #[.int .i64 (20), .int .i64 (0), (.slice A26 2 c26)], v49, .agg #[.int .i64 (22), .int .i64 (0), v50], .func (.func 22) #[] #[], .agg #[.int .i64 (25), .int .i64 (1), v52], .func (.func 22) #[] #[], .agg #[.int .i64 (25), .int .i64 (2), v54], v55, .agg #[.int .i64 (22), .int .i64 (0), v56], v57, .agg #[.int .i64 (23), .int .i64 (0), v58], .func (.func 22) #[] #[], .agg #[.int .i64 (25), .int .i64 (1), v60], .func (.func 22) #[] #[], .agg #[.int .i64 (25), .int .i64 (2), v62], .func (.func 22) #[] #[], .agg #[.int .i64 (25), .int .i64 (3), v64], v65, .agg #[.int .i64 (22), .int .i64 (0), v66], v67, .agg #[.int .i64 (22), .int .i64 (0), v68], v69, .agg #[.int .i64 (24), .int .i64 (0), v70], .func (.func 22) #[] #[], .agg #[.int .i64 (25), .int .i64 (-3), v72], .func (.func 22) #[] #[], .agg #[.int .i64 (25), .int .i64 (1), v74], .func (.func 22) #[] #[], .agg #[.int .i64 (25), .int .i64 (2), v76], v77, .agg #[.int .i64 (27), .int .i64 (0), v78], .func (.func 22) #[] #[], .agg #[.int .i64 (25), .int .i64 (2), v80], .func (.func 22) #[] #[], .agg #[.int .i64 (25), .int .i64 (2), v82], .agg #[.int .i64 (26), .int .i64 (4), v83], .func (.func 22) #[] #[], .agg #[.int .i64 (25), .int .i64 (1), v85], .func (.func 22) #[] #[], .agg #[.int .i64 (25), .int .i64 (2), v87], v88, .agg #[.int .i64 (27), .int .i64 (0), v89], .func (.func 22) #[] #[], .agg #[.int .i64 (25), .int .i64 (5), v91], .func (.func 20) #[] #[], .agg #[.int .i64 (1), .int .i64 (0), v93], .func (.func 20) #[] #[], .agg #[.int .i64 (1), .int .i64 (0), v95], .agg #[.int .i64 (26), .int .i64 (2), v96], v97, .agg #[.int .i64 (28), .int .i64 (0), v98], .agg #[.int .i64 (20), .int .i64 (0), (.slice A37 2 c37)], .func (.func 22) #[] #[], .agg #[.int .i64 (25), .int .i64 (3), v101], v102, .agg #[.int .i64 (21), .int .i64 (0), v103], .func (.func 22) #[] #[], .agg #[.int .i64 (25), .int .i64 (4), v105], v106, .agg #[.int .i64 (21), .int .i64 (0), v107], .func (.func 22) #[] #[], .agg #[.int .i64 (25), .int .i64 (1), v109], .agg #[.int .i64 (15), .int .i64 (0), (.slice A14 0 c14)], .func (.func 20) #[] #[], .agg #[.int .i64 (1), .int .i64 (1), v112], v113, .agg #[.int .i64 (20), .int .i64 (0), v114], .func (.func 22) #[] #[], .agg #[.int .i64 (25), .int .i64 (2), v116], .func (.func 20) #[] #[], undef, .func (.func 22) #[] #[], undef, undef, undef, undef, undef, undef, undef, undef, undef, .func (.func 22) #[] #[], undef, .func (.func 22) #[] #[], undef, undef, .func (.func 22) #[] #[], undef, .func (.func 22) #[] #[], undef, undef, .func (.func 22) #[] #[], undef, .func (.func 22) #[] #[], undef, .func (.func 22) #[] #[], undef, undef, .func (.func 22) #[] #[], undef, undef, undef, .func (.func 22) #[] #[], undef, .func (.func 22) #[] #[], undef, undef, .func (.func 22) #[] #[], undef, undef, undef, .func (.func 22) #[] #[], undef, .func (.func 22) #[] #[], undef, undef, .func (.func 22) #[] #[], undef, undef, undef, .agg #[.int .i64 (16), .int .i64 (0), (.slice A18 2 c18)], .func (.func 20) #[] #[], undef, .func (.func 20) #[] #[], undef, .func (.func 22) #[] #[], undef, undef, undef, undef, undef, undef, undef, .agg #[.int .i64 (20), .int .i64 (0), (.slice A26 2 c26)], undef, undef, .func (.func 22) #[] #[], undef, .func (.func 22) #[] #[], undef, undef, undef, undef, undef, undef, undef, undef, undef, undef, undef, undef, undef, undef, undef, undef, undef, undef], defers := [] } : Act) x := by
  subst hops
  have hu29 := Tryd.underlying29
  conv in (occs := *) (opsOf Tryd.f5 7) => all_goals whnf
  have F := Aside0.mk hF
  have J := Aside0.mk hJ
  clear hF hJ
  refine with_tabW rk7.tab7 rk7.bits7 (fun HT_ HW_ => ?_)
  refine one_ (i := 80) (N := (some 118)) (bl 153 457223903692353016070677821974715750896631807) rfl rfl (one_of HT_.out (by kernel_rfl)) (by decide) (fun K hK => ?_)
  refine goesV_ Tryd.func20 (by kernel_rfl) rfl #[.int .i64 (1)] (by rfl) rfl rfl rfl (by (try simp only [List.map_toArray, List.map_cons, List.map_nil]); first | done | rfl | (simp only [List.length_drop, List.length_take]; rfl)) ?_
  refine (V_goG (1) _ (fun _ => False) (fun _ h => h.elim)).mono ?_
  rintro e w118 ⟨v118, rfl, hv_, hb_⟩
  refine ⟨_, rfl, ?_⟩
  replace F := Aside0.mk (allg_step F.out hb_ hv_)
  replace J := Aside0.mk (J.out.below hb_)
  clear hb_ hv_
  refine hK.out _ _ (KB.four J.out) (fun hHeld => ?_)
  clear hK K
  refine norm_ (a' := ?_) ?_ ?_
  rotate_left
  · show Act.put _ (some 118) _ = _
    simp only [Act.put, List.setIfInBounds_toArray, List.set_cons_zero, List.set_cons_succ, i64_w, i32_w, u8_w, u32_w]
    rfl
  refine one_ (i := 82) (N := (some 120)) (bl 153 457223903692353016075513525253174267595456511) rfl rfl (one_of HT_.out (by kernel_rfl)) (by decide) (fun K hK => ?_)
  refine goesV_ Tryd.func22 (by kernel_rfl) rfl #[.int .i64 (9)] (by rfl) rfl rfl rfl (by (try simp only [List.map_toArray, List.map_cons, List.map_nil]); first | done | rfl | (simp only [List.length_drop, List.length_take]; rfl)) ?_
  refine (Int_goG (9) _ (fun _ => False) (fun _ h => h.elim)).mono ?_
  rintro e w120 ⟨v120, rfl, hv_, hb_⟩
  refine ⟨_, rfl, ?_⟩
  replace F := Aside0.mk (allg_step F.out hb_ hv_)
  replace J := Aside0.mk (J.out.below hb_)
  clear hb_ hv_
  refine hK.out _ _ (KB.four J.out) (fun hHeld => ?_)
  clear hK K
  refine norm_ (a' := ?_) ?_ ?_
  rotate_left
  · show Act.put _ (some 120) _ = _
    simp only [Act.put, List.setIfInBounds_toArray, List.set_cons_zero, List.set_cons_succ, i64_w, i32_w, u8_w, u32_w]
    rfl
  refine one_ (i := 83) (N := (some 121)) (bl 153 457223903692353016085184931810091300993105919) rfl rfl (one_of HT_.out (by kernel_rfl)) (by decide) (fun K hK => ?_)
  refine lit_step_goG (fun _ => False) (fun _ h => h.elim) ?hg (N' := 121) ?hd (xs := ([⟨1, 1, []⟩, ⟨25, 9, []⟩] : List S29)) (inner := ?inn121_31) ?hr ?hp (by simp) ?_
  (case hd => rfl)
  (case hg => rfl)
  (case hr => first | (go_simp; done) | (go_simp; rfl))
  (case hp => exact Reps.c3 ⟨_, rfl, F.out (_, _) mem_x⟩ (Reps.c3 ⟨_, rfl, F.out (_, _) mem_x⟩ (Reps.none _ _)))
  intro v121 w121 hv_ hb_
  replace F := Aside0.mk (allg_step F.out hb_ hv_)
  replace J := Aside0.mk (J.out.below hb_)
  clear hb_ hv_
  refine hK.out _ _ (KB.four J.out) (fun hHeld => ?_)
  clear hK K
  refine norm_ (a' := ?_) ?_ ?_
  rotate_left
  · show Act.put _ (some 121) _ = _
    simp only [Act.put, List.setIfInBounds_toArray, List.set_cons_zero, List.set_cons_succ, i64_w, i32_w, u8_w, u32_w]
    rfl
  refine one_ (i := 84) (N := (some 122)) (bl 153 457223903692353016104527744923925367788404735) rfl rfl (one_of HT_.out (by kernel_rfl)) (by decide) (fun K hK => ?_)
  refine goes_ Tryd.func21 (by kernel_rfl) rfl #[.int .i64 21, v121] (by rfl) rfl rfl (by (try simp only [List.map_toArray, List.map_cons, List.map_nil]); first | done | rfl | (simp only [List.length_drop, List.length_take]; rfl)) ?_
  refine (T_goG 21 _ _ _ (fun _ => False) (fun _ h => h.elim) (F.out (_, _) mem_x)).mono ?_
  rintro e w122 ⟨v122, rfl, hv_, hb_⟩
  refine ⟨_, rfl, ?_⟩
  replace F := Aside0.mk (allg_step F.out hb_ hv_)
  replace J := Aside0.mk (J.out.below hb_)
  clear hb_ hv_
  refine hK.out _ _ (KB.four J.out) (fun hHeld => ?_)
  clear hK K
  refine norm_ (a' := ?_) ?_ ?_
  rotate_left
  · show Act.put _ (some 122) _ = _
    simp only [Act.put, List.setIfInBounds_toArray, List.set_cons_zero, List.set_cons_succ, i64_w, i32_w, u8_w, u32_w]
    rfl
  refine one_ (i := 85) (N := (some 123)) (bl 153 457223903692353016143213371151593501379002367) rfl rfl (one_of HT_.out (by kernel_rfl)) (by decide) (fun K hK => ?_)
  refine lit_step_goG (fun _ => False) (fun _ h => h.elim) ?hg (N' := 123) ?hd (xs := ([⟨25, 2, []⟩, ⟨21, 0, [⟨1, 1, []⟩, ⟨25, 9, []⟩]⟩] : List S29)) (inner := ?inn123_32) ?hr ?hp (by simp) ?_
  (case hd => rfl)
  (case hg => rfl)
  (case hr => first | (go_simp; done) | (go_simp; rfl))
  (case hp => exact Reps.c3 ⟨_, rfl, F.out (_, _) mem_x⟩ (Reps.c3 ⟨_, rfl, F.out (_, _) mem_x⟩ (Reps.none _ _)))
  intro v123 w123 hv_ hb_
  replace F := Aside0.mk (allg_step F.out hb_ hv_)
  replace J := Aside0.mk (J.out.below hb_)
  clear hb_ hv_
  refine hK.out _ _ (KB.four J.out) (fun hHeld => ?_)
  clear hK K
  refine norm_ (a' := ?_) ?_ ?_
  rotate_left
  · show Act.put _ (some 123) _ = _
    simp only [Act.put, List.setIfInBounds_toArray, List.set_cons_zero, List.set_cons_succ, i64_w, i32_w, u8_w, u32_w]
    rfl
  refine one_ (i := 86) (N := (some 124)) (bl 153 457223903692353016220584623606929768560197631) rfl rfl (one_of HT_.out (by kernel_rfl)) (by decide) (fun K hK => ?_)
  refine goes_ Tryd.func21 (by kernel_rfl) rfl #[.int .i64 28, v123] (by rfl) rfl rfl (by (try simp only [List.map_toArray, List.map_cons, List.map_nil]); first | done | rfl | (simp only [List.length_drop, List.length_take]; rfl)) ?_
  refine (T_goG 28 _ _ _ (fun _ => False) (fun _ h => h.elim) (F.out (_, _) mem_x)).mono ?_
  rintro e w124 ⟨v124, rfl, hv_, hb_⟩
  refine ⟨_, rfl, ?_⟩
  replace F := Aside0.mk (allg_step F.out hb_ hv_)
  replace J := Aside0.mk (J.out.below hb_)
  clear hb_ hv_
  refine hK.out _ _ (KB.four J.out) (fun hHeld => ?_)
  clear hK K
  refine norm_ (a' := ?_) ?_ ?_
  rotate_left
  · show Act.put _ (some 124) _ = _
    simp only [Act.put, List.setIfInBounds_toArray, List.set_cons_zero, List.set_cons_succ, i64_w, i32_w, u8_w, u32_w]
    rfl
  refine one_ (i := 87) (N := (some 125)) (bl 153 457223903692353016375327128517602302922588159) rfl rfl (one_of HT_.out (by kernel_rfl)) (by decide) (fun K hK => ?_)
  refine lit_step_goG (fun _ => False) (fun _ h => h.elim) ?hg (N' := 125) ?hd (xs := ([⟨20, 0, [⟨15, 0, []⟩, ⟨1, 1, []⟩]⟩, ⟨28, 0, [⟨25, 2, []⟩, ⟨21, 0, [⟨1, 1, []⟩, ⟨25, 9, []⟩]⟩]⟩] : List S29)) (inner := ?inn125_33) ?hr ?hp (by simp) ?_
  (case hd => rfl)
  (case hg => rfl)
  (case hr => first | (go_simp; done) | (go_simp; rfl))
  (case hp => exact Reps.c3 ⟨_, rfl, F.out (_, _) mem_x⟩ (Reps.c3 ⟨_, rfl, F.out (_, _) mem_x⟩ (Reps.none _ _)))
  intro v125 w125 hv_ hb_
  replace F := Aside0.mk (allg_step F.out hb_ hv_)
  replace J := Aside0.mk (J.out.below hb_)
  clear hb_ hv_
  refine hK.out _ _ (KB.four J.out) (fun hHeld => ?_)
  clear hK K
  refine norm_ (a' := ?_) ?_ ?_
  rotate_left
  · show Act.put _ (some 125) _ = _
    simp only [Act.put, List.setIfInBounds_toArray, List.set_cons_zero, List.set_cons_succ, i64_w, i32_w, u8_w, u32_w]
    rfl
  refine one_ (i := 88) (N := (some 126)) (bl 153 457223903692353016684812138338947371647369215) rfl rfl (one_of HT_.out (by kernel_rfl)) (by decide) (fun K hK => ?_)
  refine goes_ Tryd.func21 (by kernel_rfl) rfl #[.int .i64 28, v125] (by rfl) rfl rfl (by (try simp only [List.map_toArray, List.map_cons, List.map_nil]); first | done | rfl | (simp only [List.length_drop, List.length_take]; rfl)) ?_
  refine (T_goG 28 _ _ _ (fun _ => False) (fun _ h => h.elim) (F.out (_, _) mem_x)).mono ?_
  rintro e w126 ⟨v126, rfl, hv_, hb_⟩
  refine ⟨_, rfl, ?_⟩
  replace F := Aside0.mk (allg_step F.out hb_ hv_)
  replace J := Aside0.mk (J.out.below hb_)
  clear hb_ hv_
  refine hK.out _ _ (KB.four J.out) (fun hHeld => ?_)
  clear hK K
  refine norm_ (a' := ?_) ?_ ?_
  rotate_left
  · show Act.put _ (some 126) _ = _
    simp only [Act.put, List.setIfInBounds_toArray, List.set_cons_zero, List.set_cons_succ, i64_w, i32_w, u8_w, u32_w]
    rfl
  refine one_ (i := 89) (N := (some 127)) (bl 153 457223903692353017303782157981637509096931327) rfl rfl (one_of HT_.out (by kernel_rfl)) (by decide) (fun K hK => ?_)
  refine lit_step_goG (fun _ => False) (fun _ h => h.elim) ?hg (N' := 127) ?hd (xs := ([⟨25, 1, []⟩, ⟨28, 0, [⟨20, 0, [⟨15, 0, []⟩, ⟨1, 1, []⟩]⟩, ⟨28, 0, [⟨25, 2, []⟩, ⟨21, 0, [⟨1, 1, []⟩, ⟨25, 9, []⟩]⟩]⟩]⟩] : List S29)) (inner := ?inn127_34) ?hr ?hp (by simp) ?_
  (case hd => rfl)
  (case hg => rfl)
  (case hr => first | (go_simp; done) | (go_simp; rfl))
  (case hp => exact Reps.c3 ⟨_, rfl, F.out (_, _) mem_x⟩ (Reps.c3 ⟨_, rfl, F.out (_, _) mem_x⟩ (Reps.none _ _)))
  intro v127 w127 hv_ hb_
  replace F := Aside0.mk (allg_step F.out hb_ hv_)
  replace J := Aside0.mk (J.out.below hb_)
  clear hb_ hv_
  refine hK.out _ _ (KB.four J.out) (fun hHeld => ?_)
  clear hK K
  refine norm_ (a' := ?_) ?_ ?_
  rotate_left
  · show Act.put _ (some 127) _ = _
    simp only [Act.put, List.setIfInBounds_toArray, List.set_cons_zero, List.set_cons_succ, i64_w, i32_w, u8_w, u32_w]
    rfl
  refine one_ (i := 90) (N := (some 128)) (bl 153 457223903692353018541722197267017783996055551) rfl rfl (one_of HT_.out (by kernel_rfl)) (by decide) (fun K hK => ?_)
  refine goes_ Tryd.func21 (by kernel_rfl) rfl #[.int .i64 28, v127] (by rfl) rfl rfl (by (try simp only [List.map_toArray, List.map_cons, List.map_nil]); first | done | rfl | (simp only [List.length_drop, List.length_take]; rfl)) ?_
  refine (T_goG 28 _ _ _ (fun _ => False) (fun _ h => h.elim) (F.out (_, _) mem_x)).mono ?_
  rintro e w128 ⟨v128, rfl, hv_, hb_⟩
  refine ⟨_, rfl, ?_⟩
  replace F := Aside0.mk (allg_step F.out hb_ hv_)
  replace J := Aside0.mk (J.out.below hb_)
  clear hb_ hv_
  refine hK.out _ _ (KB.four J.out) (fun hHeld => ?_)
  clear hK K
  refine norm_ (a' := ?_) ?_ ?_
  rotate_left
  · show Act.put _ (some 128) _ = _
    simp only [Act.put, List.setIfInBounds_toArray, List.set_cons_zero, List.set_cons_succ, i64_w, i32_w, u8_w, u32_w]
    rfl
  refine one_ (i := 92) (N := (some 130)) (bl 153 457223903692353023493482354408538883592552447) rfl rfl (one_of HT_.out (by kernel_rfl)) (by decide) (fun K hK => ?_)
  refine goesV_ Tryd.func22 (by kernel_rfl) rfl #[.int .i64 (-7)] (by rfl) rfl rfl rfl (by (try simp only [List.map_toArray, List.map_cons, List.map_nil]); first | done | rfl | (simp only [List.length_drop, List.length_take]; rfl)) ?_
  refine (Int_goG (-7) _ (fun _ => False) (fun _ h => h.elim)).mono ?_
  rintro e w130 ⟨v130, rfl, hv_, hb_⟩
  refine ⟨_, rfl, ?_⟩
  replace F := Aside0.mk (allg_step F.out hb_ hv_)
  replace J := Aside0.mk (J.out.below hb_)
  clear hb_ hv_
  refine hK.out _ _ (KB.four J.out) (fun hHeld => ?_)
  clear hK K
  refine norm_ (a' := ?_) ?_ ?_
  rotate_left
  · show Act.put _ (some 130) _ = _
    simp only [Act.put, List.setIfInBounds_toArray, List.set_cons_zero, List.set_cons_succ, i64_w, i32_w, u8_w, u32_w]
    rfl
  refine one_ (i := 94) (N := (some 132)) (bl 153 457223903692353043300522982974623281978540031) rfl rfl (one_of HT_.out (by kernel_rfl)) (by decide) (fun K hK => ?_)
  refine goesV_ Tryd.func22 (by kernel_rfl) rfl #[.int .i64 (2)] (by rfl) rfl rfl rfl (by (try simp only [List.map_toArray, List.map_cons, List.map_nil]); first | done | rfl | (simp only [List.length_drop, List.length_take]; rfl)) ?_
  refine (Int_goG (2) _ (fun _ => False) (fun _ h => h.elim)).mono ?_
  rintro e w132 ⟨v132, rfl, hv_, hb_⟩
  refine ⟨_, rfl, ?_⟩
  replace F := Aside0.mk (allg_step F.out hb_ hv_)
  replace J := Aside0.mk (J.out.below hb_)
  clear hb_ hv_
  refine hK.out _ _ (KB.four J.out) (fun hHeld => ?_)
  clear hK K
  refine norm_ (a' := ?_) ?_ ?_
  rotate_left
  · show Act.put _ (some 132) _ = _
    simp only [Act.put, List.setIfInBounds_toArray, List.set_cons_zero, List.set_cons_succ, i64_w, i32_w, u8_w, u32_w]
    rfl
  refine one_ (i := 95) (N := (some 133)) (bl 153 457223903692353082914604240106792078750515199) rfl rfl (one_of HT_.out (by kernel_rfl)) (by decide) (fun K hK => ?_)
  refine goes_ Tryd.func23 (by kernel_rfl) rfl #[.int .i64 3, .agg #[.int .i64 (25), .int .i64 (-7), v130], .agg #[.int .i64 (25), .int .i64 (2), v132]] (by rfl) rfl rfl (by (try simp only [List.map_toArray, List.map_cons, List.map_nil]); first | done | rfl | (simp only [List.length_drop, List.length_take]; rfl)) ?_
  refine (prim_goG 3 ⟨25, -7, []⟩ ⟨25, 2, []⟩ _ _ _ (fun _ => False) (fun _ h => h.elim) (F.out (_, _) mem_x) (F.out (_, _) mem_x)).mono ?_
  rintro e w133 ⟨v133, rfl, hv_, hb_⟩
  refine ⟨_, rfl, ?_⟩
  replace F := Aside0.mk (allg_step F.out hb_ hv_)
  replace J := Aside0.mk (J.out.below hb_)
  clear hb_ hv_
  refine hK.out _ _ (KB.four J.out) (fun hHeld => ?_)
  clear hK K
  refine norm_ (a' := ?_) ?_ ?_
  rotate_left
  · show Act.put _ (some 133) _ = _
    simp only [Act.put, List.setIfInBounds_toArray, List.set_cons_zero, List.set_cons_succ, i64_w, i32_w, u8_w, u32_w]
    rfl
  refine one_ (i := 97) (N := (some 135)) (bl 153 457223903692353241370929268635467265838415871) rfl rfl (one_of HT_.out (by kernel_rfl)) (by decide) (fun K hK => ?_)
  refine goesV_ Tryd.func22 (by kernel_rfl) rfl #[.int .i64 (7)] (by rfl) rfl rfl rfl (by (try simp only [List.map_toArray, List.map_cons, List.map_nil]); first | done | rfl | (simp only [List.length_drop, List.length_take]; rfl)) ?_
  refine (Int_goG (7) _ (fun _ => False) (fun _ h => h.elim)).mono ?_
  rintro e w135 ⟨v135, rfl, hv_, hb_⟩
  refine ⟨_, rfl, ?_⟩
  replace F := Aside0.mk (allg_step F.out hb_ hv_)
  replace J := Aside0.mk (J.out.below hb_)
  clear hb_ hv_
  refine hK.out _ _ (KB.four J.out) (fun hHeld => ?_)
  clear hK K
  refine norm_ (a' := ?_) ?_ ?_
  rotate_left
  · show Act.put _ (some 135) _ = _
    simp only [Act.put, List.setIfInBounds_toArray, List.set_cons_zero, List.set_cons_succ, i64_w, i32_w, u8_w, u32_w]
    rfl
  refine one_ (i := 99) (N := (some 137)) (bl 153 457223903692353875196229382750168014190018559) rfl rfl (one_of HT_.out (by kernel_rfl)) (by decide) (fun K hK => ?_)
  refine goesV_ Tryd.func22 (by kernel_rfl) rfl #[.int .i64 (0)] (by rfl) rfl rfl rfl (by (try simp only [List.map_toArray, List.map_cons, List.map_nil]); first | done | rfl | (simp only [List.length_drop, List.length_take]; rfl)) ?_
  refine (Int_goG (0) _ (fun _ => False) (fun _ h => h.elim)).mono ?_
  rintro e w137 ⟨v137, rfl, hv_, hb_⟩
  refine ⟨_, rfl, ?_⟩
  replace F := Aside0.mk (allg_step F.out hb_ hv_)
  replace J := Aside0.mk (J.out.below hb_)
  clear hb_ hv_
  refine hK.out _ _ (KB.four J.out) (fun hHeld => ?_)
  clear hK K
  refine norm_ (a' := ?_) ?_ ?_
  rotate_left
  · show Act.put _ (some 137) _ = _
    simp only [Act.put, List.setIfInBounds_toArray, List.set_cons_zero, List.set_cons_succ, i64_w, i32_w, u8_w, u32_w]
    rfl
  refine one_ (i := 100) (N := (some 138)) (bl 153 457223903692355142846829610979569510893223935) rfl rfl (one_of HT_.out (by kernel_rfl)) (by decide) (fun K hK => ?_)
  refine goes_ Tryd.func23 (by kernel_rfl) rfl #[.int .i64 3, .agg #[.int .i64 (25), .int .i64 (7), v135], .agg #[.int .i64 (25), .int .i64 (0), v137]] (by rfl) rfl rfl (by (try simp only [List.map_toArray, List.map_cons, List.map_nil]); first | done | rfl | (simp only [List.length_drop, List.length_take]; rfl)) ?_
  refine (prim_goG 3 ⟨25, 7, []⟩ ⟨25, 0, []⟩ _ _ _ (fun _ => False) (fun _ h => h.elim) (F.out (_, _) mem_x) (F.out (_, _) mem_x)).mono ?_
  rintro e w138 ⟨v138, rfl, hv_, hb_⟩
  refine ⟨_, rfl, ?_⟩
  replace F := Aside0.mk (allg_step F.out hb_ hv_)
  replace J := Aside0.mk (J.out.below hb_)
  clear hb_ hv_
  refine hK.out _ _ (KB.four J.out) (fun hHeld => ?_)
  clear hK K
  refine norm_ (a' := ?_) ?_ ?_
  rotate_left
  · show Act.put _ (some 138) _ = _
    simp only [Act.put, List.setIfInBounds_toArray, List.set_cons_zero, List.set_cons_succ, i64_w, i32_w, u8_w, u32_w]
    rfl
  refine one_ (i := 102) (N := (some 140)) (bl 153 457223903692360213449230523897175497706045439) rfl rfl (one_of HT_.out (by kernel_rfl)) (by decide) (fun K hK => ?_)
  refine goesV_ Tryd.func22 (by kernel_rfl) rfl #[.int .i64 (0)] (by rfl) rfl rfl rfl (by (try simp only [List.map_toArray, List.map_cons, List.map_nil]); first | done | rfl | (simp only [List.length_drop, List.length_take]; rfl)) ?_
  refine (Int_goG (0) _ (fun _ => False) (fun _ h => h.elim)).mono ?_
  rintro e w140 ⟨v140, rfl, hv_, hb_⟩
  refine ⟨_, rfl, ?_⟩
  replace F := Aside0.mk (allg_step F.out hb_ hv_)
  replace J := Aside0.mk (J.out.below hb_)
  clear hb_ hv_
  refine hK.out _ _ (KB.four J.out) (fun hHeld => ?_)
  clear hK K
  refine norm_ (a' := ?_) ?_ ?_
  rotate_left
  · show Act.put _ (some 140) _ = _
    simp only [Act.put, List.setIfInBounds_toArray, List.set_cons_zero, List.set_cons_succ, i64_w, i32_w, u8_w, u32_w]
    rfl
  exact hQ v118 v120 v121 v122 v123 v124 v125 v126 v127 v128 v130 v132 v133 v135 v137 v138 v140 _ ((allg_cons (F.out (_, _) mem_x) (allg_cons (F.out (_, _) mem_x) (allg_cons (F.out (_, _) mem_x) (allg_cons (F.out (_, _) mem_x) (allg_cons (F.out (_, _) mem_x) (allg_cons (F.out (_, _) mem_x) (allg_cons (F.out (_, _) mem_x) (allg_cons (F.out (_, _) mem_x) (allg_cons (F.out (_, _) mem_x) (allg_cons (F.out (_, _) mem_x) (allg_cons (F.out (_, _) mem_x) (allg_cons (F.out (_, _) mem_x) (allg_cons (F.out (_, _) mem_x) (allg_cons (F.out (_, _) mem_x) (allg_cons (F.out (_, _) mem_x) (allg_cons (F.out (_, _) mem_x) (allg_cons (F.out (_, _) mem_x) (allg_nil _ _))))))))))))))))))) J.out
end Go.Proofs.YtnecmclnokikoaaDoor.P
/- RunKnown: its drawn region 7, part 4 (genrk.py). -/
namespace Go.Proofs.YtnecmclnokikoaaDoor.P
open Go.RowKit Go.Proofs.YtnecmclnokikoaaDoorW.PrintWords Go.Proofs.YtnecmclnokikoaaDoorW.PrintLast Go.Proofs.YtnecmclnokikoaaDoorW.PrintMore
attribute [local go_sem] max2_int min2_int max_two min_two max_three min_three max_four min_four
set_option linter.unusedVariables false
set_option linter.unusedSimpArgs false
set_option maxHeartbeats 32000000 in
set_option maxRecDepth 100000 in
theorem rk7_4 (a0 : Int) (g4 : Nat) (A14 : Option Addr) (c14 : Nat) (v17 : Value) (A18 : Option Addr) (c18 : Nat) (g6 : Nat) (v21 : Value) (v23 : Value) (v24 : Value) (v25 : Value) (A26 : Option Addr) (c26 : Nat) (g7 : Nat) (v30 : Value) (v32 : Value) (v33 : Value) (v34 : Value) (v35 : Value) (v36 : Value) (A37 : Option Addr) (c37 : Nat) (g8 : Nat) (v39 : Value) (v43 : Value) (v44 : Value) (v45 : Value) (v47 : Value) (v49 : Value) (v50 : Value) (v52 : Value) (v54 : Value) (v55 : Value) (v56 : Value) (v57 : Value) (v58 : Value) (v60 : Value) (v62 : Value) (v64 : Value) (v65 : Value) (v66 : Value) (v67 : Value) (v68 : Value) (v69 : Value) (v70 : Value) (v72 : Value) (v74 : Value) (v76 : Value) (v77 : Value) (v78 : Value) (v80 : Value) (v82 : Value) (v83 : Value) (v85 : Value) (v87 : Value) (v88 : Value) (v89 : Value) (v91 : Value) (v93 : Value) (v95 : Value) (v96 : Value) (v97 : Value) (v98 : Value) (v101 : Value) (v102 : Value) (v103 : Value) (v105 : Value) (v106 : Value) (v107 : Value) (v109 : Value) (v112 : Value) (v113 : Value) (v114 : Value) (v116 : Value) (v118 : Value) (v120 : Value) (v121 : Value) (v122 : Value) (v123 : Value) (v124 : Value) (v125 : Value) (v126 : Value) (v127 : Value) (v128 : Value) (v130 : Value) (v132 : Value) (v133 : Value) (v135 : Value) (v137 : Value) (v138 : Value) (v140 : Value) (w x : World) {ops : Array Oper} {K : Act → World → Prop} {R : Ending → World → Prop} (hops : ops = opsOf Tryd.f5 7) (hF : ALLG x (fun _ => False) [(v140, ([] : List S29)), (v138, ([⟨25, 7, []⟩, ⟨25, 0, []⟩] : List S29)), (v133, ([⟨25, -7, []⟩, ⟨25, 2, []⟩] : List S29)), (v128, ([⟨25, 1, []⟩, ⟨28, 0, [⟨20, 0, [⟨15, 0, []⟩, ⟨1, 1, []⟩]⟩, ⟨28, 0, [⟨25, 2, []⟩, ⟨21, 0, [⟨1, 1, []⟩, ⟨25, 9, []⟩]⟩]⟩]⟩] : List S29)), (v107, ([⟨21, 0, [⟨20, 0, [⟨15, 0, []⟩, ⟨20, 0, [⟨15, 0, []⟩, ⟨26, 0, [⟨1, 0, []⟩, ⟨1, 1, []⟩]⟩]⟩]⟩, ⟨25, 3, []⟩]⟩, ⟨25, 4, []⟩] : List S29)), (v98, ([⟨25, 5, []⟩, ⟨26, 2, [⟨1, 0, []⟩, ⟨1, 0, []⟩]⟩] : List S29)), (v89, ([⟨26, 4, [⟨25, 2, []⟩, ⟨25, 2, []⟩]⟩, ⟨25, 1, []⟩, ⟨25, 2, []⟩] : List S29)), (v78, ([⟨25, -3, []⟩, ⟨25, 1, []⟩, ⟨25, 2, []⟩] : List S29)), (v70, ([⟨22, 0, [⟨25, 1, []⟩, ⟨22, 0, [⟨25, 2, []⟩, ⟨25, 3, []⟩]⟩]⟩] : List S29)), (v58, ([⟨22, 0, [⟨25, 1, []⟩, ⟨25, 2, []⟩]⟩] : List S29)), (v50, ([⟨25, 1, []⟩, ⟨20, 0, [⟨15, 0, []⟩, ⟨26, 0, [⟨1, 0, []⟩, ⟨25, 1, []⟩]⟩]⟩] : List S29)), (v45, ([⟨20, 0, [⟨15, 0, []⟩, ⟨26, 0, [⟨1, 0, []⟩, ⟨25, 1, []⟩]⟩]⟩, ⟨25, 4, []⟩] : List S29)), (v39, ([] : List S29)), ((.slice A14 0 c14), ([] : List S29)), ((.slice A18 2 c18), ([⟨15, 0, []⟩, ⟨15, 0, []⟩] : List S29)), ((.slice A26 2 c26), ([⟨15, 0, []⟩, ⟨26, 0, [⟨1, 0, []⟩, ⟨25, 1, []⟩]⟩] : List S29)), ((.slice A37 2 c37), ([⟨15, 0, []⟩, ⟨20, 0, [⟨15, 0, []⟩, ⟨26, 0, [⟨1, 0, []⟩, ⟨1, 1, []⟩]⟩]⟩] : List S29))]) (hJ : KB w x [(g8, 20, 0, (.slice A37 2 c37)), (g7, 20, 0, (.slice A26 2 c26)), (g6, 16, 0, (.slice A18 2 c18)), (g4, 15, 0, (.slice A14 0 c14))])
    (hQ : ∀ (v142 : Value) (v144 : Value) (v145 : Value) (v147 : Value) (v148 : Value) (v149 : Value) (v151 : Value) (v153 : Value) (v154 : Value) (v156 : Value) (v157 : Value) (v158 : Value) (v160 : Value) (v162 : Value) (v163 : Value) (v165 : Value) (v166 : Value) (x' : World), ALLG x' (fun _ => False) [(v166, ([⟨26, 3, [⟨25, 1, []⟩, ⟨25, 0, []⟩]⟩, ⟨25, 3, []⟩] : List S29)), (v158, ([⟨26, 3, [⟨25, 1, []⟩, ⟨25, 0, []⟩]⟩, ⟨25, 3, []⟩] : List S29)), (v149, ([⟨25, 0, []⟩, ⟨26, 3, [⟨25, 1, []⟩, ⟨25, 0, []⟩]⟩, ⟨25, 3, []⟩] : List S29)), (v138, ([⟨25, 7, []⟩, ⟨25, 0, []⟩] : List S29)), (v133, ([⟨25, -7, []⟩, ⟨25, 2, []⟩] : List S29)), (v128, ([⟨25, 1, []⟩, ⟨28, 0, [⟨20, 0, [⟨15, 0, []⟩, ⟨1, 1, []⟩]⟩, ⟨28, 0, [⟨25, 2, []⟩, ⟨21, 0, [⟨1, 1, []⟩, ⟨25, 9, []⟩]⟩]⟩]⟩] : List S29)), (v107, ([⟨21, 0, [⟨20, 0, [⟨15, 0, []⟩, ⟨20, 0, [⟨15, 0, []⟩, ⟨26, 0, [⟨1, 0, []⟩, ⟨1, 1, []⟩]⟩]⟩]⟩, ⟨25, 3, []⟩]⟩, ⟨25, 4, []⟩] : List S29)), (v98, ([⟨25, 5, []⟩, ⟨26, 2, [⟨1, 0, []⟩, ⟨1, 0, []⟩]⟩] : List S29)), (v89, ([⟨26, 4, [⟨25, 2, []⟩, ⟨25, 2, []⟩]⟩, ⟨25, 1, []⟩, ⟨25, 2, []⟩] : List S29)), (v78, ([⟨25, -3, []⟩, ⟨25, 1, []⟩, ⟨25, 2, []⟩] : List S29)), (v70, ([⟨22, 0, [⟨25, 1, []⟩, ⟨22, 0, [⟨25, 2, []⟩, ⟨25, 3, []⟩]⟩]⟩] : List S29)), (v58, ([⟨22, 0, [⟨25, 1, []⟩, ⟨25, 2, []⟩]⟩] : List S29)), (v50, ([⟨25, 1, []⟩, ⟨20, 0, [⟨15, 0, []⟩, ⟨26, 0, [⟨1, 0, []⟩, ⟨25, 1, []⟩]⟩]⟩] : List S29)), (v45, ([⟨20, 0, [⟨15, 0, []⟩, ⟨26, 0, [⟨1, 0, []⟩, ⟨25, 1, []⟩]⟩]⟩, ⟨25, 4, []⟩] : List S29)), (v39, ([] : List S29)), ((.slice A14 0 c14), ([] : List S29)), ((.slice A18 2 c18), ([⟨15, 0, []⟩, ⟨15, 0, []⟩] : List S29)), ((.slice A26 2 c26), ([⟨15, 0, []⟩, ⟨26, 0, [⟨1, 0, []⟩, ⟨25, 1, []⟩]⟩] : List S29)), ((.slice A37 2 c37), ([⟨15, 0, []⟩, ⟨20, 0, [⟨15, 0, []⟩, ⟨26, 0, [⟨1, 0, []⟩, ⟨1, 1, []⟩]⟩]⟩] : List S29))] → KB w x' [(g8, 20, 0, (.slice A37 2 c37)), (g7, 20, 0, (.slice A26 2 c26)), (g6, 16, 0, (.slice A18 2 c18)), (g4, 15, 0, (.slice A14 0 c14))] → wpAnyLast Tryd.prog .any ops (Exit.then K (bodyPost Tryd.prog Tryd.f5 R)) (fun w' => w'.cell? ⟨g4, 0, none⟩ = some (.int .i64 15) ∧ w'.cell? ⟨g4, 1, none⟩ = some (.int .i64 0) ∧ w'.cell? ⟨g4, 2, none⟩ = some ((.slice A14 0 c14)) ∧ w'.cell? ⟨g6, 0, none⟩ = some (.int .i64 16) ∧ w'.cell? ⟨g6, 1, none⟩ = some (.int .i64 0) ∧ w'.cell? ⟨g6, 2, none⟩ = some ((.slice A18 2 c18)) ∧ w'.cell? ⟨g7, 0, none⟩ = some (.int .i64 20) ∧ w'.cell? ⟨g7, 1, none⟩ = some (.int .i64 0) ∧ w'.cell? ⟨g7, 2, none⟩ = some ((.slice A26 2 c26)) ∧ w'.cell? ⟨g8, 0, none⟩ = some (.int .i64 20) ∧ w'.cell? ⟨g8, 1, none⟩ = some (.int .i64 0) ∧ w'.cell? ⟨g8, 2, none⟩ = some ((.slice A37 2 c37))) [] 17 (bl 153 457224485701722017694124851770984538541391871) ({ tmps := #[.int .i64 a0, undef, .bool false, .func (.func 20) #[] #[], .pointer (some ⟨g4, 0, none⟩), .func (.func 22) #[] #[], .pointer (some ⟨g6, 0, none⟩), .pointer (some ⟨g7, 0, none⟩), .pointer (some ⟨g8, 0, none⟩), undef, undef, undef, .bool true, .bool false, .agg #[.int .i64 (15), .int .i64 (0), (.slice A14 0 c14)], .agg #[.int .i64 (15), .int .i64 (0), (.slice A14 0 c14)], .agg #[.int .i64 (15), .int .i64 (0), (.slice A14 0 c14)], v17, .agg #[.int .i64 (16), .int .i64 (0), (.slice A18 2 c18)], .agg #[.int .i64 (15), .int .i64 (0), (.slice A14 0 c14)], .func (.func 20) #[] #[], .agg #[.int .i64 (1), .int .i64 (0), v21], .func (.func 22) #[] #[], .agg #[.int .i64 (25), .int .i64 (1), v23], .agg #[.int .i64 (26), .int .i64 (0), v24], v25, .agg #[.int .i64 (20), .int .i64 (0), (.slice A26 2 c26)], .agg #[.int .i64 (15), .int .i64 (0), (.slice A14 0 c14)], .agg #[.int .i64 (15), .int .i64 (0), (.slice A14 0 c14)], .func (.func 20) #[] #[], .agg #[.int .i64 (1), .int .i64 (0), v30], .func (.func 20) #[] #[], .agg #[.int .i64 (1), .int .i64 (1), v32], .agg #[.int .i64 (26), .int .i64 (0), v33], v34, .agg #[.int .i64 (20), .int .i64 (0), v35], v36, .agg #[.int .i64 (20), .int .i64 (0), (.slice A37 2 c37)], .func (.func 22) #[] #[], .agg #[.int .i64 (25), .int .i64 (7), v39], .agg #[.int .i64 (20), .int .i64 (0), (.slice A26 2 c26)], .agg #[.int .i64 (20), .int .i64 (0), (.slice A26 2 c26)], .func (.func 22) #[] #[], .agg #[.int .i64 (25), .int .i64 (4), v43], v44, .agg #[.int .i64 (21), .int .i64 (0), v45], .func (.func 22) #[] #[], .agg #[.int .i64 (25), .int .i64 (1), v47], .agg #[.int .i64 (20), .int .i64 (0), (.slice A26 2 c26)], v49, .agg #[.int .i64 (22), .int .i64 (0), v50], .func (.func 22) #[] #[], .agg #[.int .i64 (25), .int .i64 (1), v52], .func (.func 22) #[] #[], .agg #[.int .i64 (25), .int .i64 (2), v54], v55, .agg #[.int .i64 (22), .int .i64 (0), v56], v57, .agg #[.int .i64 (23), .int .i64 (0), v58], .func (.func 22) #[] #[], .agg #[.int .i64 (25), .int .i64 (1), v60], .func (.func 22) #[] #[], .agg #[.int .i64 (25), .int .i64 (2), v62], .func (.func 22) #[] #[], .agg #[.int .i64 (25), .int .i64 (3), v64], v65, .agg #[.int .i64 (22), .int .i64 (0), v66], v67, .agg #[.int .i64 (22), .int .i64 (0), v68], v69, .agg #[.int .i64 (24), .int .i64 (0), v70], .func (.func 22) #[] #[], .agg #[.int .i64 (25), .int .i64 (-3), v72], .func (.func 22) #[] #[], .agg #[.int .i64 (25), .int .i64 (1), v74], .func (.func 22) #[] #[], .agg #[.int .i64 (25), .int .i64 (2), v76], v77, .agg #[.int .i64 (27), .int .i64 (0), v78], .func (.func 22) #[] #[], .agg #[.int .i64 (25), .int .i64 (2), v80], .func (.func 22) #[] #[], .agg #[.int .i64 (25), .int .i64 (2), v82], .agg #[.int .i64 (26), .int .i64 (4), v83], .func (.func 22) #[] #[], .agg #[.int .i64 (25), .int .i64 (1), v85], .func (.func 22) #[] #[], .agg #[.int .i64 (25), .int .i64 (2), v87], v88, .agg #[.int .i64 (27), .int .i64 (0), v89], .func (.func 22) #[] #[], .agg #[.int .i64 (25), .int .i64 (5), v91], .func (.func 20) #[] #[], .agg #[.int .i64 (1), .int .i64 (0), v93], .func (.func 20) #[] #[], .agg #[.int .i64 (1), .int .i64 (0), v95], .agg #[.int .i64 (26), .int .i64 (2), v96], v97, .agg #[.int .i64 (28), .int .i64 (0), v98], .agg #[.int .i64 (20), .int .i64 (0), (.slice A37 2 c37)], .func (.func 22) #[] #[], .agg #[.int .i64 (25), .int .i64 (3), v101], v102, .agg #[.int .i64 (21), .int .i64 (0), v103], .func (.func 22) #[] #[], .agg #[.int .i64 (25), .int .i64 (4), v105], v106, .agg #[.int .i64 (21), .int .i64 (0), v107], .func (.func 22) #[] #[], .agg #[.int .i64 (25), .int .i64 (1), v109], .agg #[.int .i64 (15), .int .i64 (0), (.slice A14 0 c14)], .func (.func 20) #[] #[], .agg #[.int .i64 (1), .int .i64 (1), v112], v113, .agg #[.int .i64 (20), .int .i64 (0), v114], .func (.func 22) #[] #[], .agg #[.int .i64 (25), .int .i64 (2), v116], .func (.func 20) #[] #[], .agg #[.int .i64 (1), .int .i64 (1), v118], .func (.func 22) #[] #[], .agg #[.int .i64 (25), .int .i64 (9), v120], v121, .agg #[.int .i64 (21), .int .i64 (0), v122], v123, .agg #[.int .i64 (28), .int .i64 (0), v124], v125, .agg #[.int .i64 (28), .int .i64 (0), v126], v127, .agg #[.int .i64 (28), .int .i64 (0), v128], .func (.func 22) #[] #[], .agg #[.int .i64 (25), .int .i64 (-7), v130], .func (.func 22) #[] #[], .agg #[.int .i64 (25), .int .i64 (2), v132], .agg #[.int .i64 (26), .int .i64 (3), v133], .func (.func 22) #[] #[], .agg #[.int .i64 (25), .int .i64 (7), v135], .func (.func 22) #[] #[], .agg #[.int .i64 (25), .int .i64 (0), v137], .agg #[.int .i64 (26), .int .i64 (3), v138], .func (.func 22) #[] #[], .agg #[.int .i64 (25), .int .i64 (0), v140], .func (.func 22) #[] #[], .agg #[.int .i64 (25), .int .i64 (1), v142], .func (.func 22) #[] #[], .agg #[.int .i64 (25), .int .i64 (0), v144], .agg #[.int .i64 (26), .int .i64 (3), v145], .func (.func 22) #[] #[], .agg #[.int .i64 (25), .int .i64 (3), v147], v148, .agg #[.int .i64 (27), .int .i64 (0), v149], .func (.func 22) #[] #[], .agg #[.int .i64 (25), .int .i64 (1), v151], .func (.func 22) #[] #[], .agg #[.int .i64 (25), .int .i64 (0), v153], .agg #[.int .i64 (26), .int .i64 (3), v154], .func (.func 22) #[] #[], .agg #[.int .i64 (25), .int .i64 (3), v156], v157, .agg #[.int .i64 (22), .int .i64 (0), v158], .func (.func 22) #[] #[], .agg #[.int .i64 (25), .int .i64 (1), v160], .func (.func 22) #[] #[], .agg #[.int .i64 (25), .int .i64 (0), v162], .agg #[.int .i64 (26), .int .i64 (3), v163], .func (.func 22) #[] #[], .agg #[.int .i64 (25), .int .i64 (3), v165], v166, undef, .agg #[.int .i64 (16), .int .i64 (0), (.slice A18 2 c18)], .func (.func 20) #[] #[], undef, .func (.func 20) #[] #[], undef, .func (.func 22) #[] #[], undef, undef, undef, undef, undef, undef, undef, .agg #[.int .i64 (20), .int .i64 (0), (.slice A26 2 c26)], undef, undef, .func (.func 22) #[] #[], undef, .func (.func 22) #[] #[], undef, undef, undef, undef, undef, undef, undef, undef, undef, undef, undef, undef, undef, undef, undef, undef, undef, undef], defers := [] } : Act) x') :
    wpAnyLast Tryd.prog .any ops (Exit.then K (bodyPost Tryd.prog Tryd.f5 R)) (fun w' => w'.cell? ⟨g4, 0, none⟩ = some (.int .i64 15) ∧ w'.cell? ⟨g4, 1, none⟩ = some (.int .i64 0) ∧ w'.cell? ⟨g4, 2, none⟩ = some ((.slice A14 0 c14)) ∧ w'.cell? ⟨g6, 0, none⟩ = some (.int .i64 16) ∧ w'.cell? ⟨g6, 1, none⟩ = some (.int .i64 0) ∧ w'.cell? ⟨g6, 2, none⟩ = some ((.slice A18 2 c18)) ∧ w'.cell? ⟨g7, 0, none⟩ = some (.int .i64 20) ∧ w'.cell? ⟨g7, 1, none⟩ = some (.int .i64 0) ∧ w'.cell? ⟨g7, 2, none⟩ = some ((.slice A26 2 c26)) ∧ w'.cell? ⟨g8, 0, none⟩ = some (.int .i64 20) ∧ w'.cell? ⟨g8, 1, none⟩ = some (.int .i64 0) ∧ w'.cell? ⟨g8, 2, none⟩ = some ((.slice A37 2 c37))) [] 34 (bl 153 457223903692360213449230523897175497706045439) ({ tmps := #[.int .i64 a0, undef, .bool false, .func (.func 20) #[] #[], .pointer (some ⟨g4, 0, none⟩), .func (.func 22) #[] #[], .pointer (some ⟨g6, 0, none⟩), .pointer (some ⟨g7, 0, none⟩), .pointer (some ⟨g8, 0, none⟩), undef, undef, undef, .bool true, .bool false, .agg #[.int .i64 (15), .int .i64 (0), (.slice A14 0 c14)], .agg #[.int .i64 (15), .int .i64 (0), (.slice A14 0 c14)], .agg #[.int .i64 (15), .int .i64 (0), (.slice A14 0 c14)], v17, .agg #[.int .i64 (16), .int .i64 (0), (.slice A18 2 c18)], .agg #[.int .i64 (15), .int .i64 (0), (.slice A14 0 c14)], .func (.func 20) #[] #[], .agg #[.int .i64 (1), .int .i64 (0), v21], .func (.func 22) #[] #[], .agg #[.int .i64 (25), .int .i64 (1), v23], .agg #[.int .i64 (26), .int .i64 (0), v24], v25, .agg #[.int .i64 (20), .int .i64 (0), (.slice A26 2 c26)], .agg #[.int .i64 (15), .int .i64 (0), (.slice A14 0 c14)], .agg #[.int .i64 (15), .int .i64 (0), (.slice A14 0 c14)], .func (.func 20) #[] #[], .agg #[.int .i64 (1), .int .i64 (0), v30], .func (.func 20) #[] #[], .agg #[.int .i64 (1), .int .i64 (1), v32], .agg #[.int .i64 (26), .int .i64 (0), v33], v34, .agg #[.int .i64 (20), .int .i64 (0), v35], v36, .agg #[.int .i64 (20), .int .i64 (0), (.slice A37 2 c37)], .func (.func 22) #[] #[], .agg #[.int .i64 (25), .int .i64 (7), v39], .agg #[.int .i64 (20), .int .i64 (0), (.slice A26 2 c26)], .agg #[.int .i64 (20), .int .i64 (0), (.slice A26 2 c26)], .func (.func 22) #[] #[], .agg #[.int .i64 (25), .int .i64 (4), v43], v44, .agg #[.int .i64 (21), .int .i64 (0), v45], .func (.func 22) #[] #[], .agg #[.int .i64 (25), .int .i64 (1), v47], .agg #[.int .i64 (20), .int .i64 (0), (.slice A26 2 c26)], v49, .agg #[.int .i64 (22), .int .i64 (0), v50], .func (.func 22) #[] #[], .agg #[.int .i64 (25), .int .i64 (1), v52], .func (.func 22) #[] #[], .agg #[.int .i64 (25), .int .i64 (2), v54], v55, .agg #[.int .i64 (22), .int .i64 (0), v56], v57, .agg #[.int .i64 (23), .int .i64 (0), v58], .func (.func 22) #[] #[], .agg #[.int .i64 (25), .int .i64 (1), v60], .func (.func 22) #[] #[], .agg #[.int .i64 (25), .int .i64 (2), v62], .func (.func 22) #[] #[], .agg #[.int .i64 (25), .int .i64 (3), v64], v65, .agg #[.int .i64 (22), .int .i64 (0), v66], v67, .agg #[.int .i64 (22), .int .i64 (0), v68], v69, .agg #[.int .i64 (24), .int .i64 (0), v70], .func (.func 22) #[] #[], .agg #[.int .i64 (25), .int .i64 (-3), v72], .func (.func 22) #[] #[], .agg #[.int .i64 (25), .int .i64 (1), v74], .func (.func 22) #[] #[], .agg #[.int .i64 (25), .int .i64 (2), v76], v77, .agg #[.int .i64 (27), .int .i64 (0), v78], .func (.func 22) #[] #[], .agg #[.int .i64 (25), .int .i64 (2), v80], .func (.func 22) #[] #[], .agg #[.int .i64 (25), .int .i64 (2), v82], .agg #[.int .i64 (26), .int .i64 (4), v83], .func (.func 22) #[] #[], .agg #[.int .i64 (25), .int .i64 (1), v85], .func (.func 22) #[] #[], .agg #[.int .i64 (25), .int .i64 (2), v87], v88, .agg #[.int .i64 (27), .int .i64 (0), v89], .func (.func 22) #[] #[], .agg #[.int .i64 (25), .int .i64 (5), v91], .func (.func 20) #[] #[], .agg #[.int .i64 (1), .int .i64 (0), v93], .func (.func 20) #[] #[], .agg #[.int .i64 (1), .int .i64 (0), v95], .agg #[.int .i64 (26), .int .i64 (2), v96], v97, .agg #[.int .i64 (28), .int .i64 (0), v98], .agg #[.int .i64 (20), .int .i64 (0), (.slice A37 2 c37)], .func (.func 22) #[] #[], .agg #[.int .i64 (25), .int .i64 (3), v101], v102, .agg #[.int .i64 (21), .int .i64 (0), v103], .func (.func 22) #[] #[], .agg #[.int .i64 (25), .int .i64 (4), v105], v106, .agg #[.int .i64 (21), .int .i64 (0), v107], .func (.func 22) #[] #[], .agg #[.int .i64 (25), .int .i64 (1), v109], .agg #[.int .i64 (15), .int .i64 (0), (.slice A14 0 c14)], .func (.func 20) #[] #[], .agg #[.int .i64 (1), .int .i64 (1), v112], v113, .agg #[.int .i64 (20), .int .i64 (0), v114], .func (.func 22) #[] #[], .agg #[.int .i64 (25), .int .i64 (2), v116], .func (.func 20) #[] #[], .agg #[.int .i64 (1), .int .i64 (1), v118], .func (.func 22) #[] #[], .agg #[.int .i64 (25), .int .i64 (9), v120], v121, .agg #[.int .i64 (21), .int .i64 (0), v122], v123, .agg #[.int .i64 (28), .int .i64 (0), v124], v125, .agg #[.int .i64 (28), .int .i64 (0), v126], v127, .agg #[.int .i64 (28), .int .i64 (0), v128], .func (.func 22) #[] #[], .agg #[.int .i64 (25), .int .i64 (-7), v130], .func (.func 22) #[] #[], .agg #[.int .i64 (25), .int .i64 (2), v132], .agg #[.int .i64 (26), .int .i64 (3), v133], .func (.func 22) #[] #[], .agg #[.int .i64 (25), .int .i64 (7), v135], .func (.func 22) #[] #[], .agg #[.int .i64 (25), .int .i64 (0), v137], .agg #[.int .i64 (26), .int .i64 (3), v138], .func (.func 22) #[] #[], .agg #[.int .i64 (25), .int .i64 (0), v140], .func (.func 22) #[] #[], undef, .func (.func 22) #[] #[], undef, undef, .func (.func 22) #[] #[], undef, undef, undef, .func (.func 22) #[] #[], undef, .func (.func 22) #[] #[], undef, undef, .func (.func 22) #[] #[], undef, undef, undef, .func (.func 22) #[] #[], undef, .func (.func 22) #[] #[], undef, undef, .func (.func 22) #[] #[], undef, undef, undef, .agg #[.int .i64 (16), .int .i64 (0), (.slice A18 2 c18)], .func (.func 20) #[] #[], undef, .func (.func 20) #[] #[], undef, .func (.func 22) #[] #[], undef, undef, undef, undef, undef, undef, undef, .agg #[.int .i64 (20), .int .i64 (0), (.slice A26 2 c26)], undef, undef, .func (.func 22) #[] #[], undef, .func (.func 22) #[] #[], undef, undef, undef, undef, undef, undef, undef, undef, undef, undef, undef, undef, undef, undef, undef, undef, undef, undef], defers := [] } : Act) x := by
  subst hops
  have hu29 := Tryd.underlying29
  conv in (occs := *) (opsOf Tryd.f5 7) => all_goals whnf
  have F := Aside0.mk hF
  have J := Aside0.mk hJ
  clear hF hJ
  refine with_tabW rk7.tab7 rk7.bits7 (fun HT_ HW_ => ?_)
  refine one_ (i := 104) (N := (some 142)) (bl 153 457223903692380495858834175567599444957331455) rfl rfl (one_of HT_.out (by kernel_rfl)) (by decide) (fun K hK => ?_)
  refine goesV_ Tryd.func22 (by kernel_rfl) rfl #[.int .i64 (1)] (by rfl) rfl rfl rfl (by (try simp only [List.map_toArray, List.map_cons, List.map_nil]); first | done | rfl | (simp only [List.length_drop, List.length_take]; rfl)) ?_
  refine (Int_goG (1) _ (fun _ => False) (fun _ h => h.elim)).mono ?_
  rintro e w142 ⟨v142, rfl, hv_, hb_⟩
  refine ⟨_, rfl, ?_⟩
  replace F := Aside0.mk (allg_step F.out hb_ hv_)
  replace J := Aside0.mk (J.out.below hb_)
  clear hb_ hv_
  refine hK.out _ _ (KB.four J.out) (fun hHeld => ?_)
  clear hK K
  refine norm_ (a' := ?_) ?_ ?_
  rotate_left
  · show Act.put _ (some 142) _ = _
    simp only [Act.put, List.setIfInBounds_toArray, List.set_cons_zero, List.set_cons_succ, i64_w, i32_w, u8_w, u32_w]
    rfl
  refine one_ (i := 106) (N := (some 144)) (bl 153 457223903692461625497248782249295233962475519) rfl rfl (one_of HT_.out (by kernel_rfl)) (by decide) (fun K hK => ?_)
  refine goesV_ Tryd.func22 (by kernel_rfl) rfl #[.int .i64 (0)] (by rfl) rfl rfl rfl (by (try simp only [List.map_toArray, List.map_cons, List.map_nil]); first | done | rfl | (simp only [List.length_drop, List.length_take]; rfl)) ?_
  refine (Int_goG (0) _ (fun _ => False) (fun _ h => h.elim)).mono ?_
  rintro e w144 ⟨v144, rfl, hv_, hb_⟩
  refine ⟨_, rfl, ?_⟩
  replace F := Aside0.mk (allg_step F.out hb_ hv_)
  replace J := Aside0.mk (J.out.below hb_)
  clear hb_ hv_
  refine hK.out _ _ (KB.four J.out) (fun hHeld => ?_)
  clear hK K
  refine norm_ (a' := ?_) ?_ ?_
  rotate_left
  · show Act.put _ (some 144) _ = _
    simp only [Act.put, List.setIfInBounds_toArray, List.set_cons_zero, List.set_cons_succ, i64_w, i32_w, u8_w, u32_w]
    rfl
  refine one_ (i := 107) (N := (some 145)) (bl 153 457223903692623884774077995612686811972763647) rfl rfl (one_of HT_.out (by kernel_rfl)) (by decide) (fun K hK => ?_)
  refine goes_ Tryd.func23 (by kernel_rfl) rfl #[.int .i64 3, .agg #[.int .i64 (25), .int .i64 (1), v142], .agg #[.int .i64 (25), .int .i64 (0), v144]] (by rfl) rfl rfl (by (try simp only [List.map_toArray, List.map_cons, List.map_nil]); first | done | rfl | (simp only [List.length_drop, List.length_take]; rfl)) ?_
  refine (prim_goG 3 ⟨25, 1, []⟩ ⟨25, 0, []⟩ _ _ _ (fun _ => False) (fun _ h => h.elim) (F.out (_, _) mem_x) (F.out (_, _) mem_x)).mono ?_
  rintro e w145 ⟨v145, rfl, hv_, hb_⟩
  refine ⟨_, rfl, ?_⟩
  replace F := Aside0.mk (allg_step F.out hb_ hv_)
  replace J := Aside0.mk (J.out.below hb_)
  clear hb_ hv_
  refine hK.out _ _ (KB.four J.out) (fun hHeld => ?_)
  clear hK K
  refine norm_ (a' := ?_) ?_ ?_
  rotate_left
  · show Act.put _ (some 145) _ = _
    simp only [Act.put, List.setIfInBounds_toArray, List.set_cons_zero, List.set_cons_succ, i64_w, i32_w, u8_w, u32_w]
    rfl
  refine one_ (i := 109) (N := (some 147)) (bl 153 457223903693272921881394849066253124013916159) rfl rfl (one_of HT_.out (by kernel_rfl)) (by decide) (fun K hK => ?_)
  refine goesV_ Tryd.func22 (by kernel_rfl) rfl #[.int .i64 (3)] (by rfl) rfl rfl rfl (by (try simp only [List.map_toArray, List.map_cons, List.map_nil]); first | done | rfl | (simp only [List.length_drop, List.length_take]; rfl)) ?_
  refine (Int_goG (3) _ (fun _ => False) (fun _ h => h.elim)).mono ?_
  rintro e w147 ⟨v147, rfl, hv_, hb_⟩
  refine ⟨_, rfl, ?_⟩
  replace F := Aside0.mk (allg_step F.out hb_ hv_)
  replace J := Aside0.mk (J.out.below hb_)
  clear hb_ hv_
  refine hK.out _ _ (KB.four J.out) (fun hHeld => ?_)
  clear hK K
  refine norm_ (a' := ?_) ?_ ?_
  rotate_left
  · show Act.put _ (some 147) _ = _
    simp only [Act.put, List.setIfInBounds_toArray, List.set_cons_zero, List.set_cons_succ, i64_w, i32_w, u8_w, u32_w]
    rfl
  refine one_ (i := 110) (N := (some 148)) (bl 153 457223903694570996096028555973385748096221183) rfl rfl (one_of HT_.out (by kernel_rfl)) (by decide) (fun K hK => ?_)
  refine lit_step_goG (fun _ => False) (fun _ h => h.elim) ?hg (N' := 148) ?hd (xs := ([⟨25, 0, []⟩, ⟨26, 3, [⟨25, 1, []⟩, ⟨25, 0, []⟩]⟩, ⟨25, 3, []⟩] : List S29)) (inner := ?inn148_35) ?hr ?hp (by simp) ?_
  (case hd => rfl)
  (case hg => rfl)
  (case hr => first | (go_simp; done) | (go_simp; rfl))
  (case hp => exact Reps.c3 ⟨_, rfl, F.out (_, _) mem_x⟩ (Reps.c3 ⟨_, rfl, F.out (_, _) mem_x⟩ (Reps.c3 ⟨_, rfl, F.out (_, _) mem_x⟩ (Reps.none _ _))))
  intro v148 w148 hv_ hb_
  replace F := Aside0.mk (allg_step F.out hb_ hv_)
  replace J := Aside0.mk (J.out.below hb_)
  clear hb_ hv_
  refine hK.out _ _ (KB.four J.out) (fun hHeld => ?_)
  clear hK K
  refine norm_ (a' := ?_) ?_ ?_
  rotate_left
  · show Act.put _ (some 148) _ = _
    simp only [Act.put, List.setIfInBounds_toArray, List.set_cons_zero, List.set_cons_succ, i64_w, i32_w, u8_w, u32_w]
    rfl
  refine one_ (i := 111) (N := (some 149)) (bl 153 457223903697167144525295969787650996260831231) rfl rfl (one_of HT_.out (by kernel_rfl)) (by decide) (fun K hK => ?_)
  refine goes_ Tryd.func21 (by kernel_rfl) rfl #[.int .i64 27, v148] (by rfl) rfl rfl (by (try simp only [List.map_toArray, List.map_cons, List.map_nil]); first | done | rfl | (simp only [List.length_drop, List.length_take]; rfl)) ?_
  refine (T_goG 27 _ _ _ (fun _ => False) (fun _ h => h.elim) (F.out (_, _) mem_x)).mono ?_
  rintro e w149 ⟨v149, rfl, hv_, hb_⟩
  refine ⟨_, rfl, ?_⟩
  replace F := Aside0.mk (allg_step F.out hb_ hv_)
  replace J := Aside0.mk (J.out.below hb_)
  clear hb_ hv_
  refine hK.out _ _ (KB.four J.out) (fun hHeld => ?_)
  clear hK K
  refine norm_ (a' := ?_) ?_ ?_
  rotate_left
  · show Act.put _ (some 149) _ = _
    simp only [Act.put, List.setIfInBounds_toArray, List.set_cons_zero, List.set_cons_succ, i64_w, i32_w, u8_w, u32_w]
    rfl
  refine one_ (i := 113) (N := (some 151)) (bl 153 457223903707551738242365625044711988919271423) rfl rfl (one_of HT_.out (by kernel_rfl)) (by decide) (fun K hK => ?_)
  refine goesV_ Tryd.func22 (by kernel_rfl) rfl #[.int .i64 (1)] (by rfl) rfl rfl rfl (by (try simp only [List.map_toArray, List.map_cons, List.map_nil]); first | done | rfl | (simp only [List.length_drop, List.length_take]; rfl)) ?_
  refine (Int_goG (1) _ (fun _ => False) (fun _ h => h.elim)).mono ?_
  rintro e w151 ⟨v151, rfl, hv_, hb_⟩
  refine ⟨_, rfl, ?_⟩
  replace F := Aside0.mk (allg_step F.out hb_ hv_)
  replace J := Aside0.mk (J.out.below hb_)
  clear hb_ hv_
  refine hK.out _ _ (KB.four J.out) (fun hHeld => ?_)
  clear hK K
  refine norm_ (a' := ?_) ?_ ?_
  rotate_left
  · show Act.put _ (some 151) _ = _
    simp only [Act.put, List.setIfInBounds_toArray, List.set_cons_zero, List.set_cons_succ, i64_w, i32_w, u8_w, u32_w]
    rfl
  refine one_ (i := 115) (N := (some 153)) (bl 153 457223903749090113110644246072955959553032191) rfl rfl (one_of HT_.out (by kernel_rfl)) (by decide) (fun K hK => ?_)
  refine goesV_ Tryd.func22 (by kernel_rfl) rfl #[.int .i64 (0)] (by rfl) rfl rfl rfl (by (try simp only [List.map_toArray, List.map_cons, List.map_nil]); first | done | rfl | (simp only [List.length_drop, List.length_take]; rfl)) ?_
  refine (Int_goG (0) _ (fun _ => False) (fun _ h => h.elim)).mono ?_
  rintro e w153 ⟨v153, rfl, hv_, hb_⟩
  refine ⟨_, rfl, ?_⟩
  replace F := Aside0.mk (allg_step F.out hb_ hv_)
  replace J := Aside0.mk (J.out.below hb_)
  clear hb_ hv_
  refine hK.out _ _ (KB.four J.out) (fun hHeld => ?_)
  clear hK K
  refine norm_ (a' := ?_) ?_ ?_
  rotate_left
  · show Act.put _ (some 153) _ = _
    simp only [Act.put, List.setIfInBounds_toArray, List.set_cons_zero, List.set_cons_succ, i64_w, i32_w, u8_w, u32_w]
    rfl
  refine one_ (i := 116) (N := (some 154)) (bl 153 457223903832166862847201488129443900820553727) rfl rfl (one_of HT_.out (by kernel_rfl)) (by decide) (fun K hK => ?_)
  refine goes_ Tryd.func23 (by kernel_rfl) rfl #[.int .i64 3, .agg #[.int .i64 (25), .int .i64 (1), v151], .agg #[.int .i64 (25), .int .i64 (0), v153]] (by rfl) rfl rfl (by (try simp only [List.map_toArray, List.map_cons, List.map_nil]); first | done | rfl | (simp only [List.length_drop, List.length_take]; rfl)) ?_
  refine (prim_goG 3 ⟨25, 1, []⟩ ⟨25, 0, []⟩ _ _ _ (fun _ => False) (fun _ h => h.elim) (F.out (_, _) mem_x) (F.out (_, _) mem_x)).mono ?_
  rintro e w154 ⟨v154, rfl, hv_, hb_⟩
  refine ⟨_, rfl, ?_⟩
  replace F := Aside0.mk (allg_step F.out hb_ hv_)
  replace J := Aside0.mk (J.out.below hb_)
  clear hb_ hv_
  refine hK.out _ _ (KB.four J.out) (fun hHeld => ?_)
  clear hK K
  refine norm_ (a' := ?_) ?_ ?_
  rotate_left
  · show Act.put _ (some 154) _ = _
    simp only [Act.put, List.setIfInBounds_toArray, List.set_cons_zero, List.set_cons_succ, i64_w, i32_w, u8_w, u32_w]
    rfl
  refine one_ (i := 118) (N := (some 156)) (bl 153 457223904164473861793430456355395665890639871) rfl rfl (one_of HT_.out (by kernel_rfl)) (by decide) (fun K hK => ?_)
  refine goesV_ Tryd.func22 (by kernel_rfl) rfl #[.int .i64 (3)] (by rfl) rfl rfl rfl (by (try simp only [List.map_toArray, List.map_cons, List.map_nil]); first | done | rfl | (simp only [List.length_drop, List.length_take]; rfl)) ?_
  refine (Int_goG (3) _ (fun _ => False) (fun _ h => h.elim)).mono ?_
  rintro e w156 ⟨v156, rfl, hv_, hb_⟩
  refine ⟨_, rfl, ?_⟩
  replace F := Aside0.mk (allg_step F.out hb_ hv_)
  replace J := Aside0.mk (J.out.below hb_)
  clear hb_ hv_
  refine hK.out _ _ (KB.four J.out) (fun hHeld => ?_)
  clear hK K
  refine norm_ (a' := ?_) ?_ ?_
  rotate_left
  · show Act.put _ (some 156) _ = _
    simp only [Act.put, List.setIfInBounds_toArray, List.set_cons_zero, List.set_cons_succ, i64_w, i32_w, u8_w, u32_w]
    rfl
  refine one_ (i := 119) (N := (some 157)) (bl 153 457223904829087859685888392807299196030812159) rfl rfl (one_of HT_.out (by kernel_rfl)) (by decide) (fun K hK => ?_)
  refine lit_step_goG (fun _ => False) (fun _ h => h.elim) ?hg (N' := 157) ?hd (xs := ([⟨26, 3, [⟨25, 1, []⟩, ⟨25, 0, []⟩]⟩, ⟨25, 3, []⟩] : List S29)) (inner := ?inn157_36) ?hr ?hp (by simp) ?_
  (case hd => rfl)
  (case hg => rfl)
  (case hr => first | (go_simp; done) | (go_simp; rfl))
  (case hp => exact Reps.c3 ⟨_, rfl, F.out (_, _) mem_x⟩ (Reps.c3 ⟨_, rfl, F.out (_, _) mem_x⟩ (Reps.none _ _)))
  intro v157 w157 hv_ hb_
  replace F := Aside0.mk (allg_step F.out hb_ hv_)
  replace J := Aside0.mk (J.out.below hb_)
  clear hb_ hv_
  refine hK.out _ _ (KB.four J.out) (fun hHeld => ?_)
  clear hK K
  refine norm_ (a' := ?_) ?_ ?_
  rotate_left
  · show Act.put _ (some 157) _ = _
    simp only [Act.put, List.setIfInBounds_toArray, List.set_cons_zero, List.set_cons_succ, i64_w, i32_w, u8_w, u32_w]
    rfl
  refine one_ (i := 120) (N := (some 158)) (bl 153 457223906158315855470804265711106256311156735) rfl rfl (one_of HT_.out (by kernel_rfl)) (by decide) (fun K hK => ?_)
  refine goes_ Tryd.func21 (by kernel_rfl) rfl #[.int .i64 22, v157] (by rfl) rfl rfl (by (try simp only [List.map_toArray, List.map_cons, List.map_nil]); first | done | rfl | (simp only [List.length_drop, List.length_take]; rfl)) ?_
  refine (T_goG 22 _ _ _ (fun _ => False) (fun _ h => h.elim) (F.out (_, _) mem_x)).mono ?_
  rintro e w158 ⟨v158, rfl, hv_, hb_⟩
  refine ⟨_, rfl, ?_⟩
  replace F := Aside0.mk (allg_step F.out hb_ hv_)
  replace J := Aside0.mk (J.out.below hb_)
  clear hb_ hv_
  refine hK.out _ _ (KB.four J.out) (fun hHeld => ?_)
  clear hK K
  refine norm_ (a' := ?_) ?_ ?_
  rotate_left
  · show Act.put _ (some 158) _ = _
    simp only [Act.put, List.setIfInBounds_toArray, List.set_cons_zero, List.set_cons_succ, i64_w, i32_w, u8_w, u32_w]
    rfl
  refine one_ (i := 122) (N := (some 160)) (bl 153 457223911475227838610467757326334497432535039) rfl rfl (one_of HT_.out (by kernel_rfl)) (by decide) (fun K hK => ?_)
  refine goesV_ Tryd.func22 (by kernel_rfl) rfl #[.int .i64 (1)] (by rfl) rfl rfl rfl (by (try simp only [List.map_toArray, List.map_cons, List.map_nil]); first | done | rfl | (simp only [List.length_drop, List.length_take]; rfl)) ?_
  refine (Int_goG (1) _ (fun _ => False) (fun _ h => h.elim)).mono ?_
  rintro e w160 ⟨v160, rfl, hv_, hb_⟩
  refine ⟨_, rfl, ?_⟩
  replace F := Aside0.mk (allg_step F.out hb_ hv_)
  replace J := Aside0.mk (J.out.below hb_)
  clear hb_ hv_
  refine hK.out _ _ (KB.four J.out) (fun hHeld => ?_)
  clear hK K
  refine norm_ (a' := ?_) ?_ ?_
  rotate_left
  · show Act.put _ (some 160) _ = _
    simp only [Act.put, List.setIfInBounds_toArray, List.set_cons_zero, List.set_cons_succ, i64_w, i32_w, u8_w, u32_w]
    rfl
  refine one_ (i := 124) (N := (some 162)) (bl 153 457223932742875771169121723787247461918048255) rfl rfl (one_of HT_.out (by kernel_rfl)) (by decide) (fun K hK => ?_)
  refine goesV_ Tryd.func22 (by kernel_rfl) rfl #[.int .i64 (0)] (by rfl) rfl rfl rfl (by (try simp only [List.map_toArray, List.map_cons, List.map_nil]); first | done | rfl | (simp only [List.length_drop, List.length_take]; rfl)) ?_
  refine (Int_goG (0) _ (fun _ => False) (fun _ h => h.elim)).mono ?_
  rintro e w162 ⟨v162, rfl, hv_, hb_⟩
  refine ⟨_, rfl, ?_⟩
  replace F := Aside0.mk (allg_step F.out hb_ hv_)
  replace J := Aside0.mk (J.out.below hb_)
  clear hb_ hv_
  refine hK.out _ _ (KB.four J.out) (fun hHeld => ?_)
  clear hK K
  refine norm_ (a' := ?_) ?_ ?_
  rotate_left
  · show Act.put _ (some 162) _ = _
    simp only [Act.put, List.setIfInBounds_toArray, List.set_cons_zero, List.set_cons_succ, i64_w, i32_w, u8_w, u32_w]
    rfl
  refine one_ (i := 125) (N := (some 163)) (bl 153 457223975278171636286429656709073390889074687) rfl rfl (one_of HT_.out (by kernel_rfl)) (by decide) (fun K hK => ?_)
  refine goes_ Tryd.func23 (by kernel_rfl) rfl #[.int .i64 3, .agg #[.int .i64 (25), .int .i64 (1), v160], .agg #[.int .i64 (25), .int .i64 (0), v162]] (by rfl) rfl rfl (by (try simp only [List.map_toArray, List.map_cons, List.map_nil]); first | done | rfl | (simp only [List.length_drop, List.length_take]; rfl)) ?_
  refine (prim_goG 3 ⟨25, 1, []⟩ ⟨25, 0, []⟩ _ _ _ (fun _ => False) (fun _ h => h.elim) (F.out (_, _) mem_x) (F.out (_, _) mem_x)).mono ?_
  rintro e w163 ⟨v163, rfl, hv_, hb_⟩
  refine ⟨_, rfl, ?_⟩
  replace F := Aside0.mk (allg_step F.out hb_ hv_)
  replace J := Aside0.mk (J.out.below hb_)
  clear hb_ hv_
  refine hK.out _ _ (KB.four J.out) (fun hHeld => ?_)
  clear hK K
  refine norm_ (a' := ?_) ?_ ?_
  rotate_left
  · show Act.put _ (some 163) _ = _
    simp only [Act.put, List.setIfInBounds_toArray, List.set_cons_zero, List.set_cons_succ, i64_w, i32_w, u8_w, u32_w]
    rfl
  refine one_ (i := 127) (N := (some 165)) (bl 153 457224145419355096755661388396377106773180415) rfl rfl (one_of HT_.out (by kernel_rfl)) (by decide) (fun K hK => ?_)
  refine goesV_ Tryd.func22 (by kernel_rfl) rfl #[.int .i64 (3)] (by rfl) rfl rfl rfl (by (try simp only [List.map_toArray, List.map_cons, List.map_nil]); first | done | rfl | (simp only [List.length_drop, List.length_take]; rfl)) ?_
  refine (Int_goG (3) _ (fun _ => False) (fun _ h => h.elim)).mono ?_
  rintro e w165 ⟨v165, rfl, hv_, hb_⟩
  refine ⟨_, rfl, ?_⟩
  replace F := Aside0.mk (allg_step F.out hb_ hv_)
  replace J := Aside0.mk (J.out.below hb_)
  clear hb_ hv_
  refine hK.out _ _ (KB.four J.out) (fun hHeld => ?_)
  clear hK K
  refine norm_ (a' := ?_) ?_ ?_
  rotate_left
  · show Act.put _ (some 165) _ = _
    simp only [Act.put, List.setIfInBounds_toArray, List.set_cons_zero, List.set_cons_succ, i64_w, i32_w, u8_w, u32_w]
    rfl
  refine one_ (i := 128) (N := (some 166)) (bl 153 457224485701722017694124851770984538541391871) rfl rfl (one_of HT_.out (by kernel_rfl)) (by decide) (fun K hK => ?_)
  refine lit_step_goG (fun _ => False) (fun _ h => h.elim) ?hg (N' := 166) ?hd (xs := ([⟨26, 3, [⟨25, 1, []⟩, ⟨25, 0, []⟩]⟩, ⟨25, 3, []⟩] : List S29)) (inner := ?inn166_37) ?hr ?hp (by simp) ?_
  (case hd => rfl)
  (case hg => rfl)
  (case hr => first | (go_simp; done) | (go_simp; rfl))
  (case hp => exact Reps.c3 ⟨_, rfl, F.out (_, _) mem_x⟩ (Reps.c3 ⟨_, rfl, F.out (_, _) mem_x⟩ (Reps.none _ _)))
  intro v166 w166 hv_ hb_
  replace F := Aside0.mk (allg_step F.out hb_ hv_)
  replace J := Aside0.mk (J.out.below hb_)
  clear hb_ hv_
  refine hK.out _ _ (KB.four J.out) (fun hHeld => ?_)
  clear hK K
  refine norm_ (a' := ?_) ?_ ?_
  rotate_left
  · show Act.put _ (some 166) _ = _
    simp only [Act.put, List.setIfInBounds_toArray, List.set_cons_zero, List.set_cons_succ, i64_w, i32_w, u8_w, u32_w]
    rfl
  exact hQ v142 v144 v145 v147 v148 v149 v151 v153 v154 v156 v157 v158 v160 v162 v163 v165 v166 _ ((allg_cons (F.out (_, _) mem_x) (allg_cons (F.out (_, _) mem_x) (allg_cons (F.out (_, _) mem_x) (allg_cons (F.out (_, _) mem_x) (allg_cons (F.out (_, _) mem_x) (allg_cons (F.out (_, _) mem_x) (allg_cons (F.out (_, _) mem_x) (allg_cons (F.out (_, _) mem_x) (allg_cons (F.out (_, _) mem_x) (allg_cons (F.out (_, _) mem_x) (allg_cons (F.out (_, _) mem_x) (allg_cons (F.out (_, _) mem_x) (allg_cons (F.out (_, _) mem_x) (allg_cons (F.out (_, _) mem_x) (allg_cons (F.out (_, _) mem_x) (allg_cons (F.out (_, _) mem_x) (allg_cons (F.out (_, _) mem_x) (allg_cons (F.out (_, _) mem_x) (allg_cons (F.out (_, _) mem_x) (allg_nil _ _))))))))))))))))))))) J.out
end Go.Proofs.YtnecmclnokikoaaDoor.P
/- RunKnown: its drawn region 7, part 5 (genrk.py). -/
namespace Go.Proofs.YtnecmclnokikoaaDoor.P
open Go.RowKit Go.Proofs.YtnecmclnokikoaaDoorW.PrintWords Go.Proofs.YtnecmclnokikoaaDoorW.PrintLast Go.Proofs.YtnecmclnokikoaaDoorW.PrintMore
attribute [local go_sem] max2_int min2_int max_two min_two max_three min_three max_four min_four
set_option linter.unusedVariables false
set_option linter.unusedSimpArgs false
set_option maxHeartbeats 32000000 in
set_option maxRecDepth 100000 in
theorem rk7_5 (a0 : Int) (g4 : Nat) (A14 : Option Addr) (c14 : Nat) (v17 : Value) (A18 : Option Addr) (c18 : Nat) (g6 : Nat) (v21 : Value) (v23 : Value) (v24 : Value) (v25 : Value) (A26 : Option Addr) (c26 : Nat) (g7 : Nat) (v30 : Value) (v32 : Value) (v33 : Value) (v34 : Value) (v35 : Value) (v36 : Value) (A37 : Option Addr) (c37 : Nat) (g8 : Nat) (v39 : Value) (v43 : Value) (v44 : Value) (v45 : Value) (v47 : Value) (v49 : Value) (v50 : Value) (v52 : Value) (v54 : Value) (v55 : Value) (v56 : Value) (v57 : Value) (v58 : Value) (v60 : Value) (v62 : Value) (v64 : Value) (v65 : Value) (v66 : Value) (v67 : Value) (v68 : Value) (v69 : Value) (v70 : Value) (v72 : Value) (v74 : Value) (v76 : Value) (v77 : Value) (v78 : Value) (v80 : Value) (v82 : Value) (v83 : Value) (v85 : Value) (v87 : Value) (v88 : Value) (v89 : Value) (v91 : Value) (v93 : Value) (v95 : Value) (v96 : Value) (v97 : Value) (v98 : Value) (v101 : Value) (v102 : Value) (v103 : Value) (v105 : Value) (v106 : Value) (v107 : Value) (v109 : Value) (v112 : Value) (v113 : Value) (v114 : Value) (v116 : Value) (v118 : Value) (v120 : Value) (v121 : Value) (v122 : Value) (v123 : Value) (v124 : Value) (v125 : Value) (v126 : Value) (v127 : Value) (v128 : Value) (v130 : Value) (v132 : Value) (v133 : Value) (v135 : Value) (v137 : Value) (v138 : Value) (v140 : Value) (v142 : Value) (v144 : Value) (v145 : Value) (v147 : Value) (v148 : Value) (v149 : Value) (v151 : Value) (v153 : Value) (v154 : Value) (v156 : Value) (v157 : Value) (v158 : Value) (v160 : Value) (v162 : Value) (v163 : Value) (v165 : Value) (v166 : Value) (w x : World) {ops : Array Oper} {K : Act → World → Prop} {R : Ending → World → Prop} (hops : ops = opsOf Tryd.f5 7) (hF : ALLG x (fun _ => False) [(v166, ([⟨26, 3, [⟨25, 1, []⟩, ⟨25, 0, []⟩]⟩, ⟨25, 3, []⟩] : List S29)), (v158, ([⟨26, 3, [⟨25, 1, []⟩, ⟨25, 0, []⟩]⟩, ⟨25, 3, []⟩] : List S29)), (v149, ([⟨25, 0, []⟩, ⟨26, 3, [⟨25, 1, []⟩, ⟨25, 0, []⟩]⟩, ⟨25, 3, []⟩] : List S29)), (v138, ([⟨25, 7, []⟩, ⟨25, 0, []⟩] : List S29)), (v133, ([⟨25, -7, []⟩, ⟨25, 2, []⟩] : List S29)), (v128, ([⟨25, 1, []⟩, ⟨28, 0, [⟨20, 0, [⟨15, 0, []⟩, ⟨1, 1, []⟩]⟩, ⟨28, 0, [⟨25, 2, []⟩, ⟨21, 0, [⟨1, 1, []⟩, ⟨25, 9, []⟩]⟩]⟩]⟩] : List S29)), (v107, ([⟨21, 0, [⟨20, 0, [⟨15, 0, []⟩, ⟨20, 0, [⟨15, 0, []⟩, ⟨26, 0, [⟨1, 0, []⟩, ⟨1, 1, []⟩]⟩]⟩]⟩, ⟨25, 3, []⟩]⟩, ⟨25, 4, []⟩] : List S29)), (v98, ([⟨25, 5, []⟩, ⟨26, 2, [⟨1, 0, []⟩, ⟨1, 0, []⟩]⟩] : List S29)), (v89, ([⟨26, 4, [⟨25, 2, []⟩, ⟨25, 2, []⟩]⟩, ⟨25, 1, []⟩, ⟨25, 2, []⟩] : List S29)), (v78, ([⟨25, -3, []⟩, ⟨25, 1, []⟩, ⟨25, 2, []⟩] : List S29)), (v70, ([⟨22, 0, [⟨25, 1, []⟩, ⟨22, 0, [⟨25, 2, []⟩, ⟨25, 3, []⟩]⟩]⟩] : List S29)), (v58, ([⟨22, 0, [⟨25, 1, []⟩, ⟨25, 2, []⟩]⟩] : List S29)), (v50, ([⟨25, 1, []⟩, ⟨20, 0, [⟨15, 0, []⟩, ⟨26, 0, [⟨1, 0, []⟩, ⟨25, 1, []⟩]⟩]⟩] : List S29)), (v45, ([⟨20, 0, [⟨15, 0, []⟩, ⟨26, 0, [⟨1, 0, []⟩, ⟨25, 1, []⟩]⟩]⟩, ⟨25, 4, []⟩] : List S29)), (v39, ([] : List S29)), ((.slice A14 0 c14), ([] : List S29)), ((.slice A18 2 c18), ([⟨15, 0, []⟩, ⟨15, 0, []⟩] : List S29)), ((.slice A26 2 c26), ([⟨15, 0, []⟩, ⟨26, 0, [⟨1, 0, []⟩, ⟨25, 1, []⟩]⟩] : List S29)), ((.slice A37 2 c37), ([⟨15, 0, []⟩, ⟨20, 0, [⟨15, 0, []⟩, ⟨26, 0, [⟨1, 0, []⟩, ⟨1, 1, []⟩]⟩]⟩] : List S29))]) (hJ : KB w x [(g8, 20, 0, (.slice A37 2 c37)), (g7, 20, 0, (.slice A26 2 c26)), (g6, 16, 0, (.slice A18 2 c18)), (g4, 15, 0, (.slice A14 0 c14))])
    (hQ : ∀ (v167 : Value) (v170 : Value) (v172 : Value) (v174 : Value) (v175 : Value) (v176 : Value) (v177 : Value) (v178 : Value) (v179 : Value) (v180 : Value) (v182 : Value) (v183 : Value) (v185 : Value) (v187 : Value) (v188 : Value) (A189 : Option Addr) (c189 : Nat) (x' : World), TV x' (fun _ => False) (.slice A189 18 c189) terms → KB w x' [(g8, 20, 0, (.slice A37 2 c37)), (g7, 20, 0, (.slice A26 2 c26)), (g6, 16, 0, (.slice A18 2 c18)), (g4, 15, 0, (.slice A14 0 c14))] → K ({ tmps := #[.int .i64 a0, undef, .bool false, .func (.func 20) #[] #[], .pointer (some ⟨g4, 0, none⟩), .func (.func 22) #[] #[], .pointer (some ⟨g6, 0, none⟩), .pointer (some ⟨g7, 0, none⟩), .pointer (some ⟨g8, 0, none⟩), (.slice A189 18 c189), undef, undef, .bool true, .bool false, .agg #[.int .i64 (15), .int .i64 (0), (.slice A14 0 c14)], .agg #[.int .i64 (15), .int .i64 (0), (.slice A14 0 c14)], .agg #[.int .i64 (15), .int .i64 (0), (.slice A14 0 c14)], v17, .agg #[.int .i64 (16), .int .i64 (0), (.slice A18 2 c18)], .agg #[.int .i64 (15), .int .i64 (0), (.slice A14 0 c14)], .func (.func 20) #[] #[], .agg #[.int .i64 (1), .int .i64 (0), v21], .func (.func 22) #[] #[], .agg #[.int .i64 (25), .int .i64 (1), v23], .agg #[.int .i64 (26), .int .i64 (0), v24], v25, .agg #[.int .i64 (20), .int .i64 (0), (.slice A26 2 c26)], .agg #[.int .i64 (15), .int .i64 (0), (.slice A14 0 c14)], .agg #[.int .i64 (15), .int .i64 (0), (.slice A14 0 c14)], .func (.func 20) #[] #[], .agg #[.int .i64 (1), .int .i64 (0), v30], .func (.func 20) #[] #[], .agg #[.int .i64 (1), .int .i64 (1), v32], .agg #[.int .i64 (26), .int .i64 (0), v33], v34, .agg #[.int .i64 (20), .int .i64 (0), v35], v36, .agg #[.int .i64 (20), .int .i64 (0), (.slice A37 2 c37)], .func (.func 22) #[] #[], .agg #[.int .i64 (25), .int .i64 (7), v39], .agg #[.int .i64 (20), .int .i64 (0), (.slice A26 2 c26)], .agg #[.int .i64 (20), .int .i64 (0), (.slice A26 2 c26)], .func (.func 22) #[] #[], .agg #[.int .i64 (25), .int .i64 (4), v43], v44, .agg #[.int .i64 (21), .int .i64 (0), v45], .func (.func 22) #[] #[], .agg #[.int .i64 (25), .int .i64 (1), v47], .agg #[.int .i64 (20), .int .i64 (0), (.slice A26 2 c26)], v49, .agg #[.int .i64 (22), .int .i64 (0), v50], .func (.func 22) #[] #[], .agg #[.int .i64 (25), .int .i64 (1), v52], .func (.func 22) #[] #[], .agg #[.int .i64 (25), .int .i64 (2), v54], v55, .agg #[.int .i64 (22), .int .i64 (0), v56], v57, .agg #[.int .i64 (23), .int .i64 (0), v58], .func (.func 22) #[] #[], .agg #[.int .i64 (25), .int .i64 (1), v60], .func (.func 22) #[] #[], .agg #[.int .i64 (25), .int .i64 (2), v62], .func (.func 22) #[] #[], .agg #[.int .i64 (25), .int .i64 (3), v64], v65, .agg #[.int .i64 (22), .int .i64 (0), v66], v67, .agg #[.int .i64 (22), .int .i64 (0), v68], v69, .agg #[.int .i64 (24), .int .i64 (0), v70], .func (.func 22) #[] #[], .agg #[.int .i64 (25), .int .i64 (-3), v72], .func (.func 22) #[] #[], .agg #[.int .i64 (25), .int .i64 (1), v74], .func (.func 22) #[] #[], .agg #[.int .i64 (25), .int .i64 (2), v76], v77, .agg #[.int .i64 (27), .int .i64 (0), v78], .func (.func 22) #[] #[], .agg #[.int .i64 (25), .int .i64 (2), v80], .func (.func 22) #[] #[], .agg #[.int .i64 (25), .int .i64 (2), v82], .agg #[.int .i64 (26), .int .i64 (4), v83], .func (.func 22) #[] #[], .agg #[.int .i64 (25), .int .i64 (1), v85], .func (.func 22) #[] #[], .agg #[.int .i64 (25), .int .i64 (2), v87], v88, .agg #[.int .i64 (27), .int .i64 (0), v89], .func (.func 22) #[] #[], .agg #[.int .i64 (25), .int .i64 (5), v91], .func (.func 20) #[] #[], .agg #[.int .i64 (1), .int .i64 (0), v93], .func (.func 20) #[] #[], .agg #[.int .i64 (1), .int .i64 (0), v95], .agg #[.int .i64 (26), .int .i64 (2), v96], v97, .agg #[.int .i64 (28), .int .i64 (0), v98], .agg #[.int .i64 (20), .int .i64 (0), (.slice A37 2 c37)], .func (.func 22) #[] #[], .agg #[.int .i64 (25), .int .i64 (3), v101], v102, .agg #[.int .i64 (21), .int .i64 (0), v103], .func (.func 22) #[] #[], .agg #[.int .i64 (25), .int .i64 (4), v105], v106, .agg #[.int .i64 (21), .int .i64 (0), v107], .func (.func 22) #[] #[], .agg #[.int .i64 (25), .int .i64 (1), v109], .agg #[.int .i64 (15), .int .i64 (0), (.slice A14 0 c14)], .func (.func 20) #[] #[], .agg #[.int .i64 (1), .int .i64 (1), v112], v113, .agg #[.int .i64 (20), .int .i64 (0), v114], .func (.func 22) #[] #[], .agg #[.int .i64 (25), .int .i64 (2), v116], .func (.func 20) #[] #[], .agg #[.int .i64 (1), .int .i64 (1), v118], .func (.func 22) #[] #[], .agg #[.int .i64 (25), .int .i64 (9), v120], v121, .agg #[.int .i64 (21), .int .i64 (0), v122], v123, .agg #[.int .i64 (28), .int .i64 (0), v124], v125, .agg #[.int .i64 (28), .int .i64 (0), v126], v127, .agg #[.int .i64 (28), .int .i64 (0), v128], .func (.func 22) #[] #[], .agg #[.int .i64 (25), .int .i64 (-7), v130], .func (.func 22) #[] #[], .agg #[.int .i64 (25), .int .i64 (2), v132], .agg #[.int .i64 (26), .int .i64 (3), v133], .func (.func 22) #[] #[], .agg #[.int .i64 (25), .int .i64 (7), v135], .func (.func 22) #[] #[], .agg #[.int .i64 (25), .int .i64 (0), v137], .agg #[.int .i64 (26), .int .i64 (3), v138], .func (.func 22) #[] #[], .agg #[.int .i64 (25), .int .i64 (0), v140], .func (.func 22) #[] #[], .agg #[.int .i64 (25), .int .i64 (1), v142], .func (.func 22) #[] #[], .agg #[.int .i64 (25), .int .i64 (0), v144], .agg #[.int .i64 (26), .int .i64 (3), v145], .func (.func 22) #[] #[], .agg #[.int .i64 (25), .int .i64 (3), v147], v148, .agg #[.int .i64 (27), .int .i64 (0), v149], .func (.func 22) #[] #[], .agg #[.int .i64 (25), .int .i64 (1), v151], .func (.func 22) #[] #[], .agg #[.int .i64 (25), .int .i64 (0), v153], .agg #[.int .i64 (26), .int .i64 (3), v154], .func (.func 22) #[] #[], .agg #[.int .i64 (25), .int .i64 (3), v156], v157, .agg #[.int .i64 (22), .int .i64 (0), v158], .func (.func 22) #[] #[], .agg #[.int .i64 (25), .int .i64 (1), v160], .func (.func 22) #[] #[], .agg #[.int .i64 (25), .int .i64 (0), v162], .agg #[.int .i64 (26), .int .i64 (3), v163], .func (.func 22) #[] #[], .agg #[.int .i64 (25), .int .i64 (3), v165], v166, .agg #[.int .i64 (28), .int .i64 (0), v167], .agg #[.int .i64 (16), .int .i64 (0), (.slice A18 2 c18)], .func (.func 20) #[] #[], .agg #[.int .i64 (1), .int .i64 (0), v170], .func (.func 20) #[] #[], .agg #[.int .i64 (1), .int .i64 (0), v172], .func (.func 22) #[] #[], .agg #[.int .i64 (25), .int .i64 (1), v174], v175, .agg #[.int .i64 (21), .int .i64 (0), v176], v177, .agg #[.int .i64 (21), .int .i64 (0), v178], v179, .agg #[.int .i64 (20), .int .i64 (0), v180], .agg #[.int .i64 (20), .int .i64 (0), (.slice A26 2 c26)], v182, .agg #[.int .i64 (21), .int .i64 (0), v183], .func (.func 22) #[] #[], .agg #[.int .i64 (25), .int .i64 (-9223372036854775808), v185], .func (.func 22) #[] #[], .agg #[.int .i64 (25), .int .i64 (1), v187], .agg #[.int .i64 (26), .int .i64 (1), v188], (.slice A189 18 c189), undef, undef, undef, undef, undef, undef, undef, undef, undef, undef, undef, undef, undef, undef, undef], defers := [] } : Act) x') :
    wpAnyLast Tryd.prog .any ops (Exit.then K (bodyPost Tryd.prog Tryd.f5 R)) (fun w' => w'.cell? ⟨g4, 0, none⟩ = some (.int .i64 15) ∧ w'.cell? ⟨g4, 1, none⟩ = some (.int .i64 0) ∧ w'.cell? ⟨g4, 2, none⟩ = some ((.slice A14 0 c14)) ∧ w'.cell? ⟨g6, 0, none⟩ = some (.int .i64 16) ∧ w'.cell? ⟨g6, 1, none⟩ = some (.int .i64 0) ∧ w'.cell? ⟨g6, 2, none⟩ = some ((.slice A18 2 c18)) ∧ w'.cell? ⟨g7, 0, none⟩ = some (.int .i64 20) ∧ w'.cell? ⟨g7, 1, none⟩ = some (.int .i64 0) ∧ w'.cell? ⟨g7, 2, none⟩ = some ((.slice A26 2 c26)) ∧ w'.cell? ⟨g8, 0, none⟩ = some (.int .i64 20) ∧ w'.cell? ⟨g8, 1, none⟩ = some (.int .i64 0) ∧ w'.cell? ⟨g8, 2, none⟩ = some ((.slice A37 2 c37))) [] 17 (bl 153 457224485701722017694124851770984538541391871) ({ tmps := #[.int .i64 a0, undef, .bool false, .func (.func 20) #[] #[], .pointer (some ⟨g4, 0, none⟩), .func (.func 22) #[] #[], .pointer (some ⟨g6, 0, none⟩), .pointer (some ⟨g7, 0, none⟩), .pointer (some ⟨g8, 0, none⟩), undef, undef, undef, .bool true, .bool false, .agg #[.int .i64 (15), .int .i64 (0), (.slice A14 0 c14)], .agg #[.int .i64 (15), .int .i64 (0), (.slice A14 0 c14)], .agg #[.int .i64 (15), .int .i64 (0), (.slice A14 0 c14)], v17, .agg #[.int .i64 (16), .int .i64 (0), (.slice A18 2 c18)], .agg #[.int .i64 (15), .int .i64 (0), (.slice A14 0 c14)], .func (.func 20) #[] #[], .agg #[.int .i64 (1), .int .i64 (0), v21], .func (.func 22) #[] #[], .agg #[.int .i64 (25), .int .i64 (1), v23], .agg #[.int .i64 (26), .int .i64 (0), v24], v25, .agg #[.int .i64 (20), .int .i64 (0), (.slice A26 2 c26)], .agg #[.int .i64 (15), .int .i64 (0), (.slice A14 0 c14)], .agg #[.int .i64 (15), .int .i64 (0), (.slice A14 0 c14)], .func (.func 20) #[] #[], .agg #[.int .i64 (1), .int .i64 (0), v30], .func (.func 20) #[] #[], .agg #[.int .i64 (1), .int .i64 (1), v32], .agg #[.int .i64 (26), .int .i64 (0), v33], v34, .agg #[.int .i64 (20), .int .i64 (0), v35], v36, .agg #[.int .i64 (20), .int .i64 (0), (.slice A37 2 c37)], .func (.func 22) #[] #[], .agg #[.int .i64 (25), .int .i64 (7), v39], .agg #[.int .i64 (20), .int .i64 (0), (.slice A26 2 c26)], .agg #[.int .i64 (20), .int .i64 (0), (.slice A26 2 c26)], .func (.func 22) #[] #[], .agg #[.int .i64 (25), .int .i64 (4), v43], v44, .agg #[.int .i64 (21), .int .i64 (0), v45], .func (.func 22) #[] #[], .agg #[.int .i64 (25), .int .i64 (1), v47], .agg #[.int .i64 (20), .int .i64 (0), (.slice A26 2 c26)], v49, .agg #[.int .i64 (22), .int .i64 (0), v50], .func (.func 22) #[] #[], .agg #[.int .i64 (25), .int .i64 (1), v52], .func (.func 22) #[] #[], .agg #[.int .i64 (25), .int .i64 (2), v54], v55, .agg #[.int .i64 (22), .int .i64 (0), v56], v57, .agg #[.int .i64 (23), .int .i64 (0), v58], .func (.func 22) #[] #[], .agg #[.int .i64 (25), .int .i64 (1), v60], .func (.func 22) #[] #[], .agg #[.int .i64 (25), .int .i64 (2), v62], .func (.func 22) #[] #[], .agg #[.int .i64 (25), .int .i64 (3), v64], v65, .agg #[.int .i64 (22), .int .i64 (0), v66], v67, .agg #[.int .i64 (22), .int .i64 (0), v68], v69, .agg #[.int .i64 (24), .int .i64 (0), v70], .func (.func 22) #[] #[], .agg #[.int .i64 (25), .int .i64 (-3), v72], .func (.func 22) #[] #[], .agg #[.int .i64 (25), .int .i64 (1), v74], .func (.func 22) #[] #[], .agg #[.int .i64 (25), .int .i64 (2), v76], v77, .agg #[.int .i64 (27), .int .i64 (0), v78], .func (.func 22) #[] #[], .agg #[.int .i64 (25), .int .i64 (2), v80], .func (.func 22) #[] #[], .agg #[.int .i64 (25), .int .i64 (2), v82], .agg #[.int .i64 (26), .int .i64 (4), v83], .func (.func 22) #[] #[], .agg #[.int .i64 (25), .int .i64 (1), v85], .func (.func 22) #[] #[], .agg #[.int .i64 (25), .int .i64 (2), v87], v88, .agg #[.int .i64 (27), .int .i64 (0), v89], .func (.func 22) #[] #[], .agg #[.int .i64 (25), .int .i64 (5), v91], .func (.func 20) #[] #[], .agg #[.int .i64 (1), .int .i64 (0), v93], .func (.func 20) #[] #[], .agg #[.int .i64 (1), .int .i64 (0), v95], .agg #[.int .i64 (26), .int .i64 (2), v96], v97, .agg #[.int .i64 (28), .int .i64 (0), v98], .agg #[.int .i64 (20), .int .i64 (0), (.slice A37 2 c37)], .func (.func 22) #[] #[], .agg #[.int .i64 (25), .int .i64 (3), v101], v102, .agg #[.int .i64 (21), .int .i64 (0), v103], .func (.func 22) #[] #[], .agg #[.int .i64 (25), .int .i64 (4), v105], v106, .agg #[.int .i64 (21), .int .i64 (0), v107], .func (.func 22) #[] #[], .agg #[.int .i64 (25), .int .i64 (1), v109], .agg #[.int .i64 (15), .int .i64 (0), (.slice A14 0 c14)], .func (.func 20) #[] #[], .agg #[.int .i64 (1), .int .i64 (1), v112], v113, .agg #[.int .i64 (20), .int .i64 (0), v114], .func (.func 22) #[] #[], .agg #[.int .i64 (25), .int .i64 (2), v116], .func (.func 20) #[] #[], .agg #[.int .i64 (1), .int .i64 (1), v118], .func (.func 22) #[] #[], .agg #[.int .i64 (25), .int .i64 (9), v120], v121, .agg #[.int .i64 (21), .int .i64 (0), v122], v123, .agg #[.int .i64 (28), .int .i64 (0), v124], v125, .agg #[.int .i64 (28), .int .i64 (0), v126], v127, .agg #[.int .i64 (28), .int .i64 (0), v128], .func (.func 22) #[] #[], .agg #[.int .i64 (25), .int .i64 (-7), v130], .func (.func 22) #[] #[], .agg #[.int .i64 (25), .int .i64 (2), v132], .agg #[.int .i64 (26), .int .i64 (3), v133], .func (.func 22) #[] #[], .agg #[.int .i64 (25), .int .i64 (7), v135], .func (.func 22) #[] #[], .agg #[.int .i64 (25), .int .i64 (0), v137], .agg #[.int .i64 (26), .int .i64 (3), v138], .func (.func 22) #[] #[], .agg #[.int .i64 (25), .int .i64 (0), v140], .func (.func 22) #[] #[], .agg #[.int .i64 (25), .int .i64 (1), v142], .func (.func 22) #[] #[], .agg #[.int .i64 (25), .int .i64 (0), v144], .agg #[.int .i64 (26), .int .i64 (3), v145], .func (.func 22) #[] #[], .agg #[.int .i64 (25), .int .i64 (3), v147], v148, .agg #[.int .i64 (27), .int .i64 (0), v149], .func (.func 22) #[] #[], .agg #[.int .i64 (25), .int .i64 (1), v151], .func (.func 22) #[] #[], .agg #[.int .i64 (25), .int .i64 (0), v153], .agg #[.int .i64 (26), .int .i64 (3), v154], .func (.func 22) #[] #[], .agg #[.int .i64 (25), .int .i64 (3), v156], v157, .agg #[.int .i64 (22), .int .i64 (0), v158], .func (.func 22) #[] #[], .agg #[.int .i64 (25), .int .i64 (1), v160], .func (.func 22) #[] #[], .agg #[.int .i64 (25), .int .i64 (0), v162], .agg #[.int .i64 (26), .int .i64 (3), v163], .func (.func 22) #[] #[], .agg #[.int .i64 (25), .int .i64 (3), v165], v166, undef, .agg #[.int .i64 (16), .int .i64 (0), (.slice A18 2 c18)], .func (.func 20) #[] #[], undef, .func (.func 20) #[] #[], undef, .func (.func 22) #[] #[], undef, undef, undef, undef, undef, undef, undef, .agg #[.int .i64 (20), .int .i64 (0), (.slice A26 2 c26)], undef, undef, .func (.func 22) #[] #[], undef, .func (.func 22) #[] #[], undef, undef, undef, undef, undef, undef, undef, undef, undef, undef, undef, undef, undef, undef, undef, undef, undef, undef], defers := [] } : Act) x := by
  subst hops
  have hu29 := Tryd.underlying29
  conv in (occs := *) (opsOf Tryd.f5 7) => all_goals whnf
  have F := Aside0.mk hF
  have J := Aside0.mk hJ
  clear hF hJ
  refine with_tabW rk7.tab7 rk7.bits7 (fun HT_ HW_ => ?_)
  refine one_ (i := 129) (N := (some 167)) (bl 153 457225166266455859571051778520199402077814783) rfl rfl (one_of HT_.out (by kernel_rfl)) (by decide) (fun K hK => ?_)
  refine goes_ Tryd.func21 (by kernel_rfl) rfl #[.int .i64 28, v166] (by rfl) rfl rfl (by (try simp only [List.map_toArray, List.map_cons, List.map_nil]); first | done | rfl | (simp only [List.length_drop, List.length_take]; rfl)) ?_
  refine (T_goG 28 _ _ _ (fun _ => False) (fun _ h => h.elim) (F.out (_, _) mem_x)).mono ?_
  rintro e w167 ⟨v167, rfl, hv_, hb_⟩
  refine ⟨_, rfl, ?_⟩
  replace F := Aside0.mk (allg_step F.out hb_ hv_)
  replace J := Aside0.mk (J.out.below hb_)
  clear hb_ hv_
  refine hK.out _ _ (KB.four J.out) (fun hHeld => ?_)
  clear hK K
  refine norm_ (a' := ?_) ?_ ?_
  rotate_left
  · show Act.put _ (some 167) _ = _
    simp only [Act.put, List.setIfInBounds_toArray, List.set_cons_zero, List.set_cons_succ, i64_w, i32_w, u8_w, u32_w]
    rfl
  refine one_ (i := 132) (N := (some 170)) (bl 153 457230610784326594586467192513918310369198079) rfl rfl (one_of HT_.out (by kernel_rfl)) (by decide) (fun K hK => ?_)
  refine goesV_ Tryd.func20 (by kernel_rfl) rfl #[.int .i64 (0)] (by rfl) rfl rfl rfl (by (try simp only [List.map_toArray, List.map_cons, List.map_nil]); first | done | rfl | (simp only [List.length_drop, List.length_take]; rfl)) ?_
  refine (V_goG (0) _ (fun _ => False) (fun _ h => h.elim)).mono ?_
  rintro e w170 ⟨v170, rfl, hv_, hb_⟩
  refine ⟨_, rfl, ?_⟩
  replace F := Aside0.mk (allg_step F.out hb_ hv_)
  replace J := Aside0.mk (J.out.below hb_)
  clear hb_ hv_
  refine hK.out _ _ (KB.four J.out) (fun hHeld => ?_)
  clear hK K
  refine norm_ (a' := ?_) ?_ ?_
  rotate_left
  · show Act.put _ (some 170) _ = _
    simp only [Act.put, List.setIfInBounds_toArray, List.set_cons_zero, List.set_cons_succ, i64_w, i32_w, u8_w, u32_w]
    rfl
  refine one_ (i := 134) (N := (some 172)) (bl 153 457252388855809534648128848488793943534731263) rfl rfl (one_of HT_.out (by kernel_rfl)) (by decide) (fun K hK => ?_)
  refine goesV_ Tryd.func20 (by kernel_rfl) rfl #[.int .i64 (0)] (by rfl) rfl rfl rfl (by (try simp only [List.map_toArray, List.map_cons, List.map_nil]); first | done | rfl | (simp only [List.length_drop, List.length_take]; rfl)) ?_
  refine (V_goG (0) _ (fun _ => False) (fun _ h => h.elim)).mono ?_
  rintro e w172 ⟨v172, rfl, hv_, hb_⟩
  refine ⟨_, rfl, ?_⟩
  replace F := Aside0.mk (allg_step F.out hb_ hv_)
  replace J := Aside0.mk (J.out.below hb_)
  clear hb_ hv_
  refine hK.out _ _ (KB.four J.out) (fun hHeld => ?_)
  clear hK K
  refine norm_ (a' := ?_) ?_ ?_
  rotate_left
  · show Act.put _ (some 172) _ = _
    simp only [Act.put, List.setIfInBounds_toArray, List.set_cons_zero, List.set_cons_succ, i64_w, i32_w, u8_w, u32_w]
    rfl
  refine one_ (i := 136) (N := (some 174)) (bl 153 457339501141741294894775472388296476196863999) rfl rfl (one_of HT_.out (by kernel_rfl)) (by decide) (fun K hK => ?_)
  refine goesV_ Tryd.func22 (by kernel_rfl) rfl #[.int .i64 (1)] (by rfl) rfl rfl rfl (by (try simp only [List.map_toArray, List.map_cons, List.map_nil]); first | done | rfl | (simp only [List.length_drop, List.length_take]; rfl)) ?_
  refine (Int_goG (1) _ (fun _ => False) (fun _ h => h.elim)).mono ?_
  rintro e w174 ⟨v174, rfl, hv_, hb_⟩
  refine ⟨_, rfl, ?_⟩
  replace F := Aside0.mk (allg_step F.out hb_ hv_)
  replace J := Aside0.mk (J.out.below hb_)
  clear hb_ hv_
  refine hK.out _ _ (KB.four J.out) (fun hHeld => ?_)
  clear hK K
  refine norm_ (a' := ?_) ?_ ?_
  rotate_left
  · show Act.put _ (some 174) _ = _
    simp only [Act.put, List.setIfInBounds_toArray, List.set_cons_zero, List.set_cons_succ, i64_w, i32_w, u8_w, u32_w]
    rfl
  refine one_ (i := 137) (N := (some 175)) (bl 153 457513725713604815388068720187301541521129471) rfl rfl (one_of HT_.out (by kernel_rfl)) (by decide) (fun K hK => ?_)
  refine lit_step_goG (fun _ => False) (fun _ h => h.elim) ?hg (N' := 175) ?hd (xs := ([⟨1, 0, []⟩, ⟨25, 1, []⟩] : List S29)) (inner := ?inn175_38) ?hr ?hp (by simp) ?_
  (case hd => rfl)
  (case hg => rfl)
  (case hr => first | (go_simp; done) | (go_simp; rfl))
  (case hp => exact Reps.c3 ⟨_, rfl, F.out (_, _) mem_x⟩ (Reps.c3 ⟨_, rfl, F.out (_, _) mem_x⟩ (Reps.none _ _)))
  intro v175 w175 hv_ hb_
  replace F := Aside0.mk (allg_step F.out hb_ hv_)
  replace J := Aside0.mk (J.out.below hb_)
  clear hb_ hv_
  refine hK.out _ _ (KB.four J.out) (fun hHeld => ?_)
  clear hK K
  refine norm_ (a' := ?_) ?_ ?_
  rotate_left
  · show Act.put _ (some 175) _ = _
    simp only [Act.put, List.setIfInBounds_toArray, List.set_cons_zero, List.set_cons_succ, i64_w, i32_w, u8_w, u32_w]
    rfl
  refine one_ (i := 138) (N := (some 176)) (bl 153 457862174857331856374655215785311672169660415) rfl rfl (one_of HT_.out (by kernel_rfl)) (by decide) (fun K hK => ?_)
  refine goes_ Tryd.func21 (by kernel_rfl) rfl #[.int .i64 21, v175] (by rfl) rfl rfl (by (try simp only [List.map_toArray, List.map_cons, List.map_nil]); first | done | rfl | (simp only [List.length_drop, List.length_take]; rfl)) ?_
  refine (T_goG 21 _ _ _ (fun _ => False) (fun _ h => h.elim) (F.out (_, _) mem_x)).mono ?_
  rintro e w176 ⟨v176, rfl, hv_, hb_⟩
  refine ⟨_, rfl, ?_⟩
  replace F := Aside0.mk (allg_step F.out hb_ hv_)
  replace J := Aside0.mk (J.out.below hb_)
  clear hb_ hv_
  refine hK.out _ _ (KB.four J.out) (fun hHeld => ?_)
  clear hK K
  refine norm_ (a' := ?_) ?_ ?_
  rotate_left
  · show Act.put _ (some 176) _ = _
    simp only [Act.put, List.setIfInBounds_toArray, List.set_cons_zero, List.set_cons_succ, i64_w, i32_w, u8_w, u32_w]
    rfl
  refine one_ (i := 139) (N := (some 177)) (bl 153 458559073144785938347828206981331933466722303) rfl rfl (one_of HT_.out (by kernel_rfl)) (by decide) (fun K hK => ?_)
  refine lit_step_goG (fun _ => False) (fun _ h => h.elim) ?hg (N' := 177) ?hd (xs := ([⟨1, 0, []⟩, ⟨21, 0, [⟨1, 0, []⟩, ⟨25, 1, []⟩]⟩] : List S29)) (inner := ?inn177_39) ?hr ?hp (by simp) ?_
  (case hd => rfl)
  (case hg => rfl)
  (case hr => first | (go_simp; done) | (go_simp; rfl))
  (case hp => exact Reps.c3 ⟨_, rfl, F.out (_, _) mem_x⟩ (Reps.c3 ⟨_, rfl, F.out (_, _) mem_x⟩ (Reps.none _ _)))
  intro v177 w177 hv_ hb_
  replace F := Aside0.mk (allg_step F.out hb_ hv_)
  replace J := Aside0.mk (J.out.below hb_)
  clear hb_ hv_
  refine hK.out _ _ (KB.four J.out) (fun hHeld => ?_)
  clear hK K
  refine norm_ (a' := ?_) ?_ ?_
  rotate_left
  · show Act.put _ (some 177) _ = _
    simp only [Act.put, List.setIfInBounds_toArray, List.set_cons_zero, List.set_cons_succ, i64_w, i32_w, u8_w, u32_w]
    rfl
  refine one_ (i := 140) (N := (some 178)) (bl 153 459952869719694102294174189373372456060846079) rfl rfl (one_of HT_.out (by kernel_rfl)) (by decide) (fun K hK => ?_)
  refine goes_ Tryd.func21 (by kernel_rfl) rfl #[.int .i64 21, v177] (by rfl) rfl rfl (by (try simp only [List.map_toArray, List.map_cons, List.map_nil]); first | done | rfl | (simp only [List.length_drop, List.length_take]; rfl)) ?_
  refine (T_goG 21 _ _ _ (fun _ => False) (fun _ h => h.elim) (F.out (_, _) mem_x)).mono ?_
  rintro e w178 ⟨v178, rfl, hv_, hb_⟩
  refine ⟨_, rfl, ?_⟩
  replace F := Aside0.mk (allg_step F.out hb_ hv_)
  replace J := Aside0.mk (J.out.below hb_)
  clear hb_ hv_
  refine hK.out _ _ (KB.four J.out) (fun hHeld => ?_)
  clear hK K
  refine norm_ (a' := ?_) ?_ ?_
  rotate_left
  · show Act.put _ (some 178) _ = _
    simp only [Act.put, List.setIfInBounds_toArray, List.set_cons_zero, List.set_cons_succ, i64_w, i32_w, u8_w, u32_w]
    rfl
  refine one_ (i := 141) (N := (some 179)) (bl 153 462740462869510430186866154157453501249093631) rfl rfl (one_of HT_.out (by kernel_rfl)) (by decide) (fun K hK => ?_)
  refine lit_step_goG (fun _ => False) (fun _ h => h.elim) ?hg (N' := 179) ?hd (xs := ([⟨16, 0, [⟨15, 0, []⟩, ⟨15, 0, []⟩]⟩, ⟨21, 0, [⟨1, 0, []⟩, ⟨21, 0, [⟨1, 0, []⟩, ⟨25, 1, []⟩]⟩]⟩] : List S29)) (inner := ?inn179_40) ?hr ?hp (by simp) ?_
  (case hd => rfl)
  (case hg => rfl)
  (case hr => first | (go_simp; done) | (go_simp; rfl))
  (case hp => exact Reps.c3 ⟨_, rfl, F.out (_, _) mem_x⟩ (Reps.c3 ⟨_, rfl, F.out (_, _) mem_x⟩ (Reps.none _ _)))
  intro v179 w179 hv_ hb_
  replace F := Aside0.mk (allg_step F.out hb_ hv_)
  replace J := Aside0.mk (J.out.below hb_)
  clear hb_ hv_
  refine hK.out _ _ (KB.four J.out) (fun hHeld => ?_)
  clear hK K
  refine norm_ (a' := ?_) ?_ ?_
  rotate_left
  · show Act.put _ (some 179) _ = _
    simp only [Act.put, List.setIfInBounds_toArray, List.set_cons_zero, List.set_cons_succ, i64_w, i32_w, u8_w, u32_w]
    rfl
  refine one_ (i := 142) (N := (some 180)) (bl 153 468315649169143085972250083725615591625588735) rfl rfl (one_of HT_.out (by kernel_rfl)) (by decide) (fun K hK => ?_)
  refine goes_ Tryd.func21 (by kernel_rfl) rfl #[.int .i64 20, v179] (by rfl) rfl rfl (by (try simp only [List.map_toArray, List.map_cons, List.map_nil]); first | done | rfl | (simp only [List.length_drop, List.length_take]; rfl)) ?_
  refine (T_goG 20 _ _ _ (fun _ => False) (fun _ h => h.elim) (F.out (_, _) mem_x)).mono ?_
  rintro e w180 ⟨v180, rfl, hv_, hb_⟩
  refine ⟨_, rfl, ?_⟩
  replace F := Aside0.mk (allg_step F.out hb_ hv_)
  replace J := Aside0.mk (J.out.below hb_)
  clear hb_ hv_
  refine hK.out _ _ (KB.four J.out) (fun hHeld => ?_)
  clear hK K
  refine norm_ (a' := ?_) ?_ ?_
  rotate_left
  · show Act.put _ (some 180) _ = _
    simp only [Act.put, List.setIfInBounds_toArray, List.set_cons_zero, List.set_cons_succ, i64_w, i32_w, u8_w, u32_w]
    rfl
  refine one_ (i := 144) (N := (some 182)) (bl 153 490616394367673709113785801998263953131569151) rfl rfl (one_of HT_.out (by kernel_rfl)) (by decide) (fun K hK => ?_)
  refine lit_step_goG (fun _ => False) (fun _ h => h.elim) ?hg (N' := 182) ?hd (xs := ([⟨20, 0, [⟨16, 0, [⟨15, 0, []⟩, ⟨15, 0, []⟩]⟩, ⟨21, 0, [⟨1, 0, []⟩, ⟨21, 0, [⟨1, 0, []⟩, ⟨25, 1, []⟩]⟩]⟩]⟩, ⟨20, 0, [⟨15, 0, []⟩, ⟨26, 0, [⟨1, 0, []⟩, ⟨25, 1, []⟩]⟩]⟩] : List S29)) (inner := ?inn182_41) ?hr ?hp (by simp) ?_
  (case hd => rfl)
  (case hg => rfl)
  (case hr => first | (go_simp; done) | (go_simp; rfl))
  (case hp => exact Reps.c3 ⟨_, rfl, F.out (_, _) mem_x⟩ (Reps.c3 ⟨_, rfl, F.out (_, _) mem_x⟩ (Reps.none _ _)))
  intro v182 w182 hv_ hb_
  replace F := Aside0.mk (allg_step F.out hb_ hv_)
  replace J := Aside0.mk (J.out.below hb_)
  clear hb_ hv_
  refine hK.out _ _ (KB.four J.out) (fun hHeld => ?_)
  clear hK K
  refine norm_ (a' := ?_) ?_ ?_
  rotate_left
  · show Act.put _ (some 182) _ = _
    simp only [Act.put, List.setIfInBounds_toArray, List.set_cons_zero, List.set_cons_succ, i64_w, i32_w, u8_w, u32_w]
    rfl
  refine one_ (i := 145) (N := (some 183)) (bl 153 535217884764734955396857238543560676143529983) rfl rfl (one_of HT_.out (by kernel_rfl)) (by decide) (fun K hK => ?_)
  refine goes_ Tryd.func21 (by kernel_rfl) rfl #[.int .i64 21, v182] (by rfl) rfl rfl (by (try simp only [List.map_toArray, List.map_cons, List.map_nil]); first | done | rfl | (simp only [List.length_drop, List.length_take]; rfl)) ?_
  refine (T_goG 21 _ _ _ (fun _ => False) (fun _ h => h.elim) (F.out (_, _) mem_x)).mono ?_
  rintro e w183 ⟨v183, rfl, hv_, hb_⟩
  refine ⟨_, rfl, ?_⟩
  replace F := Aside0.mk (allg_step F.out hb_ hv_)
  replace J := Aside0.mk (J.out.below hb_)
  clear hb_ hv_
  refine hK.out _ _ (KB.four J.out) (fun hHeld => ?_)
  clear hK K
  refine norm_ (a' := ?_) ?_ ?_
  rotate_left
  · show Act.put _ (some 183) _ = _
    simp only [Act.put, List.setIfInBounds_toArray, List.set_cons_zero, List.set_cons_succ, i64_w, i32_w, u8_w, u32_w]
    rfl
  refine one_ (i := 147) (N := (some 185)) (bl 153 713623846352979940529142984724747568191373311) rfl rfl (one_of HT_.out (by kernel_rfl)) (by decide) (fun K hK => ?_)
  refine goesV_ Tryd.func22 (by kernel_rfl) rfl #[.int .i64 (-9223372036854775808)] (by rfl) rfl rfl rfl (by (try simp only [List.map_toArray, List.map_cons, List.map_nil]); first | done | rfl | (simp only [List.length_drop, List.length_take]; rfl)) ?_
  refine (Int_goG (-9223372036854775808) _ (fun _ => False) (fun _ h => h.elim)).mono ?_
  rintro e w185 ⟨v185, rfl, hv_, hb_⟩
  refine ⟨_, rfl, ?_⟩
  replace F := Aside0.mk (allg_step F.out hb_ hv_)
  replace J := Aside0.mk (J.out.below hb_)
  clear hb_ hv_
  refine hK.out _ _ (KB.four J.out) (fun hHeld => ?_)
  clear hK K
  refine norm_ (a' := ?_) ?_ ?_
  rotate_left
  · show Act.put _ (some 185) _ = _
    simp only [Act.put, List.setIfInBounds_toArray, List.set_cons_zero, List.set_cons_succ, i64_w, i32_w, u8_w, u32_w]
    rfl
  refine one_ (i := 149) (N := (some 187)) (bl 153 1427247692705959881058285969449495136382746623) rfl rfl (one_of HT_.out (by kernel_rfl)) (by decide) (fun K hK => ?_)
  refine goesV_ Tryd.func22 (by kernel_rfl) rfl #[.int .i64 (1)] (by rfl) rfl rfl rfl (by (try simp only [List.map_toArray, List.map_cons, List.map_nil]); first | done | rfl | (simp only [List.length_drop, List.length_take]; rfl)) ?_
  refine (Int_goG (1) _ (fun _ => False) (fun _ h => h.elim)).mono ?_
  rintro e w187 ⟨v187, rfl, hv_, hb_⟩
  refine ⟨_, rfl, ?_⟩
  replace F := Aside0.mk (allg_step F.out hb_ hv_)
  replace J := Aside0.mk (J.out.below hb_)
  clear hb_ hv_
  refine hK.out _ _ (KB.four J.out) (fun hHeld => ?_)
  clear hK K
  refine norm_ (a' := ?_) ?_ ?_
  rotate_left
  · show Act.put _ (some 187) _ = _
    simp only [Act.put, List.setIfInBounds_toArray, List.set_cons_zero, List.set_cons_succ, i64_w, i32_w, u8_w, u32_w]
    rfl
  refine one_ (i := 150) (N := (some 188)) (bl 153 2854495385411919762116571938898990272765493247) rfl rfl (one_of HT_.out (by kernel_rfl)) (by decide) (fun K hK => ?_)
  refine goes_ Tryd.func23 (by kernel_rfl) rfl #[.int .i64 1, .agg #[.int .i64 (25), .int .i64 (-9223372036854775808), v185], .agg #[.int .i64 (25), .int .i64 (1), v187]] (by rfl) rfl rfl (by (try simp only [List.map_toArray, List.map_cons, List.map_nil]); first | done | rfl | (simp only [List.length_drop, List.length_take]; rfl)) ?_
  refine (prim_goG 1 ⟨25, -9223372036854775808, []⟩ ⟨25, 1, []⟩ _ _ _ (fun _ => False) (fun _ h => h.elim) (F.out (_, _) mem_x) (F.out (_, _) mem_x)).mono ?_
  rintro e w188 ⟨v188, rfl, hv_, hb_⟩
  refine ⟨_, rfl, ?_⟩
  replace F := Aside0.mk (allg_step F.out hb_ hv_)
  replace J := Aside0.mk (J.out.below hb_)
  clear hb_ hv_
  refine hK.out _ _ (KB.four J.out) (fun hHeld => ?_)
  clear hK K
  refine norm_ (a' := ?_) ?_ ?_
  rotate_left
  · show Act.put _ (some 188) _ = _
    simp only [Act.put, List.setIfInBounds_toArray, List.set_cons_zero, List.set_cons_succ, i64_w, i32_w, u8_w, u32_w]
    rfl
  refine one_ (i := 151) (N := (some 189)) (bl 153 5708990770823839524233143877797980545530986495) rfl rfl (one_of HT_.out (by kernel_rfl)) (by decide) (fun K hK => ?_)
  refine lit_step_goG (fun _ => False) (fun _ h => h.elim) ?hg (N' := 189) ?hd (xs := ([⟨25, 7, []⟩, ⟨20, 0, [⟨15, 0, []⟩, ⟨26, 0, [⟨1, 0, []⟩, ⟨25, 1, []⟩]⟩]⟩, ⟨21, 0, [⟨20, 0, [⟨15, 0, []⟩, ⟨26, 0, [⟨1, 0, []⟩, ⟨25, 1, []⟩]⟩]⟩, ⟨25, 4, []⟩]⟩, ⟨22, 0, [⟨25, 1, []⟩, ⟨20, 0, [⟨15, 0, []⟩, ⟨26, 0, [⟨1, 0, []⟩, ⟨25, 1, []⟩]⟩]⟩]⟩, ⟨23, 0, [⟨22, 0, [⟨25, 1, []⟩, ⟨25, 2, []⟩]⟩]⟩, ⟨24, 0, [⟨22, 0, [⟨25, 1, []⟩, ⟨22, 0, [⟨25, 2, []⟩, ⟨25, 3, []⟩]⟩]⟩]⟩, ⟨27, 0, [⟨25, -3, []⟩, ⟨25, 1, []⟩, ⟨25, 2, []⟩]⟩, ⟨27, 0, [⟨26, 4, [⟨25, 2, []⟩, ⟨25, 2, []⟩]⟩, ⟨25, 1, []⟩, ⟨25, 2, []⟩]⟩, ⟨28, 0, [⟨25, 5, []⟩, ⟨26, 2, [⟨1, 0, []⟩, ⟨1, 0, []⟩]⟩]⟩, ⟨21, 0, [⟨21, 0, [⟨20, 0, [⟨15, 0, []⟩, ⟨20, 0, [⟨15, 0, []⟩, ⟨26, 0, [⟨1, 0, []⟩, ⟨1, 1, []⟩]⟩]⟩]⟩, ⟨25, 3, []⟩]⟩, ⟨25, 4, []⟩]⟩, ⟨28, 0, [⟨25, 1, []⟩, ⟨28, 0, [⟨20, 0, [⟨15, 0, []⟩, ⟨1, 1, []⟩]⟩, ⟨28, 0, [⟨25, 2, []⟩, ⟨21, 0, [⟨1, 1, []⟩, ⟨25, 9, []⟩]⟩]⟩]⟩]⟩, ⟨26, 3, [⟨25, -7, []⟩, ⟨25, 2, []⟩]⟩, ⟨26, 3, [⟨25, 7, []⟩, ⟨25, 0, []⟩]⟩, ⟨27, 0, [⟨25, 0, []⟩, ⟨26, 3, [⟨25, 1, []⟩, ⟨25, 0, []⟩]⟩, ⟨25, 3, []⟩]⟩, ⟨22, 0, [⟨26, 3, [⟨25, 1, []⟩, ⟨25, 0, []⟩]⟩, ⟨25, 3, []⟩]⟩, ⟨28, 0, [⟨26, 3, [⟨25, 1, []⟩, ⟨25, 0, []⟩]⟩, ⟨25, 3, []⟩]⟩, ⟨21, 0, [⟨20, 0, [⟨16, 0, [⟨15, 0, []⟩, ⟨15, 0, []⟩]⟩, ⟨21, 0, [⟨1, 0, []⟩, ⟨21, 0, [⟨1, 0, []⟩, ⟨25, 1, []⟩]⟩]⟩]⟩, ⟨20, 0, [⟨15, 0, []⟩, ⟨26, 0, [⟨1, 0, []⟩, ⟨25, 1, []⟩]⟩]⟩]⟩, ⟨26, 1, [⟨25, -9223372036854775808, []⟩, ⟨25, 1, []⟩]⟩] : List S29)) (inner := ?inn189_42) ?hr ?hp (by simp) ?_
  (case hd => rfl)
  (case hg => rfl)
  (case hr => first | (go_simp; done) | (go_simp; rfl))
  (case hp => exact Reps.c3 ⟨_, rfl, F.out (_, _) mem_x⟩ (Reps.c3 ⟨_, rfl, F.out (_, _) mem_x⟩ (Reps.c3 ⟨_, rfl, F.out (_, _) mem_x⟩ (Reps.c3 ⟨_, rfl, F.out (_, _) mem_x⟩ (Reps.c3 ⟨_, rfl, F.out (_, _) mem_x⟩ (Reps.c3 ⟨_, rfl, F.out (_, _) mem_x⟩ (Reps.c3 ⟨_, rfl, F.out (_, _) mem_x⟩ (Reps.c3 ⟨_, rfl, F.out (_, _) mem_x⟩ (Reps.c3 ⟨_, rfl, F.out (_, _) mem_x⟩ (Reps.c3 ⟨_, rfl, F.out (_, _) mem_x⟩ (Reps.c3 ⟨_, rfl, F.out (_, _) mem_x⟩ (Reps.c3 ⟨_, rfl, F.out (_, _) mem_x⟩ (Reps.c3 ⟨_, rfl, F.out (_, _) mem_x⟩ (Reps.c3 ⟨_, rfl, F.out (_, _) mem_x⟩ (Reps.c3 ⟨_, rfl, F.out (_, _) mem_x⟩ (Reps.c3 ⟨_, rfl, F.out (_, _) mem_x⟩ (Reps.c3 ⟨_, rfl, F.out (_, _) mem_x⟩ (Reps.c3 ⟨_, rfl, F.out (_, _) mem_x⟩ (Reps.none _ _)))))))))))))))))))
  intro v189 w189 hv_ hb_
  obtain ⟨A189, c189, hve_⟩ := Kd.V_slice hv_
  replace hve_ : v189 = .slice A189 18 c189 := hve_
  subst hve_
  replace F := Aside0.mk (allg_step F.out hb_ hv_)
  replace J := Aside0.mk (J.out.below hb_)
  clear hb_ hv_
  refine hK.out _ _ (KB.four J.out) (fun hHeld => ?_)
  clear hK K
  refine norm_ (a' := ?_) ?_ ?_
  rotate_left
  · show Act.put _ (some 189) _ = _
    simp only [Act.put, List.setIfInBounds_toArray, List.set_cons_zero, List.set_cons_succ, i64_w, i32_w, u8_w, u32_w]
    rfl
  refine pure_ (i := 152) (N := (some 9)) (v := ?_) (a' := ?_) (bl 153 11417981541647679048466287755595961091061972991) rfl rfl (any_of HT_.out (by kernel_rfl)) (fun _ _ _ h => h) (Or.inl ⟨by rfl, ?_⟩) ?_ ?_
  rotate_left
  · intro w'
    go_simp
    try with_reducible rfl
  rotate_left
  · simp only [Act.put, List.setIfInBounds_toArray, List.set_cons_zero, List.set_cons_succ, i64_w, i32_w, u8_w, u32_w]
    rfl
  refine done_ (done_of HT_.out (by kernel_rfl)) ?_
  exact hQ v167 v170 v172 v174 v175 v176 v177 v178 v179 v180 v182 v183 v185 v187 v188 A189 c189 _ (F.out (_, _) mem_x) J.out
end Go.Proofs.YtnecmclnokikoaaDoor.P
/- RunKnown: its walk (genrk.py). -/
namespace Go.Proofs.YtnecmclnokikoaaDoor.P
open Go.RowKit Go.Proofs.YtnecmclnokikoaaDoorW.PrintWords Go.Proofs.YtnecmclnokikoaaDoorW.PrintLast Go.Proofs.YtnecmclnokikoaaDoorW.PrintMore
attribute [local go_sem] max2_int min2_int max_two min_two max_three min_three max_four min_four
set_option linter.unusedVariables false
set_option linter.unusedSimpArgs false
theorem strB {w : World} {g : Nat} (h : w.heap[g]? = some (.cells #[.string (⟨#[55]⟩ : ByteArray), .string (⟨#[102, 110]⟩ : ByteArray), .string (⟨#[53]⟩ : ByteArray), .string (⟨#[40, 49, 44, 32, 102, 110, 41]⟩ : ByteArray), .string (⟨#[49]⟩ : ByteArray), .string (⟨#[40, 50, 44, 32, 51, 41]⟩ : ByteArray), .string (⟨#[49]⟩ : ByteArray), .string (⟨#[50]⟩ : ByteArray), .string (⟨#[50, 53]⟩ : ByteArray), .string (⟨#[55]⟩ : ByteArray), .string (⟨#[49]⟩ : ByteArray), .string (⟨#[45, 51]⟩ : ByteArray), .string (⟨#[122, 101, 114, 111]⟩ : ByteArray), .string (⟨#[51]⟩ : ByteArray), .string (⟨#[122, 101, 114, 111]⟩ : ByteArray), .string (⟨#[122, 101, 114, 111]⟩ : ByteArray), .string (⟨#[51]⟩ : ByteArray), .string (⟨#[57, 50, 50, 51, 51, 55, 50, 48, 51, 54, 56, 53, 52, 55, 55, 53, 56, 48, 55]⟩ : ByteArray)] 9 (0, 0))) (n : Int) (h0 : 0 ≤ n) (h6 : n < 18) :
    w.cell? ⟨g, n.toNat, none⟩ = some (.string (rdB texts n)) := by
  obtain ⟨m, rfl⟩ := Int.eq_ofNat_of_zero_le h0
  have hc : m < 18 := by omega
  match m, hc with
  | 0, _ => exact (blk_cell h 0).trans rfl
  | 1, _ => exact (blk_cell h 1).trans rfl
  | 2, _ => exact (blk_cell h 2).trans rfl
  | 3, _ => exact (blk_cell h 3).trans rfl
  | 4, _ => exact (blk_cell h 4).trans rfl
  | 5, _ => exact (blk_cell h 5).trans rfl
  | 6, _ => exact (blk_cell h 6).trans rfl
  | 7, _ => exact (blk_cell h 7).trans rfl
  | 8, _ => exact (blk_cell h 8).trans rfl
  | 9, _ => exact (blk_cell h 9).trans rfl
  | 10, _ => exact (blk_cell h 10).trans rfl
  | 11, _ => exact (blk_cell h 11).trans rfl
  | 12, _ => exact (blk_cell h 12).trans rfl
  | 13, _ => exact (blk_cell h 13).trans rfl
  | 14, _ => exact (blk_cell h 14).trans rfl
  | 15, _ => exact (blk_cell h 15).trans rfl
  | 16, _ => exact (blk_cell h 16).trans rfl
  | 17, _ => exact (blk_cell h 17).trans rfl
def runKnown10.T10 : Bool × List (List Nat × List Nat) := (true, [([], []), ([], []), ([0, 1], [0, 1]), ([2], [2]), ([3], [3]), ([], []), ([], []), ([5, 6], [5, 6]), ([7], [7]), ([4, 8], [4, 8]), ([9, 4, 0, 1, 2, 3, 4, 5, 6, 7, 8, 9], [9])])
def runKnown10.B10 : List Nat := [0, 0, 3, 7, 15, 0, 0, 96, 224, 511, 1023]
theorem runKnown10.tab10 : rtab .any (opsOf Tryd.f5 10) = runKnown10.T10 := by kernel_rfl
theorem runKnown10.bits10 : waitsOk runKnown10.T10.2 runKnown10.B10 = true := by kernel_rfl
set_option maxHeartbeats 32000000 in
set_option maxRecDepth 100000 in
theorem runKnown_calls (kk : Nat) (a0 n8 : Int) (w : World) (hT : TabP w) (hk : thyrsuslaw12_known.f kk = some true) (hn : thyrsuslaw12_within.f a0 18 = some n8) (h0 : 0 ≤ n8) (h18 : n8 < 18) (tx : ByteArray)
    (H : thyrsuslaw12_told.f kk (rd_T29 terms n8).f0 (rd_T29 terms n8).f1 (rd_T29 terms n8).f2 10 = some tx) (hx : (tx.toList == (rdB texts n8).toList) = true) :
    Calls Tryd.prog 5 #[.int .i64 a0] w fun e w' => e = .returned (.bool true) ∧ Below w.heap.size w w' := by
  have hu29 := Tryd.underlying29
  have HTB := Aside0.mk hT
  have HK := Aside0.mk hk
  have HN := Aside0.mk hn
  have X4 := Aside0.mk H
  have N0 := Aside0.mk h0
  have N18 := Aside0.mk h18
  have XX := Aside0.mk hx
  clear hT hk hn H h0 h18 hx
  go_enter Tryd.func5, Tryd.ntmps5
  go_upto_region 5 with (first | ((with_reducible refine gate_callee (f := 6) rfl ?_); refine goesL_ (some 12) rfl rfl Tryd.func6 (by kernel_rfl) rfl #[] rfl (by (try simp only [List.map_toArray, List.map_cons, List.map_nil]); first | done | rfl | (simp only [List.length_drop, List.length_take]; rfl)) ?_; refine (thyrsuslaw12_known.calls kk true _ HK.out).mono ?_; rintro e w2 ⟨rfl, hb_⟩; refine ⟨_, rfl, ?_⟩; have F : Aside0 (ALL w2 [(.slice none 0 0, [])]) := ⟨all_nil w2⟩; have J : Aside0 (KB w w2 []) := ⟨hb_, fun p hp => (by cases hp)⟩; clear hb_) | ((with_reducible refine gate_callee (f := 21) rfl ?_); refine goesL_ (some 14) rfl rfl Tryd.func21 (by kernel_rfl) rfl #[.int .i64 15, .slice none 0 0] rfl (by (try simp only [List.map_toArray, List.map_cons, List.map_nil]); first | done | rfl | (simp only [List.length_drop, List.length_take]; rfl)) ?_; refine (T_go 15 _ [] _ (F.out (_, _) (List.Mem.head _))).mono ?_; rintro e w3 ⟨v14, rfl, hv_, hb_⟩; refine ⟨_, rfl, ?_⟩; obtain ⟨A14, c14, hve_⟩ := Kd.V_slice hv_; replace hve_ : v14 = .slice A14 0 c14 := hve_; subst hve_; replace F := Aside0.mk (all_step F.out hb_ hv_); replace J := Aside0.mk (J.out.below hb_); clear hb_ hv_) | ((with_reducible refine gate_dst (N := 4) rfl ?_); refine box_event ?hg (N := 4) ?hd (cs := #[.int .i64 0, .int .i64 0, .slice none 0 0]) (t := 29) ?hr ?_; (case hd => rfl); (case hg => rfl); (case hr => first | (go_simp; done) | (go_simp; rfl)); intro g4 hg_ w4a hbox hb; have BZ := Aside0.mk hbox; have BA := Aside0.mk hb; have GZ := Aside0.mk hg_; have hs0 : w4a.cell? ⟨g4, 0, none⟩ = some (.int .i64 0) := (blk_cell BZ.out 0).trans rfl; have hs1 : w4a.cell? ⟨g4, 1, none⟩ = some (.int .i64 0) := (blk_cell BZ.out 1).trans rfl; have hs2 : w4a.cell? ⟨g4, 2, none⟩ = some (.slice none 0 0) := (blk_cell BZ.out 2).trans rfl; have hf0 := blk_frozen BZ.out 0; have hf1 := blk_frozen BZ.out 1; have hf2 := blk_frozen BZ.out 2; clear hbox hb hg_) | ((with_reducible refine gate_dst (N := 6) rfl ?_); refine box_event ?hg (N := 6) ?hd (cs := #[.int .i64 0, .int .i64 0, .slice none 0 0]) (t := 29) ?hr ?_; (case hd => rfl); (case hg => rfl); (case hr => first | (go_simp; done) | (go_simp; rfl)); intro g6 hg_ w6a hbox hb; have BZ := Aside0.mk hbox; have BA := Aside0.mk hb; have GZ := Aside0.mk hg_; have hs0 : w6a.cell? ⟨g6, 0, none⟩ = some (.int .i64 0) := (blk_cell BZ.out 0).trans rfl; have hs1 : w6a.cell? ⟨g6, 1, none⟩ = some (.int .i64 0) := (blk_cell BZ.out 1).trans rfl; have hs2 : w6a.cell? ⟨g6, 2, none⟩ = some (.slice none 0 0) := (blk_cell BZ.out 2).trans rfl; have hf0 := blk_frozen BZ.out 0; have hf1 := blk_frozen BZ.out 1; have hf2 := blk_frozen BZ.out 2; clear hbox hb hg_) | ((with_reducible refine gate_store (t := 29) (p := 4) rfl ?_); refine store_event (t := 29) (p := 4) (v := ?vo4) (w1 := (((w4a.setCell ⟨g4, 0, none⟩ (.int .i64 15)).setCell ⟨g4, 1, none⟩ (.int .i64 0)).setCell ⟨g4, 2, none⟩ (.slice A14 0 c14))) ?hg ?ho ?hn ?hr ?_; (case ho => rfl); (case hg => rfl); (case hn => rfl); (case hr => first | (go_simp; done) | (go_simp; rfl)); intro x4 hw; have BN := Aside0.mk (blk_set3 BZ.out rfl (.int .i64 15) (.int .i64 0) (.slice A14 0 c14)); have B2 := Aside0.mk (below_set3 BA.out (Nat.le_of_eq GZ.out.symm) (.int .i64 15) (.int .i64 0) (.slice A14 0 c14)); rw [← hw] at BN B2; replace F := Aside0.mk (all_on F.out B2.out); replace J := Aside0.mk ((J.out.below B2.out).more BN.out); clear hs0 hs1 hs2 hf0 hf1 hf2 BZ BA GZ B2 hw; have k40 : x4.cell? ⟨g4, 0, none⟩ = some (.int .i64 15) := (blk_cell BN.out 0).trans rfl; have k41 : x4.cell? ⟨g4, 1, none⟩ = some (.int .i64 0) := (blk_cell BN.out 1).trans rfl; have k42 : x4.cell? ⟨g4, 2, none⟩ = some (.slice A14 0 c14) := (blk_cell BN.out 2).trans rfl; clear BN) | ((with_reducible refine gate_store (t := 29) (p := 6) rfl ?_); refine store_event (t := 29) (p := 6) (v := ?vo6) (w1 := (((w6a.setCell ⟨g6, 0, none⟩ (.int .i64 16)).setCell ⟨g6, 1, none⟩ (.int .i64 0)).setCell ⟨g6, 2, none⟩ (.slice A18 2 c18))) ?hg ?ho ?hn ?hr ?_; (case ho => rfl); (case hg => rfl); (case hn => rfl); (case hr => first | (go_simp; done) | (go_simp; rfl)); intro x6 hw; have BN := Aside0.mk (blk_set3 BZ.out rfl (.int .i64 16) (.int .i64 0) (.slice A18 2 c18)); have B2 := Aside0.mk (below_set3 BA.out (Nat.le_of_eq GZ.out.symm) (.int .i64 16) (.int .i64 0) (.slice A18 2 c18)); rw [← hw] at BN B2; replace F := Aside0.mk (all_on F.out B2.out); replace J := Aside0.mk ((J.out.below B2.out).more BN.out); clear hs0 hs1 hs2 hf0 hf1 hf2 BZ BA GZ B2 hw; clear BN) | ((with_reducible refine gate_dst (N := 17) rfl ?_); refine lit_go ?hg (N' := 17) ?hd (xs := ([⟨15, 0, []⟩, ⟨15, 0, []⟩] : List S29)) (inner := ?inn17) ?hr ?hp (by simp) ?_; (case hd => rfl); (case hg => rfl); (case hr => first | (go_simp; done) | (go_simp; rfl)); (case hp => exact Reps.c3 ⟨_, rfl, F.out (_, _) mem_x⟩ (Reps.c3 ⟨_, rfl, F.out (_, _) mem_x⟩ (Reps.none _ _))); intro v17 w17 hv_ hb_; replace F := Aside0.mk (all_step F.out hb_ hv_); replace J := Aside0.mk (J.out.below hb_); clear hv_ hb_ k40 k41 k42) | (go_at_call 21; refine (T_go 16 _ _ _ (F.out (_, _) mem_x)).mono ?_; rintro e w18 ⟨v18, rfl, hv_, hb_⟩; obtain ⟨A18, c18, hve_⟩ := Kd.V_slice hv_; replace hve_ : v18 = .slice A18 2 c18 := hve_; subst hve_; replace F := Aside0.mk (all_step F.out hb_ hv_); replace J := Aside0.mk (J.out.below hb_); clear hb_ hv_))
  (try simp only [Act.put, List.setIfInBounds_toArray, List.set_cons_zero, List.set_cons_succ])
  refine rk5 _ _ _ _ _ _ _ _ w _ (by rfl) (allg_cons (F.out (_, _) mem_x) (allg_cons (F.out (_, _) mem_x) (allg_nil _ _))) J.out ?_
  intro v21 v23 v24 v25 A26 c26 g7 x5 F5 J5
  go_upto_region 6 with (first | (fail_if_success skip; skip))
  (try simp only [Act.put, List.setIfInBounds_toArray, List.set_cons_zero, List.set_cons_succ])
  refine rk6 _ _ _ _ _ _ _ _ _ _ _ _ _ _ _ w _ (by rfl) (allg_cons (F5 (_, _) mem_x) (allg_cons (F5 (_, _) mem_x) (allg_cons (F5 (_, _) mem_x) (allg_nil _ _)))) J5 ?_
  clear F5 J5 F J
  intro v30 v32 v33 v34 v35 v36 A37 c37 g8 x6 F6 J6
  go_upto_region 7 with (first | (fail_if_success skip; skip))
  (try simp only [Act.put, List.setIfInBounds_toArray, List.set_cons_zero, List.set_cons_succ])
  refine rk7_0 _ _ _ _ _ _ _ _ _ _ _ _ _ _ _ _ _ _ _ _ _ _ _ _ w _ (by rfl) (allg_cons (F6 (_, _) mem_x) (allg_cons (F6 (_, _) mem_x) (allg_cons (F6 (_, _) mem_x) (allg_cons (F6 (_, _) mem_x) (allg_nil _ _))))) J6 ?_
  clear F6 J6
  intro v39 v43 v44 v45 v47 v49 v50 v52 v54 v55 v56 v57 v58 v60 v62 v64 v65 y1 G1 J1
  refine rk7_1 _ _ _ _ _ _ _ _ _ _ _ _ _ _ _ _ _ _ _ _ _ _ _ _ _ _ _ _ _ _ _ _ _ _ _ _ _ _ _ _ _ w _ (by rfl) G1 J1 ?_
  clear G1 J1
  intro v66 v67 v68 v69 v70 v72 v74 v76 v77 v78 v80 v82 v83 v85 v87 v88 v89 y2 G2 J2
  refine rk7_2 _ _ _ _ _ _ _ _ _ _ _ _ _ _ _ _ _ _ _ _ _ _ _ _ _ _ _ _ _ _ _ _ _ _ _ _ _ _ _ _ _ _ _ _ _ _ _ _ _ _ _ _ _ _ _ _ _ _ w _ (by rfl) G2 J2 ?_
  clear G2 J2
  intro v91 v93 v95 v96 v97 v98 v101 v102 v103 v105 v106 v107 v109 v112 v113 v114 v116 y3 G3 J3
  refine rk7_3 _ _ _ _ _ _ _ _ _ _ _ _ _ _ _ _ _ _ _ _ _ _ _ _ _ _ _ _ _ _ _ _ _ _ _ _ _ _ _ _ _ _ _ _ _ _ _ _ _ _ _ _ _ _ _ _ _ _ _ _ _ _ _ _ _ _ _ _ _ _ _ _ _ _ _ w _ (by rfl) G3 J3 ?_
  clear G3 J3
  intro v118 v120 v121 v122 v123 v124 v125 v126 v127 v128 v130 v132 v133 v135 v137 v138 v140 y4 G4 J4
  refine rk7_4 _ _ _ _ _ _ _ _ _ _ _ _ _ _ _ _ _ _ _ _ _ _ _ _ _ _ _ _ _ _ _ _ _ _ _ _ _ _ _ _ _ _ _ _ _ _ _ _ _ _ _ _ _ _ _ _ _ _ _ _ _ _ _ _ _ _ _ _ _ _ _ _ _ _ _ _ _ _ _ _ _ _ _ _ _ _ _ _ _ _ _ _ w _ (by rfl) G4 J4 ?_
  clear G4 J4
  intro v142 v144 v145 v147 v148 v149 v151 v153 v154 v156 v157 v158 v160 v162 v163 v165 v166 y5 G5 J5
  refine rk7_5 _ _ _ _ _ _ _ _ _ _ _ _ _ _ _ _ _ _ _ _ _ _ _ _ _ _ _ _ _ _ _ _ _ _ _ _ _ _ _ _ _ _ _ _ _ _ _ _ _ _ _ _ _ _ _ _ _ _ _ _ _ _ _ _ _ _ _ _ _ _ _ _ _ _ _ _ _ _ _ _ _ _ _ _ _ _ _ _ _ _ _ _ _ _ _ _ _ _ _ _ _ _ _ _ _ _ _ _ _ w _ (by rfl) G5 J5 ?_
  clear G5 J5
  intro v167 v170 v172 v174 v175 v176 v177 v178 v179 v180 v182 v183 v185 v187 v188 A189 c189 x7 H7 J7
  have HTS := Aside0.mk H7
  have J := Aside0.mk J7
  clear H7 J7
  go_upto_region 10 with (first | ((with_reducible refine gate_dst (N := 190) rfl ?_); refine lit_ev ?hg (N' := 190) ?hd (n := 18) (inner := #[.string (⟨#[55]⟩ : ByteArray), .string (⟨#[102, 110]⟩ : ByteArray), .string (⟨#[53]⟩ : ByteArray), .string (⟨#[40, 49, 44, 32, 102, 110, 41]⟩ : ByteArray), .string (⟨#[49]⟩ : ByteArray), .string (⟨#[40, 50, 44, 32, 51, 41]⟩ : ByteArray), .string (⟨#[49]⟩ : ByteArray), .string (⟨#[50]⟩ : ByteArray), .string (⟨#[50, 53]⟩ : ByteArray), .string (⟨#[55]⟩ : ByteArray), .string (⟨#[49]⟩ : ByteArray), .string (⟨#[45, 51]⟩ : ByteArray), .string (⟨#[122, 101, 114, 111]⟩ : ByteArray), .string (⟨#[51]⟩ : ByteArray), .string (⟨#[122, 101, 114, 111]⟩ : ByteArray), .string (⟨#[122, 101, 114, 111]⟩ : ByteArray), .string (⟨#[51]⟩ : ByteArray), .string (⟨#[57, 50, 50, 51, 51, 55, 50, 48, 51, 54, 56, 53, 52, 55, 55, 53, 56, 48, 55]⟩ : ByteArray)]) (t := 9) ?hr ?_; (case hd => rfl); (case hg => rfl); (case hr => first | (go_simp; done) | (go_simp; rfl)); intro gS wS hg_ hb_; have BS := Aside0.mk hg_; replace HTS := Aside0.mk (HTS.out.step hb_); replace J := Aside0.mk (J.out.below hb_); clear hg_ hb_) | ((with_reducible refine gate_callee (f := 9) rfl ?_); refine goesL_ (some 194) rfl rfl Tryd.func9 (by kernel_rfl) rfl #[.int .i64 a0, .int .i64 18] rfl (by (try simp only [List.map_toArray, List.map_cons, List.map_nil]); first | done | rfl | (simp only [List.length_drop, List.length_take]; rfl)) ?_; refine (within_go a0 18 n8 _ HN.out).mono ?_; rintro e wW ⟨rfl, hb_⟩; refine ⟨_, rfl, ?_⟩; have BS2 := Aside0.mk (blk_below BS.out hb_); replace HTS := Aside0.mk (HTS.out.step hb_); replace J := Aside0.mk (J.out.below hb_); clear hb_ BS))
  (try simp only [Act.put, List.setIfInBounds_toArray, List.set_cons_zero, List.set_cons_succ])
  obtain ⟨adk, ck, Ek, ev_, hl_, te_, he_⟩ := TV.elem HTS.out n8 N0.out (by have := N18.out; exact this)
  rw [show (terms : List S29).length = 18 from rfl] at ev_
  injection ev_ with ev_ _ ec_
  subst ev_
  subst ec_
  obtain ⟨Ae, ce, rfl⟩ := Kd.V_slice te_
  have TE := Aside0.mk te_
  have HE := Aside0.mk he_
  clear te_ he_ HTS
  have i0 := eq_true N0.out
  have i18 := eq_true N18.out
  refine start_ (n := 11) (S := (fun w' => w'.cell? (adk.add (n8.toNat * 3)) = some (.int .i64 (rd_T29 terms n8).f0) ∧ w'.cell? ⟨(adk.add (n8.toNat * 3)).block, (adk.add (n8.toNat * 3)).off + 1, none⟩ = some (.int .i64 (rd_T29 terms n8).f1) ∧ w'.cell? ⟨(adk.add (n8.toNat * 3)).block, (adk.add (n8.toNat * 3)).off + 2, none⟩ = some (.slice Ae (rd_T29 terms n8).f2.length ce) ∧ w'.cell? ⟨gS, n8.toNat, none⟩ = some (.string (rdB texts n8)))) (ds := []) (bl 11 0) (by kernel_rfl) rfl (by kernel_rfl) ⟨(HE.out _ (below_drew1 (Below.refl _ _))).1, (HE.out _ (below_drew1 (Below.refl _ _))).2.1, (HE.out _ (below_drew1 (Below.refl _ _))).2.2, strB (blk_below BS2.out (below_drew1 (Below.refl _ _))) n8 N0.out N18.out⟩ (fun hHeld => ?_)
  refine with_tabW runKnown10.tab10 runKnown10.bits10 (fun HT_ HW_ => ?_)
  have BD : Aside0 (Below wW.heap.size wW wW.drew) := ⟨below_drew1 (Below.refl _ _)⟩
  generalize wW.drew = wd at BD hHeld ⊢
  refine pure_ (i := 0) (N := (some 195)) (v := ?_) (a' := ?_) (bl 11 1) rfl rfl (any_of HT_.out (by kernel_rfl)) (fun _ _ _ h => h) (Or.inl ⟨by rfl, ?_⟩) ?_ ?_
  rotate_left
  · intro w'
    go_simp
    try with_reducible rfl
  rotate_left
  · simp only [Act.put, List.setIfInBounds_toArray, List.set_cons_zero, List.set_cons_succ, i64_w, i32_w, u8_w, u32_w]
    rfl
  refine pure_ (i := 1) (N := (some 196)) (v := ?_) (a' := ?_) (bl 11 3) rfl rfl (any_of HT_.out (by kernel_rfl)) (fun _ _ _ h => h) (Or.inl ⟨by rfl, ?_⟩) ?_ ?_
  rotate_left
  · intro w'
    go_simp
    try with_reducible rfl
  rotate_left
  · simp only [Act.put, List.setIfInBounds_toArray, List.set_cons_zero, List.set_cons_succ, i64_w, i32_w, u8_w, u32_w]
    rfl
  refine pure_ (i := 2) (N := (some 197)) (v := ?_) (a' := ?_) (bl 11 7) rfl rfl (any_of HT_.out (by kernel_rfl)) (fun _ _ _ h => h) (Or.inl ⟨by rfl, ?_⟩) ?_ ?_
  rotate_left
  · intro w'
    go_simp
    try with_reducible rfl
  rotate_left
  · simp only [Act.put, List.setIfInBounds_toArray, List.set_cons_zero, List.set_cons_succ, i64_w, i32_w, u8_w, u32_w]
    rfl
  refine take_ (i := 3) (N := (some 198)) (v := ?_) (a' := ?_) (bl 11 15) rfl rfl (take_ofW HT_.out HW_.out (by kernel_rfl)) (fun _ _ _ h => h) (Or.inl ⟨by rfl, ?_⟩) hHeld ?_ ?_
  rotate_left
  · rintro w' ⟨s0, s1, s2, s3⟩
    go_simp
    try with_reducible rfl
  rotate_left
  · simp only [Act.put, List.setIfInBounds_toArray, List.set_cons_zero, List.set_cons_succ, i64_w, i32_w, u8_w, u32_w]
    rfl
  refine pure_ (i := 5) (N := (some 200)) (v := ?_) (a' := ?_) (bl 11 47) rfl rfl (any_of HT_.out (by kernel_rfl)) (fun _ _ _ h => h) (Or.inl ⟨by rfl, ?_⟩) ?_ ?_
  rotate_left
  · intro w'
    go_simp
    try with_reducible rfl
  rotate_left
  · simp only [Act.put, List.setIfInBounds_toArray, List.set_cons_zero, List.set_cons_succ, i64_w, i32_w, u8_w, u32_w]
    rfl
  refine pure_ (i := 6) (N := (some 201)) (v := ?_) (a' := ?_) (bl 11 111) rfl rfl (any_of HT_.out (by kernel_rfl)) (fun _ _ _ h => h) (Or.inl ⟨by rfl, ?_⟩) ?_ ?_
  rotate_left
  · intro w'
    go_simp
    try with_reducible rfl
  rotate_left
  · simp only [Act.put, List.setIfInBounds_toArray, List.set_cons_zero, List.set_cons_succ, i64_w, i32_w, u8_w, u32_w]
    rfl
  refine pure_ (i := 7) (N := (some 202)) (v := ?_) (a' := ?_) (bl 11 239) rfl rfl (any_of HT_.out (by kernel_rfl)) (fun _ _ _ h => h) (Or.inl ⟨by rfl, ?_⟩) ?_ ?_
  rotate_left
  · intro w'
    go_simp
    try with_reducible rfl
  rotate_left
  · simp only [Act.put, List.setIfInBounds_toArray, List.set_cons_zero, List.set_cons_succ, i64_w, i32_w, u8_w, u32_w]
    rfl
  refine take_ (i := 8) (N := (some 203)) (v := ?_) (a' := ?_) (bl 11 495) rfl rfl (take_ofW HT_.out HW_.out (by kernel_rfl)) (fun _ _ _ h => h) (Or.inl ⟨by rfl, ?_⟩) hHeld ?_ ?_
  rotate_left
  · rintro w' ⟨s0, s1, s2, s3⟩
    go_simp
    try with_reducible rfl
  rotate_left
  · simp only [Act.put, List.setIfInBounds_toArray, List.set_cons_zero, List.set_cons_succ, i64_w, i32_w, u8_w, u32_w]
    rfl
  refine one_ (i := 4) (N := (some 199)) (bl 11 511) rfl rfl (one_of HT_.out (by kernel_rfl)) (by decide) (fun K hK => ?_)
  refine goes_ Tryd.func24 (by kernel_rfl) rfl #[.agg #[.int .i64 (rd_T29 terms n8).f0, .int .i64 (rd_T29 terms n8).f1, .slice Ae (rd_T29 terms n8).f2.length ce], .int .i64 10] (by rfl) rfl rfl (by (try simp only [List.map_toArray, List.map_cons, List.map_nil]); first | done | rfl | (simp only [List.length_drop, List.length_take]; rfl)) ?_
  refine (thyrsuslaw12_told.calls kk _ _ Ae ce _ 10 tx _ (HTB.out.below (below_step J.out.1 BD.out)) (Kd.C_below (Kd.V_reads' TE.out).2.2 BD.out) (Kd.V_reads' TE.out).2.1 X4.out).mono ?_
  rintro e we ⟨rfl, hb_⟩
  refine ⟨_, rfl, ?_⟩
  have BE := Aside0.mk (below_step BD.out hb_)
  clear hb_
  refine hK.out _ _ ⟨(HE.out _ BE.out).1, (HE.out _ BE.out).2.1, (HE.out _ BE.out).2.2, strB (blk_below BS2.out BE.out) n8 N0.out N18.out⟩ (fun hHeld => ?_)
  clear hK K
  refine norm_ (a' := ?_) ?_ ?_
  rotate_left
  · show Act.put _ (some 199) _ = _
    simp only [Act.put, List.setIfInBounds_toArray, List.set_cons_zero, List.set_cons_succ, i64_w, i32_w, u8_w, u32_w]
    rfl
  have xx := XX.out
  refine pure_ (i := 9) (N := (some 204)) (v := ?_) (a' := ?_) (bl 11 1023) rfl rfl (any_of HT_.out (by kernel_rfl)) (fun _ _ _ h => h) (Or.inl ⟨by rfl, ?_⟩) ?_ ?_
  rotate_left
  · intro w'
    go_simp
    try with_reducible rfl
  rotate_left
  · simp only [Act.put, List.setIfInBounds_toArray, List.set_cons_zero, List.set_cons_succ, i64_w, i32_w, u8_w, u32_w]
    rfl
  refine pure_ (i := 10) (N := (some 2)) (v := ?_) (a' := ?_) (bl 11 2047) rfl rfl (any_of HT_.out (by kernel_rfl)) (fun _ _ _ h => h) (Or.inl ⟨by rfl, ?_⟩) ?_ ?_
  rotate_left
  · intro w'
    go_simp
    try with_reducible rfl
  rotate_left
  · simp only [Act.put, List.setIfInBounds_toArray, List.set_cons_zero, List.set_cons_succ, i64_w, i32_w, u8_w, u32_w]
    rfl
  refine done_ (done_of HT_.out (by kernel_rfl)) ?_
  try go_wp2
  go_ret
  exact ⟨by first | rfl | (simp [XX.out]; done) | (simp; done), below_step J.out.1 BE.out⟩
end Go.Proofs.YtnecmclnokikoaaDoor.P
/- RunKnown, the plain law: known terms, run, read as the law says (the kernel reckons each). -/
namespace Go.Proofs.YtnecmclnokikoaaDoor.P
open Go.RowKit Go.Proofs.YtnecmclnokikoaaDoorW.PrintWords Go.Proofs.YtnecmclnokikoaaDoorW.PrintLast Go.Proofs.YtnecmclnokikoaaDoorW.PrintMore
set_option linter.unusedVariables false
set_option maxRecDepth 100000
theorem i64_of {n : Int} (h : (Lit.int .i64 n).wf = true) : -9223372036854775808 ≤ n ∧ n ≤ 9223372036854775807 := by
  have h1 : IntKind.i64.min ≤ n ∧ n ≤ 9223372036854775807 := by simpa [Lit.wf] using h
  exact h1
theorem within_val {a n : Int} (ha : -9223372036854775808 ≤ a ∧ a ≤ 9223372036854775807) (h0 : 0 < n) (hn : n ≤ 4611686018427387904) : thyrsuslaw12_within.f a n = some (a % n) := by
  unfold thyrsuslaw12_within.f
  rw [if_neg (by omega)]
  have h1 := Int.emod_nonneg a (show n ≠ 0 by omega)
  have h2 := Int.emod_lt_of_pos a h0
  by_cases h : 0 ≤ a
  · rw [Int.tmod_eq_emod_of_nonneg h, if_neg (by omega)]
  · have e := Int.tmod_eq_emod (a := a) (b := n)
    by_cases hd : n ∣ a
    · rw [if_pos (.inr hd)] at e
      have h3 := Int.emod_eq_zero_of_dvd hd
      rw [if_neg (by omega)]
      simp only [Option.some.injEq]
      omega
    · rw [if_neg (by omega)] at e
      rw [if_pos (by omega)]
      simp only [Option.some.injEq]
      unfold wrap64
      omega
theorem within_ex {a n : Int} (ha : -9223372036854775808 ≤ a ∧ a ≤ 9223372036854775807) (h0 : 0 < n) (hn : n ≤ 4611686018427387904) : ∃ t : Nat, (t : Int) < n ∧ thyrsuslaw12_within.f a n = some (t : Int) := by
  have h1 := Int.emod_nonneg a (show n ≠ 0 by omega)
  have h2 := Int.emod_lt_of_pos a h0
  refine ⟨(a % n).toNat, by omega, ?_⟩
  rw [within_val ha h0 hn]
  congr 1
  omega
theorem known0 (a0 : Int) (w : World) (hT : TabP w) (hn : thyrsuslaw12_within.f a0 18 = some 0) : Calls Tryd.prog 5 #[.int .i64 a0] w fun e w' => e = .returned (.bool true) ∧ Below w.heap.size w w' :=
  runKnown_calls 60 a0 0 w hT (show thyrsuslaw12_known.f 60 = some true by kernel_rfl) hn (by decide) (by decide) (rdB texts 0) (show thyrsuslaw12_told.f 60 (rd_T29 terms 0).f0 (rd_T29 terms 0).f1 (rd_T29 terms 0).f2 10 = some (rdB texts 0) by kernel_rfl) (by kernel_rfl)
theorem known1 (a0 : Int) (w : World) (hT : TabP w) (hn : thyrsuslaw12_within.f a0 18 = some 1) : Calls Tryd.prog 5 #[.int .i64 a0] w fun e w' => e = .returned (.bool true) ∧ Below w.heap.size w w' :=
  runKnown_calls 60 a0 1 w hT (show thyrsuslaw12_known.f 60 = some true by kernel_rfl) hn (by decide) (by decide) (rdB texts 1) (show thyrsuslaw12_told.f 60 (rd_T29 terms 1).f0 (rd_T29 terms 1).f1 (rd_T29 terms 1).f2 10 = some (rdB texts 1) by kernel_rfl) (by kernel_rfl)
theorem known2 (a0 : Int) (w : World) (hT : TabP w) (hn : thyrsuslaw12_within.f a0 18 = some 2) : Calls Tryd.prog 5 #[.int .i64 a0] w fun e w' => e = .returned (.bool true) ∧ Below w.heap.size w w' :=
  runKnown_calls 60 a0 2 w hT (show thyrsuslaw12_known.f 60 = some true by kernel_rfl) hn (by decide) (by decide) (rdB texts 2) (show thyrsuslaw12_told.f 60 (rd_T29 terms 2).f0 (rd_T29 terms 2).f1 (rd_T29 terms 2).f2 10 = some (rdB texts 2) by kernel_rfl) (by kernel_rfl)
theorem known3 (a0 : Int) (w : World) (hT : TabP w) (hn : thyrsuslaw12_within.f a0 18 = some 3) : Calls Tryd.prog 5 #[.int .i64 a0] w fun e w' => e = .returned (.bool true) ∧ Below w.heap.size w w' :=
  runKnown_calls 60 a0 3 w hT (show thyrsuslaw12_known.f 60 = some true by kernel_rfl) hn (by decide) (by decide) (rdB texts 3) (show thyrsuslaw12_told.f 60 (rd_T29 terms 3).f0 (rd_T29 terms 3).f1 (rd_T29 terms 3).f2 10 = some (rdB texts 3) by kernel_rfl) (by kernel_rfl)
theorem known4 (a0 : Int) (w : World) (hT : TabP w) (hn : thyrsuslaw12_within.f a0 18 = some 4) : Calls Tryd.prog 5 #[.int .i64 a0] w fun e w' => e = .returned (.bool true) ∧ Below w.heap.size w w' :=
  runKnown_calls 60 a0 4 w hT (show thyrsuslaw12_known.f 60 = some true by kernel_rfl) hn (by decide) (by decide) (rdB texts 4) (show thyrsuslaw12_told.f 60 (rd_T29 terms 4).f0 (rd_T29 terms 4).f1 (rd_T29 terms 4).f2 10 = some (rdB texts 4) by kernel_rfl) (by kernel_rfl)
theorem known5 (a0 : Int) (w : World) (hT : TabP w) (hn : thyrsuslaw12_within.f a0 18 = some 5) : Calls Tryd.prog 5 #[.int .i64 a0] w fun e w' => e = .returned (.bool true) ∧ Below w.heap.size w w' :=
  runKnown_calls 60 a0 5 w hT (show thyrsuslaw12_known.f 60 = some true by kernel_rfl) hn (by decide) (by decide) (rdB texts 5) (show thyrsuslaw12_told.f 60 (rd_T29 terms 5).f0 (rd_T29 terms 5).f1 (rd_T29 terms 5).f2 10 = some (rdB texts 5) by kernel_rfl) (by kernel_rfl)
theorem known6 (a0 : Int) (w : World) (hT : TabP w) (hn : thyrsuslaw12_within.f a0 18 = some 6) : Calls Tryd.prog 5 #[.int .i64 a0] w fun e w' => e = .returned (.bool true) ∧ Below w.heap.size w w' :=
  runKnown_calls 60 a0 6 w hT (show thyrsuslaw12_known.f 60 = some true by kernel_rfl) hn (by decide) (by decide) (rdB texts 6) (show thyrsuslaw12_told.f 60 (rd_T29 terms 6).f0 (rd_T29 terms 6).f1 (rd_T29 terms 6).f2 10 = some (rdB texts 6) by kernel_rfl) (by kernel_rfl)
theorem known7 (a0 : Int) (w : World) (hT : TabP w) (hn : thyrsuslaw12_within.f a0 18 = some 7) : Calls Tryd.prog 5 #[.int .i64 a0] w fun e w' => e = .returned (.bool true) ∧ Below w.heap.size w w' :=
  runKnown_calls 60 a0 7 w hT (show thyrsuslaw12_known.f 60 = some true by kernel_rfl) hn (by decide) (by decide) (rdB texts 7) (show thyrsuslaw12_told.f 60 (rd_T29 terms 7).f0 (rd_T29 terms 7).f1 (rd_T29 terms 7).f2 10 = some (rdB texts 7) by kernel_rfl) (by kernel_rfl)
theorem known8 (a0 : Int) (w : World) (hT : TabP w) (hn : thyrsuslaw12_within.f a0 18 = some 8) : Calls Tryd.prog 5 #[.int .i64 a0] w fun e w' => e = .returned (.bool true) ∧ Below w.heap.size w w' :=
  runKnown_calls 60 a0 8 w hT (show thyrsuslaw12_known.f 60 = some true by kernel_rfl) hn (by decide) (by decide) (rdB texts 8) (show thyrsuslaw12_told.f 60 (rd_T29 terms 8).f0 (rd_T29 terms 8).f1 (rd_T29 terms 8).f2 10 = some (rdB texts 8) by kernel_rfl) (by kernel_rfl)
theorem known9 (a0 : Int) (w : World) (hT : TabP w) (hn : thyrsuslaw12_within.f a0 18 = some 9) : Calls Tryd.prog 5 #[.int .i64 a0] w fun e w' => e = .returned (.bool true) ∧ Below w.heap.size w w' :=
  runKnown_calls 60 a0 9 w hT (show thyrsuslaw12_known.f 60 = some true by kernel_rfl) hn (by decide) (by decide) (rdB texts 9) (show thyrsuslaw12_told.f 60 (rd_T29 terms 9).f0 (rd_T29 terms 9).f1 (rd_T29 terms 9).f2 10 = some (rdB texts 9) by kernel_rfl) (by kernel_rfl)
theorem known10 (a0 : Int) (w : World) (hT : TabP w) (hn : thyrsuslaw12_within.f a0 18 = some 10) : Calls Tryd.prog 5 #[.int .i64 a0] w fun e w' => e = .returned (.bool true) ∧ Below w.heap.size w w' :=
  runKnown_calls 60 a0 10 w hT (show thyrsuslaw12_known.f 60 = some true by kernel_rfl) hn (by decide) (by decide) (rdB texts 10) (show thyrsuslaw12_told.f 60 (rd_T29 terms 10).f0 (rd_T29 terms 10).f1 (rd_T29 terms 10).f2 10 = some (rdB texts 10) by kernel_rfl) (by kernel_rfl)
theorem known11 (a0 : Int) (w : World) (hT : TabP w) (hn : thyrsuslaw12_within.f a0 18 = some 11) : Calls Tryd.prog 5 #[.int .i64 a0] w fun e w' => e = .returned (.bool true) ∧ Below w.heap.size w w' :=
  runKnown_calls 60 a0 11 w hT (show thyrsuslaw12_known.f 60 = some true by kernel_rfl) hn (by decide) (by decide) (rdB texts 11) (show thyrsuslaw12_told.f 60 (rd_T29 terms 11).f0 (rd_T29 terms 11).f1 (rd_T29 terms 11).f2 10 = some (rdB texts 11) by kernel_rfl) (by kernel_rfl)
theorem known12 (a0 : Int) (w : World) (hT : TabP w) (hn : thyrsuslaw12_within.f a0 18 = some 12) : Calls Tryd.prog 5 #[.int .i64 a0] w fun e w' => e = .returned (.bool true) ∧ Below w.heap.size w w' :=
  runKnown_calls 60 a0 12 w hT (show thyrsuslaw12_known.f 60 = some true by kernel_rfl) hn (by decide) (by decide) (rdB texts 12) (show thyrsuslaw12_told.f 60 (rd_T29 terms 12).f0 (rd_T29 terms 12).f1 (rd_T29 terms 12).f2 10 = some (rdB texts 12) by kernel_rfl) (by kernel_rfl)
theorem known13 (a0 : Int) (w : World) (hT : TabP w) (hn : thyrsuslaw12_within.f a0 18 = some 13) : Calls Tryd.prog 5 #[.int .i64 a0] w fun e w' => e = .returned (.bool true) ∧ Below w.heap.size w w' :=
  runKnown_calls 60 a0 13 w hT (show thyrsuslaw12_known.f 60 = some true by kernel_rfl) hn (by decide) (by decide) (rdB texts 13) (show thyrsuslaw12_told.f 60 (rd_T29 terms 13).f0 (rd_T29 terms 13).f1 (rd_T29 terms 13).f2 10 = some (rdB texts 13) by kernel_rfl) (by kernel_rfl)
theorem known14 (a0 : Int) (w : World) (hT : TabP w) (hn : thyrsuslaw12_within.f a0 18 = some 14) : Calls Tryd.prog 5 #[.int .i64 a0] w fun e w' => e = .returned (.bool true) ∧ Below w.heap.size w w' :=
  runKnown_calls 60 a0 14 w hT (show thyrsuslaw12_known.f 60 = some true by kernel_rfl) hn (by decide) (by decide) (rdB texts 14) (show thyrsuslaw12_told.f 60 (rd_T29 terms 14).f0 (rd_T29 terms 14).f1 (rd_T29 terms 14).f2 10 = some (rdB texts 14) by kernel_rfl) (by kernel_rfl)
theorem known15 (a0 : Int) (w : World) (hT : TabP w) (hn : thyrsuslaw12_within.f a0 18 = some 15) : Calls Tryd.prog 5 #[.int .i64 a0] w fun e w' => e = .returned (.bool true) ∧ Below w.heap.size w w' :=
  runKnown_calls 60 a0 15 w hT (show thyrsuslaw12_known.f 60 = some true by kernel_rfl) hn (by decide) (by decide) (rdB texts 15) (show thyrsuslaw12_told.f 60 (rd_T29 terms 15).f0 (rd_T29 terms 15).f1 (rd_T29 terms 15).f2 10 = some (rdB texts 15) by kernel_rfl) (by kernel_rfl)
theorem known16 (a0 : Int) (w : World) (hT : TabP w) (hn : thyrsuslaw12_within.f a0 18 = some 16) : Calls Tryd.prog 5 #[.int .i64 a0] w fun e w' => e = .returned (.bool true) ∧ Below w.heap.size w w' :=
  runKnown_calls 60 a0 16 w hT (show thyrsuslaw12_known.f 60 = some true by kernel_rfl) hn (by decide) (by decide) (rdB texts 16) (show thyrsuslaw12_told.f 60 (rd_T29 terms 16).f0 (rd_T29 terms 16).f1 (rd_T29 terms 16).f2 10 = some (rdB texts 16) by kernel_rfl) (by kernel_rfl)
theorem known17 (a0 : Int) (w : World) (hT : TabP w) (hn : thyrsuslaw12_within.f a0 18 = some 17) : Calls Tryd.prog 5 #[.int .i64 a0] w fun e w' => e = .returned (.bool true) ∧ Below w.heap.size w w' :=
  runKnown_calls 60 a0 17 w hT (show thyrsuslaw12_known.f 60 = some true by kernel_rfl) hn (by decide) (by decide) (rdB texts 17) (show thyrsuslaw12_told.f 60 (rd_T29 terms 17).f0 (rd_T29 terms 17).f1 (rd_T29 terms 17).f2 10 = some (rdB texts 17) by kernel_rfl) (by kernel_rfl)
theorem runKnown_walk {W : World} (a0 : Int) (w0 : (Lit.int .i64 a0).wf = true) (hT : TabP W) : Calls Tryd.prog 5 #[.int .i64 a0] W fun e w' => e = .returned (.bool true) ∧ Below W.heap.size W w' := by
  obtain ⟨t, ht, hn⟩ := within_ex (i64_of w0) (n := 18) (by decide) (by decide)
  have hc : t < 18 := by omega
  match t, hc, hn with
  | 0, _, hn => exact known0 a0 W hT hn
  | 1, _, hn => exact known1 a0 W hT hn
  | 2, _, hn => exact known2 a0 W hT hn
  | 3, _, hn => exact known3 a0 W hT hn
  | 4, _, hn => exact known4 a0 W hT hn
  | 5, _, hn => exact known5 a0 W hT hn
  | 6, _, hn => exact known6 a0 W hT hn
  | 7, _, hn => exact known7 a0 W hT hn
  | 8, _, hn => exact known8 a0 W hT hn
  | 9, _, hn => exact known9 a0 W hT hn
  | 10, _, hn => exact known10 a0 W hT hn
  | 11, _, hn => exact known11 a0 W hT hn
  | 12, _, hn => exact known12 a0 W hT hn
  | 13, _, hn => exact known13 a0 W hT hn
  | 14, _, hn => exact known14 a0 W hT hn
  | 15, _, hn => exact known15 a0 W hT hn
  | 16, _, hn => exact known16 a0 W hT hn
  | 17, _, hn => exact known17 a0 W hT hn
end Go.Proofs.YtnecmclnokikoaaDoor.P
/- The rows' condition on listed variables, for strconv's table of powers of ten. -/
namespace Go.Proofs.YtnecmclnokikoaaDoor.P
theorem tabP_of {W : World} (h : laidMetH Tryd.prog Rows.runKnownRow.laid W) : TabP W := by
  have h' : laidMet Tryd.prog Rows.runKnownRow.laid W := h
  obtain ⟨ps, ⟨g1, t1, c1, f1, p1, q1, _, _, _, _, ⟨g2, t2, c2, f2, p2, q2, _, _, _, _, ⟨g, t, cs, fuel, p, q, hg, ht, hvar, hd, _, _⟩, _⟩, _⟩, _⟩ := h'
  have hg1 : Tryd.prog.globalNamed "internal/strconv.uint64pow10" = some 0 := by kernel_rfl
  obtain rfl := Option.some.inj (hg1.symm.trans hg)
  have ht1 : (Tryd.prog.globals[0]?).map (·.type) = some 146 := by kernel_rfl
  obtain rfl := Option.some.inj (ht1.symm.trans ht)
  have e := Lib.cells_of_tab (n := 20) (k := .u64) (zs := Lib.pow10Tab) Tryd.underlying146 Tryd.underlying139 (by kernel_rfl) (by kernel_rfl) hd
  unfold TabP Lib.TabIs
  rw [hvar, ← e]
end Go.Proofs.YtnecmclnokikoaaDoor.P
