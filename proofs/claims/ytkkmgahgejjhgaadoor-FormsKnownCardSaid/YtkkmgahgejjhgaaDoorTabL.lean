/- The rows' condition on listed variables, for strconv's table of powers of ten. -/
import Derived.Test.YtkkmgahgejjhgaaDoorRows
import Derived.Test.YtkkmgahgejjhgaaDoorHandStr
import Derived.Lib.LaidTab
import Derived.KernelRfl
namespace Go.Proofs.YtkkmgahgejjhgaaDoor.P
theorem tabP_of {W : World} (h : laidMetH Tryd.prog Rows.formsDeepRow.laid W) : TabP W := by
  have h' : laidMet Tryd.prog Rows.formsDeepRow.laid W := h
  obtain ⟨ps, ⟨g1, t1, c1, f1, p1, q1, _, _, _, _, ⟨g2, t2, c2, f2, p2, q2, _, _, _, _, ⟨g, t, cs, fuel, p, q, hg, ht, hvar, hd, _, _⟩, _⟩, _⟩, _⟩ := h'
  have hg1 : Tryd.prog.globalNamed "internal/strconv.uint64pow10" = some 0 := by kernel_rfl
  obtain rfl := Option.some.inj (hg1.symm.trans hg)
  have ht1 : (Tryd.prog.globals[0]?).map (·.type) = some 107 := by kernel_rfl
  obtain rfl := Option.some.inj (ht1.symm.trans ht)
  have e := Lib.cells_of_tab (n := 20) (k := .u64) (zs := Lib.pow10Tab) Tryd.underlying107 Tryd.underlying91 (by kernel_rfl) (by kernel_rfl) hd
  unfold TabP Lib.TabIs
  rw [hvar, ← e]
end Go.Proofs.YtkkmgahgejjhgaaDoor.P
