/- Part of a proof: see the last text. -/
import Derived.Test.YtglncfhcgkihbaaGreatDoorLO
import Derived.Test.YtglncfhcgkihbaaGreatDoorF00
import Derived.Test.YtglncfhcgkihbaaGreatDoorF01
import Derived.Test.YtglncfhcgkihbaaGreatDoorF02
import Derived.Test.YtglncfhcgkihbaaGreatDoorF04
import Derived.Test.YtglncfhcgkihbaaGreatDoorF05
import Derived.Test.YtglncfhcgkihbaaGreatDoorF15
import Derived.Test.YtglncfhcgkihbaaGreatDoorF21
set_option linter.unusedVariables false
set_option linter.unusedSimpArgs false
namespace Go.Proofs.YtglncfhcgkihbaaGreatDoor
open Go.Eng Go.WideShapes Go.Wh
set_option maxRecDepth 100000
theorem gn_rngE : Tryz.prog.globalNamed "strconv.ErrRange" = some 1 := by kernel_rfl
theorem gn_synE : Tryz.prog.globalNamed "strconv.ErrSyntax" = some 0 := by kernel_rfl
theorem err_cell {n nm : String} {d : DataW Unit} {r : List (String × DataW Unit)} {W : World} {g : Nat} {ti : TypeId} {ms : Array (String × TypeId)} (h : laidMet Tryz.prog ((n, .iface nm d) :: r) W)
    (hg : Tryz.prog.globalNamed n = some g) (ht : (Tryz.prog.globals[g]?).map (·.type) = some ti) (hi : Tryz.prog.underlying ti = some (.interface ms)) :
    ∃ ev, W.cell? ⟨g, 0, none⟩ = some ev ∧ (ev = .nilIface ∨ ∃ te pe, ev = .iface te pe) := by
  obtain ⟨ps, ⟨g0, t0, cs0, f0, p0, q0, hg0, ht0, hv0, hd0, _, e0⟩, _, _⟩ := h
  obtain rfl := Option.some.inj (hg.symm.trans hg0)
  obtain rfl := Option.some.inj (ht.symm.trans ht0)
  obtain ⟨f1, u, v, hcs, _, _⟩ := iface_of_trod hi hd0
  refine ⟨.iface u v, ?_, .inr ⟨u, v, rfl⟩⟩
  have := World.var?_cell hg0 hv0 0
  obtain ⟨l0⟩ := cs0
  simp only at hcs
  subst hcs
  simpa using this
theorem globOkE_of {W : World} (hL : laidMet Tryz.prog Rows.wholeIntsRow.laid W) (hsh : W.ShapedOpen Tryz.prog) : @GlobOk Tryz.prog errGlob0 noCtx W := by
  have hlt : ∀ b v, W.cell? ⟨b, 0, none⟩ = some v → b < W.heap.size := fun b v h => cell_lt h
  have h2 := laidMet.tail (laidMet.tail hL)
  have hg := (globOk_of (r := Rows.wholeIntsRow.laid.tail.tail.tail) h2 hsh)
  have h3 := laidMet.tail (laidMet.tail h2)
  obtain ⟨ev1, q1, q2⟩ := err_cell (d := _) (ti := 86) h3 gn_rngE (by kernel_rfl) Tryz.underlying86
  obtain ⟨ev0, q3, q4⟩ := err_cell (d := _) (ti := 86) (laidMet.tail h3) gn_synE (by kernel_rfl) Tryz.underlying86
  refine ⟨⟨hg.1, ⟨ev0, q3, q4⟩, ⟨ev1, q1, q2⟩⟩, fun b hb => ⟨(fun ⟨s, g, u, h, _⟩ => by cases h), ?_⟩⟩
  have hb' : b = 0 ∨ b = 1 ∨ b = 2 ∨ b = 3 := by
    have : b ∈ [0, 1, 2, 3] := hb
    simpa using this
  rcases hb' with rfl | rfl | rfl | rfl
  · exact hlt _ _ q3
  · exact hlt _ _ q1
  · exact (hg.2 2 (by show 2 ∈ [2, 3]; simp)).2
  · exact (hg.2 3 (by show 3 ∈ [2, 3]; simp)).2
end Go.Proofs.YtglncfhcgkihbaaGreatDoor
