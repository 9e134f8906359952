/- Part of a proof: see the last text. -/
import Derived.Test.YtmgbaegdkjcagaaWI
import Derived.Test.YtmgbaegdkjcagaaWA
set_option linter.unusedVariables false
set_option linter.unusedSimpArgs false
namespace Go.Proofs.Ytmgbaegdkjcagaa
open Go.Eng
set_option maxRecDepth 100000
namespace lawTraceFolds
theorem contract (H : Type) (enc : TypeId × Value → H) (W : World) (base : Nat) (args : Array Value) (ds gs : List (DataW H)) (before : List MemPlace)
    (hval : ∀ (j : Nat) t v, Try.f6.params[j]? = some t → args[j]? = some v → Value.okWide Try.prog W .any base t v)
    (hW : DataW.Whole enc Try.prog Try.f6.params.toList Rows.traceFoldsSpec.vars false W args.toList ds gs before) :
    Calls Try.prog 6 args W fun e W' => ∃ v, e = .returned v ∧ Rows.traceFoldsSpec.post enc Try.prog Try.f6 false true false false W args v W' :=
  law_contract (P := Try.prog) (f := 6) (fn := Try.f6) (s := Rows.traceFoldsSpec) (again := false) (ts := [25]) (tb := 4) laidOut rfl rfl Try.underlying4 (by kernel_rfl) rfl
    (fun H ds h => by match ds, h with | [d1], _ => rfl)
    (opensL_cons ov_tr opensL_nil) (fun a h => traceFolds_spec a.1) enc W base args ds gs before hval hW

theorem lifted (os : Os) (started : os.Started) (H : Type) (enc : TypeId × Value → H) :
    ReturnsInHanded {} Try.checked os 6 .any (Rows.traceFoldsSpec.pre6 enc Try.prog Try.f6 Rows.traceFoldsRow.domain false) (Rows.traceFoldsSpec.post enc Try.prog Try.f6 false true false false) := by
  refine returnsInHanded_of_change (C := Try.checked) own started (by kernel_rfl) Try.func6
    (ChangeSpec.witness6 (enc := enc) (C := Try.checked) false ⟨#[], #[.agg #[.int .i64 0, .slice none 0 0, .slice none 0 0]], []⟩ 8 (by kernel_rfl) (by kernel_rfl) (by kernel_rfl) (by kernel_rfl)) ?_
  intro W base args ds gs before hval hW _ _
  exact contract H enc W base args ds gs before hval hW

theorem over : Rows.traceFoldsRow.holds Try.pinned (OpenSpec.ofChange Rows.traceFoldsSpec) :=
  OpenClaim.holds_of_wide 6 Try.f6 rfl rfl rfl rfl rfl rfl rfl ⟨rfl, rfl, rfl, rfl, rfl⟩ rfl rfl rfl rfl rfl (by kernel_rfl) Try.func6 (by kernel_rfl)
    (of_decide_eq_true (by kernel_rfl)) (by unfold Func.isWrapper; first | (rw [if_pos (by decide +kernel)]; kernel_rfl) | (rw [if_neg (by decide +kernel)]; exact ⟨rfl, rfl⟩))
    (fun os started H enc _ => lifted os started H enc)
theorem proved : Rows.TraceFoldsSaid := over
end lawTraceFolds
end Go.Proofs.Ytmgbaegdkjcagaa
