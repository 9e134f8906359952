/- Part of a proof: see the last text. -/
import Derived.Test.YtmgbaegdkjcagaaWM
import Derived.Test.YtmgbaegdkjcagaaWA
set_option linter.unusedVariables false
set_option linter.unusedSimpArgs false
namespace Go.Proofs.Ytmgbaegdkjcagaa
open Go.Eng
set_option maxRecDepth 100000
namespace lawTraceLives
theorem contract (H : Type) (enc : TypeId × Value → H) (W : World) (base : Nat) (args : Array Value) (ds gs : List (DataW H)) (before : List MemPlace)
    (hval : ∀ (j : Nat) t v, Try.f10.params[j]? = some t → args[j]? = some v → Value.okWide Try.prog W .any base t v)
    (hW : DataW.Whole enc Try.prog Try.f10.params.toList Rows.traceLivesSpec.vars false W args.toList ds gs before) :
    Calls Try.prog 10 args W fun e W' => ∃ v, e = .returned v ∧ Rows.traceLivesSpec.post enc Try.prog Try.f10 false true false false W args v W' :=
  law_contract (P := Try.prog) (f := 10) (fn := Try.f10) (s := Rows.traceLivesSpec) (again := false) (ts := [25]) (tb := 4) laidOut rfl rfl Try.underlying4 (by kernel_rfl) rfl
    (fun H ds h => by match ds, h with | [d1], _ => rfl)
    (opensL_cons ov_tr opensL_nil) (fun a h => traceLives_spec a.1) enc W base args ds gs before hval hW

theorem lifted (os : Os) (started : os.Started) (H : Type) (enc : TypeId × Value → H) :
    ReturnsInHanded {} Try.checked os 10 .any (Rows.traceLivesSpec.pre6 enc Try.prog Try.f10 Rows.traceLivesRow.domain false) (Rows.traceLivesSpec.post enc Try.prog Try.f10 false true false false) := by
  refine returnsInHanded_of_change (C := Try.checked) own started (by kernel_rfl) Try.func10
    (ChangeSpec.witness6 (enc := enc) (C := Try.checked) false ⟨#[], #[.agg #[.int .i64 0, .slice none 0 0, .slice none 0 0]], []⟩ 8 (by kernel_rfl) (by kernel_rfl) (by kernel_rfl) (by kernel_rfl)) ?_
  intro W base args ds gs before hval hW _ _
  exact contract H enc W base args ds gs before hval hW

theorem over : Rows.traceLivesRow.holds Try.pinned (OpenSpec.ofChange Rows.traceLivesSpec) :=
  OpenClaim.holds_of_wide 10 Try.f10 rfl rfl rfl rfl rfl rfl rfl ⟨rfl, rfl, rfl, rfl, rfl⟩ rfl rfl rfl rfl rfl (by kernel_rfl) Try.func10 (by kernel_rfl)
    (of_decide_eq_true (by kernel_rfl)) (by unfold Func.isWrapper; first | (rw [if_pos (by decide +kernel)]; kernel_rfl) | (rw [if_neg (by decide +kernel)]; exact ⟨rfl, rfl⟩))
    (fun os started H enc _ => lifted os started H enc)
theorem proved : Rows.TraceLivesSaid := over
end lawTraceLives
end Go.Proofs.Ytmgbaegdkjcagaa
