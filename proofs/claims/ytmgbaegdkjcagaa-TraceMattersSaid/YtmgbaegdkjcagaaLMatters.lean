/- Part of a proof: see the last text. -/
import Derived.Test.YtmgbaegdkjcagaaWN
import Derived.Test.YtmgbaegdkjcagaaWA
set_option linter.unusedVariables false
set_option linter.unusedSimpArgs false
namespace Go.Proofs.Ytmgbaegdkjcagaa
open Go.Eng
set_option maxRecDepth 100000
namespace lawTraceMatters
theorem contract (H : Type) (enc : TypeId × Value → H) (W : World) (base : Nat) (args : Array Value) (ds gs : List (DataW H)) (before : List MemPlace)
    (hval : ∀ (j : Nat) t v, Try.f9.params[j]? = some t → args[j]? = some v → Value.okWide Try.prog W .any base t v)
    (hW : DataW.Whole enc Try.prog Try.f9.params.toList Rows.traceMattersSpec.vars false W args.toList ds gs before) :
    Calls Try.prog 9 args W fun e W' => ∃ v, e = .returned v ∧ Rows.traceMattersSpec.post enc Try.prog Try.f9 false true false false W args v W' :=
  law_contract (P := Try.prog) (f := 9) (fn := Try.f9) (s := Rows.traceMattersSpec) (again := false) (ts := [26, 3, 3]) (tb := 4) laidOut rfl rfl Try.underlying4 (by kernel_rfl) rfl
    (fun H ds h => by match ds, h with | [d1, d2, d3], _ => rfl)
    (opensL_cons ov_ints (opensL_cons ov_int (opensL_cons ov_int opensL_nil))) (fun a h => traceMatters_spec a.1 a.2.1 a.2.2.1) enc W base args ds gs before hval hW

theorem lifted (os : Os) (started : os.Started) (H : Type) (enc : TypeId × Value → H) :
    ReturnsInHanded {} Try.checked os 9 .any (Rows.traceMattersSpec.pre6 enc Try.prog Try.f9 Rows.traceMattersRow.domain false) (Rows.traceMattersSpec.post enc Try.prog Try.f9 false true false false) := by
  refine returnsInHanded_of_change (C := Try.checked) own started (by kernel_rfl) Try.func9
    (ChangeSpec.witness6 (enc := enc) (C := Try.checked) false ⟨#[], #[.slice none 0 0, .int .i64 0, .int .i64 0], []⟩ 8 (by kernel_rfl) (by kernel_rfl) (by kernel_rfl) (by kernel_rfl)) ?_
  intro W base args ds gs before hval hW _ _
  exact contract H enc W base args ds gs before hval hW

theorem over : Rows.traceMattersRow.holds Try.pinned (OpenSpec.ofChange Rows.traceMattersSpec) :=
  OpenClaim.holds_of_wide 9 Try.f9 rfl rfl rfl rfl rfl rfl rfl ⟨rfl, rfl, rfl, rfl, rfl⟩ rfl rfl rfl rfl rfl (by kernel_rfl) Try.func9 (by kernel_rfl)
    (of_decide_eq_true (by kernel_rfl)) (by unfold Func.isWrapper; first | (rw [if_pos (by decide +kernel)]; kernel_rfl) | (rw [if_neg (by decide +kernel)]; exact ⟨rfl, rfl⟩))
    (fun os started H enc _ => lifted os started H enc)
theorem proved : Rows.TraceMattersSaid := over
end lawTraceMatters
end Go.Proofs.Ytmgbaegdkjcagaa
