/- Part of a proof: see the last text. -/
import Derived.Test.YtmgbaegdkjcagaaWC
import Derived.Test.YtmgbaegdkjcagaaRows
namespace Go.Proofs.Ytmgbaegdkjcagaa
open Go.Eng
set_option maxRecDepth 100000
theorem own : ownKnob Try.prog.godebug = none := by kernel_rfl
theorem laidOut : laidOutB Try.prog = true := by kernel_rfl

/-! the types of the laws' parameters -/
theorem op_int : Opens Try.prog 3 (fun n : Int => cI n) InR := opens_int Try.underlying3
theorem op_ints : Opens Try.prog 26 (fun l : List Int => [dIs l]) (fun l => l.length ≤ maxLen ∧ ∀ x ∈ l, InR x) := opens_slice 1 Try.underlying26 (by kernel_rfl) (by decide) (fun _ => rfl) op_int
theorem op_ins : Opens Try.prog 71 (fun i : Ins => cIns i) (fun _ => True) := by
  have h := opens_struct (e := 6) Try.underlying71 rfl (by kernel_rfl) (opensS_cons (n := 1) rfl (by kernel_rfl) op_int (opensS_cons (n := 1) rfl (by kernel_rfl) op_int (opensS_cons (n := 1) rfl (by kernel_rfl) op_int (opensS_cons (n := 1) rfl (by kernel_rfl) op_int
    (opensS_cons (n := 1) rfl (by kernel_rfl) op_int (opensS_cons (n := 1) rfl (by kernel_rfl) op_int opensS_nil))))))
  exact h.iso (fun x => ⟨x.1, x.2.1, x.2.2.1, x.2.2.2.1, x.2.2.2.2.1, x.2.2.2.2.2.1⟩) (fun _ => rfl) (fun _ _ => trivial)
theorem op_exi : Opens Try.prog 69 (fun i : Exi => cExi i) (fun _ => True) := by
  have h := opens_struct (e := 2) Try.underlying69 rfl (by kernel_rfl) (opensS_cons (n := 1) rfl (by kernel_rfl) op_int (opensS_cons (n := 1) rfl (by kernel_rfl) op_ints opensS_nil))
  exact h.iso (fun x => ⟨x.1, x.2.1⟩) (fun _ => rfl) (fun _ _ => trivial)
theorem op_tr : Opens Try.prog 25 (fun t : Tr => [dI t.regs, .sl 6 (t.code.map cIns), .sl 2 (t.exits.map cExi)]) (fun _ => True) := by
  have h := opens_struct (e := 3) Try.underlying25 rfl (by kernel_rfl) (opensS_cons (n := 1) rfl (by kernel_rfl) op_int (opensS_cons (n := 1) rfl (by kernel_rfl) (opens_slice 6 Try.underlying22 (by kernel_rfl) (by decide) (fun _ => rfl) op_ins)
    (opensS_cons (n := 1) rfl (by kernel_rfl) (opens_slice 2 Try.underlying23 (by kernel_rfl) (by decide) (fun _ => rfl) op_exi) opensS_nil)))
  exact h.iso (fun x => ⟨x.1, x.2.1, x.2.2.1⟩) (fun _ => rfl) (fun _ _ => trivial)
theorem ov_tr : OpensV Try.prog 25 dTr (fun _ => True) := opensV_agg Try.underlying25 op_tr
theorem ov_ints : OpensV Try.prog 26 dIs (fun l => l.length ≤ maxLen ∧ ∀ x ∈ l, InR x) := opensV_cell (by rw [Try.underlying26]; rfl) op_ints
theorem ov_int : OpensV Try.prog 3 dI InR := opensV_cell (by rw [Try.underlying3]; rfl) op_int

namespace lawTraceRuns
theorem contract (H : Type) (enc : TypeId × Value → H) (W : World) (base : Nat) (args : Array Value) (ds gs : List (DataW H)) (before : List MemPlace)
    (hval : ∀ (j : Nat) t v, Try.f3.params[j]? = some t → args[j]? = some v → Value.okWide Try.prog W .any base t v)
    (hW : DataW.Whole enc Try.prog Try.f3.params.toList Rows.traceRunsSpec.vars false W args.toList ds gs before) :
    Calls Try.prog 3 args W fun e W' => ∃ v, e = .returned v ∧ Rows.traceRunsSpec.post enc Try.prog Try.f3 false true false false W args v W' :=
  law_contract (P := Try.prog) (f := 3) (fn := Try.f3) (s := Rows.traceRunsSpec) (again := false) (ts := [25, 26, 3]) (tb := 4) laidOut rfl rfl Try.underlying4 (by kernel_rfl) rfl
    (fun H ds h => by match ds, h with | [d1, d2, d3], _ => rfl)
    (opensL_cons ov_tr (opensL_cons ov_ints (opensL_cons ov_int opensL_nil))) (fun a _ => traceRuns_spec a.1 a.2.1 a.2.2.1) enc W base args ds gs before hval hW

theorem lifted (os : Os) (started : os.Started) (H : Type) (enc : TypeId × Value → H) :
    ReturnsInHanded {} Try.checked os 3 .any (Rows.traceRunsSpec.pre6 enc Try.prog Try.f3 Rows.traceRunsRow.domain false) (Rows.traceRunsSpec.post enc Try.prog Try.f3 false true false false) := by
  refine returnsInHanded_of_change (C := Try.checked) own started (by kernel_rfl) Try.func3
    (ChangeSpec.witness6 (enc := enc) (C := Try.checked) false ⟨#[], #[.agg #[.int .i64 0, .slice none 0 0, .slice none 0 0], .slice none 0 0, .int .i64 0], []⟩ 8 (by kernel_rfl) (by kernel_rfl) (by kernel_rfl) (by kernel_rfl)) ?_
  intro W base args ds gs before hval hW _ _
  exact contract H enc W base args ds gs before hval hW

theorem over : Rows.traceRunsRow.holds Try.pinned (OpenSpec.ofChange Rows.traceRunsSpec) :=
  OpenClaim.holds_of_wide 3 Try.f3 rfl rfl rfl rfl rfl rfl rfl ⟨rfl, rfl, rfl, rfl, rfl⟩ rfl rfl rfl rfl rfl (by kernel_rfl) Try.func3 (by kernel_rfl)
    (of_decide_eq_true (by kernel_rfl)) (by unfold Func.isWrapper; first | (rw [if_pos (by decide +kernel)]; kernel_rfl) | (rw [if_neg (by decide +kernel)]; exact ⟨rfl, rfl⟩))
    (fun os started H enc _ => lifted os started H enc)
theorem proved : Rows.TraceRunsSaid := over
end lawTraceRuns
end Go.Proofs.Ytmgbaegdkjcagaa
