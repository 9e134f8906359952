/- Part of a proof: see the last text. -/
import Derived.Test.YtglncfhcgkihbaaDoorWF
set_option linter.unusedVariables false
set_option linter.unusedSimpArgs false
namespace Go.Proofs.YtglncfhcgkihbaaDoor
open Go.Eng Go.Wh
set_option maxRecDepth 100000
namespace lawWholeFloor
theorem contract (H : Type) (enc : TypeId × Value → H) (W : World) (base : Nat) (args : Array Value) (ds gs : List (DataW H)) (before : List MemPlace) (hg : GlobOk Tryd.prog noCtx W)
    (hval : ∀ (j : Nat) t v, Tryd.f4.params[j]? = some t → args[j]? = some v → Value.okWide Tryd.prog W .any base t v)
    (hW : DataW.Whole enc Tryd.prog Tryd.f4.params.toList Rows.wholeFloorSpec.vars false W args.toList ds gs before) :
    Calls Tryd.prog 4 args W fun e W' => ∃ v, e = .returned v ∧ Rows.wholeFloorSpec.post enc Tryd.prog Tryd.f4 false true false false W args v W' :=
  law_contract (P := Tryd.prog) (f := 4) (fn := Tryd.f4) (s := Rows.wholeFloorSpec) (again := false) (ts := [22, 22]) (tb := 4) laidOut rfl rfl Tryd.underlying4 (by kernel_rfl) rfl
    (fun H ds h => by match ds, h with | [d1, d2], _ => rfl)
    (opensL_cons ov_ints (opensL_cons ov_ints opensL_nil)) (fun a h => floor_ok a.1 a.2.1 (inr64_of h.1.2) (inr64_of h.2.1.2)) enc W base args ds gs before hg hval hW

theorem lifted (os : Os) (started : os.Started) (H : Type) (enc : TypeId × Value → H) :
    ReturnsInHanded {} Tryd.checked os 4 .any (fun w args => (Rows.wholeFloorSpec.pre enc Tryd.prog Tryd.f4 Rows.wholeFloorRow.domain false w args ∧ laidMetH Tryd.prog Rows.wholeFloorRow.laid w) ∧ sizedMet enc Tryd.prog Tryd.f4 (OpenSpec.ofChange Rows.wholeFloorSpec) false w args)
      (Rows.wholeFloorSpec.post enc Tryd.prog Tryd.f4 false true false false) := by
  refine wrap (C := Tryd.checked) (X := fun w _ => laidMetH Tryd.prog Rows.wholeFloorRow.laid w) (fun _ _ _ hh h => h.of_heap hh) own started (by kernel_rfl) Tryd.func4
    (ChangeSpec.witness_shaped (enc := enc) (C := Tryd.checked) (os := os) (X := fun w _ => laidMetH Tryd.prog Rows.wholeFloorRow.laid w) false (World.laidAll Tryd.prog os Rows.wholeFloorRow.laid) #[.slice none 0 0, .slice none 0 0] 6 (World.laidAll_os _ _ _)
      (World.shaped_of_ZipB (by kernel_rfl) (by kernel_rfl)) (by kernel_rfl) (by kernel_rfl) (by kernel_rfl)
      (by rw [MakeChecks.laidMetH_plain _ _ _ (by kernel_rfl)]; exact laidMet_laidAll _ (by kernel_rfl) (by kernel_rfl))) ?_
  intro W base args ds gs before hval hW hL hsh
  exact contract H enc W base args ds gs before (globOk_of hL hsh) hval hW

theorem holds : Rows.WholeFloorSaid :=
  OpenClaim.holds_of_wide 4 Tryd.f4 rfl rfl rfl rfl rfl rfl rfl ⟨rfl, rfl, rfl, rfl, rfl⟩ rfl rfl rfl rfl rfl (by kernel_rfl) Tryd.func4 (by kernel_rfl)
    (of_decide_eq_true (by kernel_rfl)) (by unfold Func.isWrapper; first | (rw [if_pos (by decide +kernel)]; kernel_rfl) | (rw [if_neg (by decide +kernel)]; exact ⟨rfl, rfl⟩))
    (fun os started H enc _ => lifted os started H enc)
theorem proved : Rows.WholeFloorCardSaid :=
  Claim7.holds_tied_plain_at .later [] [.data, .data, .data, .data, .pinned] true (true, "7a65e6d0ef2f26c9028986d398672f6f162a6435fa6ae64cced7686ff4bedde9") false holds (fun _ h => by cases h) (by kernel_rfl) (fun _ h => by cases h) wholeFloor_row_tie rfl ⟨rfl, rfl⟩ (by kernel_rfl) rfl
    (fun f fn hf hfn => by
      obtain rfl : f = 4 := Option.some.inj ((show Tryd.prog.funcNamed "cabochon/cabochonlaw02.WholeFloor" = some 4 by kernel_rfl).symm.trans hf) |>.symm
      obtain rfl : fn = Tryd.f4 := (Option.some.inj (Tryd.func4.symm.trans hfn)).symm
      exact ⟨by kernel_rfl, fun j t ht => by
        rw [Tryd.params4] at ht
        have hm : t ∈ [22, 22] := by simpa using Array.mem_of_getElem? ht
        have hall : ([22, 22].all fun u => !Tryd.prog.wantsStandIn u) = true := by kernel_rfl
        exact (show Tryd.prog.wantsStandIn t = false by simpa using List.all_eq_true.1 hall t hm)⟩)
    (by kernel_rfl)
end lawWholeFloor
end Go.Proofs.YtglncfhcgkihbaaDoor
