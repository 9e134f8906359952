/- Part of a proof: see the last text. -/
import Derived.Test.YtglncfhcgkihbaaDoorWF
set_option linter.unusedVariables false
set_option linter.unusedSimpArgs false
namespace Go.Proofs.YtglncfhcgkihbaaDoor
open Go.Eng Go.Wh
set_option maxRecDepth 100000
namespace lawWholeLaws
theorem contract (H : Type) (enc : TypeId × Value → H) (W : World) (base : Nat) (args : Array Value) (ds gs : List (DataW H)) (before : List MemPlace) (hg : GlobOk Tryd.prog noCtx W)
    (hval : ∀ (j : Nat) t v, Tryd.f3.params[j]? = some t → args[j]? = some v → Value.okWide Tryd.prog W .any base t v)
    (hW : DataW.Whole enc Tryd.prog Tryd.f3.params.toList Rows.wholeLawsSpec.vars false W args.toList ds gs before) :
    Calls Tryd.prog 3 args W fun e W' => ∃ v, e = .returned v ∧ Rows.wholeLawsSpec.post enc Tryd.prog Tryd.f3 false true false false W args v W' :=
  law_contract (P := Tryd.prog) (f := 3) (fn := Tryd.f3) (s := Rows.wholeLawsSpec) (again := false) (ts := [24]) (tb := 4) laidOut rfl rfl Tryd.underlying4 (by kernel_rfl) rfl
    (fun H ds h => by match ds, h with | [d1], _ => rfl)
    (opensL_cons ov_tri opensL_nil) (fun a h => laws_ok a.1.1 a.1.2.1 a.1.2.2 (inr64_of h.1.1) (inr64_of h.1.2.1) (inr64_of h.1.2.2)) enc W base args ds gs before hg hval hW

theorem lifted (os : Os) (started : os.Started) (H : Type) (enc : TypeId × Value → H) :
    ReturnsInHanded {} Tryd.checked os 3 .any (fun w args => (Rows.wholeLawsSpec.pre enc Tryd.prog Tryd.f3 Rows.wholeLawsRow.domain false w args ∧ laidMetH Tryd.prog Rows.wholeLawsRow.laid w) ∧ sizedMet enc Tryd.prog Tryd.f3 (OpenSpec.ofChange Rows.wholeLawsSpec) false w args)
      (Rows.wholeLawsSpec.post enc Tryd.prog Tryd.f3 false true false false) := by
  refine wrap (C := Tryd.checked) (X := fun w _ => laidMetH Tryd.prog Rows.wholeLawsRow.laid w) (fun _ _ _ hh h => h.of_heap hh) own started (by kernel_rfl) Tryd.func3
    (ChangeSpec.witness_shaped (enc := enc) (C := Tryd.checked) (os := os) (X := fun w _ => laidMetH Tryd.prog Rows.wholeLawsRow.laid w) false (World.laidAll Tryd.prog os Rows.wholeLawsRow.laid) #[.agg #[.slice none 0 0, .slice none 0 0, .slice none 0 0]] 6 (World.laidAll_os _ _ _)
      (World.shaped_of_ZipB (by kernel_rfl) (by kernel_rfl)) (by kernel_rfl) (by kernel_rfl) (by kernel_rfl)
      (by rw [MakeChecks.laidMetH_plain _ _ _ (by kernel_rfl)]; exact laidMet_laidAll _ (by kernel_rfl) (by kernel_rfl))) ?_
  intro W base args ds gs before hval hW hL hsh
  exact contract H enc W base args ds gs before (globOk_of hL hsh) hval hW

theorem holds : Rows.WholeLawsSaid :=
  OpenClaim.holds_of_wide 3 Tryd.f3 rfl rfl rfl rfl rfl rfl rfl ⟨rfl, rfl, rfl, rfl, rfl⟩ rfl rfl rfl rfl rfl (by kernel_rfl) Tryd.func3 (by kernel_rfl)
    (of_decide_eq_true (by kernel_rfl)) (by unfold Func.isWrapper; first | (rw [if_pos (by decide +kernel)]; kernel_rfl) | (rw [if_neg (by decide +kernel)]; exact ⟨rfl, rfl⟩))
    (fun os started H enc _ => lifted os started H enc)
theorem proved : Rows.WholeLawsCardSaid :=
  Claim7.holds_tied_plain_at .later [] [.data, .data, .data, .data, .pinned] true (true, "7a65e6d0ef2f26c9028986d398672f6f162a6435fa6ae64cced7686ff4bedde9") false holds (fun _ h => by cases h) (by kernel_rfl) (fun _ h => by cases h) wholeLaws_row_tie rfl ⟨rfl, rfl⟩ (by kernel_rfl) rfl
    (fun f fn hf hfn => by
      obtain rfl : f = 3 := Option.some.inj ((show Tryd.prog.funcNamed "cabochon/cabochonlaw02.WholeLaws" = some 3 by kernel_rfl).symm.trans hf) |>.symm
      obtain rfl : fn = Tryd.f3 := (Option.some.inj (Tryd.func3.symm.trans hfn)).symm
      exact ⟨by kernel_rfl, fun j t ht => by
        rw [Tryd.params3] at ht
        have hm : t ∈ [24] := by simpa using Array.mem_of_getElem? ht
        have hall : ([24].all fun u => !Tryd.prog.wantsStandIn u) = true := by kernel_rfl
        exact (show Tryd.prog.wantsStandIn t = false by simpa using List.all_eq_true.1 hall t hm)⟩)
    (by kernel_rfl)
end lawWholeLaws
end Go.Proofs.YtglncfhcgkihbaaDoor
