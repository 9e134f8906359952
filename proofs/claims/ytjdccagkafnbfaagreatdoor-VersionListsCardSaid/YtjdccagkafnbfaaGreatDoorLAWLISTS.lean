/- Part of a proof: see the last text. -/
import Derived.Test.YtjdccagkafnbfaaGreatDoorLO
import Derived.Test.YtjdccagkafnbfaaGreatDoorVJ
set_option linter.unusedVariables false
set_option linter.unusedSimpArgs false
namespace Go.Proofs.YtjdccagkafnbfaaGreatDoor
open Go.Eng Go.Wh Go.Ver
set_option maxRecDepth 100000
namespace lawVersionLists
theorem contract (H : Type) (enc : TypeId × Value → H) (W : World) (base : Nat) (args : Array Value) (ds gs : List (DataW H)) (before : List MemPlace) (hg : GlobOk Tryz.prog noCtx W)
    (hval : ∀ (j : Nat) t v, Tryz.f7.params[j]? = some t → args[j]? = some v → Value.okWide Tryz.prog W .any base t v)
    (hW : DataW.Whole enc Tryz.prog Tryz.f7.params.toList Rows.versionListsSpec.vars false W args.toList ds gs before)
    (hz : sizedMet enc Tryz.prog Tryz.f7 (OpenSpec.ofChange Rows.versionListsSpec) false W args) :
    Calls Tryz.prog 7 args W fun e W' => ∃ v, e = .returned v ∧ Rows.versionListsSpec.post enc Tryz.prog Tryz.f7 false true false false W args v W' :=
  law_contractZ (P := Tryz.prog) (f := 7) (fn := Tryz.f7) (s := Rows.versionListsSpec) (again := false) (ts := [44]) (tb := 4) laidOut rfl rfl Tryz.underlying4 (by kernel_rfl) rfl
    (fun H ds h => by match ds, h with | [d1], _ => rfl)
    (opensZL_cons ovz_lists opensZL_nil) (fun a h => lists_spec a.1.1 a.1.2.1 a.1.2.2.1 a.1.2.2.2 h.1.1 h.1.2.1 h.1.2.2.1 h.1.2.2.2) enc W base args ds gs before hg hval hW hz

theorem lifted (os : Os) (started : os.Started) (H : Type) (enc : TypeId × Value → H) :
    ReturnsInHanded {} Tryz.checked os 7 .any (fun w args => (Rows.versionListsSpec.pre enc Tryz.prog Tryz.f7 Rows.versionListsRow.domain false w args ∧ laidMetH Tryz.prog Rows.versionListsRow.laid w) ∧ sizedMet enc Tryz.prog Tryz.f7 (OpenSpec.ofChange Rows.versionListsSpec) false w args)
      (Rows.versionListsSpec.post enc Tryz.prog Tryz.f7 false true false false) := by
  refine wrapZ (C := Tryz.checked) (X := fun w _ => laidMetH Tryz.prog Rows.versionListsRow.laid w) (fun _ _ _ hh h => h.of_heap hh) own started (by kernel_rfl) Tryz.func7
    (ChangeSpec.witness_shaped (enc := enc) (C := Tryz.checked) (os := os) (X := fun w _ => laidMetH Tryz.prog Rows.versionListsRow.laid w) false (World.laidAll Tryz.prog os Rows.versionListsRow.laid) #[.agg #[.slice none 0 0, .string ⟨#[]⟩, .slice none 0 0, .slice none 0 0]] 8 (World.laidAll_os _ _ _)
      (World.shaped_of_ZipB (by kernel_rfl) (by kernel_rfl)) (by kernel_rfl) (by kernel_rfl) (by kernel_rfl)
      (by rw [MakeChecks.laidMetH_plain _ _ _ (by kernel_rfl)]; exact laidMet_laidAll _ (by kernel_rfl) (by kernel_rfl))) ?_
  intro W base args ds gs before hval hW hz hL hsh
  have hL' := hL
  rw [MakeChecks.laidMetH_plain _ _ _ (by kernel_rfl)] at hL'
  exact contract H enc W base args ds gs before (globOk_of (laidMet.tail (laidMet.tail hL')) hsh) hval hW hz

theorem holds : Rows.VersionListsSaid :=
  OpenClaim.holds_of_wide 7 Tryz.f7 rfl rfl rfl rfl rfl rfl rfl ⟨rfl, rfl, rfl, rfl, rfl⟩ rfl rfl rfl rfl rfl (by kernel_rfl) Tryz.func7 (by kernel_rfl)
    (of_decide_eq_true (by kernel_rfl)) (by unfold Func.isWrapper; first | (rw [if_pos (by decide +kernel)]; kernel_rfl) | (rw [if_neg (by decide +kernel)]; exact ⟨rfl, rfl⟩))
    (fun os started H enc _ => lifted os started H enc)
theorem proved : Rows.VersionListsCardSaid :=
  Claim7.holds_tied_plain_at .later [] [.data, .data, .data, .data, .sentinel, .sentinel, .pinned] true (true, "3fd22dfbc03149e2bd1ec4cdd20954806b84515160ed68d8f15b504815fd55e1") true holds (fun _ h => by cases h) (by kernel_rfl) (fun _ h => by cases h) versionLists_row_tie rfl ⟨rfl, rfl⟩ (by kernel_rfl) rfl
    (fun f fn hf hfn => by
      obtain rfl : f = 7 := Option.some.inj ((show Tryz.prog.funcNamed "cabochon/cabochonlaw11.VersionLists" = some 7 by kernel_rfl).symm.trans hf) |>.symm
      obtain rfl : fn = Tryz.f7 := (Option.some.inj (Tryz.func7.symm.trans hfn)).symm
      exact ⟨by kernel_rfl, fun j t ht => by
        rw [Tryz.params7] at ht
        have hm : t ∈ [44] := by simpa using Array.mem_of_getElem? ht
        have hall : ([44].all fun u => !Tryz.prog.wantsStandIn u) = true := by kernel_rfl
        exact (show Tryz.prog.wantsStandIn t = false by simpa using List.all_eq_true.1 hall t hm)⟩)
    (by kernel_rfl)
end lawVersionLists
end Go.Proofs.YtjdccagkafnbfaaGreatDoor
