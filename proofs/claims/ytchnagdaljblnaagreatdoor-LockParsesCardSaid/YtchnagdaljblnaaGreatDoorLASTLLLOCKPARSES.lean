/- Part of a proof: see the last text. -/
import Derived.Test.YtchnagdaljblnaaGreatDoorG04
import Derived.Test.YtchnagdaljblnaaGreatDoorG10
set_option linter.unusedVariables false
set_option linter.unusedSimpArgs false
namespace Go.Proofs.YtchnagdaljblnaaGreatDoor
open Go.Eng Go.Wh Go.Ver Go.Lk
set_option maxRecDepth 100000
namespace lawLockParses
theorem contract (H : Type) (enc : TypeId × Value → H) (W : World) (base : Nat) (args : Array Value) (ds gs : List (DataW H)) (before : List MemPlace) (hg : GlobOk Tryz.prog noCtx W)
    (hval : ∀ (j : Nat) t v, Tryz.f3.params[j]? = some t → args[j]? = some v → Value.okWide Tryz.prog W .any base t v)
    (hW : DataW.Whole enc Tryz.prog Tryz.f3.params.toList Rows.lockParsesSpec.vars false W args.toList ds gs before) :
    Calls Tryz.prog 3 args W fun e W' => ∃ v, e = .returned v ∧ Rows.lockParsesSpec.post enc Tryz.prog Tryz.f3 false true false false W args v W' :=
  law_contract (P := Tryz.prog) (f := 3) (fn := Tryz.f3) (s := Rows.lockParsesSpec) (again := false) (ts := [9]) (tb := 4) laidOut rfl rfl Tryz.underlying4 (by kernel_rfl) rfl
    (fun H ds h => by match ds, h with | [d1], _ => rfl)
    (opensL_cons ov_str opensL_nil) (fun a h => lockParses_spec a.1) enc W base args ds gs before hg hval hW

theorem lifted (os : Os) (started : os.Started) (H : Type) (enc : TypeId × Value → H) :
    ReturnsInHanded {} Tryz.checked os 3 .any (fun w args => (Rows.lockParsesSpec.pre enc Tryz.prog Tryz.f3 Rows.lockParsesRow.domain false w args ∧ laidMetH Tryz.prog Rows.lockParsesRow.laid w) ∧ sizedMet enc Tryz.prog Tryz.f3 (OpenSpec.ofChange Rows.lockParsesSpec) false w args)
      (Rows.lockParsesSpec.post enc Tryz.prog Tryz.f3 false true false false) := by
  refine wrap (C := Tryz.checked) (X := fun w _ => laidMetH Tryz.prog Rows.lockParsesRow.laid w) (fun _ _ _ hh h => h.of_heap hh) own started (by kernel_rfl) Tryz.func3
    (ChangeSpec.witness_shaped (enc := enc) (C := Tryz.checked) (os := os) (X := fun w _ => laidMetH Tryz.prog Rows.lockParsesRow.laid w) false (World.laidAll Tryz.prog os Rows.lockParsesRow.laid) #[.string ⟨#[]⟩] 8 (World.laidAll_os _ _ _)
      (World.shaped_of_ZipB (by kernel_rfl) (by kernel_rfl)) (by kernel_rfl) (by kernel_rfl) (by kernel_rfl)
      (by rw [MakeChecks.laidMetH_plain _ _ _ (by kernel_rfl)]; exact laidMet_laidAll _ (by kernel_rfl) (by kernel_rfl))) ?_
  intro W base args ds gs before hval hW hL hsh
  have hL' := hL
  rw [MakeChecks.laidMetH_plain _ _ _ (by kernel_rfl)] at hL'
  exact contract H enc W base args ds gs before (globOk_of (laidMet.tail (laidMet.tail hL')) hsh) hval hW

theorem holds : Rows.LockParsesSaid :=
  OpenClaim.holds_of_wide 3 Tryz.f3 rfl rfl rfl rfl rfl rfl rfl ⟨rfl, rfl, rfl, rfl, rfl⟩ rfl rfl rfl rfl rfl (by kernel_rfl) Tryz.func3 (by kernel_rfl)
    (of_decide_eq_true (by kernel_rfl)) (by unfold Func.isWrapper; first | (rw [if_pos (by decide +kernel)]; kernel_rfl) | (rw [if_neg (by decide +kernel)]; exact ⟨rfl, rfl⟩))
    (fun os started H enc _ => lifted os started H enc)
theorem proved : Rows.LockParsesCardSaid :=
  Claim7.holds_tied_plain_at .later [] [.data, .data, .data, .data, .sentinel, .sentinel, .pinned] true (true, "8c62f1a9f2e0305055b1c520a81996350c3d7f6e84354bd50007dac8429eaf1a") true holds (fun _ h => by cases h) (by kernel_rfl) (fun _ h => by cases h) lockParses_row_tie rfl ⟨rfl, rfl⟩ (by kernel_rfl) rfl
    (fun f fn hf hfn => by
      obtain rfl : f = 3 := Option.some.inj ((show Tryz.prog.funcNamed "cabochon/cabochonlaw13.LockParses" = some 3 by kernel_rfl).symm.trans hf) |>.symm
      obtain rfl : fn = Tryz.f3 := (Option.some.inj (Tryz.func3.symm.trans hfn)).symm
      exact ⟨by kernel_rfl, fun j t ht => by
        rw [Tryz.params3] at ht
        have hm : t ∈ [9] := by simpa using Array.mem_of_getElem? ht
        have hall : ([9].all fun u => !Tryz.prog.wantsStandIn u) = true := by kernel_rfl
        exact (show Tryz.prog.wantsStandIn t = false by simpa using List.all_eq_true.1 hall t hm)⟩)
    (by kernel_rfl)
end lawLockParses
end Go.Proofs.YtchnagdaljblnaaGreatDoor
