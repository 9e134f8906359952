/- Part of a proof: see the last text. -/
import Derived.Test.YtchnagdaljblnaaGreatDoorG12
set_option linter.unusedVariables false
set_option linter.unusedSimpArgs false
namespace Go.Proofs.YtchnagdaljblnaaGreatDoor
open Go.Eng Go.Wh Go.Ver Go.Lk
set_option maxRecDepth 100000
namespace lawLockWrites
theorem contract (H : Type) (enc : TypeId × Value → H) (W : World) (base : Nat) (args : Array Value) (ds gs : List (DataW H)) (before : List MemPlace) (hg : GlobOk Tryz.prog noCtx W)
  (hval : ∀ (j : Nat) t v, Tryz.f5.params[j]? = some t → args[j]? = some v → Value.okWide Tryz.prog W .any base t v)
  (hW : DataW.Whole enc Tryz.prog Tryz.f5.params.toList Rows.lockWritesSpec.vars false W args.toList ds gs before)
  (hz : sizedMet enc Tryz.prog Tryz.f5 (OpenSpec.ofChange Rows.lockWritesSpec) false W args) :
  Calls Tryz.prog 5 args W fun e W' => ∃ v, e = .returned v ∧ Rows.lockWritesSpec.post enc Tryz.prog Tryz.f5 false true false false W args v W' :=
 law_contractZ (P := Tryz.prog) (f := 5) (fn := Tryz.f5) (s := Rows.lockWritesSpec) (again := false) (ts := [45, 24]) (tb := 4) laidOut rfl rfl Tryz.underlying4 (by kernel_rfl) rfl
  (fun H ds h => by match ds, h with | [d1, d2], _ => rfl)
  (opensZL_cons ovz_lock (opensZL_cons ovz_ints opensZL_nil)) (fun a h => lockWrites_spec a.1 a.2.1 h.1 h.2.1.1) enc W base args ds gs before hg hval hW hz

theorem lifted (os : Os) (started : os.Started) (H : Type) (enc : TypeId × Value → H) :
  ReturnsInHanded {} Tryz.checked os 5 .any (fun w args => (Rows.lockWritesSpec.pre enc Tryz.prog Tryz.f5 Rows.lockWritesRow.domain false w args ∧ laidMetH Tryz.prog Rows.lockWritesRow.laid w) ∧ sizedMet enc Tryz.prog Tryz.f5 (OpenSpec.ofChange Rows.lockWritesSpec) false w args)
   (Rows.lockWritesSpec.post enc Tryz.prog Tryz.f5 false true false false) := by
 refine wrapZ (C := Tryz.checked) (X := fun w _ => laidMetH Tryz.prog Rows.lockWritesRow.laid w) (fun _ _ _ hh h => h.of_heap hh) own started (by kernel_rfl) Tryz.func5
  (ChangeSpec.witness_shaped (enc := enc) (C := Tryz.checked) (os := os) (X := fun w _ => laidMetH Tryz.prog Rows.lockWritesRow.laid w) false (World.laidAll Tryz.prog os Rows.lockWritesRow.laid) #[.agg #[.slice none 0 0, .slice none 0 0, .slice none 0 0], .slice none 0 0] 8 (World.laidAll_os _ _ _)
   (World.shaped_of_ZipB (by kernel_rfl) (by kernel_rfl)) (by kernel_rfl) (by kernel_rfl) (by kernel_rfl)
   (by rw [MakeChecks.laidMetH_plain _ _ _ (by kernel_rfl)]; exact laidMet_laidAll _ (by kernel_rfl) (by kernel_rfl))) ?_
 intro W base args ds gs before hval hW hz hL hsh
 have hL' := hL
 rw [MakeChecks.laidMetH_plain _ _ _ (by kernel_rfl)] at hL'
 exact contract H enc W base args ds gs before (globOk_of (laidMet.tail (laidMet.tail hL')) hsh) hval hW hz

theorem holds : Rows.LockWritesSaid :=
 OpenClaim.holds_of_wide 5 Tryz.f5 rfl rfl rfl rfl rfl rfl rfl ⟨rfl, rfl, rfl, rfl, rfl⟩ rfl rfl rfl rfl rfl (by kernel_rfl) Tryz.func5 (by kernel_rfl)
  (of_decide_eq_true (by kernel_rfl)) (by unfold Func.isWrapper; first | (rw [if_pos (by decide +kernel)]; kernel_rfl) | (rw [if_neg (by decide +kernel)]; exact ⟨rfl, rfl⟩))
  (fun os started H enc _ => lifted os started H enc)
theorem proved : Rows.LockWritesCardSaid :=
 Claim7.holds_tied_plain_at .later [] [.data, .data, .data, .data, .sentinel, .sentinel, .pinned] true (true, "8c62f1a9f2e0305055b1c520a81996350c3d7f6e84354bd50007dac8429eaf1a") true holds (fun _ h => by cases h) (by kernel_rfl) (fun _ h => by cases h) lockWrites_row_tie rfl ⟨rfl, rfl⟩ (by kernel_rfl) rfl
  (fun f fn hf hfn => by
   obtain rfl : f = 5 := Option.some.inj ((show Tryz.prog.funcNamed "cabochon/cabochonlaw13.LockWrites" = some 5 by kernel_rfl).symm.trans hf) |>.symm
   obtain rfl : fn = Tryz.f5 := (Option.some.inj (Tryz.func5.symm.trans hfn)).symm
   exact ⟨by kernel_rfl, fun j t ht => by
    rw [Tryz.params5] at ht
    have hm : t ∈ [45, 24] := by simpa using Array.mem_of_getElem? ht
    have hall : ([45, 24].all fun u => !Tryz.prog.wantsStandIn u) = true := by kernel_rfl
    exact (show Tryz.prog.wantsStandIn t = false by simpa using List.all_eq_true.1 hall t hm)⟩)
  (by kernel_rfl)
end lawLockWrites
end Go.Proofs.YtchnagdaljblnaaGreatDoor
