/- Part of a proof: see the last text. -/
import Derived.Test.YtkgmecjaejaehaaGreatDoorG05
import Derived.Test.YtkgmecjaejaehaaGreatDoorG12
set_option linter.unusedVariables false
set_option linter.unusedSimpArgs false
namespace Go.Proofs.YtkgmecjaejaehaaGreatDoor
open Go.Eng Go.Js
set_option maxRecDepth 100000
namespace lawJsonCanons
theorem contract (H : Type) (enc : TypeId × Value → H) (W : World) (base : Nat) (args : Array Value) (ds gs : List (DataW H)) (before : List MemPlace) (hg : GlobOk Tryz.prog noCtx W)
  (hval : ∀ (j : Nat) t v, Tryz.f6.params[j]? = some t → args[j]? = some v → Value.okWide Tryz.prog W .any base t v)
  (hW : DataW.Whole enc Tryz.prog Tryz.f6.params.toList Rows.jsonCanonsSpec.vars false W args.toList ds gs before) :
  Calls Tryz.prog 6 args W fun e W' => ∃ v, e = .returned v ∧ Rows.jsonCanonsSpec.post enc Tryz.prog Tryz.f6 false true false false W args v W' :=
 law_contract (P := Tryz.prog) (f := 6) (fn := Tryz.f6) (s := Rows.jsonCanonsSpec) (again := false) (ts := [42]) (tb := 4) laidOut rfl rfl Tryz.underlying4 (by kernel_rfl) rfl
  (fun H ds h => by match ds, h with | [d1], _ => rfl)
  (opensL_cons ov_ints opensL_nil) (fun a h => canons_spec a.1) enc W base args ds gs before hg hval hW
theorem lifted (os : Os) (started : os.Started) (H : Type) (enc : TypeId × Value → H) :
  ReturnsInHanded {} Tryz.checked os 6 .any (fun w args => (Rows.jsonCanonsSpec.pre enc Tryz.prog Tryz.f6 Rows.jsonCanonsRow.domain false w args ∧ laidMetH Tryz.prog Rows.jsonCanonsRow.laid w) ∧ sizedMet enc Tryz.prog Tryz.f6 (OpenSpec.ofChange Rows.jsonCanonsSpec) false w args)
   (Rows.jsonCanonsSpec.post enc Tryz.prog Tryz.f6 false true false false) := by
 refine wrap (C := Tryz.checked) (X := fun w _ => laidMetH Tryz.prog Rows.jsonCanonsRow.laid w) (fun _ _ _ hh h => h.of_heap hh) own started (by kernel_rfl) Tryz.func6
  (ChangeSpec.witness_shaped (enc := enc) (C := Tryz.checked) (os := os) (X := fun w _ => laidMetH Tryz.prog Rows.jsonCanonsRow.laid w) false (World.laidAll Tryz.prog os Rows.jsonCanonsRow.laid) #[.slice none 0 0] 8 (World.laidAll_os _ _ _)
   (World.shaped_of_ZipB (by kernel_rfl) (by kernel_rfl)) (by kernel_rfl) (by kernel_rfl) (by kernel_rfl)
   (by rw [MakeChecks.laidMetH_plain _ _ _ (by kernel_rfl)]; exact laidMet_laidAll _ (by kernel_rfl) (by kernel_rfl))) ?_
 intro W base args ds gs before hval hW hL hsh
 have hL' := hL
 rw [MakeChecks.laidMetH_plain _ _ _ (by kernel_rfl)] at hL'
 exact contract H enc W base args ds gs before (globOk_of (hL') hsh) hval hW
theorem named_is : Tryz.prog.funcNamed "cabochon/cabochonlaw08.JsonCanons" = some 6 := by kernel_rfl
theorem inPlace_is : (Rows.jsonCanonsRow.inPlace == Tryz.checked.prog.inPlace 6) = true := by kernel_rfl
theorem unfollowed_is : (Rows.jsonCanonsRow.unfollowed == Tryz.checked.prog.unfollowed 6) = true := by kernel_rfl
theorem recurses_is : (Rows.jsonCanonsRow.recurses == Tryz.checked.prog.recurses 6) = true := by kernel_rfl
theorem vars_is : (Rows.jsonCanonsRow.named == Tryz.checked.prog.varsNamed 6) = true := by kernel_rfl
theorem joined : joinedFacts Tryz.checked.prog 6 Tryz.f6 Rows.jsonCanonsSpec Rows.jsonCanonsRow = true :=
 joined_of (by kernel_rfl) laidOut mapsRowed_is (by kernel_rfl) inPlace_is unfollowed_is recurses_is vars_is (by kernel_rfl) plainKeys_is (by kernel_rfl) stopsHeard_is mayEnter_is lifts_is (by kernel_rfl)
theorem holds : Rows.JsonCanonsSaid :=
 OpenClaim.holds_of_wide 6 Tryz.f6 rfl rfl rfl rfl rfl rfl rfl ⟨rfl, rfl, rfl, rfl, rfl⟩ rfl rfl rfl rfl rfl named_is Tryz.func6 joined
  (of_decide_eq_true (by kernel_rfl)) (by unfold Func.isWrapper; first | (rw [if_pos (by decide +kernel)]; kernel_rfl) | (rw [if_neg (by decide +kernel)]; exact ⟨rfl, rfl⟩))
  (fun os started H enc _ => lifted os started H enc)
theorem proved : Rows.JsonCanonsCardSaid :=
 Claim7.holds_tied_plain_at .later [] [.data, .pinned] true (true, "88a05fc15f1b15c45cc4cbec613185d29113c5f3fe561b5366dd47c1511f24d6") true holds (fun _ h => by cases h) (by kernel_rfl) (fun _ h => by cases h) jsonCanons_row_tie rfl ⟨rfl, rfl⟩ main_is rfl
  (fun f fn hf hfn => by
   obtain rfl : f = 6 := Option.some.inj (named_is.symm.trans hf) |>.symm
   obtain rfl : fn = Tryz.f6 := (Option.some.inj (Tryz.func6.symm.trans hfn)).symm
   exact ⟨looks_is, fun j t ht => by
    rw [Tryz.params6] at ht
    have hm : t ∈ [42] := by simpa using Array.mem_of_getElem? ht
    have hall : ([42].all fun u => !Tryz.prog.wantsStandIn u) = true := by kernel_rfl
    exact (show Tryz.prog.wantsStandIn t = false by simpa using List.all_eq_true.1 hall t hm)⟩)
  (by kernel_rfl)
end lawJsonCanons
end Go.Proofs.YtkgmecjaejaehaaGreatDoor
