/- Part of a proof: see the last text. -/
import Derived.Test.YtkgmecjaejaehaaGreatDoorG05
import Derived.Test.YtkgmecjaejaehaaGreatDoorG11
set_option linter.unusedVariables false
set_option linter.unusedSimpArgs false
namespace Go.Proofs.YtkgmecjaejaehaaGreatDoor
open Go.Eng Go.Js
set_option maxRecDepth 100000
namespace lawJsonQuotes
theorem contract (H : Type) (enc : TypeId × Value → H) (W : World) (base : Nat) (args : Array Value) (ds gs : List (DataW H)) (before : List MemPlace) (hg : GlobOk Tryz.prog noCtx W)
  (hval : ∀ (j : Nat) t v, Tryz.f5.params[j]? = some t → args[j]? = some v → Value.okWide Tryz.prog W .any base t v)
  (hW : DataW.Whole enc Tryz.prog Tryz.f5.params.toList Rows.jsonQuotesSpec.vars false W args.toList ds gs before)
  (hz : sizedMet enc Tryz.prog Tryz.f5 (OpenSpec.ofChange Rows.jsonQuotesSpec) false W args) :
  Calls Tryz.prog 5 args W fun e W' => ∃ v, e = .returned v ∧ Rows.jsonQuotesSpec.post enc Tryz.prog Tryz.f5 false true false false W args v W' :=
 law_contractZ (P := Tryz.prog) (f := 5) (fn := Tryz.f5) (s := Rows.jsonQuotesSpec) (again := false) (ts := [9]) (tb := 4) laidOut rfl rfl Tryz.underlying4 (by kernel_rfl) rfl
  (fun H ds h => by match ds, h with | [d1], _ => rfl)
  (opensZL_cons ovz_str opensZL_nil) (fun a h => quotes_spec a.1) enc W base args ds gs before hg hval hW hz
theorem lifted (os : Os) (started : os.Started) (H : Type) (enc : TypeId × Value → H) :
  ReturnsInHanded {} Tryz.checked os 5 .any (fun w args => (Rows.jsonQuotesSpec.pre enc Tryz.prog Tryz.f5 Rows.jsonQuotesRow.domain false w args ∧ laidMetH Tryz.prog Rows.jsonQuotesRow.laid w) ∧ sizedMet enc Tryz.prog Tryz.f5 (OpenSpec.ofChange Rows.jsonQuotesSpec) false w args)
   (Rows.jsonQuotesSpec.post enc Tryz.prog Tryz.f5 false true false false) := by
 refine wrapZ (C := Tryz.checked) (X := fun w _ => laidMetH Tryz.prog Rows.jsonQuotesRow.laid w) (fun _ _ _ hh h => h.of_heap hh) own started (by kernel_rfl) Tryz.func5
  (ChangeSpec.witness_shaped (enc := enc) (C := Tryz.checked) (os := os) (X := fun w _ => laidMetH Tryz.prog Rows.jsonQuotesRow.laid w) false (World.laidAll Tryz.prog os Rows.jsonQuotesRow.laid) #[.string ⟨#[]⟩] 8 (World.laidAll_os _ _ _)
   (World.shaped_of_ZipB (by kernel_rfl) (by kernel_rfl)) (by kernel_rfl) (by kernel_rfl) (by kernel_rfl)
   (by rw [MakeChecks.laidMetH_plain _ _ _ (by kernel_rfl)]; exact laidMet_laidAll _ (by kernel_rfl) (by kernel_rfl))) ?_
 intro W base args ds gs before hval hW hz hL hsh
 have hL' := hL
 rw [MakeChecks.laidMetH_plain _ _ _ (by kernel_rfl)] at hL'
 exact contract H enc W base args ds gs before (globOk_of (hL') hsh) hval hW hz
theorem named_is : Tryz.prog.funcNamed "cabochon/cabochonlaw08.JsonQuotes" = some 5 := by kernel_rfl
theorem inPlace_is : (Rows.jsonQuotesRow.inPlace == Tryz.checked.prog.inPlace 5) = true := by kernel_rfl
theorem unfollowed_is : (Rows.jsonQuotesRow.unfollowed == Tryz.checked.prog.unfollowed 5) = true := by kernel_rfl
theorem recurses_is : (Rows.jsonQuotesRow.recurses == Tryz.checked.prog.recurses 5) = true := by kernel_rfl
theorem vars_is : (Rows.jsonQuotesRow.named == Tryz.checked.prog.varsNamed 5) = true := by kernel_rfl
theorem joined : joinedFacts Tryz.checked.prog 5 Tryz.f5 Rows.jsonQuotesSpec Rows.jsonQuotesRow = true :=
 joined_of (by kernel_rfl) laidOut mapsRowed_is (by kernel_rfl) inPlace_is unfollowed_is recurses_is vars_is (by kernel_rfl) plainKeys_is (by kernel_rfl) stopsHeard_is mayEnter_is lifts_is (by kernel_rfl)
theorem holds : Rows.JsonQuotesSaid :=
 OpenClaim.holds_of_wide 5 Tryz.f5 rfl rfl rfl rfl rfl rfl rfl ⟨rfl, rfl, rfl, rfl, rfl⟩ rfl rfl rfl rfl rfl named_is Tryz.func5 joined
  (of_decide_eq_true (by kernel_rfl)) (by unfold Func.isWrapper; first | (rw [if_pos (by decide +kernel)]; kernel_rfl) | (rw [if_neg (by decide +kernel)]; exact ⟨rfl, rfl⟩))
  (fun os started H enc _ => lifted os started H enc)
theorem proved : Rows.JsonQuotesCardSaid :=
 Claim7.holds_tied_plain_at .later [] [.data, .pinned] true (true, "88a05fc15f1b15c45cc4cbec613185d29113c5f3fe561b5366dd47c1511f24d6") true holds (fun _ h => by cases h) (by kernel_rfl) (fun _ h => by cases h) jsonQuotes_row_tie rfl ⟨rfl, rfl⟩ main_is rfl
  (fun f fn hf hfn => by
   obtain rfl : f = 5 := Option.some.inj (named_is.symm.trans hf) |>.symm
   obtain rfl : fn = Tryz.f5 := (Option.some.inj (Tryz.func5.symm.trans hfn)).symm
   exact ⟨looks_is, fun j t ht => by
    rw [Tryz.params5] at ht
    have hm : t ∈ [9] := by simpa using Array.mem_of_getElem? ht
    have hall : ([9].all fun u => !Tryz.prog.wantsStandIn u) = true := by kernel_rfl
    exact (show Tryz.prog.wantsStandIn t = false by simpa using List.all_eq_true.1 hall t hm)⟩)
  (by kernel_rfl)
end lawJsonQuotes
end Go.Proofs.YtkgmecjaejaehaaGreatDoor
