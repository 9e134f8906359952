/- Part of a proof: see the last text. -/
import Derived.Test.YtkgmecjaejaehaaGreatDoorG05
import Derived.Test.YtkgmecjaejaehaaGreatDoorG10
set_option linter.unusedVariables false
set_option linter.unusedSimpArgs false
namespace Go.Proofs.YtkgmecjaejaehaaGreatDoor
open Go.Eng Go.Js
set_option maxRecDepth 100000
namespace lawJsonDeep
theorem contract (H : Type) (enc : TypeId × Value → H) (W : World) (base : Nat) (args : Array Value) (ds gs : List (DataW H)) (before : List MemPlace) (hg : GlobOk Tryz.prog noCtx W)
  (hval : ∀ (j : Nat) t v, Tryz.f4.params[j]? = some t → args[j]? = some v → Value.okWide Tryz.prog W .any base t v)
  (hW : DataW.Whole enc Tryz.prog Tryz.f4.params.toList Rows.jsonDeepSpec.vars false W args.toList ds gs before) :
  Calls Tryz.prog 4 args W fun e W' => ∃ v, e = .returned v ∧ Rows.jsonDeepSpec.post enc Tryz.prog Tryz.f4 false true false false W args v W' :=
 law_contract (P := Tryz.prog) (f := 4) (fn := Tryz.f4) (s := Rows.jsonDeepSpec) (again := false) (ts := [3, 3]) (tb := 4) laidOut rfl rfl Tryz.underlying4 (by kernel_rfl) rfl
  (fun H ds h => by match ds, h with | [d1, d2], _ => rfl)
  (opensL_cons ov_int (opensL_cons ov_int opensL_nil)) (fun a h => deep_spec a.1 a.2.1 h.1 h.2.1) enc W base args ds gs before hg hval hW
theorem lifted (os : Os) (started : os.Started) (H : Type) (enc : TypeId × Value → H) :
  ReturnsInHanded {} Tryz.checked os 4 .any (fun w args => (Rows.jsonDeepSpec.pre enc Tryz.prog Tryz.f4 Rows.jsonDeepRow.domain false w args ∧ laidMetH Tryz.prog Rows.jsonDeepRow.laid w) ∧ sizedMet enc Tryz.prog Tryz.f4 (OpenSpec.ofChange Rows.jsonDeepSpec) false w args)
   (Rows.jsonDeepSpec.post enc Tryz.prog Tryz.f4 false true false false) := by
 refine wrap (C := Tryz.checked) (X := fun w _ => laidMetH Tryz.prog Rows.jsonDeepRow.laid w) (fun _ _ _ hh h => h.of_heap hh) own started (by kernel_rfl) Tryz.func4
  (ChangeSpec.witness_shaped (enc := enc) (C := Tryz.checked) (os := os) (X := fun w _ => laidMetH Tryz.prog Rows.jsonDeepRow.laid w) false (World.laidAll Tryz.prog os Rows.jsonDeepRow.laid) #[.int .i64 0, .int .i64 0] 8 (World.laidAll_os _ _ _)
   (World.shaped_of_ZipB (by kernel_rfl) (by kernel_rfl)) (by kernel_rfl) (by kernel_rfl) (by kernel_rfl)
   (by rw [MakeChecks.laidMetH_plain _ _ _ (by kernel_rfl)]; exact laidMet_laidAll _ (by kernel_rfl) (by kernel_rfl))) ?_
 intro W base args ds gs before hval hW hL hsh
 have hL' := hL
 rw [MakeChecks.laidMetH_plain _ _ _ (by kernel_rfl)] at hL'
 exact contract H enc W base args ds gs before (globOk_of (hL') hsh) hval hW
theorem named_is : Tryz.prog.funcNamed "cabochon/cabochonlaw08.JsonDeep" = some 4 := by kernel_rfl
theorem inPlace_is : (Rows.jsonDeepRow.inPlace == Tryz.checked.prog.inPlace 4) = true := by kernel_rfl
theorem unfollowed_is : (Rows.jsonDeepRow.unfollowed == Tryz.checked.prog.unfollowed 4) = true := by kernel_rfl
theorem recurses_is : (Rows.jsonDeepRow.recurses == Tryz.checked.prog.recurses 4) = true := by kernel_rfl
theorem vars_is : (Rows.jsonDeepRow.named == Tryz.checked.prog.varsNamed 4) = true := by kernel_rfl
theorem joined : joinedFacts Tryz.checked.prog 4 Tryz.f4 Rows.jsonDeepSpec Rows.jsonDeepRow = true :=
 joined_of (by kernel_rfl) laidOut mapsRowed_is (by kernel_rfl) inPlace_is unfollowed_is recurses_is vars_is (by kernel_rfl) plainKeys_is (by kernel_rfl) stopsHeard_is mayEnter_is lifts_is (by kernel_rfl)
theorem holds : Rows.JsonDeepSaid :=
 OpenClaim.holds_of_wide 4 Tryz.f4 rfl rfl rfl rfl rfl rfl rfl ⟨rfl, rfl, rfl, rfl, rfl⟩ rfl rfl rfl rfl rfl named_is Tryz.func4 joined
  (of_decide_eq_true (by kernel_rfl)) (by unfold Func.isWrapper; first | (rw [if_pos (by decide +kernel)]; kernel_rfl) | (rw [if_neg (by decide +kernel)]; exact ⟨rfl, rfl⟩))
  (fun os started H enc _ => lifted os started H enc)
theorem proved : Rows.JsonDeepCardSaid :=
 Claim7.holds_tied_plain_at .later [] [.data, .pinned] true (true, "88a05fc15f1b15c45cc4cbec613185d29113c5f3fe561b5366dd47c1511f24d6") true holds (fun _ h => by cases h) (by kernel_rfl) (fun _ h => by cases h) jsonDeep_row_tie rfl ⟨rfl, rfl⟩ main_is rfl
  (fun f fn hf hfn => by
   obtain rfl : f = 4 := Option.some.inj (named_is.symm.trans hf) |>.symm
   obtain rfl : fn = Tryz.f4 := (Option.some.inj (Tryz.func4.symm.trans hfn)).symm
   exact ⟨looks_is, fun j t ht => by
    rw [Tryz.params4] at ht
    have hm : t ∈ [3, 3] := by simpa using Array.mem_of_getElem? ht
    have hall : ([3, 3].all fun u => !Tryz.prog.wantsStandIn u) = true := by kernel_rfl
    exact (show Tryz.prog.wantsStandIn t = false by simpa using List.all_eq_true.1 hall t hm)⟩)
  (by kernel_rfl)
end lawJsonDeep
end Go.Proofs.YtkgmecjaejaehaaGreatDoor
