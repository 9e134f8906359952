/- Part of a proof: see the last text. -/
import Derived.Test.YteekfnhhlcmcgaaGreatDoorH05
import Derived.Test.YteekfnhhlcmcgaaGreatDoorH15
set_option linter.unusedVariables false
set_option linter.unusedSimpArgs false
namespace Go.Proofs.YteekfnhhlcmcgaaGreatDoor
open Go.Eng Go.Wh Go.Ver Go.Lk
set_option maxRecDepth 100000
namespace lawLockSolves
theorem contract (H : Type) (enc : TypeId × Value → H) (W : World) (base : Nat) (args : Array Value) (ds gs : List (DataW H)) (before : List MemPlace) (hg : GlobOk Tryz.prog noCtx W)
  (hval : ∀ (j : Nat) t v, Tryz.f11.params[j]? = some t → args[j]? = some v → Value.okWide Tryz.prog W .any base t v)
  (hW : DataW.Whole enc Tryz.prog Tryz.f11.params.toList Rows.lockSolvesSpec.vars false W args.toList ds gs before)
  (hz : sizedMet enc Tryz.prog Tryz.f11 (OpenSpec.ofChange Rows.lockSolvesSpec) false W args) :
  Calls Tryz.prog 11 args W fun e W' => ∃ v, e = .returned v ∧ Rows.lockSolvesSpec.post enc Tryz.prog Tryz.f11 false true false false W args v W' :=
 law_contractZ (P := Tryz.prog) (f := 11) (fn := Tryz.f11) (s := Rows.lockSolvesSpec) (again := false) (ts := [98]) (tb := 4) laidOut rfl rfl Tryz.underlying4 (by kernel_rfl) rfl
  (fun H ds h => by match ds, h with | [d1], _ => rfl)
  (Q8 ovz_lask QH) (fun a h => kR a.1.1 a.1.2.1 a.1.2.2.1 a.1.2.2.2.1 a.1.2.2.2.2 h.1.1.1 h.1.2.1.1 h.1.2.2.1 h.1.2.2.2.1 h.1.2.2.2.2) enc W base args ds gs before hg hval hW hz
theorem lifted (os : Os) (started : os.Started) (H : Type) (enc : TypeId × Value → H) :
  ReturnsInHanded {} Tryz.checked os 11 .any (fun w args => (Rows.lockSolvesSpec.pre enc Tryz.prog Tryz.f11 Rows.lockSolvesRow.domain false w args ∧ laidMetH Tryz.prog Rows.lockSolvesRow.laid w) ∧ sizedMet enc Tryz.prog Tryz.f11 (OpenSpec.ofChange Rows.lockSolvesSpec) false w args)
   (Rows.lockSolvesSpec.post enc Tryz.prog Tryz.f11 false true false false) := by
 refine wrapZ (C := Tryz.checked) (X := fun w _ => laidMetH Tryz.prog Rows.lockSolvesRow.laid w) (fun _ _ _ hh h => h.of_heap hh) own started (by kernel_rfl) Tryz.func11
  (ChangeSpec.witness_shaped (enc := enc) (C := Tryz.checked) (os := os) (X := fun w _ => laidMetH Tryz.prog Rows.lockSolvesRow.laid w) false (World.laidAll Tryz.prog os Rows.lockSolvesRow.laid) #[.agg #[.slice none 0 0, .slice none 0 0, .slice none 0 0, .slice none 0 0, .slice none 0 0, .int .i64 0, .int .i64 0]] 8 (World.laidAll_os _ _ _)
   (World.shaped_of_ZipB (by kernel_rfl) (by kernel_rfl)) (by kernel_rfl) (by kernel_rfl) (by kernel_rfl)
   (by rw [MakeChecks.laidMetH_plain _ _ _ (by kernel_rfl)]; exact laidMet_laidAll _ (by kernel_rfl) (by kernel_rfl))) ?_
 intro W base args ds gs before hval hW hz hL hsh
 have hL' := hL
 rw [MakeChecks.laidMetH_plain _ _ _ (by kernel_rfl)] at hL'
 exact contract H enc W base args ds gs before (globOk_of (laidMet.tail (laidMet.tail hL')) hsh) hval hW hz
theorem named_is : Tryz.prog.funcNamed "cabochon/cabochonlaw13.LockSolves" = some 11 := by kernel_rfl
theorem inPlace_is : (Rows.lockSolvesRow.inPlace == Tryz.checked.prog.inPlace 11) = true := by kernel_rfl
theorem unfollowed_is : (Rows.lockSolvesRow.unfollowed == Tryz.checked.prog.unfollowed 11) = true := by kernel_rfl
theorem recurses_is : (Rows.lockSolvesRow.recurses == Tryz.checked.prog.recurses 11) = true := by kernel_rfl
theorem vars_is : (Rows.lockSolvesRow.named == Tryz.checked.prog.varsNamed 11) = true := by kernel_rfl
theorem joined : joinedFacts Tryz.checked.prog 11 Tryz.f11 Rows.lockSolvesSpec Rows.lockSolvesRow = true :=
 joined_of (by kernel_rfl) laidOut mapsRowed_is (by kernel_rfl) inPlace_is unfollowed_is recurses_is vars_is (by kernel_rfl) plainKeys_is (by kernel_rfl) stopsHeard_is mayEnter_is lifts_is (by kernel_rfl)
theorem holds : Rows.LockSolvesSaid :=
 OpenClaim.holds_of_wide 11 Tryz.f11 rfl rfl rfl rfl rfl rfl rfl ⟨rfl, rfl, rfl, rfl, rfl⟩ rfl rfl rfl rfl rfl named_is Tryz.func11 joined
  (of_decide_eq_true (by kernel_rfl)) (by unfold Func.isWrapper; first | (rw [if_pos (by decide +kernel)]; kernel_rfl) | (rw [if_neg (by decide +kernel)]; exact ⟨rfl, rfl⟩))
  (fun os started H enc _ => lifted os started H enc)
theorem proved : Rows.LockSolvesCardSaid :=
 Claim7.holds_tied_plain_at .later [] [.data, .data, .data, .data, .sentinel, .sentinel, .pinned] true (true, "76850a4d2dff49a26d415191adefbc5b9c05272ba8f1ee206084b76bcb00e786") true holds (fun _ h => by cases h) (by kernel_rfl) (fun _ h => by cases h) lockSolves_row_tie rfl ⟨rfl, rfl⟩ main_is rfl
  (fun f fn hf hfn => by
   obtain rfl : f = 11 := Option.some.inj (named_is.symm.trans hf) |>.symm
   obtain rfl : fn = Tryz.f11 := (Option.some.inj (Tryz.func11.symm.trans hfn)).symm
   exact ⟨looks_is, fun j t ht => by
    rw [Tryz.params11] at ht
    have hm : t ∈ [98] := by simpa using Array.mem_of_getElem? ht
    have hall : ([98].all fun u => !Tryz.prog.wantsStandIn u) = true := by kernel_rfl
    exact (show Tryz.prog.wantsStandIn t = false by simpa using List.all_eq_true.1 hall t hm)⟩)
  (by kernel_rfl)
end lawLockSolves
end Go.Proofs.YteekfnhhlcmcgaaGreatDoor
