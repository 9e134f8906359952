/- Part of a proof: see the last text. -/
import Derived.Test.YtelhdhofnohkcaaGreatDoorG05
import Derived.Test.YtelhdhofnohkcaaGreatDoorG12
set_option linter.unusedVariables false
set_option linter.unusedSimpArgs false
namespace Go.Proofs.YtelhdhofnohkcaaGreatDoor
open Go.Eng Go.Fm
set_option maxRecDepth 100000
namespace lawFormatFills
theorem contract (H : Type) (enc : TypeId × Value → H) (W : World) (base : Nat) (args : Array Value) (ds gs : List (DataW H)) (before : List MemPlace) (hg : GlobOk Tryz.prog noCtx W)
  (hval : ∀ (j : Nat) t v, Tryz.f9.params[j]? = some t → args[j]? = some v → Value.okWide Tryz.prog W .any base t v)
  (hW : DataW.Whole enc Tryz.prog Tryz.f9.params.toList Rows.formatFillsSpec.vars false W args.toList ds gs before)
  (hz : Rows.uptoBulkAll ds ≤ 1048576) :
  Calls Tryz.prog 9 args W fun e W' => ∃ v, e = .returned v ∧ Rows.formatFillsSpec.post enc Tryz.prog Tryz.f9 false true false false W args v W' :=
 law_contractU (P := Tryz.prog) (f := 9) (fn := Tryz.f9) (s := Rows.formatFillsSpec) (again := false) (ts := [9, 26]) (tb := 4) laidOut rfl rfl Tryz.underlying4 (by kernel_rfl) rfl
  (fun H ds h => by match ds, h with | [d1, d2], _ => rfl)
  (opensULD_cons ouv_str (opensULD_cons ouv_ags opensULD_nil)) (fun a h => formatFills_spec a.1 a.2.1 (fun x hx => (h.2.1 x hx).1) (fun x hx => by have := (h.2.1 x hx).2; omega)) enc W base args ds gs before hg hval hW hz
theorem bulk_append {H : Type} (l r : List (DataW H)) : Rows.uptoBulkAll (l ++ r) = Rows.uptoBulkAll l + Rows.uptoBulkAll r := by
 induction l with
 | nil => simp [Rows.uptoBulkAll]
 | cons x l ih => simp only [List.cons_append, Rows.uptoBulkAll, ih]; omega
theorem reads (os : Os) {H : Type} (enc : TypeId × Value → H) : DataW.whole enc Tryz.prog ((World.laidAll Tryz.prog os Rows.formatFillsUptoRow.laid).forCall (fun _ _ => 0) ⟨#[], #[.string ⟨#[]⟩, .slice none 0 0], []⟩).memory Tryz.f9.params.toList Rows.formatFillsSpec.vars false #[Value.string ⟨#[]⟩, .slice none 0 0].toList 8 = some ([.lit (.string []), .nil], [], []) := by kernel_rfl
theorem lifted (os : Os) (started : os.Started) (H : Type) (enc : TypeId × Value → H) (F : Stop.Interp) :
  ReturnsInHanded {} Tryz.checked os 9 .any ((Rows.OpenSpec.upto Rows.formatFillsSpec).preRow enc Tryz.prog Tryz.f9 Rows.formatFillsUptoRow.domain false Rows.formatFillsUptoRow.laid) (((Rows.OpenSpec.upto Rows.formatFillsSpec).at F).post enc Tryz.prog Tryz.f9 false true false false) := by
 have hok : Input.okWideB Tryz.prog ((World.laidAll Tryz.prog os Rows.formatFillsUptoRow.laid).forCall (fun _ _ => 0) ⟨#[], #[.string ⟨#[]⟩, .slice none 0 0], []⟩) 9 ⟨#[], #[.string ⟨#[]⟩, .slice none 0 0], []⟩ = true := by kernel_rfl
 refine returnsInHanded_of_row (C := Tryz.checked) (s := Rows.OpenSpec.upto Rows.formatFillsSpec) own started (by kernel_rfl) Tryz.func9
  ⟨World.laidAll Tryz.prog os Rows.formatFillsUptoRow.laid, fun _ _ => 0, ⟨#[], #[.string ⟨#[]⟩, .slice none 0 0], []⟩, World.laidAll_os _ _ _, World.shaped_of_ZipB (by kernel_rfl) (by kernel_rfl),
   (Input.okWide_of_okWideB (base := 0) hok).1, (Input.okWide_of_okWideB hok).2,
   OpenSpec.preRow_of_cond 8 (reads os enc) (by kernel_rfl) (fun k hk => by cases hk; kernel_rfl) (by kernel_rfl) (by rw [MakeChecks.laidMetH_plain _ _ _ (by kernel_rfl)]; exact laidMet_laidAll _ (by kernel_rfl) (by kernel_rfl)), by
    simp only [Assume.holds]
    exact ⟨by simp, by simp, fun h => (by cases h), by simp, by simp⟩⟩ ?_
 intro W base args ds gs before hval hW _ hk _ hL hsh _
 have hL' := hL
 rw [MakeChecks.laidMetH_plain _ _ _ (by kernel_rfl)] at hL'
 have hb := of_decide_eq_true (hk _ rfl)
 rw [bulk_append] at hb
 exact contract H enc W base args ds gs before (globOk_of (hL') hsh) hval hW (by omega)
theorem named_is : Tryz.prog.funcNamed "cabochon/cabochonlaw04.FormatFills" = some 9 := by kernel_rfl
theorem inPlace_is : (Rows.formatFillsUptoRow.inPlace == Tryz.checked.prog.inPlace 9) = true := by kernel_rfl
theorem unfollowed_is : (Rows.formatFillsUptoRow.unfollowed == Tryz.checked.prog.unfollowed 9) = true := by kernel_rfl
theorem recurses_is : (Rows.formatFillsUptoRow.recurses == Tryz.checked.prog.recurses 9) = true := by kernel_rfl
theorem vars_is : (Rows.formatFillsUptoRow.named == Tryz.checked.prog.varsNamed 9) = true := by kernel_rfl
theorem joined : joinedFacts Tryz.checked.prog 9 Tryz.f9 Rows.formatFillsSpec Rows.formatFillsUptoRow = true :=
 joined_of (by kernel_rfl) laidOut mapsRowed_is (by kernel_rfl) inPlace_is unfollowed_is recurses_is vars_is (by kernel_rfl) plainKeys_is (by kernel_rfl) stopsHeard_is mayEnter_is lifts_is (by kernel_rfl)
theorem holds : Rows.FormatFillsUptoSaid :=
 OpenClaim.holds_of_cond 9 Tryz.f9 rfl rfl rfl rfl rfl rfl rfl ⟨rfl, rfl, rfl, rfl, rfl⟩ rfl rfl rfl rfl rfl named_is Tryz.func9 joined
  (of_decide_eq_true (by kernel_rfl)) (by unfold Func.isWrapper; first | (rw [if_pos (by decide +kernel)]; kernel_rfl) | (rw [if_neg (by decide +kernel)]; exact ⟨rfl, rfl⟩))
  (fun os started H enc _ F => by rw [OpenClaim.pre_eq_preRow]; exact lifted os started H enc F)
theorem proved : Rows.FormatFillsUptoCardSaid :=
 Claim7.holds_tied_plain_at .later [] [.data, .data, .data, .data, .sentinel, .sentinel, .pinned, .pinned] true (true, "aa149a5e4f3612cb8a9c459a00c08e63291d9113686e5f3346190f5d57c03538") true holds (fun _ h => by cases h) (by kernel_rfl) (fun _ h => by cases h) formatFillsUpto_row_tie rfl ⟨rfl, rfl⟩ main_is rfl
  (fun f fn hf hfn => by
   obtain rfl : f = 9 := Option.some.inj (named_is.symm.trans hf) |>.symm
   obtain rfl : fn = Tryz.f9 := (Option.some.inj (Tryz.func9.symm.trans hfn)).symm
   exact ⟨looks_is, fun j t ht => by
    rw [Tryz.params9] at ht
    have hm : t ∈ [9, 26] := by simpa using Array.mem_of_getElem? ht
    have hall : ([9, 26].all fun u => !Tryz.prog.wantsStandIn u) = true := by kernel_rfl
    exact (show Tryz.prog.wantsStandIn t = false by simpa using List.all_eq_true.1 hall t hm)⟩)
  (by kernel_rfl)
end lawFormatFills
end Go.Proofs.YtelhdhofnohkcaaGreatDoor
