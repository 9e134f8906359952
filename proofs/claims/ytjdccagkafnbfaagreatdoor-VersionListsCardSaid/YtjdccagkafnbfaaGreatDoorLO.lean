/- Part of a proof: see the last text. -/
import Derived.Test.YtjdccagkafnbfaaGreatDoorVC
import Derived.Test.YtjdccagkafnbfaaGreatDoorED
import Derived.Test.YtjdccagkafnbfaaGreatDoorTie
import Derived.Test.YtjdccagkafnbfaaGreatDoorCards
import Derived.Lay
import Derived.LaidMore
import Derived.SevenTiedAt
import Derived.LaidLaws
import Derived.Stop.LaidErr
import Derived.Lib.LaidTab
import Derived.Shelf.Vars
import Derived.Handed
set_option linter.unusedVariables false
set_option linter.unusedSimpArgs false
namespace Go.Proofs.YtjdccagkafnbfaaGreatDoor
open Go.Eng Go.WideShapes Go.Wh Go.Ver
set_option maxRecDepth 100000
theorem own : ownKnob Tryz.prog.godebug = none := by kernel_rfl
theorem laidOut : laidOutB Tryz.prog = true := by kernel_rfl

/-! the types of the laws' parameters -/
theorem op_int : Opens Tryz.prog 3 (fun n : Int => cI n) InR := opens_int Tryz.underlying3
theorem op_str : Opens Tryz.prog 9 (fun s : List UInt8 => [dS s]) (fun _ => True) :=
  (opens_str Tryz.underlying9).iso (fun s => s.data.toList) (fun s => by cases s; simp) (fun _ _ => trivial)
theorem op_ints : Opens Tryz.prog 33 (fun l : List Int => [dIs l]) (fun l => l.length ≤ maxLen ∧ ∀ x ∈ l, InR x) := opens_slice 1 Tryz.underlying33 (by kernel_rfl) (by decide) (fun _ => rfl) op_int
theorem ov_ints : OpensV Tryz.prog 33 (fun l : List Int => dIs l) (fun l => l.length ≤ maxLen ∧ ∀ x ∈ l, InR x) := opensV_cell (by rw [Tryz.underlying33]; rfl) op_ints
theorem ov_int : OpensV Tryz.prog 3 dI InR := opensV_cell (by rw [Tryz.underlying3]; rfl) op_int
theorem op_strs : Opens Tryz.prog 42 (fun l : List (List UInt8) => [dSs l]) (fun l => l.length ≤ maxLen ∧ ∀ x ∈ l, True) := opens_slice 1 Tryz.underlying42 (by kernel_rfl) (by decide) (fun _ => rfl) op_str
theorem op_ask : Opens Tryz.prog 37 (fun x : List UInt8 × List UInt8 × Int × List Int × List Int => [dS x.1, dS x.2.1, dI x.2.2.1, dIs x.2.2.2.1, dIs x.2.2.2.2]) (fun x => InR x.2.2.1 ∧ (x.2.2.2.1.length ≤ maxLen ∧ ∀ n ∈ x.2.2.2.1, InR n) ∧ x.2.2.2.2.length ≤ maxLen ∧ ∀ n ∈ x.2.2.2.2, InR n) := by
  have h := opens_struct (e := 5) Tryz.underlying37 rfl (by kernel_rfl) (opensS_cons (n := 1) rfl (by kernel_rfl) op_str (opensS_cons (n := 1) rfl (by kernel_rfl) op_str (opensS_cons (n := 1) rfl (by kernel_rfl) op_int (opensS_cons (n := 1) rfl (by kernel_rfl) op_ints (opensS_cons (n := 1) rfl (by kernel_rfl) op_ints opensS_nil)))))
  exact h.iso (fun x => ⟨x.1, x.2.1, x.2.2.1, x.2.2.2.1, x.2.2.2.2.1⟩) (fun _ => rfl) (fun _ q => ⟨q.2.2.1, q.2.2.2.1, q.2.2.2.2.1⟩)
theorem ov_ask : OpensV Tryz.prog 37 (fun x : List UInt8 × List UInt8 × Int × List Int × List Int => .agg [dS x.1, dS x.2.1, dI x.2.2.1, dIs x.2.2.2.1, dIs x.2.2.2.2]) (fun x => InR x.2.2.1 ∧ (x.2.2.2.1.length ≤ maxLen ∧ ∀ n ∈ x.2.2.2.1, InR n) ∧ x.2.2.2.2.length ≤ maxLen ∧ ∀ n ∈ x.2.2.2.2, InR n) := opensV_agg Tryz.underlying37 op_ask
theorem op_lists : Opens Tryz.prog 44 (fun x : List (List UInt8) × List UInt8 × List Int × List Int => [dSs x.1, dS x.2.1, dIs x.2.2.1, dIs x.2.2.2]) (fun x => x.1.length ≤ maxLen ∧ (x.2.2.1.length ≤ maxLen ∧ ∀ n ∈ x.2.2.1, InR n) ∧ x.2.2.2.length ≤ maxLen ∧ ∀ n ∈ x.2.2.2, InR n) := by
  have h := opens_struct (e := 4) Tryz.underlying44 rfl (by kernel_rfl) (opensS_cons (n := 1) rfl (by kernel_rfl) op_strs (opensS_cons (n := 1) rfl (by kernel_rfl) op_str (opensS_cons (n := 1) rfl (by kernel_rfl) op_ints (opensS_cons (n := 1) rfl (by kernel_rfl) op_ints opensS_nil))))
  exact h.iso (fun x => ⟨x.1, x.2.1, x.2.2.1, x.2.2.2.1⟩) (fun _ => rfl) (fun _ q => ⟨q.1.1, q.2.2.1, q.2.2.2.1⟩)
theorem ov_lists : OpensV Tryz.prog 44 (fun x : List (List UInt8) × List UInt8 × List Int × List Int => .agg [dSs x.1, dS x.2.1, dIs x.2.2.1, dIs x.2.2.2]) (fun x => x.1.length ≤ maxLen ∧ (x.2.2.1.length ≤ maxLen ∧ ∀ n ∈ x.2.2.1, InR n) ∧ x.2.2.2.length ≤ maxLen ∧ ∀ n ∈ x.2.2.2, InR n) := opensV_agg Tryz.underlying44 op_lists

/-! what is listed of the package-level variables -/
theorem pow_data : (Rows.laid_internal_strconv_uint64pow10 : DataW Unit) = Lib.tabData .u64 Lib.pow10Tab := by kernel_rfl
theorem globOk_of {W : World} {r : List (String × DataW Unit)} (hL : laidMet Tryz.prog (("internal/strconv.uint64pow10", (Rows.laid_internal_strconv_uint64pow10 : DataW Unit)) :: r) W) (hsh : W.ShapedOpen Tryz.prog) : GlobOk Tryz.prog noCtx W := by
  have hlt : ∀ b v, W.cell? ⟨b, 0, none⟩ = some v → b < W.heap.size := fun b v h => cell_lt h
  have hp : Lib.TabIs Tryz.prog W "internal/strconv.uint64pow10" .u64 Lib.pow10Tab := by
    rw [pow_data] at hL
    exact Lib.tabIs_of_head gn_pow (by kernel_rfl) (t := 150) (e := 133) (n := 20) (by kernel_rfl) (by kernel_rfl) (by kernel_rfl) (by kernel_rfl) hL
  obtain ⟨m, hm⟩ := cell_of_shapedOpen_int (g := 0) (t := 3) (zero := #[.int .i64 0]) hsh (by decide +kernel) (by kernel_rfl) rfl (by kernel_rfl) (by kernel_rfl) Tryz.underlying3
  refine ⟨⟨hp, ⟨m, hm⟩⟩, fun b hb => ⟨(fun ⟨s, g, u, h, _⟩ => by cases h), ?_⟩⟩
  have hb' : b = 0 ∨ b = 1 := by
    have : b ∈ [0, 1] := hb
    simpa using this
  rcases hb' with rfl | rfl
  · exact hlt _ _ hm
  · exact hlt _ _ (hp.cell gn_pow 0 (by decide))
/-- the wrap for a row that lists variables, the world's shape handed over -/
theorem wrap {H : Type} {enc : TypeId × Value → H} {a : Assume} {C : Checked} {os : Os} {f : FuncId} {fn : Func} {s : ChangeSpec} {conds : List PathCond} {apart fresh handsOn again : Bool} {X : World → Array Value → Prop}
    (hX : ∀ (w w' : World) (args : Array Value), w.heap = w'.heap → X w args → X w' args)
    (own : ownKnob C.prog.godebug = none) (started : os.Started) (noInit : C.prog.inits.idxOf? f = none) (hfn : C.prog.funcs[f]? = some fn)
    (witness : ∃ (w : World) (tape : Tape) (i : Input), w.os = os ∧ (w.forCall tape i).Shaped C.prog ∧ i.vars = [] ∧ Input.okWide C.prog (w.forCall tape i) .any w.heap.size f i ∧
      ((s.pre enc C.prog fn conds apart (w.forCall tape i).memory i.args ∧ X (w.forCall tape i).memory i.args) ∧ sizedMet enc C.prog fn (OpenSpec.ofChange s) apart (w.forCall tape i).memory i.args) ∧ a.holds C.prog (lone (Frame.enter C.prog f i.args .normal) [] (w.forCall tape i)))
    (contract : ∀ (W : World) (base : Nat) (args : Array Value) (ds gs : List (DataW H)) (before : List MemPlace),
      (∀ (j : Nat) t v, fn.params[j]? = some t → args[j]? = some v → Value.okWide C.prog W .any base t v) →
      DataW.Whole enc C.prog fn.params.toList s.vars apart W args.toList ds gs before → X W args → W.ShapedOpen C.prog →
      Calls C.prog f args W fun e W' => ∃ v, e = .returned v ∧ s.post enc C.prog fn apart fresh handsOn again W args v W') :
    ReturnsInHanded a C os f .any (fun w args => (s.pre enc C.prog fn conds apart w args ∧ X w args) ∧ sizedMet enc C.prog fn (OpenSpec.ofChange s) apart w args) (s.post enc C.prog fn apart fresh handsOn again) := by
  refine returnsInHanded_of_calls own started noInit witness ?_
  intro w tape i _ hsh _ hok hpre hholds
  obtain ⟨_, _, _, fn', hfn', _, _, _, _, hval⟩ := hok
  have e : fn' = fn := Option.some.inj (hfn'.symm.trans hfn)
  subst e
  obtain ⟨⟨⟨ds, gs, before, hw, hc⟩, hx⟩, hz⟩ := hpre
  have hw' := DataW.Whole.of_heap (w' := w.forCall tape i) (by rfl) hw
  refine (contract (w.forCall tape i) w.heap.size i.args ds gs before hval hw' (hX _ _ _ (by rfl) hx) hsh).mono fun e W' ⟨v, he, hp⟩ => ?_
  subst he
  exact ChangeSpec.post_blind hp
end Go.Proofs.YtjdccagkafnbfaaGreatDoor

namespace Go.Proofs.YtjdccagkafnbfaaGreatDoor
open Go.Eng Go.WideShapes Go.Wh Go.Ver
set_option maxRecDepth 100000
/-! the parameters with their sizes -/
theorem oz_int : OpensZ Tryz.prog 3 (fun n : Int => cI n) InR := opensZ_int Tryz.underlying3
theorem oz_str : OpensZ Tryz.prog 9 (fun s : List UInt8 => [dS s]) (fun s => s.length ≤ 140737488355328) :=
  (opensZ_str Tryz.underlying9).iso (fun s => s.data.toList) (fun s => by cases s; simp) (fun s h => by
    have h : s.data.size ≤ reachBytes := h
    rw [Array.length_toList]
    unfold reachBytes at h
    omega)
theorem oz_ints : OpensZ Tryz.prog 33 (fun l : List Int => [dIs l]) (fun l => l.length ≤ 9223372036854775807 ∧ ∀ x ∈ l, InR x) :=
  (opensZ_slice 1 Tryz.underlying33 (by kernel_rfl) (by decide) (fun _ => rfl) oz_int).iso (fun l => l) (fun _ => rfl) (fun l h => ⟨h.2.1, h.2.2⟩)
theorem oz_strs : OpensZ Tryz.prog 42 (fun l : List (List UInt8) => [dSs l]) (fun l => l.length ≤ 9223372036854775807 ∧ ∀ s ∈ l, s.length ≤ 140737488355328) :=
  (opensZ_slice 1 Tryz.underlying42 (by kernel_rfl) (by decide) (fun _ => rfl) oz_str).iso (fun l => l) (fun _ => rfl) (fun l h => ⟨h.2.1, h.2.2⟩)
abbrev AskQ (x : List UInt8 × List UInt8 × Int × List Int × List Int) : Prop := x.1.length ≤ 140737488355328 ∧ x.2.1.length ≤ 140737488355328 ∧ InR x.2.2.1 ∧ (x.2.2.2.1.length ≤ 9223372036854775807 ∧ ∀ n ∈ x.2.2.2.1, InR n) ∧ (x.2.2.2.2.length ≤ 9223372036854775807 ∧ ∀ n ∈ x.2.2.2.2, InR n)
theorem oz_ask : OpensZ Tryz.prog 37 (fun x : List UInt8 × List UInt8 × Int × List Int × List Int => [dS x.1, dS x.2.1, dI x.2.2.1, dIs x.2.2.2.1, dIs x.2.2.2.2]) AskQ := by
  have h := opensZ_struct (e := 5) Tryz.underlying37 rfl (by kernel_rfl) (opensZS_cons (n := 1) rfl (by kernel_rfl) oz_str (opensZS_cons (n := 1) rfl (by kernel_rfl) oz_str (opensZS_cons (n := 1) rfl (by kernel_rfl) oz_int (opensZS_cons (n := 1) rfl (by kernel_rfl) oz_ints (opensZS_cons (n := 1) rfl (by kernel_rfl) oz_ints opensZS_nil)))))
  exact h.iso (fun x => ⟨x.1, x.2.1, x.2.2.1, x.2.2.2.1, x.2.2.2.2.1⟩) (fun _ => rfl) (fun _ q => ⟨q.1, q.2.1, q.2.2.1, q.2.2.2.1, q.2.2.2.2.1⟩)
theorem ovz_ask : OpensZV Tryz.prog 37 (fun x : List UInt8 × List UInt8 × Int × List Int × List Int => .agg [dS x.1, dS x.2.1, dI x.2.2.1, dIs x.2.2.2.1, dIs x.2.2.2.2]) AskQ := opensZV_agg Tryz.underlying37 oz_ask
abbrev ListsQ (x : List (List UInt8) × List UInt8 × List Int × List Int) : Prop := (x.1.length ≤ 9223372036854775807 ∧ ∀ s ∈ x.1, s.length ≤ 140737488355328) ∧ x.2.1.length ≤ 140737488355328 ∧ (x.2.2.1.length ≤ 9223372036854775807 ∧ ∀ n ∈ x.2.2.1, InR n) ∧ (x.2.2.2.length ≤ 9223372036854775807 ∧ ∀ n ∈ x.2.2.2, InR n)
theorem oz_lists : OpensZ Tryz.prog 44 (fun x : List (List UInt8) × List UInt8 × List Int × List Int => [dSs x.1, dS x.2.1, dIs x.2.2.1, dIs x.2.2.2]) ListsQ := by
  have h := opensZ_struct (e := 4) Tryz.underlying44 rfl (by kernel_rfl) (opensZS_cons (n := 1) rfl (by kernel_rfl) oz_strs (opensZS_cons (n := 1) rfl (by kernel_rfl) oz_str (opensZS_cons (n := 1) rfl (by kernel_rfl) oz_ints (opensZS_cons (n := 1) rfl (by kernel_rfl) oz_ints opensZS_nil))))
  exact h.iso (fun x => ⟨x.1, x.2.1, x.2.2.1, x.2.2.2.1⟩) (fun _ => rfl) (fun _ q => ⟨q.1, q.2.1, q.2.2.1, q.2.2.2.1⟩)
theorem ovz_lists : OpensZV Tryz.prog 44 (fun x : List (List UInt8) × List UInt8 × List Int × List Int => .agg [dSs x.1, dS x.2.1, dIs x.2.2.1, dIs x.2.2.2]) ListsQ := opensZV_agg Tryz.underlying44 oz_lists
/-- the wrap for a row that lists variables, the world's shape and the arguments' sizes handed over -/
theorem wrapZ {H : Type} {enc : TypeId × Value → H} {a : Assume} {C : Checked} {os : Os} {f : FuncId} {fn : Func} {s : ChangeSpec} {conds : List PathCond} {apart fresh handsOn again : Bool} {X : World → Array Value → Prop}
    (hX : ∀ (w w' : World) (args : Array Value), w.heap = w'.heap → X w args → X w' args)
    (own : ownKnob C.prog.godebug = none) (started : os.Started) (noInit : C.prog.inits.idxOf? f = none) (hfn : C.prog.funcs[f]? = some fn)
    (witness : ∃ (w : World) (tape : Tape) (i : Input), w.os = os ∧ (w.forCall tape i).Shaped C.prog ∧ i.vars = [] ∧ Input.okWide C.prog (w.forCall tape i) .any w.heap.size f i ∧
      ((s.pre enc C.prog fn conds apart (w.forCall tape i).memory i.args ∧ X (w.forCall tape i).memory i.args) ∧ sizedMet enc C.prog fn (OpenSpec.ofChange s) apart (w.forCall tape i).memory i.args) ∧ a.holds C.prog (lone (Frame.enter C.prog f i.args .normal) [] (w.forCall tape i)))
    (contract : ∀ (W : World) (base : Nat) (args : Array Value) (ds gs : List (DataW H)) (before : List MemPlace),
      (∀ (j : Nat) t v, fn.params[j]? = some t → args[j]? = some v → Value.okWide C.prog W .any base t v) →
      DataW.Whole enc C.prog fn.params.toList s.vars apart W args.toList ds gs before → sizedMet enc C.prog fn (OpenSpec.ofChange s) apart W args → X W args → W.ShapedOpen C.prog →
      Calls C.prog f args W fun e W' => ∃ v, e = .returned v ∧ s.post enc C.prog fn apart fresh handsOn again W args v W') :
    ReturnsInHanded a C os f .any (fun w args => (s.pre enc C.prog fn conds apart w args ∧ X w args) ∧ sizedMet enc C.prog fn (OpenSpec.ofChange s) apart w args) (s.post enc C.prog fn apart fresh handsOn again) := by
  refine returnsInHanded_of_calls own started noInit witness ?_
  intro w tape i _ hsh _ hok hpre hholds
  obtain ⟨_, _, _, fn', hfn', _, _, _, _, hval⟩ := hok
  have e : fn' = fn := Option.some.inj (hfn'.symm.trans hfn)
  subst e
  obtain ⟨⟨⟨ds, gs, before, hw, hc⟩, hx⟩, hp, dz, gz, bz, hwz, hlz⟩ := hpre
  have hw' := DataW.Whole.of_heap (w' := w.forCall tape i) (by rfl) hw
  have hwz' := DataW.Whole.of_heap (w' := w.forCall tape i) (by rfl) hwz
  refine (contract (w.forCall tape i) w.heap.size i.args ds gs before hval hw' ⟨hp, dz, gz, bz, hwz', hlz⟩ (hX _ _ _ (by rfl) hx) hsh).mono fun e W' ⟨v, he, hp⟩ => ?_
  subst he
  exact ChangeSpec.post_blind hp
end Go.Proofs.YtjdccagkafnbfaaGreatDoor
