/- Part of a proof: see the last text. -/
import Derived.Test.YtkgmecjaejaehaaGreatDoorG02
import Derived.Test.YtkgmecjaejaehaaGreatDoorProg
import Derived.Lib.SpaceU
import Derived.Lib.RuneBytes
import Derived.OrdersHeld
set_option linter.unusedVariables false
set_option linter.unusedSimpArgs false
set_option linter.unusedSectionVars false
namespace Go.Eng
variable {P : Program} [HasGlob P]
def argS : Nat → List D → List (Nat × D)
 | _, [] => []
 | i, d :: ds => (i, d) :: argS (i + 1) ds
/-! results -/
def res1 (P : Program) (S : St) (r : ResultVar) (k : D → Prop) : Prop :=
 match r with
 | .tmp t => match look S.slots t with
  | some d => k d
  | none => False
 | .cell p ty => match look S.slots p with
  | some d => ptrLike d = true ∧ loadK P S ty d k
  | none => False
def resL (P : Program) (S : St) : List ResultVar → (List D → Prop) → Prop
 | [], k => k []
 | r :: rs, k => res1 P S r fun d => resL P S rs fun ds => k (d :: ds)
def frzD (S : St) (d : D) (k : St → D → Prop) : Prop :=
 match d with
 | .agg cs => (∀ c ∈ cs, oneD c = true) ∧ frzK S cs fun S' cs' => k S' (.agg cs')
 | d => frz1 S d k
def frzDs : St → List D → (St → List D → Prop) → Prop
 | S, [], k => k S []
 | S, d :: ds, k => frzD S d fun S' d' => frzDs S' ds fun S'' ds' => k S'' (d' :: ds')
def nilC (ty : Option Nat) (d : D) : D :=
 match d with
 | .v (.slice none 0 0) => match ty with
  | some k => .sl k []
  | none => d
 | d => d
def nilL : List (Option Nat) → List D → List D
 | ty :: tys, c :: cs => nilC ty c :: nilL tys cs
 | [], c :: cs => c :: nilL [] cs
 | _, [] => []
def nilD (tys : List (Option Nat)) (d : D) : D :=
 match d with
 | .agg cs => .agg (nilL tys cs)
 | d => nilC (tys.head?.getD none) d
def nilDs (P : Program) : List TypeId → List D → List D
 | t :: ts, d :: ds => nilD (cellTys P t) d :: nilDs P ts ds
 | [], ds => ds
 | _, [] => []
def pack : List D → D
 | [d] => d
 | ds => .tup ds
def retQ (P : Program) (rs : List ResultVar) (tys : List TypeId) (R : D → Prop) : Exit → St → Prop
 | .normal, S | .ret, S => resL P S rs fun ds => frzDs S ds fun _ ds' => R (pack (nilDs P tys ds'))
 | _, _ => False
def rvSem (tmps : Array Value) (r : ResultVar) : Sem Value :=
 match r with
 | .tmp t => pure (tmps.getD t undef)
 | .cell p ty => do loadVar ty (← asAddr (tmps.getD p undef))
section
variable {w0 : World} {B : Nat → Nat → Prop} {C0 : Ctx} {n : Nat} {S : St} {C : Ctx} {a : Act} {w : World}
theorem res1_ok (I : Inv w0 B C0 n S C a w) {r : ResultVar} {k : D → Prop} (h : res1 P S r k) :
  ∃ d u, k d ∧ Rep C w d u ∧ (rvSem a.tmps r).run P w = .ok u w := by
 cases r with
 | tmp t =>
  simp only [res1] at h
  cases hl : look S.slots t with
  | none => rw [hl] at h; exact h.elim
  | some d =>
   rw [hl] at h
   obtain ⟨u, hu, hr⟩ := I.slots t d hl
   exact ⟨d, u, h, hr, by simp [rvSem, hu]⟩
 | cell p ty =>
  simp only [res1] at h
  cases hl : look S.slots p with
  | none => rw [hl] at h; exact h.elim
  | some d =>
   rw [hl] at h
   obtain ⟨u, hu, hr⟩ := I.slots p d hl
   obtain ⟨d', hk, hrun⟩ := loadK_ok I (u := u) h.2
   obtain ⟨u', hr', hrun'⟩ := hrun hr
   refine ⟨d', u', hk, hr', ?_⟩
   have := hrun' w (Same.refl w)
   have hp := h.1
   have hn : ∃ ad, u = .pointer (some ad) := by
    cases hr <;> first | exact ⟨_, rfl⟩ | (simp [ptrLike] at hp; done) | skip
    cases u with
    | pointer q => cases q with
     | none => simp [ptrLike] at hp
     | some ad => exact ⟨ad, rfl⟩
    | _ => simp [ptrLike] at hp
   obtain ⟨ad, rfl⟩ := hn
   simp only [Instr.loadAt, Instr.sureAddr, Sem.run_bind, Sem.run_pure, Result.andThen_ok] at this
   have hg : a.tmps.getD p undef = .pointer (some ad) := by simp [hu]
   simp only [rvSem, hg, asAddr, Sem.run_bind, Sem.run_pure, Result.andThen_ok]
   exact this
theorem resL_ok (I : Inv w0 B C0 n S C a w) : ∀ {rs : List ResultVar} {k : List D → Prop}, resL P S rs k →
  ∃ ds us, k ds ∧ RepL C w ds us ∧ us.length = rs.length ∧ (rs.mapM (rvSem a.tmps)).run P w = .ok us w
 | [], k, h => ⟨[], [], h, ⟨rfl, fun j d u hd _ => by simp at hd⟩, rfl, by simp⟩
 | r :: rs, k, h => by
  obtain ⟨d, u, hd, hr, hrun⟩ := res1_ok I h
  obtain ⟨ds, us, hk, hrs, hl, hrun2⟩ := resL_ok I hd
  refine ⟨d :: ds, u :: us, hk, ⟨by simp [hrs.1], fun j d' u' hd' hu' => ?_⟩, by simp [hl], ?_⟩
  ·cases j with
   | zero => simp at hd' hu'; subst hd' hu'; exact hr
   | succ j => exact hrs.2 j d' u' (by simpa using hd') (by simpa using hu')
  ·rw [List.mapM_cons]
   simp only [Sem.run_bind, hrun, hrun2, Result.andThen_ok, Sem.run_pure]
theorem frzD_ok (I : Inv w0 B C0 n S C a w) {d : D} {k : St → D → Prop} (h : frzD S d k) : ∃ S' d' C', k S' d' ∧ Inv w0 B C0 n S' C' a w ∧ Ext C w C' w ∧ ∀ u, Rep C w d u → Rep C' w d' u := by
 have one : frz1 S d k → ∃ S' d' C', k S' d' ∧ Inv w0 B C0 n S' C' a w ∧ Ext C w C' w ∧ ∀ u, Rep C w d u → Rep C' w d' u := fun h => by
  obtain ⟨S', d', C', h1, h2, ⟨h3, _⟩, h4⟩ := frz1_ok I h
  exact ⟨S', d', C', h1, h2, h3, h4⟩
 cases d with
 | agg cs =>
  obtain ⟨S', cs', C', h1, I', ⟨e, _⟩, hl, ho, hr⟩ := frzK_ok I h.1 h.2
  refine ⟨S', .agg cs', C', h1, I', e, fun u hu => ?_⟩
  cases hu with
  | agg _ us hn hh => exact .agg _ us (by rw [hl]; exact hn) fun j c u hj hu' => hr us.toList (fun j c u hc hu => hh j c u hc (by simpa using hu)) j c u hj (by simpa using hu')
 | v x => exact one h
 | tup x => exact one h
 | sl x y => exact one h
 | slc x y => exact one h
 | own x y => exact one h
 | ptr x y z => exact one h
 | elt x y z p q => exact one h
 | rd x => exact one h
 | when x y => exact one h
 | fn x y => exact one h
 | ifc x y => exact one h
 | mfn x y => exact one h
 | sub x y z => exact one h
theorem frzDs_ok : ∀ {ds : List D} {S : St} {C : Ctx} (_ : Inv w0 B C0 n S C a w) {k : St → List D → Prop}, frzDs S ds k →
  ∃ S' ds' C', k S' ds' ∧ Inv w0 B C0 n S' C' a w ∧ Ext C w C' w ∧ ∀ us, RepL C w ds us → RepL C' w ds' us
 | [], S, C, I, k, h => ⟨S, [], C, h, I, Ext.refl _ _, fun us h => h⟩
 | d :: ds, S, C, I, k, h => by
  obtain ⟨S1, d1, C1, h1, I1, e1, r1⟩ := frzD_ok I h
  obtain ⟨S2, ds2, C2, h2, I2, e2, r2⟩ := frzDs_ok I1 h1
  refine ⟨S2, d1 :: ds2, C2, h2, I2, e1.trans e2, fun us hus => ?_⟩
  cases us with
  | nil => have := hus.1; simp at this
  | cons u us =>
   have hr2 := r2 us ⟨by have := hus.1; simpa using this, fun j d u hd hu => (hus.2 (j + 1) d u (by simpa using hd) (by simpa using hu)).mono e1⟩
   refine ⟨by simp [hr2.1], fun j d' u' hd' hu' => ?_⟩
   cases j with
   | zero => simp at hd' hu'; subst hd' hu'; exact (r1 _ (hus.2 0 d _ rfl rfl)).mono e2
   | succ j => exact hr2.2 j d' u' (by simpa using hd') (by simpa using hu')
theorem nilC_ok {ty : Option Nat} {d : D} {u : Value} (h : Rep C w d u) : Rep C w (nilC ty d) u := by
 unfold nilC
 split
 ·obtain rfl := h.v_inv
  split
  ·exact .slE _ _ _ (by simp)
  ·exact .v _
 ·exact h
theorem nilL_len : ∀ {tys : List (Option Nat)} {cs : List D}, (nilL tys cs).length = cs.length
 | [], [] => rfl
 | _ :: _, [] => rfl
 | [], c :: cs => by simp [nilL, nilL_len (tys := []) (cs := cs)]
 | ty :: tys, c :: cs => by simp [nilL, nilL_len (tys := tys) (cs := cs)]
theorem nilL_get : ∀ {tys : List (Option Nat)} {cs : List D} {j : Nat} {c : D}, (nilL tys cs)[j]? = some c → ∃ ty c0, cs[j]? = some c0 ∧ c = nilC ty c0
 | [], [], j, c, h => by simp [nilL] at h
 | _ :: _, [], j, c, h => by simp [nilL] at h
 | [], c0 :: cs, j, c, h => by
  cases j with
  | zero => simp [nilL] at h; exact ⟨none, c0, rfl, by rw [← h]; unfold nilC; split <;> rfl⟩
  | succ j => simp only [nilL, List.getElem?_cons_succ] at h ⊢; exact nilL_get h
 | ty :: tys, c0 :: cs, j, c, h => by
  cases j with
  | zero => simp [nilL] at h; exact ⟨ty, c0, rfl, h.symm⟩
  | succ j => simp only [nilL, List.getElem?_cons_succ] at h ⊢; exact nilL_get h
theorem nilD_ok {tys : List (Option Nat)} {d : D} {u : Value} (h : Rep C w d u) : Rep C w (nilD tys d) u := by
 cases d with
 | agg cs =>
  cases h with
  | agg _ us hn hh =>
   refine .agg _ us (by rw [nilL_len]; exact hn) fun j c x hj hx => ?_
   obtain ⟨ty, c0, hc0, rfl⟩ := nilL_get hj
   exact nilC_ok (hh j c0 x hc0 hx)
 | v x => exact nilC_ok (ty := tys.head?.getD none) h
 | tup x => exact nilC_ok (ty := tys.head?.getD none) h
 | sl x y => exact nilC_ok (ty := tys.head?.getD none) h
 | slc x y => exact nilC_ok (ty := tys.head?.getD none) h
 | own x y => exact nilC_ok (ty := tys.head?.getD none) h
 | ptr x y z => exact nilC_ok (ty := tys.head?.getD none) h
 | elt x y z p q => exact nilC_ok (ty := tys.head?.getD none) h
 | rd x => exact nilC_ok (ty := tys.head?.getD none) h
 | when x y => exact nilC_ok (ty := tys.head?.getD none) h
 | fn x y => exact nilC_ok (ty := tys.head?.getD none) h
 | ifc x y => exact nilC_ok (ty := tys.head?.getD none) h
 | mfn x y => exact nilC_ok (ty := tys.head?.getD none) h
 | sub x y z => exact nilC_ok (ty := tys.head?.getD none) h
theorem nilDs_ok : ∀ {tys : List TypeId} {ds : List D} {us : List Value}, RepL C w ds us → RepL C w (nilDs P tys ds) us
 | [], [], us, h => h
 | _ :: _, [], us, h => h
 | [], d :: ds, us, h => h
 | t :: tys, d :: ds, us, h => by
  cases us with
  | nil => have := h.1; simp at this
  | cons u us =>
   have ih := nilDs_ok (tys := tys) (ds := ds) (us := us) ⟨by have := h.1; simpa using this, fun j d u hd hu => h.2 (j + 1) d u (by simpa using hd) (by simpa using hu)⟩
   refine ⟨by simp [nilDs, ih.1], fun j d' u' hd hu => ?_⟩
   cases j with
   | zero => simp [nilDs] at hd hu; subst hd hu; exact nilD_ok (h.2 0 d _ rfl rfl)
   | succ j => exact ih.2 j d' u' (by simpa [nilDs] using hd) (by simpa using hu)
theorem pack_ok {ds : List D} {us : List Value} (h : RepL C w ds us) : ∃ u, Rep C w (pack ds) u ∧ (if h : us.toArray.size = 1 then us.toArray[0] else .tuple us.toArray) = u := by
 refine ⟨_, ?_, rfl⟩
 have tup : us.toArray.size ≠ 1 → Rep C w (pack ds) (if h : us.toArray.size = 1 then us.toArray[0] else .tuple us.toArray) := fun hne => by
  rw [dif_neg hne]
  have hp : pack ds = .tup ds := by
   match ds, h.1 with
   | [], _ => rfl
   | [d], h1 => exact absurd h1 (by simpa using hne)
   | _ :: _ :: _, _ => rfl
  rw [hp]
  exact .tup _ _ (by simp [h.1]) fun j c u hj hu => h.2 j c u hj (by simpa using hu)
 by_cases h1 : us.length = 1
 ·obtain ⟨u, rfl⟩ := List.length_eq_one_iff.1 h1
  obtain ⟨d, rfl⟩ := List.length_eq_one_iff.1 (h.1.symm.trans h1)
  exact h.2 0 d u rfl rfl
 ·exact tup (by simpa using h1)
theorem ret_ok {fn : Func} {R : D → Prop} {us0 : World} (_ : us0 = w0) (I : Inv w0 (fun _ _ => False) C0 n S C a w) (h : resL P S fn.results.toList fun ds => frzDs S ds fun _ ds' => R (pack (nilDs P fn.resultTypes.toList ds'))) :
  ∃ u, (results fn a.tmps).run P w = .ok u w ∧ ∃ r C', R r ∧ Rep C' w r u ∧ CtxOk C' w ∧ Ext C0 w0 C' w ∧ (∀ s g x, C0.val s g = some x → C'.live s g = C0.live s g) ∧ Frm w0 (fun _ => False) w := by
 obtain ⟨ds, us, hk, hrs, hlen, hrun⟩ := resL_ok I h
 obtain ⟨S', ds', C', hR, I', e, hr'⟩ := frzDs_ok I hk
 obtain ⟨u, hu, hpk⟩ := pack_ok (nilDs_ok (P := P) (tys := fn.resultTypes.toList) (hr' us hrs))
 have nb : ∀ b, ¬ bB C0 (fun _ _ => False) b := fun b ⟨_, _, _, h, _⟩ => h
 refine ⟨u, ?_, _, C', hR, hu, ⟨I'.apart, I'.bound, I'.fresh⟩, ⟨I'.old, I'.owned, fun b hb _ => I'.frame.block b hb (nb b), I'.frame.size⟩, fun s g x hx => ?_, ⟨I'.frame.os, I'.frame.tape, I'.frame.output, I'.frame.size, fun b hb _ => I'.frame.block b hb (nb b)⟩⟩
 ·have hfun : (fun r : ResultVar => match r with | .tmp t => (pure (a.tmps.getD t undef) : Sem Value) | .cell p ty => do loadVar ty (← asAddr (a.tmps.getD p undef))) = rvSem a.tmps := by
   funext r; cases r <;> rfl
  have hres : results fn a.tmps = (do let vs ← fn.results.mapM (rvSem a.tmps); pure (if h : vs.size = 1 then vs[0] else .tuple vs)) := by
   rw [← hfun]; rfl
  rw [hres, Array.mapM_eq_mapM_toList]
  simp only [Sem.run_bind, Sem.run_map, hrun, Result.andThen_ok, Sem.run_pure]
  rw [← hpk]
 ·cases h0 : C0.live s g with
  | true => exact I'.kept s g x hx h0 id
  | false =>
   cases h1 : C'.live s g with
   | false => rfl
   | true => rw [I'.dead0 s g x hx h1] at h0; cases h0
end
theorem argS_look : ∀ {ds : List D} {i k : Nat} {d : D}, look (argS i ds) k = some d → i ≤ k ∧ ds[k - i]? = some d
 | [], i, k, d, h => by simp [argS, look] at h
 | d0 :: ds, i, k, d, h => by
  simp only [argS, look] at h
  split at h
  ·rename_i e; subst e; simp at h; subst h; simp
  ·rename_i e
   obtain ⟨h1, h2⟩ := argS_look h
   refine ⟨by omega, ?_⟩
   rw [show k - i = (k - (i + 1)) + 1 from by omega]
   simpa using h2
theorem pcall_of {f : FuncId} {fn : Func} {c : Code} {args : List D} {R : D → Prop} (hf : P.funcs[f]? = some fn) (hb : fn.body = some c) (hn : (fn.name == "runtime.NumGoroutine") = false) {n : Nat} {rs : List ResultVar} {tys : List TypeId} (hnt : fn.ntmps = n) (hrs : fn.results.toList = rs) (hty : fn.resultTypes.toList = tys) (hlen : args.length ≤ n)
  (h : @AWp P _ (noPan P) n c ⟨argS 0 args, []⟩ (retQ P rs tys R)) : PCall P f args R := by
 subst hnt hrs hty
 refine ⟨⟨fn, hf, hn, by rw [hb]; rfl⟩, fun C w us hc hg hr => ?_⟩
 refine calls_of_wp hf hb ?_
 have hsz : us.length = args.length := hr.1
 let a : Act := { tmps := us.toArray ++ Array.replicate (fn.ntmps - us.toArray.size) undef, defers := [] }
 have I : Inv w (fun _ _ => False) C fn.ntmps ⟨argS 0 args, []⟩ C a w := by
  refine ⟨by simp [a]; omega, rfl, fun k d hk => ?_, fun s g b hb => by simp [look] at hb, fun s g b x u hx => by simp [look] at hx, hc.apart, hc.bound, hc.fresh, Frm.refl _ _, fun _ _ _ h => h, fun _ _ h => h, fun _ _ _ _ h _ => h,
   fun s g x y hx => by simp [look] at hx, fun _ _ _ _ h => h, fun s g u b h1 h2 h3 => hc.bound s g u b h1 h2 h3⟩
  obtain ⟨_, h2⟩ := argS_look hk
  rw [Nat.sub_zero] at h2
  have hlt : k < us.length := by rw [hsz]; exact (List.getElem?_eq_some_iff.1 h2).1
  have hu : us[k]? = some us[k] := List.getElem?_eq_getElem hlt
  refine ⟨us[k], ?_, hr.2 k d _ h2 hu⟩
  simp only [a]
  rw [Array.getElem?_append_left (by simpa using hlt)]
  simp [hu]
 refine wp_mono (h ⟨hg, fun _ _ h => h.elim⟩ I) ?_
 rintro e a' w' (⟨S', C', hq, I'⟩ | ⟨_, _, _, hp, _⟩)
 case inr => exact hp.elim
 have fin : (resL P S' fn.results.toList fun ds => frzDs S' ds fun _ ds' => R (pack (nilDs P fn.resultTypes.toList ds'))) →
   a'.defers = [] ∧ ∃ v, (results fn a'.tmps).run P w' = .ok v w' ∧ ∃ u r C'', Ending.returned v = .returned u ∧ R r ∧ Rep C'' w' r u ∧ CtxOk C'' w' ∧ Ext C w C'' w' ∧ (∀ s g x, C.val s g = some x → C''.live s g = C.live s g) ∧ Frm w (fun _ => False) w' := fun hq => by
  obtain ⟨u, hrun, r, C'', h1, h2⟩ := ret_ok rfl I' hq
  exact ⟨I'.defers, u, hrun, u, r, C'', rfl, h1, h2⟩
 cases e with
 | normal => exact fin hq
 | ret => exact fin hq
 | exit id => exact hq.elim
 | goto l => exact hq.elim
 | panic ch => exact hq.elim
 | outgrown => exact hq.elim
end Go.Eng
namespace Go.Proofs.YtkgmecjaejaehaaGreatDoor
open Go.Eng
@[go_sem] theorem ct4 : cellTys Tryz.prog 4 = [none] := by kernel_rfl
@[go_sem] theorem un9 : Tryz.prog.underlying 9 = some (.string) := by kernel_rfl
@[go_sem] theorem un3 : Tryz.prog.underlying 3 = some (.int .i64) := by kernel_rfl
@[go_sem] theorem ct9 : cellTys Tryz.prog 9 = [none] := by kernel_rfl
@[go_sem] theorem zr26 : zeroOf Tryz.prog 26 = some [.int .i64 0, .string ⟨#[]⟩, .slice none 0 0, .slice none 0 0] := by kernel_rfl
@[go_sem] theorem ty26 : tyOf Tryz.prog 26 = some (true, 4) := by kernel_rfl
@[go_sem] theorem zr32 : zeroOf Tryz.prog 32 = some [.int .i64 0, .string ⟨#[]⟩, .slice none 0 0, .slice none 0 0] := by kernel_rfl
@[go_sem] theorem ty32 : tyOf Tryz.prog 32 = some (true, 4) := by kernel_rfl
@[go_sem] theorem ct26 : cellTys Tryz.prog 26 = [none, none, some 1, some 4] := by kernel_rfl
@[go_sem] theorem ct32 : cellTys Tryz.prog 32 = [none, none, some 1, some 4] := by kernel_rfl
@[go_sem] theorem un27 : Tryz.prog.underlying 27 = some (.int .i64) := by kernel_rfl
@[go_sem] theorem un38 : Tryz.prog.underlying 38 = some (.int .u64) := by kernel_rfl
@[go_sem] theorem bs3_38 : bytesOf Tryz.prog 3 38 = none := by kernel_rfl
@[go_sem] theorem bs38_3 : bytesOf Tryz.prog 38 3 = none := by kernel_rfl
@[go_sem] theorem fl26_0 : fldOf Tryz.prog 26 0 = some (0, false, 1) := by kernel_rfl
@[go_sem] theorem ty3 : tyOf Tryz.prog 3 = some (false, 1) := by kernel_rfl
@[go_sem] theorem fl26_1 : fldOf Tryz.prog 26 1 = some (1, false, 1) := by kernel_rfl
@[go_sem] theorem ty9 : tyOf Tryz.prog 9 = some (false, 1) := by kernel_rfl
@[go_sem] theorem ct42 : cellTys Tryz.prog 42 = [some 1] := by kernel_rfl
@[go_sem] theorem bl26 : bldOf Tryz.prog 26 = some ([(0, 1), (1, 1), (2, 1), (3, 1)], [.int .i64 0, .string ⟨#[]⟩, .slice none 0 0, .slice none 0 0]) := by kernel_rfl
@[go_sem] theorem bl32 : bldOf Tryz.prog 32 = some ([(0, 1), (1, 1), (2, 1), (3, 1)], [.int .i64 0, .string ⟨#[]⟩, .slice none 0 0, .slice none 0 0]) := by kernel_rfl
@[go_sem] theorem fl51_2 : fldOf Tryz.prog 51 2 = some (8, false, 1) := by kernel_rfl
@[go_sem] theorem ty42 : tyOf Tryz.prog 42 = some (false, 1) := by kernel_rfl
@[go_sem] theorem fl51_3 : fldOf Tryz.prog 51 3 = some (9, false, 1) := by kernel_rfl
@[go_sem] theorem un23 : Tryz.prog.underlying 23 = some (.slice 9) := by kernel_rfl
@[go_sem] theorem sl23 : slOf Tryz.prog 23 = some (9, 1, 16) := by kernel_rfl
@[go_sem] theorem zr9 : zeroOf Tryz.prog 9 = some [.string ⟨#[]⟩] := by kernel_rfl
@[go_sem] theorem fl51_5 : fldOf Tryz.prog 51 5 = some (11, false, 1) := by kernel_rfl
@[go_sem] theorem fl59_0 : fldOf Tryz.prog 59 0 = some (0, false, 1) := by kernel_rfl
@[go_sem] theorem fl59_4 : fldOf Tryz.prog 59 4 = some (4, false, 1) := by kernel_rfl
@[go_sem] theorem ty4 : tyOf Tryz.prog 4 = some (false, 1) := by kernel_rfl
@[go_sem] theorem ct3 : cellTys Tryz.prog 3 = [none] := by kernel_rfl
@[go_sem] theorem fl59_1 : fldOf Tryz.prog 59 1 = some (1, false, 1) := by kernel_rfl
@[go_sem] theorem fl59_3 : fldOf Tryz.prog 59 3 = some (3, false, 1) := by kernel_rfl
@[go_sem] theorem ty5 : tyOf Tryz.prog 5 = some (false, 1) := by kernel_rfl
@[go_sem] theorem un5 : Tryz.prog.underlying 5 = some (.int .u8) := by kernel_rfl
@[go_sem] theorem bs5_38 : bytesOf Tryz.prog 5 38 = none := by kernel_rfl
@[go_sem] theorem fl59_2 : fldOf Tryz.prog 59 2 = some (2, false, 1) := by kernel_rfl
@[go_sem] theorem fl64_0 : fldOf Tryz.prog 64 0 = some (0, true, 4) := by kernel_rfl
@[go_sem] theorem fl64_1 : fldOf Tryz.prog 64 1 = some (4, true, 4) := by kernel_rfl
@[go_sem] theorem fl64_2 : fldOf Tryz.prog 64 2 = some (8, false, 1) := by kernel_rfl
@[go_sem] theorem fl64_3 : fldOf Tryz.prog 64 3 = some (9, false, 1) := by kernel_rfl
@[go_sem] theorem fl51_0 : fldOf Tryz.prog 51 0 = some (0, true, 4) := by kernel_rfl
@[go_sem] theorem fl51_1 : fldOf Tryz.prog 51 1 = some (4, true, 4) := by kernel_rfl
@[go_sem] theorem fl51_4 : fldOf Tryz.prog 51 4 = some (10, false, 1) := by kernel_rfl
@[go_sem] theorem ct27 : cellTys Tryz.prog 27 = [none] := by kernel_rfl
@[go_sem] theorem ty27 : tyOf Tryz.prog 27 = some (false, 1) := by kernel_rfl
@[go_sem] theorem zr3 : zeroOf Tryz.prog 3 = some [.int .i64 0] := by kernel_rfl
@[go_sem] theorem zr27 : zeroOf Tryz.prog 27 = some [.int .i64 0] := by kernel_rfl
@[go_sem] theorem bl78 : bldOf Tryz.prog 78 = some ([(0, 1), (1, 1), (2, 1)], [.string ⟨#[]⟩, .int .i64 0, .int .i64 0]) := by kernel_rfl
@[go_sem] theorem ct76 : cellTys Tryz.prog 76 = [none] := by kernel_rfl
@[go_sem] theorem fl78_1 : fldOf Tryz.prog 78 1 = some (1, false, 1) := by kernel_rfl
@[go_sem] theorem bl83 : bldOf Tryz.prog 83 = some ([(0, 1), (1, 1), (2, 1), (3, 1), (4, 1)], [.string ⟨#[]⟩, .int .i64 0, .int .i64 0, .int .i64 0, .int .i64 0]) := by kernel_rfl
@[go_sem] theorem ct81 : cellTys Tryz.prog 81 = [none] := by kernel_rfl
@[go_sem] theorem fl83_3 : fldOf Tryz.prog 83 3 = some (3, false, 1) := by kernel_rfl
@[go_sem] theorem fl83_1 : fldOf Tryz.prog 83 1 = some (1, false, 1) := by kernel_rfl
@[go_sem] theorem fl83_4 : fldOf Tryz.prog 83 4 = some (4, false, 1) := by kernel_rfl
@[go_sem] theorem fl32_0 : fldOf Tryz.prog 32 0 = some (0, false, 1) := by kernel_rfl
@[go_sem] theorem fl32_1 : fldOf Tryz.prog 32 1 = some (1, false, 1) := by kernel_rfl
@[go_sem] theorem fl32_2 : fldOf Tryz.prog 32 2 = some (2, false, 1) := by kernel_rfl
@[go_sem] theorem ty23 : tyOf Tryz.prog 23 = some (false, 1) := by kernel_rfl
@[go_sem] theorem fl32_3 : fldOf Tryz.prog 32 3 = some (3, false, 1) := by kernel_rfl
@[go_sem] theorem ty30 : tyOf Tryz.prog 30 = some (false, 1) := by kernel_rfl
@[go_sem] theorem un30 : Tryz.prog.underlying 30 = some (.slice 32) := by kernel_rfl
@[go_sem] theorem sl30 : slOf Tryz.prog 30 = some (32, 4, 72) := by kernel_rfl
@[go_sem] theorem fl26_2 : fldOf Tryz.prog 26 2 = some (2, false, 1) := by kernel_rfl
@[go_sem] theorem fl26_3 : fldOf Tryz.prog 26 3 = some (3, false, 1) := by kernel_rfl
@[go_sem] theorem ty24 : tyOf Tryz.prog 24 = some (false, 1) := by kernel_rfl
@[go_sem] theorem un24 : Tryz.prog.underlying 24 = some (.slice 26) := by kernel_rfl
@[go_sem] theorem sl24 : slOf Tryz.prog 24 = some (26, 4, 72) := by kernel_rfl
@[go_sem] theorem bl88 : bldOf Tryz.prog 88 = some ([(0, 1), (1, 1)], [.slice none 0 0, .int .i64 0]) := by kernel_rfl
@[go_sem] theorem ct86 : cellTys Tryz.prog 86 = [none] := by kernel_rfl
@[go_sem] theorem ct23 : cellTys Tryz.prog 23 = [some 1] := by kernel_rfl
@[go_sem] theorem zr23 : zeroOf Tryz.prog 23 = some [.slice none 0 0] := by kernel_rfl
@[go_sem] theorem zr92 : zeroOf Tryz.prog 92 = some [.nilFunc] := by kernel_rfl
@[go_sem] theorem ty92 : tyOf Tryz.prog 92 = some (false, 1) := by kernel_rfl
@[go_sem] theorem ct24 : cellTys Tryz.prog 24 = [some 4] := by kernel_rfl
@[go_sem] theorem ct98 : cellTys Tryz.prog 98 = [none] := by kernel_rfl
@[go_sem] theorem ct100 : cellTys Tryz.prog 100 = [none] := by kernel_rfl
@[go_sem] theorem un4 : Tryz.prog.underlying 4 = some (.bool) := by kernel_rfl
@[go_sem] theorem zr74 : zeroOf Tryz.prog 74 = some [.int .i64 0, .int .i64 0] := by kernel_rfl
@[go_sem] theorem ty74 : tyOf Tryz.prog 74 = some (true, 2) := by kernel_rfl
@[go_sem] theorem fl74_0 : fldOf Tryz.prog 74 0 = some (0, false, 1) := by kernel_rfl
@[go_sem] theorem fl74_1 : fldOf Tryz.prog 74 1 = some (1, false, 1) := by kernel_rfl
@[go_sem] theorem fl78_2 : fldOf Tryz.prog 78 2 = some (2, false, 1) := by kernel_rfl
@[go_sem] theorem bl74 : bldOf Tryz.prog 74 = some ([(0, 1), (1, 1)], [.int .i64 0, .int .i64 0]) := by kernel_rfl
@[go_sem] theorem fl78_0 : fldOf Tryz.prog 78 0 = some (0, false, 1) := by kernel_rfl
@[go_sem] theorem ct5 : cellTys Tryz.prog 5 = [none] := by kernel_rfl
@[go_sem] theorem fl83_0 : fldOf Tryz.prog 83 0 = some (0, false, 1) := by kernel_rfl
@[go_sem] theorem fl83_2 : fldOf Tryz.prog 83 2 = some (2, false, 1) := by kernel_rfl
@[go_sem] theorem un12 : Tryz.prog.underlying 12 = some (.int .u64) := by kernel_rfl
@[go_sem] theorem sl125 : slOf Tryz.prog 125 = none := by kernel_rfl
@[go_sem] theorem ar125 : arrOf Tryz.prog 125 = some (256, 1) := by kernel_rfl
@[go_sem] theorem bs5_3 : bytesOf Tryz.prog 5 3 = none := by kernel_rfl
@[go_sem] theorem sl128 : slOf Tryz.prog 128 = none := by kernel_rfl
@[go_sem] theorem ar128 : arrOf Tryz.prog 128 = some (16, 2) := by kernel_rfl
@[go_sem] theorem ty127 : tyOf Tryz.prog 127 = some (true, 2) := by kernel_rfl
@[go_sem] theorem zr127 : zeroOf Tryz.prog 127 = some [.int .u8 0, .int .u8 0] := by kernel_rfl
@[go_sem] theorem fl127_0 : fldOf Tryz.prog 127 0 = some (0, false, 1) := by kernel_rfl
@[go_sem] theorem fl127_1 : fldOf Tryz.prog 127 1 = some (1, false, 1) := by kernel_rfl
@[go_sem] theorem zr132 : zeroOf Tryz.prog 132 = some [.pointer none, .slice none 0 0] := by kernel_rfl
@[go_sem] theorem ct132 : cellTys Tryz.prog 132 = [none, some 1] := by kernel_rfl
@[go_sem] theorem un130 : Tryz.prog.underlying 130 = some (.slice 5) := by kernel_rfl
@[go_sem] theorem bs9_130 : bytesOf Tryz.prog 9 130 = some 5 := by kernel_rfl
@[go_sem] theorem sl130 : slOf Tryz.prog 130 = some (5, 1, 1) := by kernel_rfl
@[go_sem] theorem zr5 : zeroOf Tryz.prog 5 = some [.int .u8 0] := by kernel_rfl
@[go_sem] theorem bs5_9 : bytesOf Tryz.prog 5 9 = none := by kernel_rfl
@[go_sem] theorem un138 : Tryz.prog.underlying 138 = some (.slice 141) := by kernel_rfl
@[go_sem] theorem sl138 : slOf Tryz.prog 138 = some (141, 2, 24) := by kernel_rfl
@[go_sem] theorem zr141 : zeroOf Tryz.prog 141 = some [.string ⟨#[]⟩, .int .i64 0] := by kernel_rfl
@[go_sem] theorem fl141_1 : fldOf Tryz.prog 141 1 = some (1, false, 1) := by kernel_rfl
@[go_sem] theorem ct146 : cellTys Tryz.prog 146 = [none] := by kernel_rfl
@[go_sem] theorem ct94 : cellTys Tryz.prog 94 = [none] := by kernel_rfl
@[go_sem] theorem un21 : Tryz.prog.underlying 21 = some (.int .i32) := by kernel_rfl
@[go_sem] theorem bs3_21 : bytesOf Tryz.prog 3 21 = none := by kernel_rfl
@[go_sem] theorem bs21_9 : bytesOf Tryz.prog 21 9 = none := by kernel_rfl
@[go_sem] theorem bl165 : bldOf Tryz.prog 165 = some ([(0, 3), (3, 1), (4, 1)], [.int .u32 0, .int .i32 0, .int .u32 0, .nilIface, .slice none 0 0]) := by kernel_rfl
@[go_sem] theorem fl165_0 : fldOf Tryz.prog 165 0 = some (0, true, 3) := by kernel_rfl
@[go_sem] theorem ct161 : cellTys Tryz.prog 161 = [none, none, none] := by kernel_rfl
@[go_sem] theorem ct1 : cellTys Tryz.prog 1 = [none] := by kernel_rfl
@[go_sem] theorem fl165_1 : fldOf Tryz.prog 165 1 = some (3, false, 1) := by kernel_rfl
@[go_sem] theorem ty163 : tyOf Tryz.prog 163 = some (false, 1) := by kernel_rfl
@[go_sem] theorem ty100 : tyOf Tryz.prog 100 = some (false, 1) := by kernel_rfl
@[go_sem] theorem ct65 : cellTys Tryz.prog 65 = [none] := by kernel_rfl
@[go_sem] theorem ct66 : cellTys Tryz.prog 66 = [none] := by kernel_rfl
@[go_sem] theorem zr4 : zeroOf Tryz.prog 4 = some [.bool false] := by kernel_rfl
@[go_sem] theorem ct129 : cellTys Tryz.prog 129 = [none] := by kernel_rfl
@[go_sem] theorem bs130_9 : bytesOf Tryz.prog 130 9 = none := by kernel_rfl
@[go_sem] theorem ct193 : cellTys Tryz.prog 193 = [none] := by kernel_rfl
@[go_sem] theorem ct12 : cellTys Tryz.prog 12 = [none] := by kernel_rfl
@[go_sem] theorem bs5_12 : bytesOf Tryz.prog 5 12 = none := by kernel_rfl
@[go_sem] theorem un196 : Tryz.prog.underlying 196 = some (.int .u64) := by kernel_rfl
@[go_sem] theorem bs5_196 : bytesOf Tryz.prog 5 196 = none := by kernel_rfl
@[go_sem] theorem ct134 : cellTys Tryz.prog 134 = [none] := by kernel_rfl
@[go_sem] theorem fl132_1 : fldOf Tryz.prog 132 1 = some (1, false, 1) := by kernel_rfl
@[go_sem] theorem ty130 : tyOf Tryz.prog 130 = some (false, 1) := by kernel_rfl
@[go_sem] theorem ct138 : cellTys Tryz.prog 138 = [some 2] := by kernel_rfl
@[go_sem] theorem bl141 : bldOf Tryz.prog 141 = some ([(0, 1), (1, 1)], [.string ⟨#[]⟩, .int .i64 0]) := by kernel_rfl
@[go_sem] theorem fl88_1 : fldOf Tryz.prog 88 1 = some (1, false, 1) := by kernel_rfl
@[go_sem] theorem fl88_0 : fldOf Tryz.prog 88 0 = some (0, false, 1) := by kernel_rfl
@[go_sem] theorem un42 : Tryz.prog.underlying 42 = some (.slice 3) := by kernel_rfl
@[go_sem] theorem sl42 : slOf Tryz.prog 42 = some (3, 1, 8) := by kernel_rfl
@[go_sem] theorem ct37 : cellTys Tryz.prog 37 = [none] := by kernel_rfl
@[go_sem] theorem fl161_1 : fldOf Tryz.prog 161 1 = some (0, true, 1) := by kernel_rfl
@[go_sem] theorem ct155 : cellTys Tryz.prog 155 = [none] := by kernel_rfl
@[go_sem] theorem ct200 : cellTys Tryz.prog 200 = [none] := by kernel_rfl
@[go_sem] theorem fl165_2 : fldOf Tryz.prog 165 2 = some (4, false, 1) := by kernel_rfl
@[go_sem] theorem zr206 : zeroOf Tryz.prog 206 = some [.bool false, .bool false, .bool false, .bool false, .bool false, .bool false, .bool false, .bool false, .bool false, .bool false, .bool false, .bool false, .bool false, .bool false, .bool false, .bool false, .bool false, .bool false, .bool false, .bool false, .bool false, .bool false, .bool false, .bool false, .bool false, .bool false, .bool false, .bool false, .bool false, .bool false, .bool false, .bool false, .bool false, .bool false, .bool false, .bool false, .bool false, .bool false, .bool false, .bool false, .bool false, .bool false, .bool false, .bool false, .bool false, .bool false, .bool false, .bool false, .bool false, .bool false, .bool false, .bool false, .bool false, .bool false, .bool false, .bool false, .bool false, .bool false, .bool false, .bool false, .bool false, .bool false, .bool false, .bool false, .bool false, .bool false, .bool false, .bool false, .bool false, .bool false, .bool false, .bool false, .bool false, .bool false, .bool false, .bool false, .bool false, .bool false, .bool false, .bool false, .bool false, .bool false, .bool false, .bool false, .bool false, .bool false, .bool false, .bool false, .bool false, .bool false, .bool false, .bool false, .bool false, .bool false, .bool false, .bool false, .bool false, .bool false, .bool false, .bool false, .bool false, .bool false, .bool false, .bool false, .bool false, .bool false, .bool false, .bool false, .bool false, .bool false, .bool false, .bool false, .bool false, .bool false, .bool false, .bool false, .bool false, .bool false, .bool false, .bool false, .bool false, .bool false, .bool false, .bool false, .bool false, .bool false, .bool false, .bool false, .bool false, .bool false, .bool false, .bool false, .bool false, .bool false, .bool false, .bool false, .bool false, .bool false, .bool false, .bool false, .bool false, .bool false, .bool false, .bool false, .bool false, .bool false, .bool false, .bool false, .bool false, .bool false, .bool false, .bool false, .bool false, .bool false, .bool false, .bool false, .bool false, .bool false, .bool false, .bool false, .bool false, .bool false, .bool false, .bool false, .bool false, .bool false, .bool false, .bool false, .bool false, .bool false, .bool false, .bool false, .bool false, .bool false, .bool false, .bool false, .bool false, .bool false, .bool false, .bool false, .bool false, .bool false, .bool false, .bool false, .bool false, .bool false, .bool false, .bool false, .bool false, .bool false, .bool false, .bool false, .bool false, .bool false, .bool false, .bool false, .bool false, .bool false, .bool false, .bool false, .bool false, .bool false, .bool false, .bool false, .bool false, .bool false, .bool false, .bool false, .bool false, .bool false, .bool false, .bool false, .bool false, .bool false, .bool false, .bool false, .bool false, .bool false, .bool false, .bool false, .bool false, .bool false, .bool false, .bool false, .bool false, .bool false, .bool false, .bool false, .bool false, .bool false, .bool false, .bool false, .bool false, .bool false, .bool false, .bool false, .bool false, .bool false, .bool false, .bool false, .bool false, .bool false, .bool false, .bool false, .bool false, .bool false, .bool false, .bool false, .bool false, .bool false, .bool false, .bool false, .bool false, .bool false, .bool false, .bool false] := by kernel_rfl
@[go_sem] theorem ty206 : tyOf Tryz.prog 206 = some (true, 256) := by kernel_rfl
@[go_sem] theorem ct210 : cellTys Tryz.prog 210 = [none] := by kernel_rfl
@[go_sem] theorem ct38 : cellTys Tryz.prog 38 = [none] := by kernel_rfl
@[go_sem] theorem mp217 : mapOf Tryz.prog 217 = some (0, 9) := by kernel_rfl
@[go_sem] theorem zv9 : zeroV Tryz.prog 9 = some (.string ⟨#[]⟩) := by kernel_rfl
@[go_sem] theorem ct21 : cellTys Tryz.prog 21 = [none] := by kernel_rfl
@[go_sem] theorem bs5_21 : bytesOf Tryz.prog 5 21 = none := by kernel_rfl
@[go_sem] theorem fl132_0 : fldOf Tryz.prog 132 0 = some (0, false, 1) := by kernel_rfl
@[go_sem] theorem ty129 : tyOf Tryz.prog 129 = some (false, 1) := by kernel_rfl
@[go_sem] theorem bs129_223 : bytesOf Tryz.prog 129 223 = none := by kernel_rfl
@[go_sem] theorem ct223 : cellTys Tryz.prog 223 = [none] := by kernel_rfl
@[go_sem] theorem bs223_129 : bytesOf Tryz.prog 223 129 = none := by kernel_rfl
@[go_sem] theorem fl155_1 : fldOf Tryz.prog 155 1 = some (0, false, 1) := by kernel_rfl
@[go_sem] theorem ct231 : cellTys Tryz.prog 231 = [none] := by kernel_rfl
@[go_sem] theorem un153 : Tryz.prog.underlying 153 = some (.int .u32) := by kernel_rfl
@[go_sem] theorem fl161_2 : fldOf Tryz.prog 161 2 = some (1, true, 2) := by kernel_rfl
@[go_sem] theorem ct159 : cellTys Tryz.prog 159 = [none, none] := by kernel_rfl
@[go_sem] theorem ct163 : cellTys Tryz.prog 163 = [none] := by kernel_rfl
@[go_sem] theorem bl237 : bldOf Tryz.prog 237 = some ([(0, 1), (1, 1), (2, 1), (3, 1), (4, 1), (5, 1), (6, 1), (7, 1), (8, 1), (9, 1), (10, 1), (11, 1), (12, 1), (13, 1), (14, 1), (15, 1), (16, 1), (17, 1), (18, 1), (19, 1), (20, 1), (21, 1), (22, 1), (23, 1), (24, 1), (25, 1), (26, 1), (27, 1), (28, 1), (29, 1), (30, 1), (31, 1), (32, 1), (33, 1), (34, 1), (35, 1), (36, 1), (37, 1), (38, 1), (39, 1), (40, 1), (41, 1), (42, 1), (43, 1), (44, 1), (45, 1), (46, 1), (47, 1), (48, 1), (49, 1), (50, 1), (51, 1), (52, 1), (53, 1), (54, 1), (55, 1), (56, 1), (57, 1), (58, 1), (59, 1), (60, 1), (61, 1), (62, 1), (63, 1), (64, 1), (65, 1), (66, 1), (67, 1), (68, 1), (69, 1), (70, 1), (71, 1), (72, 1), (73, 1), (74, 1), (75, 1), (76, 1), (77, 1), (78, 1), (79, 1), (80, 1), (81, 1), (82, 1), (83, 1), (84, 1), (85, 1), (86, 1), (87, 1), (88, 1), (89, 1), (90, 1), (91, 1), (92, 1), (93, 1), (94, 1), (95, 1), (96, 1), (97, 1), (98, 1), (99, 1), (100, 1), (101, 1), (102, 1), (103, 1), (104, 1), (105, 1), (106, 1), (107, 1), (108, 1), (109, 1), (110, 1), (111, 1), (112, 1), (113, 1), (114, 1), (115, 1), (116, 1), (117, 1), (118, 1), (119, 1), (120, 1), (121, 1), (122, 1), (123, 1), (124, 1), (125, 1), (126, 1), (127, 1), (128, 1), (129, 1), (130, 1), (131, 1), (132, 1), (133, 1), (134, 1), (135, 1), (136, 1), (137, 1), (138, 1), (139, 1), (140, 1), (141, 1), (142, 1), (143, 1), (144, 1), (145, 1), (146, 1), (147, 1), (148, 1), (149, 1), (150, 1), (151, 1), (152, 1), (153, 1), (154, 1), (155, 1), (156, 1), (157, 1), (158, 1), (159, 1), (160, 1), (161, 1), (162, 1), (163, 1), (164, 1), (165, 1), (166, 1), (167, 1), (168, 1), (169, 1), (170, 1), (171, 1), (172, 1), (173, 1), (174, 1), (175, 1), (176, 1), (177, 1), (178, 1), (179, 1), (180, 1), (181, 1), (182, 1), (183, 1), (184, 1), (185, 1), (186, 1), (187, 1), (188, 1), (189, 1), (190, 1), (191, 1), (192, 1), (193, 1), (194, 1), (195, 1), (196, 1), (197, 1), (198, 1), (199, 1), (200, 1), (201, 1), (202, 1), (203, 1), (204, 1), (205, 1), (206, 1), (207, 1), (208, 1), (209, 1), (210, 1), (211, 1), (212, 1), (213, 1), (214, 1), (215, 1), (216, 1), (217, 1), (218, 1), (219, 1), (220, 1), (221, 1), (222, 1), (223, 1), (224, 1), (225, 1), (226, 1), (227, 1), (228, 1), (229, 1), (230, 1), (231, 1), (232, 1), (233, 1), (234, 1), (235, 1), (236, 1), (237, 1), (238, 1), (239, 1), (240, 1), (241, 1), (242, 1), (243, 1), (244, 1), (245, 1), (246, 1), (247, 1), (248, 1), (249, 1), (250, 1), (251, 1), (252, 1), (253, 1), (254, 1), (255, 1)], [.int .u8 0, .int .u8 0, .int .u8 0, .int .u8 0, .int .u8 0, .int .u8 0, .int .u8 0, .int .u8 0, .int .u8 0, .int .u8 0, .int .u8 0, .int .u8 0, .int .u8 0, .int .u8 0, .int .u8 0, .int .u8 0, .int .u8 0, .int .u8 0, .int .u8 0, .int .u8 0, .int .u8 0, .int .u8 0, .int .u8 0, .int .u8 0, .int .u8 0, .int .u8 0, .int .u8 0, .int .u8 0, .int .u8 0, .int .u8 0, .int .u8 0, .int .u8 0, .int .u8 0, .int .u8 0, .int .u8 0, .int .u8 0, .int .u8 0, .int .u8 0, .int .u8 0, .int .u8 0, .int .u8 0, .int .u8 0, .int .u8 0, .int .u8 0, .int .u8 0, .int .u8 0, .int .u8 0, .int .u8 0, .int .u8 0, .int .u8 0, .int .u8 0, .int .u8 0, .int .u8 0, .int .u8 0, .int .u8 0, .int .u8 0, .int .u8 0, .int .u8 0, .int .u8 0, .int .u8 0, .int .u8 0, .int .u8 0, .int .u8 0, .int .u8 0, .int .u8 0, .int .u8 0, .int .u8 0, .int .u8 0, .int .u8 0, .int .u8 0, .int .u8 0, .int .u8 0, .int .u8 0, .int .u8 0, .int .u8 0, .int .u8 0, .int .u8 0, .int .u8 0, .int .u8 0, .int .u8 0, .int .u8 0, .int .u8 0, .int .u8 0, .int .u8 0, .int .u8 0, .int .u8 0, .int .u8 0, .int .u8 0, .int .u8 0, .int .u8 0, .int .u8 0, .int .u8 0, .int .u8 0, .int .u8 0, .int .u8 0, .int .u8 0, .int .u8 0, .int .u8 0, .int .u8 0, .int .u8 0, .int .u8 0, .int .u8 0, .int .u8 0, .int .u8 0, .int .u8 0, .int .u8 0, .int .u8 0, .int .u8 0, .int .u8 0, .int .u8 0, .int .u8 0, .int .u8 0, .int .u8 0, .int .u8 0, .int .u8 0, .int .u8 0, .int .u8 0, .int .u8 0, .int .u8 0, .int .u8 0, .int .u8 0, .int .u8 0, .int .u8 0, .int .u8 0, .int .u8 0, .int .u8 0, .int .u8 0, .int .u8 0, .int .u8 0, .int .u8 0, .int .u8 0, .int .u8 0, .int .u8 0, .int .u8 0, .int .u8 0, .int .u8 0, .int .u8 0, .int .u8 0, .int .u8 0, .int .u8 0, .int .u8 0, .int .u8 0, .int .u8 0, .int .u8 0, .int .u8 0, .int .u8 0, .int .u8 0, .int .u8 0, .int .u8 0, .int .u8 0, .int .u8 0, .int .u8 0, .int .u8 0, .int .u8 0, .int .u8 0, .int .u8 0, .int .u8 0, .int .u8 0, .int .u8 0, .int .u8 0, .int .u8 0, .int .u8 0, .int .u8 0, .int .u8 0, .int .u8 0, .int .u8 0, .int .u8 0, .int .u8 0, .int .u8 0, .int .u8 0, .int .u8 0, .int .u8 0, .int .u8 0, .int .u8 0, .int .u8 0, .int .u8 0, .int .u8 0, .int .u8 0, .int .u8 0, .int .u8 0, .int .u8 0, .int .u8 0, .int .u8 0, .int .u8 0, .int .u8 0, .int .u8 0, .int .u8 0, .int .u8 0, .int .u8 0, .int .u8 0, .int .u8 0, .int .u8 0, .int .u8 0, .int .u8 0, .int .u8 0, .int .u8 0, .int .u8 0, .int .u8 0, .int .u8 0, .int .u8 0, .int .u8 0, .int .u8 0, .int .u8 0, .int .u8 0, .int .u8 0, .int .u8 0, .int .u8 0, .int .u8 0, .int .u8 0, .int .u8 0, .int .u8 0, .int .u8 0, .int .u8 0, .int .u8 0, .int .u8 0, .int .u8 0, .int .u8 0, .int .u8 0, .int .u8 0, .int .u8 0, .int .u8 0, .int .u8 0, .int .u8 0, .int .u8 0, .int .u8 0, .int .u8 0, .int .u8 0, .int .u8 0, .int .u8 0, .int .u8 0, .int .u8 0, .int .u8 0, .int .u8 0, .int .u8 0, .int .u8 0, .int .u8 0, .int .u8 0, .int .u8 0, .int .u8 0, .int .u8 0, .int .u8 0, .int .u8 0, .int .u8 0, .int .u8 0, .int .u8 0, .int .u8 0, .int .u8 0, .int .u8 0, .int .u8 0, .int .u8 0, .int .u8 0, .int .u8 0, .int .u8 0, .int .u8 0, .int .u8 0, .int .u8 0]) := by kernel_rfl
@[go_sem] theorem zr237 : zeroOf Tryz.prog 237 = some [.int .u8 0, .int .u8 0, .int .u8 0, .int .u8 0, .int .u8 0, .int .u8 0, .int .u8 0, .int .u8 0, .int .u8 0, .int .u8 0, .int .u8 0, .int .u8 0, .int .u8 0, .int .u8 0, .int .u8 0, .int .u8 0, .int .u8 0, .int .u8 0, .int .u8 0, .int .u8 0, .int .u8 0, .int .u8 0, .int .u8 0, .int .u8 0, .int .u8 0, .int .u8 0, .int .u8 0, .int .u8 0, .int .u8 0, .int .u8 0, .int .u8 0, .int .u8 0, .int .u8 0, .int .u8 0, .int .u8 0, .int .u8 0, .int .u8 0, .int .u8 0, .int .u8 0, .int .u8 0, .int .u8 0, .int .u8 0, .int .u8 0, .int .u8 0, .int .u8 0, .int .u8 0, .int .u8 0, .int .u8 0, .int .u8 0, .int .u8 0, .int .u8 0, .int .u8 0, .int .u8 0, .int .u8 0, .int .u8 0, .int .u8 0, .int .u8 0, .int .u8 0, .int .u8 0, .int .u8 0, .int .u8 0, .int .u8 0, .int .u8 0, .int .u8 0, .int .u8 0, .int .u8 0, .int .u8 0, .int .u8 0, .int .u8 0, .int .u8 0, .int .u8 0, .int .u8 0, .int .u8 0, .int .u8 0, .int .u8 0, .int .u8 0, .int .u8 0, .int .u8 0, .int .u8 0, .int .u8 0, .int .u8 0, .int .u8 0, .int .u8 0, .int .u8 0, .int .u8 0, .int .u8 0, .int .u8 0, .int .u8 0, .int .u8 0, .int .u8 0, .int .u8 0, .int .u8 0, .int .u8 0, .int .u8 0, .int .u8 0, .int .u8 0, .int .u8 0, .int .u8 0, .int .u8 0, .int .u8 0, .int .u8 0, .int .u8 0, .int .u8 0, .int .u8 0, .int .u8 0, .int .u8 0, .int .u8 0, .int .u8 0, .int .u8 0, .int .u8 0, .int .u8 0, .int .u8 0, .int .u8 0, .int .u8 0, .int .u8 0, .int .u8 0, .int .u8 0, .int .u8 0, .int .u8 0, .int .u8 0, .int .u8 0, .int .u8 0, .int .u8 0, .int .u8 0, .int .u8 0, .int .u8 0, .int .u8 0, .int .u8 0, .int .u8 0, .int .u8 0, .int .u8 0, .int .u8 0, .int .u8 0, .int .u8 0, .int .u8 0, .int .u8 0, .int .u8 0, .int .u8 0, .int .u8 0, .int .u8 0, .int .u8 0, .int .u8 0, .int .u8 0, .int .u8 0, .int .u8 0, .int .u8 0, .int .u8 0, .int .u8 0, .int .u8 0, .int .u8 0, .int .u8 0, .int .u8 0, .int .u8 0, .int .u8 0, .int .u8 0, .int .u8 0, .int .u8 0, .int .u8 0, .int .u8 0, .int .u8 0, .int .u8 0, .int .u8 0, .int .u8 0, .int .u8 0, .int .u8 0, .int .u8 0, .int .u8 0, .int .u8 0, .int .u8 0, .int .u8 0, .int .u8 0, .int .u8 0, .int .u8 0, .int .u8 0, .int .u8 0, .int .u8 0, .int .u8 0, .int .u8 0, .int .u8 0, .int .u8 0, .int .u8 0, .int .u8 0, .int .u8 0, .int .u8 0, .int .u8 0, .int .u8 0, .int .u8 0, .int .u8 0, .int .u8 0, .int .u8 0, .int .u8 0, .int .u8 0, .int .u8 0, .int .u8 0, .int .u8 0, .int .u8 0, .int .u8 0, .int .u8 0, .int .u8 0, .int .u8 0, .int .u8 0, .int .u8 0, .int .u8 0, .int .u8 0, .int .u8 0, .int .u8 0, .int .u8 0, .int .u8 0, .int .u8 0, .int .u8 0, .int .u8 0, .int .u8 0, .int .u8 0, .int .u8 0, .int .u8 0, .int .u8 0, .int .u8 0, .int .u8 0, .int .u8 0, .int .u8 0, .int .u8 0, .int .u8 0, .int .u8 0, .int .u8 0, .int .u8 0, .int .u8 0, .int .u8 0, .int .u8 0, .int .u8 0, .int .u8 0, .int .u8 0, .int .u8 0, .int .u8 0, .int .u8 0, .int .u8 0, .int .u8 0, .int .u8 0, .int .u8 0, .int .u8 0, .int .u8 0, .int .u8 0, .int .u8 0, .int .u8 0, .int .u8 0, .int .u8 0, .int .u8 0, .int .u8 0, .int .u8 0, .int .u8 0, .int .u8 0, .int .u8 0, .int .u8 0, .int .u8 0, .int .u8 0, .int .u8 0, .int .u8 0] := by kernel_rfl
@[go_sem] theorem ty237 : tyOf Tryz.prog 237 = some (true, 256) := by kernel_rfl
@[go_sem] theorem bs3_5 : bytesOf Tryz.prog 3 5 = none := by kernel_rfl
@[go_sem] theorem sl237 : slOf Tryz.prog 237 = none := by kernel_rfl
@[go_sem] theorem ar237 : arrOf Tryz.prog 237 = some (256, 1) := by kernel_rfl
@[go_sem] theorem bl241 : bldOf Tryz.prog 241 = some ([(0, 256), (256, 1)], [.slice none 0 0, .slice none 0 0, .slice none 0 0, .slice none 0 0, .slice none 0 0, .slice none 0 0, .slice none 0 0, .slice none 0 0, .slice none 0 0, .slice none 0 0, .slice none 0 0, .slice none 0 0, .slice none 0 0, .slice none 0 0, .slice none 0 0, .slice none 0 0, .slice none 0 0, .slice none 0 0, .slice none 0 0, .slice none 0 0, .slice none 0 0, .slice none 0 0, .slice none 0 0, .slice none 0 0, .slice none 0 0, .slice none 0 0, .slice none 0 0, .slice none 0 0, .slice none 0 0, .slice none 0 0, .slice none 0 0, .slice none 0 0, .slice none 0 0, .slice none 0 0, .slice none 0 0, .slice none 0 0, .slice none 0 0, .slice none 0 0, .slice none 0 0, .slice none 0 0, .slice none 0 0, .slice none 0 0, .slice none 0 0, .slice none 0 0, .slice none 0 0, .slice none 0 0, .slice none 0 0, .slice none 0 0, .slice none 0 0, .slice none 0 0, .slice none 0 0, .slice none 0 0, .slice none 0 0, .slice none 0 0, .slice none 0 0, .slice none 0 0, .slice none 0 0, .slice none 0 0, .slice none 0 0, .slice none 0 0, .slice none 0 0, .slice none 0 0, .slice none 0 0, .slice none 0 0, .slice none 0 0, .slice none 0 0, .slice none 0 0, .slice none 0 0, .slice none 0 0, .slice none 0 0, .slice none 0 0, .slice none 0 0, .slice none 0 0, .slice none 0 0, .slice none 0 0, .slice none 0 0, .slice none 0 0, .slice none 0 0, .slice none 0 0, .slice none 0 0, .slice none 0 0, .slice none 0 0, .slice none 0 0, .slice none 0 0, .slice none 0 0, .slice none 0 0, .slice none 0 0, .slice none 0 0, .slice none 0 0, .slice none 0 0, .slice none 0 0, .slice none 0 0, .slice none 0 0, .slice none 0 0, .slice none 0 0, .slice none 0 0, .slice none 0 0, .slice none 0 0, .slice none 0 0, .slice none 0 0, .slice none 0 0, .slice none 0 0, .slice none 0 0, .slice none 0 0, .slice none 0 0, .slice none 0 0, .slice none 0 0, .slice none 0 0, .slice none 0 0, .slice none 0 0, .slice none 0 0, .slice none 0 0, .slice none 0 0, .slice none 0 0, .slice none 0 0, .slice none 0 0, .slice none 0 0, .slice none 0 0, .slice none 0 0, .slice none 0 0, .slice none 0 0, .slice none 0 0, .slice none 0 0, .slice none 0 0, .slice none 0 0, .slice none 0 0, .slice none 0 0, .slice none 0 0, .slice none 0 0, .slice none 0 0, .slice none 0 0, .slice none 0 0, .slice none 0 0, .slice none 0 0, .slice none 0 0, .slice none 0 0, .slice none 0 0, .slice none 0 0, .slice none 0 0, .slice none 0 0, .slice none 0 0, .slice none 0 0, .slice none 0 0, .slice none 0 0, .slice none 0 0, .slice none 0 0, .slice none 0 0, .slice none 0 0, .slice none 0 0, .slice none 0 0, .slice none 0 0, .slice none 0 0, .slice none 0 0, .slice none 0 0, .slice none 0 0, .slice none 0 0, .slice none 0 0, .slice none 0 0, .slice none 0 0, .slice none 0 0, .slice none 0 0, .slice none 0 0, .slice none 0 0, .slice none 0 0, .slice none 0 0, .slice none 0 0, .slice none 0 0, .slice none 0 0, .slice none 0 0, .slice none 0 0, .slice none 0 0, .slice none 0 0, .slice none 0 0, .slice none 0 0, .slice none 0 0, .slice none 0 0, .slice none 0 0, .slice none 0 0, .slice none 0 0, .slice none 0 0, .slice none 0 0, .slice none 0 0, .slice none 0 0, .slice none 0 0, .slice none 0 0, .slice none 0 0, .slice none 0 0, .slice none 0 0, .slice none 0 0, .slice none 0 0, .slice none 0 0, .slice none 0 0, .slice none 0 0, .slice none 0 0, .slice none 0 0, .slice none 0 0, .slice none 0 0, .slice none 0 0, .slice none 0 0, .slice none 0 0, .slice none 0 0, .slice none 0 0, .slice none 0 0, .slice none 0 0, .slice none 0 0, .slice none 0 0, .slice none 0 0, .slice none 0 0, .slice none 0 0, .slice none 0 0, .slice none 0 0, .slice none 0 0, .slice none 0 0, .slice none 0 0, .slice none 0 0, .slice none 0 0, .slice none 0 0, .slice none 0 0, .slice none 0 0, .slice none 0 0, .slice none 0 0, .slice none 0 0, .slice none 0 0, .slice none 0 0, .slice none 0 0, .slice none 0 0, .slice none 0 0, .slice none 0 0, .slice none 0 0, .slice none 0 0, .slice none 0 0, .slice none 0 0, .slice none 0 0, .slice none 0 0, .slice none 0 0, .slice none 0 0, .slice none 0 0, .slice none 0 0, .slice none 0 0, .slice none 0 0, .slice none 0 0, .slice none 0 0, .slice none 0 0, .slice none 0 0, .slice none 0 0, .slice none 0 0, .slice none 0 0, .slice none 0 0, .slice none 0 0, .slice none 0 0, .slice none 0 0, .slice none 0 0, .slice none 0 0, .slice none 0 0, .slice none 0 0, .slice none 0 0, .slice none 0 0]) := by kernel_rfl
@[go_sem] theorem zr241 : zeroOf Tryz.prog 241 = some [.slice none 0 0, .slice none 0 0, .slice none 0 0, .slice none 0 0, .slice none 0 0, .slice none 0 0, .slice none 0 0, .slice none 0 0, .slice none 0 0, .slice none 0 0, .slice none 0 0, .slice none 0 0, .slice none 0 0, .slice none 0 0, .slice none 0 0, .slice none 0 0, .slice none 0 0, .slice none 0 0, .slice none 0 0, .slice none 0 0, .slice none 0 0, .slice none 0 0, .slice none 0 0, .slice none 0 0, .slice none 0 0, .slice none 0 0, .slice none 0 0, .slice none 0 0, .slice none 0 0, .slice none 0 0, .slice none 0 0, .slice none 0 0, .slice none 0 0, .slice none 0 0, .slice none 0 0, .slice none 0 0, .slice none 0 0, .slice none 0 0, .slice none 0 0, .slice none 0 0, .slice none 0 0, .slice none 0 0, .slice none 0 0, .slice none 0 0, .slice none 0 0, .slice none 0 0, .slice none 0 0, .slice none 0 0, .slice none 0 0, .slice none 0 0, .slice none 0 0, .slice none 0 0, .slice none 0 0, .slice none 0 0, .slice none 0 0, .slice none 0 0, .slice none 0 0, .slice none 0 0, .slice none 0 0, .slice none 0 0, .slice none 0 0, .slice none 0 0, .slice none 0 0, .slice none 0 0, .slice none 0 0, .slice none 0 0, .slice none 0 0, .slice none 0 0, .slice none 0 0, .slice none 0 0, .slice none 0 0, .slice none 0 0, .slice none 0 0, .slice none 0 0, .slice none 0 0, .slice none 0 0, .slice none 0 0, .slice none 0 0, .slice none 0 0, .slice none 0 0, .slice none 0 0, .slice none 0 0, .slice none 0 0, .slice none 0 0, .slice none 0 0, .slice none 0 0, .slice none 0 0, .slice none 0 0, .slice none 0 0, .slice none 0 0, .slice none 0 0, .slice none 0 0, .slice none 0 0, .slice none 0 0, .slice none 0 0, .slice none 0 0, .slice none 0 0, .slice none 0 0, .slice none 0 0, .slice none 0 0, .slice none 0 0, .slice none 0 0, .slice none 0 0, .slice none 0 0, .slice none 0 0, .slice none 0 0, .slice none 0 0, .slice none 0 0, .slice none 0 0, .slice none 0 0, .slice none 0 0, .slice none 0 0, .slice none 0 0, .slice none 0 0, .slice none 0 0, .slice none 0 0, .slice none 0 0, .slice none 0 0, .slice none 0 0, .slice none 0 0, .slice none 0 0, .slice none 0 0, .slice none 0 0, .slice none 0 0, .slice none 0 0, .slice none 0 0, .slice none 0 0, .slice none 0 0, .slice none 0 0, .slice none 0 0, .slice none 0 0, .slice none 0 0, .slice none 0 0, .slice none 0 0, .slice none 0 0, .slice none 0 0, .slice none 0 0, .slice none 0 0, .slice none 0 0, .slice none 0 0, .slice none 0 0, .slice none 0 0, .slice none 0 0, .slice none 0 0, .slice none 0 0, .slice none 0 0, .slice none 0 0, .slice none 0 0, .slice none 0 0, .slice none 0 0, .slice none 0 0, .slice none 0 0, .slice none 0 0, .slice none 0 0, .slice none 0 0, .slice none 0 0, .slice none 0 0, .slice none 0 0, .slice none 0 0, .slice none 0 0, .slice none 0 0, .slice none 0 0, .slice none 0 0, .slice none 0 0, .slice none 0 0, .slice none 0 0, .slice none 0 0, .slice none 0 0, .slice none 0 0, .slice none 0 0, .slice none 0 0, .slice none 0 0, .slice none 0 0, .slice none 0 0, .slice none 0 0, .slice none 0 0, .slice none 0 0, .slice none 0 0, .slice none 0 0, .slice none 0 0, .slice none 0 0, .slice none 0 0, .slice none 0 0, .slice none 0 0, .slice none 0 0, .slice none 0 0, .slice none 0 0, .slice none 0 0, .slice none 0 0, .slice none 0 0, .slice none 0 0, .slice none 0 0, .slice none 0 0, .slice none 0 0, .slice none 0 0, .slice none 0 0, .slice none 0 0, .slice none 0 0, .slice none 0 0, .slice none 0 0, .slice none 0 0, .slice none 0 0, .slice none 0 0, .slice none 0 0, .slice none 0 0, .slice none 0 0, .slice none 0 0, .slice none 0 0, .slice none 0 0, .slice none 0 0, .slice none 0 0, .slice none 0 0, .slice none 0 0, .slice none 0 0, .slice none 0 0, .slice none 0 0, .slice none 0 0, .slice none 0 0, .slice none 0 0, .slice none 0 0, .slice none 0 0, .slice none 0 0, .slice none 0 0, .slice none 0 0, .slice none 0 0, .slice none 0 0, .slice none 0 0, .slice none 0 0, .slice none 0 0, .slice none 0 0, .slice none 0 0, .slice none 0 0, .slice none 0 0, .slice none 0 0, .slice none 0 0, .slice none 0 0, .slice none 0 0, .slice none 0 0, .slice none 0 0, .slice none 0 0, .slice none 0 0, .slice none 0 0, .slice none 0 0, .slice none 0 0, .slice none 0 0, .slice none 0 0, .slice none 0 0, .slice none 0 0, .slice none 0 0, .slice none 0 0, .slice none 0 0, .slice none 0 0, .slice none 0 0, .slice none 0 0, .slice none 0 0, .slice none 0 0, .slice none 0 0] := by kernel_rfl
@[go_sem] theorem ty241 : tyOf Tryz.prog 241 = some (true, 257) := by kernel_rfl
@[go_sem] theorem fl241_0 : fldOf Tryz.prog 241 0 = some (0, true, 256) := by kernel_rfl
@[go_sem] theorem sl239 : slOf Tryz.prog 239 = none := by kernel_rfl
@[go_sem] theorem ar239 : arrOf Tryz.prog 239 = some (256, 1) := by kernel_rfl
@[go_sem] theorem fl241_1 : fldOf Tryz.prog 241 1 = some (256, false, 1) := by kernel_rfl
@[go_sem] theorem ct206 : cellTys Tryz.prog 206 = [none, none, none, none, none, none, none, none, none, none, none, none, none, none, none, none, none, none, none, none, none, none, none, none, none, none, none, none, none, none, none, none, none, none, none, none, none, none, none, none, none, none, none, none, none, none, none, none, none, none, none, none, none, none, none, none, none, none, none, none, none, none, none, none, none, none, none, none, none, none, none, none, none, none, none, none, none, none, none, none, none, none, none, none, none, none, none, none, none, none, none, none, none, none, none, none, none, none, none, none, none, none, none, none, none, none, none, none, none, none, none, none, none, none, none, none, none, none, none, none, none, none, none, none, none, none, none, none, none, none, none, none, none, none, none, none, none, none, none, none, none, none, none, none, none, none, none, none, none, none, none, none, none, none, none, none, none, none, none, none, none, none, none, none, none, none, none, none, none, none, none, none, none, none, none, none, none, none, none, none, none, none, none, none, none, none, none, none, none, none, none, none, none, none, none, none, none, none, none, none, none, none, none, none, none, none, none, none, none, none, none, none, none, none, none, none, none, none, none, none, none, none, none, none, none, none, none, none, none, none, none, none, none, none, none, none, none, none, none, none, none, none, none, none, none, none, none, none, none, none, none, none, none, none, none, none] := by kernel_rfl
@[go_sem] theorem sl206 : slOf Tryz.prog 206 = none := by kernel_rfl
@[go_sem] theorem ar206 : arrOf Tryz.prog 206 = some (256, 1) := by kernel_rfl
@[go_sem] theorem bs38_153 : bytesOf Tryz.prog 38 153 = none := by kernel_rfl
@[go_sem] theorem ct153 : cellTys Tryz.prog 153 = [none] := by kernel_rfl
@[go_sem] theorem bs153_38 : bytesOf Tryz.prog 153 38 = none := by kernel_rfl
@[go_sem] theorem ct196 : cellTys Tryz.prog 196 = [none] := by kernel_rfl
@[go_sem] theorem ct130 : cellTys Tryz.prog 130 = [some 1] := by kernel_rfl
@[go_sem] theorem bs130_130 : bytesOf Tryz.prog 130 130 = some 5 := by kernel_rfl
@[go_sem] theorem un255 : Tryz.prog.underlying 255 = some (.int .i64) := by kernel_rfl
@[go_sem] theorem fl159_1 : fldOf Tryz.prog 159 1 = some (0, true, 2) := by kernel_rfl
@[go_sem] theorem ct157 : cellTys Tryz.prog 157 = [none, none] := by kernel_rfl
@[go_sem] theorem ct233 : cellTys Tryz.prog 233 = [none] := by kernel_rfl
@[go_sem] theorem bl269 : bldOf Tryz.prog 269 = some ([(0, 1), (1, 1)], [.pointer none, .string ⟨#[]⟩]) := by kernel_rfl
@[go_sem] theorem ct235 : cellTys Tryz.prog 235 = [none] := by kernel_rfl
@[go_sem] theorem zr275 : zeroOf Tryz.prog 275 = some [.string ⟨#[]⟩, .int .i64 0, .string ⟨#[]⟩, .pointer none, .slice none 0 0, .int .i64 0, .int .u8 0, .int .u8 0, .int .u8 0, .int .u8 0, .int .u8 0, .int .u8 0, .int .u8 0, .int .u8 0, .int .u8 0, .int .u8 0, .int .u8 0, .int .u8 0, .int .u8 0, .int .u8 0, .int .u8 0, .int .u8 0, .int .u8 0, .int .u8 0, .int .u8 0, .int .u8 0, .int .u8 0, .int .u8 0, .int .u8 0, .int .u8 0, .int .u8 0, .int .u8 0, .int .u8 0, .int .u8 0, .int .u8 0, .int .u8 0, .int .u8 0, .int .u8 0, .int .u8 0, .int .u8 0, .int .u8 0, .int .u8 0, .int .u8 0, .int .u8 0, .int .u8 0, .int .u8 0, .int .u8 0, .int .u8 0, .int .u8 0, .int .u8 0, .int .u8 0, .int .u8 0, .int .u8 0, .int .u8 0, .int .u8 0, .int .u8 0, .int .u8 0, .int .u8 0, .int .u8 0, .int .u8 0, .int .u8 0, .int .u8 0, .int .u8 0, .int .u8 0, .int .u8 0, .int .u8 0, .int .u8 0, .int .u8 0, .int .u8 0, .int .u8 0, .int .u8 0, .int .u8 0, .int .u8 0, .int .u8 0, .int .u8 0, .int .u8 0, .int .u8 0, .int .u8 0, .int .u8 0, .int .u8 0, .int .u8 0, .int .u8 0, .int .u8 0, .int .u8 0, .int .u8 0, .int .u8 0, .int .u8 0, .int .u8 0, .int .u8 0, .int .u8 0, .int .u8 0, .int .u8 0, .int .u8 0, .int .u8 0, .int .u8 0, .int .u8 0, .int .u8 0, .int .u8 0, .int .u8 0, .int .u8 0, .int .u8 0, .int .u8 0, .int .u8 0, .int .u8 0, .int .u8 0, .int .u8 0, .int .u8 0, .int .u8 0, .int .u8 0, .int .u8 0, .int .u8 0, .int .u8 0, .int .u8 0, .int .u8 0, .int .u8 0, .int .u8 0, .int .u8 0, .int .u8 0, .int .u8 0, .int .u8 0, .int .u8 0, .int .u8 0, .int .u8 0, .int .u8 0, .int .u8 0, .int .u8 0, .int .u8 0, .int .u8 0, .int .u8 0, .int .u8 0, .int .u8 0, .int .u8 0, .int .u8 0, .int .u8 0, .int .u8 0, .int .u8 0, .int .u8 0, .int .u8 0, .int .u8 0, .int .u8 0, .int .u8 0, .int .u8 0, .int .u8 0, .int .u8 0, .int .u8 0, .int .u8 0, .int .u8 0, .int .u8 0, .int .u8 0, .int .u8 0, .int .u8 0, .int .u8 0, .int .u8 0, .int .u8 0, .int .u8 0, .int .u8 0, .int .u8 0, .int .u8 0, .int .u8 0, .int .u8 0, .int .u8 0, .int .u8 0, .int .u8 0, .int .u8 0, .int .u8 0, .int .u8 0, .int .u8 0, .int .u8 0, .int .u8 0, .int .u8 0, .int .u8 0, .int .u8 0, .int .u8 0, .int .u8 0, .int .u8 0, .int .u8 0, .int .u8 0, .int .u8 0, .int .u8 0, .int .u8 0, .int .u8 0, .int .u8 0, .int .u8 0, .int .u8 0, .int .u8 0, .int .u8 0, .int .u8 0, .int .u8 0, .int .u8 0, .int .u8 0, .int .u8 0, .int .u8 0, .int .u8 0, .int .u8 0, .int .u8 0, .int .u8 0, .int .u8 0, .int .u8 0, .int .u8 0, .int .u8 0, .int .u8 0, .int .u8 0, .int .u8 0, .int .u8 0, .int .u8 0, .int .u8 0, .int .u8 0, .int .u8 0, .int .u8 0, .int .u8 0, .int .u8 0, .int .u8 0, .int .u8 0, .int .u8 0, .int .u8 0, .int .u8 0, .int .u8 0, .int .u8 0, .int .u8 0, .int .u8 0, .int .u8 0, .int .u8 0, .int .u8 0, .int .u8 0, .int .u8 0, .int .u8 0, .int .u8 0, .int .u8 0, .int .u8 0, .int .u8 0, .int .u8 0, .int .u8 0, .int .u8 0, .int .u8 0, .int .u8 0, .int .u8 0, .int .u8 0, .int .u8 0, .int .u8 0, .int .u8 0, .int .u8 0, .int .u8 0, .int .u8 0, .int .u8 0, .int .u8 0, .int .u8 0, .int .u8 0, .int .u8 0, .int .u8 0, .int .u8 0, .int .u8 0, .int .u8 0, .int .u8 0, .int .u8 0, .int .u8 0, .int .u8 0, .int .u8 0, .int .u8 0, .int .u8 0, .int .u8 0, .int .u8 0, .int .u8 0] := by kernel_rfl
@[go_sem] theorem fl275_2 : fldOf Tryz.prog 275 2 = some (6, true, 256) := by kernel_rfl
@[go_sem] theorem ty125 : tyOf Tryz.prog 125 = some (true, 256) := by kernel_rfl
@[go_sem] theorem fl275_1 : fldOf Tryz.prog 275 1 = some (5, false, 1) := by kernel_rfl
@[go_sem] theorem sl271 : slOf Tryz.prog 271 = some (270, 1, 8) := by kernel_rfl
@[go_sem] theorem zr270 : zeroOf Tryz.prog 270 = some [.pointer none] := by kernel_rfl
@[go_sem] theorem fl275_0 : fldOf Tryz.prog 275 0 = some (0, true, 5) := by kernel_rfl
@[go_sem] theorem fl273_4 : fldOf Tryz.prog 273 4 = some (4, false, 1) := by kernel_rfl
@[go_sem] theorem ty271 : tyOf Tryz.prog 271 = some (false, 1) := by kernel_rfl
@[go_sem] theorem ct273 : cellTys Tryz.prog 273 = [none, none, none, none, some 1] := by kernel_rfl
@[go_sem] theorem bs153_196 : bytesOf Tryz.prog 153 196 = none := by kernel_rfl
@[go_sem] theorem bs196_153 : bytesOf Tryz.prog 196 153 = none := by kernel_rfl
@[go_sem] theorem bs21_153 : bytesOf Tryz.prog 21 153 = none := by kernel_rfl
@[go_sem] theorem bs21_5 : bytesOf Tryz.prog 21 5 = none := by kernel_rfl
@[go_sem] theorem un281 : Tryz.prog.underlying 281 = some (.int .u64) := by kernel_rfl
@[go_sem] theorem bs3_281 : bytesOf Tryz.prog 3 281 = none := by kernel_rfl
@[go_sem] theorem zr281 : zeroOf Tryz.prog 281 = some [.int .u64 0] := by kernel_rfl
@[go_sem] theorem ty281 : tyOf Tryz.prog 281 = some (false, 1) := by kernel_rfl
@[go_sem] theorem ct281 : cellTys Tryz.prog 281 = [none] := by kernel_rfl
@[go_sem] theorem ct255 : cellTys Tryz.prog 255 = [none] := by kernel_rfl
@[go_sem] theorem bs153_5 : bytesOf Tryz.prog 153 5 = none := by kernel_rfl
@[go_sem] theorem bs196_5 : bytesOf Tryz.prog 196 5 = none := by kernel_rfl
@[go_sem] theorem fl157_0 : fldOf Tryz.prog 157 0 = some (0, false, 1) := by kernel_rfl
@[go_sem] theorem ct288 : cellTys Tryz.prog 288 = [none] := by kernel_rfl
@[go_sem] theorem bs286_223 : bytesOf Tryz.prog 286 223 = none := by kernel_rfl
@[go_sem] theorem ct286 : cellTys Tryz.prog 286 = [none] := by kernel_rfl
@[go_sem] theorem ty21 : tyOf Tryz.prog 21 = some (false, 1) := by kernel_rfl
@[go_sem] theorem ct266 : cellTys Tryz.prog 266 = [none] := by kernel_rfl
@[go_sem] theorem bl294 : bldOf Tryz.prog 294 = some ([(0, 1), (1, 256), (257, 1)], [.string ⟨#[]⟩, .int .i64 0, .int .i64 0, .int .i64 0, .int .i64 0, .int .i64 0, .int .i64 0, .int .i64 0, .int .i64 0, .int .i64 0, .int .i64 0, .int .i64 0, .int .i64 0, .int .i64 0, .int .i64 0, .int .i64 0, .int .i64 0, .int .i64 0, .int .i64 0, .int .i64 0, .int .i64 0, .int .i64 0, .int .i64 0, .int .i64 0, .int .i64 0, .int .i64 0, .int .i64 0, .int .i64 0, .int .i64 0, .int .i64 0, .int .i64 0, .int .i64 0, .int .i64 0, .int .i64 0, .int .i64 0, .int .i64 0, .int .i64 0, .int .i64 0, .int .i64 0, .int .i64 0, .int .i64 0, .int .i64 0, .int .i64 0, .int .i64 0, .int .i64 0, .int .i64 0, .int .i64 0, .int .i64 0, .int .i64 0, .int .i64 0, .int .i64 0, .int .i64 0, .int .i64 0, .int .i64 0, .int .i64 0, .int .i64 0, .int .i64 0, .int .i64 0, .int .i64 0, .int .i64 0, .int .i64 0, .int .i64 0, .int .i64 0, .int .i64 0, .int .i64 0, .int .i64 0, .int .i64 0, .int .i64 0, .int .i64 0, .int .i64 0, .int .i64 0, .int .i64 0, .int .i64 0, .int .i64 0, .int .i64 0, .int .i64 0, .int .i64 0, .int .i64 0, .int .i64 0, .int .i64 0, .int .i64 0, .int .i64 0, .int .i64 0, .int .i64 0, .int .i64 0, .int .i64 0, .int .i64 0, .int .i64 0, .int .i64 0, .int .i64 0, .int .i64 0, .int .i64 0, .int .i64 0, .int .i64 0, .int .i64 0, .int .i64 0, .int .i64 0, .int .i64 0, .int .i64 0, .int .i64 0, .int .i64 0, .int .i64 0, .int .i64 0, .int .i64 0, .int .i64 0, .int .i64 0, .int .i64 0, .int .i64 0, .int .i64 0, .int .i64 0, .int .i64 0, .int .i64 0, .int .i64 0, .int .i64 0, .int .i64 0, .int .i64 0, .int .i64 0, .int .i64 0, .int .i64 0, .int .i64 0, .int .i64 0, .int .i64 0, .int .i64 0, .int .i64 0, .int .i64 0, .int .i64 0, .int .i64 0, .int .i64 0, .int .i64 0, .int .i64 0, .int .i64 0, .int .i64 0, .int .i64 0, .int .i64 0, .int .i64 0, .int .i64 0, .int .i64 0, .int .i64 0, .int .i64 0, .int .i64 0, .int .i64 0, .int .i64 0, .int .i64 0, .int .i64 0, .int .i64 0, .int .i64 0, .int .i64 0, .int .i64 0, .int .i64 0, .int .i64 0, .int .i64 0, .int .i64 0, .int .i64 0, .int .i64 0, .int .i64 0, .int .i64 0, .int .i64 0, .int .i64 0, .int .i64 0, .int .i64 0, .int .i64 0, .int .i64 0, .int .i64 0, .int .i64 0, .int .i64 0, .int .i64 0, .int .i64 0, .int .i64 0, .int .i64 0, .int .i64 0, .int .i64 0, .int .i64 0, .int .i64 0, .int .i64 0, .int .i64 0, .int .i64 0, .int .i64 0, .int .i64 0, .int .i64 0, .int .i64 0, .int .i64 0, .int .i64 0, .int .i64 0, .int .i64 0, .int .i64 0, .int .i64 0, .int .i64 0, .int .i64 0, .int .i64 0, .int .i64 0, .int .i64 0, .int .i64 0, .int .i64 0, .int .i64 0, .int .i64 0, .int .i64 0, .int .i64 0, .int .i64 0, .int .i64 0, .int .i64 0, .int .i64 0, .int .i64 0, .int .i64 0, .int .i64 0, .int .i64 0, .int .i64 0, .int .i64 0, .int .i64 0, .int .i64 0, .int .i64 0, .int .i64 0, .int .i64 0, .int .i64 0, .int .i64 0, .int .i64 0, .int .i64 0, .int .i64 0, .int .i64 0, .int .i64 0, .int .i64 0, .int .i64 0, .int .i64 0, .int .i64 0, .int .i64 0, .int .i64 0, .int .i64 0, .int .i64 0, .int .i64 0, .int .i64 0, .int .i64 0, .int .i64 0, .int .i64 0, .int .i64 0, .int .i64 0, .int .i64 0, .int .i64 0, .int .i64 0, .int .i64 0, .int .i64 0, .int .i64 0, .int .i64 0, .int .i64 0, .int .i64 0, .int .i64 0, .int .i64 0, .int .i64 0, .int .i64 0, .int .i64 0, .int .i64 0, .int .i64 0, .int .i64 0, .int .i64 0, .int .i64 0, .int .i64 0, .int .i64 0, .int .i64 0, .int .i64 0, .slice none 0 0]) := by kernel_rfl
@[go_sem] theorem fl294_1 : fldOf Tryz.prog 294 1 = some (1, true, 256) := by kernel_rfl
@[go_sem] theorem sl292 : slOf Tryz.prog 292 = none := by kernel_rfl
@[go_sem] theorem ar292 : arrOf Tryz.prog 292 = some (256, 1) := by kernel_rfl
@[go_sem] theorem fl294_2 : fldOf Tryz.prog 294 2 = some (257, false, 1) := by kernel_rfl
@[go_sem] theorem fl273_1 : fldOf Tryz.prog 273 1 = some (1, false, 1) := by kernel_rfl
@[go_sem] theorem fl273_0 : fldOf Tryz.prog 273 0 = some (0, false, 1) := by kernel_rfl
@[go_sem] theorem fl273_2 : fldOf Tryz.prog 273 2 = some (2, false, 1) := by kernel_rfl
@[go_sem] theorem fl273_3 : fldOf Tryz.prog 273 3 = some (3, false, 1) := by kernel_rfl
@[go_sem] theorem ty270 : tyOf Tryz.prog 270 = some (false, 1) := by kernel_rfl
@[go_sem] theorem ct270 : cellTys Tryz.prog 270 = [none] := by kernel_rfl
@[go_sem] theorem bl273 : bldOf Tryz.prog 273 = some ([(0, 1), (1, 1), (2, 1), (3, 1), (4, 1)], [.string ⟨#[]⟩, .int .i64 0, .string ⟨#[]⟩, .pointer none, .slice none 0 0]) := by kernel_rfl
@[go_sem] theorem zr273 : zeroOf Tryz.prog 273 = some [.string ⟨#[]⟩, .int .i64 0, .string ⟨#[]⟩, .pointer none, .slice none 0 0] := by kernel_rfl
@[go_sem] theorem un271 : Tryz.prog.underlying 271 = some (.slice 270) := by kernel_rfl
@[go_sem] theorem un2 : Tryz.prog.underlying 2 = some (.int .i64) := by kernel_rfl
@[go_sem] theorem fl157_1 : fldOf Tryz.prog 157 1 = some (1, false, 1) := by kernel_rfl
@[go_sem] theorem bs5_153 : bytesOf Tryz.prog 5 153 = none := by kernel_rfl
@[go_sem] theorem fl269_0 : fldOf Tryz.prog 269 0 = some (0, false, 1) := by kernel_rfl
@[go_sem] theorem ty266 : tyOf Tryz.prog 266 = some (false, 1) := by kernel_rfl
@[go_sem] theorem fl269_1 : fldOf Tryz.prog 269 1 = some (1, false, 1) := by kernel_rfl
@[go_sem] theorem fl294_0 : fldOf Tryz.prog 294 0 = some (0, false, 1) := by kernel_rfl
@[go_sem] theorem ct319 : cellTys Tryz.prog 319 = [none] := by kernel_rfl
@[go_sem] theorem sl316 : slOf Tryz.prog 316 = some (5, 1, 1) := by kernel_rfl
@[go_sem] theorem zr316 : zeroOf Tryz.prog 316 = some [.slice none 0 0] := by kernel_rfl
@[go_sem] theorem ty316 : tyOf Tryz.prog 316 = some (false, 1) := by kernel_rfl
@[go_sem] theorem un316 : Tryz.prog.underlying 316 = some (.slice 5) := by kernel_rfl
@[go_sem] theorem bs316_9 : bytesOf Tryz.prog 316 9 = none := by kernel_rfl
@[go_sem] theorem ct321 : cellTys Tryz.prog 321 = [none] := by kernel_rfl
@[go_sem] theorem bl327 : bldOf Tryz.prog 327 = some ([(0, 1)], [.nilIface]) := by kernel_rfl
@[go_sem] theorem fl327_0 : fldOf Tryz.prog 327 0 = some (0, false, 1) := by kernel_rfl
@[go_sem] theorem ty319 : tyOf Tryz.prog 319 = some (false, 1) := by kernel_rfl
end Go.Proofs.YtkgmecjaejaehaaGreatDoor
namespace Go.Js
/-! chapter 8, plain: what the program's reader reads -/
inductive JV where
 | mk (k : Int) (t : List UInt8) (ns : List (List UInt8)) (xs : List JV)
instance : Inhabited JV := ⟨.mk 0 [] [] []⟩
def JV.kind : JV → Int
 | .mk k _ _ _ => k
def JV.text : JV → List UInt8
 | .mk _ t _ _ => t
def JV.names : JV → List (List UInt8)
 | .mk _ _ ns _ => ns
def JV.items : JV → List JV
 | .mk _ _ _ xs => xs
inductive Rs (α : Type) where
 | ok (x : α) (a n : Nat)
 | bad (p e : Nat)
def isBl (c : UInt8) : Bool := c == 32 || c == 9 || c == 10 || c == 13
def isDg (c : UInt8) : Bool := decide (48 ≤ c) && decide (c ≤ 57)
def blV (s : List UInt8) (a : Nat) : Nat := a + ((s.drop a).takeWhile isBl).length
def failP (s : List UInt8) (a : Nat) : Nat := if s.length ≤ a then s.length else a
def failE (s : List UInt8) (a : Nat) : Nat := if s.length ≤ a then 14 else 4
def wordV (s : List UInt8) : List UInt8 → Nat → Option Nat
 | [], _ => none
 | c :: w, a => if s[a]? = some c then wordV s w (a + 1) else some a
def digE (t : List UInt8) (i : Nat) : Nat := i + ((t.drop i).takeWhile isDg).length
def numX (t : List UInt8) (i : Nat) : Nat × Option Nat :=
 if t[i]? = some 101 ∨ t[i]? = some 69 then
  let m := if t[i + 1]? = some 43 ∨ t[i + 1]? = some 45 then i + 2 else i + 1
  let k := digE t m
  if k = m then (k, some k) else (k, none)
 else (i, none)
def numF (t : List UInt8) (i : Nat) : Nat × Option Nat :=
 if t[i]? = some 46 then
  let k := digE t (i + 1)
  if k = i + 1 then (k, some k) else numX t k
 else numX t i
def numV (t : List UInt8) : Nat × Option Nat :=
 let f := if t[0]? = some 45 then 1 else 0
 let n := digE t f
 if n = f then (n, some n)
 else if t[f]? = some 48 ∧ f + 1 < n then (f + 1, some (f + 1))
 else numF t n
def hexD (c : UInt8) : Option Nat :=
 if 48 ≤ c ∧ c ≤ 57 then some (c.toNat - 48)
 else if 97 ≤ c ||| 32 ∧ c ||| 32 ≤ 102 then some ((c ||| 32).toNat - 87)
 else none
def hexG (s : List UInt8) (e told : Nat) : Nat → Nat → Nat → Except (Nat × Nat) Nat
 | 0, _, n => .ok n
 | k + 1, i, n =>
  match s[e + i]? with
  | none => .error (s.length, 14)
  | some c =>
   match hexD c with
   | none => .error (failP s told, failE s told)
   | some d => hexG s e told k (i + 1) (n * 16 + d)
def hexV (s : List UInt8) (e told : Nat) : Except (Nat × Nat) Nat := hexG s e told 4 2 0
def wideV (s : List UInt8) (e : Nat) : Except (Nat × Nat) (Nat × Nat) :=
 match hexV s e e with
 | .error q => .error q
 | .ok n =>
  if n < 0xD800 ∨ 0xE000 ≤ n then .ok (n, e + 6)
  else if 0xDC00 ≤ n then .error (failP s e, failE s e)
  else match s[e + 6]? with
   | none => .error (s.length, 14)
   | some c => if c ≠ 92 then .error (failP s e, failE s e) else
    match s[e + 7]? with
    | none => .error (s.length, 14)
    | some c => if c ≠ 117 then .error (failP s e, failE s e) else
     match hexV s (e + 6) e with
     | .error q => .error q
     | .ok l => if l < 0xDC00 ∨ 0xE000 ≤ l then .error (failP s e, failE s e) else .ok (0x10000 + (n - 0xD800) * 1024 + (l - 0xDC00), e + 12)
def escC (c : UInt8) : Option UInt8 :=
 if c = 34 then some 34 else if c = 92 then some 92 else if c = 47 then some 47 else if c = 98 then some 8 else if c = 102 then some 12
 else if c = 110 then some 10 else if c = 114 then some 13 else if c = 116 then some 9 else none
def utfB (n : Nat) : List UInt8 := Lib.encodeRune n
def escV (s : List UInt8) (a : Nat) : Except (Nat × Nat) (List UInt8 × Nat) :=
 match s[a + 1]? with
 | none => .error (s.length, 14)
 | some c =>
  if c = 117 then match wideV s a with
   | .error q => .error q
   | .ok (n, b) => .ok (utfB n, b)
  else match escC c with
   | none => .error (failP s a, failE s a)
   | some d => .ok ([d], a + 2)
def strG (s : List UInt8) : Nat → Nat → List UInt8 → Except (Nat × Nat) (List UInt8 × Nat)
 | 0, _, _ => .error (0, 0)
 | f + 1, a, acc =>
  match s[a]? with
  | none => .error (s.length, 14)
  | some c =>
   if c = 34 then .ok (acc, a + 1)
   else if c = 92 then match escV s a with
    | .error q => .error q
    | .ok (bs, b) => strG s f b (acc ++ bs)
   else if c < 32 then .error (failP s a, failE s a)
   else
    let q := Lib.decodeL (s.drop a)
    if q.1 = 65533 ∧ q.2 ≤ 1 then .error (failP s a, failE s a) else strG s f (a + q.2) (acc ++ (s.drop a).take q.2)
def strV (s : List UInt8) (a : Nat) : Except (Nat × Nat) (List UInt8 × Nat) := strG s (s.length + 1) (a + 1) []
def numR (s : List UInt8) (a : Nat) : Except (Nat × Nat) (List UInt8 × Nat) :=
 match numV (s.drop a) with
 | (n, some k) => if k < 60 then .error (failP s (a + k), failE s (a + k)) else .error (failP s (a + 60), failE s (a + 60))
 | (n, none) => if 60 < n then .error (failP s (a + 60), failE s (a + 60)) else .ok ((s.drop a).take n, a + n)
def starts (c : UInt8) : Bool := c == 34 || c == 91 || c == 123 || c == 45 || isDg c || c == 116 || c == 102 || c == 110
def wordR (s w : List UInt8) (k : Int) (a n : Nat) : Rs JV :=
 match wordV s w a with
 | some p => .bad (failP s p) (failE s p)
 | none => .ok (.mk k [] [] []) (a + w.length) n
mutual
def valV (s : List UInt8) (nr : Nat → Except (Nat × Nat) (List UInt8 × Nat)) : Nat → Nat → Nat → Nat → Rs JV
 | 0, _, _, _ => .bad 0 0
 | f + 1, d, a, n =>
  let b := blV s a
  match s[b]? with
  | none => .bad s.length 14
  | some c =>
   if starts c = true ∧ (50 < d ∨ 2000 < n + 1) then .bad b 2
   else if c = 34 then match strV s b with
    | .error q => .bad q.1 q.2
    | .ok q => .ok (.mk 4 q.1 [] []) q.2 (n + 1)
   else if c = 91 then
    let b2 := blV s (b + 1)
    match s[b2]? with
    | none => .bad s.length 14
    | some c2 => if c2 = 93 then .ok (.mk 5 [] [] []) (b2 + 1) (n + 1) else listV s nr f d b2 (n + 1) []
   else if c = 123 then
    let b2 := blV s (b + 1)
    match s[b2]? with
    | none => .bad s.length 14
    | some c2 => if c2 = 125 then .ok (.mk 6 [] [] []) (b2 + 1) (n + 1) else objV s nr f d b2 (n + 1) [] []
   else if c = 116 then wordR s [116, 114, 117, 101] 1 b (n + 1)
   else if c = 102 then wordR s [102, 97, 108, 115, 101] 2 b (n + 1)
   else if c = 110 then wordR s [110, 117, 108, 108] 0 b (n + 1)
   else if starts c = false then .bad (failP s b) (failE s b)
   else match nr b with
    | .error q => .bad q.1 q.2
    | .ok q => .ok (.mk 3 q.1 [] []) q.2 (n + 1)
def listV (s : List UInt8) (nr : Nat → Except (Nat × Nat) (List UInt8 × Nat)) : Nat → Nat → Nat → Nat → List JV → Rs JV
 | 0, _, _, _, _ => .bad 0 0
 | f + 1, d, a, n, acc =>
  match valV s nr f (d + 1) a n with
  | .bad p e => .bad p e
  | .ok v a1 n1 =>
   let b := blV s a1
   match s[b]? with
   | none => .bad s.length 14
   | some c =>
    if c = 93 then .ok (.mk 5 [] [] (acc ++ [v])) (b + 1) n1
    else if c = 44 then listV s nr f d (b + 1) n1 (acc ++ [v])
    else .bad (failP s b) (failE s b)
def objV (s : List UInt8) (nr : Nat → Except (Nat × Nat) (List UInt8 × Nat)) : Nat → Nat → Nat → Nat → List (List UInt8) → List JV → Rs JV
 | 0, _, _, _, _, _ => .bad 0 0
 | f + 1, d, a, n, ns, acc =>
  let b := blV s a
  match s[b]? with
  | none => .bad s.length 14
  | some c =>
   if c ≠ 34 then .bad (failP s b) (failE s b)
   else match strV s b with
    | .error q => .bad q.1 q.2
    | .ok (nm, a1) =>
     if nm ∈ ns then .bad b 7
     else
      let b2 := blV s a1
      match s[b2]? with
      | none => .bad s.length 14
      | some c2 =>
       if c2 ≠ 58 then .bad (failP s b2) (failE s b2)
       else match valV s nr f (d + 1) (b2 + 1) n with
        | .bad p e => .bad p e
        | .ok v a3 n3 =>
         let b3 := blV s a3
         match s[b3]? with
         | none => .bad s.length 14
         | some c3 =>
          if c3 = 125 then .ok (.mk 6 [] (ns ++ [nm]) (acc ++ [v])) (b3 + 1) n3
          else if c3 = 44 then objV s nr f d (b3 + 1) n3 (ns ++ [nm]) (acc ++ [v])
          else .bad (failP s b3) (failE s b3)
end
def parV (s : List UInt8) (nr : Nat → Except (Nat × Nat) (List UInt8 × Nat)) : Rs JV :=
 if 100000 < s.length then .bad 0 2 else
 match valV s nr (2 * s.length + 1) 1 0 0 with
 | .bad p e => .bad p e
 | .ok v a n =>
  let b := blV s a
  if b < s.length then .bad (failP s b) (failE s b) else .ok v 0 n
/-! places stay within the text -/
theorem blV_ge (s : List UInt8) (a : Nat) : a ≤ blV s a := by unfold blV; omega
theorem tw_len {α : Type} (p : α → Bool) (l : List α) : (l.takeWhile p).length ≤ l.length := by
 induction l with
 | nil => simp
 | cons x l ih => rw [List.takeWhile_cons]; split <;> simp <;> omega
theorem blV_le {s : List UInt8} {a : Nat} (h : a ≤ s.length) : blV s a ≤ s.length := by
 have := tw_len isBl (s.drop a)
 rw [List.length_drop] at this
 unfold blV; omega
theorem drop_cons {α : Type} {s : List α} {a : Nat} (h : a < s.length) : s.drop a = s[a] :: s.drop (a + 1) := by simp
theorem blV_step {s : List UInt8} {a : Nat} (h : a < s.length) (hb : isBl s[a] = true) : blV s a = blV s (a + 1) := by
 unfold blV
 rw [drop_cons h, List.takeWhile_cons, if_pos hb]
 simp; omega
theorem blV_stop {s : List UInt8} {a : Nat} (h : a < s.length) (hb : isBl s[a] = false) : blV s a = a := by
 unfold blV
 rw [drop_cons h, List.takeWhile_cons, if_neg (by simp [hb])]
 rfl
theorem blV_end {s : List UInt8} {a : Nat} (h : s.length ≤ a) : blV s a = a := by
 unfold blV
 rw [List.drop_eq_nil_of_le h]
 rfl
theorem blV_idem (s : List UInt8) (a : Nat) : blV s (blV s a) = blV s a := by
 rcases Nat.lt_or_ge a s.length with h | h
 ·cases hb : isBl s[a] with
  | false => rw [blV_stop h hb, blV_stop h hb]
  | true => rw [blV_step h hb]; exact blV_idem s (a + 1)
 ·rw [blV_end h, blV_end h]
termination_by s.length - a
theorem digE_ge (t : List UInt8) (i : Nat) : i ≤ digE t i := by unfold digE; omega
theorem digE_le {t : List UInt8} {i : Nat} (h : i ≤ t.length) : digE t i ≤ t.length := by
 have := tw_len isDg (t.drop i)
 rw [List.length_drop] at this
 unfold digE; omega
theorem digE_step {s : List UInt8} {a : Nat} (h : a < s.length) (hb : isDg s[a] = true) : digE s a = digE s (a + 1) := by
 unfold digE
 rw [drop_cons h, List.takeWhile_cons, if_pos hb]
 simp; omega
theorem digE_stop {s : List UInt8} {a : Nat} (h : a < s.length) (hb : isDg s[a] = false) : digE s a = a := by
 unfold digE
 rw [drop_cons h, List.takeWhile_cons, if_neg (by simp [hb])]
 rfl
theorem digE_end {s : List UInt8} {a : Nat} (h : s.length ≤ a) : digE s a = a := by
 unfold digE
 rw [List.drop_eq_nil_of_le h]
 rfl
theorem get_lt {α : Type} {s : List α} {a : Nat} {x : α} (h : s[a]? = some x) : a < s.length := (List.getElem?_eq_some_iff.1 h).1
theorem numX_le {t : List UInt8} {i : Nat} (h : i ≤ t.length) : i ≤ (numX t i).1 ∧ (numX t i).1 ≤ t.length := by
 unfold numX
 split
 ·rename_i hx
  have hi : i < t.length := by rcases hx with hx | hx <;> exact get_lt hx
  simp only
  split
  ·rename_i hy
   have hj : i + 1 < t.length := by rcases hy with hy | hy <;> exact get_lt hy
   have h1 := digE_ge t (i + 2)
   have h2 := digE_le (t := t) (i := i + 2) (by omega)
   split <;> simp <;> omega
  ·have h1 := digE_ge t (i + 1)
   have h2 := digE_le (t := t) (i := i + 1) (by omega)
   split <;> simp <;> omega
 ·simp; omega
theorem numF_le {t : List UInt8} {i : Nat} (h : i ≤ t.length) : i ≤ (numF t i).1 ∧ (numF t i).1 ≤ t.length := by
 unfold numF
 split
 ·rename_i hx
  have hi := get_lt hx
  have h1 := digE_ge t (i + 1)
  have h2 := digE_le (t := t) (i := i + 1) (by omega)
  simp only
  split
  ·simp; omega
  ·have := numX_le h2; omega
 ·exact numX_le h
theorem numV_le (t : List UInt8) : (numV t).1 ≤ t.length ∧ ((numV t).2 = none → 0 < (numV t).1) := by
 unfold numV
 have hf : (if t[0]? = some 45 then 1 else 0) ≤ t.length := by
  split
  ·rename_i h; exact get_lt h
  ·omega
 generalize (if t[0]? = some 45 then 1 else 0) = f at hf ⊢
 have h1 := digE_ge t f
 have h2 := digE_le hf
 simp only
 split
 ·simp; omega
 ·split
  ·simp; omega
  ·have := numF_le h2; omega
theorem numX_stuck {t : List UInt8} {i k : Nat} (h : (numX t i).2 = some k) : (numX t i).1 = k := by
 unfold numX at h ⊢
 generalize (if t[i + 1]? = some 43 ∨ t[i + 1]? = some 45 then i + 2 else i + 1) = m at h ⊢
 split at h
 ·rename_i hx
  rw [if_pos hx]
  simp only at h ⊢
  split at h
  ·rename_i hk
   rw [if_pos hk]
   simpa using h
  ·cases h
 ·cases h
theorem numF_stuck {t : List UInt8} {i k : Nat} (h : (numF t i).2 = some k) : (numF t i).1 = k := by
 unfold numF at h ⊢
 split at h
 ·rename_i hx
  rw [if_pos hx]
  simp only at h ⊢
  split at h
  ·rename_i hk
   rw [if_pos hk]
   simpa using h
  ·rename_i hk
   rw [if_neg hk]
   exact numX_stuck h
 ·rename_i hx
  rw [if_neg hx]
  exact numX_stuck h
theorem numV_stuck {t : List UInt8} {k : Nat} (h : (numV t).2 = some k) : (numV t).1 = k := by
 unfold numV at h ⊢
 generalize (if t[0]? = some 45 then 1 else 0) = f at h ⊢
 simp only at h ⊢
 split at h
 ·rename_i hk
  rw [if_pos hk]
  simpa using h
 ·rename_i hk
  rw [if_neg hk]
  split at h
  ·rename_i hz
   rw [if_pos hz]
   simpa using h
  ·rename_i hz
   rw [if_neg hz]
   exact numF_stuck h
theorem numR_le {s : List UInt8} {a : Nat} {q : List UInt8 × Nat} (h : numR s a = .ok q) : a < q.2 ∧ q.2 ≤ s.length := by
 unfold numR at h
 have := numV_le (s.drop a)
 rw [List.length_drop] at this
 split at h
 ·split at h <;> cases h
 ·rename_i n heq
  rw [heq] at this
  split at h
  ·cases h
  ·simp only [Except.ok.injEq] at h
   subst h
   simp at this ⊢
   omega
theorem hexG_le {s : List UInt8} {e told : Nat} : ∀ {k i n r : Nat}, e + i ≤ s.length → hexG s e told k i n = .ok r → e + i + k ≤ s.length
 | 0, i, n, r, hi, h => by omega
 | k + 1, i, n, r, hi, h => by
  unfold hexG at h
  split at h
  ·cases h
  ·rename_i c hc
   split at h
   ·cases h
   ·have := get_lt hc
    have := hexG_le (k := k) (i := i + 1) (by omega) h
    omega
theorem hexD_lt {c : UInt8} {d : Nat} (h : hexD c = some d) : d < 16 := by
 unfold hexD at h
 split at h
 ·rename_i hc
  simp only [UInt8.le_iff_toNat_le] at hc
  have e1 : (48 : UInt8).toNat = 48 := rfl
  have e2 : (57 : UInt8).toNat = 57 := rfl
  simp only [Option.some.injEq] at h
  omega
 ·split at h
  ·rename_i hc
   simp only [UInt8.le_iff_toNat_le] at hc
   have e1 : (97 : UInt8).toNat = 97 := rfl
   have e2 : (102 : UInt8).toNat = 102 := rfl
   simp only [Option.some.injEq] at h
   omega
  ·cases h
theorem hexG_lt {s : List UInt8} {e told : Nat} : ∀ {k i n r : Nat}, hexG s e told k i n = .ok r → r < (n + 1) * 16 ^ k
 | 0, i, n, r, h => by simp only [hexG, Except.ok.injEq] at h; subst h; simp
 | k + 1, i, n, r, h => by
  unfold hexG at h
  split at h
  ·cases h
  ·split at h
   ·cases h
   ·rename_i d hd
    have h1 := hexD_lt hd
    have h2 := hexG_lt h
    have h3 : (n * 16 + d + 1) * 16 ^ k ≤ ((n + 1) * 16) * 16 ^ k := Nat.mul_le_mul_right _ (by omega)
    rw [Nat.pow_succ, Nat.mul_comm (16 ^ k) 16, ← Nat.mul_assoc]
    omega
theorem hexV_lt {s : List UInt8} {e told r : Nat} (h : hexV s e told = .ok r) : r < 65536 := by
 have := hexG_lt h
 simpa using this
theorem hexV_le {s : List UInt8} {e told r : Nat} (he : e + 2 ≤ s.length) (h : hexV s e told = .ok r) : e + 6 ≤ s.length := by
 have := hexG_le he h
 omega
theorem wideV_le {s : List UInt8} {e : Nat} {q : Nat × Nat} (he : e + 2 ≤ s.length) (h : wideV s e = .ok q) : e + 6 ≤ q.2 ∧ q.2 ≤ s.length := by
 unfold wideV at h
 split at h
 ·cases h
 ·rename_i n hn
  have h1 := hexV_le he hn
  split at h
  ·simp only [Except.ok.injEq] at h; subst h; simp; omega
  ·split at h
   ·cases h
   ·split at h
    ·cases h
    ·rename_i hc1
     have := get_lt hc1
     split at h
     ·cases h
     ·split at h
      ·cases h
      ·rename_i hc2
       have := get_lt hc2
       split at h
       ·cases h
       ·split at h
        ·cases h
        ·rename_i hl
         have := hexV_le (by omega) hl
         split at h
         ·cases h
         ·simp only [Except.ok.injEq] at h; subst h; simp; omega
theorem wideV_rune {s : List UInt8} {e : Nat} {q : Nat × Nat} (h : wideV s e = .ok q) : q.1 < 55296 ∨ (57343 < q.1 ∧ q.1 ≤ 1114111) := by
 unfold wideV at h
 split at h
 ·cases h
 ·rename_i n hn
  have h1 := hexV_lt hn
  split at h
  ·simp only [Except.ok.injEq] at h; subst h; simp; omega
  ·split at h
   ·cases h
   ·split at h
    ·cases h
    ·split at h
     ·cases h
     ·split at h
      ·cases h
      ·split at h
       ·cases h
       ·split at h
        ·cases h
        ·rename_i hl
         have := hexV_lt hl
         split at h
         ·cases h
         ·simp only [Except.ok.injEq] at h; subst h; simp; omega
theorem escV_le {s : List UInt8} {a : Nat} {q : List UInt8 × Nat} (h : escV s a = .ok q) : a < q.2 ∧ q.2 ≤ s.length := by
 unfold escV at h
 split at h
 ·cases h
 ·rename_i c hc
  have := get_lt hc
  split at h
  ·split at h
   ·cases h
   ·rename_i hw
    have := wideV_le (by omega) hw
    simp only [Except.ok.injEq] at h; subst h; simp; simp at this; omega
  ·split at h
   ·cases h
   ·simp only [Except.ok.injEq] at h; subst h; simp; omega
theorem utfB_le (n : Nat) : (utfB n).length ≤ 4 := by
 unfold utfB
 rw [← Lib.runeCells_length]
 exact (Lib.runeCells_le _).2
theorem escV_len {s : List UInt8} {a : Nat} {q : List UInt8 × Nat} (h : escV s a = .ok q) : q.1.length ≤ 4 := by
 unfold escV at h
 split at h
 ·cases h
 ·split at h
  ·split at h
   ·cases h
   ·simp only [Except.ok.injEq] at h; subst h
    exact utfB_le _
  ·split at h
   ·cases h
   ·simp only [Except.ok.injEq] at h; subst h; simp
theorem decL_le {l : List UInt8} (h : l ≠ []) : 1 ≤ (Lib.decodeL l).2 ∧ (Lib.decodeL l).2 ≤ l.length := by
 unfold Lib.decodeL Utf8.decode
 have h1 : 0 < l.length := by cases l <;> simp_all
 have hs : (ByteArray.mk l.toArray).size = l.length := by simp [ByteArray.size]
 simp only [hs, Nat.zero_add]
 split
 ·simp; omega
 ·split
  ·rename_i hc; simp only [Bool.and_eq_true, decide_eq_true_eq] at hc; split <;> simp <;> omega
  ·split
   ·rename_i hc; simp only [Bool.and_eq_true, decide_eq_true_eq] at hc; split <;> simp <;> omega
   ·split
    ·rename_i hc; simp only [Bool.and_eq_true, decide_eq_true_eq] at hc; split <;> simp <;> omega
    ·simp; omega
theorem strG_le {s : List UInt8} : ∀ {f a : Nat} {acc : List UInt8} {q : List UInt8 × Nat}, strG s f a acc = .ok q → a < q.2 ∧ q.2 ≤ s.length
 | 0, a, acc, q, h => by cases h
 | f + 1, a, acc, q, h => by
  unfold strG at h
  split at h
  ·cases h
  ·rename_i c hc
   have hlt := get_lt hc
   split at h
   ·simp only [Except.ok.injEq] at h; subst h; simp; omega
   ·split at h
    ·split at h
     ·cases h
     ·rename_i he
      have := escV_le he
      have := strG_le h
      simp at *; omega
    ·split at h
     ·cases h
     ·simp only at h
      split at h
      ·cases h
      ·have h2 := decL_le (l := s.drop a) (by simp; omega)
       have := strG_le h
       omega
theorem strV_le {s : List UInt8} {a : Nat} {q : List UInt8 × Nat} (h : strV s a = .ok q) : a + 1 < q.2 ∧ q.2 ≤ s.length := strG_le h
theorem wordV_le {s : List UInt8} : ∀ {w : List UInt8} {a : Nat}, a ≤ s.length → wordV s w a = none → a + w.length ≤ s.length
 | [], a, h, _ => by simpa using h
 | c :: w, a, h, hw => by
  unfold wordV at hw
  split at hw
  ·rename_i hc
   have := get_lt hc
   have := wordV_le (by omega) hw
   simp; omega
  ·cases hw
mutual
theorem valV_le {s : List UInt8} {nr : Nat → Except (Nat × Nat) (List UInt8 × Nat)} (hnr : ∀ a q, nr a = .ok q → a < q.2 ∧ q.2 ≤ s.length) : ∀ {f d a n : Nat} {v : JV} {b m : Nat}, valV s nr f d a n = .ok v b m → a < b ∧ b ≤ s.length ∧ n < m ∧ m ≤ 2000
 | 0, d, a, n, v, b, m, h => by simp [valV] at h
 | f + 1, d, a, n, v, b, m, h => by
  have hb := blV_ge s a
  unfold valV at h
  simp only at h
  split at h
  ·cases h
  ·rename_i c hc
   have hlt := get_lt hc
   split at h
   ·cases h
   ·rename_i hst
    split at h
    ·rename_i hq
     subst hq
     have : ¬ (50 < d ∨ 2000 < n + 1) := fun q => hst ⟨rfl, q⟩
     split at h
     ·cases h
     ·rename_i hs
      have := strV_le hs
      simp only [Rs.ok.injEq] at h
      obtain ⟨_, rfl, rfl⟩ := h
      omega
    ·split at h
     ·rename_i hq
      subst hq
      have : ¬ (50 < d ∨ 2000 < n + 1) := fun q => hst ⟨rfl, q⟩
      have := blV_ge s (blV s a + 1)
      split at h
      ·cases h
      ·rename_i hc2
       have := get_lt hc2
       split at h
       ·simp only [Rs.ok.injEq] at h
        obtain ⟨_, rfl, rfl⟩ := h
        omega
       ·have := listV_le hnr h
        omega
     ·split at h
      ·rename_i hq
       subst hq
       have : ¬ (50 < d ∨ 2000 < n + 1) := fun q => hst ⟨rfl, q⟩
       have := blV_ge s (blV s a + 1)
       split at h
       ·cases h
       ·rename_i hc2
        have := get_lt hc2
        split at h
        ·simp only [Rs.ok.injEq] at h
         obtain ⟨_, rfl, rfl⟩ := h
         omega
        ·have := objV_le hnr h
         omega
      ·have wd : ∀ {w : List UInt8} {k : Int}, starts c = true → 0 < w.length → wordR s w k (blV s a) (n + 1) = .ok v b m → a < b ∧ b ≤ s.length ∧ n < m ∧ m ≤ 2000 := fun {w k} q hw hh => by
        have : ¬ (50 < d ∨ 2000 < n + 1) := fun q' => hst ⟨q, q'⟩
        unfold wordR at hh
        split at hh
        ·cases hh
        ·rename_i hn
         have := wordV_le (by omega) hn
         simp only [Rs.ok.injEq] at hh
         obtain ⟨_, rfl, rfl⟩ := hh
         omega
       split at h
       ·rename_i hq; exact wd (by rw [hq]; rfl) (by simp) h
       ·split at h
        ·rename_i hq; exact wd (by rw [hq]; rfl) (by simp) h
        ·split at h
         ·rename_i hq; exact wd (by rw [hq]; rfl) (by simp) h
         ·split at h
          ·cases h
          ·rename_i hq
           have : ¬ (50 < d ∨ 2000 < n + 1) := fun q => hst ⟨by simpa using hq, q⟩
           split at h
           ·cases h
           ·rename_i hn
            have := hnr _ _ hn
            simp only [Rs.ok.injEq] at h
            obtain ⟨_, rfl, rfl⟩ := h
            omega
theorem listV_le {s : List UInt8} {nr : Nat → Except (Nat × Nat) (List UInt8 × Nat)} (hnr : ∀ a q, nr a = .ok q → a < q.2 ∧ q.2 ≤ s.length) : ∀ {f d a n : Nat} {acc : List JV} {v : JV} {b m : Nat}, listV s nr f d a n acc = .ok v b m → a < b ∧ b ≤ s.length ∧ n < m ∧ m ≤ 2000
 | 0, d, a, n, acc, v, b, m, h => by simp [listV] at h
 | f + 1, d, a, n, acc, v, b, m, h => by
  unfold listV at h
  split at h
  ·cases h
  ·rename_i v1 a1 n1 hv
   have := valV_le hnr hv
   have := blV_ge s a1
   simp only at h
   split at h
   ·cases h
   ·rename_i hc
    have := get_lt hc
    split at h
    ·simp only [Rs.ok.injEq] at h
     obtain ⟨_, rfl, rfl⟩ := h
     omega
    ·split at h
     ·have := listV_le hnr h
      omega
     ·cases h
theorem objV_le {s : List UInt8} {nr : Nat → Except (Nat × Nat) (List UInt8 × Nat)} (hnr : ∀ a q, nr a = .ok q → a < q.2 ∧ q.2 ≤ s.length) : ∀ {f d a n : Nat} {ns : List (List UInt8)} {acc : List JV} {v : JV} {b m : Nat}, objV s nr f d a n ns acc = .ok v b m → a < b ∧ b ≤ s.length ∧ n < m ∧ m ≤ 2000
 | 0, d, a, n, ns, acc, v, b, m, h => by simp [objV] at h
 | f + 1, d, a, n, ns, acc, v, b, m, h => by
  unfold objV at h
  have := blV_ge s a
  simp only at h
  split at h
  ·cases h
  ·rename_i hc
   have := get_lt hc
   split at h
   ·cases h
   ·split at h
    ·cases h
    ·rename_i nm a1 hs
     have := strV_le hs
     split at h
     ·cases h
     ·have := blV_ge s a1
      split at h
      ·cases h
      ·rename_i hc2
       have := get_lt hc2
       split at h
       ·cases h
       ·split at h
        ·cases h
        ·rename_i v3 a3 n3 hv
         have := valV_le hnr hv
         have := blV_ge s a3
         split at h
         ·cases h
         ·rename_i hc3
          have := get_lt hc3
          simp only at *
          split at h
          ·simp only [Rs.ok.injEq] at h
           obtain ⟨_, rfl, rfl⟩ := h
           omega
          ·split at h
           ·have := objV_le hnr h
            omega
           ·cases h
end
/-! JsonDeep: nested lists, and long ones -/
end Go.Js
set_option linter.unusedSectionVars false
namespace Go.Eng
variable {P : Program} [HasGlob P]
/-! regions whose order is drawn -/
section
variable {ops : Array Oper} {Q : Exit → Act → World → Prop} {W : World → Prop}
def clear (G : List Nat) (L : Array Bool) : Bool := G.all fun g => !(L.getD g false)
def wpAnyT (P : Program) (ops : Array Oper) (Q : Exit → Act → World → Prop) (T : Array Bool → World → Prop) : Nat → Array Bool → Act → World → Prop
 | 0, L, a, w => Region.ready .any ops L = [] ∧ Q .normal a w
 | fuel + 1, L, a, w =>
  (Region.ready .any ops L = [] → Q .normal a w) ∧
  ∀ i ∈ Region.ready .any ops L, wpOp P ops Q i (fun a' w' => T (L.setIfInBounds i true) w' ∧ wpAnyT P ops Q T fuel (L.setIfInBounds i true) a' w') a w
theorem wpAny_of_T {T : Array Bool → World → Prop} : ∀ (fuel : Nat) (L : Array Bool) (a : Act) (w : World), wpAnyT P ops Q T fuel L a w → wpAny P .any ops Q fuel L a w
 | 0, _, _, _, h => h
 | fuel + 1, _, _, _, h => ⟨h.1, fun i hi => wpOp_mono (fun a' w' h' => wpAny_of_T fuel _ a' w' h'.2) (h.2 i hi)⟩
theorem wpAnyT_mono {T T' : Array Bool → World → Prop} {i : Nat} (hT : ∀ L w, L.getD i false = true → T' L w → T L w) : ∀ (fuel : Nat) (L : Array Bool) (a : Act) (w : World), L.getD i false = true → wpAnyT P ops Q T' fuel L a w → wpAnyT P ops Q T fuel L a w
 | 0, _, _, _, _, h => h
 | fuel + 1, L, _, _, hi, h => ⟨h.1, fun j hj => wpOp_mono (fun a' w' h' => ⟨hT _ _ (getD_set_true hi) h'.1, wpAnyT_mono hT fuel _ a' w' (getD_set_true hi) h'.2⟩) (h.2 j hj)⟩
theorem wpAnyT_mono' {T T' : Array Bool → World → Prop} (hT : ∀ L w, T' L w → T L w) : ∀ (fuel : Nat) (L : Array Bool) (a : Act) (w : World), wpAnyT P ops Q T' fuel L a w → wpAnyT P ops Q T fuel L a w
 | 0, _, _, _, h => h
 | fuel + 1, L, _, _, h => ⟨h.1, fun j hj => wpOp_mono (fun a' w' h' => ⟨hT _ _ h'.1, wpAnyT_mono' hT fuel _ a' w' h'.2⟩) (h.2 j hj)⟩
def Valid (ops : Array Oper) (L : Array Bool) : Prop := ∀ k o, ops[k]? = some o → L.getD k false = true → ∀ e ∈ o.after, Region.binds .any e = true → L.getD e.on false = true
def reach (ops : Array Oper) (p : Nat) : Nat → Nat → Bool
 | 0, _ => false
 | f + 1, g => match ops[g]? with
  | some o => o.after.any fun e => Region.binds .any e && (e.on == p || reach ops p f e.on)
  | none => false
theorem reach_listed {L : Array Bool} (hv : Valid ops L) {p : Nat} : ∀ f g o, ops[g]? = some o → reach ops p f g = true → (∀ e ∈ o.after, Region.binds .any e = true → L.getD e.on false = true) → L.getD p false = true := by
 intro f
 induction f with
 | zero => intro g o _ h; simp [reach] at h
 | succ f ih =>
  intro g o ho h hall
  simp only [reach, ho] at h
  obtain ⟨e, he, hb⟩ := Array.any_eq_true'.1 h
  simp only [Bool.and_eq_true, Bool.or_eq_true, beq_iff_eq] at hb
  have hl := hall e he hb.1
  rcases hb.2 with hp | hr
  ·rw [← hp]; exact hl
  ·cases ho' : ops[e.on]? with
   | none =>
    cases f with
    | zero => simp [reach] at hr
    | succ f => simp [reach, ho'] at hr
   | some o' => exact ih e.on o' ho' hr (hv e.on o' ho' hl)
theorem Valid.set {L : Array Bool} (hv : Valid ops L) {i : Nat} (hi : i ∈ Region.ready .any ops L) : Valid ops (L.setIfInBounds i true) := by
 intro k o ho hk e he hb
 obtain ⟨_, oi, hoi, hall⟩ := mem_ready.1 hi
 by_cases hki : i = k
 ·subst hki
  rw [ho] at hoi
  simp only [Option.some.injEq] at hoi
  subst hoi
  exact getD_set_true (hall e he hb)
 ·rw [getD_set_ne false hki] at hk
  exact getD_set_true (hv k o ho hk e he hb)
theorem clear_set {G : List Nat} {L : Array Bool} {i : Nat} (hi : i ∉ G) : clear G (L.setIfInBounds i true) = clear G L := by
 unfold clear
 rw [Bool.eq_iff_iff, List.all_eq_true, List.all_eq_true]
 constructor
 ·intro h g hg
  have := h g hg
  rwa [getD_set_ne false (fun e => hi (by rw [e]; exact hg))] at this
 ·intro h g hg
  rw [getD_set_ne false (fun e => hi (by rw [e]; exact hg))]
  exact h g hg
theorem setC {L : Array Bool} {i j : Nat} (h : j ≠ i) : (L.setIfInBounds j true).setIfInBounds i true = (L.setIfInBounds i true).setIfInBounds j true := Array.setIfInBounds_comm _ _ h
theorem wpAnyT_first {i : Nat} {oi : Oper} {v : Value} {T : Array Bool → World → Prop} (hi : ops[i]? = some oi) (hT : ∀ L w, T (L.setIfInBounds i true) w → T L w) (hsel : ∀ (j : Nat) (o : Oper) cs b, ops[j]? = some o → o.op ≠ .select cs b)
  (hQ : ∀ c a w, Q (.panic c) (a.put oi.dst v) w → Q (.panic c) a w) {V : World → Prop} (hV : ∀ L w, Valid ops L → L.getD i false = false → T L w → V w) :
  ∀ (fuel : Nat) (L : Array Bool) (a : Act) (w : World),
   (∀ j oj, ops[j]? = some oj → j ≠ i → L.getD j true = false → (∀ e ∈ oj.after, Region.binds .any e = true → e.on ≠ i) → oi.apart ops oj = true) →
   Valid ops L → i ∈ Region.ready .any ops L → YieldsIf P ops V oi v a → V w →
   wpAnyT P ops Q T fuel (L.setIfInBounds i true) (a.put oi.dst v) w → T (L.setIfInBounds i true) w → wpAnyT P ops Q T (fuel + 1) L a w := by
 intro fuel
 induction fuel with
 | zero =>
  intro L a w _ _ hr hy hS H hW
  refine ⟨fun h => (by rw [h] at hr; cases hr), fun j hj => ?_⟩
  by_cases hji : j = i
  ·subst hji; exact hy.wpOp hi hS ⟨hW, H⟩
  ·have := ready_mono hj hji
   rw [H.1] at this
   cases this
 | succ fuel ih =>
  intro L a w hfree hv hr hy hS H hW
  refine ⟨fun h => (by rw [h] at hr; cases hr), fun j hj => ?_⟩
  by_cases hji : j = i
  ·subst hji; exact hy.wpOp hi hS ⟨hW, H⟩
  ·have h1 := H.2 j (ready_mono hj hji)
   obtain ⟨hjun, oj, hoj, hall⟩ := mem_ready.1 hj
   have hil : L.getD i false = false := by
    have h0 := (mem_ready.1 hr).1
    rcases Nat.lt_or_ge i L.size with h' | h'
    ·simp [h'] at h0 ⊢; exact h0
    ·simp [Array.getElem?_eq_none h']
   have hnot : ∀ e ∈ oj.after, Region.binds .any e = true → e.on ≠ i := fun e he hb heq => by
    have h1 := hall e he hb
    rw [heq, hil] at h1
    cases h1
   have h2 := wpOp_putIf hoj (hfree j oj hoj hji hjun hnot) (fun cs b => hsel i oi cs b hi) (fun cs b => hsel j oj cs b hoj) hQ hy h1
   have hfree' : ∀ k ok, ops[k]? = some ok → k ≠ i → (L.setIfInBounds j true).getD k true = false →
     (∀ e ∈ ok.after, Region.binds .any e = true → e.on ≠ i) → oi.apart ops ok = true := fun k ok hk hki hun hno => by
    refine hfree k ok hk hki ?_ hno
    by_cases hjk : j = k
    ·subst hjk; exact hjun
    ·rw [getD_set_ne true hjk] at hun; exact hun
   refine wpOp_mono (fun a' w' h3 => ?_) h2
   have hW' : T (L.setIfInBounds j true) w' := hT _ _ (by rw [setC hji]; exact h3.2.1)
   have hil' : (L.setIfInBounds j true).getD i false = false := by rw [getD_set_ne false hji]; exact hil
   exact ⟨hW', ih (L.setIfInBounds j true) a' w' hfree' (hv.set hj) (ready_mono hr (Ne.symm hji)) h3.1 (hV _ _ (hv.set hj) hil' hW') (by rw [setC hji]; exact h3.2.2)
    (by rw [setC hji]; exact h3.2.1)⟩
theorem wpAnyT_only {i : Nat} {T : Array Bool → World → Prop} {fuel : Nat} {L : Array Bool} {a : Act} {w : World} (hr : Region.ready .any ops L = [i])
  (h : wpOp P ops Q i (fun a' w' => T (L.setIfInBounds i true) w' ∧ wpAnyT P ops Q T fuel (L.setIfInBounds i true) a' w') a w) : wpAnyT P ops Q T (fuel + 1) L a w :=
 ⟨fun h0 => (by rw [hr] at h0; cases h0), fun j hj => (by rw [hr] at hj; simp at hj; subst hj; exact h)⟩
theorem wpAnyT_two {i j : Nat} {T : Array Bool → World → Prop} {fuel : Nat} {L : Array Bool} {a : Act} {w : World} (hr : Region.ready .any ops L = [i, j])
  (h : wpOp P ops Q i (fun a' w' => T (L.setIfInBounds i true) w' ∧ wpAnyT P ops Q T fuel (L.setIfInBounds i true) a' w') a w)
  (h' : wpOp P ops Q j (fun a' w' => T (L.setIfInBounds j true) w' ∧ wpAnyT P ops Q T fuel (L.setIfInBounds j true) a' w') a w) : wpAnyT P ops Q T (fuel + 1) L a w :=
 ⟨fun h0 => (by rw [hr] at h0; cases h0), fun k hk => (by
  rw [hr] at hk
  simp only [List.mem_cons, List.not_mem_nil, or_false] at hk
  rcases hk with rfl | rfl
  ·exact h
  ·exact h')⟩
theorem wpAnyT_three {i j k : Nat} {T : Array Bool → World → Prop} {fuel : Nat} {L : Array Bool} {a : Act} {w : World} (hr : Region.ready .any ops L = [i, j, k])
  (hi : wpOp P ops Q i (fun a' w' => T (L.setIfInBounds i true) w' ∧ wpAnyT P ops Q T fuel (L.setIfInBounds i true) a' w') a w)
  (hj : wpOp P ops Q j (fun a' w' => T (L.setIfInBounds j true) w' ∧ wpAnyT P ops Q T fuel (L.setIfInBounds j true) a' w') a w)
  (hk : wpOp P ops Q k (fun a' w' => T (L.setIfInBounds k true) w' ∧ wpAnyT P ops Q T fuel (L.setIfInBounds k true) a' w') a w) : wpAnyT P ops Q T (fuel + 1) L a w :=
 ⟨fun h0 => (by rw [hr] at h0; cases h0), fun q hk => (by
  rw [hr] at hk
  simp only [List.mem_cons, List.not_mem_nil, or_false] at hk
  rcases hk with rfl | rfl | rfl
  ·exact hi
  ·exact hj
  ·exact hk)⟩
theorem wpAnyT_four {i j k l : Nat} {T : Array Bool → World → Prop} {fuel : Nat} {L : Array Bool} {a : Act} {w : World} (hr : Region.ready .any ops L = [i, j, k, l])
  (hi : wpOp P ops Q i (fun a' w' => T (L.setIfInBounds i true) w' ∧ wpAnyT P ops Q T fuel (L.setIfInBounds i true) a' w') a w)
  (hj : wpOp P ops Q j (fun a' w' => T (L.setIfInBounds j true) w' ∧ wpAnyT P ops Q T fuel (L.setIfInBounds j true) a' w') a w)
  (hk : wpOp P ops Q k (fun a' w' => T (L.setIfInBounds k true) w' ∧ wpAnyT P ops Q T fuel (L.setIfInBounds k true) a' w') a w)
  (hl : wpOp P ops Q l (fun a' w' => T (L.setIfInBounds l true) w' ∧ wpAnyT P ops Q T fuel (L.setIfInBounds l true) a' w') a w) : wpAnyT P ops Q T (fuel + 1) L a w :=
 ⟨fun h0 => (by rw [hr] at h0; cases h0), fun q hk => (by
  rw [hr] at hk
  simp only [List.mem_cons, List.not_mem_nil, or_false] at hk
  rcases hk with rfl | rfl | rfl | rfl
  ·exact hi
  ·exact hj
  ·exact hk
  ·exact hl)⟩
theorem wpAnyT_done {T : Array Bool → World → Prop} {L : Array Bool} {a : Act} {w : World} (hr : Region.ready .any ops L = []) (h : Q .normal a w) : ∀ fuel, wpAnyT P ops Q T fuel L a w
 | 0 => ⟨hr, h⟩
 | _ + 1 => ⟨fun _ => h, by rw [hr]; simp⟩
end
end Go.Eng
