/- Part of a proof: see the last text. -/
import Derived.Test.YtelhdhofnohkcaaGreatDoorG04
import Derived.Test.YtelhdhofnohkcaaGreatDoorG05
import Derived.Test.YtelhdhofnohkcaaGreatDoorG12
import Derived.Test.YtelhdhofnohkcaaGreatDoorG03
set_option linter.unusedVariables false
set_option linter.unusedSimpArgs false
set_option linter.unusedSectionVars false
namespace Go.Eng
open Go.RowKit Go.WideShapes Go.ChangeShapes
variable {P : Program} [HasGlob P] {n : Nat} {S : St} {Q : Exit → St → Prop}
theorem awp_frzrow {c : Code} (t : Nat) {s g e k : Nat} {es : List (List D)} (hl : look S.slots t = some (.own s g)) (hx : look S.heap s = some (g, .row e k es))
  (h : AWp P n c ((S.drop s).put t (.sl k es)) Q) : AWp P n c S Q := by
 intro w0 B C0 C a w E I
 have hH := I.heap s g _ hx
 obtain ⟨u, xs, h1, h2, _⟩ := hH
 refine h E (Inv.reslot (I.leave hx) (d := .own s g) hl fun v hv' => ?_)
 cases hv' with
 | own _ _ _ q1 _ =>
  have q1 : C.val s g = some v := q1
  rw [h1] at q1
  simp only [Option.some.injEq] at q1
  subst q1
  refine row_rep (I.heap s g _ hx) h1 (Ext.kill C w s g) fun b hb => ⟨fun ⟨s', g', u', p1, p2, p3⟩ => ?_, rfl⟩
  simp only [Ctx.kill] at p1 p2
  split at p2
  ·cases p2
  ·rename_i hne
   exact hne (I.apart s' g' u' s g _ b p1 p2 h1 h2 p3 hb)
variable {P : Program} [HasGlob P]
theorem opensZVD_agg {α : Type} {t : TypeId} {f : α → List D} {Q : α → Prop} {fs : Array Field} (ht : P.underlying t = some (.struct fs)) (h : OpensZD P t f Q) : OpensZVD P t (fun a => .agg (f a)) Q := fun enc w spare held base v d ps hok ⟨fuel, hd⟩ hw0 => by
 unfold Value.okWide at hok
 rw [ht] at hok
 obtain ⟨cs, rfl, _⟩ := hok
 obtain ⟨a, h1, h2⟩ := h enc w spare held fuel _ _ hd hw0
 refine ⟨a, .agg _ _ (by simpa [Value.cells] using h1.1) (fun j c u hc hu => h1.2 j c u hc (by simpa [Value.cells] using hu)), h2⟩
theorem opensZV_agg {α : Type} {t : TypeId} {f : α → List D} {Q : α → Prop} {fs : Array Field} (ht : P.underlying t = some (.struct fs)) (h : OpensZ P t f Q) : OpensZV P t (fun a => .agg (f a)) Q := ⟨opensZVD_agg ht (@OpensZ.run _ _ _ _ _ h)⟩
end Go.Eng
namespace Go.Fm
theorem padded_none {f : Fld} (h : f.wd = -1) (s : List UInt8) : paddedV f s = s := by
 unfold paddedV
 rw [if_pos (by omega)]
/-! a field with a width -/
def fdW (lf : Bool) (w : Int) (c : UInt8) : Fld := { fd0 with lf := lf, wd := w, lt := c }
theorem rd_plain : (lets.all fun c => decide (readV [37, c] = some [fdW false (-1) c])) = true := by decide +kernel
theorem rd_right : ((List.range 200).all fun k => lets.all fun c => decide (readV (37 :: showB 10 ((k + 1 : Nat) : Int) ++ [c]) = some [fdW false ((k + 1 : Nat) : Int) c])) = true := by decide +kernel
theorem rd_left : ((List.range 200).all fun k => lets.all fun c => decide (readV (37 :: 45 :: showB 10 ((k + 1 : Nat) : Int) ++ [c]) = some [fdW true ((k + 1 : Nat) : Int) c])) = true := by decide +kernel
theorem run_one {form : List UInt8} {f : Fld} {a : Ag} (h : readV form = some [f]) (hc : f.lt ≠ 0) (hw : f.wd ≠ -2) (hp : f.pr ≠ -2) (hn : f.nm = []) (hlen : ∀ t, putV f a = some t → t.length ≤ 100000) :
  runV form [a] = match putV f a with | none => ([], 0, 1) | some t => (t, 1, 0) := by
 have hs : starsV [a] 0 f = (0, 0, f) := by
  unfold starsV starW starP
  simp [hw, hp]
 have ho : ofA [a] 0 f.nm = (a, 0, 1) := by unfold ofA; simp [hn]
 have hf : fillV [a] 0 f = match putV f a with | none => ([], 1, 1) | some t => (t, 0, 1) := by
  unfold fillV
  rw [if_neg hc, hs]
  simp only [ho]
  rfl
 unfold runV
 rw [h]
 show fillsV [a] [f] 0 [] = _
 simp only [fillsV, hf]
 cases hp : putV f a with
 | none => simp
 | some t =>
  have := hlen t hp
  simp [fillsV]
  omega
theorem pad_plain (c : UInt8) (s : List UInt8) : paddedV (fdW false (-1) c) s = s := padded_none rfl s
theorem num_wide (lf : Bool) (w : Int) (c : UInt8) (n : Int) : numV (fdW lf w c) n = paddedV (fdW lf w c) (numV (fdW false (-1) c) n) := by
 have z : ∀ b w, (fdW b w c).ze = false := fun _ _ => rfl
 have z' : ∀ b w, (fdW b w c).ha = false := fun _ _ => rfl
 have e : ∀ b w, numV (fdW b w c) n = paddedV (fdW b w c) (signV (fdW b w c) n ++ digsV (fdW b w c) n) := fun b w => by
  unfold numV
  simp [z, z']
 rw [e, e, pad_plain]
 rfl
theorem put_wide (lf : Bool) (w : Int) (c : UInt8) (a : Ag) : putV (fdW lf w c) a = (putV (fdW false (-1) c) a).map (paddedV (fdW lf w c)) := by
 have hs : ∀ s, shortV (fdW lf w c) s = s := fun s => by simp [shortV, fdW, fd0]
 have hs' : ∀ s, shortV (fdW false (-1) c) s = s := fun s => by simp [shortV, fdW, fd0]
 unfold putV
 simp only [hs, hs', pad_plain]
 show (if c = 115 then _ else if c = 112 then _ else if c = 99 then _ else _) = _
 have hl : (fdW false (-1) c).lt = c := rfl
 rw [hl]
 split
 ·rfl
 ·split
  ·rfl
  ·split
   ·split
    ·split <;> rfl
    ·split <;> rfl
   ·cases numA a with
    | none => rfl
    | some n => simp [num_wide lf w c n]
theorem pad_len (lf : Bool) {w : Int} {c : UInt8} (s : List UInt8) : ((paddedV (fdW lf w c) s).length : Int) = max w s.length := by
 unfold paddedV
 show ((if w - s.length ≤ 0 then _ else if lf then _ else _ : List UInt8).length : Int) = _
 split
 ·omega
 ·split <;> simp [rep, fdW] <;> omega
theorem pad_right {w : Int} {c : UInt8} (s : List UInt8) : (paddedV (fdW false w c) s).drop ((paddedV (fdW false w c) s).length - s.length) = s := by
 have e : ∃ p, paddedV (fdW false w c) s = p ++ s := by
  unfold paddedV
  split
  ·exact ⟨[], rfl⟩
  ·exact ⟨_, rfl⟩
 obtain ⟨p, hp⟩ := e
 rw [hp, List.length_append, Nat.add_sub_cancel, List.drop_left]
theorem pad_left {w : Int} {c : UInt8} (s : List UInt8) : (paddedV (fdW true w c) s).take s.length = s := by
 have e : ∃ p, paddedV (fdW true w c) s = s ++ p := by
  unfold paddedV
  split
  ·exact ⟨[], by simp⟩
  ·exact ⟨_, rfl⟩
 obtain ⟨p, hp⟩ := e
 rw [hp, List.take_left]
end Go.Fm
namespace Go.Proofs.YtelhdhofnohkcaaGreatDoor
open Go.Eng Go.Fm
set_option maxRecDepth 20000
attribute [local irreducible] AG CallA CallT AWp PCall ACall AgC
theorem let_one (p : Pk) : ∃ c ∈ lets, letT p = [c] := by
 have h := mdU_lt p.lt (m := 8) (by decide)
 unfold letT
 have : mdU p.lt 8 = 0 ∨ mdU p.lt 8 = 1 ∨ mdU p.lt 8 = 2 ∨ mdU p.lt 8 = 3 ∨ mdU p.lt 8 = 4 ∨ mdU p.lt 8 = 5 ∨ mdU p.lt 8 = 6 ∨ mdU p.lt 8 = 7 := by omega
 rcases this with h | h | h | h | h | h | h | h <;> rw [h] <;> exact ⟨_, by decide, rfl⟩
def pkW (p : Pk) : Pk := ⟨0, 0, 0, p.lt, p.n, 1, p.tx⟩
theorem flags_none : flagsV 0 5 = [] := by decide +kernel
theorem mdU_zero : mdU 0 16 = 0 := by decide +kernel
theorem mdU_one : mdU 1 8 = 1 := by decide +kernel
theorem madeT_wide (p : Pk) : madeT (pkW p) false = 37 :: letT p := by
 unfold madeT headT
 show [37] ++ flagsV 0 5 ++ widT false (mdU 0 16) ++ preT false (mdU 0 16) ++ letT p = _
 rw [flags_none, mdU_zero]
 rfl
theorem madeA_wide (p : Pk) : madeA (pkW p) false = [lastA (pkW p)] := by
 unfold madeA widA preA
 show (if mdU 0 16 < 14 ∨ false = true then [] else _) ++ (if mdU 0 16 < 14 ∨ false = true then [] else _) ++ _ = _
 rw [mdU_zero]
 rfl
theorem last_wide (p : Pk) : (lastA (pkW p)).is = false := by
 show decide (mdU 1 8 = 0) = false
 rw [mdU_one]; rfl
theorem put_small {c : UInt8} {a : Ag} (ha : a.is = false) (hI : InR a.int) {t : Bs} (h : putV (fdW false (-1) c) a = some t) : t.length ≤ 200 := by
 have hx : (textV a).length ≤ 65 := by unfold textV; rw [ha]; exact showB_len hI
 have hs : ∀ s, shortV (fdW false (-1) c) s = s := fun s => by simp [shortV, fdW, fd0]
 have hl : (fdW false (-1) c).lt = c := rfl
 unfold putV at h
 simp only [hs, pad_plain, hl] at h
 split at h
 ·cases h; omega
 ·split at h
  ·cases h
   rw [quoV_qF, List.length_append, List.length_cons, qF_len]
   have := cntS_le (textV a)
   simp; omega
  ·split at h
   ·rw [ha] at h
    simp only [Bool.false_eq_true, if_false] at h
    split at h
    ·cases h
    ·cases h; simp
   ·have hn : numA a = some a.int := by unfold numA; rw [if_pos ha]
    rw [hn] at h
    cases h
    have z : (fdW false (-1) c).ze = false := rfl
    have z' : (fdW false (-1) c).ha = false := rfl
    have e : numV (fdW false (-1) c) a.int = signV (fdW false (-1) c) a.int ++ digsV (fdW false (-1) c) a.int := by
     unfold numV
     simp only [z, z', pad_plain]
     simp
    rw [e, List.length_append]
    have h1 : (signV (fdW false (-1) c) a.int).length ≤ 1 := by
     unfold signV
     repeat' split
     all_goals simp
    have h2 : (digsV (fdW false (-1) c) a.int).length ≤ 64 := by
     have hb : 2 ≤ baseV c := by unfold baseV; (repeat' split) <;> omega
     have ht := txt_len hb (n := a.int.natAbs) (by unfold InR at hI; omega)
     unfold digsV
     simp only [hl]
     have hp : (fdW false (-1) c).pr = -1 := rfl
     rw [hp]
     rw [if_neg (show ¬ ((-1 : Int) = 0 ∧ a.int = 0) by omega)]
     have : (if c = 88 then (txtB (baseV c) a.int.natAbs).map upC else txtB (baseV c) a.int.natAbs).length ≤ 64 := by
      split
      ·rw [List.length_map]; exact ht
      ·exact ht
     rw [if_neg (by omega)]
     exact this
    omega
theorem lets_ne {c : UInt8} (h : c ∈ lets) : c ≠ 0 := by
 intro e; subst e; revert h; decide
theorem run_wide (lf : Bool) (w : Int) {c : UInt8} {a : Ag} {form : Bs} (hr : readV form = some [fdW lf w c]) (hc : c ∈ lets) (hw0 : -1 ≤ w) (hw : w ≤ 1000) (ha : a.is = false) (hI : InR a.int) :
  runV form [a] = match putV (fdW false (-1) c) a with | none => ([], 0, 1) | some t => (paddedV (fdW lf w c) t, 1, 0) := by
 rw [run_one hr (lets_ne hc) (show w ≠ -2 by omega) (show (-1 : Int) ≠ -2 by omega) rfl (fun t ht => ?_)]
 ·rw [put_wide]
  cases putV (fdW false (-1) c) a <;> rfl
 ·rw [put_wide] at ht
  cases hp : putV (fdW false (-1) c) a with
  | none => rw [hp] at ht; cases ht
  | some s =>
   rw [hp] at ht
   cases ht
   have h1 := put_small ha hI hp
   have h2 := pad_len lf (w := w) (c := c) s
   omega
theorem w200 (x : Int) : Int.tmod (IntKind.u64.wrap x) 200 = (mdU x 200 : Nat) := mdU_eq x 200 (by decide)
set_option maxHeartbeats 16000000 in
theorem wide_spec (p : Pk) (width : Int) (hp : PkOk p) (hw : InR width) : PCall Tryz.prog 5 [dPk p, dI width] fun r => r = dB true := by 
 refine pcall_of Tryz.func5 rfl rfl Tryz.ntmps5 (rs := [.tmp 4]) (tys := [4]) rfl rfl (by simp) ?_
 obtain ⟨p1, p2, p3, p4, p5, p6⟩ := hp
 have hpk : PkOk (pkW p) := ⟨by simp [pkW, InR], by simp [pkW, InR], by simp [pkW, InR], p4, p5, by simp [pkW, InR]⟩
 have hM := made_spec (pkW p) false hpk
 rw [madeT_wide, madeA_wide] at hM
 obtain ⟨c, hc, hlet⟩ := let_one p
 rw [hlet] at hM
 have hAo := last_ok hpk
 have hAi := last_wide p
 have hk := mdU_lt width (m := 200) (by decide)
 have hInW : InR (1 + (mdU width 200 : Int)) := by unfold InR; omega
 have hIt := itoa_spec (1 + (mdU width 200 : Int)) hInW
 have r0 : readV [37, c] = some [fdW false (-1) c] := of_decide_eq_true (List.all_eq_true.1 rd_plain c hc)
 have r1 : readV (37 :: showB 10 (1 + (mdU width 200 : Int)) ++ [c]) = some [fdW false (1 + (mdU width 200 : Int)) c] := by
  have := of_decide_eq_true (List.all_eq_true.1 (List.all_eq_true.1 rd_right (mdU width 200) (List.mem_range.2 hk)) c hc)
  rw [show (1 + (mdU width 200 : Int)) = ((mdU width 200 + 1 : Nat) : Int) by omega]
  exact this
 have r2 : readV (37 :: 45 :: showB 10 (1 + (mdU width 200 : Int)) ++ [c]) = some [fdW true (1 + (mdU width 200 : Int)) c] := by
  have := of_decide_eq_true (List.all_eq_true.1 (List.all_eq_true.1 rd_left (mdU width 200) (List.mem_range.2 hk)) c hc)
  rw [show (1 + (mdU width 200 : Int)) = ((mdU width 200 + 1 : Nat) : Int) by omega]
  exact this
 have hsl : (showB 10 (1 + (mdU width 200 : Int))).length ≤ 65 := showB_len hInW
 have q0 := run_wide false (-1) r0 hc (by omega) (by omega) hAi hAo.1
 have q1 := run_wide false (1 + (mdU width 200 : Int)) r1 hc (by omega) (by omega) hAi hAo.1
 have q2 := run_wide true (1 + (mdU width 200 : Int)) r2 hc (by omega) (by omega) hAi hAo.1
 have hps : ∀ t, putV (fdW false (-1) c) (lastA (pkW p)) = some t → t.length ≤ 200 := fun t h => put_small hAi hAo.1 h
 have hAs : AgsOk [lastA (pkW p)] := ⟨by simp, fun a ha => by rw [List.mem_singleton.1 ha]; exact hAo⟩
 have f0 := format_spec [37, c] [lastA (pkW p)] hAs (by simp)
 have f1 := format_spec (37 :: showB 10 (1 + (mdU width 200 : Int)) ++ [c]) [lastA (pkW p)] hAs (by simp; omega)
 have f2 := format_spec (37 :: 45 :: showB 10 (1 + (mdU width 200 : Int)) ++ [c]) [lastA (pkW p)] hAs (by simp; omega)
 rw [q0] at f0
 rw [q1] at f1
 rw [q2] at f2
 have hMd : dPk (pkW p) = .agg [dI 0, dI 0, dI 0, dI p.lt, dI p.n, dI 1, dS p.tx] := rfl
 rw [hMd] at hM
 clear q0 q1 q2 r0 r1 r2 hMd
 generalize lastA (pkW p) = A at *
 generalize hW : (1 + (mdU width 200 : Int)) = w at *
 generalize showB 10 w = sw at *
 generalize hP : putV (fdW false (-1) c) A = P at *
 have hc1 : ({ data := #[37, c] } : ByteArray).extract 1 2 = { data := #[c] } := rfl
 have hc2 : ({ data := #[37] } : ByteArray) ++ { data := sw.toArray } ++ { data := #[c] } = { data := (37 :: sw ++ [c]).toArray } := by
  rw [show (#[37] : Array UInt8) = [37].toArray from rfl, show (#[c] : Array UInt8) = [c].toArray from rfl, ba_app, ba_app]; rfl
 have hc3 : ({ data := #[37, 45] } : ByteArray) ++ { data := sw.toArray } ++ { data := #[c] } = { data := (37 :: 45 :: sw ++ [c]).toArray } := by
  rw [show (#[37, 45] : Array UInt8) = [37, 45].toArray from rfl, show (#[c] : Array UInt8) = [c].toArray from rfl, ba_app, ba_app]; rfl
 (refine awp_sr fun Y Yh => ?_; simp [go_sem]; ((repeat' (first|(refine ag_x ?_;simp [go_sem])|intro _|apply And.intro|(apply Yh;clear Yh Y)));all_goals first|apply Hold.mk|omega|with_reducible assumption|skip))
 refine awp_frzbox 2 rfl rfl ?_
 simp only [go_sem]
 (refine awp_sr fun Y Yh => ?_; simp [go_sem, w200, hW]; ((repeat' (first|(refine ag_x ?_;simp [go_sem, w200, hW])|intro _|apply And.intro|(apply Yh;clear Yh Y)));all_goals first|apply Hold.mk|omega|with_reducible assumption|skip))
 (refine awp_sr fun Y Yh => ?_; simp [go_sem]; ((repeat' (first|(refine ag_x ?_;simp [go_sem])|intro _|apply And.intro|(apply Yh;clear Yh Y)));all_goals first|apply Hold.mk|omega|with_reducible assumption|skip))
 (refine callA_l [900030] (.inl ⟨rfl,rfl⟩) (by simp [go_sem]) ?_; intro args ha; simp [go_sem] at ha; subst ha; refine ⟨_, _, hM, (by simp [go_sem]), ?_⟩; rintro ps r hps ⟨ga, rfl, rfl⟩; simp [go_sem]; ((repeat' (first|(refine ag_x ?_;simp [go_sem])|intro _|apply And.intro|(apply Yh;clear Yh Y)));all_goals first|apply Hold.mk|omega|with_reducible assumption|skip))
 refine awp_frzrow 7 rfl rfl ?_
 simp only [go_sem]
 cases P with
 | none =>
  simp only at f0 f1 f2
  (refine awp_sr fun Y Yh => ?_; simp [go_sem]; ((repeat' (first|(refine ag_x ?_;simp [go_sem])|intro _|apply And.intro|(apply Yh;clear Yh Y)));all_goals first|apply Hold.mk|omega|with_reducible assumption|skip))
  ((try refine CallT.toA ?_); refine callT_m (.inl ⟨rfl,rfl⟩) (by simp [go_sem]) ?_; intro args ha; simp [go_sem] at ha; subst ha; refine ⟨_, f0, ?_⟩; rintro _ rfl; simp [go_sem]; ((repeat' (first|(refine ag_x ?_;simp [go_sem])|intro _|apply And.intro|(apply Yh;clear Yh Y)));all_goals first|apply Hold.mk|omega|with_reducible assumption|skip))
  ((refine awp_dr (.qs [0, 3, 4, 6] (.one 1 (.qs [2, 5] (.one 7 (.qs [8, 9, 10, 11, 12] (.nil)))))) (by kernel_rfl) ?_ ?_ ?_ ?_); (kernel_rfl); (exact (by decide +kernel)); (kernel_rfl); intro Y Yh; ((repeat' (first|(refine ag_x ?_;simp [go_sem, hc1])|refine adr_nil ?_|((first|refine adr_qs fun Y Yh=>?_|refine adr_y fun Y Yh=>?_);simp [go_sem, hc1])|intro _|apply And.intro|(apply Yh;clear Yh Y)));all_goals first|apply Hold.mk|omega|with_reducible assumption|skip))
  ((try refine CallT.toA ?_); refine callT_m (.inl ⟨rfl,rfl⟩) (by simp [go_sem]) ?_; intro args ha; simp [go_sem] at ha; subst ha; refine ⟨_, hIt, ?_⟩; rintro _ rfl; simp [go_sem]; ((repeat' (first|(refine ag_x ?_;simp [go_sem])|refine adr_nil ?_|((first|refine adr_qs fun Y Yh=>?_|refine adr_y fun Y Yh=>?_);simp [go_sem])|intro _|apply And.intro|(apply Yh;clear Yh Y)));all_goals first|apply Hold.mk|omega|with_reducible assumption|skip))
  simp only [hc2]
  ((try refine CallT.toA ?_); refine callT_m (.inl ⟨rfl,rfl⟩) (by simp [go_sem]) ?_; intro args ha; simp [go_sem] at ha; subst ha; refine ⟨_, f1, ?_⟩; rintro _ rfl; simp [go_sem]; ((repeat' (first|(refine ag_x ?_;simp [go_sem])|refine adr_nil ?_|((first|refine adr_qs fun Y Yh=>?_|refine adr_y fun Y Yh=>?_);simp [go_sem])|intro _|apply And.intro|(apply Yh;clear Yh Y)));all_goals first|apply Hold.mk|omega|with_reducible assumption|skip))
  ((refine awp_dr (.qs [0, 3, 4, 6] (.one 1 (.qs [2, 5] (.one 7 (.qs [8, 9, 10, 11, 12] (.nil)))))) (by kernel_rfl) ?_ ?_ ?_ ?_); (kernel_rfl); (exact (by decide +kernel)); (kernel_rfl); intro Y Yh; ((repeat' (first|(refine ag_x ?_;simp [go_sem, hc1])|refine adr_nil ?_|((first|refine adr_qs fun Y Yh=>?_|refine adr_y fun Y Yh=>?_);simp [go_sem, hc1])|intro _|apply And.intro|(apply Yh;clear Yh Y)));all_goals first|apply Hold.mk|omega|with_reducible assumption|skip))
  ((try refine CallT.toA ?_); refine callT_m (.inl ⟨rfl,rfl⟩) (by simp [go_sem]) ?_; intro args ha; simp [go_sem] at ha; subst ha; refine ⟨_, hIt, ?_⟩; rintro _ rfl; simp [go_sem]; ((repeat' (first|(refine ag_x ?_;simp [go_sem])|refine adr_nil ?_|((first|refine adr_qs fun Y Yh=>?_|refine adr_y fun Y Yh=>?_);simp [go_sem])|intro _|apply And.intro|(apply Yh;clear Yh Y)));all_goals first|apply Hold.mk|omega|with_reducible assumption|skip))
  simp only [hc3]
  ((try refine CallT.toA ?_); refine callT_m (.inl ⟨rfl,rfl⟩) (by simp [go_sem]) ?_; intro args ha; simp [go_sem] at ha; subst ha; refine ⟨_, f2, ?_⟩; rintro _ rfl; simp [go_sem]; ((repeat' (first|(refine ag_x ?_;simp [go_sem])|refine adr_nil ?_|((first|refine adr_qs fun Y Yh=>?_|refine adr_y fun Y Yh=>?_);simp [go_sem])|intro _|apply And.intro|(apply Yh;clear Yh Y)));all_goals first|apply Hold.mk|omega|with_reducible assumption|skip))
  refine awp_seq_k fun K1 hK1 => ?_
  (refine awp_sr fun Y Yh => ?_; simp [go_sem]; ((repeat' (first|(refine ag_x ?_;simp [go_sem])|intro _|apply And.intro|(apply Yh;clear Yh Y)));all_goals first|apply Hold.mk|omega|with_reducible assumption|skip))
  (refine awp_if fun T F hT hF => ?_; simp [go_sem]; refine hF ?_; clear hT hF T F)
  refine awp_skip ?_
  refine hK1 _ ?_; clear hK1
  refine awp_seq_k fun K3 hK3 => ?_
  (refine awp_sr fun Y Yh => ?_; simp [go_sem]; ((repeat' (first|(refine ag_x ?_;simp [go_sem])|intro _|apply And.intro|(apply Yh;clear Yh Y)));all_goals first|apply Hold.mk|omega|with_reducible assumption|skip))
  (refine awp_if fun T F hT hF => ?_; simp [go_sem]; refine hT ?_; clear hT hF T F)
  (refine awp_sr fun Y Yh => ?_; simp [go_sem]; ((repeat' (first|(refine ag_x ?_;simp [go_sem])|intro _|apply And.intro|(apply Yh;clear Yh Y)));all_goals first|apply Hold.mk|omega|with_reducible assumption|skip))
  ((try refine CallT.toA ?_); refine callT_m (.inl ⟨rfl,rfl⟩) (by simp [go_sem]) ?_; intro args ha; simp [go_sem] at ha; subst ha; refine ⟨_, sane_spec, ?_⟩; rintro _ rfl; simp [go_sem]; ((repeat' (first|(refine ag_x ?_;simp [go_sem])|intro _|apply And.intro|(apply Yh;clear Yh Y)));all_goals first|apply Hold.mk|omega|with_reducible assumption|skip))
  (refine awp_ret ?_; simp [go_sem])
 | some t =>
  simp only at f0 f1 f2
  rw [pad_plain] at f0
  have ht := hps t rfl
  have hRl := pad_len false (w := w) (c := c) t
  have hLl := pad_len true (w := w) (c := c) t
  have hRd := pad_right (w := w) (c := c) t
  have hLt := pad_left (w := w) (c := c) t
  generalize paddedV (fdW false w c) t = R at *
  generalize paddedV (fdW true w c) t = L at *
  have hLR : L.length = R.length := by omega
  have htR : t.length ≤ R.length := by omega
  have hR2 : R.length ≤ 1000 := by omega
  (refine awp_sr fun Y Yh => ?_; simp [go_sem]; ((repeat' (first|(refine ag_x ?_;simp [go_sem])|intro _|apply And.intro|(apply Yh;clear Yh Y)));all_goals first|apply Hold.mk|omega|with_reducible assumption|skip))
  ((try refine CallT.toA ?_); refine callT_m (.inl ⟨rfl,rfl⟩) (by simp [go_sem]) ?_; intro args ha; simp [go_sem] at ha; subst ha; refine ⟨_, f0, ?_⟩; rintro _ rfl; simp [go_sem]; ((repeat' (first|(refine ag_x ?_;simp [go_sem])|intro _|apply And.intro|(apply Yh;clear Yh Y)));all_goals first|apply Hold.mk|omega|with_reducible assumption|skip))
  ((refine awp_dr (.qs [0, 3, 4, 6] (.one 1 (.qs [2, 5] (.one 7 (.qs [8, 9, 10, 11, 12] (.nil)))))) (by kernel_rfl) ?_ ?_ ?_ ?_); (kernel_rfl); (exact (by decide +kernel)); (kernel_rfl); intro Y Yh; ((repeat' (first|(refine ag_x ?_;simp [go_sem, hc1])|refine adr_nil ?_|((first|refine adr_qs fun Y Yh=>?_|refine adr_y fun Y Yh=>?_);simp [go_sem, hc1])|intro _|apply And.intro|(apply Yh;clear Yh Y)));all_goals first|apply Hold.mk|omega|with_reducible assumption|skip))
  ((try refine CallT.toA ?_); refine callT_m (.inl ⟨rfl,rfl⟩) (by simp [go_sem]) ?_; intro args ha; simp [go_sem] at ha; subst ha; refine ⟨_, hIt, ?_⟩; rintro _ rfl; simp [go_sem]; ((repeat' (first|(refine ag_x ?_;simp [go_sem])|refine adr_nil ?_|((first|refine adr_qs fun Y Yh=>?_|refine adr_y fun Y Yh=>?_);simp [go_sem])|intro _|apply And.intro|(apply Yh;clear Yh Y)));all_goals first|apply Hold.mk|omega|with_reducible assumption|skip))
  simp only [hc2]
  ((try refine CallT.toA ?_); refine callT_m (.inl ⟨rfl,rfl⟩) (by simp [go_sem]) ?_; intro args ha; simp [go_sem] at ha; subst ha; refine ⟨_, f1, ?_⟩; rintro _ rfl; simp [go_sem]; ((repeat' (first|(refine ag_x ?_;simp [go_sem])|refine adr_nil ?_|((first|refine adr_qs fun Y Yh=>?_|refine adr_y fun Y Yh=>?_);simp [go_sem])|intro _|apply And.intro|(apply Yh;clear Yh Y)));all_goals first|apply Hold.mk|omega|with_reducible assumption|skip))
  ((refine awp_dr (.qs [0, 3, 4, 6] (.one 1 (.qs [2, 5] (.one 7 (.qs [8, 9, 10, 11, 12] (.nil)))))) (by kernel_rfl) ?_ ?_ ?_ ?_); (kernel_rfl); (exact (by decide +kernel)); (kernel_rfl); intro Y Yh; ((repeat' (first|(refine ag_x ?_;simp [go_sem, hc1])|refine adr_nil ?_|((first|refine adr_qs fun Y Yh=>?_|refine adr_y fun Y Yh=>?_);simp [go_sem, hc1])|intro _|apply And.intro|(apply Yh;clear Yh Y)));all_goals first|apply Hold.mk|omega|with_reducible assumption|skip))
  ((try refine CallT.toA ?_); refine callT_m (.inl ⟨rfl,rfl⟩) (by simp [go_sem]) ?_; intro args ha; simp [go_sem] at ha; subst ha; refine ⟨_, hIt, ?_⟩; rintro _ rfl; simp [go_sem]; ((repeat' (first|(refine ag_x ?_;simp [go_sem])|refine adr_nil ?_|((first|refine adr_qs fun Y Yh=>?_|refine adr_y fun Y Yh=>?_);simp [go_sem])|intro _|apply And.intro|(apply Yh;clear Yh Y)));all_goals first|apply Hold.mk|omega|with_reducible assumption|skip))
  simp only [hc3]
  ((try refine CallT.toA ?_); refine callT_m (.inl ⟨rfl,rfl⟩) (by simp [go_sem]) ?_; intro args ha; simp [go_sem] at ha; subst ha; refine ⟨_, f2, ?_⟩; rintro _ rfl; simp [go_sem]; ((repeat' (first|(refine ag_x ?_;simp [go_sem])|refine adr_nil ?_|((first|refine adr_qs fun Y Yh=>?_|refine adr_y fun Y Yh=>?_);simp [go_sem])|intro _|apply And.intro|(apply Yh;clear Yh Y)));all_goals first|apply Hold.mk|omega|with_reducible assumption|skip))
  refine awp_seq_k fun K1 hK1 => ?_
  (refine awp_sr fun Y Yh => ?_; simp [go_sem]; ((repeat' (first|(refine ag_x ?_;simp [go_sem])|intro _|apply And.intro|(apply Yh;clear Yh Y)));all_goals first|apply Hold.mk|omega|with_reducible assumption|skip))
  (refine awp_if fun T F hT hF => ?_; simp [go_sem]; refine hF ?_; clear hT hF T F)
  refine awp_skip ?_
  refine hK1 _ ?_; clear hK1
  refine awp_seq_k fun K3 hK3 => ?_
  (refine awp_sr fun Y Yh => ?_; simp [go_sem]; ((repeat' (first|(refine ag_x ?_;simp [go_sem])|intro _|apply And.intro|(apply Yh;clear Yh Y)));all_goals first|apply Hold.mk|omega|with_reducible assumption|skip))
  (refine awp_if fun T F hT hF => ?_; simp [go_sem]; refine hF ?_; clear hT hF T F)
  refine awp_skip ?_
  refine hK3 _ ?_; clear hK3
  (refine awp_sr fun Y Yh => ?_; simp [go_sem, ba_size]; ((repeat' (first|(refine ag_x ?_;simp [go_sem, ba_size])|intro _|apply And.intro|(apply Yh;clear Yh Y)));all_goals first|apply Hold.mk|omega|with_reducible assumption|skip))
  have hmx : (if w < (t.length : Int) then (t.length : Int) else w) = (R.length : Int) := by rw [hRl]; split <;> omega
  rw [hmx]
  have hcr : ({ data := R.toArray } : ByteArray).extract (R.length - t.length) R.length = { data := t.toArray } := by rw [ba_cut, List.take_length, hRd]
  have hcl : ({ data := L.toArray } : ByteArray).extract 0 t.length = { data := t.toArray } := by rw [ba_cut, List.drop_zero, hLt]
  (refine awp_sr fun Y Yh => ?_; simp [go_sem, ba_size, hLR, Int.toNat_sub, hcr, hcl, htR]; ((repeat' (first|(refine ag_false ?_ ?_ ?_;(focus (simp [go_sem, undef, ba_size, hLR, Int.toNat_sub, hcr, hcl, htR];done));(focus (simp [go_sem];done));simp [go_sem, ba_size, hLR, Int.toNat_sub, hcr, hcl, htR])|(refine ag_true ?_ ?_;(focus (simp [go_sem, undef, ba_size, hLR, Int.toNat_sub, hcr, hcl, htR];done));simp [go_sem, ba_size, hLR, Int.toNat_sub, hcr, hcl, htR])|(refine ag_x ?_;simp [go_sem, undef, ba_size, hLR, Int.toNat_sub, hcr, hcl, htR])|intro _|apply And.intro|(apply Yh;clear Yh Y)));all_goals first|apply Hold.mk|omega|with_reducible assumption|skip))
  ((try refine CallT.toA ?_); refine callT_m (.inl ⟨rfl,rfl⟩) (by simp [go_sem]) ?_; intro args ha; simp [go_sem] at ha; subst ha; refine ⟨_, sane_spec, ?_⟩; rintro _ rfl; simp [go_sem]; ((repeat' (first|(refine ag_false ?_ ?_ ?_;(focus (simp [go_sem, undef];done));(focus (simp [go_sem];done));simp [go_sem])|(refine ag_true ?_ ?_;(focus (simp [go_sem, undef];done));simp [go_sem])|(refine ag_x ?_;simp [go_sem, undef])|intro _|apply And.intro|(apply Yh;clear Yh Y)));all_goals first|apply Hold.mk|omega|with_reducible assumption|skip))
  (refine awp_ret ?_; simp [go_sem])
end Go.Proofs.YtelhdhofnohkcaaGreatDoor
namespace Go.Proofs.YtelhdhofnohkcaaGreatDoor
open Go.Eng Go.WideShapes Go.Fm
set_option maxRecDepth 100000
theorem ovz_int : OpensZV Tryz.prog 3 dI InR := opensZV_cell (by rw [Tryz.underlying3]; rfl) oz_int
theorem ovz_pick : OpensZV Tryz.prog 30 dPk PkOk := opensZV_agg Tryz.underlying30 oz_pick
end Go.Proofs.YtelhdhofnohkcaaGreatDoor
