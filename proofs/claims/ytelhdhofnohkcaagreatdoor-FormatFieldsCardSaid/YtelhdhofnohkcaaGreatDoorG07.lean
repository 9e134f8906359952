/- Part of a proof: see the last text. -/
import Derived.Test.YtelhdhofnohkcaaGreatDoorG06
import Derived.Test.YtelhdhofnohkcaaGreatDoorG05
import Derived.Laws.Bits64b
import Derived.WalkKit
import Derived.Lib.AtoiAll
set_option linter.unusedVariables false
set_option linter.unusedSimpArgs false
namespace Go.Proofs.YtelhdhofnohkcaaGreatDoor
open Go.Eng Go.Fm
set_option maxRecDepth 20000
attribute [local irreducible] AG CallA CallT AWp PCall ACall AgC
@[go_sem] abbrev fiB (g : Nat) (args : List Ag) (u : Int) : Nat × (Nat × Blk) := (900004, (g, .box [dAs args, dI u]))
def nxtV (args : List Ag) (u : Nat) : Ag × Nat × Nat := match args[u]? with
 | none => (ag0, 14, u)
 | some a => (a, 0, u + 1)
theorem mapA_at {args : List Ag} {u : Nat} {a : Ag} (h : args[u]? = some a) : (args.map cA)[u]? = some (cA a) := by simp [h]
set_option maxHeartbeats 4000000 in
theorem jo (args : List Ag) (u g : Nat) (hu : u ≤ args.length) (hl : args.length ≤ 1000000) :
  ACall Tryz.prog 111 [.ptr 900004 g 0] [fiB g args u] [900004]
   fun ps r => ps = [(g, .box [dAs args, dI (nxtV args u).2.2])] ∧ r = .tup [dA (nxtV args u).1, dI (nxtV args u).2.1] := by 
 refine qY Tryz.func111 rfl rfl Tryz.ntmps111 (rs := [.cell 2 25, .tmp 3]) (tys := [25, 34]) rfl rfl (by simp) (by simp [qO]) ?_
 (refine qc fun Y Yh => ?_; simp [go_sem]; ((repeat' (first|(refine qf ?_;simp [go_sem])|intro _|apply And.intro|(apply Yh;clear Yh Y)));all_goals first|apply QS|omega|with_reducible assumption|skip))
 refine qh fun K1 hK1 => ?_
 ((refine qX (.qs [0, 1, 2, 4, 5, 6, 3, 7, 8, 9] (.nil)) (by kernel_rfl) ?_ ?_ ?_ ?_); (kernel_rfl); (exact (by decide +kernel)); (kernel_rfl); intro Y Yh; ((repeat' (first|(refine qf ?_;simp [go_sem])|refine qC ?_|((first|refine qJ fun Y Yh=>?_|refine qR fun Y Yh=>?_);simp [go_sem])|intro _|apply And.intro|(apply Yh;clear Yh Y)));all_goals first|apply QS|omega|with_reducible assumption|skip))
 by_cases h : u = args.length
 ·have e : nxtV args u = (ag0, 14, u) := by unfold nxtV; rw [List.getElem?_eq_none (by omega)]
  rw [e] at hK1
  (refine qg fun T F hT hF => ?_; simp [go_sem, h]; refine hT ?_; clear hT hF T F)
  (refine qc fun Y Yh => ?_; simp [go_sem]; ((repeat' (first|(refine qf ?_;simp [go_sem])|intro _|apply And.intro|(apply Yh;clear Yh Y)));all_goals first|apply QS|omega|with_reducible assumption|skip))
  (refine qj ?_; simp [go_sem, e, ag0])
 ·have hlt : u < args.length := by omega
  have hx : args[u]? = some args[u] := List.getElem?_eq_getElem hlt
  generalize args[u] = a at hx
  have e : nxtV args u = (a, 0, u + 1) := by unfold nxtV; rw [hx]
  (refine qg fun T F hT hF => ?_; simp [go_sem, h]; refine hF ?_; clear hT hF T F)
  refine qi ?_
  refine hK1 _ ?_; clear hK1
  (refine qc fun Y Yh => ?_; simp [go_sem]; ((repeat' (first|(refine qf ?_;simp [go_sem])|intro _|apply And.intro|(apply Yh;clear Yh Y)));all_goals first|apply QS|omega|with_reducible assumption|skip))
  have e2 : ((u : Int) + 1 - 1).toNat = u := by omega
  ((refine qX (.qs [0, 1, 2, 4, 5, 6, 3, 7, 8, 9, 10] (.one 11 (.qs [12] (.nil)))) (by kernel_rfl) ?_ ?_ ?_ ?_); (kernel_rfl); (exact (by decide +kernel)); (kernel_rfl); intro Y Yh; ((repeat' (first|(refine qf ?_;simp [go_sem, e2, mapA_at hx, hx])|refine qC ?_|((first|refine qJ fun Y Yh=>?_|refine qR fun Y Yh=>?_);simp [go_sem, e2, mapA_at hx, hx])|intro _|apply And.intro|(apply Yh;clear Yh Y)));all_goals first|apply QS|omega|with_reducible assumption|skip))
  (refine qj ?_; simp [go_sem, e])
def fIx {α : Type} (p : α → Bool) (l : List α) : Int := if l.findIdx p < l.length then (l.findIdx p : Int) else -1
theorem fIx_at {α : Type} {p : α → Bool} {l : List α} {i : Nat} {x : α} (h : (l.take i).any p = false) (hx : l[i]? = some x) (hp : p x = true) : fIx p l = i := by
 have hlt : i < l.length := (List.getElem?_eq_some_iff.1 hx).1
 have e : l.findIdx p = i := by
  rw [List.findIdx_eq (h := hlt)]
  refine ⟨by rw [List.getElem?_eq_getElem hlt] at hx; simp at hx; rw [hx]; exact hp, fun j hj => ?_⟩
  rw [List.any_eq_false] at h
  have := h l[j] (by rw [List.mem_iff_getElem]; exact ⟨j, by simp; omega, by simp⟩)
  simpa using this
 unfold fIx
 rw [e, if_pos hlt]
theorem fIx_none {α : Type} {p : α → Bool} {l : List α} (h : l.any p = false) : fIx p l = -1 := by
 unfold fIx
 rw [if_neg]
 rw [List.findIdx_lt_length]
 rintro ⟨x, hx, hp⟩
 rw [List.any_eq_false] at h
 exact absurd hp (h x hx)
theorem find_fIx {α : Type} (p : α → Bool) : ∀ l : List α, (l.find? p = none ∧ fIx p l = -1) ∨ ∃ (i : Nat) (a : α), l.find? p = some a ∧ fIx p l = i ∧ l[i]? = some a
 | [] => .inl ⟨rfl, rfl⟩
 | x :: l => by
  unfold fIx
  rw [List.findIdx_cons, List.find?_cons]
  by_cases h : p x = true
  ·right; exact ⟨0, x, by simp [h], by simp [h], rfl⟩
  ·rw [Bool.not_eq_true] at h
   have ih := find_fIx p l
   unfold fIx at ih
   simp only [h, cond_false, List.length_cons]
   generalize l.findIdx p = n at *
   rcases ih with ⟨h1, h2⟩ | ⟨i, a, h1, h2, h3⟩
   ·left
    refine ⟨h1, ?_⟩
    split at h2
    ·omega
    ·rw [if_neg (by omega)]
   ·right
    refine ⟨i + 1, a, h1, ?_, by simpa using h3⟩
    split at h2
    ·rw [if_pos (by omega)]; omega
    ·omega
theorem take_anyG {α : Type} {p : α → Bool} {l : List α} {i : Nat} {x : α} (h : (l.take i).any p = false) (hx : l[i]? = some x) (hp : p x = false) : (l.take (i + 1)).any p = false := by
 rw [List.take_add_one, hx]
 simp [h, hp]
theorem kL (l : List Ag) (f : Nat) (caps : List D) (p : Ag → Bool) (hp : ∀ x ∈ l, PCall Tryz.prog f (dA x :: caps) fun r => r = dB (p x)) (hl : l.length ≤ 1000000) : PCall Tryz.prog 112 [dAs l, .fn f caps] fun r => r = dI (fIx p l) := by
 refine qB Tryz.func112 rfl rfl Tryz.ntmps112 (rs := [.tmp 4]) (tys := [3]) rfl rfl (by simp) ?_
 (refine qc fun Y Yh => ?_; simp [go_sem]; ((repeat' (first|(refine qf ?_;simp [go_sem])|intro _|apply And.intro|(apply Yh;clear Yh Y)));all_goals first|apply QS|omega|with_reducible assumption|skip))
 refine qh fun K1 hK1 => ?_
 (refine qc fun Y Yh => ?_; simp [go_sem]; ((repeat' (first|(refine qf ?_;simp [go_sem])|intro _|apply And.intro|(apply Yh;clear Yh Y)));all_goals first|apply QS|omega|with_reducible assumption|skip))
 refine qo ?_
 refine qM (σ := Nat) (fun i => ⟨[(0, dAs l), (1, .fn f caps), (7, dI l.length), (8, dI i)], []⟩) (fun i => i ≤ l.length ∧ (l.take i).any p = false) (fun i => l.length - i) 0 (by (refine ql ?_ ?_ <;> simp [go_sem])) (by simp) ?_
 rintro i ⟨hi, hany⟩
 (refine qc fun Y Yh => ?_; simp [go_sem]; ((repeat' (first|(refine qf ?_;simp [go_sem])|intro _|apply And.intro|(apply Yh;clear Yh Y)));all_goals first|apply QS|omega|with_reducible assumption|skip))
 refine qh fun K2 hK2 => ?_
 (refine qg fun T F hT hF => ?_; simp [go_sem]; refine BR.intro (fun h3 => hT ?_) (fun h3 => hF ?_); all_goals clear hT hF T F; try simp at h3)
 ·refine qi ?_
  refine hK2 _ ?_; clear hK2
  obtain ⟨x, hx⟩ : ∃ x, l[i]? = some x := ⟨_, List.getElem?_eq_getElem (by omega)⟩
  refine qh fun K4 hK4 => ?_
  refine qo ?_
  (refine qc fun Y Yh => ?_; simp [go_sem]; ((repeat' (first|(refine qf ?_;simp [go_sem])|intro _|apply And.intro|(apply Yh;clear Yh Y)));all_goals first|apply QS|omega|with_reducible assumption|skip))
  (refine qc fun Y Yh => ?_; simp [go_sem, hx]; ((repeat' (first|(refine qf ?_;simp [go_sem, hx])|intro _|apply And.intro|(apply Yh;clear Yh Y)));all_goals first|apply QS|omega|with_reducible assumption|skip))
  ((try refine QT ?_); refine qm (by first|exact .inl ⟨rfl,rfl⟩|exact .inr rfl) (by simp [go_sem]) ?_; intro args ha; simp [go_sem] at ha; subst ha; refine ⟨_, (hp x (List.mem_of_getElem? hx)), ?_⟩; rintro _ rfl; simp [go_sem]; ((repeat' (first|(refine qf ?_;simp [go_sem])|intro _|apply And.intro|(apply Yh;clear Yh Y)));all_goals first|apply QS|omega|with_reducible assumption|skip))
  (refine qg fun T F hT hF => ?_; simp [go_sem]; refine BR.intro (fun h5 => hT ?_) (fun h5 => hF ?_); all_goals clear hT hF T F; try simp at h5)
  ·(refine qc fun Y Yh => ?_; simp [go_sem]; ((repeat' (first|(refine qf ?_;simp [go_sem])|intro _|apply And.intro|(apply Yh;clear Yh Y)));all_goals first|apply QS|omega|with_reducible assumption|skip))
   (refine qj ?_; simp [go_sem])
   rw [fIx_at hany hx h5]
  ·refine qi ?_
   refine hK4 _ ?_; clear hK4
   (refine qx fun Y Yh => ?_; simp [go_sem]; ((repeat' (first|(refine qf ?_;simp [go_sem])|intro _|apply And.intro|(apply Yh;clear Yh Y)));all_goals first|apply QS|omega|with_reducible assumption|skip))
   refine ⟨i + 1, ?_, ⟨by omega, take_anyG hany hx (by simp [h5])⟩, by omega⟩
   (refine ql ?_ ?_ <;> simp [go_sem])
 ·refine qH ?_
  simp only [go_sem]
  refine hK1 _ ?_; clear hK1
  (refine qc fun Y Yh => ?_; simp [go_sem]; ((repeat' (first|(refine qf ?_;simp [go_sem])|intro _|apply And.intro|(apply Yh;clear Yh Y)));all_goals first|apply QS|omega|with_reducible assumption|skip))
  (refine qj ?_; simp [go_sem])
  have : i = l.length := by omega
  subst this
  rw [List.take_length] at hany
  rw [fIx_none hany]
theorem Qm (a : Ag) (f : Fld) : PCall Tryz.prog 113 [dA a, .rd (cF f)] fun r => r = dB (a.nm == f.nm) := by
 refine qB Tryz.func113 rfl rfl Tryz.ntmps113 (rs := [.tmp 3]) (tys := [4]) rfl rfl (by simp) ?_
 (refine qc fun Y Yh => ?_; simp [go_sem]; ((repeat' (first|(refine qf ?_;simp [go_sem])|intro _|apply And.intro|(apply Yh;clear Yh Y)));all_goals first|apply QS|omega|with_reducible assumption|skip))
 (refine qc fun Y Yh => ?_; simp [go_sem]; ((repeat' (first|(refine qf ?_;simp [go_sem])|intro _|apply And.intro|(apply Yh;clear Yh Y)));all_goals first|apply QS|omega|with_reducible assumption|skip))
 (refine qj ?_; simp [go_sem])
set_option maxHeartbeats 8000000 in
theorem vZ (args : List Ag) (u g : Nat) (f : Fld) (hu : u ≤ args.length) (hl : args.length ≤ 1000000) :
  ACall Tryz.prog 72 [.ptr 900004 g 0, dF f] [fiB g args u] [900004]
   fun ps r => ps = [(g, .box [dAs args, dI (ofA args u f.nm).2.2])] ∧ r = .tup [dA (ofA args u f.nm).1, dI (ofA args u f.nm).2.1] := by 
 refine qY Tryz.func72 rfl rfl Tryz.ntmps72 (rs := [.cell 4 25, .tmp 5]) (tys := [25, 34]) rfl rfl (by simp) (by simp [qO]) ?_
 by_cases hn : f.nm = []
 ·have e : ofA args u f.nm = nxtV args u := by unfold ofA nxtV; rw [if_pos hn]; cases args[u]? <;> rfl
  have hN := jo args u g hu hl
  rw [e]
  generalize nxtV args u = q at *
  obtain ⟨a, e', u'⟩ := q
  simp only at hN ⊢
  (refine qc fun Y Yh => ?_; simp [go_sem]; ((repeat' (first|(refine qf ?_;simp [go_sem])|intro _|apply And.intro|(apply Yh;clear Yh Y)));all_goals first|apply QS|omega|with_reducible assumption|skip))
  refine qh fun K1 hK1 => ?_
  (refine qc fun Y Yh => ?_; simp [go_sem]; ((repeat' (first|(refine qf ?_;simp [go_sem])|intro _|apply And.intro|(apply Yh;clear Yh Y)));all_goals first|apply QS|omega|with_reducible assumption|skip))
  (refine qg fun T F hT hF => ?_; simp [go_sem, hn]; refine hT ?_; clear hT hF T F)
  (refine qc fun Y Yh => ?_; simp [go_sem]; ((repeat' (first|(refine qf ?_;simp [go_sem])|intro _|apply And.intro|(apply Yh;clear Yh Y)));all_goals first|apply QS|omega|with_reducible assumption|skip))
  (refine qN [900004] (.inl ⟨rfl,rfl⟩) (by simp [go_sem]) ?_; intro args ha; simp [go_sem] at ha; subst ha; refine ⟨_, _, hN, (by simp [go_sem]), ?_⟩; rintro ps r hps ⟨rfl, rfl⟩; simp [go_sem]; ((repeat' (first|(refine qf ?_;simp [go_sem])|intro _|apply And.intro|(apply Yh;clear Yh Y)));all_goals first|apply QS|omega|with_reducible assumption|skip))
  (refine qj ?_; simp [go_sem])
 ·have hI := kL args 113 [.rd (cF f)] (fun a => a.nm == f.nm) (fun a _ => Qm a f) hl
  have e : ofA args u f.nm = (match args.find? (fun a => a.nm == f.nm) with | none => (ag0, 6, u) | some a => (a, 0, u)) := by unfold ofA; rw [if_neg hn]; rfl
  rw [e]
  have hne : f.nm.isEmpty = false := by cases h : f.nm with | nil => exact absurd h hn | cons _ _ => rfl
  have hfi := find_fIx (fun a : Ag => a.nm == f.nm) args
  generalize fIx (fun a : Ag => a.nm == f.nm) args = j at *
  generalize args.find? (fun a : Ag => a.nm == f.nm) = q at *
  (refine qc fun Y Yh => ?_; simp [go_sem]; ((repeat' (first|(refine qf ?_;simp [go_sem])|intro _|apply And.intro|(apply Yh;clear Yh Y)));all_goals first|apply QS|omega|with_reducible assumption|skip))
  refine qh fun K1 hK1 => ?_
  (refine qc fun Y Yh => ?_; simp [go_sem]; ((repeat' (first|(refine qf ?_;simp [go_sem])|intro _|apply And.intro|(apply Yh;clear Yh Y)));all_goals first|apply QS|omega|with_reducible assumption|skip))
  (refine qg fun T F hT hF => ?_; simp [go_sem, hne]; refine hF ?_; clear hT hF T F)
  refine qi ?_
  refine hK1 _ ?_; clear hK1
  (refine qc fun Y Yh => ?_; simp [go_sem]; ((repeat' (first|(refine qf ?_;simp [go_sem])|intro _|apply And.intro|(apply Yh;clear Yh Y)));all_goals first|apply QS|omega|with_reducible assumption|skip))
  ((try refine QT ?_); refine qU (.inl ⟨rfl,rfl⟩) ?_; intro args ha; simp [go_sem] at ha; subst ha; refine ⟨_, hI, ?_⟩; rintro _ rfl; refine ⟨rfl, ?_⟩; simp [go_sem]; ((repeat' (first|(refine qf ?_;simp [go_sem])|intro _|apply And.intro|(apply Yh;clear Yh Y)));all_goals first|apply QS|omega|with_reducible assumption|skip))
  refine qh fun K3 hK3 => ?_
  rcases hfi with ⟨rfl, rfl⟩ | ⟨i, a, rfl, rfl, hx⟩
  ·(refine qc fun Y Yh => ?_; simp [go_sem]; ((repeat' (first|(refine qf ?_;simp [go_sem])|intro _|apply And.intro|(apply Yh;clear Yh Y)));all_goals first|apply QS|omega|with_reducible assumption|skip))
   (refine qg fun T F hT hF => ?_; simp [go_sem]; refine hT ?_; clear hT hF T F)
   (refine qc fun Y Yh => ?_; simp [go_sem]; ((repeat' (first|(refine qf ?_;simp [go_sem])|intro _|apply And.intro|(apply Yh;clear Yh Y)));all_goals first|apply QS|omega|with_reducible assumption|skip))
   (refine qj ?_; simp [go_sem, ag0])
  ·have hi0 : ¬ (i : Int) < 0 := by omega
   (refine qc fun Y Yh => ?_; simp [go_sem]; ((repeat' (first|(refine qf ?_;simp [go_sem])|intro _|apply And.intro|(apply Yh;clear Yh Y)));all_goals first|apply QS|omega|with_reducible assumption|skip))
   (refine qg fun T F hT hF => ?_; simp [go_sem, hi0]; refine hF ?_; clear hT hF T F)
   refine qi ?_
   refine hK3 _ ?_; clear hK3
   (refine qc fun Y Yh => ?_; simp [go_sem, hx]; ((repeat' (first|(refine qf ?_;simp [go_sem, hx])|intro _|apply And.intro|(apply Yh;clear Yh Y)));all_goals first|apply QS|omega|with_reducible assumption|skip))
   (refine qj ?_; simp [go_sem])
theorem starW_nx {args : List Ag} {u : Nat} {f : Fld} (h : f.wd = -2) : starW args u f = if (nxtV args u).2.1 ≠ 0 then (14, u, f) else
  if (nxtV args u).1.is ∨ 1000 < (nxtV args u).1.int ∨ (nxtV args u).1.int < -1000 then (1, u + 1, f) else (0, u + 1, if (nxtV args u).1.int < 0 then { f with wd := -(nxtV args u).1.int, lf := true } else { f with wd := (nxtV args u).1.int }) := by
 unfold starW nxtV
 rw [if_neg (by simp [h])]
 cases args[u]? <;> rfl
theorem Qc {args : List Ag} {u : Nat} {f : Fld} (h : f.pr = -2) : starP args u f = if (nxtV args u).2.1 ≠ 0 then (14, u, f) else
  if (nxtV args u).1.is ∨ 1000 < (nxtV args u).1.int then (1, u + 1, f) else (0, u + 1, if (nxtV args u).1.int < 0 then { f with pr := -1 } else { f with pr := (nxtV args u).1.int }) := by
 unfold starP nxtV
 rw [if_neg (by simp [h])]
 cases args[u]? <;> rfl
theorem nxt_two (args : List Ag) (u : Nat) : (nxtV args u = (ag0, 14, u)) ∨ ∃ a, nxtV args u = (a, 0, u + 1) := by
 unfold nxtV
 cases args[u]? with
 | none => exact .inl rfl
 | some a => exact .inr ⟨a, rfl⟩
theorem nxt_some {args : List Ag} {u : Nat} {a : Ag} (h : nxtV args u = (a, 0, u + 1)) : args[u]? = some a := by
 unfold nxtV at h
 cases hx : args[u]? with
 | none => rw [hx] at h; cases h
 | some b => rw [hx] at h; cases h; rfl
set_option maxHeartbeats 16000000 in
theorem jG (args : List Ag) (u g gf : Nat) (f : Fld) (hu : u ≤ args.length) (hl : args.length ≤ 1000000) :
  ACall Tryz.prog 71 [.ptr 900004 g 0, .ptr 900003 gf 0] [fiB g args u, fdB gf f] [900004, 900003]
   fun ps r => ps = [(g, .box [dAs args, dI (starsV args u f).2.1]), (gf, .box (cF (starsV args u f).2.2))] ∧ r = dI (starsV args u f).1 := by 
 refine qY Tryz.func71 rfl rfl Tryz.ntmps71 (rs := [.tmp 4]) (tys := [34]) rfl rfl (by simp) (by simp [qO]) ?_
 have hV : starsV args u f = if (starW args u f).1 ≠ 0 then starW args u f else starP args (starW args u f).2.1 (starW args u f).2.2 := rfl
 generalize starsV args u f = V at *
 (refine qc fun Y Yh => ?_; simp [go_sem]; ((repeat' (first|(refine qf ?_;simp [go_sem])|intro _|apply And.intro|(apply Yh;clear Yh Y)));all_goals first|apply QS|omega|with_reducible assumption|skip))
 refine qh fun K1 hK1 => ?_
 ((refine qX (.qs [0, 1, 2, 3, 4, 5, 8] (.one 6 (.qs [7] (.nil)))) (by kernel_rfl) ?_ ?_ ?_ ?_); (kernel_rfl); (exact (by decide +kernel)); (kernel_rfl); intro Y Yh; ((repeat' (first|(refine qf ?_;simp [go_sem])|refine qC ?_|((first|refine qJ fun Y Yh=>?_|refine qR fun Y Yh=>?_);simp [go_sem])|intro _|apply And.intro|(apply Yh;clear Yh Y)));all_goals first|apply QS|omega|with_reducible assumption|skip))
 rename_i gr
 refine qo ?_
 refine qM (σ := Nat × Fld × Nat) (fun x => ⟨[(0, .ptr 900004 g 0), (1, .ptr 900003 gf 0), (15, .own 15 gr), (16, dI 2), (17, dI x.1)], [fiB g args x.2.2, fdB gf x.2.1, (15, (gr, .row 123 1 [[.ptr 900003 gf 7], [.ptr 900003 gf 8]]))]⟩)
  (fun x => x.2.2 ≤ args.length ∧ ((x.1 = 0 ∧ x.2.1 = f ∧ x.2.2 = u) ∨ (x.1 = 1 ∧ starW args u f = (0, x.2.2, x.2.1)) ∨ (x.1 = 2 ∧ V = (0, x.2.2, x.2.1)))) (fun x => 2 - x.1) (0, f, u) ?_ ?_ ?_
 ·(refine ql ?_ ?_ <;> simp [go_sem])
 ·exact ⟨hu, .inl ⟨rfl, rfl, rfl⟩⟩
 rintro ⟨i, f', u'⟩ ⟨hu', hx⟩
 simp only at hu' hx ⊢
 rcases hx with ⟨rfl, rfl, rfl⟩ | ⟨rfl, hW⟩ | ⟨rfl, hE⟩
 ·have hN := jo args u' g hu hl
  (refine qc fun Y Yh => ?_; simp [go_sem]; ((repeat' (first|(refine qf ?_;simp [go_sem])|intro _|apply And.intro|(apply Yh;clear Yh Y)));all_goals first|apply QS|omega|with_reducible assumption|skip))
  refine qh fun K2 hK2 => ?_
  (refine qg fun T F hT hF => ?_; simp [go_sem]; refine hT ?_; clear hT hF T F)
  refine qi ?_
  refine hK2 _ ?_; clear hK2
  refine qh fun K4 hK4 => ?_
  have tl4 : ∀ S' f1 u1, starW args u' f' = (0, u1, f1) → u1 ≤ args.length → Cov S' ⟨[(0, .ptr 900004 g 0), (1, .ptr 900003 gf 0), (15, .own 15 gr), (16, dI 2), (17, dI 0)], [fiB g args u1, fdB gf f1, (15, (gr, .row 123 1 [[.ptr 900003 gf 7], [.ptr 900003 gf 8]]))]⟩ → K4 S' := fun S' f1 u1 h1 h2 hS => by
   refine hK4 _ ?_; clear hK4
   refine qG hS ?_; clear hS
   (refine qx fun Y Yh => ?_; simp [go_sem]; ((repeat' (first|(refine qf ?_;simp [go_sem])|intro _|apply And.intro|(apply Yh;clear Yh Y)));all_goals first|apply QS|omega|with_reducible assumption|skip))
   refine ⟨(1, f1, u1), ?_, ⟨h2, .inr (.inl ⟨rfl, h1⟩)⟩, ?_⟩
   ·(refine ql ?_ ?_ <;> simp [go_sem])
   ·simp
  clear hK4
  refine qo ?_
  (refine qc fun Y Yh => ?_; simp [go_sem]; ((repeat' (first|(refine qf ?_;simp [go_sem])|intro _|apply And.intro|(apply Yh;clear Yh Y)));all_goals first|apply QS|omega|with_reducible assumption|skip))
  refine qh fun K5 hK5 => ?_
  (refine qc fun Y Yh => ?_; simp [go_sem]; ((repeat' (first|(refine qf ?_;simp [go_sem])|intro _|apply And.intro|(apply Yh;clear Yh Y)));all_goals first|apply QS|omega|with_reducible assumption|skip))
  by_cases hwd : f'.wd = -2
  ·(refine qg fun T F hT hF => ?_; simp [go_sem, hwd]; refine hF ?_; clear hT hF T F)
   refine qi ?_
   refine hK5 _ ?_; clear hK5
   have hst := starW_nx (args := args) (u := u') hwd
   rcases nxt_two args u' with hq | ⟨a, hq⟩
   ·rw [hq] at hN hst
    simp only [ne_eq, show ¬ (14 : Nat) = 0 by decide, not_false_eq_true, if_true] at hst
    have hV2 : V = (14, u', f') := by rw [hV, hst]; rfl
    (refine qc fun Y Yh => ?_; simp [go_sem]; ((repeat' (first|(refine qf ?_;simp [go_sem])|intro _|apply And.intro|(apply Yh;clear Yh Y)));all_goals first|apply QS|omega|with_reducible assumption|skip))
    (refine qN [900004] (.inl ⟨rfl,rfl⟩) (by simp [go_sem]) ?_; intro args ha; simp [go_sem] at ha; subst ha; refine ⟨_, _, hN, (by simp [go_sem]), ?_⟩; rintro ps r hps ⟨rfl, rfl⟩; simp [go_sem]; ((repeat' (first|(refine qf ?_;simp [go_sem])|intro _|apply And.intro|(apply Yh;clear Yh Y)));all_goals first|apply QS|omega|with_reducible assumption|skip))
    refine qh fun K7 hK7 => ?_
    refine qo ?_
    (refine qc fun Y Yh => ?_; simp [go_sem]; ((repeat' (first|(refine qf ?_;simp [go_sem])|intro _|apply And.intro|(apply Yh;clear Yh Y)));all_goals first|apply QS|omega|with_reducible assumption|skip))
    (refine qg fun T F hT hF => ?_; simp [go_sem]; refine hT ?_; clear hT hF T F)
    (refine qc fun Y Yh => ?_; simp [go_sem]; ((repeat' (first|(refine qf ?_;simp [go_sem])|intro _|apply And.intro|(apply Yh;clear Yh Y)));all_goals first|apply QS|omega|with_reducible assumption|skip))
    (refine qj ?_; simp [go_sem, hV2])
   ·rw [hq] at hN hst
    simp only [ne_eq, not_true_eq_false, if_false] at hst
    (refine qc fun Y Yh => ?_; simp [go_sem]; ((repeat' (first|(refine qf ?_;simp [go_sem])|intro _|apply And.intro|(apply Yh;clear Yh Y)));all_goals first|apply QS|omega|with_reducible assumption|skip))
    (refine qN [900004] (.inl ⟨rfl,rfl⟩) (by simp [go_sem]) ?_; intro args ha; simp [go_sem] at ha; subst ha; refine ⟨_, _, hN, (by simp [go_sem]), ?_⟩; rintro ps r hps ⟨rfl, rfl⟩; simp [go_sem]; ((repeat' (first|(refine qf ?_;simp [go_sem])|intro _|apply And.intro|(apply Yh;clear Yh Y)));all_goals first|apply QS|omega|with_reducible assumption|skip))
    refine qh fun K7 hK7 => ?_
    refine qo ?_
    (refine qc fun Y Yh => ?_; simp [go_sem]; ((repeat' (first|(refine qf ?_;simp [go_sem])|intro _|apply And.intro|(apply Yh;clear Yh Y)));all_goals first|apply QS|omega|with_reducible assumption|skip))
    (refine qg fun T F hT hF => ?_; simp [go_sem]; refine hF ?_; clear hT hF T F)
    (refine qc fun Y Yh => ?_; simp [go_sem]; ((repeat' (first|(refine qf ?_;simp [go_sem])|intro _|apply And.intro|(apply Yh;clear Yh Y)));all_goals first|apply QS|omega|with_reducible assumption|skip))
    have hu1 := (List.getElem?_eq_some_iff.1 (nxt_some hq)).1
    by_cases hb : a.is = true ∨ 1000 < a.int ∨ a.int < -1000
    ·rw [if_pos hb] at hst
     have hV2 : V = (1, u' + 1, f') := by rw [hV, hst]; rfl
     have hb2 : (a.is || decide (1000 < a.int) || decide (a.int < -1000)) = true := by simpa [or_assoc] using hb
     (refine qg fun T F hT hF => ?_; simp [go_sem, hb2]; refine hT ?_; clear hT hF T F)
     (refine qc fun Y Yh => ?_; simp [go_sem]; ((repeat' (first|(refine qf ?_;simp [go_sem])|intro _|apply And.intro|(apply Yh;clear Yh Y)));all_goals first|apply QS|omega|with_reducible assumption|skip))
     (refine qj ?_; simp [go_sem, hV2])
    ·rw [if_neg hb] at hst
     have hb2 : (a.is || decide (1000 < a.int) || decide (a.int < -1000)) = false := by
      rw [Bool.eq_false_iff]; intro q; exact hb (by simpa [or_assoc] using q)
     (refine qg fun T F hT hF => ?_; simp [go_sem, hb2]; refine hF ?_; clear hT hF T F)
     refine qi ?_
     refine hK7 _ ?_; clear hK7
     (refine qc fun Y Yh => ?_; simp [go_sem]; ((repeat' (first|(refine qf ?_;simp [go_sem])|intro _|apply And.intro|(apply Yh;clear Yh Y)));all_goals first|apply QS|omega|with_reducible assumption|skip))
     (refine qc fun Y Yh => ?_; simp [go_sem]; ((repeat' (first|(refine qf ?_;simp [go_sem])|intro _|apply And.intro|(apply Yh;clear Yh Y)));all_goals first|apply QS|omega|with_reducible assumption|skip))
     by_cases hneg : a.int < 0
     ·rw [if_pos hneg] at hst
      (refine qg fun T F hT hF => ?_; simp [go_sem, hneg]; refine hT ?_; clear hT hF T F)
      (refine qc fun Y Yh => ?_; simp [go_sem]; ((repeat' (first|(refine qf ?_;simp [go_sem])|intro _|apply And.intro|(apply Yh;clear Yh Y)));all_goals first|apply QS|omega|with_reducible assumption|skip))
      (refine qc fun Y Yh => ?_; simp [go_sem]; ((repeat' (first|(refine qf ?_;simp [go_sem])|intro _|apply And.intro|(apply Yh;clear Yh Y)));all_goals first|apply QS|omega|with_reducible assumption|skip))
      (refine qg fun T F hT hF => ?_; simp [go_sem]; refine hT ?_; clear hT hF T F)
      (refine qc fun Y Yh => ?_; simp [go_sem]; ((repeat' (first|(refine qf ?_;simp [go_sem])|intro _|apply And.intro|(apply Yh;clear Yh Y)));all_goals first|apply QS|omega|with_reducible assumption|skip))
      (refine qx fun Y Yh => ?_; simp [go_sem]; ((repeat' (first|(refine qf ?_;simp [go_sem])|intro _|apply And.intro|(apply Yh;clear Yh Y)));all_goals first|apply QS|omega|with_reducible assumption|skip))
      refine tl4 _ _ _ hst (by omega) ?_
      (refine ql ?_ ?_ <;> simp [go_sem])
     ·rw [if_neg hneg] at hst
      (refine qg fun T F hT hF => ?_; simp [go_sem, hneg]; refine hF ?_; clear hT hF T F)
      refine qi ?_
      refine tl4 _ _ _ hst (by omega) ?_
      (refine ql ?_ ?_ <;> simp [go_sem])
  ·have hst : starW args u' f' = (0, u', f') := by unfold starW; rw [if_pos hwd]
   (refine qg fun T F hT hF => ?_; simp [go_sem, hwd]; refine hT ?_; clear hT hF T F)
   refine qH ?_
   simp only [go_sem]
   refine tl4 _ f' u' hst hu ?_
   (refine ql ?_ ?_ <;> simp [go_sem])
 ·have hN := jo args u' g hu' hl
  (refine qc fun Y Yh => ?_; simp [go_sem]; ((repeat' (first|(refine qf ?_;simp [go_sem])|intro _|apply And.intro|(apply Yh;clear Yh Y)));all_goals first|apply QS|omega|with_reducible assumption|skip))
  refine qh fun K2 hK2 => ?_
  (refine qg fun T F hT hF => ?_; simp [go_sem]; refine hT ?_; clear hT hF T F)
  refine qi ?_
  refine hK2 _ ?_; clear hK2
  refine qh fun K4 hK4 => ?_
  have tl4 : ∀ S' f1 u1, starP args u' f' = (0, u1, f1) → u1 ≤ args.length → Cov S' ⟨[(0, .ptr 900004 g 0), (1, .ptr 900003 gf 0), (15, .own 15 gr), (16, dI 2), (17, dI 1)], [fiB g args u1, fdB gf f1, (15, (gr, .row 123 1 [[.ptr 900003 gf 7], [.ptr 900003 gf 8]]))]⟩ → K4 S' := fun S' f1 u1 h1 h2 hS => by
   refine hK4 _ ?_; clear hK4
   refine qG hS ?_; clear hS
   (refine qx fun Y Yh => ?_; simp [go_sem]; ((repeat' (first|(refine qf ?_;simp [go_sem])|intro _|apply And.intro|(apply Yh;clear Yh Y)));all_goals first|apply QS|omega|with_reducible assumption|skip))
   refine ⟨(2, f1, u1), ?_, ⟨h2, .inr (.inr ⟨rfl, by rw [hV, hW]; simpa using h1⟩)⟩, ?_⟩
   ·(refine ql ?_ ?_ <;> simp [go_sem])
   ·simp
  clear hK4
  refine qo ?_
  (refine qc fun Y Yh => ?_; simp [go_sem]; ((repeat' (first|(refine qf ?_;simp [go_sem])|intro _|apply And.intro|(apply Yh;clear Yh Y)));all_goals first|apply QS|omega|with_reducible assumption|skip))
  refine qh fun K5 hK5 => ?_
  (refine qc fun Y Yh => ?_; simp [go_sem]; ((repeat' (first|(refine qf ?_;simp [go_sem])|intro _|apply And.intro|(apply Yh;clear Yh Y)));all_goals first|apply QS|omega|with_reducible assumption|skip))
  by_cases hwd : f'.pr = -2
  ·(refine qg fun T F hT hF => ?_; simp [go_sem, hwd]; refine hF ?_; clear hT hF T F)
   refine qi ?_
   refine hK5 _ ?_; clear hK5
   have hst := Qc (args := args) (u := u') hwd
   rcases nxt_two args u' with hq | ⟨a, hq⟩
   ·rw [hq] at hN hst
    simp only [ne_eq, show ¬ (14 : Nat) = 0 by decide, not_false_eq_true, if_true] at hst
    have hV2 : V = (14, u', f') := by rw [hV, hW]; simpa using hst
    (refine qc fun Y Yh => ?_; simp [go_sem]; ((repeat' (first|(refine qf ?_;simp [go_sem])|intro _|apply And.intro|(apply Yh;clear Yh Y)));all_goals first|apply QS|omega|with_reducible assumption|skip))
    (refine qN [900004] (.inl ⟨rfl,rfl⟩) (by simp [go_sem]) ?_; intro args ha; simp [go_sem] at ha; subst ha; refine ⟨_, _, hN, (by simp [go_sem]), ?_⟩; rintro ps r hps ⟨rfl, rfl⟩; simp [go_sem]; ((repeat' (first|(refine qf ?_;simp [go_sem])|intro _|apply And.intro|(apply Yh;clear Yh Y)));all_goals first|apply QS|omega|with_reducible assumption|skip))
    refine qh fun K7 hK7 => ?_
    refine qo ?_
    (refine qc fun Y Yh => ?_; simp [go_sem]; ((repeat' (first|(refine qf ?_;simp [go_sem])|intro _|apply And.intro|(apply Yh;clear Yh Y)));all_goals first|apply QS|omega|with_reducible assumption|skip))
    (refine qg fun T F hT hF => ?_; simp [go_sem]; refine hT ?_; clear hT hF T F)
    (refine qc fun Y Yh => ?_; simp [go_sem]; ((repeat' (first|(refine qf ?_;simp [go_sem])|intro _|apply And.intro|(apply Yh;clear Yh Y)));all_goals first|apply QS|omega|with_reducible assumption|skip))
    (refine qj ?_; simp [go_sem, hV2])
   ·rw [hq] at hN hst
    simp only [ne_eq, not_true_eq_false, if_false] at hst
    (refine qc fun Y Yh => ?_; simp [go_sem]; ((repeat' (first|(refine qf ?_;simp [go_sem])|intro _|apply And.intro|(apply Yh;clear Yh Y)));all_goals first|apply QS|omega|with_reducible assumption|skip))
    (refine qN [900004] (.inl ⟨rfl,rfl⟩) (by simp [go_sem]) ?_; intro args ha; simp [go_sem] at ha; subst ha; refine ⟨_, _, hN, (by simp [go_sem]), ?_⟩; rintro ps r hps ⟨rfl, rfl⟩; simp [go_sem]; ((repeat' (first|(refine qf ?_;simp [go_sem])|intro _|apply And.intro|(apply Yh;clear Yh Y)));all_goals first|apply QS|omega|with_reducible assumption|skip))
    refine qh fun K7 hK7 => ?_
    refine qo ?_
    (refine qc fun Y Yh => ?_; simp [go_sem]; ((repeat' (first|(refine qf ?_;simp [go_sem])|intro _|apply And.intro|(apply Yh;clear Yh Y)));all_goals first|apply QS|omega|with_reducible assumption|skip))
    (refine qg fun T F hT hF => ?_; simp [go_sem]; refine hF ?_; clear hT hF T F)
    (refine qc fun Y Yh => ?_; simp [go_sem]; ((repeat' (first|(refine qf ?_;simp [go_sem])|intro _|apply And.intro|(apply Yh;clear Yh Y)));all_goals first|apply QS|omega|with_reducible assumption|skip))
    have hu1 := (List.getElem?_eq_some_iff.1 (nxt_some hq)).1
    by_cases hb : a.is = true ∨ 1000 < a.int
    ·rw [if_pos hb] at hst
     have hV2 : V = (1, u' + 1, f') := by rw [hV, hW]; simpa using hst
     have hb2 : (a.is || decide (1000 < a.int)) = true := by simpa using hb
     (refine qg fun T F hT hF => ?_; simp [go_sem, hb2]; refine hT ?_; clear hT hF T F)
     (refine qc fun Y Yh => ?_; simp [go_sem]; ((repeat' (first|(refine qf ?_;simp [go_sem])|intro _|apply And.intro|(apply Yh;clear Yh Y)));all_goals first|apply QS|omega|with_reducible assumption|skip))
     (refine qj ?_; simp [go_sem, hV2])
    ·rw [if_neg hb] at hst
     have hb2 : (a.is || decide (1000 < a.int)) = false := by
      rw [Bool.eq_false_iff]; intro q; exact hb (by simpa using q)
     (refine qg fun T F hT hF => ?_; simp [go_sem, hb2]; refine hF ?_; clear hT hF T F)
     refine qi ?_
     refine hK7 _ ?_; clear hK7
     (refine qc fun Y Yh => ?_; simp [go_sem]; ((repeat' (first|(refine qf ?_;simp [go_sem])|intro _|apply And.intro|(apply Yh;clear Yh Y)));all_goals first|apply QS|omega|with_reducible assumption|skip))
     (refine qc fun Y Yh => ?_; simp [go_sem]; ((repeat' (first|(refine qf ?_;simp [go_sem])|intro _|apply And.intro|(apply Yh;clear Yh Y)));all_goals first|apply QS|omega|with_reducible assumption|skip))
     by_cases hneg : a.int < 0
     ·rw [if_pos hneg] at hst
      (refine qg fun T F hT hF => ?_; simp [go_sem, hneg]; refine hT ?_; clear hT hF T F)
      (refine qc fun Y Yh => ?_; simp [go_sem]; ((repeat' (first|(refine qf ?_;simp [go_sem])|intro _|apply And.intro|(apply Yh;clear Yh Y)));all_goals first|apply QS|omega|with_reducible assumption|skip))
      (refine qc fun Y Yh => ?_; simp [go_sem]; ((repeat' (first|(refine qf ?_;simp [go_sem])|intro _|apply And.intro|(apply Yh;clear Yh Y)));all_goals first|apply QS|omega|with_reducible assumption|skip))
      (refine qg fun T F hT hF => ?_; simp [go_sem]; refine hF ?_; clear hT hF T F)
      refine qi ?_
      refine tl4 _ _ _ hst (by omega) ?_
      (refine ql ?_ ?_ <;> simp [go_sem])
     ·rw [if_neg hneg] at hst
      (refine qg fun T F hT hF => ?_; simp [go_sem, hneg]; refine hF ?_; clear hT hF T F)
      refine qi ?_
      refine tl4 _ _ _ hst (by omega) ?_
      (refine ql ?_ ?_ <;> simp [go_sem])
  ·have hst : starP args u' f' = (0, u', f') := by unfold starP; rw [if_pos hwd]
   (refine qg fun T F hT hF => ?_; simp [go_sem, hwd]; refine hT ?_; clear hT hF T F)
   refine qH ?_
   simp only [go_sem]
   refine tl4 _ f' u' hst hu' ?_
   (refine ql ?_ ?_ <;> simp [go_sem])
 ·(refine qc fun Y Yh => ?_; simp [go_sem]; ((repeat' (first|(refine qf ?_;simp [go_sem])|intro _|apply And.intro|(apply Yh;clear Yh Y)));all_goals first|apply QS|omega|with_reducible assumption|skip))
  refine qh fun K2 hK2 => ?_
  (refine qg fun T F hT hF => ?_; simp [go_sem]; refine hF ?_; clear hT hF T F)
  refine qH ?_
  simp only [go_sem]
  refine hK1 _ ?_; clear hK1
  (refine qc fun Y Yh => ?_; simp [go_sem]; ((repeat' (first|(refine qf ?_;simp [go_sem])|intro _|apply And.intro|(apply Yh;clear Yh Y)));all_goals first|apply QS|omega|with_reducible assumption|skip))
  (refine qj ?_; simp [go_sem, hE])
theorem ba_app (a b : Bs) : ({ data := a.toArray } : ByteArray) ++ { data := b.toArray } = { data := (a ++ b).toArray } := by
 apply ByteArray.ext
 simp
theorem xe (a : Ag) (h : InR a.int) : PCall Tryz.prog 75 [dA a] fun r => r = dS (textV a) := by 
 refine qB Tryz.func75 rfl rfl Tryz.ntmps75 (rs := [.tmp 2]) (tys := [9]) rfl rfl (by simp) ?_
 unfold textV
 cases hi : a.is with
 | true =>
  (refine qc fun Y Yh => ?_; simp [go_sem, hi]; ((repeat' (first|(refine qf ?_;simp [go_sem, hi])|intro _|apply And.intro|(apply Yh;clear Yh Y)));all_goals first|apply QS|omega|with_reducible assumption|skip))
  refine qh fun K1 hK1 => ?_
  (refine qc fun Y Yh => ?_; simp [go_sem]; ((repeat' (first|(refine qf ?_;simp [go_sem])|intro _|apply And.intro|(apply Yh;clear Yh Y)));all_goals first|apply QS|omega|with_reducible assumption|skip))
  (refine qg fun T F hT hF => ?_; simp [go_sem]; refine hT ?_; clear hT hF T F)
  (refine qc fun Y Yh => ?_; simp [go_sem]; ((repeat' (first|(refine qf ?_;simp [go_sem])|intro _|apply And.intro|(apply Yh;clear Yh Y)));all_goals first|apply QS|omega|with_reducible assumption|skip))
  (refine qj ?_; simp [go_sem])
 | false =>
  (refine qc fun Y Yh => ?_; simp [go_sem, hi]; ((repeat' (first|(refine qf ?_;simp [go_sem, hi])|intro _|apply And.intro|(apply Yh;clear Yh Y)));all_goals first|apply QS|omega|with_reducible assumption|skip))
  refine qh fun K1 hK1 => ?_
  (refine qc fun Y Yh => ?_; simp [go_sem]; ((repeat' (first|(refine qf ?_;simp [go_sem])|intro _|apply And.intro|(apply Yh;clear Yh Y)));all_goals first|apply QS|omega|with_reducible assumption|skip))
  (refine qg fun T F hT hF => ?_; simp [go_sem]; refine hF ?_; clear hT hF T F)
  refine qi ?_
  refine hK1 _ ?_; clear hK1
  (refine qc fun Y Yh => ?_; simp [go_sem]; ((repeat' (first|(refine qf ?_;simp [go_sem])|intro _|apply And.intro|(apply Yh;clear Yh Y)));all_goals first|apply QS|omega|with_reducible assumption|skip))
  ((try refine QT ?_); refine qm (.inl ⟨rfl,rfl⟩) (by simp [go_sem]) ?_; intro args ha; simp [go_sem] at ha; subst ha; refine ⟨_, (zC a.int h), ?_⟩; rintro _ rfl; simp [go_sem]; ((repeat' (first|(refine qf ?_;simp [go_sem])|intro _|apply And.intro|(apply Yh;clear Yh Y)));all_goals first|apply QS|omega|with_reducible assumption|skip))
  (refine qj ?_; simp [go_sem])
theorem jH (f : Fld) (s : Bs) : PCall Tryz.prog 74 [dF f, dS s] fun r => r = dS (shortV f s) := by 
 refine qB Tryz.func74 rfl rfl Tryz.ntmps74 (rs := [.tmp 4]) (tys := [9]) rfl rfl (by simp) ?_
 by_cases h : 0 ≤ f.pr ∧ f.pr < s.length
 ·have e : shortV f s = s.take f.pr.toNat := by unfold shortV; rw [if_pos h]
  have hb : (decide (0 ≤ f.pr) && decide (f.pr < s.length)) = true := by simpa using h
  have hcut : ({ data := s.toArray } : ByteArray).extract 0 f.pr.toNat = { data := (s.take f.pr.toNat).toArray } := by rw [ba_cut, List.drop_zero]
  (refine qc fun Y Yh => ?_; simp [go_sem]; ((repeat' (first|(refine qf ?_;simp [go_sem])|intro _|apply And.intro|(apply Yh;clear Yh Y)));all_goals first|apply QS|omega|with_reducible assumption|skip))
  refine qh fun K1 hK1 => ?_
  (refine qc fun Y Yh => ?_; simp [go_sem, ba_size]; ((repeat' (first|(refine qf ?_;simp [go_sem, ba_size])|intro _|apply And.intro|(apply Yh;clear Yh Y)));all_goals first|apply QS|omega|with_reducible assumption|skip))
  (refine qg fun T F hT hF => ?_; simp [go_sem, hb]; refine hT ?_; clear hT hF T F)
  (refine qc fun Y Yh => ?_; simp [go_sem, ba_size, hcut]; ((repeat' (first|(refine qf ?_;simp [go_sem, ba_size, hcut])|intro _|apply And.intro|(apply Yh;clear Yh Y)));all_goals first|apply QS|omega|with_reducible assumption|skip))
  (refine qj ?_; simp [go_sem, e])
 ·have e : shortV f s = s := by unfold shortV; rw [if_neg h]
  have hb : (decide (0 ≤ f.pr) && decide (f.pr < s.length)) = false := by rw [Bool.eq_false_iff]; intro q; exact h (by simpa using q)
  (refine qc fun Y Yh => ?_; simp [go_sem]; ((repeat' (first|(refine qf ?_;simp [go_sem])|intro _|apply And.intro|(apply Yh;clear Yh Y)));all_goals first|apply QS|omega|with_reducible assumption|skip))
  refine qh fun K1 hK1 => ?_
  (refine qc fun Y Yh => ?_; simp [go_sem, ba_size]; ((repeat' (first|(refine qf ?_;simp [go_sem, ba_size])|intro _|apply And.intro|(apply Yh;clear Yh Y)));all_goals first|apply QS|omega|with_reducible assumption|skip))
  (refine qg fun T F hT hF => ?_; simp [go_sem, hb]; refine hF ?_; clear hT hF T F)
  refine qi ?_
  refine hK1 _ ?_; clear hK1
  (refine qc fun Y Yh => ?_; simp [go_sem]; ((repeat' (first|(refine qf ?_;simp [go_sem])|intro _|apply And.intro|(apply Yh;clear Yh Y)));all_goals first|apply QS|omega|with_reducible assumption|skip))
  (refine qj ?_; simp [go_sem, e])
theorem zD (f : Fld) (s : Bs) (hw : -2 ≤ f.wd ∧ f.wd ≤ 100000) (hl : s.length ≤ 4611686018427387904) : PCall Tryz.prog 73 [dF f, dS s] fun r => r = dS (paddedV f s) := by 
 refine qB Tryz.func73 rfl rfl Tryz.ntmps73 (rs := [.tmp 4]) (tys := [9]) rfl rfl (by simp) ?_
 by_cases h : f.wd - s.length ≤ 0
 ·have e : paddedV f s = s := by unfold paddedV; rw [if_pos h]
  (refine qc fun Y Yh => ?_; simp [go_sem]; ((repeat' (first|(refine qf ?_;simp [go_sem])|intro _|apply And.intro|(apply Yh;clear Yh Y)));all_goals first|apply QS|omega|with_reducible assumption|skip))
  (refine qc fun Y Yh => ?_; simp [go_sem, ba_size]; ((repeat' (first|(refine qf ?_;simp [go_sem, ba_size])|intro _|apply And.intro|(apply Yh;clear Yh Y)));all_goals first|apply QS|omega|with_reducible assumption|skip))
  refine qh fun K1 hK1 => ?_
  refine qo ?_
  (refine qc fun Y Yh => ?_; simp [go_sem]; ((repeat' (first|(refine qf ?_;simp [go_sem])|intro _|apply And.intro|(apply Yh;clear Yh Y)));all_goals first|apply QS|omega|with_reducible assumption|skip))
  (refine qg fun T F hT hF => ?_; simp [go_sem, h]; refine hT ?_; clear hT hF T F)
  (refine qc fun Y Yh => ?_; simp [go_sem]; ((repeat' (first|(refine qf ?_;simp [go_sem])|intro _|apply And.intro|(apply Yh;clear Yh Y)));all_goals first|apply QS|omega|with_reducible assumption|skip))
  (refine qj ?_; simp [go_sem, e])
 ·have e : paddedV f s = if f.lf then s ++ rep 32 (f.wd - s.length) else rep 32 (f.wd - s.length) ++ s := by unfold paddedV; rw [if_neg h]
  have hR := jI 32 (f.wd - s.length) (by omega) (by omega)
  have hrl : (rep 32 (f.wd - s.length)).length ≤ 100000 := by unfold rep; simp; omega
  rw [e]
  generalize rep 32 (f.wd - s.length) = R at *
  (refine qc fun Y Yh => ?_; simp [go_sem]; ((repeat' (first|(refine qf ?_;simp [go_sem])|intro _|apply And.intro|(apply Yh;clear Yh Y)));all_goals first|apply QS|omega|with_reducible assumption|skip))
  (refine qc fun Y Yh => ?_; simp [go_sem, ba_size]; ((repeat' (first|(refine qf ?_;simp [go_sem, ba_size])|intro _|apply And.intro|(apply Yh;clear Yh Y)));all_goals first|apply QS|omega|with_reducible assumption|skip))
  refine qh fun K1 hK1 => ?_
  refine qo ?_
  (refine qc fun Y Yh => ?_; simp [go_sem]; ((repeat' (first|(refine qf ?_;simp [go_sem])|intro _|apply And.intro|(apply Yh;clear Yh Y)));all_goals first|apply QS|omega|with_reducible assumption|skip))
  (refine qg fun T F hT hF => ?_; simp [go_sem, h]; refine hF ?_; clear hT hF T F)
  (refine qc fun Y Yh => ?_; simp [go_sem]; ((repeat' (first|(refine qf ?_;simp [go_sem])|intro _|apply And.intro|(apply Yh;clear Yh Y)));all_goals first|apply QS|omega|with_reducible assumption|skip))
  cases hlf : f.lf with
  | true =>
   (refine qg fun T F hT hF => ?_; simp [go_sem]; refine hT ?_; clear hT hF T F)
   (refine qc fun Y Yh => ?_; simp [go_sem]; ((repeat' (first|(refine qf ?_;simp [go_sem])|intro _|apply And.intro|(apply Yh;clear Yh Y)));all_goals first|apply QS|omega|with_reducible assumption|skip))
   ((try refine QT ?_); refine qm (.inl ⟨rfl,rfl⟩) (by simp [go_sem]) ?_; intro args ha; simp [go_sem] at ha; subst ha; refine ⟨_, hR, ?_⟩; rintro _ rfl; simp [go_sem, ba_size]; ((repeat' (first|(refine qf ?_;simp [go_sem, ba_size])|intro _|apply And.intro|(apply Yh;clear Yh Y)));all_goals first|apply QS|omega|with_reducible assumption|skip))
   (refine qj ?_; simp [go_sem, ba_app, hlf])
  | false =>
   (refine qg fun T F hT hF => ?_; simp [go_sem]; refine hF ?_; clear hT hF T F)
   refine qi ?_
   refine hK1 _ ?_; clear hK1
   (refine qc fun Y Yh => ?_; simp [go_sem]; ((repeat' (first|(refine qf ?_;simp [go_sem])|intro _|apply And.intro|(apply Yh;clear Yh Y)));all_goals first|apply QS|omega|with_reducible assumption|skip))
   ((try refine QT ?_); refine qm (.inl ⟨rfl,rfl⟩) (by simp [go_sem]) ?_; intro args ha; simp [go_sem] at ha; subst ha; refine ⟨_, hR, ?_⟩; rintro _ rfl; simp [go_sem, ba_size]; ((repeat' (first|(refine qf ?_;simp [go_sem, ba_size])|intro _|apply And.intro|(apply Yh;clear Yh Y)));all_goals first|apply QS|omega|with_reducible assumption|skip))
   (refine qj ?_; simp [go_sem, ba_app, hlf])
end Go.Proofs.YtelhdhofnohkcaaGreatDoor
namespace Go.Proofs.YtelhdhofnohkcaaGreatDoor
open Go.Eng Go.Fm Go.RowKit
set_option maxRecDepth 20000
set_option maxHeartbeats 1000000 in
theorem tz_core (x k idx : Nat) (w : World) (hx0 : ((x : Int) == 0) = false)
  (key : IntKind.u64.wrap (bits BinOp.and IntKind.u64 (x : Int) (IntKind.u64.wrap (-(x : Int))) * 285870213051353865) / 288230376151711744 = (idx : Int))
  (hi : idx < 64) (hk : k < 64) (hcell : w.cell? ⟨7, idx, none⟩ = some (.int .u8 k)) :
  Calls Tryz.prog 165 #[.int .u64 x] w fun e w' => e = .returned (.int .i64 k) ∧ w' = w := by
 go_enter Tryz.func165, Tryz.ntmps165
 go_wp2_with (simp only [key])
 go_ret
 exact ⟨rfl, rfl⟩
theorem QA (x k idx : Nat) (h : (x, k, idx) ∈ [(2, 1, 1), (8, 3, 7), (16, 4, 15)]) : PCall Tryz.prog 165 [.v (.int .u64 x)] fun r => r = dI k := by
 refine qV ⟨_, Tryz.func165, rfl, rfl⟩ fun C w us hc hg hr => ?_
 have hg : glOk w := hg
 obtain rfl := repL_v (us := [.int .u64 x]) hr
 have hx : x ≠ 0 ∧ idx < 64 ∧ k < 64 ∧ IntKind.u64.wrap (bits BinOp.and IntKind.u64 (x : Int) (IntKind.u64.wrap (-(x : Int))) * 285870213051353865) / 288230376151711744 = (idx : Int) ∧ Lib.deBruijn64tab[idx]? = some k := by
  simp only [List.mem_cons, Prod.mk.injEq, List.not_mem_nil, or_false] at h
  rcases h with ⟨rfl, rfl, rfl⟩ | ⟨rfl, rfl, rfl⟩ | ⟨rfl, rfl, rfl⟩ <;> decide
 have hcell := hg.2.2.cell gn_dbj idx (by simp [Lib.deBruijn64tab]; exact hx.2.1)
 have hk : (Lib.deBruijn64tab.map Int.ofNat)[idx]? = some (k : Int) := by rw [List.getElem?_map, hx.2.2.2.2]; rfl
 refine (tz_core x k idx w (by simp; exact hx.1) hx.2.2.2.1 hx.2.1 hx.2.2.1 ?_).mono ?_
 ·rw [hcell, List.getD_eq_getElem?_getD, hk]; rfl
 ·rintro e w' ⟨rfl, rfl⟩
  exact ⟨_, _, rfl, rfl, .v _, Below.refl _ _⟩
end Go.Proofs.YtelhdhofnohkcaaGreatDoor
namespace Go.Proofs.YtelhdhofnohkcaaGreatDoor
open Go.Eng Go.Fm
set_option maxRecDepth 20000
attribute [local irreducible] AG CallA CallT AWp PCall ACall AgC
def Bas (b s k : Nat) : Prop := (b, s, k) ∈ [(2, 1, 1), (8, 3, 7), (16, 4, 15)]
theorem Bas.cases {b s k : Nat} (h : Bas b s k) : (b = 2 ∧ s = 1 ∧ k = 1) ∨ (b = 8 ∧ s = 3 ∧ k = 7) ∨ (b = 16 ∧ s = 4 ∧ k = 15) := by
 simpa [Bas] using h
theorem Q5 {b s k : Nat} (h : Bas b s k) : PCall Tryz.prog 129 [.v (.int .u64 b)] fun r => r = dI s := by
 refine qB Tryz.func129 rfl rfl Tryz.ntmps129 (rs := [.tmp 2]) (tys := [3]) rfl rfl (by simp) ?_
 (refine qc fun Y Yh => ?_; simp [go_sem]; ((repeat' (first|(refine qf ?_;simp [go_sem])|intro _|apply And.intro|(apply Yh;clear Yh Y)));all_goals first|apply QS|omega|with_reducible assumption|skip))
 refine qh fun K1 hK1 => ?_
 (refine qg fun T F hT hF => ?_; simp [go_sem]; refine hF ?_; clear hT hF T F)
 refine qi ?_
 refine hK1 _ ?_; clear hK1
 (refine qc fun Y Yh => ?_; simp [go_sem]; ((repeat' (first|(refine qf ?_;simp [go_sem])|intro _|apply And.intro|(apply Yh;clear Yh Y)));all_goals first|apply QS|omega|with_reducible assumption|skip))
 ((try refine QT ?_); refine qm (.inl ⟨rfl,rfl⟩) (by simp [go_sem]) ?_; intro args ha; simp [go_sem] at ha; subst ha; refine ⟨_, (QA b s k h), ?_⟩; rintro _ rfl; simp [go_sem]; ((repeat' (first|(refine qf ?_;simp [go_sem])|intro _|apply And.intro|(apply Yh;clear Yh Y)));all_goals first|apply QS|omega|with_reducible assumption|skip))
 (refine qj ?_; simp [go_sem])
theorem wG {b s k : Nat} (h : Bas b s k) : PCall Tryz.prog 128 [dI b] fun r => r = dB true := by
 refine qB Tryz.func128 rfl rfl Tryz.ntmps128 (rs := [.tmp 2]) (tys := [4]) rfl rfl (by simp) ?_
 have e : andI .i64 (b : Int) ((b : Int) - 1) = 0 := by
  rcases h.cases with ⟨rfl, _, _⟩ | ⟨rfl, _, _⟩ | ⟨rfl, _, _⟩ <;> decide
 have hb : b ≤ 16 := by rcases h.cases with ⟨rfl, _, _⟩ | ⟨rfl, _, _⟩ | ⟨rfl, _, _⟩ <;> decide
 (refine qc fun Y Yh => ?_; simp [go_sem]; ((repeat' (first|(refine qf ?_;simp [go_sem])|intro _|apply And.intro|(apply Yh;clear Yh Y)));all_goals first|apply QS|omega|with_reducible assumption|skip))
 (refine qc fun Y Yh => ?_; simp [go_sem, e]; ((repeat' (first|(refine qf ?_;simp [go_sem, e])|intro _|apply And.intro|(apply Yh;clear Yh Y)));all_goals first|apply QS|omega|with_reducible assumption|skip))
 (refine qj ?_; simp [go_sem])
theorem and_mod {b s k u : Nat} (h : Bas b s k) (hu : u < 2 ^ 64) : andI .u64 (u : Int) ((b : Int) - 1) = ((u % b : Nat) : Int) := by
 have key : ∀ s : Nat, s < 64 → andI .u64 (u : Int) (((2 ^ s - 1 : Nat) : Nat) : Int) = ((u % 2 ^ s : Nat) : Int) := fun s hs => by
  unfold andI
  have h2 : 2 ^ s - 1 < 2 ^ 64 := by
   have := Nat.pow_lt_pow_right (show 1 < 2 by decide) hs
   omega
  have e1 : (BitVec.ofInt 64 (u : Int)).toNat = u := by rw [BitVec.ofInt_natCast, BitVec.toNat_ofNat]; exact Nat.mod_eq_of_lt hu
  have e2 : (BitVec.ofInt 64 ((2 ^ s - 1 : Nat) : Int)).toNat = 2 ^ s - 1 := by rw [BitVec.ofInt_natCast, BitVec.toNat_ofNat]; exact Nat.mod_eq_of_lt h2
  show IntKind.u64.wrap ((BitVec.ofInt 64 (u : Int) &&& BitVec.ofInt 64 ((2 ^ s - 1 : Nat) : Int)).toNat : Int) = _
  rw [BitVec.toNat_and, e1, e2, Nat.and_two_pow_sub_one_eq_mod, IntKind.wrap_u64]
  have : u % 2 ^ s ≤ u := Nat.mod_le _ _
  omega
 rcases h.cases with ⟨rfl, _, _⟩ | ⟨rfl, _, _⟩ | ⟨rfl, _, _⟩
 ·exact key 1 (by decide)
 ·exact key 3 (by decide)
 ·exact key 4 (by decide)
theorem shr_div {b s k u : Nat} (h : Bas b s k) : shrI .u64 (u : Int) (s : Int) = ((u / b : Nat) : Int) := by
 unfold shrI
 rcases h.cases with ⟨rfl, rfl, _⟩ | ⟨rfl, rfl, _⟩ | ⟨rfl, rfl, _⟩
 all_goals
  simp only [IntKind.bits]
  show Int.fdiv (u : Int) _ = _
  rw [Int.fdiv_eq_ediv_of_nonneg _ (by decide)]
  rfl
def dgL : Bs := [48, 49, 50, 51, 52, 53, 54, 55, 56, 57, 97, 98, 99, 100, 101, 102, 103, 104, 105, 106, 107, 108, 109, 110, 111, 112, 113, 114, 115, 116, 117, 118, 119, 120, 121, 122]
theorem dgL_at : ∀ n, n < 16 → dgL[n]? = some (chB n) := by decide
def cellsB (i : Nat) (ds : Bs) : List D := List.replicate i (.v (.int .u8 0)) ++ ds.map fun c => .v (.int .u8 c.toNat)
theorem cellsB_len (i : Nat) (ds : Bs) : (cellsB i ds).length = i + ds.length := by simp [cellsB]
theorem cellsB_put (i : Nat) (c : UInt8) (ds : Bs) : (cellsB (i + 1) ds).take i ++ (D.v (.int .u8 c.toNat) :: (cellsB (i + 1) ds).drop (i + 1)) = cellsB i (c :: ds) := by
 unfold cellsB
 rw [List.take_append_of_le_length (by simp), List.drop_append]
 simp [List.take_replicate]
theorem cellsB_cut (i : Nat) (ds : Bs) : ((cellsB i ds).map fun d => [d]).drop i = ds.map fun c => [D.v (.int .u8 c.toNat)] := by
 unfold cellsB
 rw [List.map_append, List.drop_append]
 simp
@[go_sem] theorem so68 : strOf Tryz.prog 68 9 = true := by kernel_rfl
def zB : List Value := List.replicate 65 (.int .u8 0)
@[go_sem] theorem zr201 : zeroOf Tryz.prog 201 = some zB := by kernel_rfl
@[go_sem] theorem zB_one : zB.all Value.oneCell' = true := by decide
@[go_sem] theorem zB_map : zB.map D.v = cellsB 65 [] := rfl
@[go_sem] theorem zB_mem : ∀ v ∈ zB, Value.oneCell' v = true := fun v h => by rw [List.eq_of_mem_replicate h]; rfl
theorem txtB_step {b u : Nat} (hb : 2 ≤ b) (h : b ≤ u) : txtB b u = txtB b (u / b) ++ [chB (u % b)] := by
 unfold txtB; rw [digB_step hb h]; simp
theorem txtB_small {b u : Nat} (h : u < b) : txtB b u = [chB u] := by
 unfold txtB; rw [digB_small h]; rfl
set_option maxHeartbeats 16000000 in
theorem xn {b s k : Nat} (h : Bas b s k) (u0 : Int) (m : Nat) (neg : Bool) (hm : (if neg then IntKind.u64.wrap (-u0) else u0) = m) (hlt : m < 2 ^ 64) :
  PCall Tryz.prog 86 [.sl 1 [], .v (.int .u64 u0), dI b, dB neg, dB false] fun r => r = .tup [.sl 1 [], dS ((if neg then [45] else []) ++ txtB b m)] := by 
 refine qB Tryz.func86 rfl rfl Tryz.ntmps86 (rs := [.tmp 10, .tmp 11]) (tys := [68, 9]) rfl rfl (by simp) ?_
 have hb2 : 2 ≤ b ∧ b ≤ 16 ∧ ¬ (b : Int) = 10 := by rcases h.cases with ⟨rfl, _, _⟩ | ⟨rfl, _, _⟩ | ⟨rfl, _, _⟩ <;> decide
 have hs2 : 1 ≤ s ∧ s ≤ 4 := by rcases h.cases with ⟨_, rfl, _⟩ | ⟨_, rfl, _⟩ | ⟨_, rfl, _⟩ <;> decide
 have hlen := txt_len hb2.1 hlt
 have q1 : ¬ (b : Int) < 2 := by omega
 have q2 : ¬ (36 : Int) < b := by omega
 (refine qc fun Y Yh => ?_; simp [go_sem]; ((repeat' (first|(refine qf ?_;simp [go_sem])|intro _|apply And.intro|(apply Yh;clear Yh Y)));all_goals first|apply QS|omega|with_reducible assumption|skip))
 refine qh fun K1 hK1 => ?_
 (refine qc fun Y Yh => ?_; simp [go_sem, q1, hb2.2.2, q2]; ((repeat' (first|(refine qf ?_;simp [go_sem, q1, hb2.2.2, q2])|intro _|apply And.intro|(apply Yh;clear Yh Y)));all_goals first|apply QS|omega|with_reducible assumption|skip))
 (refine qg fun T F hT hF => ?_; simp [go_sem, q1, hb2.2.2, q2]; refine hF ?_; clear hT hF T F)
 refine qi ?_
 refine hK1 _ ?_; clear hK1
 (refine qc fun Y Yh => ?_; simp [go_sem]; ((repeat' (first|(refine qf ?_;simp [go_sem])|intro _|apply And.intro|(apply Yh;clear Yh Y)));all_goals first|apply QS|omega|with_reducible assumption|skip))
 rename_i g
 (refine qc fun Y Yh => ?_; simp [go_sem]; ((repeat' (first|(refine qf ?_;simp [go_sem])|intro _|apply And.intro|(apply Yh;clear Yh Y)));all_goals first|apply QS|omega|with_reducible assumption|skip))
 refine qh fun K2 hK2 => ?_
 have tl2 : ∀ S', Cov S' ⟨[(0, .sl 1 []), (1, .v (.int .u64 m)), (2, dI b), (3, dB neg), (4, dB false), (10, .v (.slice none 0 0)), (11, dS []), (12, .ptr 12 g 0), (13, dI 65)], [(12, (g, .box (cellsB 65 [])))]⟩ → K2 S' := fun S' hS => by
  refine hK2 _ ?_; clear hK2
  refine qG hS ?_; clear hS
  refine qh fun K3 hK3 => ?_
  have tl3 : ∀ S' (i : Nat), i + (txtB b m).length = 65 → Cov S' ⟨[(0, .sl 1 []), (3, dB neg), (4, dB false), (10, .v (.slice none 0 0)), (11, dS []), (12, .ptr 12 g 0), (13, dI i)], [(12, (g, .box (cellsB i (txtB b m))))]⟩ → K3 S' := fun S' i hi hS => by
   refine hK3 _ ?_; clear hK3
   refine qG hS ?_; clear hS
   refine qh fun K4 hK4 => ?_
   have tl4 : ∀ S' (i : Nat) (ds : Bs), i + ds.length = 65 → ds = (if neg then [45] else []) ++ txtB b m → Cov S' ⟨[(0, .sl 1 []), (4, dB false), (10, .v (.slice none 0 0)), (11, dS []), (12, .ptr 12 g 0), (13, dI i)], [(12, (g, .box (cellsB i ds)))]⟩ → K4 S' := fun S' i ds hi hds hS => by
    refine hK4 _ ?_; clear hK4
    refine qG hS ?_; clear hS
    refine qh fun K5 hK5 => ?_
    (refine qc fun Y Yh => ?_; simp [go_sem]; ((repeat' (first|(refine qf ?_;simp [go_sem])|intro _|apply And.intro|(apply Yh;clear Yh Y)));all_goals first|apply QS|omega|with_reducible assumption|skip))
    (refine qg fun T F hT hF => ?_; simp [go_sem]; refine hF ?_; clear hT hF T F)
    refine qi ?_
    refine hK5 _ ?_; clear hK5
    refine zQ 12 rfl rfl ?_
    simp only [go_sem]
    have hi3 : i ≤ 65 := by omega
    (refine qc fun Y Yh => ?_; simp [go_sem, cellsB_len, hi, cellsB_cut]; ((repeat' (first|(refine qf ?_;simp [go_sem, cellsB_len, hi, cellsB_cut])|intro _|apply And.intro|(apply Yh;clear Yh Y)));all_goals first|apply QS|omega|with_reducible assumption|skip))
    (refine qj ?_; simp [go_sem, hds])
   clear hK4
   (refine qc fun Y Yh => ?_; simp [go_sem]; ((repeat' (first|(refine qf ?_;simp [go_sem])|intro _|apply And.intro|(apply Yh;clear Yh Y)));all_goals first|apply QS|omega|with_reducible assumption|skip))
   cases neg with
   | true =>
    obtain ⟨i, rfl⟩ : ∃ j, i = j + 1 := ⟨i - 1, by omega⟩
    have hput : ∀ ds : Bs, (cellsB (i + 1) ds).take i ++ (D.v (.int .u8 45) :: (cellsB (i + 1) ds).drop (i + 1)) = cellsB i (45 :: ds) := fun ds => cellsB_put i 45 ds
    have hi2 : i < i + 1 + (txtB b m).length := by omega
    (refine qg fun T F hT hF => ?_; simp [go_sem]; refine hT ?_; clear hT hF T F)
    (refine qc fun Y Yh => ?_; simp [go_sem]; ((repeat' (first|(refine qf ?_;simp [go_sem])|intro _|apply And.intro|(apply Yh;clear Yh Y)));all_goals first|apply QS|omega|with_reducible assumption|skip))
    (refine qx fun Y Yh => ?_; simp [go_sem, cellsB_len, hput]; ((repeat' (first|(refine qf ?_;simp [go_sem, cellsB_len, hput])|intro _|apply And.intro|(apply Yh;clear Yh Y)));all_goals first|apply QS|omega|with_reducible assumption|skip))
    refine tl4 _ i (45 :: txtB b m) (by simp; omega) (by simp) ?_
    (refine ql ?_ ?_ <;> simp [go_sem])
   | false =>
    (refine qg fun T F hT hF => ?_; simp [go_sem]; refine hF ?_; clear hT hF T F)
    refine qi ?_
    refine tl4 _ i (txtB b m) hi (by simp) ?_
    (refine ql ?_ ?_ <;> simp [go_sem])
  clear hK3
  (refine qc fun Y Yh => ?_; simp [go_sem]; ((repeat' (first|(refine qf ?_;simp [go_sem])|intro _|apply And.intro|(apply Yh;clear Yh Y)));all_goals first|apply QS|omega|with_reducible assumption|skip))
  ((try refine QT ?_); refine qm (.inl ⟨rfl,rfl⟩) (by simp [go_sem]) ?_; intro args ha; simp [go_sem] at ha; subst ha; refine ⟨_, (wG h), ?_⟩; rintro _ rfl; simp [go_sem]; ((repeat' (first|(refine qf ?_;simp [go_sem])|intro _|apply And.intro|(apply Yh;clear Yh Y)));all_goals first|apply QS|omega|with_reducible assumption|skip))
  (refine qg fun T F hT hF => ?_; simp [go_sem]; refine hT ?_; clear hT hF T F)
  have hcv : IntKind.u64.wrap (b : Int) = b := by rw [IntKind.wrap_u64]; omega
  (refine qc fun Y Yh => ?_; simp [go_sem, hcv]; ((repeat' (first|(refine qf ?_;simp [go_sem, hcv])|intro _|apply And.intro|(apply Yh;clear Yh Y)));all_goals first|apply QS|omega|with_reducible assumption|skip))
  have hsv : IntKind.u64.wrap (s : Int) = s := by rw [IntKind.wrap_u64]; omega
  ((try refine QT ?_); refine qm (.inl ⟨rfl,rfl⟩) (by simp [go_sem]) ?_; intro args ha; simp [go_sem] at ha; subst ha; refine ⟨_, (Q5 h), ?_⟩; rintro _ rfl; simp [go_sem, hsv]; ((repeat' (first|(refine qf ?_;simp [go_sem, hsv])|intro _|apply And.intro|(apply Yh;clear Yh Y)));all_goals first|apply QS|omega|with_reducible assumption|skip))
  have hmv : IntKind.u64.wrap ((b : Int) - 1) = (b : Int) - 1 := by rw [IntKind.wrap_u64]; omega
  (refine qc fun Y Yh => ?_; simp [go_sem, hcv]; ((repeat' (first|(refine qf ?_;simp [go_sem, hcv])|intro _|apply And.intro|(apply Yh;clear Yh Y)));all_goals first|apply QS|omega|with_reducible assumption|skip))
  (refine qc fun Y Yh => ?_; simp [go_sem, hcv, hmv]; ((repeat' (first|(refine qf ?_;simp [go_sem, hcv, hmv])|intro _|apply And.intro|(apply Yh;clear Yh Y)));all_goals first|apply QS|omega|with_reducible assumption|skip))
  refine qh fun K9 hK9 => ?_
  refine qo ?_
  refine qM (σ := Nat × Nat × Bs) (fun x => ⟨[(0, .sl 1 []), (1, .v (.int .u64 x.2.1)), (3, dB neg), (4, dB false), (10, .v (.slice none 0 0)), (11, dS []), (12, .ptr 12 g 0), (13, dI x.1), (14, .v (.int .u64 s)), (15, .v (.int .u64 b)), (16, .v (.int .u64 ((b : Int) - 1)))], [(12, (g, .box (cellsB x.1 x.2.2)))]⟩)
   (fun x => x.1 + x.2.2.length = 65 ∧ txtB b x.2.1 ++ x.2.2 = txtB b m ∧ x.2.1 < 2 ^ 64) (fun x => x.2.1) (65, m, []) ?_ ?_ ?_
  ·(refine ql ?_ ?_ <;> simp [go_sem])
  ·exact ⟨rfl, by simp, hlt⟩
  rintro ⟨i, u, ds⟩ ⟨hi, hx, hu⟩
  simp only at hi hx hu ⊢
  have hl := congrArg List.length hx
  rw [List.length_append] at hl
  have hpos : 0 < (txtB b u).length := List.length_pos_iff.2 (txtB_ne b u)
  obtain ⟨i, rfl⟩ : ∃ j, i = j + 1 := ⟨i - 1, by omega⟩
  refine qh fun K10 hK10 => ?_
  (refine qc fun Y Yh => ?_; simp [go_sem]; ((repeat' (first|(refine qf ?_;simp [go_sem])|intro _|apply And.intro|(apply Yh;clear Yh Y)));all_goals first|apply QS|omega|with_reducible assumption|skip))
  by_cases hub : b ≤ u
  ·have hr : u % b < 16 := Nat.lt_of_lt_of_le (Nat.mod_lt _ (by omega)) hb2.2.1
   have hdg := dgL_at (u % b) hr
   unfold dgL at hdg
   have hand := and_mod h hu
   have hshr := shr_div (u := u) h
   have hput := cellsB_put i (chB (u % b)) ds
   have hi2 : i < i + 1 + ds.length := by omega
   have hx2 : txtB b (u / b) ++ chB (u % b) :: ds = txtB b m := by rw [← hx, txtB_step hb2.1 hub]; simp
   generalize u % b = d at hr hdg hand hput hx2
   have hdv : u / b < u := Nat.div_lt_self (by omega) (by omega)
   generalize u / b = q at hshr hx2 hdv
   (refine qg fun T F hT hF => ?_; simp [go_sem, hub]; refine hT ?_; clear hT hF T F)
   refine qi ?_
   refine hK10 _ ?_; clear hK10
   refine qo ?_
   (refine qc fun Y Yh => ?_; simp [go_sem]; ((repeat' (first|(refine qf ?_;simp [go_sem])|intro _|apply And.intro|(apply Yh;clear Yh Y)));all_goals first|apply QS|omega|with_reducible assumption|skip))
   (refine qc fun Y Yh => ?_; simp [go_sem, hand, hdg, cellsB_len, hput]; ((repeat' (first|(refine qf ?_;simp [go_sem, hand, hdg, cellsB_len, hput])|intro _|apply And.intro|(apply Yh;clear Yh Y)));all_goals first|apply QS|omega|with_reducible assumption|skip))
   (refine qx fun Y Yh => ?_; simp [go_sem, hshr]; ((repeat' (first|(refine qf ?_;simp [go_sem, hshr])|intro _|apply And.intro|(apply Yh;clear Yh Y)));all_goals first|apply QS|omega|with_reducible assumption|skip))
   refine ⟨(i, q, chB d :: ds), ?_, ?_, ?_⟩
   ·(refine ql ?_ ?_ <;> simp [go_sem])
   ·exact ⟨by simp; omega, hx2, by simp; omega⟩
   ·exact hdv
  ·have hub' : u < b := by omega
   have hdg := dgL_at u (by omega)
   unfold dgL at hdg
   have hput := cellsB_put i (chB u) ds
   have hi2 : i < i + 1 + ds.length := by omega
   rw [txtB_small hub'] at hx
   (refine qg fun T F hT hF => ?_; simp [go_sem, hub]; refine hF ?_; clear hT hF T F)
   refine qH ?_
   simp only [go_sem]
   refine hK9 _ ?_; clear hK9
   (refine qc fun Y Yh => ?_; simp [go_sem]; ((repeat' (first|(refine qf ?_;simp [go_sem])|intro _|apply And.intro|(apply Yh;clear Yh Y)));all_goals first|apply QS|omega|with_reducible assumption|skip))
   (refine qx fun Y Yh => ?_; simp [go_sem, hdg, cellsB_len, hput]; ((repeat' (first|(refine qf ?_;simp [go_sem, hdg, cellsB_len, hput])|intro _|apply And.intro|(apply Yh;clear Yh Y)));all_goals first|apply QS|omega|with_reducible assumption|skip))
   refine tl3 _ i (by rw [← hx]; simp; omega) ?_
   rw [← hx]
   (refine ql ?_ ?_ <;> simp [go_sem])
 clear hK2
 (refine qc fun Y Yh => ?_; simp [go_sem]; ((repeat' (first|(refine qf ?_;simp [go_sem])|intro _|apply And.intro|(apply Yh;clear Yh Y)));all_goals first|apply QS|omega|with_reducible assumption|skip))
 cases neg with
 | true =>
  simp only [if_true] at hm
  (refine qg fun T F hT hF => ?_; simp [go_sem]; refine hT ?_; clear hT hF T F)
  (refine qx fun Y Yh => ?_; simp [go_sem, hm]; ((repeat' (first|(refine qf ?_;simp [go_sem, hm])|intro _|apply And.intro|(apply Yh;clear Yh Y)));all_goals first|apply QS|omega|with_reducible assumption|skip))
  refine tl2 _ ?_
  (refine ql ?_ ?_ <;> simp [go_sem])
 | false =>
  simp at hm
  (refine qg fun T F hT hF => ?_; simp [go_sem]; refine hF ?_; clear hT hF T F)
  refine qi ?_
  refine tl2 _ ?_
  (refine ql ?_ ?_ <;> simp [go_sem, hm])
theorem wrap_neg {n : Int} (h : InR n) : (if decide (n < 0) then IntKind.u64.wrap (-(IntKind.u64.wrap n)) else IntKind.u64.wrap n) = ((n.natAbs : Nat) : Int) ∧ n.natAbs < 2 ^ 64 := by
 simp only [InR] at h
 rw [IntKind.wrap_u64, IntKind.wrap_u64]
 refine ⟨?_, by omega⟩
 by_cases hn : n < 0
 ·simp only [hn, decide_true, if_true]; omega
 ·simp only [hn, decide_false, Bool.false_eq_true, if_false]; omega
set_option maxHeartbeats 4000000 in
theorem wQ {b s k : Nat} (h : Bas b s k) (n : Int) (hn : InR n) : PCall Tryz.prog 52 [dI n, dI b] fun r => r = dS (showB b n) := by 
 refine qB Tryz.func52 rfl rfl Tryz.ntmps52 (rs := [.tmp 4]) (tys := [9]) rfl rfl (by simp) ?_
 have hb : ¬ (b : Int) = 10 := by rcases h.cases with ⟨rfl, _, _⟩ | ⟨rfl, _, _⟩ | ⟨rfl, _, _⟩ <;> decide
 obtain ⟨w1, w2⟩ := wrap_neg hn
 have B := xn h (IntKind.u64.wrap n) n.natAbs (decide (n < 0)) w1 w2
 have e : showB b n = (if decide (n < 0) then [45] else []) ++ txtB b n.natAbs := by
  unfold showB
  by_cases q : n < 0 <;> simp [q]
 rw [← e] at B
 (refine qc fun Y Yh => ?_; simp [go_sem]; ((repeat' (first|(refine qf ?_;simp [go_sem])|intro _|apply And.intro|(apply Yh;clear Yh Y)));all_goals first|apply QS|omega|with_reducible assumption|skip))
 refine qh fun K1 hK1 => ?_
 (refine qc fun Y Yh => ?_; simp [go_sem]; ((repeat' (first|(refine qf ?_;simp [go_sem])|intro _|apply And.intro|(apply Yh;clear Yh Y)));all_goals first|apply QS|omega|with_reducible assumption|skip))
 (refine qg fun T F hT hF => ?_; simp [go_sem, hb]; refine hF ?_; clear hT hF T F)
 refine qi ?_
 refine hK1 _ ?_; clear hK1
 (refine qc fun Y Yh => ?_; simp [go_sem]; ((repeat' (first|(refine qf ?_;simp [go_sem])|intro _|apply And.intro|(apply Yh;clear Yh Y)));all_goals first|apply QS|omega|with_reducible assumption|skip))
 ((try refine QT ?_); refine qm (.inl ⟨rfl,rfl⟩) (by simp [go_sem]) ?_; intro args ha; simp [go_sem] at ha; subst ha; refine ⟨_, B, ?_⟩; rintro _ rfl; simp [go_sem]; ((repeat' (first|(refine qf ?_;simp [go_sem])|intro _|apply And.intro|(apply Yh;clear Yh Y)));all_goals first|apply QS|omega|with_reducible assumption|skip))
 (refine qc fun Y Yh => ?_; simp [go_sem]; ((repeat' (first|(refine qf ?_;simp [go_sem])|intro _|apply And.intro|(apply Yh;clear Yh Y)));all_goals first|apply QS|omega|with_reducible assumption|skip))
 (refine qj ?_; simp [go_sem])
theorem Qs (b : Nat) (hb : b = 2 ∨ b = 8 ∨ b = 16 ∨ b = 10) (n : Int) (hn : InR n) : PCall Tryz.prog 119 [dI n, dI b] fun r => r = dS (showB b n) := by 
 by_cases h10 : b = 10
 ·subst h10; exact vI n hn
 ·obtain ⟨s, k, h⟩ : ∃ s k, Bas b s k := by
   rcases hb with rfl | rfl | rfl | rfl
   ·exact ⟨1, 1, by simp [Bas]⟩
   ·exact ⟨3, 7, by simp [Bas]⟩
   ·exact ⟨4, 15, by simp [Bas]⟩
   ·exact absurd rfl h10
  refine qB Tryz.func119 rfl rfl Tryz.ntmps119 (rs := [.tmp 4]) (tys := [9]) rfl rfl (by simp) ?_
  (refine qc fun Y Yh => ?_; simp [go_sem]; ((repeat' (first|(refine qf ?_;simp [go_sem])|intro _|apply And.intro|(apply Yh;clear Yh Y)));all_goals first|apply QS|omega|with_reducible assumption|skip))
  (refine qc fun Y Yh => ?_; simp [go_sem]; ((repeat' (first|(refine qf ?_;simp [go_sem])|intro _|apply And.intro|(apply Yh;clear Yh Y)));all_goals first|apply QS|omega|with_reducible assumption|skip))
  ((try refine QT ?_); refine qm (.inl ⟨rfl,rfl⟩) (by simp [go_sem]) ?_; intro args ha; simp [go_sem] at ha; subst ha; refine ⟨_, (wQ h n hn), ?_⟩; rintro _ rfl; simp [go_sem]; ((repeat' (first|(refine qf ?_;simp [go_sem])|intro _|apply And.intro|(apply Yh;clear Yh Y)));all_goals first|apply QS|omega|with_reducible assumption|skip))
  (refine qj ?_; simp [go_sem])
def NL (c : UInt8) : Prop := c = 100 ∨ c = 120 ∨ c = 88 ∨ c = 111 ∨ c = 98
theorem NL.base {c : UInt8} (h : NL c) : baseV c = 2 ∨ baseV c = 8 ∨ baseV c = 16 ∨ baseV c = 10 := by
 rcases h with rfl | rfl | rfl | rfl | rfl <;> decide
theorem chB_lt : ∀ d, d < 16 → (chB d).toNat < 128 := by decide
theorem txtB_ascii {b : Nat} (hb : 2 ≤ b) (hb2 : b ≤ 16) (n : Nat) : (txtB b n).all (fun c => decide (c.toNat < 128)) = true := by
 rw [List.all_eq_true]
 intro c hc
 unfold txtB at hc
 obtain ⟨d, hd, rfl⟩ := List.mem_map.1 hc
 simpa using chB_lt d (Nat.lt_of_lt_of_le (digB_lt hb n d hd) hb2)
theorem rep_len (c : UInt8) (n : Int) : (rep c n).length = n.toNat := by simp [rep]
set_option maxHeartbeats 32000000 in
theorem Qn (f : Fld) (n : Int) (hn : InR n) (hl : NL f.lt) (hw : -1 ≤ f.wd ∧ f.wd ≤ 1000) (hp : -1 ≤ f.pr ∧ f.pr ≤ 1000000) : PCall Tryz.prog 79 [dF f, dI n] fun r => r = dS (numV f n) := by 
 refine qB Tryz.func79 rfl rfl Tryz.ntmps79 (rs := [.tmp 4]) (tys := [9]) rfl rfl (by simp) ?_
 have hnabs : n.natAbs < 2 ^ 64 := by simp only [InR] at hn; omega
 have hb2 : 2 ≤ baseV f.lt ∧ baseV f.lt ≤ 16 := by rcases hl.base with h | h | h | h <;> rw [h] <;> decide
 have F1 := Qs (baseV f.lt) hl.base n hn
 have F2 := zN (showB (baseV f.lt) n) [45]
 rw [trimPre_show _ hb2.1 hb2.2] at F2
 have F3 := jD (txtB (baseV f.lt) n.natAbs) (by have := txt_len hb2.1 hnabs; omega) (txtB_ascii hb2.1 hb2.2 _)
 have hlen := txt_len hb2.1 hnabs
 have hne0 := txtB_ne (baseV f.lt) n.natAbs
 have hbase : ∀ c : UInt8, NL c → baseV c = if c = 100 then 10 else if c = 111 then 8 else if c = 98 then 2 else 16 := fun _ _ => rfl
 
 have eD3 : digsV f n = (let d := if f.pr = 0 ∧ n = 0 then [] else (if f.lt = 88 then (txtB (baseV f.lt) n.natAbs).map upC else txtB (baseV f.lt) n.natAbs)
   if 0 < f.pr - d.length then rep 48 (f.pr - d.length) ++ d else d) := rfl
 have eN : numV f n = (let d := digsV f n
   let fr := signV f n ++ (if f.ha ∧ n ≠ 0 ∧ f.lt ≠ 100 then preV f.lt d else [])
   let m := f.wd - fr.length - d.length
   paddedV f (fr ++ if f.ze ∧ f.pr < 0 ∧ f.lf = false ∧ 0 < m then rep 48 m ++ d else d)) := rfl
 rw [eN]
 clear eN
 dsimp only
 generalize hD0 : txtB (baseV f.lt) n.natAbs = D0 at *
 have hD1l : (if f.lt = 88 then D0.map upC else D0).length ≤ 64 := by split <;> simpa using hlen
 have hD1n : (if f.lt = 88 then D0.map upC else D0) ≠ [] := by split <;> simpa using hne0
 generalize hD1 : (if f.lt = 88 then D0.map upC else D0) = D1 at *
 have hD2l : (if f.pr = 0 ∧ n = 0 then [] else D1).length ≤ 64 := by
  split
  ·simp
  ·exact hD1l
 have hD2n : n ≠ 0 → (if f.pr = 0 ∧ n = 0 then [] else D1) ≠ [] := fun q => by rw [if_neg (fun h => q h.2)]; exact hD1n
 generalize hD2 : (if f.pr = 0 ∧ n = 0 then [] else D1) = D2 at *
 simp only at eD3
 have hD3l : (digsV f n).length ≤ 1000064 := by
  rw [eD3]
  split
  ·rw [List.length_append, rep_len]; omega
  ·omega
 have hD3n : n ≠ 0 → digsV f n ≠ [] := fun q => by rw [eD3]; split <;> simp [hD2n q]
 generalize hD3 : digsV f n = D3 at *
 have hSl : (signV f n).length ≤ 1 := by
  unfold signV
  (repeat' split) <;> simp
 have hS : signV f n = if n < 0 then [45] else if f.pl then [43] else if f.bl then [32] else [] := rfl
 generalize signV f n = S0 at *
 have hPl : (if f.ha ∧ n ≠ 0 ∧ f.lt ≠ 100 then preV f.lt D3 else []).length ≤ 2 := by
  unfold preV
  (repeat' split) <;> simp
 generalize hPf : (if f.ha ∧ n ≠ 0 ∧ f.lt ≠ 100 then preV f.lt D3 else []) = Pf at *
 have hFl : (S0 ++ Pf).length ≤ 3 := by simp; omega
 generalize hF : S0 ++ Pf = F at *
 have hD4l : (if f.ze ∧ f.pr < 0 ∧ f.lf = false ∧ 0 < f.wd - F.length - D3.length then rep 48 (f.wd - F.length - D3.length) ++ D3 else D3).length ≤ 1001064 := by
  split
  ·rw [List.length_append, rep_len]; omega
  ·omega
 generalize hD4 : (if f.ze ∧ f.pr < 0 ∧ f.lf = false ∧ 0 < f.wd - F.length - D3.length then rep 48 (f.wd - F.length - D3.length) ++ D3 else D3) = D4 at *
 have hPad := zD f (F ++ D4) (by omega) (by simp; omega)
 (refine qc fun Y Yh => ?_; simp [go_sem]; ((repeat' (first|(refine qf ?_;simp [go_sem])|intro _|apply And.intro|(apply Yh;clear Yh Y)));all_goals first|apply QS|omega|with_reducible assumption|skip))
 refine zQ 2 rfl rfl ?_
 simp only [go_sem]
 refine zq ⟨[(1, dI n), (2, .rd (cF f)), (5, dI (baseV f.lt))], []⟩ ?_ ?_
 ·rcases hl with h | h | h | h | h
  all_goals
   rw [h]
   (refine qx fun Y Yh => ?_; simp [go_sem, h]; ((repeat' (first|(refine qf ?_;simp [go_sem, h])|intro _|apply And.intro|(apply Yh;clear Yh Y)));all_goals first|apply QS|omega|with_reducible assumption|skip))
   (refine ql ?_ ?_ <;> simp [go_sem, h])
   try rfl
 ·(refine qc fun Y Yh => ?_; simp [go_sem]; ((repeat' (first|(refine qf ?_;simp [go_sem])|intro _|apply And.intro|(apply Yh;clear Yh Y)));all_goals first|apply QS|omega|with_reducible assumption|skip))
  ((try refine QT ?_); refine qm (.inl ⟨rfl,rfl⟩) (by simp [go_sem]) ?_; intro args ha; simp [go_sem] at ha; subst ha; refine ⟨_, F1, ?_⟩; rintro _ rfl; simp [go_sem]; ((repeat' (first|(refine qf ?_;simp [go_sem])|intro _|apply And.intro|(apply Yh;clear Yh Y)));all_goals first|apply QS|omega|with_reducible assumption|skip))
  ((try refine QT ?_); refine qm (.inl ⟨rfl,rfl⟩) (by simp [go_sem]) ?_; intro args ha; simp [go_sem] at ha; subst ha; refine ⟨_, F2, ?_⟩; rintro _ rfl; simp [go_sem]; ((repeat' (first|(refine qf ?_;simp [go_sem])|intro _|apply And.intro|(apply Yh;clear Yh Y)));all_goals first|apply QS|omega|with_reducible assumption|skip))
  
  refine zq ⟨[(1, dI n), (2, .rd (cF f)), (6, dS D1)], []⟩ ?_ ?_
  ·have b88 : decide ((f.lt.toNat : Int) = 88) = decide (f.lt = 88) := u8_eqb _ 88 (by decide)
   (refine qc fun Y Yh => ?_; simp [go_sem, b88]; ((repeat' (first|(refine qf ?_;simp [go_sem, b88])|intro _|apply And.intro|(apply Yh;clear Yh Y)));all_goals first|apply QS|omega|with_reducible assumption|skip))
   by_cases h88 : f.lt = 88
   ·rw [if_pos h88] at hD1
    (refine qg fun T F hT hF => ?_; simp [go_sem, h88]; refine hT ?_; clear hT hF T F)
    (refine qx fun Y Yh => ?_; simp [go_sem]; ((repeat' (first|(refine qf ?_;simp [go_sem])|intro _|apply And.intro|(apply Yh;clear Yh Y)));all_goals first|apply QS|omega|with_reducible assumption|skip))
    ((try refine QT ?_); refine qm (.inl ⟨rfl,rfl⟩) (by simp [go_sem]) ?_; intro args ha; simp [go_sem] at ha; subst ha; refine ⟨_, F3, ?_⟩; rintro _ rfl; simp [go_sem]; ((repeat' (first|(refine qf ?_;simp [go_sem])|intro _|apply And.intro|(apply Yh;clear Yh Y)));all_goals first|apply QS|omega|with_reducible assumption|skip))
    (refine ql ?_ ?_ <;> simp [go_sem, hD1])
   ·rw [if_neg h88] at hD1
    (refine qg fun T F hT hF => ?_; simp [go_sem, h88]; refine hF ?_; clear hT hF T F)
    refine qi ?_
    (refine ql ?_ ?_ <;> simp [go_sem, hD1])
  refine zq ⟨[(1, dI n), (2, .rd (cF f)), (6, dS D2)], []⟩ ?_ ?_
  ·(refine qc fun Y Yh => ?_; simp [go_sem]; ((repeat' (first|(refine qf ?_;simp [go_sem])|intro _|apply And.intro|(apply Yh;clear Yh Y)));all_goals first|apply QS|omega|with_reducible assumption|skip))
   by_cases h0 : f.pr = 0 ∧ n = 0
   ·rw [if_pos h0] at hD2
    (refine qg fun T F hT hF => ?_; simp [go_sem, h0.1, h0.2]; refine hT ?_; clear hT hF T F)
    (refine qx fun Y Yh => ?_; simp [go_sem]; ((repeat' (first|(refine qf ?_;simp [go_sem])|intro _|apply And.intro|(apply Yh;clear Yh Y)));all_goals first|apply QS|omega|with_reducible assumption|skip))
    (refine ql ?_ ?_ <;> simp [go_sem])
    exact hD2.symm
   ·rw [if_neg h0] at hD2
    have hb : (decide (f.pr = 0) && decide (n = 0)) = false := by rw [Bool.eq_false_iff]; intro q; exact h0 (by simpa using q)
    (refine qg fun T F hT hF => ?_; simp [go_sem, hb]; refine hF ?_; clear hT hF T F)
    refine qi ?_
    (refine ql ?_ ?_ <;> simp [go_sem, hD2])
  refine zq ⟨[(1, dI n), (2, .rd (cF f)), (6, dS D3)], []⟩ ?_ ?_
  ·(refine qc fun Y Yh => ?_; simp [go_sem, ba_size]; ((repeat' (first|(refine qf ?_;simp [go_sem, ba_size])|intro _|apply And.intro|(apply Yh;clear Yh Y)));all_goals first|apply QS|omega|with_reducible assumption|skip))
   (refine qc fun Y Yh => ?_; simp [go_sem]; ((repeat' (first|(refine qf ?_;simp [go_sem])|intro _|apply And.intro|(apply Yh;clear Yh Y)));all_goals first|apply QS|omega|with_reducible assumption|skip))
   by_cases h0 : 0 < f.pr - D2.length
   ·rw [if_pos h0] at eD3
    have hR := jI 48 (f.pr - D2.length) (by omega) (by omega)
    have hrl := rep_len 48 (f.pr - D2.length)
    have h0' : (D2.length : Int) < f.pr := by omega
    (refine qg fun T F hT hF => ?_; simp [go_sem, h0']; refine hT ?_; clear hT hF T F)
    (refine qx fun Y Yh => ?_; simp [go_sem]; ((repeat' (first|(refine qf ?_;simp [go_sem])|intro _|apply And.intro|(apply Yh;clear Yh Y)));all_goals first|apply QS|omega|with_reducible assumption|skip))
    ((try refine QT ?_); refine qm (.inl ⟨rfl,rfl⟩) (by simp [go_sem]) ?_; intro args ha; simp [go_sem] at ha; subst ha; refine ⟨_, hR, ?_⟩; rintro _ rfl; simp [go_sem, ba_size]; ((repeat' (first|(refine qf ?_;simp [go_sem, ba_size])|intro _|apply And.intro|(apply Yh;clear Yh Y)));all_goals first|apply QS|omega|with_reducible assumption|skip))
    (refine ql ?_ ?_ <;> simp [go_sem, ba_app])
    exact eD3.symm
   ·rw [if_neg h0] at eD3
    have h0' : ¬ (D2.length : Int) < f.pr := by omega
    (refine qg fun T F hT hF => ?_; simp [go_sem, h0']; refine hF ?_; clear hT hF T F)
    refine qi ?_
    (refine ql ?_ ?_ <;> simp [go_sem])
    exact eD3.symm
  (refine qc fun Y Yh => ?_; simp [go_sem]; ((repeat' (first|(refine qf ?_;simp [go_sem])|intro _|apply And.intro|(apply Yh;clear Yh Y)));all_goals first|apply QS|omega|with_reducible assumption|skip))
  refine zq ⟨[(1, dI n), (2, .rd (cF f)), (6, dS D3), (8, dS S0)], []⟩ ?_ ?_
  ·refine qo ?_
   (refine qc fun Y Yh => ?_; simp [go_sem]; ((repeat' (first|(refine qf ?_;simp [go_sem])|intro _|apply And.intro|(apply Yh;clear Yh Y)));all_goals first|apply QS|omega|with_reducible assumption|skip))
   by_cases hn0 : n < 0
   ·rw [if_pos hn0] at hS
    (refine qg fun T F hT hF => ?_; simp [go_sem, hn0]; refine hT ?_; clear hT hF T F)
    (refine qx fun Y Yh => ?_; simp [go_sem]; ((repeat' (first|(refine qf ?_;simp [go_sem])|intro _|apply And.intro|(apply Yh;clear Yh Y)));all_goals first|apply QS|omega|with_reducible assumption|skip))
    (refine ql ?_ ?_ <;> simp [go_sem, hS])
   ·rw [if_neg hn0] at hS
    (refine qg fun T F hT hF => ?_; simp [go_sem, hn0]; refine hF ?_; clear hT hF T F)
    (refine qc fun Y Yh => ?_; simp [go_sem]; ((repeat' (first|(refine qf ?_;simp [go_sem])|intro _|apply And.intro|(apply Yh;clear Yh Y)));all_goals first|apply QS|omega|with_reducible assumption|skip))
    cases hpl : f.pl with
    | true =>
     rw [hpl, if_pos rfl] at hS
     (refine qg fun T F hT hF => ?_; simp [go_sem]; refine hT ?_; clear hT hF T F)
     (refine qx fun Y Yh => ?_; simp [go_sem]; ((repeat' (first|(refine qf ?_;simp [go_sem])|intro _|apply And.intro|(apply Yh;clear Yh Y)));all_goals first|apply QS|omega|with_reducible assumption|skip))
     (refine ql ?_ ?_ <;> simp [go_sem, hS, hpl])
    | false =>
     rw [hpl, if_neg (by simp)] at hS
     (refine qg fun T F hT hF => ?_; simp [go_sem]; refine hF ?_; clear hT hF T F)
     (refine qc fun Y Yh => ?_; simp [go_sem]; ((repeat' (first|(refine qf ?_;simp [go_sem])|intro _|apply And.intro|(apply Yh;clear Yh Y)));all_goals first|apply QS|omega|with_reducible assumption|skip))
     cases hbl : f.bl with
     | true =>
      rw [hbl, if_pos rfl] at hS
      (refine qg fun T F hT hF => ?_; simp [go_sem]; refine hT ?_; clear hT hF T F)
      (refine qx fun Y Yh => ?_; simp [go_sem]; ((repeat' (first|(refine qf ?_;simp [go_sem])|intro _|apply And.intro|(apply Yh;clear Yh Y)));all_goals first|apply QS|omega|with_reducible assumption|skip))
      (refine ql ?_ ?_ <;> simp [go_sem, hS, hpl, hbl])
     | false =>
      rw [hbl, if_neg (by simp)] at hS
      (refine qg fun T F hT hF => ?_; simp [go_sem]; refine hF ?_; clear hT hF T F)
      refine qi ?_
      (refine ql ?_ ?_ <;> simp [go_sem, hS, hpl, hbl])
  refine zq ⟨[(1, dI n), (2, .rd (cF f)), (6, dS D3), (8, dS F)], []⟩ ?_ ?_
  ·have b100 : decide ((f.lt.toNat : Int) = 100) = decide (f.lt = 100) := u8_eqb _ 100 (by decide)
   have b111 : decide ((f.lt.toNat : Int) = 111) = decide (f.lt = 111) := u8_eqb _ 111 (by decide)
   (refine qc fun Y Yh => ?_; simp [go_sem, b100]; ((repeat' (first|(refine qf ?_;simp [go_sem, b100])|intro _|apply And.intro|(apply Yh;clear Yh Y)));all_goals first|apply QS|omega|with_reducible assumption|skip))
   by_cases hh : f.ha = true ∧ n ≠ 0 ∧ f.lt ≠ 100
   ·rw [if_pos hh] at hPf
    obtain ⟨c0, r0, hc0⟩ : ∃ c0 r0, D3 = c0 :: r0 := by
     cases hq : D3 with
     | nil => exact absurd hq (hD3n hh.2.1)
     | cons a b => exact ⟨a, b, rfl⟩
    have b48 : decide ((c0.toNat : Int) = 48) = decide (c0 = 48) := u8_eqb _ 48 (by decide)
    (refine qg fun T F hT hF => ?_; simp [go_sem, hh.1, hh.2.1, hh.2.2]; refine hT ?_; clear hT hF T F)
    refine zq ⟨[(1, dI n), (2, .rd (cF f)), (6, dS D3), (8, dS S0), (9, dS (if f.lt = 111 then [48] else preV f.lt D3))], []⟩ ?_ ?_
    ·have hll := hl
     rcases hll with h | h | h | h | h
     ·exact absurd h hh.2.2
     all_goals
      rw [h]
      (refine qx fun Y Yh => ?_; simp [go_sem, h]; ((repeat' (first|(refine qf ?_;simp [go_sem, h])|intro _|apply And.intro|(apply Yh;clear Yh Y)));all_goals first|apply QS|omega|with_reducible assumption|skip))
      (refine ql ?_ ?_ <;> simp [go_sem, h])
      try rfl
    ·subst hc0
     by_cases hs : f.lt = 111 ∧ c0 = 48
     ·have hpe : Pf = [] := by
       rw [← hPf]
       unfold preV
       rw [hs.1]
       simp [hs.2]
      have hFe : S0 = F := by rw [← hF, hpe, List.append_nil]
      (refine qc fun Y Yh => ?_; simp [go_sem, b111, b48]; ((repeat' (first|(refine qf ?_;simp [go_sem, b111, b48])|intro _|apply And.intro|(apply Yh;clear Yh Y)));all_goals first|apply QS|omega|with_reducible assumption|skip))
      (refine qg fun T F hT hF => ?_; simp [go_sem, hs.1, hs.2]; refine hF ?_; clear hT hF T F)
      refine qi ?_
      (refine ql ?_ ?_ <;> simp [go_sem])
      exact hFe
     ·have hpe : (if f.lt = 111 then [48] else preV f.lt (c0 :: r0)) = Pf := by
       rw [← hPf]
       by_cases h1 : f.lt = 111
       ·have h2 : ¬ c0 = 48 := fun q => hs ⟨h1, q⟩
        rw [if_pos h1]
        unfold preV
        rw [h1]
        simp [h2]
       ·rw [if_neg h1]
      have hb : (!decide (f.lt = 111) || !decide (c0 = 48)) = true := by
       cases hq : (!decide (f.lt = 111) || !decide (c0 = 48)) with
       | true => rfl
       | false => exfalso; simp at hq; exact hs hq
      have hpl2 : Pf.length ≤ 2 := hPl
      (refine qc fun Y Yh => ?_; simp [go_sem, b111, b48]; ((repeat' (first|(refine qf ?_;simp [go_sem, b111, b48])|intro _|apply And.intro|(apply Yh;clear Yh Y)));all_goals first|apply QS|omega|with_reducible assumption|skip))
      (refine qg fun T F hT hF => ?_; simp [go_sem, hb]; refine hT ?_; clear hT hF T F)
      rw [hpe]
      (refine qx fun Y Yh => ?_; simp [go_sem, ba_size]; ((repeat' (first|(refine qf ?_;simp [go_sem, ba_size])|intro _|apply And.intro|(apply Yh;clear Yh Y)));all_goals first|apply QS|omega|with_reducible assumption|skip))
      (refine ql ?_ ?_ <;> simp [go_sem, ba_app])
      exact hF
   ·rw [if_neg hh] at hPf
    have hb : (f.ha && !decide (n = 0) && !decide (f.lt = 100)) = false := by rw [Bool.eq_false_iff]; intro q; exact hh (by simpa [and_assoc] using q)
    (refine qg fun T F hT hF => ?_; simp [go_sem, hb]; refine hF ?_; clear hT hF T F)
    refine qi ?_
    subst hPf
    (refine ql ?_ ?_ <;> simp [go_sem])
    simpa using hF
  refine zq ⟨[(2, .rd (cF f)), (6, dS D4), (8, dS F)], []⟩ ?_ ?_
  ·(refine qc fun Y Yh => ?_; simp [go_sem, ba_size]; ((repeat' (first|(refine qf ?_;simp [go_sem, ba_size])|intro _|apply And.intro|(apply Yh;clear Yh Y)));all_goals first|apply QS|omega|with_reducible assumption|skip))
   (refine qc fun Y Yh => ?_; simp [go_sem]; ((repeat' (first|(refine qf ?_;simp [go_sem])|intro _|apply And.intro|(apply Yh;clear Yh Y)));all_goals first|apply QS|omega|with_reducible assumption|skip))
   by_cases hz : f.ze ∧ f.pr < 0 ∧ f.lf = false ∧ 0 < f.wd - F.length - D3.length
   ·rw [if_pos hz] at hD4
    have hR := jI 48 (f.wd - F.length - D3.length) (by omega) (by omega)
    have hrl := rep_len 48 (f.wd - F.length - D3.length)
    have hz' : (D3.length : Int) < f.wd - F.length := by omega
    (refine qg fun T F hT hF => ?_; simp [go_sem, hz.1, hz.2.1, hz.2.2.1, hz']; refine hT ?_; clear hT hF T F)
    (refine qx fun Y Yh => ?_; simp [go_sem]; ((repeat' (first|(refine qf ?_;simp [go_sem])|intro _|apply And.intro|(apply Yh;clear Yh Y)));all_goals first|apply QS|omega|with_reducible assumption|skip))
    ((try refine QT ?_); refine qm (.inl ⟨rfl,rfl⟩) (by simp [go_sem]) ?_; intro args ha; simp [go_sem] at ha; subst ha; refine ⟨_, hR, ?_⟩; rintro _ rfl; simp [go_sem, ba_size]; ((repeat' (first|(refine qf ?_;simp [go_sem, ba_size])|intro _|apply And.intro|(apply Yh;clear Yh Y)));all_goals first|apply QS|omega|with_reducible assumption|skip))
    (refine ql ?_ ?_ <;> simp [go_sem, ba_app])
    exact hD4
   ·rw [if_neg hz] at hD4
    have hb : (f.ze && decide (f.pr < 0) && !f.lf && decide ((D3.length : Int) < f.wd - F.length)) = false := by
     rw [Bool.eq_false_iff]; intro q
     simp only [Bool.and_eq_true, decide_eq_true_eq, Bool.not_eq_true'] at q
     exact hz ⟨q.1.1.1, q.1.1.2, q.1.2, by omega⟩
    (refine qg fun T F hT hF => ?_; simp [go_sem, hb]; refine hF ?_; clear hT hF T F)
    refine qi ?_
    (refine ql ?_ ?_ <;> simp [go_sem])
    exact hD4
  (refine qc fun Y Yh => ?_; simp [go_sem, ba_size, ba_app]; ((repeat' (first|(refine qf ?_;simp [go_sem, ba_size, ba_app])|intro _|apply And.intro|(apply Yh;clear Yh Y)));all_goals first|apply QS|omega|with_reducible assumption|skip))
  ((try refine QT ?_); refine qm (.inl ⟨rfl,rfl⟩) (by simp [go_sem]) ?_; intro args ha; simp [go_sem] at ha; subst ha; refine ⟨_, hPad, ?_⟩; rintro _ rfl; simp [go_sem]; ((repeat' (first|(refine qf ?_;simp [go_sem])|intro _|apply And.intro|(apply Yh;clear Yh Y)));all_goals first|apply QS|omega|with_reducible assumption|skip))
  (refine qj ?_; simp [go_sem])
end Go.Proofs.YtelhdhofnohkcaaGreatDoor
namespace Go.Fm
theorem parse_dec : ∀ (s : List UInt8), s.all isDig = true → ∀ acc, (acc + 1) * 10 ^ s.length ≤ 10 ^ 18 →
  Lib.parseUint10 acc s = .ok (s.foldl (fun n c => 10 * n + (c.toNat - 48)) acc)
 | [], _, acc, _ => by simp [Lib.parseUint10]
 | c :: s, h, acc, ha => by
  rw [List.all_cons, Bool.and_eq_true] at h
  have hc : 48 ≤ c.toNat ∧ c.toNat ≤ 57 := by have := h.1; simpa [isDig, UInt8.le_iff_toNat_le] using this
  have hp : 0 < 10 ^ s.length := Nat.pow_pos (by decide)
  have e : (acc + 1) * 10 ^ (c :: s).length = (acc * 10 + 10) * 10 ^ s.length := by rw [List.length_cons, Nat.pow_succ, Nat.mul_comm (10 ^ s.length) 10, ← Nat.mul_assoc]; congr 1; omega
  rw [e] at ha
  have h1 : acc * 10 + 10 ≤ 10 ^ 18 := Nat.le_trans (Nat.le_mul_of_pos_right _ hp) ha
  have h2 : (acc * 10 + (c.toNat - 48) + 1) * 10 ^ s.length ≤ 10 ^ 18 := Nat.le_trans (Nat.mul_le_mul_right _ (by omega)) ha
  unfold Lib.parseUint10
  rw [if_pos (by omega), if_neg (by omega), if_neg (by omega), parse_dec s h.2 _ h2, List.foldl_cons]
  congr 2
  omega
theorem foldl_lt : ∀ (s : List UInt8), s.all isDig = true → ∀ acc, s.foldl (fun n c => 10 * n + (c.toNat - 48)) acc < (acc + 1) * 10 ^ s.length
 | [], _, acc => by simp
 | c :: s, h, acc => by
  rw [List.all_cons, Bool.and_eq_true] at h
  have hc : 48 ≤ c.toNat ∧ c.toNat ≤ 57 := by have := h.1; simpa [isDig, UInt8.le_iff_toNat_le] using this
  rw [List.foldl_cons]
  refine Nat.lt_of_lt_of_le (foldl_lt s h.2 _) ?_
  have e : (acc + 1) * 10 ^ (c :: s).length = (acc * 10 + 10) * 10 ^ s.length := by rw [List.length_cons, Nat.pow_succ, Nat.mul_comm (10 ^ s.length) 10, ← Nat.mul_assoc]; congr 1; omega
  rw [e]
  exact Nat.mul_le_mul_right _ (by omega)
theorem decN_lt {s : List UInt8} (h : s.all isDig = true) (hl : s.length ≤ 18) : decN s < 10 ^ 18 := by
 have := foldl_lt s h 0
 refine Nat.lt_of_lt_of_le this ?_
 simp only [Nat.zero_add, Nat.one_mul]
 exact Nat.pow_le_pow_right (by decide) hl
theorem pmag_dec {s : List UInt8} (h : s.all isDig = true) (hne : s ≠ []) (hl : s.length ≤ 18) : Lib.parseMag s = .ok (decN s) := by
 unfold Lib.parseMag
 rw [if_neg hne, parse_dec s h 0 (by simp only [Nat.zero_add, Nat.one_mul]; exact Nat.pow_le_pow_right (by decide) hl)]
 rfl
theorem atoi_dec {t : List UInt8} {s : List UInt8} (hs : s = if t.head? = some 45 then t.tail else t) (h : s.all isDig = true) (hne : s ≠ []) (hl : s.length ≤ 18) :
  Lib.atoiAll t = .ok (if t.head? = some 45 then -(decN s : Int) else decN s) := by
 have hp := pmag_dec h hne hl
 have hlt := decN_lt h hl
 cases t with
 | nil => simp at hs; exact absurd hs hne
 | cons c r =>
  simp only [List.head?_cons, Option.some.injEq, List.tail_cons] at hs ⊢
  unfold Lib.atoiAll
  simp only
  by_cases h45 : c = 45
  ·rw [if_pos h45] at hs
   subst h45
   subst hs
   simp only [show (45 : UInt8).toNat = 45 by rfl, or_true, if_true, hp]
   rw [if_neg (by simp), if_neg (by omega)]
  ·rw [if_neg h45] at hs
   have hn : ¬ c.toNat = 45 := fun q => h45 (UInt8.toNat_inj.1 (by simpa using q))
   have hcd : isDig c = true := by rw [hs] at h; simp at h; exact h.1
   have h43 : ¬ c.toNat = 43 := by simp [isDig, UInt8.le_iff_toNat_le] at hcd; omega
   simp only [hn, h43, or_self, if_false, h45, ← hs, hp]
   rw [if_neg (by omega), if_neg (by simp)]
theorem jF (t : List UInt8) : Lib.trimPrefix t [45] = if t.head? = some 45 then t.tail else t := by
 unfold Lib.trimPrefix Lib.hasPrefix
 cases t with
 | nil => simp
 | cons c r =>
  by_cases h : c = 45
  ·subst h; simp
  ·have : ([45] : List UInt8).isPrefixOf (c :: r) = false := by simp [List.isPrefixOf, Ne.symm h]
   rw [this]
   simp [h]
end Go.Fm
namespace Go.Proofs.YtelhdhofnohkcaaGreatDoor
open Go.Eng Go.Fm Go.RowKit
set_option maxRecDepth 20000
attribute [local irreducible] AG CallA CallT AWp PCall ACall AgC
theorem xu (s : Bs) (hl : s.length ≤ 1100000) (v : Int) (h : Lib.atoiAll s = .ok v) : PCall Tryz.prog 118 [dS s] fun r => r = .tup [dI v, .v .nilIface] := by
 refine qV ⟨_, Tryz.func118, rfl, rfl⟩ fun C w us hc hg hr => ?_
 obtain rfl := repL_v (us := [.string ⟨s.toArray⟩]) hr
 refine (Tryz.strconv_Atoi_ok ⟨s.toArray⟩ (by simp [ByteArray.size]; omega) v (by simpa using h) w).mono ?_
 rintro e w' ⟨rfl, hw⟩
 refine ⟨_, _, rfl, rfl, rep_tup2 (.v _) (.v _), ?_⟩
 rcases hw with rfl | ⟨t, rfl⟩
 ·exact Below.refl _ _
 ·exact ⟨rfl, rfl, rfl, by rw [Lib.bytesWorld_size]; omega, fun k hk => Lib.bytesWorld_at_old w _ _ k (by omega)⟩
def numQ (a : Ag) : Int × Bool := match numA a with
 | none => (0, false)
 | some n => (n, true)
set_option maxHeartbeats 8000000 in
theorem kH (a : Ag) (h : InR a.int) (hl : a.tx.length ≤ 1100000) : PCall Tryz.prog 78 [dA a] fun r => r = .tup [dI (numQ a).1, dB (numQ a).2] := by 
 refine qB Tryz.func78 rfl rfl Tryz.ntmps78 (rs := [.tmp 2, .tmp 3]) (tys := [3, 4]) rfl rfl (by simp) ?_
 cases hi : a.is with
 | false =>
  have e : numQ a = (a.int, true) := by unfold numQ numA; rw [if_pos hi]
  rw [e]
  (refine qc fun Y Yh => ?_; simp [go_sem, hi]; ((repeat' (first|(refine qf ?_;simp [go_sem, hi])|intro _|apply And.intro|(apply Yh;clear Yh Y)));all_goals first|apply QS|omega|with_reducible assumption|skip))
  refine qh fun K1 hK1 => ?_
  (refine qc fun Y Yh => ?_; simp [go_sem]; ((repeat' (first|(refine qf ?_;simp [go_sem])|intro _|apply And.intro|(apply Yh;clear Yh Y)));all_goals first|apply QS|omega|with_reducible assumption|skip))
  (refine qg fun T F hT hF => ?_; simp [go_sem]; refine hT ?_; clear hT hF T F)
  (refine qc fun Y Yh => ?_; simp [go_sem]; ((repeat' (first|(refine qf ?_;simp [go_sem])|intro _|apply And.intro|(apply Yh;clear Yh Y)));all_goals first|apply QS|omega|with_reducible assumption|skip))
  (refine qj ?_; simp [go_sem])
 | true =>
  have hT := zN a.tx [45]
  rw [jF] at hT
  have hA := fun s hs h1 h2 h3 => xu a.tx hl _ (atoi_dec (t := a.tx) (s := s) hs h1 h2 h3)
  have e : numQ a = match (if (if a.tx.head? = some 45 then a.tx.tail else a.tx) = [] ∨ 18 < (if a.tx.head? = some 45 then a.tx.tail else a.tx).length ∨ ((if a.tx.head? = some 45 then a.tx.tail else a.tx).head? = some 48 ∧ 1 < (if a.tx.head? = some 45 then a.tx.tail else a.tx).length) ∨ (if a.tx.head? = some 45 then a.tx.tail else a.tx).all isDig = false then none else some (if a.tx.head? = some 45 then -(decN (if a.tx.head? = some 45 then a.tx.tail else a.tx) : Int) else decN (if a.tx.head? = some 45 then a.tx.tail else a.tx))) with
   | none => (0, false)
   | some n => (n, true) := by unfold numQ numA; rw [if_neg (by simp [hi])]
  have hsl : (if a.tx.head? = some 45 then a.tx.tail else a.tx).length ≤ 1100000 := by
   split
   ·rw [List.length_tail]; omega
   ·exact hl
  have hA := hA _ rfl
  rw [e]
  generalize (if a.tx.head? = some 45 then a.tx.tail else a.tx) = s at *
  clear e
  have hTr := jE s tenD (by omega) (by decide) (by decide)
  have hTd := trim_digits s
  have hval : InR (if a.tx.head? = some 45 then -(decN s : Int) else decN s) ∨ True := .inr trivial
  generalize (if a.tx.head? = some 45 then -(decN s : Int) else decN s) = v at *
  cases s with
  | nil =>
   rw [if_pos (.inl rfl)]
   simp only
   (refine qc fun Y Yh => ?_; simp [go_sem, hi]; ((repeat' (first|(refine qf ?_;simp [go_sem, hi])|intro _|apply And.intro|(apply Yh;clear Yh Y)));all_goals first|apply QS|omega|with_reducible assumption|skip))
   refine qh fun K1 hK1 => ?_
   (refine qc fun Y Yh => ?_; simp [go_sem]; ((repeat' (first|(refine qf ?_;simp [go_sem])|intro _|apply And.intro|(apply Yh;clear Yh Y)));all_goals first|apply QS|omega|with_reducible assumption|skip))
   (refine qg fun T F hT hF => ?_; simp [go_sem]; refine hF ?_; clear hT hF T F)
   refine qi ?_
   refine hK1 _ ?_; clear hK1
   (refine qc fun Y Yh => ?_; simp [go_sem]; ((repeat' (first|(refine qf ?_;simp [go_sem])|intro _|apply And.intro|(apply Yh;clear Yh Y)));all_goals first|apply QS|omega|with_reducible assumption|skip))
   ((try refine QT ?_); refine qm (.inl ⟨rfl,rfl⟩) (by simp [go_sem]) ?_; intro args ha; simp [go_sem] at ha; subst ha; refine ⟨_, hT, ?_⟩; rintro _ rfl; simp [go_sem]; ((repeat' (first|(refine qf ?_;simp [go_sem])|intro _|apply And.intro|(apply Yh;clear Yh Y)));all_goals first|apply QS|omega|with_reducible assumption|skip))
   refine qh fun K3 hK3 => ?_
   (refine qc fun Y Yh => ?_; simp [go_sem]; ((repeat' (first|(refine qw ?_ ?_ ?_;(focus (simp [go_sem, undef];done));(focus (simp [go_sem];done));simp [go_sem])|(refine qf ?_;simp [go_sem, undef])|intro _|apply And.intro|(apply Yh;clear Yh Y)));all_goals first|apply QS|omega|with_reducible assumption|skip))
   (refine qg fun T F hT hF => ?_; simp [go_sem]; refine hT ?_; clear hT hF T F)
   (refine qc fun Y Yh => ?_; simp [go_sem]; ((repeat' (first|(refine qf ?_;simp [go_sem])|intro _|apply And.intro|(apply Yh;clear Yh Y)));all_goals first|apply QS|omega|with_reducible assumption|skip))
   (refine qj ?_; simp [go_sem])
  | cons c r =>
   have he : (Lib.trimS (c :: r) tenD).isEmpty = (c :: r).all isDig := by
    rw [Bool.eq_iff_iff, List.isEmpty_iff]; exact hTd
   have h48 : decide ((c.toNat : Int) = 48) = decide (c = 48) := u8_eqb c 48 (by decide)
   have hb : (decide ((18 : Int) < (r.length : Int) + 1) || decide ((c.toNat : Int) = 48) && decide ((1 : Int) < (r.length : Int) + 1) || (!isDig c || !r.all isDig)) = decide ((c :: r) = [] ∨ 18 < (c :: r).length ∨ ((c :: r).head? = some 48 ∧ 1 < (c :: r).length) ∨ (c :: r).all isDig = false) := by
    rw [h48, Bool.eq_iff_iff]
    simp only [Bool.or_eq_true, Bool.and_eq_true, decide_eq_true_eq, Bool.not_eq_true', List.length_cons, List.head?_cons, Option.some.injEq, reduceCtorEq, false_or, List.all_cons, Bool.and_eq_false_iff]
    constructor
    ·rintro ((q | q) | q)
     ·left; omega
     ·right; left; exact ⟨q.1, by omega⟩
     ·right; right; exact q
    ·rintro (q | q | q)
     ·left; left; omega
     ·left; right; exact ⟨q.1, by omega⟩
     ·right; exact q
   by_cases hC : (c :: r) = [] ∨ 18 < (c :: r).length ∨ ((c :: r).head? = some 48 ∧ 1 < (c :: r).length) ∨ (c :: r).all isDig = false
   ·rw [if_pos hC]
    rw [decide_eq_true hC] at hb
    simp only
    (refine qc fun Y Yh => ?_; simp [go_sem, hi]; ((repeat' (first|(refine qf ?_;simp [go_sem, hi])|intro _|apply And.intro|(apply Yh;clear Yh Y)));all_goals first|apply QS|omega|with_reducible assumption|skip))
    refine qh fun K1 hK1 => ?_
    (refine qc fun Y Yh => ?_; simp [go_sem]; ((repeat' (first|(refine qf ?_;simp [go_sem])|intro _|apply And.intro|(apply Yh;clear Yh Y)));all_goals first|apply QS|omega|with_reducible assumption|skip))
    (refine qg fun T F hT hF => ?_; simp [go_sem]; refine hF ?_; clear hT hF T F)
    refine qi ?_
    refine hK1 _ ?_; clear hK1
    (refine qc fun Y Yh => ?_; simp [go_sem]; ((repeat' (first|(refine qf ?_;simp [go_sem])|intro _|apply And.intro|(apply Yh;clear Yh Y)));all_goals first|apply QS|omega|with_reducible assumption|skip))
    ((try refine QT ?_); refine qm (.inl ⟨rfl,rfl⟩) (by simp [go_sem]) ?_; intro args ha; simp [go_sem] at ha; subst ha; refine ⟨_, hT, ?_⟩; rintro _ rfl; simp [go_sem]; ((repeat' (first|(refine qf ?_;simp [go_sem])|intro _|apply And.intro|(apply Yh;clear Yh Y)));all_goals first|apply QS|omega|with_reducible assumption|skip))
    refine qh fun K3 hK3 => ?_
    (refine qc fun Y Yh => ?_; simp [go_sem, ba_size]; ((repeat' (first|(refine qf ?_;simp [go_sem, ba_size])|intro _|apply And.intro|(apply Yh;clear Yh Y)));all_goals first|apply QS|omega|with_reducible assumption|skip))
    (refine xw (dS (Lib.trimS (c :: r) tenD)) (.inl ⟨rfl,rfl⟩) ?_ rfl ?_; (intro hc args ha; simp [go_sem] at ha; subst ha; exact hTr); simp [go_sem, he]; ((repeat' (first|(refine qf ?_;simp [go_sem, he])|intro _|apply And.intro|(apply Yh;clear Yh Y)));all_goals first|apply QS|omega|with_reducible assumption|skip))
    (refine qg fun T F hT hF => ?_; simp [go_sem, hb]; refine hT ?_; clear hT hF T F)
    (refine qc fun Y Yh => ?_; simp [go_sem]; ((repeat' (first|(refine qf ?_;simp [go_sem])|intro _|apply And.intro|(apply Yh;clear Yh Y)));all_goals first|apply QS|omega|with_reducible assumption|skip))
    (refine qj ?_; simp [go_sem])
   ·rw [if_neg hC]
    rw [decide_eq_false hC] at hb
    have hC2 : ¬ 18 < (c :: r).length ∧ (c :: r).all isDig = true := ⟨fun q => hC (.inr (.inl q)), by
     cases hq : (c :: r).all isDig with
     | true => rfl
     | false => exact absurd (.inr (.inr (.inr hq))) hC⟩
    have hAt := hA hC2.2 (by simp) (by omega)
    simp only
    (refine qc fun Y Yh => ?_; simp [go_sem, hi]; ((repeat' (first|(refine qf ?_;simp [go_sem, hi])|intro _|apply And.intro|(apply Yh;clear Yh Y)));all_goals first|apply QS|omega|with_reducible assumption|skip))
    refine qh fun K1 hK1 => ?_
    (refine qc fun Y Yh => ?_; simp [go_sem]; ((repeat' (first|(refine qf ?_;simp [go_sem])|intro _|apply And.intro|(apply Yh;clear Yh Y)));all_goals first|apply QS|omega|with_reducible assumption|skip))
    (refine qg fun T F hT hF => ?_; simp [go_sem]; refine hF ?_; clear hT hF T F)
    refine qi ?_
    refine hK1 _ ?_; clear hK1
    (refine qc fun Y Yh => ?_; simp [go_sem]; ((repeat' (first|(refine qf ?_;simp [go_sem])|intro _|apply And.intro|(apply Yh;clear Yh Y)));all_goals first|apply QS|omega|with_reducible assumption|skip))
    ((try refine QT ?_); refine qm (.inl ⟨rfl,rfl⟩) (by simp [go_sem]) ?_; intro args ha; simp [go_sem] at ha; subst ha; refine ⟨_, hT, ?_⟩; rintro _ rfl; simp [go_sem]; ((repeat' (first|(refine qf ?_;simp [go_sem])|intro _|apply And.intro|(apply Yh;clear Yh Y)));all_goals first|apply QS|omega|with_reducible assumption|skip))
    refine qh fun K3 hK3 => ?_
    (refine qc fun Y Yh => ?_; simp [go_sem, ba_size]; ((repeat' (first|(refine qf ?_;simp [go_sem, ba_size])|intro _|apply And.intro|(apply Yh;clear Yh Y)));all_goals first|apply QS|omega|with_reducible assumption|skip))
    (refine xw (dS (Lib.trimS (c :: r) tenD)) (.inl ⟨rfl,rfl⟩) ?_ rfl ?_; (intro hc args ha; simp [go_sem] at ha; subst ha; exact hTr); simp [go_sem, he]; ((repeat' (first|(refine qf ?_;simp [go_sem, he])|intro _|apply And.intro|(apply Yh;clear Yh Y)));all_goals first|apply QS|omega|with_reducible assumption|skip))
    (refine qg fun T F hT hF => ?_; simp [go_sem, hb]; refine hF ?_; clear hT hF T F)
    refine qi ?_
    refine hK3 _ ?_; clear hK3
    (refine qc fun Y Yh => ?_; simp [go_sem]; ((repeat' (first|(refine qf ?_;simp [go_sem])|intro _|apply And.intro|(apply Yh;clear Yh Y)));all_goals first|apply QS|omega|with_reducible assumption|skip))
    ((try refine QT ?_); refine qm (.inl ⟨rfl,rfl⟩) (by simp [go_sem]) ?_; intro args ha; simp [go_sem] at ha; subst ha; refine ⟨_, hAt, ?_⟩; rintro _ rfl; simp [go_sem]; ((repeat' (first|(refine qf ?_;simp [go_sem])|intro _|apply And.intro|(apply Yh;clear Yh Y)));all_goals first|apply QS|omega|with_reducible assumption|skip))
    (refine qc fun Y Yh => ?_; simp [go_sem]; ((repeat' (first|(refine qf ?_;simp [go_sem])|intro _|apply And.intro|(apply Yh;clear Yh Y)));all_goals first|apply QS|omega|with_reducible assumption|skip))
    (refine qj ?_; simp [go_sem])
end Go.Proofs.YtelhdhofnohkcaaGreatDoor
namespace Go.Proofs.YtelhdhofnohkcaaGreatDoor
open Go.Eng Go.Fm
set_option maxRecDepth 20000
attribute [local irreducible] AG CallA CallT AWp PCall ACall AgC
def AgOk (a : Ag) : Prop := InR a.int ∧ a.tx.length ≤ 1100000
def AgsOk (args : List Ag) : Prop := args.length ≤ 1000000 ∧ ∀ a ∈ args, AgOk a
theorem ag0_ok : AgOk ag0 := ⟨by simp [ag0, InR], by simp [ag0]⟩
theorem ofA_ok {args : List Ag} (h : AgsOk args) (u : Nat) (nm : Bs) : AgOk (ofA args u nm).1 := by
 unfold ofA
 split
 ·split
  ·exact ag0_ok
  ·rename_i a ha; exact h.2 a (List.mem_of_getElem? ha)
 ·split
  ·exact ag0_ok
  ·rename_i a ha; exact h.2 a (List.mem_of_find?_eq_some ha)
theorem ofA_le {args : List Ag} {u : Nat} (h : u ≤ args.length) (nm : Bs) : (ofA args u nm).2.2 ≤ args.length := by
 unfold ofA
 split
 ·split
  ·exact h
  ·rename_i a ha; have := (List.getElem?_eq_some_iff.1 ha).1; simp; omega
 ·split <;> exact h
theorem starW_le {args : List Ag} {u : Nat} (h : u ≤ args.length) (f : Fld) : (starW args u f).2.1 ≤ args.length := by
 unfold starW
 split
 ·exact h
 ·split
  ·exact h
  ·rename_i a ha; have := (List.getElem?_eq_some_iff.1 ha).1; split <;> simp <;> omega
theorem Qd {args : List Ag} {u : Nat} (h : u ≤ args.length) (f : Fld) : (starP args u f).2.1 ≤ args.length := by
 unfold starP
 split
 ·exact h
 ·split
  ·exact h
  ·rename_i a ha; have := (List.getElem?_eq_some_iff.1 ha).1; split <;> simp <;> omega
theorem stars_le {args : List Ag} {u : Nat} (h : u ≤ args.length) (f : Fld) : (starsV args u f).2.1 ≤ args.length := by
 unfold starsV
 simp only
 split
 ·exact starW_le h f
 ·exact Qd (starW_le h f) _
def FdOk (f : Fld) : Prop := (f.wd = -2 ∨ (-1 ≤ f.wd ∧ f.wd ≤ 1000)) ∧ (f.pr = -2 ∨ (-1 ≤ f.pr ∧ f.pr ≤ 1000))
theorem starW_ok {args : List Ag} {u : Nat} {f : Fld} (hf : FdOk f) (h : (starW args u f).1 = 0) : (-1 ≤ (starW args u f).2.2.wd ∧ (starW args u f).2.2.wd ≤ 1000) ∧ (starW args u f).2.2.pr = f.pr ∧ (starW args u f).2.2.lt = f.lt ∧ (starW args u f).2.2.nm = f.nm := by
 unfold starW at h ⊢
 split
 ·rename_i q
  refine ⟨?_, rfl, rfl, rfl⟩
  rcases hf.1 with e | e
  ·exact absurd e q
  ·exact e
 ·rename_i q
  rw [if_neg q] at h
  split
  ·rename_i ha; rw [ha] at h; cases h
  ·rename_i a ha
   rw [ha] at h
   simp only at h
   by_cases hb : a.is = true ∨ 1000 < a.int ∨ a.int < -1000
   ·rw [if_pos hb] at h; cases h
   ·rw [if_neg hb]
    by_cases hn : a.int < 0
    ·simp [hn]; try omega
    ·simp [hn]; try omega
theorem Qb {args : List Ag} {u : Nat} {f : Fld} (hf : f.pr = -2 ∨ (-1 ≤ f.pr ∧ f.pr ≤ 1000)) (h : (starP args u f).1 = 0) : (-1 ≤ (starP args u f).2.2.pr ∧ (starP args u f).2.2.pr ≤ 1000) ∧ (starP args u f).2.2.wd = f.wd ∧ (starP args u f).2.2.lt = f.lt ∧ (starP args u f).2.2.nm = f.nm := by
 unfold starP at h ⊢
 split
 ·rename_i q
  refine ⟨?_, rfl, rfl, rfl⟩
  rcases hf with e | e
  ·exact absurd e q
  ·exact e
 ·rename_i q
  rw [if_neg q] at h
  split
  ·rename_i ha; rw [ha] at h; cases h
  ·rename_i a ha
   rw [ha] at h
   simp only at h
   by_cases hb : a.is = true ∨ 1000 < a.int
   ·rw [if_pos hb] at h; cases h
   ·rw [if_neg hb]
    by_cases hn : a.int < 0
    ·simp [hn]; try omega
    ·simp [hn]; try omega
theorem stars_ok {args : List Ag} {u : Nat} {f : Fld} (hf : FdOk f) (h : (starsV args u f).1 = 0) :
  ((-1 ≤ (starsV args u f).2.2.wd ∧ (starsV args u f).2.2.wd ≤ 1000) ∧ (-1 ≤ (starsV args u f).2.2.pr ∧ (starsV args u f).2.2.pr ≤ 1000)) ∧ (starsV args u f).2.2.lt = f.lt ∧ (starsV args u f).2.2.nm = f.nm := by
 unfold starsV at h ⊢
 simp only at h ⊢
 by_cases hw : (starW args u f).1 = 0
 ·rw [if_neg (by simp [hw])] at h ⊢
  obtain ⟨w1, w2, w3, w4⟩ := starW_ok hf hw
  obtain ⟨p1, p2, p3, p4⟩ := Qb (by rw [w2]; exact hf.2) h
  exact ⟨⟨by rw [p2]; exact w1, p1⟩, p3.trans w3, p4.trans w4⟩
 ·rw [if_pos hw] at h; exact absurd h hw
theorem numA_in {a : Ag} {n : Int} (ha : AgOk a) (h : numA a = some n) : InR n := by
 have key : ∀ (s : Bs) (q : Prop) [Decidable q], (if s = [] ∨ 18 < s.length ∨ (s.head? = some 48 ∧ 1 < s.length) ∨ s.all isDig = false then none else some (if q then -(decN s : Int) else decN s)) = some n → InR n := fun s q _ h => by
  by_cases hc : s = [] ∨ 18 < s.length ∨ (s.head? = some 48 ∧ 1 < s.length) ∨ s.all isDig = false
  ·rw [if_pos hc] at h; cases h
  ·rw [if_neg hc] at h
   have h18 : s.length ≤ 18 := Nat.le_of_not_lt fun q => hc (.inr (.inl q))
   have hd : s.all isDig = true := by
    cases hq : s.all isDig with
    | true => rfl
    | false => exact absurd (.inr (.inr (.inr hq))) hc
   have := decN_lt hd h18
   simp only [Option.some.injEq] at h
   simp only [InR]
   split at h <;> omega
 unfold numA at h
 split at h
 ·cases h; exact ha.1
 ·exact key _ _ h
theorem short_len (f : Fld) (s : Bs) : (shortV f s).length ≤ s.length := by
 unfold shortV; split
 ·rw [List.length_take]; omega
 ·omega
theorem text_len {a : Ag} (h : AgOk a) : (textV a).length ≤ 1100000 := by
 unfold textV
 split
 ·exact h.2
 ·have := txt_len (b := 10) (by decide) (n := a.int.natAbs) (by have := h.1; simp only [InR] at this; omega)
  unfold showB; split <;> simp <;> omega
end Go.Proofs.YtelhdhofnohkcaaGreatDoor
