/- Part of a proof: see the last text. -/
import Derived.Test.YtelhdhofnohkcaaGreatDoorG07
import Derived.Test.YtelhdhofnohkcaaGreatDoorG03
import Derived.Test.YtelhdhofnohkcaaGreatDoorG05
import Derived.Test.YtelhdhofnohkcaaGreatDoorG06
set_option linter.unusedVariables false
set_option linter.unusedSimpArgs false
namespace Go.Proofs.YtelhdhofnohkcaaGreatDoor
open Go.Eng Go.Fm
set_option maxRecDepth 20000
attribute [local irreducible] AG CallA CallT AWp PCall ACall AgC
def FillC (args : List Ag) (f : Fld) : Prop := ∀ u g, u ≤ args.length → ACall Tryz.prog 49 [.ptr 900004 g 0, dF f] [fiB g args u] [900004]
 fun ps r => ps = [(g, .box [dAs args, dI (fillV args u f).2.2])] ∧ r = .tup [dS (fillV args u f).1, dI (fillV args u f).2.1]
theorem fills_at {args : List Ag} {L : List Fld} {i : Nat} {f : Fld} (h : L[i]? = some f) (u : Nat) (out : Bs) :
  fillsV args (L.drop i) u out = if (fillV args u f).2.1 ≠ 0 then ([], 0, (fillV args u f).2.1) else
   if 100000 < (out ++ (fillV args u f).1).length then ([], 0, 1) else fillsV args (L.drop (i + 1)) (fillV args u f).2.2 (out ++ (fillV args u f).1) := by
 have hlt := (List.getElem?_eq_some_iff.1 h).1
 have e : L.drop i = f :: L.drop (i + 1) := by
  rw [List.drop_eq_getElem_cons hlt]
  rw [List.getElem?_eq_getElem hlt] at h
  simp at h; rw [h]
 rw [e, fillsV]
theorem fills_end {args : List Ag} {L : List Fld} (u : Nat) (out : Bs) : fillsV args (L.drop L.length) u out = (out, u, 0) := by rw [List.drop_length]; rfl
set_option maxHeartbeats 32000000 in
theorem run_spec (form : Bs) (args : List Ag) (hA : AgsOk args) (hfl : form.length ≤ 9223372036854775807) (hF : ∀ L, readV form = some L → ∀ f ∈ L, f.lt ≠ 0 → FillC args f) :
  PCall Tryz.prog 32 [dS form, dAs args] fun r => r = .tup [dS (runV form args).1, dI (runV form args).2.1, dI (runV form args).2.2] := by 
 refine pcall_of Tryz.func32 rfl rfl Tryz.ntmps32 (rs := [.tmp 4, .tmp 5, .tmp 6]) (tys := [9, 3, 34]) rfl rfl (by simp) ?_
 have hR := read_spec form hfl
 unfold runV
 cases hr : readV form with
 | none =>
  rw [hr] at hR
  simp only
  (refine awp_sr fun Y Yh => ?_; simp [go_sem]; ((repeat' (first|(refine ag_x ?_;simp [go_sem])|intro _|apply And.intro|(apply Yh;clear Yh Y)));all_goals first|apply Hold.mk|omega|with_reducible assumption|skip))
  (refine awp_sr fun Y Yh => ?_; simp [go_sem]; ((repeat' (first|(refine ag_x ?_;simp [go_sem])|intro _|apply And.intro|(apply Yh;clear Yh Y)));all_goals first|apply Hold.mk|omega|with_reducible assumption|skip))
  ((try refine CallT.toA ?_); refine callT_m (.inl ⟨rfl,rfl⟩) (by simp [go_sem]) ?_; intro args ha; simp [go_sem] at ha; subst ha; refine ⟨_, hR, ?_⟩; rintro _ ⟨L', rfl⟩; simp [go_sem]; ((repeat' (first|(refine ag_x ?_;simp [go_sem])|intro _|apply And.intro|(apply Yh;clear Yh Y)));all_goals first|apply Hold.mk|omega|with_reducible assumption|skip))
  refine awp_seq_k fun K1 hK1 => ?_
  (refine awp_sr fun Y Yh => ?_; simp [go_sem]; ((repeat' (first|(refine ag_x ?_;simp [go_sem])|intro _|apply And.intro|(apply Yh;clear Yh Y)));all_goals first|apply Hold.mk|omega|with_reducible assumption|skip))
  (refine awp_if fun T F hT hF => ?_; simp [go_sem]; refine hT ?_; clear hT hF T F)
  (refine awp_sr fun Y Yh => ?_; simp [go_sem]; ((repeat' (first|(refine ag_x ?_;simp [go_sem])|intro _|apply And.intro|(apply Yh;clear Yh Y)));all_goals first|apply Hold.mk|omega|with_reducible assumption|skip))
  (refine awp_ret ?_; simp [go_sem])
 | some L =>
  rw [hr] at hR
  have hok := readV_ok hr
  have hFC := hF L hr
  simp only
  generalize hV : fillsV args L 0 [] = V
  (refine awp_sr fun Y Yh => ?_; simp [go_sem]; ((repeat' (first|(refine ag_x ?_;simp [go_sem])|intro _|apply And.intro|(apply Yh;clear Yh Y)));all_goals first|apply Hold.mk|omega|with_reducible assumption|skip))
  (refine awp_sr fun Y Yh => ?_; simp [go_sem]; ((repeat' (first|(refine ag_x ?_;simp [go_sem])|intro _|apply And.intro|(apply Yh;clear Yh Y)));all_goals first|apply Hold.mk|omega|with_reducible assumption|skip))
  ((try refine CallT.toA ?_); refine callT_m (.inl ⟨rfl,rfl⟩) (by simp [go_sem]) ?_; intro args ha; simp [go_sem] at ha; subst ha; refine ⟨_, hR, ?_⟩; rintro _ rfl; simp [go_sem]; ((repeat' (first|(refine ag_x ?_;simp [go_sem])|intro _|apply And.intro|(apply Yh;clear Yh Y)));all_goals first|apply Hold.mk|omega|with_reducible assumption|skip))
  refine awp_seq_k fun K1 hK1 => ?_
  (refine awp_sr fun Y Yh => ?_; simp [go_sem]; ((repeat' (first|(refine ag_x ?_;simp [go_sem])|intro _|apply And.intro|(apply Yh;clear Yh Y)));all_goals first|apply Hold.mk|omega|with_reducible assumption|skip))
  (refine awp_if fun T F hT hF => ?_; simp [go_sem]; refine hF ?_; clear hT hF T F)
  refine awp_skip ?_
  refine hK1 _ ?_; clear hK1
  (refine awp_sr fun Y Yh => ?_; simp [go_sem]; ((repeat' (first|(refine ag_x ?_;simp [go_sem])|intro _|apply And.intro|(apply Yh;clear Yh Y)));all_goals first|apply Hold.mk|omega|with_reducible assumption|skip))
  refine awp_renbox 9 900004 rfl rfl (by decide) fun g => ?_
  simp only [go_sem]
  refine awp_bld 70 5 900000 900001 (by decide) (by decide) (by kernel_rfl) fun gb gr => ?_
  refine awp_len 7 rfl fun hLl => ?_
  simp [lensD] at hLl
  refine awp_seq_k fun K3 hK3 => ?_
  (refine awp_sr fun Y Yh => ?_; simp [go_sem]; ((repeat' (first|(refine ag_x ?_;simp [go_sem])|intro _|apply And.intro|(apply Yh;clear Yh Y)));all_goals first|apply Hold.mk|omega|with_reducible assumption|skip))
  refine awp_block ?_
  refine awp_loop (σ := Nat × Bs × Nat × Nat) (fun x => ⟨[(9, .ptr 900004 g 0), (10, .ptr 900000 gb 0), (25, dFs L), (26, dI L.length), (27, dI x.1)], [fiB g args x.2.2.1, (900000, (gb, .bld 70 900001 x.2.2.2)), (900001, (x.2.2.2, .brow 5 x.2.1))]⟩)
   (fun x => x.1 ≤ L.length ∧ x.2.1.length ≤ 100000 ∧ x.2.2.1 ≤ args.length ∧ fillsV args (L.drop x.1) x.2.2.1 x.2.1 = V) (fun x => L.length - x.1) (0, [], 0, gr) ?_ ?_ ?_
  ·(refine cov_of ?_ ?_ <;> simp [go_sem])
  ·exact ⟨by simp, by simp, by simp, by simpa using hV⟩
  rintro ⟨i, out, u, gr⟩ ⟨hi, ho, hu, hx⟩
  simp only at hi ho hu hx ⊢
  (refine awp_sr fun Y Yh => ?_; simp [go_sem]; ((repeat' (first|(refine ag_x ?_;simp [go_sem])|intro _|apply And.intro|(apply Yh;clear Yh Y)));all_goals first|apply Hold.mk|omega|with_reducible assumption|skip))
  refine awp_seq_k fun K4 hK4 => ?_
  by_cases hend : i < L.length
  ·(refine awp_if fun T F hT hF => ?_; simp [go_sem, hend]; refine hT ?_; clear hT hF T F)
   refine awp_skip ?_
   refine hK4 _ ?_; clear hK4
   obtain ⟨f, hf⟩ : ∃ f, L[i]? = some f := ⟨_, List.getElem?_eq_getElem hend⟩
   have hfm := List.mem_of_getElem? hf
   have hfo := hok f hfm
   rw [fills_at hf] at hx
   have hfle := fill_le hu f
   have hflen := fill_len (u := u) hA hfo
   have hf0 : f.lt = 0 → fillV args u f = (f.tx, 0, u) := fun q => by unfold fillV; rw [if_pos q]
   have hFf := fun q => hFC f hfm q u g hu
   generalize fillV args u f = q at *
   obtain ⟨t, e, u'⟩ := q
   simp only at hx hfle hflen hFf
   refine awp_seq_k fun K6 hK6 => ?_
   refine awp_block ?_
   have b0 : (f.lt.toNat = 0) = (f.lt = 0) := propext ⟨fun q => UInt8.toNat_inj.1 q, fun q => by rw [q]; rfl⟩
   (refine awp_sr fun Y Yh => ?_; simp [go_sem, hf]; ((repeat' (first|(refine ag_x ?_;simp [go_sem, hf])|intro _|apply And.intro|(apply Yh;clear Yh Y)));all_goals first|apply Hold.mk|omega|with_reducible assumption|skip))
   (refine awp_sr fun Y Yh => ?_; simp [go_sem]; ((repeat' (first|(refine ag_x ?_;simp [go_sem])|intro _|apply And.intro|(apply Yh;clear Yh Y)));all_goals first|apply Hold.mk|omega|with_reducible assumption|skip))
   refine awp_seq_k fun K7 hK7 => ?_
   have tl7 : ∀ S', e = 0 → Cov S' ⟨[(9, .ptr 900004 g 0), (10, .ptr 900000 gb 0), (13, dS t), (25, dFs L), (26, dI L.length), (27, dI i)], [fiB g args u', (900000, (gb, .bld 70 900001 gr)), (900001, (gr, .brow 5 out))]⟩ → K7 S' := fun S' he hS => by
    refine hK7 _ ?_; clear hK7
    refine awp_cov hS ?_; clear hS
    rw [if_neg (by simpa using he)] at hx
    have hW := ws_spec 900000 900001 gb gr out t (by decide) (by decide) (by decide) (by omega)
    have hLn := fun gr => len_spec 900000 900001 gb gr (out ++ t) (by decide) (by decide) (by decide)
    (refine awp_sr fun Y Yh => ?_; simp [go_sem]; ((repeat' (first|(refine ag_x ?_;simp [go_sem])|intro _|apply And.intro|(apply Yh;clear Yh Y)));all_goals first|apply Hold.mk|omega|with_reducible assumption|skip))
    (refine callA_l [900000, 900001] (.inl ⟨rfl,rfl⟩) (by simp [go_sem]) ?_; intro args ha; simp [go_sem] at ha; subst ha; refine ⟨_, _, hW, (by simp [go_sem]), ?_⟩; rintro ps r hps ⟨gr', rfl, rfl⟩; simp [go_sem]; ((repeat' (first|(refine ag_x ?_;simp [go_sem])|intro _|apply And.intro|(apply Yh;clear Yh Y)));all_goals first|apply Hold.mk|omega|with_reducible assumption|skip))
    (refine awp_sr fun Y Yh => ?_; simp [go_sem]; ((repeat' (first|(refine ag_x ?_;simp [go_sem])|intro _|apply And.intro|(apply Yh;clear Yh Y)));all_goals first|apply Hold.mk|omega|with_reducible assumption|skip))
    (refine callA_l [900000, 900001] (.inl ⟨rfl,rfl⟩) (by simp [go_sem]) ?_; intro args ha; simp [go_sem] at ha; subst ha; refine ⟨_, _, (hLn gr'), (by simp [go_sem]), ?_⟩; rintro ps r hps ⟨gr'', rfl, rfl⟩; simp [go_sem]; ((repeat' (first|(refine ag_x ?_;simp [go_sem])|intro _|apply And.intro|(apply Yh;clear Yh Y)));all_goals first|apply Hold.mk|omega|with_reducible assumption|skip))
    by_cases h1 : 100000 < (out ++ t).length
    ·rw [if_pos h1] at hx
     have h1' : (100000 : Int) < (out.length : Int) + t.length := by rw [List.length_append] at h1; omega
     (refine awp_if fun T F hT hF => ?_; simp [go_sem, h1']; refine hT ?_; clear hT hF T F)
     (refine awp_sr fun Y Yh => ?_; simp [go_sem]; ((repeat' (first|(refine ag_x ?_;simp [go_sem])|intro _|apply And.intro|(apply Yh;clear Yh Y)));all_goals first|apply Hold.mk|omega|with_reducible assumption|skip))
     (refine awp_ret ?_; simp [go_sem])
     rw [← hx]
     simp
    ·rw [if_neg h1] at hx
     have h1' : ¬ (100000 : Int) < (out.length : Int) + t.length := by rw [List.length_append] at h1; omega
     (refine awp_if fun T F hT hF => ?_; simp [go_sem, h1']; refine hF ?_; clear hT hF T F)
     refine awp_skip ?_
     refine hK6 _ ?_; clear hK6
     (refine awp_r fun Y Yh => ?_; simp [go_sem]; ((repeat' (first|(refine ag_x ?_;simp [go_sem])|intro _|apply And.intro|(apply Yh;clear Yh Y)));all_goals first|apply Hold.mk|omega|with_reducible assumption|skip))
     refine ⟨(i + 1, out ++ t, u', gr''), ?_, ⟨by simp; omega, by simp only; omega, hfle, hx⟩, by simp; omega⟩
     (refine cov_of ?_ ?_ <;> simp [go_sem])
   clear hK7
   by_cases hz : f.lt = 0
   ·have := hf0 hz
    simp only [Prod.mk.injEq] at this
    obtain ⟨rfl, rfl, rfl⟩ := this
    (refine awp_sr fun Y Yh => ?_; simp [go_sem, b0]; ((repeat' (first|(refine ag_x ?_;simp [go_sem, b0])|intro _|apply And.intro|(apply Yh;clear Yh Y)));all_goals first|apply Hold.mk|omega|with_reducible assumption|skip))
    (refine awp_if fun T F hT hF => ?_; simp [go_sem, hz]; refine hF ?_; clear hT hF T F)
    refine awp_skip ?_
    refine tl7 _ rfl ?_
    (refine cov_of ?_ ?_ <;> simp [go_sem])
   ·have hFd := hFf hz
    (refine awp_sr fun Y Yh => ?_; simp [go_sem, b0]; ((repeat' (first|(refine ag_x ?_;simp [go_sem, b0])|intro _|apply And.intro|(apply Yh;clear Yh Y)));all_goals first|apply Hold.mk|omega|with_reducible assumption|skip))
    (refine awp_if fun T F hT hF => ?_; simp [go_sem, hz]; refine hT ?_; clear hT hF T F)
    (refine awp_sr fun Y Yh => ?_; simp [go_sem]; ((repeat' (first|(refine ag_x ?_;simp [go_sem])|intro _|apply And.intro|(apply Yh;clear Yh Y)));all_goals first|apply Hold.mk|omega|with_reducible assumption|skip))
    (refine awp_sr fun Y Yh => ?_; simp [go_sem]; ((repeat' (first|(refine ag_x ?_;simp [go_sem])|intro _|apply And.intro|(apply Yh;clear Yh Y)));all_goals first|apply Hold.mk|omega|with_reducible assumption|skip))
    (refine callA_l [900004] (.inl ⟨rfl,rfl⟩) (by simp [go_sem]) ?_; intro args ha; simp [go_sem] at ha; subst ha; refine ⟨_, _, hFd, (by simp [go_sem]), ?_⟩; rintro ps r hps ⟨rfl, rfl⟩; simp [go_sem]; ((repeat' (first|(refine ag_x ?_;simp [go_sem])|intro _|apply And.intro|(apply Yh;clear Yh Y)));all_goals first|apply Hold.mk|omega|with_reducible assumption|skip))
    by_cases he : e = 0
    ·(refine awp_sr fun Y Yh => ?_; simp [go_sem]; ((repeat' (first|(refine ag_x ?_;simp [go_sem])|intro _|apply And.intro|(apply Yh;clear Yh Y)));all_goals first|apply Hold.mk|omega|with_reducible assumption|skip))
     (refine awp_if fun T F hT hF => ?_; simp [go_sem, he]; refine hF ?_; clear hT hF T F)
     refine awp_skip ?_
     refine tl7 _ he ?_
     (refine cov_of ?_ ?_ <;> simp [go_sem])
    ·rw [if_pos (by simpa using he)] at hx
     (refine awp_sr fun Y Yh => ?_; simp [go_sem]; ((repeat' (first|(refine ag_x ?_;simp [go_sem])|intro _|apply And.intro|(apply Yh;clear Yh Y)));all_goals first|apply Hold.mk|omega|with_reducible assumption|skip))
     (refine awp_if fun T F hT hF => ?_; simp [go_sem, he]; refine hT ?_; clear hT hF T F)
     (refine awp_sr fun Y Yh => ?_; simp [go_sem]; ((repeat' (first|(refine ag_x ?_;simp [go_sem])|intro _|apply And.intro|(apply Yh;clear Yh Y)));all_goals first|apply Hold.mk|omega|with_reducible assumption|skip))
     (refine awp_ret ?_; simp [go_sem])
     rw [← hx]
     simp
  ·have hi2 : i = L.length := by omega
   subst hi2
   rw [fills_end] at hx
   have hS := strA_spec 900000 900001 gb gr out (by decide) (by decide) (by decide)
   (refine awp_if fun T F hT hF => ?_; simp [go_sem]; refine hF ?_; clear hT hF T F)
   refine awp_exit ?_
   simp only [go_sem]
   refine hK3 _ ?_; clear hK3
   ((refine awp_dr (.qs [1, 2, 3] (.kq 4 (.one 0 (.qs [5, 6, 7] (.nil))) 0 (.qs [5, 4, 6, 7] (.nil)))) (by kernel_rfl) ?_ ?_ ?_ ?_); (kernel_rfl); (exact (by decide +kernel)); (kernel_rfl); intro Y Yh; ((repeat' (first|(refine ag_x ?_;simp [go_sem])|refine adr_nil ?_|refine adr_kq ?_ ?_|((first|refine adr_qs fun Y Yh=>?_|refine adr_y fun Y Yh=>?_);simp [go_sem])|intro _|apply And.intro|(apply Yh;clear Yh Y)));all_goals first|apply Hold.mk|omega|with_reducible assumption|skip))
   all_goals (refine callA_l [900000, 900001] (.inl ⟨rfl,rfl⟩) (by simp [go_sem]) ?_; intro args ha; simp [go_sem] at ha; subst ha; refine ⟨_, _, hS, (by simp [go_sem]), ?_⟩; rintro ps r hps ⟨gr', rfl, rfl⟩; simp [go_sem]; ((repeat' (first|(refine ag_x ?_;simp [go_sem])|refine adr_nil ?_|refine adr_kq ?_ ?_|((first|refine adr_qs fun Y Yh=>?_|refine adr_y fun Y Yh=>?_);simp [go_sem])|intro _|apply And.intro|(apply Yh;clear Yh Y)));all_goals first|apply Hold.mk|omega|with_reducible assumption|skip))
   all_goals (refine awp_ret ?_; simp [go_sem])
   all_goals (rw [← hx]; simp)
theorem Format_spec (form : Bs) (args : List Ag) (hA : AgsOk args) (hfl : form.length ≤ 9223372036854775807) (hF : ∀ L, readV form = some L → ∀ f ∈ L, f.lt ≠ 0 → FillC args f) :
  PCall Tryz.prog 13 [dS form, dAs args] fun r => r = .tup [dS (runV form args).1, dI (runV form args).2.2] := by 
 refine pcall_of Tryz.func13 rfl rfl Tryz.ntmps13 (rs := [.tmp 4, .tmp 5]) (tys := [9, 34]) rfl rfl (by simp) ?_
 have hR := run_spec form args hA hfl hF
 generalize runV form args = q at *
 obtain ⟨t, u, e⟩ := q
 (refine awp_sr fun Y Yh => ?_; simp [go_sem]; ((repeat' (first|(refine ag_x ?_;simp [go_sem])|intro _|apply And.intro|(apply Yh;clear Yh Y)));all_goals first|apply Hold.mk|omega|with_reducible assumption|skip))
 (refine awp_sr fun Y Yh => ?_; simp [go_sem]; ((repeat' (first|(refine ag_x ?_;simp [go_sem])|intro _|apply And.intro|(apply Yh;clear Yh Y)));all_goals first|apply Hold.mk|omega|with_reducible assumption|skip))
 ((try refine CallT.toA ?_); refine callT_m (.inl ⟨rfl,rfl⟩) (by simp [go_sem]) ?_; intro args ha; simp [go_sem] at ha; subst ha; refine ⟨_, hR, ?_⟩; rintro _ rfl; simp [go_sem]; ((repeat' (first|(refine ag_x ?_;simp [go_sem])|intro _|apply And.intro|(apply Yh;clear Yh Y)));all_goals first|apply Hold.mk|omega|with_reducible assumption|skip))
 (refine awp_sr fun Y Yh => ?_; simp [go_sem]; ((repeat' (first|(refine ag_x ?_;simp [go_sem])|intro _|apply And.intro|(apply Yh;clear Yh Y)));all_goals first|apply Hold.mk|omega|with_reducible assumption|skip))
 (refine awp_ret ?_; simp [go_sem])
theorem fillC_np {args : List Ag} (hA : AgsOk args) {form : Bs} (hp : ∀ L, readV form = some L → ∀ f ∈ L, f.lt ≠ 112) : ∀ L, readV form = some L → ∀ f ∈ L, f.lt ≠ 0 → FillC args f := fun L hL f hf h0 u g hu => by
 obtain ⟨h1, h2, _⟩ := readV_ok hL f hf
 exact fill_np args u g f hA hu h1 h0 (h2.resolve_left h0) (hp L hL f hf)
theorem readF_len : ∀ (k : Nat) (s : Bs) (out : List Fld) (a b : Bool) (L : List Fld), readF k s out a b = some L → L.length ≤ out.length + s.length := by
 intro k
 induction k with
 | zero => intro s out a b L h; simp [readF] at h
 | succ k ih =>
  intro s out a b L h
  rw [readF] at h
  split at h
  ·split at h
   ·cases h
   ·cases h; omega
  ·rename_i hs
   have hpos : 0 < s.length := List.length_pos_iff.2 hs
   simp only at h
   split at h
   ·split at h
    ·cases h
    ·cases h; rw [List.length_append]; simp; omega
   ·split at h
    ·have := ih _ _ _ _ _ h
     rw [List.length_append, List.length_drop] at this
     simp at this; omega
    ·split at h
     ·have := ih _ _ _ _ _ h
      rw [List.length_append, List.length_drop] at this
      simp at this; omega
     ·split at h
      ·cases h
      ·rename_i f r hf
       have h1 := fieldV_len hf
       have := ih _ _ _ _ _ h
       rw [List.length_append] at this
       rw [List.length_tail] at h1
       simp at this; omega
theorem readV_len {s : Bs} {L : List Fld} (h : readV s = some L) : L.length ≤ 100000 := by
 unfold readV at h
 split at h
 ·cases h
 ·have := readF_len _ _ _ _ _ _ h
  simp at this; omega
theorem flds_step {L : List Fld} {i : Nat} {f : Fld} (h : L[i]? = some f) : fldsV (L.take (i + 1)) = fldsV (L.take i) + fld1 f := by
 rw [List.take_add_one, h]
 simp [fldsV]
theorem fld1_le (f : Fld) : fld1 f ≤ 3 := by
 unfold fld1
 (repeat' split) <;> omega
theorem flds_le (L : List Fld) : fldsV L ≤ 3 * L.length := by
 induction L with
 | nil => simp [fldsV]
 | cons f L ih =>
  have e : fldsV (f :: L) = fld1 f + fldsV L := by simp [fldsV]
  have := fld1_le f
  rw [e, List.length_cons]; omega
def fieldsN (form : Bs) : Nat × Nat := match readV form with
 | none => (0, 4)
 | some L => (fldsV L, 0)
set_option maxHeartbeats 16000000 in
theorem fields_spec (form : Bs) (hfl : form.length ≤ 9223372036854775807) : PCall Tryz.prog 21 [dS form] fun r => r = .tup [dI (fieldsN form).1, dI (fieldsN form).2] := by 
 refine pcall_of Tryz.func21 rfl rfl Tryz.ntmps21 (rs := [.tmp 2, .tmp 3]) (tys := [3, 34]) rfl rfl (by simp) ?_
 have hR := read_spec form hfl
 unfold fieldsN
 cases hr : readV form with
 | none =>
  rw [hr] at hR
  simp only
  (refine awp_sr fun Y Yh => ?_; simp [go_sem]; ((repeat' (first|(refine ag_x ?_;simp [go_sem])|intro _|apply And.intro|(apply Yh;clear Yh Y)));all_goals first|apply Hold.mk|omega|with_reducible assumption|skip))
  (refine awp_sr fun Y Yh => ?_; simp [go_sem]; ((repeat' (first|(refine ag_x ?_;simp [go_sem])|intro _|apply And.intro|(apply Yh;clear Yh Y)));all_goals first|apply Hold.mk|omega|with_reducible assumption|skip))
  ((try refine CallT.toA ?_); refine callT_m (.inl ⟨rfl,rfl⟩) (by simp [go_sem]) ?_; intro args ha; simp [go_sem] at ha; subst ha; refine ⟨_, hR, ?_⟩; rintro _ ⟨L', rfl⟩; simp [go_sem]; ((repeat' (first|(refine ag_x ?_;simp [go_sem])|intro _|apply And.intro|(apply Yh;clear Yh Y)));all_goals first|apply Hold.mk|omega|with_reducible assumption|skip))
  refine awp_seq_k fun K1 hK1 => ?_
  (refine awp_sr fun Y Yh => ?_; simp [go_sem]; ((repeat' (first|(refine ag_x ?_;simp [go_sem])|intro _|apply And.intro|(apply Yh;clear Yh Y)));all_goals first|apply Hold.mk|omega|with_reducible assumption|skip))
  (refine awp_if fun T F hT hF => ?_; simp [go_sem]; refine hT ?_; clear hT hF T F)
  (refine awp_sr fun Y Yh => ?_; simp [go_sem]; ((repeat' (first|(refine ag_x ?_;simp [go_sem])|intro _|apply And.intro|(apply Yh;clear Yh Y)));all_goals first|apply Hold.mk|omega|with_reducible assumption|skip))
  (refine awp_ret ?_; simp [go_sem])
 | some L =>
  rw [hr] at hR
  have hlen : L.length ≤ 100000 := readV_len hr
  simp only
  (refine awp_sr fun Y Yh => ?_; simp [go_sem]; ((repeat' (first|(refine ag_x ?_;simp [go_sem])|intro _|apply And.intro|(apply Yh;clear Yh Y)));all_goals first|apply Hold.mk|omega|with_reducible assumption|skip))
  (refine awp_sr fun Y Yh => ?_; simp [go_sem]; ((repeat' (first|(refine ag_x ?_;simp [go_sem])|intro _|apply And.intro|(apply Yh;clear Yh Y)));all_goals first|apply Hold.mk|omega|with_reducible assumption|skip))
  ((try refine CallT.toA ?_); refine callT_m (.inl ⟨rfl,rfl⟩) (by simp [go_sem]) ?_; intro args ha; simp [go_sem] at ha; subst ha; refine ⟨_, hR, ?_⟩; rintro _ rfl; simp [go_sem]; ((repeat' (first|(refine ag_x ?_;simp [go_sem])|intro _|apply And.intro|(apply Yh;clear Yh Y)));all_goals first|apply Hold.mk|omega|with_reducible assumption|skip))
  refine awp_seq_k fun K1 hK1 => ?_
  (refine awp_sr fun Y Yh => ?_; simp [go_sem]; ((repeat' (first|(refine ag_x ?_;simp [go_sem])|intro _|apply And.intro|(apply Yh;clear Yh Y)));all_goals first|apply Hold.mk|omega|with_reducible assumption|skip))
  (refine awp_if fun T F hT hF => ?_; simp [go_sem]; refine hF ?_; clear hT hF T F)
  refine awp_skip ?_
  refine hK1 _ ?_; clear hK1
  (refine awp_sr fun Y Yh => ?_; simp [go_sem]; ((repeat' (first|(refine ag_x ?_;simp [go_sem])|intro _|apply And.intro|(apply Yh;clear Yh Y)));all_goals first|apply Hold.mk|omega|with_reducible assumption|skip))
  refine awp_seq_k fun K3 hK3 => ?_
  (refine awp_sr fun Y Yh => ?_; simp [go_sem]; ((repeat' (first|(refine ag_x ?_;simp [go_sem])|intro _|apply And.intro|(apply Yh;clear Yh Y)));all_goals first|apply Hold.mk|omega|with_reducible assumption|skip))
  refine awp_block ?_
  refine awp_loop (σ := Nat) (fun i => ⟨[(6, dI (fldsV (L.take i))), (16, dFs L), (17, dI L.length), (18, dI i)], []⟩) (fun i => i ≤ L.length) (fun i => L.length - i) 0 (by (refine cov_of ?_ ?_ <;> simp [go_sem]); rfl) (by simp) ?_
  intro i hi
  have hfi := flds_le (L.take i)
  have htl : (L.take i).length ≤ L.length := by rw [List.length_take]; omega
  (refine awp_sr fun Y Yh => ?_; simp [go_sem]; ((repeat' (first|(refine ag_x ?_;simp [go_sem])|intro _|apply And.intro|(apply Yh;clear Yh Y)));all_goals first|apply Hold.mk|omega|with_reducible assumption|skip))
  refine awp_seq_k fun K4 hK4 => ?_
  by_cases hend : i < L.length
  ·obtain ⟨f, hf⟩ : ∃ f, L[i]? = some f := ⟨_, List.getElem?_eq_getElem hend⟩
   have hst := flds_step hf
   generalize fldsV (L.take i) = N at *
   have b0 : (f.lt.toNat = 0) = (f.lt = 0) := propext ⟨fun q => UInt8.toNat_inj.1 q, fun q => by rw [q]; rfl⟩
   (refine awp_if fun T F hT hF => ?_; simp [go_sem, hend]; refine hT ?_; clear hT hF T F)
   refine awp_skip ?_
   refine hK4 _ ?_; clear hK4
   refine awp_join ⟨[(6, dI (N + fld1 f : Nat)), (16, dFs L), (17, dI L.length), (18, dI i)], []⟩ ?_ ?_
   ·refine awp_block ?_
    (refine awp_sr fun Y Yh => ?_; simp [go_sem, hf]; ((repeat' (first|(refine ag_x ?_;simp [go_sem, hf])|intro _|apply And.intro|(apply Yh;clear Yh Y)));all_goals first|apply Hold.mk|omega|with_reducible assumption|skip))
    refine awp_seq_k fun K7 hK7 => ?_
    (refine awp_sr fun Y Yh => ?_; simp [go_sem, b0]; ((repeat' (first|(refine ag_x ?_;simp [go_sem, b0])|intro _|apply And.intro|(apply Yh;clear Yh Y)));all_goals first|apply Hold.mk|omega|with_reducible assumption|skip))
    by_cases hz : f.lt = 0 ∨ f.nm ≠ []
    ·have e1 : fld1 f = 0 := by unfold fld1; rw [if_pos hz]
     have hb : (decide (f.lt = 0) || !f.nm.isEmpty) = true := by
      rcases hz with h | h
      ·simp [h]
      ·cases hq : f.nm with
       | nil => exact absurd hq h
       | cons _ _ => simp
     (refine awp_if fun T F hT hF => ?_; simp [go_sem, hb]; refine hT ?_; clear hT hF T F)
     refine awp_exit ?_
     simp only [go_sem]
     rw [e1]
     (refine cov_of ?_ ?_ <;> simp [go_sem])
    ·have e1 : fld1 f = 1 + (if f.wd = -2 then 1 else 0) + (if f.pr = -2 then 1 else 0) := by unfold fld1; rw [if_neg hz]
     have hb : (decide (f.lt = 0) || !f.nm.isEmpty) = false := by
      rw [not_or, Decidable.not_not] at hz
      simp [hz.1, hz.2]
     (refine awp_if fun T F hT hF => ?_; simp [go_sem, hb]; refine hF ?_; clear hT hF T F)
     refine awp_skip ?_
     refine hK7 _ ?_; clear hK7
     (refine awp_sr fun Y Yh => ?_; simp [go_sem]; ((repeat' (first|(refine ag_x ?_;simp [go_sem])|intro _|apply And.intro|(apply Yh;clear Yh Y)));all_goals first|apply Hold.mk|omega|with_reducible assumption|skip))
     refine awp_frzbox 8 rfl rfl ?_
     simp only [go_sem]
     refine awp_join ⟨[(6, dI (N + 1 + (if f.wd = -2 then 1 else 0) : Nat)), (8, .rd (cF f)), (16, dFs L), (17, dI L.length), (18, dI i)], []⟩ ?_ ?_
     ·(refine awp_sr fun Y Yh => ?_; simp [go_sem]; ((repeat' (first|(refine ag_x ?_;simp [go_sem])|intro _|apply And.intro|(apply Yh;clear Yh Y)));all_goals first|apply Hold.mk|omega|with_reducible assumption|skip))
      by_cases hw : f.wd = -2
      ·(refine awp_if fun T F hT hF => ?_; simp [go_sem, hw]; refine hT ?_; clear hT hF T F)
       (refine awp_r fun Y Yh => ?_; simp [go_sem]; ((repeat' (first|(refine ag_x ?_;simp [go_sem])|intro _|apply And.intro|(apply Yh;clear Yh Y)));all_goals first|apply Hold.mk|omega|with_reducible assumption|skip))
       (refine cov_of ?_ ?_ <;> simp [go_sem, hw])
      ·(refine awp_if fun T F hT hF => ?_; simp [go_sem, hw]; refine hF ?_; clear hT hF T F)
       refine awp_skip ?_
       (refine cov_of ?_ ?_ <;> simp [go_sem, hw])
     ·have hW : (if f.wd = -2 then 1 else 0) ≤ 1 := by split <;> omega
      generalize (if f.wd = -2 then 1 else 0) = W at *
      rw [e1]
      (refine awp_sr fun Y Yh => ?_; simp [go_sem]; ((repeat' (first|(refine ag_x ?_;simp [go_sem])|intro _|apply And.intro|(apply Yh;clear Yh Y)));all_goals first|apply Hold.mk|omega|with_reducible assumption|skip))
      by_cases hp : f.pr = -2
      ·(refine awp_if fun T F hT hF => ?_; simp [go_sem, hp]; refine hT ?_; clear hT hF T F)
       (refine awp_r fun Y Yh => ?_; simp [go_sem]; ((repeat' (first|(refine ag_x ?_;simp [go_sem])|intro _|apply And.intro|(apply Yh;clear Yh Y)));all_goals first|apply Hold.mk|omega|with_reducible assumption|skip))
       (refine cov_of ?_ ?_ <;> simp [go_sem, hp])
       omega
      ·(refine awp_if fun T F hT hF => ?_; simp [go_sem, hp]; refine hF ?_; clear hT hF T F)
       refine awp_skip ?_
       (refine cov_of ?_ ?_ <;> simp [go_sem, hp])
       omega
   ·(refine awp_r fun Y Yh => ?_; simp [go_sem]; ((repeat' (first|(refine ag_x ?_;simp [go_sem])|intro _|apply And.intro|(apply Yh;clear Yh Y)));all_goals first|apply Hold.mk|omega|with_reducible assumption|skip))
    refine ⟨i + 1, ?_, by omega, by omega⟩
    rw [hst]
    (refine cov_of ?_ ?_ <;> simp [go_sem])
  ·have hi2 : i = L.length := by omega
   subst hi2
   rw [List.take_length] at *
   (refine awp_if fun T F hT hF => ?_; simp [go_sem]; refine hF ?_; clear hT hF T F)
   refine awp_exit ?_
   simp only [go_sem]
   refine hK3 _ ?_; clear hK3
   (refine awp_sr fun Y Yh => ?_; simp [go_sem]; ((repeat' (first|(refine ag_x ?_;simp [go_sem])|intro _|apply And.intro|(apply Yh;clear Yh Y)));all_goals first|apply Hold.mk|omega|with_reducible assumption|skip))
   (refine awp_ret ?_; simp [go_sem])
theorem agI_ok {n : Int} (h : InR n) : AgOk (agI n) := ⟨h, by simp [agI]⟩
theorem ags1 {a : Ag} (h : AgOk a) : AgsOk [a] := ⟨by simp, fun x hx => by rw [List.mem_singleton.1 hx]; exact h⟩
theorem np_of {form : Bs} {L : List Fld} (h : readV form = some L) (h2 : ∀ f ∈ L, f.lt ≠ 112) : ∀ L, readV form = some L → ∀ f ∈ L, f.lt ≠ 112 := fun L' h' => by
 rw [h] at h'; cases h'; exact h2
theorem form_np {form : Bs} {args : List Ag} (hA : AgsOk args) (hfl : form.length ≤ 9223372036854775807) {L : List Fld} (h : readV form = some L) (h2 : ∀ f ∈ L, f.lt ≠ 112) {t : Bs} {u e : Nat} (hr : runV form args = (t, u, e)) :
  PCall Tryz.prog 13 [dS form, dAs args] fun r => r = .tup [dS t, dI e] := by
 have := Format_spec form args hA hfl (fillC_np hA (np_of h h2))
 rw [hr] at this
 exact this
theorem rd1 : ∃ L, readV [37, 48, 53, 100] = some L ∧ ∀ f ∈ L, f.lt ≠ 112 := ⟨_, rfl, by decide⟩
theorem rd2 : ∃ L, readV [37, 35, 120] = some L ∧ ∀ f ∈ L, f.lt ≠ 112 := ⟨_, rfl, by decide⟩
theorem rd3 : ∃ L, readV [37, 45, 52, 115, 124] = some L ∧ ∀ f ∈ L, f.lt ≠ 112 := ⟨_, rfl, by decide⟩
set_option maxHeartbeats 8000000 in
theorem sane_spec : PCall Tryz.prog 12 [] fun r => r = dB true := by 
 refine pcall_of Tryz.func12 rfl rfl Tryz.ntmps12 (rs := [.tmp 0]) (tys := [4]) rfl rfl (by simp) ?_
 obtain ⟨L1, h1, p1⟩ := rd1
 obtain ⟨L2, h2, p2⟩ := rd2
 obtain ⟨L3, h3, p3⟩ := rd3
 have S1 := form_np (ags1 (agI_ok (n := -42) (by simp [InR]))) (by simp) h1 p1 sane1
 have S2 := form_np (ags1 (agI_ok (n := 255) (by simp [InR]))) (by simp) h2 p2 sane2
 have S3 := form_np (args := [⟨[], true, 0, [97, 98]⟩]) (ags1 ⟨by simp [InR], by simp⟩) (by simp) h3 p3 sane3
 simp only [dAs, List.map_cons, List.map_nil, agI] at S1 S2 S3
 (refine awp_sr fun Y Yh => ?_; simp [go_sem]; ((repeat' (first|(refine ag_x ?_;simp [go_sem])|intro _|apply And.intro|(apply Yh;clear Yh Y)));all_goals first|apply Hold.mk|omega|with_reducible assumption|skip))
 (refine awp_sr fun Y Yh => ?_; simp [go_sem]; ((repeat' (first|(refine ag_x ?_;simp [go_sem])|intro _|apply And.intro|(apply Yh;clear Yh Y)));all_goals first|apply Hold.mk|omega|with_reducible assumption|skip))
 ((try refine CallT.toA ?_); refine callT_f (.inl ⟨rfl,rfl⟩) ?_; intro args ha; simp [go_sem] at ha; subst ha; refine ⟨_, S1, ?_⟩; rintro _ rfl; refine ⟨rfl, ?_⟩; simp [go_sem]; ((repeat' (first|(refine ag_x ?_;simp [go_sem])|intro _|apply And.intro|(apply Yh;clear Yh Y)));all_goals first|apply Hold.mk|omega|with_reducible assumption|skip))
 (refine awp_sr fun Y Yh => ?_; simp [go_sem]; ((repeat' (first|(refine ag_x ?_;simp [go_sem])|intro _|apply And.intro|(apply Yh;clear Yh Y)));all_goals first|apply Hold.mk|omega|with_reducible assumption|skip))
 ((try refine CallT.toA ?_); refine callT_f (.inl ⟨rfl,rfl⟩) ?_; intro args ha; simp [go_sem] at ha; subst ha; refine ⟨_, S2, ?_⟩; rintro _ rfl; refine ⟨rfl, ?_⟩; simp [go_sem]; ((repeat' (first|(refine ag_x ?_;simp [go_sem])|intro _|apply And.intro|(apply Yh;clear Yh Y)));all_goals first|apply Hold.mk|omega|with_reducible assumption|skip))
 (refine awp_sr fun Y Yh => ?_; simp [go_sem]; ((repeat' (first|(refine ag_x ?_;simp [go_sem])|intro _|apply And.intro|(apply Yh;clear Yh Y)));all_goals first|apply Hold.mk|omega|with_reducible assumption|skip))
 ((try refine CallT.toA ?_); refine callT_f (.inl ⟨rfl,rfl⟩) ?_; intro args ha; simp [go_sem] at ha; subst ha; refine ⟨_, S3, ?_⟩; rintro _ rfl; refine ⟨rfl, ?_⟩; simp [go_sem]; ((repeat' (first|(refine ag_x ?_;simp [go_sem])|intro _|apply And.intro|(apply Yh;clear Yh Y)));all_goals first|apply Hold.mk|omega|with_reducible assumption|skip))
 (refine awp_sr fun Y Yh => ?_; simp [go_sem]; ((repeat' (first|(refine ag_x ?_;simp [go_sem])|intro _|apply And.intro|(apply Yh;clear Yh Y)));all_goals first|apply Hold.mk|omega|with_reducible assumption|skip))
 (refine awp_ret ?_; simp [go_sem])
end Go.Proofs.YtelhdhofnohkcaaGreatDoor
namespace Go.Fm
/-! columns: what both tell -/
end Go.Fm
namespace Go.Proofs.YtelhdhofnohkcaaGreatDoor
open Go.Eng Go.Fm
set_option maxRecDepth 20000
attribute [local irreducible] AG CallA CallT AWp PCall ACall AgC
abbrev dR (l : List Bs) : D := .sl 1 (l.map fun s => [dS s])
set_option maxHeartbeats 8000000 in
theorem texts_spec (a : List Bs) (hl : a.length ≤ 9223372036854775807) : PCall Tryz.prog 19 [dR a, dR a] fun r => r = dB true := by 
 refine pcall_of Tryz.func19 rfl rfl Tryz.ntmps19 (rs := [.tmp 4]) (tys := [4]) rfl rfl (by simp) ?_
 (refine awp_sr fun Y Yh => ?_; simp [go_sem]; ((repeat' (first|(refine ag_x ?_;simp [go_sem])|intro _|apply And.intro|(apply Yh;clear Yh Y)));all_goals first|apply Hold.mk|omega|with_reducible assumption|skip))
 refine awp_seq_k fun K1 hK1 => ?_
 (refine awp_sr fun Y Yh => ?_; simp [go_sem]; ((repeat' (first|(refine ag_x ?_;simp [go_sem])|intro _|apply And.intro|(apply Yh;clear Yh Y)));all_goals first|apply Hold.mk|omega|with_reducible assumption|skip))
 (refine awp_if fun T F hT hF => ?_; simp [go_sem]; refine hF ?_; clear hT hF T F)
 refine awp_skip ?_
 refine hK1 _ ?_; clear hK1
 refine awp_seq_k fun K3 hK3 => ?_
 (refine awp_sr fun Y Yh => ?_; simp [go_sem]; ((repeat' (first|(refine ag_x ?_;simp [go_sem])|intro _|apply And.intro|(apply Yh;clear Yh Y)));all_goals first|apply Hold.mk|omega|with_reducible assumption|skip))
 refine awp_block ?_
 refine awp_loop (σ := Nat) (fun x => ⟨[(0, dR a), (1, dR a), (5, dI x)], []⟩) (fun x => x ≤ a.length) (fun x => a.length - x) 0 ?_ ?_ ?_
 ·(refine cov_of ?_ ?_ <;> simp [go_sem])
 ·simp
 intro x hx
 refine awp_seq_k fun K4 hK4 => ?_
 (refine awp_sr fun Y Yh => ?_; simp [go_sem]; ((repeat' (first|(refine ag_x ?_;simp [go_sem])|intro _|apply And.intro|(apply Yh;clear Yh Y)));all_goals first|apply Hold.mk|omega|with_reducible assumption|skip))
 by_cases h5 : x < a.length
 ·(refine awp_if fun T F hT hF => ?_; simp [go_sem, h5]; refine hT ?_; clear hT hF T F)
  refine awp_skip ?_
  refine hK4 _ ?_; clear hK4
  refine awp_seq_k fun K6 hK6 => ?_
  refine awp_block ?_
  ((refine awp_dr (.qs [0, 1, 2, 4, 5, 6, 3, 7, 8] (.nil)) (by kernel_rfl) ?_ ?_ ?_ ?_); (kernel_rfl); (exact (by decide +kernel)); (kernel_rfl); intro Y Yh; ((repeat' (first|(refine ag_x ?_;simp [go_sem, h5])|refine adr_nil ?_|((first|refine adr_qs fun Y Yh=>?_|refine adr_y fun Y Yh=>?_);simp [go_sem, h5])|intro _|apply And.intro|(apply Yh;clear Yh Y)));all_goals first|apply Hold.mk|omega|with_reducible assumption|skip))
  (refine awp_if fun T F hT hF => ?_; simp [go_sem]; refine hF ?_; clear hT hF T F)
  refine awp_skip ?_
  refine hK6 _ ?_; clear hK6
  (refine awp_r fun Y Yh => ?_; simp [go_sem]; ((repeat' (first|(refine ag_x ?_;simp [go_sem])|intro _|apply And.intro|(apply Yh;clear Yh Y)));all_goals first|apply Hold.mk|omega|with_reducible assumption|skip))
  refine ⟨x + 1, ?_, by omega, by omega⟩
  (refine cov_of ?_ ?_ <;> simp [go_sem])
 ·(refine awp_if fun T F hT hF => ?_; simp [go_sem, h5]; refine hF ?_; clear hT hF T F)
  refine awp_exit ?_
  simp only [go_sem]
  refine hK3 _ ?_; clear hK3
  (refine awp_sr fun Y Yh => ?_; simp [go_sem]; ((repeat' (first|(refine ag_x ?_;simp [go_sem])|intro _|apply And.intro|(apply Yh;clear Yh Y)));all_goals first|apply Hold.mk|omega|with_reducible assumption|skip))
  (refine awp_ret ?_; simp [go_sem])
end Go.Proofs.YtelhdhofnohkcaaGreatDoor
namespace Go.Proofs.YtelhdhofnohkcaaGreatDoor
open Go.Eng Go.WideShapes Go.Fm
set_option maxRecDepth 100000
/-! rows of texts -/
theorem by9 : Tryz.prog.bytesOf 9 = 16 := by kernel_rfl
theorem reach_le {n k : Nat} (h : n * k ≤ reachBytes) (hk : 1 ≤ k) : n ≤ 140737488355328 := by
 have h1 : n * 1 ≤ n * k := Nat.mul_le_mul_left _ hk
 unfold reachBytes at h
 omega
theorem oz_strs : OpensZ Tryz.prog 23 (fun l : List (List UInt8) => [dR l]) (fun l => l.length ≤ 140737488355328 ∧ ∀ s ∈ l, s.length ≤ 140737488355328) :=
 (opensZ_slice 1 Tryz.underlying23 (by kernel_rfl) (by decide) (fun _ => rfl) oz_str).iso (fun l => l) (fun _ => rfl) (fun l h => ⟨reach_le h.1 (by rw [by9]; decide), h.2.2⟩)
end Go.Proofs.YtelhdhofnohkcaaGreatDoor
namespace Go.Fm
/-! what is in front, of some bytes alone -/
theorem tw_step {p : UInt8 → Bool} : ∀ {s : List UInt8} {i : Nat} (h : i < s.length), i ≤ (s.takeWhile p).length → (p s[i] = true → i + 1 ≤ (s.takeWhile p).length) ∧ (p s[i] = false → i = (s.takeWhile p).length)
 | [], i, h, _ => by simp at h
 | c :: s, 0, h, _ => by
  simp only [List.getElem_cons_zero, List.takeWhile_cons]
  refine ⟨fun q => by rw [q]; simp, fun q => by rw [q]; simp⟩
 | c :: s, i + 1, h, hi => by
  by_cases hc : p c = true
  ·have e : ((c :: s).takeWhile p).length = (s.takeWhile p).length + 1 := by rw [List.takeWhile_cons, if_pos hc, List.length_cons]
   rw [e] at hi ⊢
   obtain ⟨h1, h2⟩ := tw_step (p := p) (s := s) (i := i) (by simpa using h) (by omega)
   rw [List.getElem_cons_succ]
   exact ⟨fun q => by have := h1 q; omega, fun q => by have := h2 q; omega⟩
  ·rw [List.takeWhile_cons, if_neg hc] at hi
   simp at hi
theorem tw_le {p : UInt8 → Bool} (s : List UInt8) : (s.takeWhile p).length ≤ s.length := (List.takeWhile_prefix p).length_le
theorem app_take {a b : List UInt8} : (a ++ b).take a.length = a ∧ (a ++ b).drop a.length = b := by simp
theorem tw_take {p : UInt8 → Bool} (s : List UInt8) : s.take (s.takeWhile p).length = s.takeWhile p ∧ s.drop (s.takeWhile p).length = s.dropWhile p := by
 have e := List.takeWhile_append_dropWhile (p := p) (l := s)
 have h := app_take (a := s.takeWhile p) (b := s.dropWhile p)
 rw [e] at h
 exact h
end Go.Fm
namespace Go.Proofs.YtelhdhofnohkcaaGreatDoor
open Go.Eng Go.Fm
set_option maxRecDepth 20000
attribute [local irreducible] AG CallA CallT AWp PCall ACall AgC
theorem idx_has (s : Bs) (c : UInt8) : 0 ≤ idxV s c ↔ s.contains c = true := by
 unfold idxV
 by_cases h : s.findIdx (· == c) < s.length
 ·rw [if_pos h]
  have := List.findIdx_lt_length.1 h
  obtain ⟨x, hx, hq⟩ := this
  simp at hq
  subst hq
  simp [hx]
 ·rw [if_neg h]
  constructor
  ·intro q; omega
  ·intro q
   exact absurd (List.findIdx_lt_length.2 ⟨c, by simpa using q, by simp⟩) h
theorem take_spec (s ofs : Bs) (hl : s.length ≤ 1000000000) : PCall Tryz.prog 106 [dS s, dS ofs] fun r => r = .tup [dS (s.takeWhile (ofs.contains ·)), dS (s.dropWhile (ofs.contains ·))] := by 
 refine pcall_of Tryz.func106 rfl rfl Tryz.ntmps106 (rs := [.tmp 4, .tmp 5]) (tys := [9, 9]) rfl rfl (by simp) ?_
 have hle := tw_le (p := (ofs.contains ·)) s
 obtain ⟨e1, e2⟩ := tw_take (p := (ofs.contains ·)) s
 (refine awp_sr fun Y Yh => ?_; simp [go_sem]; ((repeat' (first|(refine ag_x ?_;simp [go_sem])|intro _|apply And.intro|(apply Yh;clear Yh Y)));all_goals first|apply Hold.mk|omega|with_reducible assumption|skip))
 (refine awp_sr fun Y Yh => ?_; simp [go_sem]; ((repeat' (first|(refine ag_x ?_;simp [go_sem])|intro _|apply And.intro|(apply Yh;clear Yh Y)));all_goals first|apply Hold.mk|omega|with_reducible assumption|skip))
 refine awp_seq_k fun K1 hK1 => ?_
 refine awp_block ?_
 refine awp_loop (σ := Nat) (fun x => ⟨[(0, dS s), (1, dS ofs), (6, dI x)], []⟩) (fun x => x ≤ (s.takeWhile (ofs.contains ·)).length) (fun x => s.length - x) 0 ?_ ?_ ?_
 ·(refine cov_of ?_ ?_ <;> simp [go_sem])
 ·simp
 intro x hx
 refine awp_seq_k fun K2 hK2 => ?_
 have fin : x = (s.takeWhile (ofs.contains ·)).length → ∀ S', Cov S' ⟨[(0, dS s), (1, dS ofs), (6, dI x)], []⟩ → K1 S' := fun hx S' hS => by
  refine hK1 _ ?_; clear hK1
  refine awp_cov hS ?_; clear hS
  have c1 : ({ data := s.toArray } : ByteArray).extract 0 x = { data := (s.takeWhile (ofs.contains ·)).toArray } := by rw [ba_cut, List.drop_zero, hx, e1]
  have c2 : ({ data := s.toArray } : ByteArray).extract x s.length = { data := (s.dropWhile (ofs.contains ·)).toArray } := by rw [ba_cut, List.take_of_length_le (Nat.le_refl _), hx, e2]
  have hx3 : x ≤ s.length := by omega
  ((refine awp_dr (.qs [0, 1, 2, 3, 4, 5, 6, 7] (.nil)) (by kernel_rfl) ?_ ?_ ?_ ?_); (kernel_rfl); (exact (by decide +kernel)); (kernel_rfl); intro Y Yh; ((repeat' (first|(refine ag_x ?_;simp [go_sem, ba_size, c1, c2])|refine adr_nil ?_|((first|refine adr_qs fun Y Yh=>?_|refine adr_y fun Y Yh=>?_);simp [go_sem, ba_size, c1, c2])|intro _|apply And.intro|(apply Yh;clear Yh Y)));all_goals first|apply Hold.mk|omega|with_reducible assumption|skip))
  (refine awp_ret ?_; simp [go_sem])
 by_cases hx2 : x < s.length
 ·obtain ⟨p1, p2⟩ := tw_step (p := (ofs.contains ·)) hx2 hx
  have hI := idxB_spec ofs s[x]
  have hh := idx_has ofs s[x]
  generalize idxV ofs s[x] = v at *
  (refine awp_sr fun Y Yh => ?_; simp [go_sem, hx2, ba_size]; ((repeat' (first|(refine ag_false ?_ ?_ ?_;(focus (simp [go_sem, undef, hx2, ba_size];done));(focus (simp [go_sem];done));simp [go_sem, hx2, ba_size])|(refine ag_true ?_ ?_;(focus (simp [go_sem, undef, hx2, ba_size];done));simp [go_sem, hx2, ba_size])|(refine ag_x ?_;simp [go_sem, undef, hx2, ba_size])|intro _|apply And.intro|(apply Yh;clear Yh Y)));all_goals first|apply Hold.mk|omega|with_reducible assumption|skip))
  ((try refine CallT.toA ?_); refine callT_m (.inl ⟨rfl,rfl⟩) (by simp [go_sem]) ?_; intro args ha; simp [go_sem] at ha; subst ha; refine ⟨_, hI, ?_⟩; rintro _ rfl; simp [go_sem, hx2, ba_size]; ((repeat' (first|(refine ag_false ?_ ?_ ?_;(focus (simp [go_sem, undef, hx2, ba_size];done));(focus (simp [go_sem];done));simp [go_sem, hx2, ba_size])|(refine ag_true ?_ ?_;(focus (simp [go_sem, undef, hx2, ba_size];done));simp [go_sem, hx2, ba_size])|(refine ag_x ?_;simp [go_sem, undef, hx2, ba_size])|intro _|apply And.intro|(apply Yh;clear Yh Y)));all_goals first|apply Hold.mk|omega|with_reducible assumption|skip))
  by_cases hc : ofs.contains s[x] = true
  ·have h0 := hh.2 hc
   have := p1 hc
   (refine awp_if fun T F hT hF => ?_; simp [go_sem, h0]; refine hT ?_; clear hT hF T F)
   refine awp_skip ?_
   refine hK2 _ ?_; clear hK2
   refine awp_block ?_
   (refine awp_r fun Y Yh => ?_; simp [go_sem]; ((repeat' (first|(refine ag_x ?_;simp [go_sem])|intro _|apply And.intro|(apply Yh;clear Yh Y)));all_goals first|apply Hold.mk|omega|with_reducible assumption|skip))
   refine ⟨x + 1, ?_, by omega, by omega⟩
   (refine cov_of ?_ ?_ <;> simp [go_sem])
  ·have h0 : ¬ 0 ≤ v := fun q => hc (hh.1 q)
   rw [Bool.not_eq_true] at hc
   (refine awp_if fun T F hT hF => ?_; simp [go_sem, h0]; refine hF ?_; clear hT hF T F)
   refine awp_exit ?_
   simp only [go_sem]
   refine fin (p2 hc) _ ?_
   (refine cov_of ?_ ?_ <;> simp [go_sem])
 ·(refine awp_sr fun Y Yh => ?_; simp [go_sem, hx2, ba_size]; ((repeat' (first|(refine ag_false ?_ ?_ ?_;(focus (simp [go_sem, undef, hx2, ba_size];done));(focus (simp [go_sem];done));simp [go_sem, hx2, ba_size])|(refine ag_true ?_ ?_;(focus (simp [go_sem, undef, hx2, ba_size];done));simp [go_sem, hx2, ba_size])|(refine ag_x ?_;simp [go_sem, undef, hx2, ba_size])|intro _|apply And.intro|(apply Yh;clear Yh Y)));all_goals first|apply Hold.mk|omega|with_reducible assumption|skip))
  (refine awp_if fun T F hT hF => ?_; simp [go_sem, hx2]; refine hF ?_; clear hT hF T F)
  refine awp_exit ?_
  simp only [go_sem]
  refine fin (by omega) _ ?_
  (refine cov_of ?_ ?_ <;> simp [go_sem])
theorem take_dig (s : Bs) (hl : s.length ≤ 1000000000) : PCall Tryz.prog 106 [dS s, dS tenD] fun r => r = .tup [dS (s.takeWhile isDig), dS (s.dropWhile isDig)] := by
 have h := take_spec s tenD hl
 have e : (tenD.contains ·) = isDig := funext tenD_isDig
 rwa [e] at h
theorem sizN_step {d : Bs} {i : Nat} (h : i < d.length) : sizN 0 (d.take (i + 1)) = min (10 * sizN 0 (d.take i) + (d[i].toNat - 48)) 100000 := by
 unfold sizN
 rw [List.take_add_one, List.getElem?_eq_getElem h, List.foldl_append]
 rfl
theorem sizN_le (d : Bs) : sizN 0 d ≤ 100000 := by
 have : ∀ n, n ≤ 100000 → sizN n d ≤ 100000 := by
  induction d with
  | nil => intro n h; exact h
  | cons c r ih => intro n h; exact ih _ (Nat.min_le_right _ _)
 exact this 0 (by omega)
theorem pre_pk (c : UInt8) (s : Bs) (hc : c ≠ 0) : [c].isPrefixOf s = decide (pk s = c) := by
 rw [Bool.eq_iff_iff, decide_eq_true_eq]
 cases s with
 | nil => exact ⟨fun q => (by cases q), fun q => absurd q.symm hc⟩
 | cons a b =>
  have e : [c].isPrefixOf (a :: b) = (c == a && true) := rfl
  rw [e, Bool.and_true, beq_iff_eq]
  exact ⟨fun q => q.symm, fun q => Eq.symm q⟩
theorem tw_all {p : UInt8 → Bool} {s : Bs} {i : Nat} (h : i < (s.takeWhile p).length) : p (s.takeWhile p)[i] = true := List.all_eq_true.1 List.all_takeWhile _ (List.getElem_mem h)
set_option maxHeartbeats 8000000 in
theorem size_spec (s : Bs) (m : Int) (hl : s.length ≤ 1000000) : PCall Tryz.prog 107 [dS s, dI m] fun r => r = .tup [dI (sizeV m s).1, dS (sizeV m s).2.2, dB (sizeV m s).2.1] := by 
 refine pcall_of Tryz.func107 rfl rfl Tryz.ntmps107 (rs := [.tmp 4, .tmp 5, .tmp 6]) (tys := [3, 9, 4]) rfl rfl (by simp) ?_
 have hP := hasPre_spec s [42]
 rw [pre_pk 42 s (by decide)] at hP
 have hT := take_dig s (by omega)
 generalize hS : sizeV m s = R
 obtain ⟨r1, r2, r3⟩ := R
 unfold sizeV at hS
 (refine awp_sr fun Y Yh => ?_; simp [go_sem]; ((repeat' (first|(refine ag_x ?_;simp [go_sem])|intro _|apply And.intro|(apply Yh;clear Yh Y)));all_goals first|apply Hold.mk|omega|with_reducible assumption|skip))
 refine awp_seq_k fun K1 hK1 => ?_
 (refine awp_sr fun Y Yh => ?_; simp [go_sem]; ((repeat' (first|(refine ag_x ?_;simp [go_sem])|intro _|apply And.intro|(apply Yh;clear Yh Y)));all_goals first|apply Hold.mk|omega|with_reducible assumption|skip))
 ((try refine CallT.toA ?_); refine callT_m (.inl ⟨rfl,rfl⟩) (by simp [go_sem]) ?_; intro args ha; simp [go_sem] at ha; subst ha; refine ⟨_, hP, ?_⟩; rintro _ rfl; simp [go_sem]; ((repeat' (first|(refine ag_x ?_;simp [go_sem])|intro _|apply And.intro|(apply Yh;clear Yh Y)));all_goals first|apply Hold.mk|omega|with_reducible assumption|skip))
 by_cases h42 : pk s = 42
 ·rw [if_pos h42] at hS
  cases hS
  have hpos : 1 ≤ s.length := by
   cases s with
   | nil => exact absurd h42 (by decide)
   | cons _ _ => simp
  have hcut : ({ data := s.toArray } : ByteArray).extract 1 s.length = { data := s.tail.toArray } := by rw [ba_cut, List.take_of_length_le (Nat.le_refl _), List.drop_one]
  (refine awp_if fun T F hT hF => ?_; simp [go_sem, h42]; refine hT ?_; clear hT hF T F)
  ((refine awp_dr (.qs [0, 1, 2, 3, 4] (.nil)) (by kernel_rfl) ?_ ?_ ?_ ?_); (kernel_rfl); (exact (by decide +kernel)); (kernel_rfl); intro Y Yh; ((repeat' (first|(refine ag_x ?_;simp [go_sem, ba_size, hpos, hcut])|refine adr_nil ?_|((first|refine adr_qs fun Y Yh=>?_|refine adr_y fun Y Yh=>?_);simp [go_sem, ba_size, hpos, hcut])|intro _|apply And.intro|(apply Yh;clear Yh Y)));all_goals first|apply Hold.mk|omega|with_reducible assumption|skip))
  (refine awp_ret ?_; simp [go_sem])
 ·rw [if_neg h42] at hS
  (refine awp_if fun T F hT hF => ?_; simp [go_sem, h42]; refine hF ?_; clear hT hF T F)
  refine awp_skip ?_
  refine hK1 _ ?_; clear hK1
  have hall : ∀ i (h : i < (s.takeWhile isDig).length), isDig (s.takeWhile isDig)[i] = true := fun i h => tw_all h
  have htl := tw_le (p := isDig) s
  generalize s.takeWhile isDig = d at *
  generalize s.dropWhile isDig = rest at *
  (refine awp_sr fun Y Yh => ?_; simp [go_sem]; ((repeat' (first|(refine ag_x ?_;simp [go_sem])|intro _|apply And.intro|(apply Yh;clear Yh Y)));all_goals first|apply Hold.mk|omega|with_reducible assumption|skip))
  ((try refine CallT.toA ?_); refine callT_m (.inl ⟨rfl,rfl⟩) (by simp [go_sem]) ?_; intro args ha; simp [go_sem] at ha; subst ha; refine ⟨_, hT, ?_⟩; rintro _ rfl; simp [go_sem]; ((repeat' (first|(refine ag_x ?_;simp [go_sem])|intro _|apply And.intro|(apply Yh;clear Yh Y)));all_goals first|apply Hold.mk|omega|with_reducible assumption|skip))
  refine awp_seq_k fun K3 hK3 => ?_
  cases d with
  | nil =>
   rw [if_pos rfl] at hS
   cases hS
   (refine awp_sr fun Y Yh => ?_; simp [go_sem]; ((repeat' (first|(refine ag_x ?_;simp [go_sem])|intro _|apply And.intro|(apply Yh;clear Yh Y)));all_goals first|apply Hold.mk|omega|with_reducible assumption|skip))
   (refine awp_if fun T F hT hF => ?_; simp [go_sem]; refine hT ?_; clear hT hF T F)
   (refine awp_sr fun Y Yh => ?_; simp [go_sem]; ((repeat' (first|(refine ag_x ?_;simp [go_sem])|intro _|apply And.intro|(apply Yh;clear Yh Y)));all_goals first|apply Hold.mk|omega|with_reducible assumption|skip))
   (refine awp_ret ?_; simp [go_sem])
  | cons c0 d0 =>
   (refine awp_sr fun Y Yh => ?_; simp [go_sem]; ((repeat' (first|(refine ag_x ?_;simp [go_sem])|intro _|apply And.intro|(apply Yh;clear Yh Y)));all_goals first|apply Hold.mk|omega|with_reducible assumption|skip))
   (refine awp_if fun T F hT hF => ?_; simp [go_sem]; refine hF ?_; clear hT hF T F)
   refine awp_skip ?_
   refine hK3 _ ?_; clear hK3
   generalize hd : c0 :: d0 = d at *
   rw [if_neg (by rw [← hd]; simp)] at hS
   simp only [Prod.mk.injEq] at hS
   obtain ⟨rfl, rfl, rfl⟩ := hS
   (refine awp_sr fun Y Yh => ?_; simp [go_sem]; ((repeat' (first|(refine ag_x ?_;simp [go_sem])|intro _|apply And.intro|(apply Yh;clear Yh Y)));all_goals first|apply Hold.mk|omega|with_reducible assumption|skip))
   refine awp_seq_k fun K5 hK5 => ?_
   (refine awp_sr fun Y Yh => ?_; simp [go_sem]; ((repeat' (first|(refine ag_x ?_;simp [go_sem])|intro _|apply And.intro|(apply Yh;clear Yh Y)));all_goals first|apply Hold.mk|omega|with_reducible assumption|skip))
   refine awp_block ?_
   refine awp_loop (σ := Nat) (fun i => ⟨[(7, dS d), (8, dS rest), (9, dI (sizN 0 (d.take i))), (10, dI i)], []⟩) (fun i => i ≤ d.length) (fun i => d.length - i) 0 ?_ ?_ ?_
   ·(refine cov_of ?_ ?_ <;> simp [go_sem])
    rfl
   ·simp
   intro i hi
   refine awp_seq_k fun K6 hK6 => ?_
   have hn := sizN_le (d.take i)
   (refine awp_sr fun Y Yh => ?_; simp [go_sem, ba_size]; ((repeat' (first|(refine ag_x ?_;simp [go_sem, ba_size])|intro _|apply And.intro|(apply Yh;clear Yh Y)));all_goals first|apply Hold.mk|omega|with_reducible assumption|skip))
   by_cases h7 : i < d.length
   ·have hst := sizN_step h7
    have hdg := hall i h7
    have hd2 := (isDig_iff _).1 hdg
    skip
    generalize sizN 0 (d.take i) = N at *
    generalize hc : d[i] = c at *
    have hu : (IntKind.u8.wrap ((c.toNat : Int) - 48)) = ((c.toNat - 48 : Nat) : Int) := by rw [IntKind.wrap_u8]; omega
    (refine awp_if fun T F hT hF => ?_; simp [go_sem, h7]; refine hT ?_; clear hT hF T F)
    refine awp_skip ?_
    refine hK6 _ ?_; clear hK6
    refine awp_seq_k fun K8 hK8 => ?_
    refine awp_block ?_
    (refine awp_r fun Y Yh => ?_; simp [go_sem, h7, hc, hu, ba_size]; ((repeat' (first|(refine ag_x ?_;simp [go_sem, h7, hc, hu, ba_size])|intro _|apply And.intro|(apply Yh;clear Yh Y)));all_goals first|apply Hold.mk|omega|with_reducible assumption|skip))
    refine hK8 _ ?_; clear hK8
    (refine awp_r fun Y Yh => ?_; simp [go_sem]; ((repeat' (first|(refine ag_x ?_;simp [go_sem])|intro _|apply And.intro|(apply Yh;clear Yh Y)));all_goals first|apply Hold.mk|omega|with_reducible assumption|skip))
    refine ⟨i + 1, ?_, by omega, by omega⟩
    (refine cov_of ?_ ?_ <;> simp [go_sem])
    rw [hst]
    omega
   ·have : i = d.length := by omega
    subst this
    rw [List.take_length] at *
    (refine awp_if fun T F hT hF => ?_; simp [go_sem, h7]; refine hF ?_; clear hT hF T F)
    refine awp_exit ?_
    simp only [go_sem]
    refine hK5 _ ?_; clear hK5
    generalize sizN 0 d = N at *
    (refine awp_sr fun Y Yh => ?_; simp [go_sem]; ((repeat' (first|(refine ag_x ?_;simp [go_sem])|intro _|apply And.intro|(apply Yh;clear Yh Y)));all_goals first|apply Hold.mk|omega|with_reducible assumption|skip))
    (refine awp_ret ?_; simp [go_sem])
    omega
end Go.Proofs.YtelhdhofnohkcaaGreatDoor
namespace Go.Fm
/-! the table of the quoting -/
def spc (c : UInt8) : Bool := c == 10 || c == 34 || c == 92
def cntS (s : List UInt8) : Nat := (s.filter spc).length
theorem quoC_spc {c : UInt8} (h : spc c = true) : quoC c = [92, if c = 10 then 110 else c] := by
 unfold spc at h
 simp only [Bool.or_eq_true, beq_iff_eq] at h
 rcases h with (rfl | rfl) | rfl <;> rfl
theorem quoC_no {c : UInt8} (h : spc c = false) : quoC c = [c] := by
 unfold spc at h
 simp only [Bool.or_eq_false_iff, beq_eq_false_iff_ne] at h
 unfold quoC
 rw [if_neg (by rintro (q | q) <;> simp_all), if_neg h.1.1]
theorem quo_len (s : List UInt8) : (s.flatMap quoC).length = s.length + cntS s := by
 induction s with
 | nil => rfl
 | cons c s ih =>
  simp only [List.flatMap_cons, List.length_append, List.length_cons, ih, cntS, List.filter_cons]
  cases h : spc c
  ·rw [quoC_no h]; simp; omega
  ·rw [quoC_spc h]; simp; omega
theorem quo_none {s : List UInt8} (h : cntS s = 0) : s.flatMap quoC = s := by
 induction s with
 | nil => rfl
 | cons c s ih =>
  simp only [cntS, List.filter_cons] at h
  cases hc : spc c
  ·rw [hc] at h
   rw [List.flatMap_cons, quoC_no hc, ih (by simpa [cntS] using h)]; rfl
  ·rw [hc] at h; simp at h
theorem cntS_take {s : List UInt8} {i : Nat} (h : i < s.length) : cntS (s.take (i + 1)) = cntS (s.take i) + if spc s[i] then 1 else 0 := by
 rw [List.take_add_one, List.getElem?_eq_getElem h]
 simp only [cntS, Option.toList_some, List.filter_append, List.length_append, List.filter_cons, List.filter_nil]
 cases spc s[i] <;> rfl
theorem cntS_le (s : List UInt8) : cntS s ≤ s.length := List.length_filter_le _ _
theorem quo_take {s : List UInt8} {i : Nat} (h : i < s.length) : (s.take (i + 1)).flatMap quoC = (s.take i).flatMap quoC ++ quoC s[i] := by
 rw [List.take_add_one, List.getElem?_eq_getElem h]; simp only [Option.toList_some, List.flatMap_append, List.flatMap_cons, List.flatMap_nil, List.append_nil]
theorem cntS_parts (s : List UInt8) : s.count 10 + s.count 34 + s.count 92 = cntS s := by
 induction s with
 | nil => rfl
 | cons c s ih =>
  simp only [List.count_cons, cntS, List.filter_cons] at ih ⊢
  by_cases h1 : c = 10
  ·subst h1; simp [spc]; omega
  ·by_cases h2 : c = 34
   ·subst h2; simp [spc]; omega
   ·by_cases h3 : c = 92
    ·subst h3; simp [spc]; omega
    ·simp [spc, h1, h2, h3]; omega
theorem quo_le (s : List UInt8) (i : Nat) : ((s.take i).flatMap quoC).length ≤ (s.flatMap quoC).length := by
 have h : s.flatMap quoC = (s.take i).flatMap quoC ++ (s.drop i).flatMap quoC := by rw [← List.flatMap_append, List.take_append_drop]
 rw [h, List.length_append]
 omega
def qF (s : List UInt8) : List UInt8 := s.flatMap quoC
theorem qF_len (s : List UInt8) : (qF s).length = s.length + cntS s := quo_len s
theorem qF_none {s : List UInt8} (h : cntS s = 0) : qF s = s := quo_none h
theorem qF_take {s : List UInt8} {i : Nat} (h : i < s.length) : qF (s.take (i + 1)) = qF (s.take i) ++ quoC s[i] := quo_take h
theorem qF_le (s : List UInt8) (i : Nat) : (qF (s.take i)).length ≤ (qF s).length := quo_le s i
theorem qF_nil : qF [] = [] := rfl
theorem quoV_qF (s : List UInt8) : quoV s = 34 :: qF s ++ [34] := rfl
end Go.Fm
namespace Go.Proofs.YtelhdhofnohkcaaGreatDoor
open Go.Eng Go.Fm
set_option maxRecDepth 20000
attribute [local irreducible] AG CallA CallT AWp PCall ACall AgC
theorem contains_spec (s : Bs) (c : UInt8) : PCall Tryz.prog 101 [dS s, dS [c]] fun r => r = dB (s.contains c) := by
 refine pcall_below ⟨_, Tryz.func101, rfl, rfl⟩ fun C w us hc hg hr => ?_
 obtain rfl := repL_v (us := [.string ⟨s.toArray⟩, .string ⟨[c].toArray⟩]) hr
 refine (Tryz.strings_Contains_one ⟨s.toArray⟩ c w).mono ?_
 rintro e w' ⟨rfl, rfl⟩
 refine ⟨_, _, rfl, ?_, .v _, RowKit.Below.refl _ _⟩
 have e : decide (0 ≤ Lib.indexByte (⟨s.toArray⟩ : ByteArray).data.toList c) = s.contains c := by
  have h1 : (⟨s.toArray⟩ : ByteArray).data.toList = s := by simp
  rw [h1, indexByte_find, Bool.eq_iff_iff, decide_eq_true_eq]
  exact idx_has s c
 rw [e]
def filV (s : Bs) (w : Int) (l : Bool) : Bs := if w - s.length ≤ 0 then s else if l then s ++ rep 32 (w - s.length) else rep 32 (w - s.length) ++ s
theorem filV_pad (f : Fld) (s : Bs) : paddedV f s = filV s f.wd f.lf := rfl
set_option maxHeartbeats 8000000 in
theorem rfilled_spec (s : Bs) (w : Int) (l : Bool) (hl : s.length ≤ 1000000000) (hw : w ≤ 1000000) (hw2 : -1000000 ≤ w) : PCall Tryz.prog 40 [dS s, dI w, dB l] fun r => r = dS (filV s w l) := by 
 refine pcall_of Tryz.func40 rfl rfl Tryz.ntmps40 (rs := [.tmp 6]) (tys := [9]) rfl rfl (by simp) ?_
 let T : Nat → Bs := fun x => if l then s ++ List.replicate x 32 else List.replicate x 32 ++ s
 have hT : ∀ x, T x = if l then s ++ List.replicate x 32 else List.replicate x 32 ++ s := fun _ => rfl
 have hTl : ∀ x, (T x).length = s.length + x := fun x => by rw [hT]; split <;> simp <;> omega
 have hT0 : T 0 = s := by rw [hT]; simp
 have hTs : ∀ x, T (x + 1) = if l then T x ++ [32] else 32 :: T x := fun x => by
  rw [hT, hT]
  cases l <;> simp [List.replicate_succ, List.replicate_succ']
  rw [← List.replicate_succ, List.replicate_succ']
 have hV : filV s w l = T (w - s.length).toNat := by
  rw [hT]
  unfold filV rep
  by_cases h : w - s.length ≤ 0
  ·rw [if_pos h, show (w - (s.length : Int)).toNat = 0 by omega]; simp
  ·rw [if_neg h]
 rw [hV]
 clear hV hT
 generalize T = T at *
 rw [← hT0]
 have e0 : (T 0).length = s.length := by rw [hT0]
 rw [e0]
 (refine awp_sr fun Y Yh => ?_; simp [go_sem]; ((repeat' (first|(refine ag_x ?_;simp [go_sem])|intro _|apply And.intro|(apply Yh;clear Yh Y)));all_goals first|apply Hold.mk|omega|with_reducible assumption|skip))
 refine awp_seq_k fun K1 hK1 => ?_
 refine awp_block ?_
 refine awp_loop (σ := Nat) (fun x => ⟨[(0, dS (T x)), (1, dI w), (2, dB l)], []⟩) (fun x => x ≤ (w - s.length).toNat) (fun x => (w - s.length).toNat - x) 0 ?_ ?_ ?_
 ·(refine cov_of ?_ ?_ <;> simp [go_sem])
 ·simp
 intro x hx
 refine awp_seq_k fun K2 hK2 => ?_
 have hsz := hTl x
 have hst := hTs x
 (refine awp_sr fun Y Yh => ?_; simp [go_sem, ba_size, hsz]; ((repeat' (first|(refine ag_x ?_;simp [go_sem, ba_size, hsz])|intro _|apply And.intro|(apply Yh;clear Yh Y)));all_goals first|apply Hold.mk|omega|with_reducible assumption|skip))
 by_cases h3 : (s.length : Int) + x < w
 ·(refine awp_if fun T F hT hF => ?_; simp [go_sem, h3]; refine hT ?_; clear hT hF T F)
  refine awp_skip ?_
  refine hK2 _ ?_; clear hK2
  refine awp_block ?_
  (refine awp_sr fun Y Yh => ?_; simp [go_sem]; ((repeat' (first|(refine ag_x ?_;simp [go_sem])|intro _|apply And.intro|(apply Yh;clear Yh Y)));all_goals first|apply Hold.mk|omega|with_reducible assumption|skip))
  cases l with
  | true =>
   (refine awp_if fun T F hT hF => ?_; simp [go_sem]; refine hT ?_; clear hT hF T F)
   (refine awp_r fun Y Yh => ?_; simp [go_sem, ba_app, ba_size, hsz]; ((repeat' (first|(refine ag_x ?_;simp [go_sem, ba_app, ba_size, hsz])|intro _|apply And.intro|(apply Yh;clear Yh Y)));all_goals first|apply Hold.mk|omega|with_reducible assumption|skip))
   refine ⟨x + 1, ?_, by omega, by omega⟩
   rw [hst]
   (refine cov_of ?_ ?_ <;> simp [go_sem])
  | false =>
   (refine awp_if fun T F hT hF => ?_; simp [go_sem]; refine hF ?_; clear hT hF T F)
   (refine awp_r fun Y Yh => ?_; simp [go_sem, ba_app, ba_size, hsz]; ((repeat' (first|(refine ag_x ?_;simp [go_sem, ba_app, ba_size, hsz])|intro _|apply And.intro|(apply Yh;clear Yh Y)));all_goals first|apply Hold.mk|omega|with_reducible assumption|skip))
   refine ⟨x + 1, ?_, by omega, by omega⟩
   rw [hst]
   (refine cov_of ?_ ?_ <;> simp [go_sem])
 ·(refine awp_if fun T F hT hF => ?_; simp [go_sem, h3]; refine hF ?_; clear hT hF T F)
  refine awp_exit ?_
  simp only [go_sem]
  refine hK1 _ ?_; clear hK1
  have hx : x = (w - s.length).toNat := by omega
  subst hx
  (refine awp_sr fun Y Yh => ?_; simp [go_sem]; ((repeat' (first|(refine ag_x ?_;simp [go_sem])|intro _|apply And.intro|(apply Yh;clear Yh Y)));all_goals first|apply Hold.mk|omega|with_reducible assumption|skip))
  (refine awp_ret ?_; simp [go_sem])
theorem rbase_spec (c : UInt8) : PCall Tryz.prog 167 [dU c] fun r => r = dI (baseV c : Nat) := by 
 refine pcall_of Tryz.func167 rfl rfl Tryz.ntmps167 (rs := [.tmp 2]) (tys := [3]) rfl rfl (by simp) ?_
 have b1 : decide ((c.toNat : Int) = 100) = decide (c = 100) := u8_eqb _ 100 (by decide)
 have b2 : decide ((c.toNat : Int) = 111) = decide (c = 111) := u8_eqb _ 111 (by decide)
 have b3 : decide ((c.toNat : Int) = 98) = decide (c = 98) := u8_eqb _ 98 (by decide)
 unfold baseV
 (refine awp_sr fun Y Yh => ?_; simp [go_sem]; ((repeat' (first|(refine ag_x ?_;simp [go_sem])|intro _|apply And.intro|(apply Yh;clear Yh Y)));all_goals first|apply Hold.mk|omega|with_reducible assumption|skip))
 refine awp_seq_k fun K1 hK1 => ?_
 (refine awp_sr fun Y Yh => ?_; simp [go_sem]; ((repeat' (first|(refine ag_x ?_;simp [go_sem])|intro _|apply And.intro|(apply Yh;clear Yh Y)));all_goals first|apply Hold.mk|omega|with_reducible assumption|skip))
 refine awp_block ?_
 (refine awp_sr fun Y Yh => ?_; simp [go_sem, b1]; ((repeat' (first|(refine ag_x ?_;simp [go_sem, b1])|intro _|apply And.intro|(apply Yh;clear Yh Y)));all_goals first|apply Hold.mk|omega|with_reducible assumption|skip))
 by_cases h1 : c = 100
 ·(refine awp_if fun T F hT hF => ?_; simp [go_sem, h1]; refine hT ?_; clear hT hF T F)
  (refine awp_sr fun Y Yh => ?_; simp [go_sem]; ((repeat' (first|(refine ag_x ?_;simp [go_sem])|intro _|apply And.intro|(apply Yh;clear Yh Y)));all_goals first|apply Hold.mk|omega|with_reducible assumption|skip))
  (refine awp_ret ?_; simp [go_sem, h1])
 ·(refine awp_if fun T F hT hF => ?_; simp [go_sem, h1]; refine hF ?_; clear hT hF T F)
  (refine awp_sr fun Y Yh => ?_; simp [go_sem, b2]; ((repeat' (first|(refine ag_x ?_;simp [go_sem, b2])|intro _|apply And.intro|(apply Yh;clear Yh Y)));all_goals first|apply Hold.mk|omega|with_reducible assumption|skip))
  by_cases h2 : c = 111
  ·(refine awp_if fun T F hT hF => ?_; simp [go_sem, h2]; refine hT ?_; clear hT hF T F)
   (refine awp_sr fun Y Yh => ?_; simp [go_sem]; ((repeat' (first|(refine ag_x ?_;simp [go_sem])|intro _|apply And.intro|(apply Yh;clear Yh Y)));all_goals first|apply Hold.mk|omega|with_reducible assumption|skip))
   (refine awp_ret ?_; simp [go_sem, h2])
  ·(refine awp_if fun T F hT hF => ?_; simp [go_sem, h2]; refine hF ?_; clear hT hF T F)
   (refine awp_sr fun Y Yh => ?_; simp [go_sem, b3]; ((repeat' (first|(refine ag_x ?_;simp [go_sem, b3])|intro _|apply And.intro|(apply Yh;clear Yh Y)));all_goals first|apply Hold.mk|omega|with_reducible assumption|skip))
   by_cases h3 : c = 98
   ·(refine awp_if fun T F hT hF => ?_; simp [go_sem, h3]; refine hT ?_; clear hT hF T F)
    (refine awp_sr fun Y Yh => ?_; simp [go_sem]; ((repeat' (first|(refine ag_x ?_;simp [go_sem])|intro _|apply And.intro|(apply Yh;clear Yh Y)));all_goals first|apply Hold.mk|omega|with_reducible assumption|skip))
    (refine awp_ret ?_; simp [go_sem, h3])
   ·(refine awp_if fun T F hT hF => ?_; simp [go_sem, h3]; refine hF ?_; clear hT hF T F)
    refine awp_skip ?_
    refine hK1 _ ?_; clear hK1
    (refine awp_sr fun Y Yh => ?_; simp [go_sem]; ((repeat' (first|(refine ag_x ?_;simp [go_sem])|intro _|apply And.intro|(apply Yh;clear Yh Y)));all_goals first|apply Hold.mk|omega|with_reducible assumption|skip))
    (refine awp_ret ?_; simp [go_sem, h1, h2, h3])
theorem rprefix_spec (c : UInt8) (d : Bs) : PCall Tryz.prog 168 [dU c, dS d] fun r => r = dS (Fm.preV c d) := by 
 refine pcall_of Tryz.func168 rfl rfl Tryz.ntmps168 (rs := [.tmp 4]) (tys := [9]) rfl rfl (by simp) ?_
 have b1 : decide ((c.toNat : Int) = 120) = decide (c = 120) := u8_eqb _ 120 (by decide)
 have b2 : decide ((c.toNat : Int) = 88) = decide (c = 88) := u8_eqb _ 88 (by decide)
 have b3 : decide ((c.toNat : Int) = 98) = decide (c = 98) := u8_eqb _ 98 (by decide)
 have b4 : decide ((c.toNat : Int) = 111) = decide (c = 111) := u8_eqb _ 111 (by decide)
 have hP := hasPre_spec d [48]
 rw [pre_pk 48 d (by decide)] at hP
 have hpk : pk d = 48 ↔ d.head? = some 48 := by
  cases d with
  | nil => simp [pk]
  | cons a b => simp [pk]
 generalize hV : Fm.preV c d = V
 unfold Fm.preV at hV
 (refine awp_sr fun Y Yh => ?_; simp [go_sem]; ((repeat' (first|(refine ag_x ?_;simp [go_sem])|intro _|apply And.intro|(apply Yh;clear Yh Y)));all_goals first|apply Hold.mk|omega|with_reducible assumption|skip))
 refine awp_seq_k fun K1 hK1 => ?_
 have tl1 : ∀ S', V = [] → Cov S' ⟨[], []⟩ → K1 S' := fun S' hv hS => by
  refine hK1 _ ?_; clear hK1
  refine awp_cov hS ?_; clear hS
  (refine awp_sr fun Y Yh => ?_; simp [go_sem]; ((repeat' (first|(refine ag_x ?_;simp [go_sem])|intro _|apply And.intro|(apply Yh;clear Yh Y)));all_goals first|apply Hold.mk|omega|with_reducible assumption|skip))
  (refine awp_ret ?_; simp [go_sem, hv])
 clear hK1
 (refine awp_sr fun Y Yh => ?_; simp [go_sem]; ((repeat' (first|(refine ag_x ?_;simp [go_sem])|intro _|apply And.intro|(apply Yh;clear Yh Y)));all_goals first|apply Hold.mk|omega|with_reducible assumption|skip))
 refine awp_block ?_
 (refine awp_sr fun Y Yh => ?_; simp [go_sem, b1]; ((repeat' (first|(refine ag_x ?_;simp [go_sem, b1])|intro _|apply And.intro|(apply Yh;clear Yh Y)));all_goals first|apply Hold.mk|omega|with_reducible assumption|skip))
 by_cases h1 : c = 120
 ·rw [if_pos h1] at hV
  (refine awp_if fun T F hT hF => ?_; simp [go_sem, h1]; refine hT ?_; clear hT hF T F)
  (refine awp_sr fun Y Yh => ?_; simp [go_sem]; ((repeat' (first|(refine ag_x ?_;simp [go_sem])|intro _|apply And.intro|(apply Yh;clear Yh Y)));all_goals first|apply Hold.mk|omega|with_reducible assumption|skip))
  (refine awp_ret ?_; simp [go_sem, hV.symm])
 ·rw [if_neg h1] at hV
  (refine awp_if fun T F hT hF => ?_; simp [go_sem, h1]; refine hF ?_; clear hT hF T F)
  (refine awp_sr fun Y Yh => ?_; simp [go_sem, b2]; ((repeat' (first|(refine ag_x ?_;simp [go_sem, b2])|intro _|apply And.intro|(apply Yh;clear Yh Y)));all_goals first|apply Hold.mk|omega|with_reducible assumption|skip))
  by_cases h2 : c = 88
  ·rw [if_pos h2] at hV
   (refine awp_if fun T F hT hF => ?_; simp [go_sem, h2]; refine hT ?_; clear hT hF T F)
   (refine awp_sr fun Y Yh => ?_; simp [go_sem]; ((repeat' (first|(refine ag_x ?_;simp [go_sem])|intro _|apply And.intro|(apply Yh;clear Yh Y)));all_goals first|apply Hold.mk|omega|with_reducible assumption|skip))
   (refine awp_ret ?_; simp [go_sem, hV.symm])
  ·rw [if_neg h2] at hV
   (refine awp_if fun T F hT hF => ?_; simp [go_sem, h2]; refine hF ?_; clear hT hF T F)
   (refine awp_sr fun Y Yh => ?_; simp [go_sem, b3]; ((repeat' (first|(refine ag_x ?_;simp [go_sem, b3])|intro _|apply And.intro|(apply Yh;clear Yh Y)));all_goals first|apply Hold.mk|omega|with_reducible assumption|skip))
   by_cases h3 : c = 98
   ·rw [if_pos h3] at hV
    (refine awp_if fun T F hT hF => ?_; simp [go_sem, h3]; refine hT ?_; clear hT hF T F)
    (refine awp_sr fun Y Yh => ?_; simp [go_sem]; ((repeat' (first|(refine ag_x ?_;simp [go_sem])|intro _|apply And.intro|(apply Yh;clear Yh Y)));all_goals first|apply Hold.mk|omega|with_reducible assumption|skip))
    (refine awp_ret ?_; simp [go_sem, hV.symm])
   ·rw [if_neg h3] at hV
    (refine awp_if fun T F hT hF => ?_; simp [go_sem, h3]; refine hF ?_; clear hT hF T F)
    (refine awp_sr fun Y Yh => ?_; simp [go_sem, b4]; ((repeat' (first|(refine ag_x ?_;simp [go_sem, b4])|intro _|apply And.intro|(apply Yh;clear Yh Y)));all_goals first|apply Hold.mk|omega|with_reducible assumption|skip))
    by_cases h4 : c = 111
    ·(refine awp_if fun T F hT hF => ?_; simp [go_sem, h4]; refine hT ?_; clear hT hF T F)
     (refine awp_sr fun Y Yh => ?_; simp [go_sem]; ((repeat' (first|(refine ag_x ?_;simp [go_sem])|intro _|apply And.intro|(apply Yh;clear Yh Y)));all_goals first|apply Hold.mk|omega|with_reducible assumption|skip))
     ((try refine CallT.toA ?_); refine callT_m (.inl ⟨rfl,rfl⟩) (by simp [go_sem]) ?_; intro args ha; simp [go_sem] at ha; subst ha; refine ⟨_, hP, ?_⟩; rintro _ rfl; simp [go_sem]; ((repeat' (first|(refine ag_x ?_;simp [go_sem])|intro _|apply And.intro|(apply Yh;clear Yh Y)));all_goals first|apply Hold.mk|omega|with_reducible assumption|skip))
     by_cases h5 : pk d = 48
     ·rw [if_neg (by rintro ⟨_, q⟩; exact q (hpk.1 h5))] at hV
      (refine awp_if fun T F hT hF => ?_; simp [go_sem, h5]; refine hF ?_; clear hT hF T F)
      refine awp_skip ?_
      refine tl1 _ hV.symm ?_
      (refine cov_of ?_ ?_ <;> simp [go_sem])
     ·rw [if_pos ⟨h4, fun q => h5 (hpk.2 q)⟩] at hV
      (refine awp_if fun T F hT hF => ?_; simp [go_sem, h5]; refine hT ?_; clear hT hF T F)
      (refine awp_sr fun Y Yh => ?_; simp [go_sem]; ((repeat' (first|(refine ag_x ?_;simp [go_sem])|intro _|apply And.intro|(apply Yh;clear Yh Y)));all_goals first|apply Hold.mk|omega|with_reducible assumption|skip))
      (refine awp_ret ?_; simp [go_sem, hV.symm])
    ·rw [if_neg (fun q => h4 q.1)] at hV
     (refine awp_if fun T F hT hF => ?_; simp [go_sem, h4]; refine hF ?_; clear hT hF T F)
     refine awp_skip ?_
     refine tl1 _ hV.symm ?_
     (refine cov_of ?_ ?_ <;> simp [go_sem])
theorem rtext_spec (a : Ag) (h : InR a.int) : PCall Tryz.prog 132 [dA a] fun r => r = dS (textV a) := by 
 refine pcall_of Tryz.func132 rfl rfl Tryz.ntmps132 (rs := [.tmp 2]) (tys := [9]) rfl rfl (by simp) ?_
 unfold textV
 cases hi : a.is with
 | true =>
  (refine awp_sr fun Y Yh => ?_; simp [go_sem, hi]; ((repeat' (first|(refine ag_x ?_;simp [go_sem, hi])|intro _|apply And.intro|(apply Yh;clear Yh Y)));all_goals first|apply Hold.mk|omega|with_reducible assumption|skip))
  refine awp_seq_k fun K1 hK1 => ?_
  (refine awp_sr fun Y Yh => ?_; simp [go_sem]; ((repeat' (first|(refine ag_x ?_;simp [go_sem])|intro _|apply And.intro|(apply Yh;clear Yh Y)));all_goals first|apply Hold.mk|omega|with_reducible assumption|skip))
  (refine awp_if fun T F hT hF => ?_; simp [go_sem]; refine hT ?_; clear hT hF T F)
  (refine awp_sr fun Y Yh => ?_; simp [go_sem]; ((repeat' (first|(refine ag_x ?_;simp [go_sem])|intro _|apply And.intro|(apply Yh;clear Yh Y)));all_goals first|apply Hold.mk|omega|with_reducible assumption|skip))
  (refine awp_ret ?_; simp [go_sem])
 | false =>
  (refine awp_sr fun Y Yh => ?_; simp [go_sem, hi]; ((repeat' (first|(refine ag_x ?_;simp [go_sem, hi])|intro _|apply And.intro|(apply Yh;clear Yh Y)));all_goals first|apply Hold.mk|omega|with_reducible assumption|skip))
  refine awp_seq_k fun K1 hK1 => ?_
  (refine awp_sr fun Y Yh => ?_; simp [go_sem]; ((repeat' (first|(refine ag_x ?_;simp [go_sem])|intro _|apply And.intro|(apply Yh;clear Yh Y)));all_goals first|apply Hold.mk|omega|with_reducible assumption|skip))
  (refine awp_if fun T F hT hF => ?_; simp [go_sem]; refine hF ?_; clear hT hF T F)
  refine awp_skip ?_
  refine hK1 _ ?_; clear hK1
  (refine awp_sr fun Y Yh => ?_; simp [go_sem]; ((repeat' (first|(refine ag_x ?_;simp [go_sem])|intro _|apply And.intro|(apply Yh;clear Yh Y)));all_goals first|apply Hold.mk|omega|with_reducible assumption|skip))
  ((try refine CallT.toA ?_); refine callT_m (.inl ⟨rfl,rfl⟩) (by simp [go_sem]) ?_; intro args ha; simp [go_sem] at ha; subst ha; refine ⟨_, (itoa_spec a.int h), ?_⟩; rintro _ rfl; simp [go_sem]; ((repeat' (first|(refine ag_x ?_;simp [go_sem])|intro _|apply And.intro|(apply Yh;clear Yh Y)));all_goals first|apply Hold.mk|omega|with_reducible assumption|skip))
  (refine awp_ret ?_; simp [go_sem])
set_option maxHeartbeats 8000000 in
theorem rquoted_spec (s : Bs) (hl : s.length ≤ 1100000) : PCall Tryz.prog 133 [dS s] fun r => r = dS (quoV s) := by 
 refine pcall_of Tryz.func133 rfl rfl Tryz.ntmps133 (rs := [.tmp 2]) (tys := [9]) rfl rfl (by simp) ?_
 have hq := quoV_qF s
 let T : Nat → Bs := fun i => 34 :: qF (s.take i)
 have hT0 : T 0 = [34] := by show 34 :: qF (s.take 0) = _; rw [List.take_zero, qF_nil]
 have hTe : T s.length ++ [34] = quoV s := by show 34 :: qF (s.take s.length) ++ [34] = _; rw [List.take_length, hq]
 have hTs : ∀ i (h : i < s.length), T (i + 1) = T i ++ quoC s[i] := fun i h => by show 34 :: qF (s.take (i + 1)) = 34 :: qF (s.take i) ++ _; rw [qF_take h]; rfl
 have hTl : ∀ i, (T i).length ≤ 3000000 := fun i => by
  show (34 :: qF (s.take i)).length ≤ _
  have h1 := qF_le s i
  have h2 := qF_len s
  have h3 := cntS_le s
  simp only [List.length_cons]; omega
 rw [← hTe]
 clear hq hTe
 generalize T = T at *
 (refine awp_sr fun Y Yh => ?_; simp [go_sem]; ((repeat' (first|(refine ag_x ?_;simp [go_sem])|intro _|apply And.intro|(apply Yh;clear Yh Y)));all_goals first|apply Hold.mk|omega|with_reducible assumption|skip))
 (refine awp_sr fun Y Yh => ?_; simp [go_sem]; ((repeat' (first|(refine ag_x ?_;simp [go_sem])|intro _|apply And.intro|(apply Yh;clear Yh Y)));all_goals first|apply Hold.mk|omega|with_reducible assumption|skip))
 refine awp_seq_k fun K1 hK1 => ?_
 (refine awp_sr fun Y Yh => ?_; simp [go_sem]; ((repeat' (first|(refine ag_x ?_;simp [go_sem])|intro _|apply And.intro|(apply Yh;clear Yh Y)));all_goals first|apply Hold.mk|omega|with_reducible assumption|skip))
 refine awp_block ?_
 refine awp_loop (σ := Nat) (fun i => ⟨[(0, dS s), (3, dS (T i)), (4, dI i)], []⟩) (fun i => i ≤ s.length) (fun i => s.length - i) 0 ?_ ?_ ?_
 ·(refine cov_of ?_ ?_ <;> simp [go_sem, hT0])
 ·simp
 intro i hi
 refine awp_seq_k fun K2 hK2 => ?_
 (refine awp_sr fun Y Yh => ?_; simp [go_sem, ba_size]; ((repeat' (first|(refine ag_x ?_;simp [go_sem, ba_size])|intro _|apply And.intro|(apply Yh;clear Yh Y)));all_goals first|apply Hold.mk|omega|with_reducible assumption|skip))
 by_cases h3 : i < s.length
 ·have hst := hTs i h3
  have htl := hTl i
  (refine awp_if fun T F hT hF => ?_; simp [go_sem, h3]; refine hT ?_; clear hT hF T F)
  refine awp_skip ?_
  refine hK2 _ ?_; clear hK2
  refine awp_seq_k fun K4 hK4 => ?_
  have tl4 : ∀ S', Cov S' ⟨[(0, dS s), (3, dS (T i ++ quoC s[i])), (4, dI i)], []⟩ → K4 S' := fun S' hS => by
   refine hK4 _ ?_; clear hK4
   refine awp_cov hS ?_; clear hS
   (refine awp_r fun Y Yh => ?_; simp [go_sem]; ((repeat' (first|(refine ag_x ?_;simp [go_sem])|intro _|apply And.intro|(apply Yh;clear Yh Y)));all_goals first|apply Hold.mk|omega|with_reducible assumption|skip))
   refine ⟨i + 1, ?_, by omega, by omega⟩
   rw [hst]
   (refine cov_of ?_ ?_ <;> simp [go_sem])
  clear hK4
  have hcut : ({ data := s.toArray } : ByteArray).extract i (i + 1) = { data := [s[i]].toArray } := by
   rw [ba_cut, List.drop_take, List.drop_eq_getElem_cons h3, show i + 1 - i = 1 by omega]
   rfl
  have hcut2 : ({ data := s.toArray } : ByteArray).extract i ((i : Int) + 1).toNat = { data := [s[i]].toArray } := by
   rw [show ((i : Int) + 1).toNat = i + 1 by omega]; exact hcut
  have hi1 : (i : Int) + 1 ≤ s.length := by omega
  generalize hc : s[i] = c at *
  have b1 : decide ((c.toNat : Int) = 92) = decide (c = 92) := u8_eqb _ 92 (by decide)
  have b2 : decide ((c.toNat : Int) = 34) = decide (c = 34) := u8_eqb _ 34 (by decide)
  have b3 : decide ((c.toNat : Int) = 10) = decide (c = 10) := u8_eqb _ 10 (by decide)
  refine awp_block ?_
  (refine awp_sr fun Y Yh => ?_; simp [go_sem, h3, hc, ba_size]; ((repeat' (first|(refine ag_x ?_;simp [go_sem, h3, hc, ba_size])|intro _|apply And.intro|(apply Yh;clear Yh Y)));all_goals first|apply Hold.mk|omega|with_reducible assumption|skip))
  refine awp_block ?_
  refine awp_seq_k fun K5 hK5 => ?_
  have tl5 : ∀ S', Cov S' ⟨[(0, dS s), (3, dS (T i)), (4, dI i), (13, dU c), (21, dB (decide (c = 92 ∨ c = 34)))], []⟩ → K5 S' := fun S' hS => by
   refine hK5 _ ?_; clear hK5
   refine awp_cov hS ?_; clear hS
   by_cases h6 : c = 92 ∨ c = 34
   ·have e : quoC c = [92, c] := by unfold quoC; rw [if_pos h6]
    have hd : (decide (c = 92) || decide (c = 34)) = true := by simpa using h6
    rw [e] at tl4
    (refine awp_if fun T F hT hF => ?_; simp [go_sem, hd]; refine hT ?_; clear hT hF T F)
    (refine awp_r fun Y Yh => ?_; simp [go_sem, ba_size, ba_app, hcut, hcut2, hi1]; ((repeat' (first|(refine ag_x ?_;simp [go_sem, ba_size, ba_app, hcut, hcut2, hi1])|intro _|apply And.intro|(apply Yh;clear Yh Y)));all_goals first|apply Hold.mk|omega|with_reducible assumption|skip))
    refine tl4 _ ?_
    (refine cov_of ?_ ?_ <;> simp [go_sem])
   ·have hd : (decide (c = 92) || decide (c = 34)) = false := by
     rw [Bool.eq_false_iff]; intro q; exact h6 (by simpa using q)
    (refine awp_if fun T F hT hF => ?_; simp [go_sem, hd]; refine hF ?_; clear hT hF T F)
    (refine awp_sr fun Y Yh => ?_; simp [go_sem, b3]; ((repeat' (first|(refine ag_x ?_;simp [go_sem, b3])|intro _|apply And.intro|(apply Yh;clear Yh Y)));all_goals first|apply Hold.mk|omega|with_reducible assumption|skip))
    by_cases h7 : c = 10
    ·have e : quoC c = [92, 110] := by unfold quoC; rw [if_neg h6, if_pos h7]
     rw [e] at tl4
     (refine awp_if fun T F hT hF => ?_; simp [go_sem, h7]; refine hT ?_; clear hT hF T F)
     (refine awp_r fun Y Yh => ?_; simp [go_sem, ba_size, ba_app]; ((repeat' (first|(refine ag_x ?_;simp [go_sem, ba_size, ba_app])|intro _|apply And.intro|(apply Yh;clear Yh Y)));all_goals first|apply Hold.mk|omega|with_reducible assumption|skip))
     refine tl4 _ ?_
     (refine cov_of ?_ ?_ <;> simp [go_sem])
    ·have e : quoC c = [c] := by unfold quoC; rw [if_neg h6, if_neg h7]
     rw [e] at tl4
     (refine awp_if fun T F hT hF => ?_; simp [go_sem, h7]; refine hF ?_; clear hT hF T F)
     (refine awp_r fun Y Yh => ?_; simp [go_sem, ba_size, ba_app, hcut, hcut2, hi1]; ((repeat' (first|(refine ag_x ?_;simp [go_sem, ba_size, ba_app, hcut, hcut2, hi1])|intro _|apply And.intro|(apply Yh;clear Yh Y)));all_goals first|apply Hold.mk|omega|with_reducible assumption|skip))
     refine tl4 _ ?_
     (refine cov_of ?_ ?_ <;> simp [go_sem])
  clear hK5
  (refine awp_sr fun Y Yh => ?_; simp [go_sem, b1]; ((repeat' (first|(refine ag_x ?_;simp [go_sem, b1])|intro _|apply And.intro|(apply Yh;clear Yh Y)));all_goals first|apply Hold.mk|omega|with_reducible assumption|skip))
  by_cases h8 : c = 92
  ·(refine awp_if fun T F hT hF => ?_; simp [go_sem, h8]; refine hT ?_; clear hT hF T F)
   refine awp_skip ?_
   refine tl5 _ ?_
   (refine cov_of ?_ ?_ <;> simp [go_sem, h8])
  ·(refine awp_if fun T F hT hF => ?_; simp [go_sem, h8]; refine hF ?_; clear hT hF T F)
   (refine awp_r fun Y Yh => ?_; simp [go_sem, b2]; ((repeat' (first|(refine ag_x ?_;simp [go_sem, b2])|intro _|apply And.intro|(apply Yh;clear Yh Y)));all_goals first|apply Hold.mk|omega|with_reducible assumption|skip))
   refine tl5 _ ?_
   (refine cov_of ?_ ?_ <;> simp [go_sem, h8])
 ·have : i = s.length := by omega
  subst this
  have htl := hTl s.length
  (refine awp_if fun T F hT hF => ?_; simp [go_sem, h3]; refine hF ?_; clear hT hF T F)
  refine awp_exit ?_
  simp only [go_sem]
  refine hK1 _ ?_; clear hK1
  (refine awp_sr fun Y Yh => ?_; simp [go_sem, ba_app, ba_size]; ((repeat' (first|(refine ag_x ?_;simp [go_sem, ba_app, ba_size])|intro _|apply And.intro|(apply Yh;clear Yh Y)));all_goals first|apply Hold.mk|omega|with_reducible assumption|skip))
  (refine awp_ret ?_; simp [go_sem])
theorem tw_nil {p : UInt8 → Bool} {s : Bs} (h : s.dropWhile p = []) : s.takeWhile p = s ∧ s.all p = true := by
 have e := List.takeWhile_append_dropWhile (p := p) (l := s)
 rw [h, List.append_nil] at e
 exact ⟨e, dw_nil.1 h⟩
theorem tw_cons {p : UInt8 → Bool} {s : Bs} (h : s.dropWhile p ≠ []) : s.all p = false := by
 rw [Bool.eq_false_iff]
 intro q
 exact h (dw_nil.2 q)
set_option maxHeartbeats 8000000 in
theorem rnumber_spec (a : Ag) (h : InR a.int) (hl : a.tx.length ≤ 1100000) : PCall Tryz.prog 134 [dA a] fun r => r = .tup [dI (numQ a).1, dB (numQ a).2] := by 
 refine pcall_of Tryz.func134 rfl rfl Tryz.ntmps134 (rs := [.tmp 2, .tmp 3]) (tys := [3, 4]) rfl rfl (by simp) ?_
 cases hi : a.is with
 | false =>
  have e : numQ a = (a.int, true) := by unfold numQ numA; rw [if_pos hi]
  rw [e]
  (refine awp_sr fun Y Yh => ?_; simp [go_sem, hi]; ((repeat' (first|(refine ag_x ?_;simp [go_sem, hi])|intro _|apply And.intro|(apply Yh;clear Yh Y)));all_goals first|apply Hold.mk|omega|with_reducible assumption|skip))
  refine awp_seq_k fun K1 hK1 => ?_
  (refine awp_sr fun Y Yh => ?_; simp [go_sem]; ((repeat' (first|(refine ag_x ?_;simp [go_sem])|intro _|apply And.intro|(apply Yh;clear Yh Y)));all_goals first|apply Hold.mk|omega|with_reducible assumption|skip))
  (refine awp_if fun T F hT hF => ?_; simp [go_sem]; refine hT ?_; clear hT hF T F)
  (refine awp_sr fun Y Yh => ?_; simp [go_sem]; ((repeat' (first|(refine ag_x ?_;simp [go_sem])|intro _|apply And.intro|(apply Yh;clear Yh Y)));all_goals first|apply Hold.mk|omega|with_reducible assumption|skip))
  (refine awp_ret ?_; simp [go_sem])
 | true =>
  have hT := trimPre_spec a.tx [45]
  rw [trimP_tail] at hT
  have hA := fun s hs h1 h2 h3 => atoi_spec a.tx hl _ (atoi_dec (t := a.tx) (s := s) hs h1 h2 h3)
  have hA := hA _ rfl
  have hsl : (if a.tx.head? = some 45 then a.tx.tail else a.tx).length ≤ 1100000 := by
   split
   ·rw [List.length_tail]; omega
   ·exact hl
  have e : numQ a = match (if (if a.tx.head? = some 45 then a.tx.tail else a.tx) = [] ∨ 18 < (if a.tx.head? = some 45 then a.tx.tail else a.tx).length ∨ ((if a.tx.head? = some 45 then a.tx.tail else a.tx).head? = some 48 ∧ 1 < (if a.tx.head? = some 45 then a.tx.tail else a.tx).length) ∨ (if a.tx.head? = some 45 then a.tx.tail else a.tx).all isDig = false then none else some (if a.tx.head? = some 45 then -(decN (if a.tx.head? = some 45 then a.tx.tail else a.tx) : Int) else decN (if a.tx.head? = some 45 then a.tx.tail else a.tx)) : Option Int) with
   | none => (0, false)
   | some n => (n, true) := by unfold numQ numA; rw [if_neg (by simp [hi])]; rfl
  generalize (if a.tx.head? = some 45 then a.tx.tail else a.tx) = s at *
  generalize (if a.tx.head? = some 45 then -(decN s : Int) else decN s) = v at *
  have hTk := take_dig s (by omega)
  have hcase : (s.takeWhile isDig = [] ∨ s.dropWhile isDig ≠ []) ∧ numQ a = (0, false) ∨ (s.takeWhile isDig = s ∧ s.dropWhile isDig = [] ∧ s.all isDig = true ∧ s ≠ []) := by
   by_cases h1 : s.takeWhile isDig = [] ∨ s.dropWhile isDig ≠ []
   ·left
    refine ⟨h1, ?_⟩
    rw [e, if_pos]
    by_cases hs : s = []
    ·exact .inl hs
    ·right; right; right
     rcases h1 with h1 | h1
     ·cases s with
      | nil => exact absurd rfl hs
      | cons c r =>
       rw [List.takeWhile_cons] at h1
       split at h1
       ·cases h1
       ·rename_i hc
        simp [hc]
     ·exact tw_cons h1
   ·rw [not_or, Decidable.not_not] at h1
    obtain ⟨q1, q2⟩ := tw_nil h1.2
    exact .inr ⟨q1, h1.2, q2, fun q => h1.1 (by rw [q1]; exact q)⟩
  (refine awp_sr fun Y Yh => ?_; simp [go_sem, hi]; ((repeat' (first|(refine ag_x ?_;simp [go_sem, hi])|intro _|apply And.intro|(apply Yh;clear Yh Y)));all_goals first|apply Hold.mk|omega|with_reducible assumption|skip))
  refine awp_seq_k fun K1 hK1 => ?_
  (refine awp_sr fun Y Yh => ?_; simp [go_sem]; ((repeat' (first|(refine ag_x ?_;simp [go_sem])|intro _|apply And.intro|(apply Yh;clear Yh Y)));all_goals first|apply Hold.mk|omega|with_reducible assumption|skip))
  (refine awp_if fun T F hT hF => ?_; simp [go_sem]; refine hF ?_; clear hT hF T F)
  refine awp_skip ?_
  refine hK1 _ ?_; clear hK1
  (refine awp_sr fun Y Yh => ?_; simp [go_sem]; ((repeat' (first|(refine ag_x ?_;simp [go_sem])|intro _|apply And.intro|(apply Yh;clear Yh Y)));all_goals first|apply Hold.mk|omega|with_reducible assumption|skip))
  ((try refine CallT.toA ?_); refine callT_m (.inl ⟨rfl,rfl⟩) (by simp [go_sem]) ?_; intro args ha; simp [go_sem] at ha; subst ha; refine ⟨_, hT, ?_⟩; rintro _ rfl; simp [go_sem]; ((repeat' (first|(refine ag_x ?_;simp [go_sem])|intro _|apply And.intro|(apply Yh;clear Yh Y)));all_goals first|apply Hold.mk|omega|with_reducible assumption|skip))
  (refine awp_sr fun Y Yh => ?_; simp [go_sem]; ((repeat' (first|(refine ag_x ?_;simp [go_sem])|intro _|apply And.intro|(apply Yh;clear Yh Y)));all_goals first|apply Hold.mk|omega|with_reducible assumption|skip))
  ((try refine CallT.toA ?_); refine callT_m (.inl ⟨rfl,rfl⟩) (by simp [go_sem]) ?_; intro args ha; simp [go_sem] at ha; subst ha; refine ⟨_, hTk, ?_⟩; rintro _ rfl; simp [go_sem]; ((repeat' (first|(refine ag_x ?_;simp [go_sem])|intro _|apply And.intro|(apply Yh;clear Yh Y)));all_goals first|apply Hold.mk|omega|with_reducible assumption|skip))
  refine awp_seq_k fun K3 hK3 => ?_
  rcases hcase with ⟨h1, e⟩ | ⟨h1, h2, h3, h4⟩
  ·rw [e]
   generalize s.takeWhile isDig = d at *
   generalize s.dropWhile isDig = rest at *
   cases d with
   | nil =>
    (refine awp_sr fun Y Yh => ?_; simp [go_sem]; ((repeat' (first|(refine ag_false ?_ ?_ ?_;(focus (simp [go_sem, undef];done));(focus (simp [go_sem];done));simp [go_sem])|(refine ag_true ?_ ?_;(focus (simp [go_sem, undef];done));simp [go_sem])|(refine ag_x ?_;simp [go_sem, undef])|intro _|apply And.intro|(apply Yh;clear Yh Y)));all_goals first|apply Hold.mk|omega|with_reducible assumption|skip))
    (refine awp_if fun T F hT hF => ?_; simp [go_sem]; refine hT ?_; clear hT hF T F)
    (refine awp_sr fun Y Yh => ?_; simp [go_sem]; ((repeat' (first|(refine ag_x ?_;simp [go_sem])|intro _|apply And.intro|(apply Yh;clear Yh Y)));all_goals first|apply Hold.mk|omega|with_reducible assumption|skip))
    (refine awp_ret ?_; simp [go_sem])
   | cons c0 r0 =>
    cases rest with
    | nil => exact absurd h1 (by simp)
    | cons c1 r1 =>
     (refine awp_sr fun Y Yh => ?_; simp [go_sem]; ((repeat' (first|(refine ag_false ?_ ?_ ?_;(focus (simp [go_sem, undef];done));(focus (simp [go_sem];done));simp [go_sem])|(refine ag_true ?_ ?_;(focus (simp [go_sem, undef];done));simp [go_sem])|(refine ag_x ?_;simp [go_sem, undef])|intro _|apply And.intro|(apply Yh;clear Yh Y)));all_goals first|apply Hold.mk|omega|with_reducible assumption|skip))
     (refine awp_if fun T F hT hF => ?_; simp [go_sem]; refine hT ?_; clear hT hF T F)
     (refine awp_sr fun Y Yh => ?_; simp [go_sem]; ((repeat' (first|(refine ag_x ?_;simp [go_sem])|intro _|apply And.intro|(apply Yh;clear Yh Y)));all_goals first|apply Hold.mk|omega|with_reducible assumption|skip))
     (refine awp_ret ?_; simp [go_sem])
  ·rw [h1, h2]
   cases s with
   | nil => exact absurd rfl h4
   | cons c r =>
    have h48 : decide ((c.toNat : Int) = 48) = decide (c = 48) := u8_eqb c 48 (by decide)
    have h48' : ((c.toNat : Int) = 48) = (c = 48) := propext (by have := u8_eqb c 48 (by decide); rw [decide_eq_decide] at this; exact this)
    rw [List.length_cons] at e hsl hA
    by_cases h18 : 18 < r.length + 1
    ·have h18' : (18 : Int) < (r.length : Int) + 1 := by omega
     rw [e, if_pos (.inr (.inl h18))]
     (refine awp_sr fun Y Yh => ?_; simp [go_sem, ba_size, h18']; ((repeat' (first|(refine ag_false ?_ ?_ ?_;(focus (simp [go_sem, undef, ba_size, h18'];done));(focus (simp [go_sem];done));simp [go_sem, ba_size, h18'])|(refine ag_true ?_ ?_;(focus (simp [go_sem, undef, ba_size, h18'];done));simp [go_sem, ba_size, h18'])|(refine ag_x ?_;simp [go_sem, undef, ba_size, h18'])|intro _|apply And.intro|(apply Yh;clear Yh Y)));all_goals first|apply Hold.mk|omega|with_reducible assumption|skip))
     (refine awp_if fun T F hT hF => ?_; simp [go_sem]; refine hT ?_; clear hT hF T F)
     (refine awp_sr fun Y Yh => ?_; simp [go_sem]; ((repeat' (first|(refine ag_x ?_;simp [go_sem])|intro _|apply And.intro|(apply Yh;clear Yh Y)));all_goals first|apply Hold.mk|omega|with_reducible assumption|skip))
     (refine awp_ret ?_; simp [go_sem])
    ·have h18' : ¬ (18 : Int) < (r.length : Int) + 1 := by omega
     by_cases h0 : c = 48 ∧ 1 < r.length + 1
     ·have h01 : (1 : Int) < (r.length : Int) + 1 := by omega
      rw [e, if_pos (.inr (.inr (.inl ⟨by rw [h0.1]; rfl, h0.2⟩)))]
      (refine awp_sr fun Y Yh => ?_; simp [go_sem, ba_size, h18', h01, h48', h0.1]; ((repeat' (first|(refine ag_false ?_ ?_ ?_;(focus (simp [go_sem, undef, ba_size, h18', h01, h48', h0.1];done));(focus (simp [go_sem];done));simp [go_sem, ba_size, h18', h01, h48', h0.1])|(refine ag_true ?_ ?_;(focus (simp [go_sem, undef, ba_size, h18', h01, h48', h0.1];done));simp [go_sem, ba_size, h18', h01, h48', h0.1])|(refine ag_x ?_;simp [go_sem, undef, ba_size, h18', h01, h48', h0.1])|intro _|apply And.intro|(apply Yh;clear Yh Y)));all_goals first|apply Hold.mk|omega|with_reducible assumption|skip))
      (refine awp_if fun T F hT hF => ?_; simp [go_sem]; refine hT ?_; clear hT hF T F)
      (refine awp_sr fun Y Yh => ?_; simp [go_sem]; ((repeat' (first|(refine ag_x ?_;simp [go_sem])|intro _|apply And.intro|(apply Yh;clear Yh Y)));all_goals first|apply Hold.mk|omega|with_reducible assumption|skip))
      (refine awp_ret ?_; simp [go_sem])
     ·have hAt := hA h3 (by simp) (by omega)
      have ev : numQ a = (v, true) := by
       rw [e, if_neg (by
        rintro (q | q | q | q)
        ·cases q
        ·exact h18 q
        ·rw [List.head?_cons, Option.some.injEq] at q; exact h0 q
        ·rw [h3] at q; cases q)]
      by_cases h01 : 1 < r.length + 1
      ·have h01' : (1 : Int) < (r.length : Int) + 1 := by omega
       have hc : ¬ c = 48 := fun q => h0 ⟨q, h01⟩
       (refine awp_sr fun Y Yh => ?_; simp [go_sem, ba_size, h18', h01', h48', hc]; ((repeat' (first|(refine ag_false ?_ ?_ ?_;(focus (simp [go_sem, undef, ba_size, h18', h01', h48', hc];done));(focus (simp [go_sem];done));simp [go_sem, ba_size, h18', h01', h48', hc])|(refine ag_true ?_ ?_;(focus (simp [go_sem, undef, ba_size, h18', h01', h48', hc];done));simp [go_sem, ba_size, h18', h01', h48', hc])|(refine ag_x ?_;simp [go_sem, undef, ba_size, h18', h01', h48', hc])|intro _|apply And.intro|(apply Yh;clear Yh Y)));all_goals first|apply Hold.mk|omega|with_reducible assumption|skip))
       (refine awp_if fun T F hT hF => ?_; simp [go_sem]; refine hF ?_; clear hT hF T F)
       refine awp_skip ?_
       refine hK3 _ ?_; clear hK3
       (refine awp_sr fun Y Yh => ?_; simp [go_sem]; ((repeat' (first|(refine ag_x ?_;simp [go_sem])|intro _|apply And.intro|(apply Yh;clear Yh Y)));all_goals first|apply Hold.mk|omega|with_reducible assumption|skip))
       ((try refine CallT.toA ?_); refine callT_m (.inl ⟨rfl,rfl⟩) (by simp [go_sem]) ?_; intro args ha; simp [go_sem] at ha; subst ha; refine ⟨_, hAt, ?_⟩; rintro _ rfl; simp [go_sem]; ((repeat' (first|(refine ag_x ?_;simp [go_sem])|intro _|apply And.intro|(apply Yh;clear Yh Y)));all_goals first|apply Hold.mk|omega|with_reducible assumption|skip))
       (refine awp_sr fun Y Yh => ?_; simp [go_sem]; ((repeat' (first|(refine ag_x ?_;simp [go_sem])|intro _|apply And.intro|(apply Yh;clear Yh Y)));all_goals first|apply Hold.mk|omega|with_reducible assumption|skip))
       (refine awp_ret ?_; simp [go_sem, ev])
      ·have h01' : ¬ (1 : Int) < (r.length : Int) + 1 := by omega
       (refine awp_sr fun Y Yh => ?_; simp [go_sem, ba_size, h18', h01']; ((repeat' (first|(refine ag_false ?_ ?_ ?_;(focus (simp [go_sem, undef, ba_size, h18', h01'];done));(focus (simp [go_sem];done));simp [go_sem, ba_size, h18', h01'])|(refine ag_true ?_ ?_;(focus (simp [go_sem, undef, ba_size, h18', h01'];done));simp [go_sem, ba_size, h18', h01'])|(refine ag_x ?_;simp [go_sem, undef, ba_size, h18', h01'])|intro _|apply And.intro|(apply Yh;clear Yh Y)));all_goals first|apply Hold.mk|omega|with_reducible assumption|skip))
       (refine awp_if fun T F hT hF => ?_; simp [go_sem]; refine hF ?_; clear hT hF T F)
       refine awp_skip ?_
       refine hK3 _ ?_; clear hK3
       (refine awp_sr fun Y Yh => ?_; simp [go_sem]; ((repeat' (first|(refine ag_x ?_;simp [go_sem])|intro _|apply And.intro|(apply Yh;clear Yh Y)));all_goals first|apply Hold.mk|omega|with_reducible assumption|skip))
       ((try refine CallT.toA ?_); refine callT_m (.inl ⟨rfl,rfl⟩) (by simp [go_sem]) ?_; intro args ha; simp [go_sem] at ha; subst ha; refine ⟨_, hAt, ?_⟩; rintro _ rfl; simp [go_sem]; ((repeat' (first|(refine ag_x ?_;simp [go_sem])|intro _|apply And.intro|(apply Yh;clear Yh Y)));all_goals first|apply Hold.mk|omega|with_reducible assumption|skip))
       (refine awp_sr fun Y Yh => ?_; simp [go_sem]; ((repeat' (first|(refine ag_x ?_;simp [go_sem])|intro _|apply And.intro|(apply Yh;clear Yh Y)));all_goals first|apply Hold.mk|omega|with_reducible assumption|skip))
       (refine awp_ret ?_; simp [go_sem, ev])
end Go.Proofs.YtelhdhofnohkcaaGreatDoor
