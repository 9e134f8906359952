/- Part of a proof: see the last text. -/
import Derived.Test.YteekfnhhlcmcgaaGreatDoorGB
set_option linter.unusedVariables false
set_option linter.unusedSimpArgs false
namespace Go.Proofs.YteekfnhhlcmcgaaGreatDoor
open Go.Eng Go.Wh Go.Ver Go.RowKit Go.Lk
set_option maxRecDepth 20000
attribute [local irreducible] AG CallA CallT AWp PCall ACall AgC
theorem tryL_cons (rec : List Prs → Nat → (List Prs × Nat) × Nat) (bud : Nat) (gem : Bs) (l : List Prs) (v : Vrs) (r : List Vrs) (t : Nat) : tryL rec bud gem l (v :: r) t = if bud < t + 1 then (([], 12), t + 1)
  else if (rec (l ++ [(gem, v.1)]) (t + 1)).1.2 ≠ 3 then rec (l ++ [(gem, v.1)]) (t + 1)
  else tryL rec bud gem l r (rec (l ++ [(gem, v.1)]) (t + 1)).2 := rfl
set_option maxHeartbeats 16000000 in
theorem rest_spec (s : Src) (w : List Prs) (bud : Nat) (hsu : suV s = true) (hw : SzN w) (hb : bud ≤ 100000) : ∀ (f : Nat) (l : List Prs) (t g : Nat), muV s l < f → l.length + f ≤ 1000 → NumOk l → (∀ x ∈ l, Sz1 x) → t ≤ bud →
  ACall Tryz.prog 133 [.ptr 900002 g 0, dPs l] [(900002, (g, .box [dGms s, dPs w, dI t, dI bud]))] [900002]
   fun ps r => ps = [(g, .box [dGms s, dPs w, dI (restV s w bud f l t).2, dI bud])] ∧ r = .tup [dPs (restV s w bud f l t).1.1, dI (restV s w bud f l t).1.2]
 | 0, l, t, g, h, _, _, _, _ => absurd h (by omega)
 | f + 1, l, t, g, hmu, hlf, hno, hlz, ht => by
  have hs := suV_sz hsu
  obtain ⟨h15, hsg⟩ := suV_parts hsu
  have h12 : ∀ g ∈ s, g.2.length ≤ 12 := fun g hg => (vuV_parts (hsg g hg).2).1
  have IH := fun l t g => rest_spec s w bud hsu hw hb f l t g
  have TL := fun l t => restV_tlk s w bud f l t
  refine acall_of Tryz.func133 rfl rfl Tryz.ntmps133 (rs := [.tmp 4, .tmp 5]) (tys := [58, 35]) rfl rfl (by simp) ?_ ?_
  ·intro q hq
   simp only [List.mem_cons, List.not_mem_nil, or_false] at hq
   subst hq
   simp [notFroz]
  have AN := all_spec s w l hs hw (by omega)
  have CA := fun gem => candidates_spec s w l gem hs h15 h12 hw (by omega) hlz
  have ham := allN_mem (l := l) hs hw.2
  have hCM := fun gem x => @candV_mem s w l gem x
  have hRE : restV s w bud (f + 1) l t = (match (allN s w l).find? (freeN l) with
   | none => ((l, 0), t)
   | some n => tryL (restV s w bud f) bud n.1 l (candV s w l n.1) t) := rfl
  have hal := allN_len (w := w) hs l
  have hw0 := hw.1
  have hal2 : (allN s w l).length ≤ 1001000000 := by
   have e : l.length * 1000000 ≤ 1000 * 1000000 := Nat.mul_le_mul_right _ (by omega)
   omega
  generalize restV s w bud (f + 1) l t = R0 at *
  generalize restV s w bud f = rec at *
  generalize candV s w l = cand at *
  generalize allN s w l = all at *
  have hst := fun i n => @free_step all l i n
  have hz : all.find? (freeN l) = (all.drop 0).find? (freeN l) := rfl
  have he : (all.drop all.length).find? (freeN l) = none := by rw [List.drop_length]; rfl
  obtain ⟨F, hF⟩ : ∃ F : Nat → Option Prs, ∀ i, (all.drop i).find? (freeN l) = F i := ⟨_, fun _ => rfl⟩
  simp only [hF] at hst hz he
  clear hF
  rw [hz] at hRE
  (refine awp_sr fun Y Yh => ?_; simp [go_sem]; ((repeat' (first|(refine ag_x ?_;simp [go_sem])|intro _|apply And.intro|(apply Yh;clear Yh Y)));all_goals first|apply Hold.mk|omega|assumption|skip))
  ((refine awp_dr (.qs [0, 1, 2, 4, 5, 6, 8, 3, 7] (.one 9 (.qs [10] (.nil)))) (by kernel_rfl) ?_ ?_ ?_ ?_); (kernel_rfl); (exact (by decide +kernel)); (kernel_rfl); intro Y Yh; ((repeat' (first|(refine ag_x ?_;simp [go_sem])|refine adr_nil ?_|((first|refine adr_qs fun Y Yh=>?_|refine adr_y fun Y Yh=>?_);simp [go_sem])|intro _|apply And.intro|(apply Yh;clear Yh Y)));all_goals first|apply Hold.mk|omega|assumption|skip))
  ((try refine CallT.toA ?_); refine callT_m (.inl ⟨rfl,rfl⟩) (by simp [go_sem]) ?_; intro args ha; simp [go_sem] at ha; subst ha; refine ⟨_, AN, ?_⟩; rintro _ rfl; simp [go_sem]; ((repeat' (first|(refine ag_x ?_;simp [go_sem])|refine adr_nil ?_|((first|refine adr_qs fun Y Yh=>?_|refine adr_y fun Y Yh=>?_);simp [go_sem])|intro _|apply And.intro|(apply Yh;clear Yh Y)));all_goals first|apply Hold.mk|omega|assumption|skip))
  refine awp_seq_k fun K1 hK1 => ?_
  (refine awp_sr fun Y Yh => ?_; simp [go_sem]; ((repeat' (first|(refine ag_x ?_;simp [go_sem])|intro _|apply And.intro|(apply Yh;clear Yh Y)));all_goals first|apply Hold.mk|omega|assumption|skip))
  refine awp_block ?_
  refine awp_loop (σ := Nat) (fun i => ⟨[(0, .ptr 900002 g 0), (1, dPs l), (6, dPs all), (7, dI i)], [(900002, (g, .box [dGms s, dPs w, dI t, dI bud]))]⟩) (fun i => i ≤ all.length ∧ F 0 = F i) (fun i => all.length - i) 0 ?_ ?_ ?_
  ·(refine cov_of ?_ ?_ <;> simp [go_sem])
  ·exact ⟨by omega, rfl⟩
  rintro i ⟨hi, hfi⟩
  refine awp_seq_k fun K2 hK2 => ?_
  (refine awp_sr fun Y Yh => ?_; simp [go_sem]; ((repeat' (first|(refine ag_x ?_;simp [go_sem])|intro _|apply And.intro|(apply Yh;clear Yh Y)));all_goals first|apply Hold.mk|omega|assumption|skip))
  (refine awp_if fun T F hT hF => ?_; simp [go_sem]; refine BR.intro (fun h3 => hT ?_) (fun h3 => hF ?_); all_goals clear hT hF T F; try simp at h3) 
  ·refine awp_skip ?_
   refine hK2 _ ?_; clear hK2
   obtain ⟨n, hn⟩ : ∃ n, all[i]? = some n := ⟨_, List.getElem?_eq_getElem (by omega)⟩
   have hst1 := hst i n hn
   have hnz := ham n (List.mem_of_getElem? hn)
   have PK := picked_spec l n.1 (by omega)
   have CA1 := CA n.1
   have hCM1 := hCM n.1
   refine awp_seq_k fun K4 hK4 => ?_
   refine awp_block ?_
   refine awp_seq_k fun K5 hK5 => ?_
   (refine awp_sr fun Y Yh => ?_; simp [go_sem, hn]; ((repeat' (first|(refine ag_x ?_;simp [go_sem, hn])|intro _|apply And.intro|(apply Yh;clear Yh Y)));all_goals first|apply Hold.mk|omega|assumption|skip))
   ((try refine CallT.toA ?_); refine callT_m (.inl ⟨rfl,rfl⟩) (by simp [go_sem]) ?_; intro args ha; simp [go_sem] at ha; subst ha; refine ⟨_, PK, ?_⟩; rintro _ rfl; simp [go_sem]; ((repeat' (first|(refine ag_x ?_;simp [go_sem])|intro _|apply And.intro|(apply Yh;clear Yh Y)));all_goals first|apply Hold.mk|omega|assumption|skip))
   by_cases hpk : pkdV l n.1 = []
   ·rw [if_pos hpk] at hst1
    rw [hfi.trans hst1] at hRE
    simp only at hRE
    have hmp := fun hg => @mu_pos s l n.1 hg hpk
    have hml := fun v hv hg => @mu_lt s l n.1 v hno hv hg hpk
    (refine awp_if fun T F hT hF => ?_; simp [go_sem, hpk]; refine hF ?_; clear hT hF T F)
    refine awp_skip ?_
    refine hK5 _ ?_; clear hK5
    generalize cand n.1 = c at *
    ((refine awp_dr (.qs [0, 1, 2, 4, 5, 6, 8, 9, 10, 11, 12, 3, 7, 13] (.one 14 (.qs [15] (.nil)))) (by kernel_rfl) ?_ ?_ ?_ ?_); (kernel_rfl); (exact (by decide +kernel)); (kernel_rfl); intro Y Yh; ((repeat' (first|(refine ag_x ?_;simp [go_sem, hn])|refine adr_nil ?_|((first|refine adr_qs fun Y Yh=>?_|refine adr_y fun Y Yh=>?_);simp [go_sem, hn])|intro _|apply And.intro|(apply Yh;clear Yh Y)));all_goals first|apply Hold.mk|omega|assumption|skip))
    ((try refine CallT.toA ?_); refine callT_m (.inl ⟨rfl,rfl⟩) (by simp [go_sem]) ?_; intro args ha; simp [go_sem] at ha; subst ha; refine ⟨_, CA1, ?_⟩; rintro _ rfl; simp [go_sem]; ((repeat' (first|(refine ag_x ?_;simp [go_sem])|refine adr_nil ?_|((first|refine adr_qs fun Y Yh=>?_|refine adr_y fun Y Yh=>?_);simp [go_sem])|intro _|apply And.intro|(apply Yh;clear Yh Y)));all_goals first|apply Hold.mk|omega|assumption|skip))
    refine awp_len 8 rfl fun hc => ?_
    have hc := hc c.length (by simp [lensD])
    refine awp_seq_k fun K7 hK7 => ?_
    (refine awp_sr fun Y Yh => ?_; simp [go_sem]; ((repeat' (first|(refine ag_x ?_;simp [go_sem])|intro _|apply And.intro|(apply Yh;clear Yh Y)));all_goals first|apply Hold.mk|omega|assumption|skip))
    refine awp_block ?_
    refine awp_loop (σ := Nat × Nat) (fun x => ⟨[(0, .ptr 900002 g 0), (1, dPs l), (6, dPs all), (7, dI i), (8, dVrs c), (9, dI x.1)], [(900002, (g, .box [dGms s, dPs w, dI x.2, dI bud]))]⟩) (fun x => x.1 ≤ c.length ∧ x.2 ≤ bud ∧ R0 = tryL rec bud n.1 l (c.drop x.1) x.2) (fun x => c.length - x.1) (0, t) ?_ ?_ ?_
    ·(refine cov_of ?_ ?_ <;> simp [go_sem])
    ·exact ⟨by simp, ht, hRE⟩
    rintro ⟨k, t⟩ ⟨hk, ht, hR⟩
    simp only at hk ht hR
    refine awp_seq_k fun K8 hK8 => ?_
    (refine awp_sr fun Y Yh => ?_; simp [go_sem]; ((repeat' (first|(refine ag_x ?_;simp [go_sem])|intro _|apply And.intro|(apply Yh;clear Yh Y)));all_goals first|apply Hold.mk|omega|assumption|skip))
    (refine awp_if fun T F hT hF => ?_; simp [go_sem]; refine BR.intro (fun h9 => hT ?_) (fun h9 => hF ?_); all_goals clear hT hF T F; try simp at h9) 
    ·refine awp_skip ?_
     refine hK8 _ ?_; clear hK8
     obtain ⟨v, hv⟩ : ∃ v, c[k]? = some v := ⟨_, List.getElem?_eq_getElem (by omega)⟩
     obtain ⟨gg, hgs, hgn, hvg⟩ := hCM1 v (List.mem_of_getElem? hv)
     have hvv := (vuV_parts (hsg gg hgs).2).2 v hvg
     have hvn := readV_ne hvv.1
     have hvl := readV_len hvv.1
     have hmu1 := hml v.1 hvn ⟨gg, hgs, hgn⟩
     rw [drop_cons hv, tryL_cons] at hR
     refine awp_seq_k fun K10 hK10 => ?_
     refine awp_block ?_
     (refine awp_sr fun Y Yh => ?_; simp [go_sem]; ((repeat' (first|(refine ag_x ?_;simp [go_sem])|intro _|apply And.intro|(apply Yh;clear Yh Y)));all_goals first|apply Hold.mk|omega|assumption|skip))
     refine awp_seq_k fun K11 hK11 => ?_
     ((refine awp_dr (.qs [0, 1, 2, 4, 5, 6, 3, 7, 8] (.nil)) (by kernel_rfl) ?_ ?_ ?_ ?_); (kernel_rfl); (exact (by decide +kernel)); (kernel_rfl); intro Y Yh; ((repeat' (first|(refine ag_x ?_;simp [go_sem])|refine adr_nil ?_|((first|refine adr_qs fun Y Yh=>?_|refine adr_y fun Y Yh=>?_);simp [go_sem])|intro _|apply And.intro|(apply Yh;clear Yh Y)));all_goals first|apply Hold.mk|omega|assumption|skip))
     (refine awp_if fun T F hT hF => ?_; simp [go_sem]; refine BR.intro (fun h12 => hT ?_) (fun h12 => hF ?_); all_goals clear hT hF T F; try simp at h12) 
     ·rw [if_pos (by omega)] at hR
      (refine awp_sr fun Y Yh => ?_; simp [go_sem]; ((repeat' (first|(refine ag_x ?_;simp [go_sem])|intro _|apply And.intro|(apply Yh;clear Yh Y)));all_goals first|apply Hold.mk|omega|assumption|skip))
      (refine awp_ret ?_; simp [go_sem, hR])
     ·rw [if_neg (by omega)] at hR
      refine awp_skip ?_
      refine hK11 _ ?_; clear hK11
      have IH1 := IH (l ++ [(n.1, v.1)]) (t + 1) g (by omega) (by simp; omega) (fun x hx => by
       rcases List.mem_append.1 hx with h | h
       ·exact hno x h
       ·simp at h; subst h; exact hvn) (fun x hx => by
       rcases List.mem_append.1 hx with h | h
       ·exact hlz x h
       ·simp at h; subst h; exact ⟨hnz.1, by show v.1.length ≤ 1000000; omega⟩) (by omega)
      rw [show ((t + 1 : Nat) : Int) = (t : Int) + 1 by omega] at IH1
      have T1 := TL (l ++ [(n.1, v.1)]) (t + 1) (by omega)
      generalize rec (l ++ [(n.1, v.1)]) (t + 1) = q at *
      obtain ⟨⟨out, e⟩, t'⟩ := q
      simp only [Tlk] at T1 hR
      rw [show dPs (l ++ [(n.1, v.1)]) = D.sl 2 (l.map cP ++ [[dS n.1, dS v.1]]) by simp [go_sem]] at IH1
      refine awp_seq_j (α := Unit) (fun _ => ⟨[(0, .ptr 900002 g 0), (1, dPs l), (6, dPs all), (7, dI i), (8, dVrs c), (9, dI k), (10, dPs out), (11, dI e)], [(900002, (g, .box [dGms s, dPs w, dI t', dI bud]))]⟩) (fun K15 hK15 hM15 => ?_) (fun _ => ?_)
      ·((refine awp_d (.qs [0, 2, 4, 5, 6, 7, 9, 10, 11, 12, 8, 13, 14] (.kp2 1 (.kp2 3 (.kp 15 (.one 16 (.one 17 (.qs [18, 19, 20, 21, 22] (.nil))))) 15 (.kp 3 (.one 16 (.one 17 (.qs [18, 19, 20, 21, 22] (.nil)))))) 15 (.kp 1 (.kp 3 (.one 16 (.one 17 (.qs [18, 19, 20, 21, 22] (.nil)))))))) (by kernel_rfl) ?_ ?_ ?_ ?_); (kernel_rfl); (exact (by decide +kernel)); (kernel_rfl); intro Y Yh; ((repeat' (first|(refine ag_x ?_;simp [go_sem, hn, hv])|refine adr_nil ?_|refine adr_kp2 ?_ ?_|((first|refine adr_qs fun Y Yh=>?_|refine adr_y fun Y Yh=>?_);simp [go_sem, hn, hv])|intro _|apply And.intro|(apply Yh;clear Yh Y)));all_goals first|apply Hold.mk|omega|assumption|skip))
       all_goals
        refine callA_frz 76 rfl ?_
        (refine callA_l [900002] (.inl ⟨rfl,rfl⟩) (by simp [go_sem]) ?_; intro args ha; simp [go_sem] at ha; subst ha; refine ⟨_, _, IH1, (by simp [go_sem]), ?_⟩; rintro ps r hps ⟨rfl, rfl⟩; simp [go_sem]; ((repeat' (first|(refine ag_x ?_;simp [go_sem])|refine adr_nil ?_|refine adr_kp2 ?_ ?_|((first|refine adr_qs fun Y Yh=>?_|refine adr_y fun Y Yh=>?_);simp [go_sem])|intro _|apply And.intro|(apply Yh;clear Yh Y)));all_goals first|apply Hold.mk|omega|assumption|skip))
        refine hK15 _ ?_
        refine hM15 () _ ?_
        (refine cov_of ?_ ?_ <;> simp [go_sem])
      ·by_cases he3 : e = 3
       ·rw [if_neg (by simp [he3])] at hR
        have he3i : (e : Int) = 3 := by omega
        (refine awp_sr fun Y Yh => ?_; simp [go_sem, he3]; ((repeat' (first|(refine ag_x ?_;simp [go_sem, he3])|intro _|apply And.intro|(apply Yh;clear Yh Y)));all_goals first|apply Hold.mk|omega|assumption|skip))
        (refine awp_if fun T F hT hF => ?_; simp [go_sem, he3]; refine hF ?_; clear hT hF T F)
        refine awp_skip ?_
        refine hK10 _ ?_; clear hK10
        (refine awp_r fun Y Yh => ?_; simp [go_sem]; ((repeat' (first|(refine ag_x ?_;simp [go_sem])|intro _|apply And.intro|(apply Yh;clear Yh Y)));all_goals first|apply Hold.mk|omega|assumption|skip))
        refine ⟨(k + 1, t'), ?_, ⟨by simp only; omega, by simp only; omega, hR⟩, by simp only; omega⟩
        (refine cov_of ?_ ?_ <;> simp [go_sem])
       ·rw [if_pos he3] at hR
        have he3i : ¬ (e : Int) = 3 := by omega
        (refine awp_sr fun Y Yh => ?_; simp [go_sem, he3, he3i]; ((repeat' (first|(refine ag_x ?_;simp [go_sem, he3, he3i])|intro _|apply And.intro|(apply Yh;clear Yh Y)));all_goals first|apply Hold.mk|omega|assumption|skip))
        (refine awp_if fun T F hT hF => ?_; simp [go_sem, he3, he3i]; refine hT ?_; clear hT hF T F)
        (refine awp_sr fun Y Yh => ?_; simp [go_sem]; ((repeat' (first|(refine ag_x ?_;simp [go_sem])|intro _|apply And.intro|(apply Yh;clear Yh Y)));all_goals first|apply Hold.mk|omega|assumption|skip))
        (refine awp_ret ?_; simp [go_sem, hR])
    ·refine awp_exit ?_
     simp only [go_sem]
     refine hK7 _ ?_; clear hK7
     have : k = c.length := by omega
     subst this
     rw [List.drop_length] at hR
     have hR' : R0 = (([], 3), t) := hR
     (refine awp_sr fun Y Yh => ?_; simp [go_sem]; ((repeat' (first|(refine ag_x ?_;simp [go_sem])|intro _|apply And.intro|(apply Yh;clear Yh Y)));all_goals first|apply Hold.mk|omega|assumption|skip))
     (refine awp_ret ?_; simp [go_sem, hR'])
   ·rw [if_neg hpk] at hst1
    have hpb : (pkdV l n.1).isEmpty = false := by cases hq : pkdV l n.1 with
     | nil => exact absurd hq hpk
     | cons => rfl
    (refine awp_if fun T F hT hF => ?_; simp [go_sem, hpk, hpb]; refine hT ?_; clear hT hF T F)
    refine awp_exit ?_
    simp only [go_sem]
    refine hK4 _ ?_; clear hK4
    (refine awp_r fun Y Yh => ?_; simp [go_sem]; ((repeat' (first|(refine ag_x ?_;simp [go_sem])|intro _|apply And.intro|(apply Yh;clear Yh Y)));all_goals first|apply Hold.mk|omega|assumption|skip))
    refine ⟨i + 1, ?_, ⟨by omega, hfi.trans hst1⟩, by omega⟩
    (refine cov_of ?_ ?_ <;> simp [go_sem])
  ·refine awp_exit ?_
   simp only [go_sem]
   refine hK1 _ ?_; clear hK1
   have : i = all.length := by omega
   subst this
   rw [hfi.trans he] at hRE
   simp only at hRE
   (refine awp_sr fun Y Yh => ?_; simp [go_sem]; ((repeat' (first|(refine ag_x ?_;simp [go_sem])|intro _|apply And.intro|(apply Yh;clear Yh Y)));all_goals first|apply Hold.mk|omega|assumption|skip))
   (refine awp_ret ?_; simp [go_sem, hRE])
end Go.Proofs.YteekfnhhlcmcgaaGreatDoor
set_option maxRecDepth 20000
namespace Go.Lk
open Go.Lib Go.Wh Go.Ver
/-! picks and needs in the order of their gems -/
def posP (x : Prs) (out : List Prs) : Nat → Nat
 | 0 => 0
 | n + 1 => match out[n]? with
  | some y => if Op.bytesLess x.1 y.1 = true then posP x out n else n + 1
  | none => n + 1
theorem posP_le (x : Prs) (out : List Prs) : ∀ n, posP x out n ≤ n
 | 0 => Nat.le_refl _
 | n + 1 => by
  have := posP_le x out n
  unfold posP
  split
  ·split <;> omega
  ·omega
theorem posP_step {x y : Prs} {out : List Prs} {n : Nat} (h : out[n]? = some y) : posP x out (n + 1) = if Op.bytesLess x.1 y.1 = true then posP x out n else n + 1 := by
 rw [posP, h]
def insP (x : Prs) (out : List Prs) : List Prs := out.take (posP x out out.length) ++ x :: out.drop (posP x out out.length)
def srtP (l : List Prs) : List Prs := l.foldl (fun o x => insP x o) []
theorem insP_len (x : Prs) (out : List Prs) : (insP x out).length = out.length + 1 := by
 have := posP_le x out out.length
 unfold insP
 simp; omega
theorem insP_mem {x y : Prs} {out : List Prs} : y ∈ insP x out ↔ y = x ∨ y ∈ out := by
 unfold insP
 generalize posP x out out.length = a
 conv => rhs; rw [← List.take_append_drop a out]
 simp only [List.mem_append, List.mem_cons]
 constructor
 ·rintro (h | h | h) <;> simp [h]
 ·rintro (h | h | h) <;> simp [h]
theorem srt_step {l : List Prs} {i : Nat} {x : Prs} (h : l[i]? = some x) : srtP (l.take (i + 1)) = insP x (srtP (l.take i)) := by
 unfold srtP; exact foldl_take _ _ h
theorem srtP_len' : ∀ (l o : List Prs), (l.foldl (fun o x => insP x o) o).length = o.length + l.length
 | [], o => by simp
 | x :: l, o => by
  rw [List.foldl_cons, srtP_len' l, insP_len]; simp; omega
theorem srtP_len (l : List Prs) : (srtP l).length = l.length := by
 unfold srtP; rw [srtP_len']; simp
theorem srtP_mem' {y : Prs} : ∀ (l o : List Prs), y ∈ l.foldl (fun o x => insP x o) o ↔ y ∈ l ∨ y ∈ o
 | [], o => by simp
 | x :: l, o => by
  rw [List.foldl_cons, srtP_mem' l, insP_mem]
  simp only [List.mem_cons]
  constructor
  ·rintro (h | h | h) <;> simp [h]
  ·rintro ((h | h) | h) <;> simp [h]
theorem srtP_mem {y : Prs} {l : List Prs} : y ∈ srtP l ↔ y ∈ l := by
 unfold srtP; rw [srtP_mem']; simp
def solV (s : Src) (w : List Prs) (b : Int) : List Prs × Nat × Nat :=
 if chkV s w = true ∧ 1 ≤ b ∧ b ≤ 100000 then
  let q := restV s w b.toNat (s.length + 1) [] 0
  (srtP q.1.1, q.2, q.1.2)
 else ([], 0, 1)
def ownV (s : Src) (p : Prs) : List Prs := srtP (fndP s p).2
def ofV (s : Src) (w : List Prs) (b : Int) : Lck × Nat :=
 if (solV s w b).2.2 = 0 then (((solV s w b).1, (solV s w b).1.map (ownV s), srtP w), 0) else (lk0, (solV s w b).2.2)
/-! what a solution is made of -/
def PickOk (s : Src) (l : List Prs) : Prop := (∀ x ∈ l, ∃ g ∈ s, g.1 = x.1 ∧ ∃ v ∈ g.2, v.1 = x.2) ∧ (l.map (·.1)).Nodup
theorem pkd_notin {l : List Prs} (h : NumOk l) {n : Bs} (hp : pkdV l n = []) : n ∉ l.map (·.1) := fun hm => by
 obtain ⟨x, hx, rfl⟩ := List.mem_map.1 hm
 have := (pkd_none h).1 hp
 have := List.find?_eq_none.1 this x hx
 simp at this
theorem pickOk_num {s : Src} {l : List Prs} (hs : suV s = true) (h : PickOk s l) : NumOk l := fun x hx => by
 obtain ⟨g, hg, _, v, hv, e⟩ := h.1 x hx
 have := (vuV_parts ((suV_parts hs).2 g hg).2).2 v hv
 rw [← e]
 exact readV_ne this.1
theorem pickOk_snoc {s : Src} {l : List Prs} {gem : Bs} {v : Vrs} (hs : suV s = true) (h : PickOk s l) (hp : pkdV l gem = []) (hv : ∃ g ∈ s, g.1 = gem ∧ v ∈ g.2) : PickOk s (l ++ [(gem, v.1)]) := by
 refine ⟨fun x hx => ?_, ?_⟩
 ·rcases List.mem_append.1 hx with h1 | h1
  ·exact h.1 x h1
  ·simp at h1; subst h1
   obtain ⟨g, a, b, c⟩ := hv
   exact ⟨g, a, b, v, c, rfl⟩
 ·have := pkd_notin (pickOk_num hs h) hp
  rw [List.map_append, List.nodup_append]
  refine ⟨h.2, by simp, ?_⟩
  intro a ha b hb
  simp at hb
  subst hb
  exact fun e => this (e ▸ ha)
theorem tryL_pick {s : Src} {bud : Nat} {gem : Bs} {l : List Prs} {rec : List Prs → Nat → (List Prs × Nat) × Nat} (hs : suV s = true) (hrec : ∀ l t, PickOk s l → PickOk s (rec l t).1.1) (h : PickOk s l) (hp : pkdV l gem = []) :
  ∀ (c : List Vrs) (t : Nat), (∀ v ∈ c, ∃ g ∈ s, g.1 = gem ∧ v ∈ g.2) → PickOk s (tryL rec bud gem l c t).1.1
 | [], t, _ => ⟨by simp [tryL], by simp [tryL]⟩
 | v :: r, t, hc => by
  have hv := pickOk_snoc hs h hp (hc v (by simp))
  unfold tryL
  split
  ·exact ⟨by simp, by simp⟩
  ·split
   ·exact hrec _ _ hv
   ·exact tryL_pick hs hrec h hp r _ fun v hv => hc v (by simp [hv])
theorem restV_pick {s : Src} {w : List Prs} {bud : Nat} (hs : suV s = true) : ∀ f l t, PickOk s l → PickOk s (restV s w bud f l t).1.1
 | 0, l, t, _ => ⟨by simp [restV], by simp [restV]⟩
 | f + 1, l, t, h => by
  unfold restV
  split
  ·exact h
  ·rename_i n hn
   have hp := List.find?_some hn
   unfold freeN at hp
   exact tryL_pick hs (restV_pick hs f) h (by simpa using hp) _ _ fun v hv => candV_mem hv
theorem tryL_len {bud : Nat} {gem : Bs} {l : List Prs} {rec : List Prs → Nat → (List Prs × Nat) × Nat} {m : Nat} (h : ∀ v t, (rec (l ++ [(gem, v)]) t).1.1.length ≤ m) : ∀ (c : List Vrs) (t : Nat), (tryL rec bud gem l c t).1.1.length ≤ m
 | [], t => by simp [tryL]
 | v :: r, t => by
  unfold tryL
  split
  ·simp
  ·split
   ·exact h _ _
   ·exact tryL_len h r _
theorem restV_len (s : Src) (w : List Prs) (bud : Nat) : ∀ f l t, (restV s w bud f l t).1.1.length ≤ l.length + f
 | 0, l, t => by simp [restV]
 | f + 1, l, t => by
  unfold restV
  split
  ·simp
  ·rename_i n hn
   refine tryL_len (fun v t => ?_) _ _
   have := restV_len s w bud f (l ++ [(n.1, v)]) t
   refine Nat.le_trans this ?_
   simp; omega
theorem solV_len {s : Src} {w : List Prs} {b : Int} : (solV s w b).1.length ≤ 16 := by
 unfold solV
 split
 ·rename_i h
  have h1 := h.1
  unfold chkV at h1
  rw [Bool.and_eq_true] at h1
  have := (suV_parts h1.1).1
  have := restV_len s w b.toNat (s.length + 1) [] 0
  simp only [srtP_len]
  simp at this
  omega
 ·simp
theorem solV_pick {s : Src} {w : List Prs} {b : Int} (hs : suV s = true) : (∀ x ∈ (solV s w b).1, ∃ g ∈ s, g.1 = x.1 ∧ ∃ v ∈ g.2, v.1 = x.2) := fun x hx => by
 unfold solV at hx
 split at hx
 ·simp only at hx
  rw [srtP_mem] at hx
  exact (restV_pick hs _ [] 0 ⟨by simp, by simp⟩).1 x hx
 ·simp at hx
theorem solV_chk {s : Src} {w : List Prs} {b : Int} (h : (solV s w b).2.2 = 0) : chkV s w = true ∧ 1 ≤ b ∧ b ≤ 100000 := by
 unfold solV at h
 split at h
 ·rename_i q; exact q
 ·simp at h
end Go.Lk
namespace Go.Proofs.YteekfnhhlcmcgaaGreatDoor
open Go.Eng Go.Wh Go.Ver Go.RowKit Go.Lk
set_option maxRecDepth 20000
attribute [local irreducible] AG CallA CallT AWp PCall ACall AgC
set_option maxHeartbeats 16000000 in
theorem sorted_spec (l : List Prs) (hl : l.length ≤ 1000000) : PCall Tryz.prog 134 [dPs l] fun r => r = dPs (srtP l) := by 
 refine pcall_of Tryz.func134 rfl rfl Tryz.ntmps134 (rs := [.tmp 2]) (tys := [58]) rfl rfl (by simp) ?_
 have hst := fun i x => @srt_step l i x
 have hln := fun i => srtP_len (l.take i)
 have hfl : srtP (l.take l.length) = srtP l := by rw [List.take_length]
 have hz : srtP (l.take 0) = [] := rfl
 obtain ⟨r0, hr0⟩ : ∃ r, srtP l = r := ⟨_, rfl⟩
 rw [hr0] at hfl ⊢
 obtain ⟨F, hF⟩ : ∃ F : Nat → List Prs, ∀ i, srtP (l.take i) = F i := ⟨_, fun _ => rfl⟩
 simp only [hF] at hst hln hfl hz
 clear hF
 (refine awp_sr fun Y Yh => ?_; simp [go_sem]; ((repeat' (first|(refine ag_x ?_;simp [go_sem])|intro _|apply And.intro|(apply Yh;clear Yh Y)));all_goals first|apply Hold.mk|omega|assumption|skip))
 (refine awp_sr fun Y Yh => ?_; simp [go_sem]; ((repeat' (first|(refine ag_x ?_;simp [go_sem])|intro _|apply And.intro|(apply Yh;clear Yh Y)));all_goals first|apply Hold.mk|omega|assumption|skip))
 refine awp_nilslot 3 3 95 2 rfl fun g3 => ?_
 simp only [go_sem]
 refine awp_seq_k fun K1 hK1 => ?_
 (refine awp_sr fun Y Yh => ?_; simp [go_sem]; ((repeat' (first|(refine ag_x ?_;simp [go_sem])|intro _|apply And.intro|(apply Yh;clear Yh Y)));all_goals first|apply Hold.mk|omega|assumption|skip))
 refine awp_block ?_
 refine awp_loop (σ := Nat × Nat) (fun x => ⟨[(0, dPs l), (3, .own 3 x.2), (4, dI x.1)], [(3, x.2, .row 95 2 ((F x.1).map cP))]⟩) (fun x => x.1 ≤ l.length) (fun x => l.length - x.1) (0, g3) ?_ ?_ ?_
 ·(refine cov_of ?_ ?_ <;> simp [go_sem, hz])
 ·simp
 rintro ⟨i, g⟩ hi
 simp only at hi
 refine awp_seq_k fun K2 hK2 => ?_
 (refine awp_sr fun Y Yh => ?_; simp [go_sem]; ((repeat' (first|(refine ag_x ?_;simp [go_sem])|intro _|apply And.intro|(apply Yh;clear Yh Y)));all_goals first|apply Hold.mk|omega|assumption|skip))
 (refine awp_if fun T F hT hF => ?_; simp [go_sem]; refine BR.intro (fun h3 => hT ?_) (fun h3 => hF ?_); all_goals clear hT hF T F; try simp at h3)
 ·refine awp_skip ?_
  refine hK2 _ ?_; clear hK2
  obtain ⟨x, hx⟩ : ∃ x, l[i]? = some x := ⟨_, List.getElem?_eq_getElem (by omega)⟩
  have hst1 := hst i x hx
  have hln1 := hln i
  rw [List.length_take] at hln1
  have hps := fun n y => @posP_step x y (F i) n
  have hpl := posP_le x (F i)
  have hins : insP x (F i) = (F i).take (posP x (F i) (F i).length) ++ x :: (F i).drop (posP x (F i) (F i).length) := rfl
  generalize insP x (F i) = ins at *
  generalize F i = out at *
  have hp0 : posP x out 0 = 0 := rfl
  generalize posP x out = pos at *
  refine awp_seq_k fun K4 hK4 => ?_
  refine awp_block ?_
  (refine awp_sr fun Y Yh => ?_; simp [go_sem]; ((repeat' (first|(refine ag_x ?_;simp [go_sem])|intro _|apply And.intro|(apply Yh;clear Yh Y)));all_goals first|apply Hold.mk|omega|assumption|skip))
  refine awp_seq_k fun K5 hK5 => ?_
  have tl5 : ∀ S' a, a ≤ out.length → pos out.length = a → Cov S' ⟨[(0, dPs l), (3, .own 3 g), (4, dI i), (5, dI a)], [(3, g, .row 95 2 (out.map cP))]⟩ → K5 S' := fun S' a ha hp hS => by
   refine hK5 _ ?_; clear hK5
   refine awp_cov hS ?_; clear hS
   rw [hp] at hins
   refine awp_frzrow 3 rfl rfl ?_
   simp only [go_sem]
   ((refine awp_d (.qs [1, 2, 3, 5, 6, 7, 11, 12, 13, 8] (.kp2 0 (.kp2 4 (.kp 9 (.one 10 (.one 14 (.qs [15] (.nil))))) 9 (.kp 4 (.one 10 (.one 14 (.qs [15] (.nil)))))) 9 (.kp 0 (.kp 4 (.one 10 (.one 14 (.qs [15] (.nil)))))))) (by kernel_rfl) ?_ ?_ ?_ ?_); (kernel_rfl); (exact (by decide +kernel)); (kernel_rfl); intro Y Yh; ((repeat' (first|(refine ag_x ?_;simp [go_sem, hx])|refine adr_nil ?_|refine adr_kp2 ?_ ?_|((first|refine adr_qs fun Y Yh=>?_|refine adr_y fun Y Yh=>?_);simp [go_sem, hx])|intro _|apply And.intro|(apply Yh;clear Yh Y)));all_goals first|apply Hold.mk|omega|assumption|skip))
   all_goals
    refine hK4 _ ?_
    refine awp_renrow 3 3 rfl rfl (by decide) fun g' => ?_
    simp only [go_sem]
    (refine awp_r fun Y Yh => ?_; simp [go_sem]; ((repeat' (first|(refine ag_x ?_;simp [go_sem])|intro _|apply And.intro|(apply Yh;clear Yh Y)));all_goals first|apply Hold.mk|omega|assumption|skip))
    refine ⟨(i + 1, g'), ?_, by simp only; omega, by simp only; omega⟩
    simp only [hst1, hins]
    (refine cov_of ?_ ?_ <;> simp [go_sem])
  clear hK5 hK4
  refine awp_block ?_
  refine awp_loop (σ := Nat) (fun a => ⟨[(0, dPs l), (3, .own 3 g), (4, dI i), (5, dI a)], [(3, g, .row 95 2 (out.map cP))]⟩) (fun a => a ≤ out.length ∧ pos out.length = pos a) (fun a => a) out.length ?_ ?_ ?_
  ·(refine cov_of ?_ ?_ <;> simp [go_sem])
  ·exact ⟨Nat.le_refl _, rfl⟩
  rintro a ⟨ha, hpa⟩
  refine awp_seq_k fun K6 hK6 => ?_
  cases a with
  | zero =>
   ((refine awp_dr (.qs [0, 1, 2] (.sk 3 (.sk 4 (.sk 5 (.sk 6 (.sk 7 (.sk 9 (.sk 10 (.sk 11 (.sk 12 (.sk 8 (.sk 13 (.sk 14 (.qs [15] (.nil))))))))))))))) (by kernel_rfl) ?_ ?_ ?_ ?_); (kernel_rfl); (exact (by decide +kernel)); (kernel_rfl); intro Y Yh; ((repeat' (first|(refine ag_x ?_;simp [go_sem, undef])|refine adr_nil ?_|((first|refine adr_qs fun Y Yh=>?_|refine adr_y fun Y Yh=>?_);simp [go_sem, undef])|intro _|apply And.intro|(apply Yh;clear Yh Y)));all_goals first|apply Hold.mk|omega|assumption|skip))
   (refine awp_if fun T F hT hF => ?_; simp [go_sem]; refine hF ?_; clear hT hF T F)
   refine awp_exit ?_
   simp only [go_sem]
   refine tl5 _ 0 (by omega) (hpa.trans hp0) ?_
   (refine cov_of ?_ ?_ <;> simp [go_sem])
  | succ a =>
   obtain ⟨y, hy⟩ : ∃ y, out[a]? = some y := ⟨_, List.getElem?_eq_getElem (by omega)⟩
   have hps1 := hps a y hy
   have hpos : (0 : Int) < (a : Int) + 1 := by omega
   have hi1 : ((a : Int) + 1 - 1).toNat = a := by omega
   have hi2 : (a : Int) + 1 - 1 = a := by omega
   generalize hlb : Op.bytesLess x.1 y.1 = lb at *
   ((refine awp_dr (.qs [0, 1, 2, 3, 4, 5, 6, 7, 9, 10, 11, 12, 8, 13, 14, 15] (.nil)) (by kernel_rfl) ?_ ?_ ?_ ?_); (kernel_rfl); (exact (by decide +kernel)); (kernel_rfl); intro Y Yh; ((repeat' (first|(refine ag_x ?_;simp [go_sem, hx, hy, hpos, hi1, hi2, hlb])|refine adr_nil ?_|((first|refine adr_qs fun Y Yh=>?_|refine adr_y fun Y Yh=>?_);simp [go_sem, hx, hy, hpos, hi1, hi2, hlb])|intro _|apply And.intro|(apply Yh;clear Yh Y)));all_goals first|apply Hold.mk|omega|assumption|skip))
   cases lb with
   | true =>
    rw [if_pos rfl] at hps1
    (refine awp_if fun T F hT hF => ?_; simp [go_sem, hlb, hpos]; refine hT ?_; clear hT hF T F)
    refine awp_skip ?_
    refine hK6 _ ?_; clear hK6
    refine awp_block ?_
    (refine awp_r fun Y Yh => ?_; simp [go_sem]; ((repeat' (first|(refine ag_x ?_;simp [go_sem])|intro _|apply And.intro|(apply Yh;clear Yh Y)));all_goals first|apply Hold.mk|omega|assumption|skip))
    refine ⟨a, ?_, ⟨by omega, hpa.trans hps1⟩, by omega⟩
    (refine cov_of ?_ ?_ <;> simp [go_sem])
   | false =>
    rw [if_neg (by simp)] at hps1
    (refine awp_if fun T F hT hF => ?_; simp [go_sem, hlb, hpos]; refine hF ?_; clear hT hF T F)
    refine awp_exit ?_
    simp only [go_sem]
    refine tl5 _ (a + 1) ha (hpa.trans hps1) ?_
    (refine cov_of ?_ ?_ <;> simp [go_sem])
 ·refine awp_exit ?_
  simp only [go_sem]
  refine hK1 _ ?_; clear hK1
  have : i = l.length := by omega
  subst this
  rw [hfl]
  (refine awp_sr fun Y Yh => ?_; simp [go_sem]; ((repeat' (first|(refine ag_x ?_;simp [go_sem])|intro _|apply And.intro|(apply Yh;clear Yh Y)));all_goals first|apply Hold.mk|omega|assumption|skip))
  refine awp_frzrow 2 rfl rfl ?_
  simp only [go_sem]
  (refine awp_ret ?_; simp [go_sem])
set_option maxHeartbeats 16000000 in
theorem ascending_spec (l : List Prs) (hl : l.length ≤ 1000000) : PCall Tryz.prog 99 [dPs l] fun r => r = dPs (srtP l) := by 
 refine pcall_of Tryz.func99 rfl rfl Tryz.ntmps99 (rs := [.tmp 2]) (tys := [26]) rfl rfl (by simp) ?_
 have hst := fun i x => @srt_step l i x
 have hln := fun i => srtP_len (l.take i)
 have hfl : srtP (l.take l.length) = srtP l := by rw [List.take_length]
 have hz : srtP (l.take 0) = [] := rfl
 obtain ⟨r0, hr0⟩ : ∃ r, srtP l = r := ⟨_, rfl⟩
 rw [hr0] at hfl ⊢
 obtain ⟨F, hF⟩ : ∃ F : Nat → List Prs, ∀ i, srtP (l.take i) = F i := ⟨_, fun _ => rfl⟩
 simp only [hF] at hst hln hfl hz
 clear hF
 (refine awp_sr fun Y Yh => ?_; simp [go_sem]; ((repeat' (first|(refine ag_x ?_;simp [go_sem])|intro _|apply And.intro|(apply Yh;clear Yh Y)));all_goals first|apply Hold.mk|omega|assumption|skip))
 (refine awp_sr fun Y Yh => ?_; simp [go_sem]; ((repeat' (first|(refine ag_x ?_;simp [go_sem])|intro _|apply And.intro|(apply Yh;clear Yh Y)));all_goals first|apply Hold.mk|omega|assumption|skip))
 refine awp_nilslot 3 3 43 2 rfl fun g3 => ?_
 simp only [go_sem]
 refine awp_seq_k fun K1 hK1 => ?_
 (refine awp_sr fun Y Yh => ?_; simp [go_sem]; ((repeat' (first|(refine ag_x ?_;simp [go_sem])|intro _|apply And.intro|(apply Yh;clear Yh Y)));all_goals first|apply Hold.mk|omega|assumption|skip))
 refine awp_block ?_
 refine awp_loop (σ := Nat × Nat) (fun x => ⟨[(0, dPs l), (3, .own 3 x.2), (4, dI x.1)], [(3, x.2, .row 43 2 ((F x.1).map cP))]⟩) (fun x => x.1 ≤ l.length) (fun x => l.length - x.1) (0, g3) ?_ ?_ ?_
 ·(refine cov_of ?_ ?_ <;> simp [go_sem, hz])
 ·simp
 rintro ⟨i, g⟩ hi
 simp only at hi
 refine awp_seq_k fun K2 hK2 => ?_
 (refine awp_sr fun Y Yh => ?_; simp [go_sem]; ((repeat' (first|(refine ag_x ?_;simp [go_sem])|intro _|apply And.intro|(apply Yh;clear Yh Y)));all_goals first|apply Hold.mk|omega|assumption|skip))
 (refine awp_if fun T F hT hF => ?_; simp [go_sem]; refine BR.intro (fun h3 => hT ?_) (fun h3 => hF ?_); all_goals clear hT hF T F; try simp at h3)
 ·refine awp_skip ?_
  refine hK2 _ ?_; clear hK2
  obtain ⟨x, hx⟩ : ∃ x, l[i]? = some x := ⟨_, List.getElem?_eq_getElem (by omega)⟩
  have hst1 := hst i x hx
  have hln1 := hln i
  rw [List.length_take] at hln1
  have hps := fun n y => @posP_step x y (F i) n
  have hpl := posP_le x (F i)
  have hins : insP x (F i) = (F i).take (posP x (F i) (F i).length) ++ x :: (F i).drop (posP x (F i) (F i).length) := rfl
  generalize insP x (F i) = ins at *
  generalize F i = out at *
  have hp0 : posP x out 0 = 0 := rfl
  generalize posP x out = pos at *
  refine awp_seq_k fun K4 hK4 => ?_
  refine awp_block ?_
  (refine awp_sr fun Y Yh => ?_; simp [go_sem]; ((repeat' (first|(refine ag_x ?_;simp [go_sem])|intro _|apply And.intro|(apply Yh;clear Yh Y)));all_goals first|apply Hold.mk|omega|assumption|skip))
  refine awp_seq_k fun K5 hK5 => ?_
  have tl5 : ∀ S' a, a ≤ out.length → pos out.length = a → Cov S' ⟨[(0, dPs l), (3, .own 3 g), (4, dI i), (5, dI a)], [(3, g, .row 43 2 (out.map cP))]⟩ → K5 S' := fun S' a ha hp hS => by
   refine hK5 _ ?_; clear hK5
   refine awp_cov hS ?_; clear hS
   rw [hp] at hins
   refine awp_frzrow 3 rfl rfl ?_
   simp only [go_sem]
   ((refine awp_d (.qs [1, 2, 3, 5, 6, 7, 11, 12, 13, 8] (.kp2 0 (.kp2 4 (.kp 9 (.one 10 (.one 14 (.qs [15] (.nil))))) 9 (.kp 4 (.one 10 (.one 14 (.qs [15] (.nil)))))) 9 (.kp 0 (.kp 4 (.one 10 (.one 14 (.qs [15] (.nil)))))))) (by kernel_rfl) ?_ ?_ ?_ ?_); (kernel_rfl); (exact (by decide +kernel)); (kernel_rfl); intro Y Yh; ((repeat' (first|(refine ag_x ?_;simp [go_sem, hx])|refine adr_nil ?_|refine adr_kp2 ?_ ?_|((first|refine adr_qs fun Y Yh=>?_|refine adr_y fun Y Yh=>?_);simp [go_sem, hx])|intro _|apply And.intro|(apply Yh;clear Yh Y)));all_goals first|apply Hold.mk|omega|assumption|skip))
   all_goals
    refine hK4 _ ?_
    refine awp_renrow 3 3 rfl rfl (by decide) fun g' => ?_
    simp only [go_sem]
    (refine awp_r fun Y Yh => ?_; simp [go_sem]; ((repeat' (first|(refine ag_x ?_;simp [go_sem])|intro _|apply And.intro|(apply Yh;clear Yh Y)));all_goals first|apply Hold.mk|omega|assumption|skip))
    refine ⟨(i + 1, g'), ?_, by simp only; omega, by simp only; omega⟩
    simp only [hst1, hins]
    (refine cov_of ?_ ?_ <;> simp [go_sem])
  clear hK5 hK4
  refine awp_block ?_
  refine awp_loop (σ := Nat) (fun a => ⟨[(0, dPs l), (3, .own 3 g), (4, dI i), (5, dI a)], [(3, g, .row 43 2 (out.map cP))]⟩) (fun a => a ≤ out.length ∧ pos out.length = pos a) (fun a => a) out.length ?_ ?_ ?_
  ·(refine cov_of ?_ ?_ <;> simp [go_sem])
  ·exact ⟨Nat.le_refl _, rfl⟩
  rintro a ⟨ha, hpa⟩
  refine awp_seq_k fun K6 hK6 => ?_
  cases a with
  | zero =>
   ((refine awp_dr (.qs [0, 1, 2] (.sk 3 (.sk 4 (.sk 5 (.sk 6 (.sk 7 (.sk 9 (.sk 10 (.sk 11 (.sk 12 (.sk 8 (.sk 13 (.sk 14 (.qs [15] (.nil))))))))))))))) (by kernel_rfl) ?_ ?_ ?_ ?_); (kernel_rfl); (exact (by decide +kernel)); (kernel_rfl); intro Y Yh; ((repeat' (first|(refine ag_x ?_;simp [go_sem, undef])|refine adr_nil ?_|((first|refine adr_qs fun Y Yh=>?_|refine adr_y fun Y Yh=>?_);simp [go_sem, undef])|intro _|apply And.intro|(apply Yh;clear Yh Y)));all_goals first|apply Hold.mk|omega|assumption|skip))
   (refine awp_if fun T F hT hF => ?_; simp [go_sem]; refine hF ?_; clear hT hF T F)
   refine awp_exit ?_
   simp only [go_sem]
   refine tl5 _ 0 (by omega) (hpa.trans hp0) ?_
   (refine cov_of ?_ ?_ <;> simp [go_sem])
  | succ a =>
   obtain ⟨y, hy⟩ : ∃ y, out[a]? = some y := ⟨_, List.getElem?_eq_getElem (by omega)⟩
   have hps1 := hps a y hy
   have hpos : (0 : Int) < (a : Int) + 1 := by omega
   have hi1 : ((a : Int) + 1 - 1).toNat = a := by omega
   have hi2 : (a : Int) + 1 - 1 = a := by omega
   generalize hlb : Op.bytesLess x.1 y.1 = lb at *
   ((refine awp_dr (.qs [0, 1, 2, 3, 4, 5, 6, 7, 9, 10, 11, 12, 8, 13, 14, 15] (.nil)) (by kernel_rfl) ?_ ?_ ?_ ?_); (kernel_rfl); (exact (by decide +kernel)); (kernel_rfl); intro Y Yh; ((repeat' (first|(refine ag_x ?_;simp [go_sem, hx, hy, hpos, hi1, hi2, hlb])|refine adr_nil ?_|((first|refine adr_qs fun Y Yh=>?_|refine adr_y fun Y Yh=>?_);simp [go_sem, hx, hy, hpos, hi1, hi2, hlb])|intro _|apply And.intro|(apply Yh;clear Yh Y)));all_goals first|apply Hold.mk|omega|assumption|skip))
   cases lb with
   | true =>
    rw [if_pos rfl] at hps1
    (refine awp_if fun T F hT hF => ?_; simp [go_sem, hlb, hpos]; refine hT ?_; clear hT hF T F)
    refine awp_skip ?_
    refine hK6 _ ?_; clear hK6
    refine awp_block ?_
    (refine awp_r fun Y Yh => ?_; simp [go_sem]; ((repeat' (first|(refine ag_x ?_;simp [go_sem])|intro _|apply And.intro|(apply Yh;clear Yh Y)));all_goals first|apply Hold.mk|omega|assumption|skip))
    refine ⟨a, ?_, ⟨by omega, hpa.trans hps1⟩, by omega⟩
    (refine cov_of ?_ ?_ <;> simp [go_sem])
   | false =>
    rw [if_neg (by simp)] at hps1
    (refine awp_if fun T F hT hF => ?_; simp [go_sem, hlb, hpos]; refine hF ?_; clear hT hF T F)
    refine awp_exit ?_
    simp only [go_sem]
    refine tl5 _ (a + 1) ha (hpa.trans hps1) ?_
    (refine cov_of ?_ ?_ <;> simp [go_sem])
 ·refine awp_exit ?_
  simp only [go_sem]
  refine hK1 _ ?_; clear hK1
  have : i = l.length := by omega
  subst this
  rw [hfl]
  (refine awp_sr fun Y Yh => ?_; simp [go_sem]; ((repeat' (first|(refine ag_x ?_;simp [go_sem])|intro _|apply And.intro|(apply Yh;clear Yh Y)));all_goals first|apply Hold.mk|omega|assumption|skip))
  refine awp_frzrow 2 rfl rfl ?_
  simp only [go_sem]
  (refine awp_ret ?_; simp [go_sem])
set_option maxHeartbeats 4000000 in
theorem own_spec (s : Src) (p : Prs) (hs : SzS s) : PCall Tryz.prog 100 [dSrc s, dP p] fun r => r = dPs (ownV s p) := by 
 refine pcall_of Tryz.func100 rfl rfl Tryz.ntmps100 (rs := [.tmp 4]) (tys := [26]) rfl rfl (by simp) ?_
 have A := all_spec s [] [p] hs ⟨by simp, by simp⟩ (by simp)
 have hz := (fndP_sz hs p).2.1
 have e : allN s [] [p] = (fndP s p).2 := by simp [allN]
 rw [e] at A
 have SO := ascending_spec (fndP s p).2 hz
 unfold ownV
 generalize srtP (fndP s p).2 = r0 at *
 generalize (fndP s p).2 = l at *
 (refine awp_sr fun Y Yh => ?_; simp [go_sem]; ((repeat' (first|(refine ag_x ?_;simp [go_sem])|intro _|apply And.intro|(apply Yh;clear Yh Y)));all_goals first|apply Hold.mk|omega|assumption|skip))
 (refine awp_sr fun Y Yh => ?_; simp [go_sem]; ((repeat' (first|(refine ag_x ?_;simp [go_sem])|intro _|apply And.intro|(apply Yh;clear Yh Y)));all_goals first|apply Hold.mk|omega|assumption|skip))
 ((try refine CallT.toA ?_); refine callT_z (.inl ⟨rfl,rfl⟩) rfl (by simp [go_sem]) (by simp [go_sem]) ?_; intro args ha; simp [go_sem] at ha; subst ha; refine ⟨_, A, ?_⟩; rintro _ rfl; simp [go_sem]; ((repeat' (first|(refine ag_x ?_;simp [go_sem])|intro _|apply And.intro|(apply Yh;clear Yh Y)));all_goals first|apply Hold.mk|omega|assumption|skip))
 ((try refine CallT.toA ?_); refine callT_m (.inl ⟨rfl,rfl⟩) (by simp [go_sem]) ?_; intro args ha; simp [go_sem] at ha; subst ha; refine ⟨_, SO, ?_⟩; rintro _ rfl; simp [go_sem]; ((repeat' (first|(refine ag_x ?_;simp [go_sem])|intro _|apply And.intro|(apply Yh;clear Yh Y)));all_goals first|apply Hold.mk|omega|assumption|skip))
 (refine awp_ret ?_; simp [go_sem])
set_option maxHeartbeats 8000000 in
theorem solved_spec (s : Src) (w : List Prs) (b : Int) (hs : SzS s) (hw : SzN w) : PCall Tryz.prog 91 [dSrc s, dPs w, dI b] fun r => r = .tup [dPs (solV s w b).1, dI (solV s w b).2.1, dI (solV s w b).2.2] := by 
 refine pcall_of Tryz.func91 rfl rfl Tryz.ntmps91 (rs := [.tmp 6, .tmp 7, .tmp 8]) (tys := [58, 3, 35]) rfl rfl (by simp) ?_
 have CK := rChk_spec s w hs hw
 by_cases hc : chkV s w = true
 ·rw [if_pos hc] at CK
  by_cases hb1 : b < 1
  ·have e : solV s w b = ([], 0, 1) := by unfold solV; rw [if_neg (by omega)]
   rw [e]
   (refine awp_sr fun Y Yh => ?_; simp [go_sem]; ((repeat' (first|(refine ag_x ?_;simp [go_sem])|intro _|apply And.intro|(apply Yh;clear Yh Y)));all_goals first|apply Hold.mk|omega|assumption|skip))
   refine awp_seq_k fun K1 hK1 => ?_
   (refine awp_sr fun Y Yh => ?_; simp [go_sem, hb1]; ((repeat' (first|(refine ag_false ?_ ?_ ?_;(focus (simp [go_sem, undef, hb1];done));(focus (simp [go_sem];done));simp [go_sem, hb1])|(refine ag_true ?_ ?_;(focus (simp [go_sem, undef, hb1];done));simp [go_sem, hb1])|(refine ag_x ?_;simp [go_sem, undef, hb1])|intro _|apply And.intro|(apply Yh;clear Yh Y)));all_goals first|apply Hold.mk|omega|assumption|skip))
   ((try refine CallT.toA ?_); refine callT_m (.inl ⟨rfl,rfl⟩) (by simp [go_sem]) ?_; intro args ha; simp [go_sem] at ha; subst ha; refine ⟨_, CK, ?_⟩; rintro _ rfl; simp [go_sem, hb1]; ((repeat' (first|(refine ag_false ?_ ?_ ?_;(focus (simp [go_sem, undef, hb1];done));(focus (simp [go_sem];done));simp [go_sem, hb1])|(refine ag_true ?_ ?_;(focus (simp [go_sem, undef, hb1];done));simp [go_sem, hb1])|(refine ag_x ?_;simp [go_sem, undef, hb1])|intro _|apply And.intro|(apply Yh;clear Yh Y)));all_goals first|apply Hold.mk|omega|assumption|skip))
   (refine awp_if fun T F hT hF => ?_; simp [go_sem, hb1]; refine hT ?_; clear hT hF T F)
   (refine awp_sr fun Y Yh => ?_; simp [go_sem]; ((repeat' (first|(refine ag_x ?_;simp [go_sem])|intro _|apply And.intro|(apply Yh;clear Yh Y)));all_goals first|apply Hold.mk|omega|assumption|skip))
   (refine awp_ret ?_; simp [go_sem])
  ·by_cases hb2 : 100000 < b
   ·have e : solV s w b = ([], 0, 1) := by unfold solV; rw [if_neg (by omega)]
    rw [e]
    (refine awp_sr fun Y Yh => ?_; simp [go_sem]; ((repeat' (first|(refine ag_x ?_;simp [go_sem])|intro _|apply And.intro|(apply Yh;clear Yh Y)));all_goals first|apply Hold.mk|omega|assumption|skip))
    refine awp_seq_k fun K1 hK1 => ?_
    (refine awp_sr fun Y Yh => ?_; simp [go_sem, hb1, hb2]; ((repeat' (first|(refine ag_false ?_ ?_ ?_;(focus (simp [go_sem, undef, hb1, hb2];done));(focus (simp [go_sem];done));simp [go_sem, hb1, hb2])|(refine ag_true ?_ ?_;(focus (simp [go_sem, undef, hb1, hb2];done));simp [go_sem, hb1, hb2])|(refine ag_x ?_;simp [go_sem, undef, hb1, hb2])|intro _|apply And.intro|(apply Yh;clear Yh Y)));all_goals first|apply Hold.mk|omega|assumption|skip))
    ((try refine CallT.toA ?_); refine callT_m (.inl ⟨rfl,rfl⟩) (by simp [go_sem]) ?_; intro args ha; simp [go_sem] at ha; subst ha; refine ⟨_, CK, ?_⟩; rintro _ rfl; simp [go_sem, hb1, hb2]; ((repeat' (first|(refine ag_false ?_ ?_ ?_;(focus (simp [go_sem, undef, hb1, hb2];done));(focus (simp [go_sem];done));simp [go_sem, hb1, hb2])|(refine ag_true ?_ ?_;(focus (simp [go_sem, undef, hb1, hb2];done));simp [go_sem, hb1, hb2])|(refine ag_x ?_;simp [go_sem, undef, hb1, hb2])|intro _|apply And.intro|(apply Yh;clear Yh Y)));all_goals first|apply Hold.mk|omega|assumption|skip))
    (refine awp_if fun T F hT hF => ?_; simp [go_sem, hb1, hb2]; refine hT ?_; clear hT hF T F)
    (refine awp_sr fun Y Yh => ?_; simp [go_sem]; ((repeat' (first|(refine ag_x ?_;simp [go_sem])|intro _|apply And.intro|(apply Yh;clear Yh Y)));all_goals first|apply Hold.mk|omega|assumption|skip))
    (refine awp_ret ?_; simp [go_sem])
   ·obtain ⟨n, rfl⟩ : ∃ n : Nat, b = n := ⟨b.toNat, by omega⟩
    have hsu : suV s = true := by unfold chkV at hc; simp at hc; exact hc.1
    have hl15 := (suV_parts hsu).1
    have RS := fun g => rest_spec s w n hsu hw (by omega) (s.length + 1) [] 0 g (by have := mu_le s []; omega) (by simp; omega) (fun x hx => by cases hx) (fun x hx => by cases hx) (by omega)
    have hLN := restV_len s w n (s.length + 1) [] 0
    have hPK := restV_pick (w := w) (bud := n) hsu (s.length + 1) [] 0 ⟨by simp, by simp⟩
    have e : solV s w n = (srtP (restV s w n (s.length + 1) [] 0).1.1, (restV s w n (s.length + 1) [] 0).2, (restV s w n (s.length + 1) [] 0).1.2) := by
     unfold solV; rw [if_pos ⟨hc, by omega, by omega⟩, Int.toNat_natCast]
    rw [e]
    generalize restV s w n (s.length + 1) [] 0 = q at *
    obtain ⟨⟨l, ee⟩, t⟩ := q
    simp only at RS hPK hLN
    simp only
    have hpl : l.length ≤ 1000000 := by simp at hLN; omega
    have SO := sorted_spec l hpl
    generalize srtP l = sl at *
    (refine awp_sr fun Y Yh => ?_; simp [go_sem]; ((repeat' (first|(refine ag_x ?_;simp [go_sem])|intro _|apply And.intro|(apply Yh;clear Yh Y)));all_goals first|apply Hold.mk|omega|assumption|skip))
    refine awp_seq_k fun K1 hK1 => ?_
    (refine awp_sr fun Y Yh => ?_; simp [go_sem]; ((repeat' (first|(refine ag_x ?_;simp [go_sem])|intro _|apply And.intro|(apply Yh;clear Yh Y)));all_goals first|apply Hold.mk|omega|assumption|skip))
    ((try refine CallT.toA ?_); refine callT_m (.inl ⟨rfl,rfl⟩) (by simp [go_sem]) ?_; intro args ha; simp [go_sem] at ha; subst ha; refine ⟨_, CK, ?_⟩; rintro _ rfl; simp [go_sem]; ((repeat' (first|(refine ag_x ?_;simp [go_sem])|intro _|apply And.intro|(apply Yh;clear Yh Y)));all_goals first|apply Hold.mk|omega|assumption|skip))
    (refine awp_if fun T F hT hF => ?_; simp [go_sem, hb1, hb2]; refine hF ?_; clear hT hF T F)
    refine awp_skip ?_
    refine hK1 _ ?_; clear hK1
    (refine awp_sr fun Y Yh => ?_; simp [go_sem]; ((repeat' (first|(refine ag_x ?_;simp [go_sem])|intro _|apply And.intro|(apply Yh;clear Yh Y)));all_goals first|apply Hold.mk|omega|assumption|skip))
    rename_i g3 g5
    refine awp_renbox 9 900002 rfl rfl (by decide) fun g9 => ?_
    simp only [go_sem]
    (refine awp_sr fun Y Yh => ?_; simp [go_sem]; ((repeat' (first|(refine ag_x ?_;simp [go_sem])|intro _|apply And.intro|(apply Yh;clear Yh Y)));all_goals first|apply Hold.mk|omega|assumption|skip))
    (refine callA_l [900002] (.inl ⟨rfl,rfl⟩) (by simp [go_sem]) ?_; intro args ha; simp [go_sem] at ha; subst ha; refine ⟨_, _, (RS g9), (by simp [go_sem]), ?_⟩; rintro ps r hps ⟨rfl, rfl⟩; simp [go_sem]; ((repeat' (first|(refine ag_x ?_;simp [go_sem])|intro _|apply And.intro|(apply Yh;clear Yh Y)));all_goals first|apply Hold.mk|omega|assumption|skip))
    ((refine awp_dr (.qs [0, 2, 3, 4, 6, 5] (.kp 1 (.qs [7, 8, 9] (.nil)))) (by kernel_rfl) ?_ ?_ ?_ ?_); (kernel_rfl); (exact (by decide +kernel)); (kernel_rfl); intro Y Yh; ((repeat' (first|(refine ag_x ?_;simp [go_sem])|refine adr_nil ?_|((first|refine adr_qs fun Y Yh=>?_|refine adr_y fun Y Yh=>?_);simp [go_sem])|intro _|apply And.intro|(apply Yh;clear Yh Y)));all_goals first|apply Hold.mk|omega|assumption|skip))
    ((try refine CallT.toA ?_); refine callT_m (.inl ⟨rfl,rfl⟩) (by simp [go_sem]) ?_; intro args ha; simp [go_sem] at ha; subst ha; refine ⟨_, SO, ?_⟩; rintro _ rfl; simp [go_sem]; ((repeat' (first|(refine ag_x ?_;simp [go_sem])|refine adr_nil ?_|((first|refine adr_qs fun Y Yh=>?_|refine adr_y fun Y Yh=>?_);simp [go_sem])|intro _|apply And.intro|(apply Yh;clear Yh Y)));all_goals first|apply Hold.mk|omega|assumption|skip))
    (refine awp_ret ?_; simp [go_sem])
 ·have e : solV s w b = ([], 0, 1) := by unfold solV; rw [if_neg (fun q => hc q.1)]
  rw [if_neg hc] at CK
  rw [e]
  (refine awp_sr fun Y Yh => ?_; simp [go_sem]; ((repeat' (first|(refine ag_x ?_;simp [go_sem])|intro _|apply And.intro|(apply Yh;clear Yh Y)));all_goals first|apply Hold.mk|omega|assumption|skip))
  refine awp_seq_k fun K1 hK1 => ?_
  (refine awp_sr fun Y Yh => ?_; simp [go_sem]; ((repeat' (first|(refine ag_false ?_ ?_ ?_;(focus (simp [go_sem, undef];done));(focus (simp [go_sem];done));simp [go_sem])|(refine ag_true ?_ ?_;(focus (simp [go_sem, undef];done));simp [go_sem])|(refine ag_x ?_;simp [go_sem, undef])|intro _|apply And.intro|(apply Yh;clear Yh Y)));all_goals first|apply Hold.mk|omega|assumption|skip))
  ((try refine CallT.toA ?_); refine callT_m (.inl ⟨rfl,rfl⟩) (by simp [go_sem]) ?_; intro args ha; simp [go_sem] at ha; subst ha; refine ⟨_, CK, ?_⟩; rintro _ rfl; simp [go_sem]; ((repeat' (first|(refine ag_false ?_ ?_ ?_;(focus (simp [go_sem, undef];done));(focus (simp [go_sem];done));simp [go_sem])|(refine ag_true ?_ ?_;(focus (simp [go_sem, undef];done));simp [go_sem])|(refine ag_x ?_;simp [go_sem, undef])|intro _|apply And.intro|(apply Yh;clear Yh Y)));all_goals first|apply Hold.mk|omega|assumption|skip))
  (refine awp_if fun T F hT hF => ?_; simp [go_sem]; refine hT ?_; clear hT hF T F)
  (refine awp_sr fun Y Yh => ?_; simp [go_sem]; ((repeat' (first|(refine ag_x ?_;simp [go_sem])|intro _|apply And.intro|(apply Yh;clear Yh Y)));all_goals first|apply Hold.mk|omega|assumption|skip))
  (refine awp_ret ?_; simp [go_sem])
theorem rSolve_spec (s : Src) (w : List Prs) (b : Int) (hs : SzS s) (hw : SzN w) : PCall Tryz.prog 40 [dSrc s, dPs w, dI b] fun r => r = .tup [dPs (solV s w b).1, dI (solV s w b).2.2] := by 
 refine pcall_of Tryz.func40 rfl rfl Tryz.ntmps40 (rs := [.tmp 6, .tmp 7]) (tys := [58, 35]) rfl rfl (by simp) ?_
 have SO := solved_spec s w b hs hw
 generalize solV s w b = q at *
 obtain ⟨l, t, e⟩ := q
 (refine awp_sr fun Y Yh => ?_; simp [go_sem]; ((repeat' (first|(refine ag_x ?_;simp [go_sem])|intro _|apply And.intro|(apply Yh;clear Yh Y)));all_goals first|apply Hold.mk|omega|assumption|skip))
 (refine awp_sr fun Y Yh => ?_; simp [go_sem]; ((repeat' (first|(refine ag_x ?_;simp [go_sem])|intro _|apply And.intro|(apply Yh;clear Yh Y)));all_goals first|apply Hold.mk|omega|assumption|skip))
 ((try refine CallT.toA ?_); refine callT_m (.inl ⟨rfl,rfl⟩) (by simp [go_sem]) ?_; intro args ha; simp [go_sem] at ha; subst ha; refine ⟨_, SO, ?_⟩; rintro _ rfl; simp [go_sem]; ((repeat' (first|(refine ag_x ?_;simp [go_sem])|intro _|apply And.intro|(apply Yh;clear Yh Y)));all_goals first|apply Hold.mk|omega|assumption|skip))
 (refine awp_sr fun Y Yh => ?_; simp [go_sem]; ((repeat' (first|(refine ag_x ?_;simp [go_sem])|intro _|apply And.intro|(apply Yh;clear Yh Y)));all_goals first|apply Hold.mk|omega|assumption|skip))
 (refine awp_ret ?_; simp [go_sem])
set_option maxHeartbeats 8000000 in
theorem rOf_spec (s : Src) (w : List Prs) (b : Int) (hs : SzS s) (hw : SzN w) : PCall Tryz.prog 44 [dSrc s, dPs w, dI b] fun r => r = .tup [dLk (ofV s w b).1, dI (ofV s w b).2] := by 
 refine pcall_of Tryz.func44 rfl rfl Tryz.ntmps44 (rs := [.cell 6 61, .tmp 7]) (tys := [61, 35]) rfl rfl (by simp) ?_
 have SO := rSolve_spec s w b hs hw
 have hln := solV_len (s := s) (w := w) (b := b)
 have AW := ascending_spec w hw.1
 have OW := fun p => own_spec s p hs
 unfold ofV
 generalize solV s w b = q at *
 obtain ⟨l, t, e⟩ := q
 simp only at SO hln ⊢
 generalize srtP w = sw at *
 (refine awp_sr fun Y Yh => ?_; simp [go_sem]; ((repeat' (first|(refine ag_x ?_;simp [go_sem])|intro _|apply And.intro|(apply Yh;clear Yh Y)));all_goals first|apply Hold.mk|omega|assumption|skip))
 rename_i g3 g6
 (refine awp_sr fun Y Yh => ?_; simp [go_sem]; ((repeat' (first|(refine ag_x ?_;simp [go_sem])|intro _|apply And.intro|(apply Yh;clear Yh Y)));all_goals first|apply Hold.mk|omega|assumption|skip))
 ((try refine CallT.toA ?_); refine callT_m (.inl ⟨rfl,rfl⟩) (by simp [go_sem]) ?_; intro args ha; simp [go_sem] at ha; subst ha; refine ⟨_, SO, ?_⟩; rintro _ rfl; simp [go_sem]; ((repeat' (first|(refine ag_x ?_;simp [go_sem])|intro _|apply And.intro|(apply Yh;clear Yh Y)));all_goals first|apply Hold.mk|omega|assumption|skip))
 refine awp_seq_k fun K1 hK1 => ?_
 by_cases he : e = 0
 ·rw [if_pos he]
  subst he
  obtain ⟨r0, hr0⟩ : ∃ r, l.map (ownV s) = r := ⟨_, rfl⟩
  have hfl : (l.take l.length).map (ownV s) = r0 := by rw [List.take_length]; exact hr0
  have hst := fun i (x : Prs) h => map_take_snoc (ownV s) (l := l) (i := i) (x := x) h
  obtain ⟨F, hF⟩ : ∃ F : Nat → List (List Prs), ∀ i, (l.take i).map (ownV s) = F i := ⟨_, fun _ => rfl⟩
  have hz : F 0 = [] := by rw [← hF]; rfl
  have hFl : ∀ i, (F i).length = min i l.length := fun i => by rw [← hF]; simp
  simp only [hF] at hst hfl
  clear hF
  rw [hr0]
  simp only
  (refine awp_sr fun Y Yh => ?_; simp [go_sem]; ((repeat' (first|(refine ag_x ?_;simp [go_sem])|intro _|apply And.intro|(apply Yh;clear Yh Y)));all_goals first|apply Hold.mk|omega|assumption|skip))
  (refine awp_if fun T F hT hF => ?_; simp [go_sem]; refine hF ?_; clear hT hF T F)
  refine awp_skip ?_
  refine hK1 _ ?_; clear hK1
  (refine awp_sr fun Y Yh => ?_; simp [go_sem]; ((repeat' (first|(refine ag_x ?_;simp [go_sem])|intro _|apply And.intro|(apply Yh;clear Yh Y)));all_goals first|apply Hold.mk|omega|assumption|skip))
  ((try refine CallT.toA ?_); refine callT_m (.inl ⟨rfl,rfl⟩) (by simp [go_sem]) ?_; intro args ha; simp [go_sem] at ha; subst ha; refine ⟨_, AW, ?_⟩; rintro _ rfl; simp [go_sem]; ((repeat' (first|(refine ag_x ?_;simp [go_sem])|intro _|apply And.intro|(apply Yh;clear Yh Y)));all_goals first|apply Hold.mk|omega|assumption|skip))
  rename_i g10
  refine awp_nilbox 900004 26 1 1 (sb := 10) rfl rfl (by decide) fun gn => ?_
  simp only [List.set, go_sem]
  refine awp_seq_k fun K3 hK3 => ?_
  (refine awp_sr fun Y Yh => ?_; simp [go_sem]; ((repeat' (first|(refine ag_x ?_;simp [go_sem])|intro _|apply And.intro|(apply Yh;clear Yh Y)));all_goals first|apply Hold.mk|omega|assumption|skip))
  refine awp_block ?_
  refine awp_loop (σ := Nat × Nat) (fun x => ⟨[(3, .ptr 3 g3 0), (6, .ptr 6 g6 0), (8, dPs l), (10, .ptr 10 g10 0), (11, dI x.1)], [(3, g3, .box [dGms s]), (6, g6, .box [.v (.slice none 0 0), .v (.slice none 0 0), .v (.slice none 0 0)]), (10, g10, .box [dPs l, .own 900004 x.2, dPs sw]), (900004, x.2, .row 26 1 ((F x.1).map fun n => [dPs n]))]⟩) (fun x => x.1 ≤ l.length) (fun x => l.length - x.1) (0, gn) ?_ ?_ ?_
  ·(refine cov_of ?_ ?_ <;> simp [go_sem, hz])
  ·simp
  rintro ⟨i, gn⟩ hi
  simp only at hi
  refine awp_seq_k fun K4 hK4 => ?_
  (refine awp_sr fun Y Yh => ?_; simp [go_sem]; ((repeat' (first|(refine ag_x ?_;simp [go_sem])|intro _|apply And.intro|(apply Yh;clear Yh Y)));all_goals first|apply Hold.mk|omega|assumption|skip))
  (refine awp_if fun T F hT hF => ?_; simp [go_sem]; refine BR.intro (fun h5 => hT ?_) (fun h5 => hF ?_); all_goals clear hT hF T F; try simp at h5)
  ·refine awp_skip ?_
   refine hK4 _ ?_; clear hK4
   obtain ⟨x, hx⟩ : ∃ x, l[i]? = some x := ⟨_, List.getElem?_eq_getElem (by omega)⟩
   have hst1 := hst i x hx
   have O1 := OW x
   have hFi := hFl i
   generalize ownV s x = ow at *
   generalize F i = Fi at *
   refine awp_seq_k fun K6 hK6 => ?_
   refine awp_block ?_
   ((refine awp_d (.qs [0, 3, 4, 5, 1, 2, 6] (.kp 7 (.kp 8 (.one 9 (.qs [10] (.one 11 (.nil))))))) (by kernel_rfl) ?_ ?_ ?_ ?_); (kernel_rfl); (exact (by decide +kernel)); (kernel_rfl); intro Y Yh; ((repeat' (first|(refine ag_x ?_;simp [go_sem, hx])|refine adr_nil ?_|((first|refine adr_qs fun Y Yh=>?_|refine adr_y fun Y Yh=>?_);simp [go_sem, hx])|intro _|apply And.intro|(apply Yh;clear Yh Y)));all_goals first|apply Hold.mk|omega|assumption|skip))
   ((try refine CallT.toA ?_); refine callT_m (.inl ⟨rfl,rfl⟩) (by simp [go_sem]) ?_; intro args ha; simp [go_sem] at ha; subst ha; refine ⟨_, O1, ?_⟩; rintro _ rfl; simp [go_sem]; ((repeat' (first|(refine ag_x ?_;simp [go_sem])|refine adr_nil ?_|((first|refine adr_qs fun Y Yh=>?_|refine adr_y fun Y Yh=>?_);simp [go_sem])|intro _|apply And.intro|(apply Yh;clear Yh Y)));all_goals first|apply Hold.mk|omega|assumption|skip))
   refine hK6 _ ?_; clear hK6
   (refine awp_r fun Y Yh => ?_; simp [go_sem]; ((repeat' (first|(refine ag_x ?_;simp [go_sem])|intro _|apply And.intro|(apply Yh;clear Yh Y)));all_goals first|apply Hold.mk|omega|assumption|skip))
   rename_i g' g''
   refine ⟨(i + 1, g''), ?_, by simp only; omega, by simp only; omega⟩
   simp only [hst1]
   (refine cov_of ?_ ?_ <;> simp [go_sem])
  ·refine awp_exit ?_
   simp only [go_sem]
   refine hK3 _ ?_; clear hK3
   have : i = l.length := by omega
   subst this
   rw [hfl]
   refine awp_frzin 900004 10 1 rfl rfl (by decide) rfl ?_
   simp only [go_sem, List.set]
   (refine awp_sr fun Y Yh => ?_; simp [go_sem]; ((repeat' (first|(refine ag_x ?_;simp [go_sem])|intro _|apply And.intro|(apply Yh;clear Yh Y)));all_goals first|apply Hold.mk|omega|assumption|skip))
   (refine awp_ret ?_; simp [go_sem])
   rw [← hr0, List.map_map]
 ·rw [if_neg he]
  have hei : ¬ (e : Int) = 0 := by omega
  (refine awp_sr fun Y Yh => ?_; simp [go_sem, he, hei]; ((repeat' (first|(refine ag_x ?_;simp [go_sem, he, hei])|intro _|apply And.intro|(apply Yh;clear Yh Y)));all_goals first|apply Hold.mk|omega|assumption|skip))
  (refine awp_if fun T F hT hF => ?_; simp [go_sem, he, hei]; refine hT ?_; clear hT hF T F)
  (refine awp_sr fun Y Yh => ?_; simp [go_sem]; ((repeat' (first|(refine ag_x ?_;simp [go_sem])|intro _|apply And.intro|(apply Yh;clear Yh Y)));all_goals first|apply Hold.mk|omega|assumption|skip))
  (refine awp_ret ?_; simp [go_sem])
def unI (n : Int) : Nat := (n % 18446744073709551616).toNat
theorem unI_wrap (n : Int) : IntKind.u64.wrap n = (unI n : Int) := by
 rw [show IntKind.u64.wrap n = n % 18446744073709551616 by simp [IntKind.wrap, IntKind.bits, IntKind.signed]]
 unfold unI; omega
theorem wrapNI {x : Nat} (h : x < 18446744073709551616) : IntKind.u64.wrap (x : Int) = x := by
 rw [show IntKind.u64.wrap (x : Int) = (x : Int) % 18446744073709551616 by simp [IntKind.wrap, IntKind.bits, IntKind.signed]]
 omega
def pickK (l : List Int) (a n : Nat) : Nat := if a < l.length then unI (l.getD a 0) % n else 0
def pickA (l : List Int) (a : Nat) : Nat := if a < l.length then a + 1 else a
theorem pickK_lt {l : List Int} {a n : Nat} (h : 0 < n) : pickK l a n < n := by
 unfold pickK; split
 ·exact Nat.mod_lt _ h
 ·exact h
theorem pickA_le {l : List Int} {a : Nat} (h : a ≤ l.length) : pickA l a ≤ l.length := by
 unfold pickA; split <;> omega
set_option maxHeartbeats 8000000 in
theorem pick_spec (l : List Int) (a n g : Nat) (hl : l.length ≤ 9223372036854775807) (ha : a ≤ l.length) (hn : 0 < n) (hn2 : n ≤ 100) :
  ACall Tryz.prog 49 [.ptr 900002 g 0, dI n] [(900002, (g, .box [dIs l, dI a]))] [900002]
   fun ps r => ps = [(g, .box [dIs l, dI (pickA l a)])] ∧ r = dI (pickK l a n) := by
 refine acall_of Tryz.func49 rfl rfl Tryz.ntmps49 (rs := [.tmp 4]) (tys := [3]) rfl rfl (by simp) ?_ ?_
 ·intro q hq
  simp only [List.mem_cons, List.not_mem_nil, or_false] at hq
  subst hq
  simp [notFroz]
 (refine awp_sr fun Y Yh => ?_; simp [go_sem]; ((repeat' (first|(refine ag_x ?_;simp [go_sem])|intro _|apply And.intro|(apply Yh;clear Yh Y)));all_goals first|apply Hold.mk|omega|assumption|skip))
 refine awp_seq_k fun K1 hK1 => ?_
 by_cases h : a < l.length
 ·obtain ⟨x, hx⟩ : ∃ x, l[a]? = some x := ⟨_, List.getElem?_eq_getElem h⟩
  have hk : pickK l a n = unI x % n := by unfold pickK; rw [if_pos h]; simp [List.getD, hx]
  have hA : pickA l a = a + 1 := by unfold pickA; rw [if_pos h]
  rw [hk, hA]
  have hi : ¬ (l.length : Int) ≤ a := by omega
  have hi1 : ((a : Int) + 1 - 1).toNat = a := by omega
  have hi2 : (a : Int) + 1 - 1 = a := by omega
  have w1 := unI_wrap x
  have w2 := wrapNI (x := n) (by omega)
  have hlt : unI x % n < n := Nat.mod_lt _ hn
  have hne : ¬ (n : Int) = 0 := by omega
  have hux : unI x < 18446744073709551616 := by unfold unI; omega
  have m1 : IntKind.u64.wrap (((unI x : Nat) : Int).tmod (n : Int)) = ((unI x % n : Nat) : Int) := by
   rw [show ((unI x : Nat) : Int).tmod (n : Int) = ((unI x % n : Nat) : Int) by simp [Int.tmod_eq_emod_of_nonneg]]
   exact wrapNI (by omega)
  have m0 : ((unI x : Nat) : Int).tmod (n : Int) = ((unI x % n : Nat) : Int) := by simp [Int.tmod_eq_emod_of_nonneg]
  generalize hkk : unI x % n = k at *
  ((refine awp_dr (.qs [0, 1, 2, 4, 5, 6, 3, 7, 8, 9] (.nil)) (by kernel_rfl) ?_ ?_ ?_ ?_); (kernel_rfl); (exact (by decide +kernel)); (kernel_rfl); intro Y Yh; ((repeat' (first|(refine ag_x ?_;simp [go_sem, hi])|refine adr_nil ?_|((first|refine adr_qs fun Y Yh=>?_|refine adr_y fun Y Yh=>?_);simp [go_sem, hi])|intro _|apply And.intro|(apply Yh;clear Yh Y)));all_goals first|apply Hold.mk|omega|assumption|skip))
  (refine awp_if fun T F hT hF => ?_; simp [go_sem, hi, h]; refine hF ?_; clear hT hF T F)
  refine awp_skip ?_
  refine hK1 _ ?_; clear hK1
  (refine awp_sr fun Y Yh => ?_; simp [go_sem]; ((repeat' (first|(refine ag_x ?_;simp [go_sem])|intro _|apply And.intro|(apply Yh;clear Yh Y)));all_goals first|apply Hold.mk|omega|assumption|skip))
  ((refine awp_dr (.qs [0, 1, 2, 4, 5, 6, 12, 13, 3, 7, 8, 9, 10, 11, 14, 15, 16] (.nil)) (by kernel_rfl) ?_ ?_ ?_ ?_); (kernel_rfl); (exact (by decide +kernel)); (kernel_rfl); intro Y Yh; ((repeat' (first|(refine ag_x ?_;simp [go_sem, hx, hi1, hi2, w1, w2, m1, m0, hne])|refine adr_nil ?_|((first|refine adr_qs fun Y Yh=>?_|refine adr_y fun Y Yh=>?_);simp [go_sem, hx, hi1, hi2, w1, w2, m1, m0, hne])|intro _|apply And.intro|(apply Yh;clear Yh Y)));all_goals first|apply Hold.mk|omega|assumption|skip))
  (refine awp_ret ?_; simp [go_sem])
  exact ⟨by rw [hA]; omega, hk.symm⟩
 ·have hk : pickK l a n = 0 := by unfold pickK; rw [if_neg h]
  have hA : pickA l a = a := by unfold pickA; rw [if_neg h]
  rw [hk, hA]
  have hi : (l.length : Int) ≤ a := by omega
  ((refine awp_dr (.qs [0, 1, 2, 4, 5, 6, 3, 7, 8, 9] (.nil)) (by kernel_rfl) ?_ ?_ ?_ ?_); (kernel_rfl); (exact (by decide +kernel)); (kernel_rfl); intro Y Yh; ((repeat' (first|(refine ag_x ?_;simp [go_sem, hi])|refine adr_nil ?_|((first|refine adr_qs fun Y Yh=>?_|refine adr_y fun Y Yh=>?_);simp [go_sem, hi])|intro _|apply And.intro|(apply Yh;clear Yh Y)));all_goals first|apply Hold.mk|omega|assumption|skip))
  (refine awp_if fun T F hT hF => ?_; simp [go_sem, hi, h]; refine hT ?_; clear hT hF T F)
  (refine awp_sr fun Y Yh => ?_; simp [go_sem]; ((repeat' (first|(refine ag_x ?_;simp [go_sem])|intro _|apply And.intro|(apply Yh;clear Yh Y)));all_goals first|apply Hold.mk|omega|assumption|skip))
  (refine awp_ret ?_; simp [go_sem, hk, hA])
def nmsL : List Bs := [[97], [98], [99, 49], [100, 45, 101], [102], [97], [98], [103, 111, 110, 101]]
def wtsL : List Bs := [[], [], [62, 61, 32, 49, 46, 48], [126, 62, 32, 49, 46, 48], [60, 32, 50, 46, 48], [126, 62, 32, 50, 46, 48], [61, 32, 49, 46, 53], [62, 32, 50, 46, 48, 46, 97], [33, 61, 32, 51]]
theorem lit_at (L : List Bs) {k : Nat} (h : k < L.length) : ∃ y, L[k]? = some y ∧ y ∈ L := ⟨_, List.getElem?_eq_getElem h, List.getElem_mem h⟩
set_option maxHeartbeats 16000000 in
theorem gneeds_spec (l : List Int) (a most g : Nat) (hl : l.length ≤ 9223372036854775807) (ha : a ≤ l.length) (hm : most ≤ 10) :
  ACall Tryz.prog 50 [.ptr 900002 g 0, dI most] [(900002, (g, .box [dIs l, dI a]))] [900002]
   fun ps r => ∃ a' out, a' ≤ l.length ∧ nuV 10 out = true ∧ out.length ≤ most ∧ ps = [(g, .box [dIs l, dI a'])] ∧ r = dPs out := by
 refine acall_of Tryz.func50 rfl rfl Tryz.ntmps50 (rs := [.tmp 4]) (tys := [26]) rfl rfl (by simp) ?_ ?_
 ·intro q hq
  simp only [List.mem_cons, List.not_mem_nil, or_false] at hq
  subst hq
  simp [notFroz]
 have PK := fun a n ha hn hn2 => pick_spec l a n g hl ha hn hn2
 have P1 := PK a (most + 1) ha (by omega) (by omega)
 rw [show ((most + 1 : Nat) : Int) = (most : Int) + 1 by omega] at P1
 have hk1 := pickK_lt (l := l) (a := a) (n := most + 1) (by omega)
 have ha1 := pickA_le ha
 generalize pickK l a (most + 1) = k0 at *
 generalize pickA l a = a0 at *
 (refine awp_sr fun Y Yh => ?_; simp [go_sem]; ((repeat' (first|(refine ag_x ?_;simp [go_sem])|intro _|apply And.intro|(apply Yh;clear Yh Y)));all_goals first|apply Hold.mk|omega|assumption|skip))
 (refine awp_sr fun Y Yh => ?_; simp [go_sem]; ((repeat' (first|(refine ag_x ?_;simp [go_sem])|intro _|apply And.intro|(apply Yh;clear Yh Y)));all_goals first|apply Hold.mk|omega|assumption|skip))
 refine awp_nilslot 5 5 43 2 rfl fun g5 => ?_
 simp only [go_sem]
 refine awp_seq_k fun K1 hK1 => ?_
 (refine awp_sr fun Y Yh => ?_; simp [go_sem]; ((repeat' (first|(refine ag_x ?_;simp [go_sem])|intro _|apply And.intro|(apply Yh;clear Yh Y)));all_goals first|apply Hold.mk|omega|assumption|skip))
 (refine callA_l [900002] (.inl ⟨rfl,rfl⟩) (by simp [go_sem]) ?_; intro args ha; simp [go_sem] at ha; subst ha; refine ⟨_, _, P1, (by simp [go_sem]), ?_⟩; rintro ps r hps ⟨rfl, rfl⟩; simp [go_sem]; ((repeat' (first|(refine ag_x ?_;simp [go_sem])|intro _|apply And.intro|(apply Yh;clear Yh Y)));all_goals first|apply Hold.mk|omega|assumption|skip))
 refine awp_block ?_
 refine awp_loop (σ := Nat × Nat × List Prs × Nat) (fun x => ⟨[(0, .ptr 900002 g 0), (5, .own 5 x.2.2.2), (6, dI x.1)], [(900002, (g, .box [dIs l, dI x.2.1])), (5, x.2.2.2, .row 43 2 (x.2.2.1.map cP))]⟩)
  (fun x => x.2.1 ≤ l.length ∧ nuV 10 x.2.2.1 = true ∧ x.2.2.1.length + x.1 ≤ most) (fun x => x.1) (k0, a0, [], g5) ?_ ?_ ?_
 ·(refine cov_of ?_ ?_ <;> simp [go_sem])
 ·exact ⟨ha1, rfl, by simp; omega⟩
 rintro ⟨i, a, out, g5⟩ ⟨ha, hnu, hol⟩
 simp only at ha hnu hol
 refine awp_seq_k fun K2 hK2 => ?_
 (refine awp_sr fun Y Yh => ?_; simp [go_sem]; ((repeat' (first|(refine ag_x ?_;simp [go_sem])|intro _|apply And.intro|(apply Yh;clear Yh Y)));all_goals first|apply Hold.mk|omega|assumption|skip))
 (refine awp_if fun T F hT hF => ?_; simp [go_sem]; refine BR.intro (fun h3 => hT ?_) (fun h3 => hF ?_); all_goals clear hT hF T F; try simp at h3)
 ·refine awp_skip ?_
  refine hK2 _ ?_; clear hK2
  refine awp_seq_j (α := {x : Nat × List Prs × Nat // x.1 ≤ l.length ∧ nuV 10 x.2.1 = true ∧ x.2.1.length + (i - 1) ≤ most}) (fun x => ⟨[(0, .ptr 900002 g 0), (5, .own 5 x.1.2.2), (6, dI i)], [(900002, (g, .box [dIs l, dI x.1.1])), (5, x.1.2.2, .row 43 2 (x.1.2.1.map cP))]⟩) (fun K4 hK4 hM4 => ?_) (fun x => ?_)
  rotate_left
  ·obtain ⟨⟨a', out', g'⟩, h1, h2, h3'⟩ := x
   simp only at h1 h2 h3'
   obtain ⟨j, rfl⟩ : ∃ j, i = j + 1 := ⟨i - 1, by omega⟩
   (refine awp_r fun Y Yh => ?_; simp [go_sem]; ((repeat' (first|(refine ag_x ?_;simp [go_sem])|intro _|apply And.intro|(apply Yh;clear Yh Y)));all_goals first|apply Hold.mk|omega|assumption|skip))
   refine ⟨(j, a', out', g'), ?_, ⟨h1, h2, by simpa using h3'⟩, by simp⟩
   (refine cov_of ?_ ?_ <;> simp [go_sem])
  have P2 := PK a 8 ha (by decide) (by decide)
  have hk2 := pickK_lt (l := l) (a := a) (n := 8) (by decide)
  have ha2 := pickA_le ha
  generalize pickK l a 8 = k2 at *
  generalize pickA l a = a2 at *
  have P3 := PK a2 9 ha2 (by decide) (by decide)
  have hk3 := pickK_lt (l := l) (a := a2) (n := 9) (by decide)
  have ha3 := pickA_le ha2
  generalize pickK l a2 9 = k3 at *
  generalize pickA l a2 = a3 at *
  obtain ⟨nm, hnm, hnmm⟩ := lit_at nmsL (k := k2) hk2
  obtain ⟨wt, hwt, hwtm⟩ := lit_at wtsL (k := k3) hk3
  have hnl : nm.length ≤ 20 := (by decide : ∀ y ∈ nmsL, y.length ≤ 20) nm hnmm
  have hwl : wt.length ≤ 20 := (by decide : ∀ y ∈ wtsL, y.length ≤ 20) wt hwtm
  have r1 : ([[dS [97]], [dS [98]], [dS [99, 49]], [dS [100, 45, 101]], [dS [102]], [dS [97]], [dS [98]], [dS [103, 111, 110, 101]]] : List (List D))[k2]? = some [dS nm] := by
   have : (nmsL.map cS)[k2]? = some (cS nm) := by rw [List.getElem?_map, hnm]; rfl
   exact this
  have r2 : ([[dS []], [dS []], [dS [62, 61, 32, 49, 46, 48]], [dS [126, 62, 32, 49, 46, 48]], [dS [60, 32, 50, 46, 48]], [dS [126, 62, 32, 50, 46, 48]], [dS [61, 32, 49, 46, 53]], [dS [62, 32, 50, 46, 48, 46, 97]], [dS [33, 61, 32, 51]]] : List (List D))[k3]? = some [dS wt] := by
   have : (wtsL.map cS)[k3]? = some (cS wt) := by rw [List.getElem?_map, hwt]; rfl
   exact this
  have hsz := nuV_sz hnu (by decide)
  have NU := nu_spec (out ++ [(nm, wt)]) 10 ⟨by simp; omega, fun x hx => by
   rcases List.mem_append.1 hx with h | h
   ·exact hsz.2 x h
   ·simp at h; subst h; exact ⟨by show nm.length ≤ _; omega, by show wt.length ≤ _; omega⟩⟩ (by decide)
  generalize hnb : nuV 10 (out ++ [(nm, wt)]) = nb at *
  refine awp_block ?_
  refine awp_seq_j (α := Nat) (fun g' => ⟨[(0, .ptr 900002 g 0), (5, .own 5 g'), (6, dI i)], [(900002, (g, .box [dIs l, dI a3])), (5, g', .row 43 2 ((out ++ [(nm, wt)]).map cP))]⟩) (fun K15 hK15 hM15 => ?_) (fun g' => ?_)
  ·((refine awp_d (.qs [0, 2, 7] (.three 1 (.two 3 (.qs [4] (.three 5 (.two 6 (.one 8 (.qs [9, 10, 11] (.one 12 (.one 13 (.qs [14] (.nil)))))) 8 (.kp 6 (.qs [9] (.nb (.qs [10, 11] (.one 12 (.one 13 (.qs [14] (.nil))))))))) 6 (.kq 5 (.one 8 (.qs [9, 10, 11] (.one 12 (.one 13 (.qs [14] (.nil)))))) 8 (.qs [9, 5, 10, 11] (.one 12 (.one 13 (.qs [14] (.nil)))))) 8 (.qs [5] (.kp 6 (.qs [9] (.nb (.qs [10, 11] (.one 12 (.one 13 (.qs [14] (.nil))))))))))) 6 (.one 3 (.qs [4] (.kq 5 (.one 8 (.qs [9, 10, 11] (.one 12 (.one 13 (.qs [14] (.nil)))))) 8 (.qs [9, 5, 10, 11] (.one 12 (.one 13 (.qs [14] (.nil))))))))) 3 (.three 1 (.qs [4] (.three 5 (.two 6 (.one 8 (.qs [9, 10, 11] (.one 12 (.one 13 (.qs [14] (.nil)))))) 8 (.kp 6 (.qs [9] (.nb (.qs [10, 11] (.one 12 (.one 13 (.qs [14] (.nil))))))))) 6 (.kq 5 (.one 8 (.qs [9, 10, 11] (.one 12 (.one 13 (.qs [14] (.nil)))))) 8 (.qs [9, 5, 10, 11] (.one 12 (.one 13 (.qs [14] (.nil)))))) 8 (.qs [5] (.kp 6 (.qs [9] (.nb (.qs [10, 11] (.one 12 (.one 13 (.qs [14] (.nil))))))))))) 6 (.two 1 (.qs [4] (.kq 5 (.one 8 (.qs [9, 10, 11] (.one 12 (.one 13 (.qs [14] (.nil)))))) 8 (.qs [9, 5, 10, 11] (.one 12 (.one 13 (.qs [14] (.nil))))))) 8 (.qs [9, 10] (.kp 1 (.qs [4] (.nb (.qs [5, 11] (.one 12 (.one 13 (.qs [14] (.nil)))))))))) 8 (.kp2 1 (.qs [4] (.nb (.qs [5] (.kp 6 (.qs [9] (.nb (.qs [10, 11] (.one 12 (.one 13 (.qs [14] (.nil))))))))))) 6 (.qs [9] (.nb (.qs [10] (.kp 1 (.qs [4] (.nb (.qs [5, 11] (.one 12 (.one 13 (.qs [14] (.nil))))))))))))) 6 (.two 1 (.one 3 (.qs [4] (.kq 5 (.one 8 (.qs [9, 10, 11] (.one 12 (.one 13 (.qs [14] (.nil)))))) 8 (.qs [9, 5, 10, 11] (.one 12 (.one 13 (.qs [14] (.nil)))))))) 3 (.two 1 (.qs [4] (.kq 5 (.one 8 (.qs [9, 10, 11] (.one 12 (.one 13 (.qs [14] (.nil)))))) 8 (.qs [9, 5, 10, 11] (.one 12 (.one 13 (.qs [14] (.nil))))))) 8 (.qs [9, 10] (.kp 1 (.qs [4] (.nb (.qs [5, 11] (.one 12 (.one 13 (.qs [14] (.nil))))))))))))) (by kernel_rfl) ?_ ?_ ?_ ?_); (kernel_rfl); (exact (by decide +kernel)); (kernel_rfl); intro Y Yh; ((repeat' (first|(refine ag_x ?_;simp [go_sem, r1, r2])|refine adr_nil ?_|refine adr_two ?_ ?_|refine adr_kq ?_ ?_|refine adr_three ?_ ?_ ?_|refine adr_kp2 ?_ ?_|((first|refine adr_qs fun Y Yh=>?_|refine adr_y fun Y Yh=>?_);simp [go_sem, r1, r2])|intro _|apply And.intro|(apply Yh;clear Yh Y)));all_goals first|apply Hold.mk|omega|assumption|skip))
   all_goals (refine callA_l [900002] (.inl ⟨rfl,rfl⟩) (by simp [go_sem]) ?_; intro args ha; simp [go_sem] at ha; subst ha; refine ⟨_, _, P2, (by simp [go_sem, r1, r2]), ?_⟩; rintro ps r hps ⟨rfl, rfl⟩; simp [go_sem, r1, r2]; ((repeat' (first|(refine ag_x ?_;simp [go_sem, r1, r2])|refine adr_nil ?_|refine adr_two ?_ ?_|refine adr_kq ?_ ?_|refine adr_three ?_ ?_ ?_|refine adr_kp2 ?_ ?_|((first|refine adr_qs fun Y Yh=>?_|refine adr_y fun Y Yh=>?_);simp [go_sem, r1, r2])|intro _|apply And.intro|(apply Yh;clear Yh Y)));all_goals first|apply Hold.mk|omega|assumption|skip))
   all_goals (refine callA_l [900002] (.inl ⟨rfl,rfl⟩) (by simp [go_sem]) ?_; intro args ha; simp [go_sem] at ha; subst ha; refine ⟨_, _, P3, (by simp [go_sem, r1, r2]), ?_⟩; rintro ps r hps ⟨rfl, rfl⟩; simp [go_sem, r1, r2]; ((repeat' (first|(refine ag_x ?_;simp [go_sem, r1, r2])|refine adr_nil ?_|refine adr_two ?_ ?_|refine adr_kq ?_ ?_|refine adr_three ?_ ?_ ?_|refine adr_kp2 ?_ ?_|((first|refine adr_qs fun Y Yh=>?_|refine adr_y fun Y Yh=>?_);simp [go_sem, r1, r2])|intro _|apply And.intro|(apply Yh;clear Yh Y)));all_goals first|apply Hold.mk|omega|assumption|skip))
   all_goals
    refine hK15 _ ?_
    refine awp_renrow 5 5 rfl rfl (by decide) fun g' => ?_
    simp only [go_sem]
    refine hM15 g' _ ?_
    (refine cov_of ?_ ?_ <;> simp [go_sem])
  ·rw [show dPs (out ++ [(nm, wt)]) = D.sl 2 (out.map cP ++ [[dS nm, dS wt]]) by simp [go_sem]] at NU
   (refine awp_sr fun Y Yh => ?_; simp [go_sem]; ((repeat' (first|(refine ag_x ?_;simp [go_sem])|intro _|apply And.intro|(apply Yh;clear Yh Y)));all_goals first|apply Hold.mk|omega|assumption|skip))
   ((try refine CallT.toA ?_); refine callT_f (.inl ⟨rfl,rfl⟩) ?_; intro args ha; simp [go_sem] at ha; subst ha; refine ⟨_, NU, ?_⟩; rintro _ rfl; refine ⟨rfl, ?_⟩; simp [go_sem]; ((repeat' (first|(refine ag_x ?_;simp [go_sem])|intro _|apply And.intro|(apply Yh;clear Yh Y)));all_goals first|apply Hold.mk|omega|assumption|skip))
   cases nb with
   | true =>
    (refine awp_if fun T F hT hF => ?_; simp [go_sem]; refine hF ?_; clear hT hF T F)
    refine awp_skip ?_
    refine hK4 _ ?_
    refine hM4 ⟨(a3, out ++ [(nm, wt)], g'), ha3, hnb, by simp; omega⟩ _ ?_
    (refine cov_of ?_ ?_ <;> simp [go_sem])
   | false =>
    have hl1 : ((out.length : Int) + 1 - 1).toNat = out.length := by omega
    have hl2 : (out.length : Int) + 1 - 1 = out.length := by omega
    (refine awp_if fun T F hT hF => ?_; simp [go_sem]; refine hT ?_; clear hT hF T F)
    (refine awp_r fun Y Yh => ?_; simp [go_sem, hl1, hl2]; ((repeat' (first|(refine ag_x ?_;simp [go_sem, hl1, hl2])|intro _|apply And.intro|(apply Yh;clear Yh Y)));all_goals first|apply Hold.mk|omega|assumption|skip))
    refine hK4 _ ?_
    refine awp_renrow 5 5 rfl rfl (by decide) fun g'' => ?_
    simp only [go_sem]
    refine hM4 ⟨(a3, out, g''), ha3, hnu, by simp only; omega⟩ _ ?_
    (refine cov_of ?_ ?_ <;> simp [go_sem])
 ·refine awp_exit ?_
  simp only [go_sem]
  refine hK1 _ ?_; clear hK1
  (refine awp_sr fun Y Yh => ?_; simp [go_sem]; ((repeat' (first|(refine ag_x ?_;simp [go_sem])|intro _|apply And.intro|(apply Yh;clear Yh Y)));all_goals first|apply Hold.mk|omega|assumption|skip))
  refine awp_frzrow 4 rfl rfl ?_
  simp only [go_sem]
  (refine awp_ret ?_; simp [go_sem])
  exact ⟨a, ha, out, hnu, by omega, by simp⟩
def gnmL : List Bs := [[97], [98], [99, 49], [100, 45, 101], [102]]
def numL : List Bs := [[49, 46, 48], [49, 46, 53], [50, 46, 48], [50, 46, 49, 46, 97], [51]]
structure GrOk (s : Src) (w : List Prs) : Prop where
 nm : s.map (·.1) = gnmL
 vs : ∀ g ∈ s, vuV g.2 = true ∧ g.2.length ≤ 4
 wi : nuV 10 w = true
 wl : w.length ≤ 3
theorem grOk_su {s : Src} {w : List Prs} (h : GrOk s w) : suV s = true := by
 have hl : s.length = 5 := by have := congrArg List.length h.nm; simpa [gnmL] using this
 unfold suV
 rw [Bool.and_eq_true]
 refine ⟨by simp [hl], upTo_of fun i hi => ?_⟩
 obtain ⟨g, hg⟩ : ∃ g, s[i]? = some g := ⟨_, List.getElem?_eq_getElem hi⟩
 have hgn : gnmL[i]? = some g.1 := by rw [← h.nm, List.getElem?_map, hg]; rfl
 have hv := (h.vs g (List.mem_of_getElem? hg)).1
 unfold suAt
 rw [hg]
 simp only [hv, Bool.and_true]
 have hn : nameV g.1 = true := (by decide : ∀ y ∈ gnmL, nameV y = true) g.1 (List.mem_of_getElem? hgn)
 rw [hn, Bool.true_and]
 by_cases h0 : i = 0
 ·simp [h0]
 ·obtain ⟨y, hy⟩ : ∃ y, s[i - 1]? = some y := ⟨_, List.getElem?_eq_getElem (by omega)⟩
  have hyn : gnmL[i - 1]? = some y.1 := by rw [← h.nm, List.getElem?_map, hy]; rfl
  rw [hy]
  simp only [h0, decide_false, Bool.false_or]
  have hi5 : i < 5 := by omega
  have key : ∀ i, i < 5 → i ≠ 0 → ∀ a b, gnmL[i - 1]? = some a → gnmL[i]? = some b → Op.bytesLess a b = true := by
   intro i hi h0 a b ha hb
   match i, hi, h0 with
   | 1, _, _ => simp [gnmL] at ha hb; subst ha hb; decide
   | 2, _, _ => simp [gnmL] at ha hb; subst ha hb; decide
   | 3, _, _ => simp [gnmL] at ha hb; subst ha hb; decide
   | 4, _, _ => simp [gnmL] at ha hb; subst ha hb; decide
   | 0, _, h0 => exact absurd rfl h0
   | n + 5, h, _ => omega
  exact key i hi5 h0 _ _ hyn hgn
set_option maxHeartbeats 32000000 in
theorem rGrown_spec (l : List Int) (hl : l.length ≤ 9223372036854775807) : PCall Tryz.prog 13 [dIs l] fun r => ∃ s w, GrOk s w ∧ r = .tup [dSrc s, dPs w] := by 
 refine pcall_of Tryz.func13 rfl rfl Tryz.ntmps13 (rs := [.cell 2 25, .tmp 3]) (tys := [25, 26]) rfl rfl (by simp) ?_
 have PK := fun a n g ha hn hn2 => pick_spec l a n g hl ha hn hn2
 have GN := fun a m g ha hm => gneeds_spec l a m g hl ha hm
 (refine awp_sr fun Y Yh => ?_; simp [go_sem]; ((repeat' (first|(refine ag_x ?_;simp [go_sem])|intro _|apply And.intro|(apply Yh;clear Yh Y)));all_goals first|apply Hold.mk|omega|assumption|skip))
 rename_i g2
 (refine awp_sr fun Y Yh => ?_; simp [go_sem]; ((repeat' (first|(refine ag_x ?_;simp [go_sem])|intro _|apply And.intro|(apply Yh;clear Yh Y)));all_goals first|apply Hold.mk|omega|assumption|skip))
 refine awp_renbox 4 900002 rfl rfl (by decide) fun g4 => ?_
 simp only [go_sem]
 (refine awp_sr fun Y Yh => ?_; simp [go_sem]; ((repeat' (first|(refine ag_x ?_;simp [go_sem])|intro _|apply And.intro|(apply Yh;clear Yh Y)));all_goals first|apply Hold.mk|omega|assumption|skip))
 rename_i g5
 refine awp_nilbox 900011 46 2 0 (sb := 5) rfl rfl (by decide) fun gs => ?_
 simp only [List.set, go_sem]
 (refine awp_sr fun Y Yh => ?_; simp [go_sem]; ((repeat' (first|(refine ag_x ?_;simp [go_sem])|intro _|apply And.intro|(apply Yh;clear Yh Y)));all_goals first|apply Hold.mk|omega|assumption|skip))
 refine awp_frzrow 6 rfl rfl ?_
 simp only [go_sem]
 refine awp_seq_k fun K1 hK1 => ?_
 (refine awp_sr fun Y Yh => ?_; simp [go_sem]; ((repeat' (first|(refine ag_x ?_;simp [go_sem])|intro _|apply And.intro|(apply Yh;clear Yh Y)));all_goals first|apply Hold.mk|omega|assumption|skip))
 refine awp_block ?_
 refine awp_loop (σ := Nat × Nat × Src × Nat) (fun x => ⟨[(0, dIs l), (2, .ptr 2 g2 0), (4, .ptr 900002 g4 0), (5, .ptr 5 g5 0), (6, dSs gnmL), (7, dI x.1)], [(2, (g2, .box [.v (.slice none 0 0)])), (900002, (g4, .box [dIs l, dI x.2.1])), (5, (g5, .box [.own 900011 x.2.2.2])), (900011, (x.2.2.2, .row 46 2 (x.2.2.1.map cGm)))]⟩)
  (fun x => x.1 ≤ 5 ∧ x.2.1 ≤ l.length ∧ x.2.2.1.map (·.1) = gnmL.take x.1 ∧ ∀ g ∈ x.2.2.1, vuV g.2 = true ∧ g.2.length ≤ 4) (fun x => 5 - x.1) (0, 0, [], gs) ?_ ?_ ?_
 ·(refine cov_of ?_ ?_ <;> simp [go_sem, gnmL])
 ·simp
 rintro ⟨i, a, s, gs⟩ ⟨hi, ha, hsn, hsv⟩
 simp only at hi ha hsn hsv
 have hsl : s.length = i := by have := congrArg List.length hsn; simp [gnmL] at this; omega
 refine awp_seq_k fun K2 hK2 => ?_
 (refine awp_sr fun Y Yh => ?_; simp [go_sem]; ((repeat' (first|(refine ag_x ?_;simp [go_sem])|intro _|apply And.intro|(apply Yh;clear Yh Y)));all_goals first|apply Hold.mk|omega|assumption|skip))
 (refine awp_if fun T F hT hF => ?_; simp [go_sem]; refine BR.intro (fun h3 => hT ?_) (fun h3 => hF ?_); all_goals clear hT hF T F; try simp at h3)
 ·refine awp_skip ?_
  refine hK2 _ ?_; clear hK2
  obtain ⟨nm, hnm, hnmm⟩ := lit_at gnmL (k := i) (by simp [gnmL]; omega)
  have r0 : (gnmL.map cS)[i]? = some (cS nm) := by rw [List.getElem?_map, hnm]; rfl
  refine awp_seq_k fun K4 hK4 => ?_
  refine awp_block ?_
  (refine awp_sr fun Y Yh => ?_; simp [go_sem, hnm]; ((repeat' (first|(refine ag_x ?_;simp [go_sem, hnm])|intro _|apply And.intro|(apply Yh;clear Yh Y)));all_goals first|apply Hold.mk|omega|assumption|skip))
  rename_i g8
  refine awp_nilbox 900010 48 2 1 (sb := 8) rfl rfl (by decide) fun gv => ?_
  simp only [List.set, go_sem]
  have P1 := PK a 4 g4 ha (by decide) (by decide)
  have hk1 := pickK_lt (l := l) (a := a) (n := 4) (by decide)
  have ha1 := pickA_le ha
  generalize pickK l a 4 = k1 at *
  generalize pickA l a = a1 at *
  refine awp_seq_k fun K5 hK5 => ?_
  (refine awp_sr fun Y Yh => ?_; simp [go_sem]; ((repeat' (first|(refine ag_x ?_;simp [go_sem])|intro _|apply And.intro|(apply Yh;clear Yh Y)));all_goals first|apply Hold.mk|omega|assumption|skip))
  (refine callA_l [900002] (.inl ⟨rfl,rfl⟩) (by simp [go_sem]) ?_; intro args ha; simp [go_sem] at ha; subst ha; refine ⟨_, _, P1, (by simp [go_sem]), ?_⟩; rintro ps r hps ⟨rfl, rfl⟩; simp [go_sem]; ((repeat' (first|(refine ag_x ?_;simp [go_sem])|intro _|apply And.intro|(apply Yh;clear Yh Y)));all_goals first|apply Hold.mk|omega|assumption|skip))
  refine awp_block ?_
  refine awp_loop (σ := Nat × Nat × List Vrs × Nat) (fun x => ⟨[(0, dIs l), (2, .ptr 2 g2 0), (4, .ptr 900002 g4 0), (5, .ptr 5 g5 0), (6, dSs gnmL), (7, dI i), (8, .ptr 8 g8 0), (9, dI ((x.1 : Int) - 1))], [(2, (g2, .box [.v (.slice none 0 0)])), (900002, (g4, .box [dIs l, dI x.2.1])), (5, (g5, .box [.own 900011 gs])), (900011, (gs, .row 46 2 (s.map cGm))), (8, (g8, .box [dS nm, .own 900010 x.2.2.2])), (900010, (x.2.2.2, .row 48 2 (x.2.2.1.map cVr)))]⟩)
   (fun x => x.2.1 ≤ l.length ∧ vuV x.2.2.1 = true ∧ x.2.2.1.length + x.1 ≤ 4) (fun x => x.1) (k1 + 1, a1, [], gv) ?_ ?_ ?_
  ·(refine cov_of ?_ ?_ <;> simp [go_sem])
   try omega
  ·exact ⟨ha1, rfl, by simp; omega⟩
  rintro ⟨q, a, vs, gv⟩ ⟨ha, hvu, hvl⟩
  simp only at ha hvu hvl
  have tl5 : ∀ S', Cov S' ⟨[(0, dIs l), (2, .ptr 2 g2 0), (4, .ptr 900002 g4 0), (5, .ptr 5 g5 0), (6, dSs gnmL), (7, dI i), (8, .ptr 8 g8 0)], [(2, (g2, .box [.v (.slice none 0 0)])), (900002, (g4, .box [dIs l, dI a])), (5, (g5, .box [.own 900011 gs])), (900011, (gs, .row 46 2 (s.map cGm))), (8, (g8, .box [dS nm, .own 900010 gv])), (900010, (gv, .row 48 2 (vs.map cVr)))]⟩ → K5 S' := fun S' hS => by
   refine hK5 _ ?_; clear hK5
   refine awp_cov hS ?_; clear hS
   (refine awp_r fun Y Yh => ?_; simp [go_sem]; ((repeat' (first|(refine ag_x ?_;simp [go_sem])|intro _|apply And.intro|(apply Yh;clear Yh Y)));all_goals first|apply Hold.mk|omega|assumption|skip))
   refine hK4 _ ?_; clear hK4
   (refine awp_r fun Y Yh => ?_; simp [go_sem]; ((repeat' (first|(refine ag_x ?_;simp [go_sem])|intro _|apply And.intro|(apply Yh;clear Yh Y)));all_goals first|apply Hold.mk|omega|assumption|skip))
   rename_i g' g''
   refine ⟨(i + 1, a, s ++ [(nm, vs)], g''), ?_, ⟨by simp only; omega, ha, ?_, ?_⟩, by simp only; omega⟩
   ·(refine cov_of ?_ ?_ <;> simp [go_sem])
   ·rw [List.map_append, hsn, List.take_add_one, hnm]; rfl
   ·intro g hg
    rcases List.mem_append.1 hg with h | h
    ·exact hsv g h
    ·simp at h; subst h; exact ⟨hvu, by show vs.length ≤ 4; omega⟩
  clear hK5 hK4
  refine awp_seq_k fun K6 hK6 => ?_
  cases q with
  | zero =>
   (refine awp_sr fun Y Yh => ?_; simp [go_sem]; ((repeat' (first|(refine ag_false ?_ ?_ ?_;(focus (simp [go_sem, undef];done));(focus (simp [go_sem];done));simp [go_sem])|(refine ag_true ?_ ?_;(focus (simp [go_sem, undef];done));simp [go_sem])|(refine ag_x ?_;simp [go_sem, undef])|intro _|apply And.intro|(apply Yh;clear Yh Y)));all_goals first|apply Hold.mk|omega|assumption|skip))
   (refine awp_if fun T F hT hF => ?_; simp [go_sem]; refine hF ?_; clear hT hF T F)
   refine awp_exit ?_
   simp only [go_sem]
   refine tl5 _ ?_
   (refine cov_of ?_ ?_ <;> simp [go_sem])
  | succ q =>
   have hq0 : (0 : Int) ≤ (q : Int) + 1 - 1 := by omega
   have hqe : (q : Int) + 1 - 1 = q := by omega
   by_cases hal : a < l.length
   ·have hali : (a : Int) < l.length := by omega
    (refine awp_sr fun Y Yh => ?_; simp [go_sem, hq0, hqe, hal, hali]; ((repeat' (first|(refine ag_x ?_;simp [go_sem, hq0, hqe, hal, hali])|intro _|apply And.intro|(apply Yh;clear Yh Y)));all_goals first|apply Hold.mk|omega|assumption|skip))
    (refine awp_if fun T F hT hF => ?_; simp [go_sem, hq0, hqe, hal, hali]; refine hT ?_; clear hT hF T F)
    refine awp_skip ?_
    refine hK6 _ ?_; clear hK6
    refine awp_seq_j (α := {x : Nat × List Vrs × Nat // x.1 ≤ l.length ∧ vuV x.2.1 = true ∧ x.2.1.length + q ≤ 4}) (fun x => ⟨[(0, dIs l), (2, .ptr 2 g2 0), (4, .ptr 900002 g4 0), (5, .ptr 5 g5 0), (6, dSs gnmL), (7, dI i), (8, .ptr 8 g8 0), (9, dI q)], [(2, (g2, .box [.v (.slice none 0 0)])), (900002, (g4, .box [dIs l, dI x.1.1])), (5, (g5, .box [.own 900011 gs])), (900011, (gs, .row 46 2 (s.map cGm))), (8, (g8, .box [dS nm, .own 900010 x.1.2.2])), (900010, (x.1.2.2, .row 48 2 (x.1.2.1.map cVr)))]⟩) (fun K8 hK8 hM8 => ?_) (fun x => ?_)
    rotate_left
    ·obtain ⟨⟨a', vs', g'⟩, h1, h2, h3'⟩ := x
     simp only at h1 h2 h3'
     (refine awp_r fun Y Yh => ?_; simp [go_sem]; ((repeat' (first|(refine ag_x ?_;simp [go_sem])|intro _|apply And.intro|(apply Yh;clear Yh Y)));all_goals first|apply Hold.mk|omega|assumption|skip))
     refine ⟨(q, a', vs', g'), ?_, ⟨h1, h2, by simp only; omega⟩, by simp⟩
     (refine cov_of ?_ ?_ <;> simp [go_sem])
    have P2 := PK a 5 g4 ha (by decide) (by decide)
    have hk2 := pickK_lt (l := l) (a := a) (n := 5) (by decide)
    have ha2 := pickA_le ha
    generalize pickK l a 5 = k2 at *
    generalize pickA l a = a2 at *
    have N2 := GN a2 2 g4 ha2 (by decide)
    obtain ⟨num, hnum, hnumm⟩ := lit_at numL (k := k2) hk2
    have hnl : num.length ≤ 20 := (by decide : ∀ y ∈ numL, y.length ≤ 20) num hnumm
    have r1 : ([[dS [49, 46, 48]], [dS [49, 46, 53]], [dS [50, 46, 48]], [dS [50, 46, 49, 46, 97]], [dS [51]]] : List (List D))[k2]? = some [dS num] := by
     have : (numL.map cS)[k2]? = some (cS num) := by rw [List.getElem?_map, hnum]; rfl
     exact this
    refine awp_block ?_
    refine awp_seq_j (α := {x : Nat × List Prs // x.1 ≤ l.length ∧ nuV 10 x.2 = true ∧ x.2.length ≤ 2}) (fun x => ⟨[(0, dIs l), (2, .ptr 2 g2 0), (4, .ptr 900002 g4 0), (5, .ptr 5 g5 0), (6, dSs gnmL), (7, dI i), (8, .ptr 8 g8 0), (9, dI q), (10, .rd [dS num, dPs x.1.2])], [(2, (g2, .box [.v (.slice none 0 0)])), (900002, (g4, .box [dIs l, dI x.1.1])), (5, (g5, .box [.own 900011 gs])), (900011, (gs, .row 46 2 (s.map cGm))), (8, (g8, .box [dS nm, .own 900010 gv])), (900010, (gv, .row 48 2 (vs.map cVr)))]⟩) (fun K9 hK9 hM9 => ?_) (fun x => ?_)
    ·((refine awp_d (.qs [1, 5] (.three 0 (.two 2 (.qs [3] (.three 4 (.two 6 (.qs [7] (.kp 8 (.one 9 (.nil)))) 8 (.one 6 (.qs [7] (.one 9 (.nil))))) 6 (.qs [4, 7] (.kp 8 (.one 9 (.nil)))) 8 (.kq 4 (.one 6 (.qs [7] (.one 9 (.nil)))) 6 (.qs [4, 7] (.one 9 (.nil)))))) 8 (.one 2 (.qs [3] (.kq 4 (.one 6 (.qs [7] (.one 9 (.nil)))) 6 (.qs [4, 7] (.one 9 (.nil))))))) 2 (.three 0 (.qs [3] (.three 4 (.two 6 (.qs [7] (.kp 8 (.one 9 (.nil)))) 8 (.one 6 (.qs [7] (.one 9 (.nil))))) 6 (.qs [4, 7] (.kp 8 (.one 9 (.nil)))) 8 (.kq 4 (.one 6 (.qs [7] (.one 9 (.nil)))) 6 (.qs [4, 7] (.one 9 (.nil)))))) 6 (.kp2 0 (.qs [3] (.nb (.qs [4, 7] (.kp 8 (.one 9 (.nil)))))) 8 (.kp 0 (.qs [3] (.nb (.qs [4, 7] (.one 9 (.nil))))))) 8 (.two 0 (.qs [3] (.kq 4 (.one 6 (.qs [7] (.one 9 (.nil)))) 6 (.qs [4, 7] (.one 9 (.nil))))) 6 (.one 0 (.qs [3, 4, 7] (.one 9 (.nil)))))) 8 (.two 0 (.one 2 (.qs [3] (.kq 4 (.one 6 (.qs [7] (.one 9 (.nil)))) 6 (.qs [4, 7] (.one 9 (.nil)))))) 2 (.two 0 (.qs [3] (.kq 4 (.one 6 (.qs [7] (.one 9 (.nil)))) 6 (.qs [4, 7] (.one 9 (.nil))))) 6 (.one 0 (.qs [3, 4, 7] (.one 9 (.nil)))))))) (by kernel_rfl) ?_ ?_ ?_ ?_); (kernel_rfl); (exact (by decide +kernel)); (kernel_rfl); intro Y Yh; ((repeat' (first|(refine ag_x ?_;simp [go_sem, r1, hqe])|refine adr_nil ?_|refine adr_two ?_ ?_|refine adr_kq ?_ ?_|refine adr_three ?_ ?_ ?_|refine adr_kp2 ?_ ?_|((first|refine adr_qs fun Y Yh=>?_|refine adr_y fun Y Yh=>?_);simp [go_sem, r1, hqe])|intro _|apply And.intro|(apply Yh;clear Yh Y)));all_goals first|apply Hold.mk|omega|assumption|skip))
     all_goals (refine callA_l [900002] (.inl ⟨rfl,rfl⟩) (by simp [go_sem]) ?_; intro args ha; simp [go_sem] at ha; subst ha; refine ⟨_, _, P2, (by simp [go_sem, r1, hqe]), ?_⟩; rintro ps r hps ⟨rfl, rfl⟩; simp [go_sem, r1, hqe]; ((repeat' (first|(refine ag_x ?_;simp [go_sem, r1, hqe])|refine adr_nil ?_|refine adr_two ?_ ?_|refine adr_kq ?_ ?_|refine adr_three ?_ ?_ ?_|refine adr_kp2 ?_ ?_|((first|refine adr_qs fun Y Yh=>?_|refine adr_y fun Y Yh=>?_);simp [go_sem, r1, hqe])|intro _|apply And.intro|(apply Yh;clear Yh Y)));all_goals first|apply Hold.mk|omega|assumption|skip))
     all_goals (refine callA_l [900002] (.inl ⟨rfl,rfl⟩) (by simp [go_sem]) ?_; intro args ha; simp [go_sem] at ha; subst ha; refine ⟨_, _, N2, (by simp [go_sem, r1, hqe]), ?_⟩; rintro ps r hps ⟨a', out, h1, h2, h3', rfl, rfl⟩; simp [go_sem, r1, hqe]; ((repeat' (first|(refine ag_x ?_;simp [go_sem, r1, hqe])|refine adr_nil ?_|refine adr_two ?_ ?_|refine adr_kq ?_ ?_|refine adr_three ?_ ?_ ?_|refine adr_kp2 ?_ ?_|((first|refine adr_qs fun Y Yh=>?_|refine adr_y fun Y Yh=>?_);simp [go_sem, r1, hqe])|intro _|apply And.intro|(apply Yh;clear Yh Y)));all_goals first|apply Hold.mk|omega|assumption|skip))
     all_goals
      refine hK9 _ ?_
      refine awp_frzbox 10 rfl rfl ?_
      simp only [go_sem]
      refine hM9 ⟨(a', out), h1, h2, h3'⟩ _ ?_
      (refine cov_of ?_ ?_ <;> simp [go_sem])
    ·obtain ⟨⟨a', out⟩, h1, h2, h3'⟩ := x
     simp only at h1 h2 h3'
     have hvz : ∀ v ∈ vs ++ [(num, out)], SzV v := fun v hv => by
      rcases List.mem_append.1 hv with h | h
      ·have := (vuV_parts hvu).2 v h
       exact ⟨by have := readV_len this.1; omega, nuV_sz this.2 (by decide)⟩
      ·simp at h; subst h; exact ⟨by show num.length ≤ _; omega, nuV_sz h2 (by decide)⟩
     have VS := versions_spec (vs ++ [(num, out)]) (by simp; omega) hvz
     rw [show dVrs (vs ++ [(num, out)]) = D.sl 2 (vs.map cVr ++ [[dS num, dPs out]]) by simp [go_sem]] at VS
     generalize hnb : vuV (vs ++ [(num, out)]) = nb at *
     (refine awp_sr fun Y Yh => ?_; simp [go_sem]; ((repeat' (first|(refine ag_x ?_;simp [go_sem])|intro _|apply And.intro|(apply Yh;clear Yh Y)));all_goals first|apply Hold.mk|omega|assumption|skip))
     (refine awp_sr fun Y Yh => ?_; simp [go_sem]; ((repeat' (first|(refine ag_x ?_;simp [go_sem])|intro _|apply And.intro|(apply Yh;clear Yh Y)));all_goals first|apply Hold.mk|omega|assumption|skip))
     ((try refine CallT.toA ?_); refine callT_f (.inl ⟨rfl,rfl⟩) ?_; intro args ha; simp [go_sem] at ha; subst ha; refine ⟨_, VS, ?_⟩; rintro _ rfl; refine ⟨rfl, ?_⟩; simp [go_sem]; ((repeat' (first|(refine ag_x ?_;simp [go_sem])|intro _|apply And.intro|(apply Yh;clear Yh Y)));all_goals first|apply Hold.mk|omega|assumption|skip))
     rename_i gq1 gq2
     cases nb with
     | true =>
      (refine awp_if fun T F hT hF => ?_; simp [go_sem]; refine hF ?_; clear hT hF T F)
      refine awp_skip ?_
      refine hK8 _ ?_
      refine hM8 ⟨(a', vs ++ [(num, out)], gq2), h1, hnb, by simp; omega⟩ _ ?_
      (refine cov_of ?_ ?_ <;> simp [go_sem])
     | false =>
      have hl1 : ((vs.length : Int) + 1 - 1).toNat = vs.length := by omega
      have hl2 : (vs.length : Int) + 1 - 1 = vs.length := by omega
      (refine awp_if fun T F hT hF => ?_; simp [go_sem]; refine hT ?_; clear hT hF T F)
      (refine awp_r fun Y Yh => ?_; simp [go_sem, hl1, hl2]; ((repeat' (first|(refine ag_x ?_;simp [go_sem, hl1, hl2])|intro _|apply And.intro|(apply Yh;clear Yh Y)));all_goals first|apply Hold.mk|omega|assumption|skip))
      rename_i gq3
      refine hK8 _ ?_
      refine hM8 ⟨(a', vs, gq3), h1, hvu, by simp only; omega⟩ _ ?_
      (refine cov_of ?_ ?_ <;> simp [go_sem])
   ·have hali : ¬ (a : Int) < l.length := by omega
    (refine awp_sr fun Y Yh => ?_; simp [go_sem, hq0, hqe, hal, hali]; ((repeat' (first|(refine ag_x ?_;simp [go_sem, hq0, hqe, hal, hali])|intro _|apply And.intro|(apply Yh;clear Yh Y)));all_goals first|apply Hold.mk|omega|assumption|skip))
    (refine awp_if fun T F hT hF => ?_; simp [go_sem, hq0, hqe, hal, hali]; refine hF ?_; clear hT hF T F)
    refine awp_exit ?_
    simp only [go_sem]
    refine tl5 _ ?_
    (refine cov_of ?_ ?_ <;> simp [go_sem])
 ·refine awp_exit ?_
  simp only [go_sem]
  refine hK1 _ ?_; clear hK1
  have hi5 : i = 5 := by omega
  subst hi5
  refine awp_frzin 900011 5 0 rfl rfl (by decide) rfl ?_
  simp only [go_sem, List.set]
  ((refine awp_dr (.qs [1] (.kq 0 (.one 2 (.one 3 (.qs [4] (.nil)))) 2 (.qs [0] (.one 3 (.qs [4] (.nil)))))) (by kernel_rfl) ?_ ?_ ?_ ?_); (kernel_rfl); (exact (by decide +kernel)); (kernel_rfl); intro Y Yh; ((repeat' (first|(refine ag_x ?_;simp [go_sem])|refine adr_nil ?_|refine adr_kq ?_ ?_|((first|refine adr_qs fun Y Yh=>?_|refine adr_y fun Y Yh=>?_);simp [go_sem])|intro _|apply And.intro|(apply Yh;clear Yh Y)));all_goals first|apply Hold.mk|omega|assumption|skip))
  all_goals
   (refine callA_l [900002] (.inl ⟨rfl,rfl⟩) (by simp [go_sem]) ?_; intro args ha; simp [go_sem] at ha; subst ha; refine ⟨_, _, (GN a 3 g4 ha (by decide)), (by simp [go_sem]), ?_⟩; rintro ps r hps ⟨a', w, h1, h2, h3', rfl, rfl⟩; simp [go_sem]; ((repeat' (first|(refine ag_x ?_;simp [go_sem])|refine adr_nil ?_|refine adr_kq ?_ ?_|((first|refine adr_qs fun Y Yh=>?_|refine adr_y fun Y Yh=>?_);simp [go_sem])|intro _|apply And.intro|(apply Yh;clear Yh Y)));all_goals first|apply Hold.mk|omega|assumption|skip))
   (refine awp_ret ?_; simp [go_sem])
   exact ⟨s, w, ⟨hsn, hsv, h2, h3'⟩, by simp⟩
end Go.Proofs.YteekfnhhlcmcgaaGreatDoor
