/- Part of a proof: see the last text. -/
import Derived.Test.YteekfnhhlcmcgaaGreatDoorH14
import Derived.Test.YteekfnhhlcmcgaaGreatDoorH10
import Derived.Test.YteekfnhhlcmcgaaGreatDoorH08
import Derived.Test.YteekfnhhlcmcgaaGreatDoorH11
import Derived.Test.YteekfnhhlcmcgaaGreatDoorH16
set_option linter.unusedVariables false
set_option linter.unusedSimpArgs false
namespace Go.Proofs.YteekfnhhlcmcgaaGreatDoor
open Go.Eng Go.Wh Go.Ver Go.Lk
set_option maxRecDepth 20000
attribute [local irreducible] AG CallA CallT AWp PCall ACall AgC
set_option maxHeartbeats 16000000 in
theorem J3 (s : Src) (p : Prs) (hs : SzS s) : PCall Tryz.prog 103 [dSrc s, dP p] fun r => r = dB (fndV s p).isSome := by 
 refine qw Tryz.func103 rfl rfl Tryz.ntmps103 (rs := [.tmp 4]) (tys := [4]) rfl rfl (by simp) ?_
 obtain ⟨hs0, hs1⟩ := hs
 have hst := fun i g => @fnd_step s p i g
 have he := fnd_end s p
 have hz : fndV s p = (s.drop 0).findSome? (fndG p) := rfl
 generalize fndV s p = r0 at *
 generalize hF : (fun k => (s.drop k).findSome? (fndG p)) = F at *
 have hF1 : ∀ k, (s.drop k).findSome? (fndG p) = F k := fun k => by rw [← hF]
 simp only [hF1] at hst hz he
 clear hF hF1
 (refine qc fun Y Yh=>?_;simp[go_sem];intro _;intro _;apply Yh;clear Yh Y;apply Xi)
 refine qA 2 rfl rfl ?_
 simp only [go_sem]
 refine qA 3 rfl rfl ?_
 simp only [go_sem]
 refine qf fun K1 hK1 => ?_
 (refine qc fun Y Yh=>?_;simp[go_sem];apply Yh;clear Yh Y;apply Xi)
 refine qj ?_
 refine qx (σ := Nat) (fun i => ⟨[(2, .rd [dGms s]), (3, .rd [dS p.1, dS p.2]), (5, dI i)], []⟩) (fun i => i ≤ s.length ∧ r0 = F i) (fun i => s.length - i) 0 ?_ ?_ ?_
 ·(refine ql ?_ ?_ <;> simp[go_sem])
 ·exact ⟨by simp, hz⟩
 rintro i ⟨hi, hr⟩
 refine qf fun K2 hK2 => ?_
 (refine qc fun Y Yh=>?_;simp[go_sem];apply Yh;clear Yh Y;apply Xi)
 (refine qg fun T F hT hF=>?_;simp[go_sem];refine BR.intro (fun h3=>hT ?_) (fun h3=>hF ?_);all_goals clear hT hF T F;try simp at h3)
 ·refine qh ?_
  refine hK2 _ ?_; clear hK2
  obtain ⟨x, hx⟩ : ∃ x, s[i]? = some x := ⟨_, List.getElem?_eq_getElem (by omega)⟩
  obtain ⟨hx1, hx2, hx3⟩ := hs1 x (List.mem_of_getElem? hx)
  have hst1 := hst i x hx
  have hin := fun k v => @find_step x.2 p.2 k v
  have hie : (x.2.drop x.2.length).find? (fun v => decide (v.1 = p.2)) = none := by rw [List.drop_length]; rfl
  have hG : fndG p x = if x.1 = p.1 then (x.2.drop 0).find? (fun v => decide (v.1 = p.2)) else none := rfl
  generalize hE : (fun k => (x.2.drop k).find? (fun v => decide (v.1 = p.2))) = E at *
  have hE1 : ∀ k, (x.2.drop k).find? (fun v => decide (v.1 = p.2)) = E k := fun k => by rw [← hE]
  simp only [hE1] at hin hie hG
  clear hE hE1
  refine qf fun K4 hK4 => ?_
  refine qj ?_
  (refine qc fun Y Yh=>?_;simp[go_sem];apply Yh;clear Yh Y;apply Xi)
  refine qj ?_
  refine qx (σ := Nat) (fun k => ⟨[(2, .rd [dGms s]), (3, .rd [dS p.1, dS p.2]), (5, dI i), (6, dI k)], []⟩) (fun k => k ≤ x.2.length ∧ fndG p x = if x.1 = p.1 then E k else none) (fun k => x.2.length - k) 0 ?_ ?_ ?_
  ·(refine ql ?_ ?_ <;> simp[go_sem])
  ·exact ⟨by simp, hG⟩
  rintro k ⟨hk, hg⟩
  refine qf fun K5 hK5 => ?_
  (refine qc fun Y Yh=>?_;simp[go_sem, hx];apply Yh;clear Yh Y;apply Xi)
  (refine qg fun T F hT hF=>?_;simp[go_sem];refine BR.intro (fun h5=>hT ?_) (fun h5=>hF ?_);all_goals clear hT hF T F;try simp at h5)
  ·refine qh ?_
   refine hK5 _ ?_; clear hK5
   obtain ⟨v, hv⟩ : ∃ v, x.2[k]? = some v := ⟨_, List.getElem?_eq_getElem (by omega)⟩
   have hin1 := hin k v hv
   refine qf fun K6 hK6 => ?_
   refine qj ?_
   have tl6 : ∀ S', (fndG p x = if x.1 = p.1 then E (k + 1) else none) → Cov S' ⟨[(2, .rd [dGms s]), (3, .rd [dS p.1, dS p.2]), (5, dI i), (6, dI k)], []⟩ → K6 S' := fun S' hg2 hS => by
    refine hK6 _ ?_; clear hK6
    refine qN hS ?_; clear hS
    (refine qB fun Y Yh=>?_;simp[go_sem];((repeat' (first|apply And.intro|(apply Yh;clear Yh Y)));all_goals first|apply Xi|omega))
    refine ⟨k + 1, ?_, ⟨by omega, hg2⟩, by omega⟩
    (refine ql ?_ ?_ <;> simp[go_sem])
   clear hK6
   by_cases h7 : x.1 = p.1
   ·rw [if_pos h7] at hg tl6
    by_cases h8 : v.1 = p.2
    ·rw [if_pos h8] at hin1
     have h0 : r0 = some v := by
      rw [hg, hin1] at hst1
      exact hr.trans hst1
     subst h0
     ((refine qE (.qs [0, 2, 6, 1, 3, 4, 5, 7, 8, 9, 10, 12, 16, 20, 11, 13, 14, 15, 17, 18, 19, 21, 22, 23] (.nil)) (by kernel_rfl) ?_ ?_ ?_ ?_);kernel_rfl;exact (by decide +kernel);kernel_rfl;intro Y Yh;((repeat' (first|refine qy ?_|(refine qo fun Y Yh=>?_;simp[go_sem, hx, hv, h7, h8])|(apply Yh;clear Yh Y)));all_goals apply Xi))
     (refine qg fun T F hT hF=>?_;simp[go_sem, h7, h8];refine hT ?_;clear hT hF T F)
     (refine qc fun Y Yh=>?_;simp[go_sem];apply Yh;clear Yh Y;apply Xi)
     (refine qi ?_;simp[go_sem])
    ·rw [if_neg h8] at hin1
     have h8b : (v.1 == p.2) = false := by simp [h8]
     ((refine qE (.qs [0, 2, 6, 1, 3, 4, 5, 7, 8, 9, 10, 12, 16, 20, 11, 13, 14, 15, 17, 18, 19, 21, 22, 23] (.nil)) (by kernel_rfl) ?_ ?_ ?_ ?_);kernel_rfl;exact (by decide +kernel);kernel_rfl;intro Y Yh;((repeat' (first|refine qy ?_|(refine qo fun Y Yh=>?_;simp[go_sem, hx, hv, h7, h8])|(apply Yh;clear Yh Y)));all_goals apply Xi))
     (refine qg fun T F hT hF=>?_;simp[go_sem, h7, h8, h8b];refine hF ?_;clear hT hF T F)
     refine qh ?_
     refine tl6 _ (by rw [hg, hin1]) ?_
     (refine ql ?_ ?_ <;> simp[go_sem])
   ·have h7b : (x.1 == p.1) = false := by simp [h7]
    ((refine qE (.qs [0, 2, 6, 1, 3, 4, 5, 7, 8, 9] (.sk 10 (.sk 12 (.sk 16 (.sk 20 (.sk 11 (.sk 13 (.sk 14 (.sk 15 (.sk 17 (.sk 18 (.sk 19 (.sk 21 (.sk 22 (.qs [23] (.nil)))))))))))))))) (by kernel_rfl) ?_ ?_ ?_ ?_);kernel_rfl;exact (by decide +kernel);kernel_rfl;intro Y Yh;((repeat' (first|refine qy ?_|(refine qo fun Y Yh=>?_;simp[go_sem, hx, hv, h7, h7b, undef])|(refine qC fun Y Yh=>?_;simp[go_sem, hx, hv, h7, h7b, undef])|(apply Yh;clear Yh Y)));all_goals apply Xi))
    (refine qg fun T F hT hF=>?_;simp[go_sem, h7, h7b];refine hF ?_;clear hT hF T F)
    refine qh ?_
    refine tl6 _ (by rw [if_neg h7]; rw [if_neg h7] at hg; exact hg) ?_
    (refine ql ?_ ?_ <;> simp[go_sem])
  ·refine qp ?_
   simp only [go_sem]
   refine hK4 _ ?_; clear hK4
   have hke : k = x.2.length := by omega
   subst hke
   have hn : fndG p x = none := by rw [hg, hie]; split <;> rfl
   rw [hn] at hst1
   (refine qB fun Y Yh=>?_;simp[go_sem];((repeat' (first|apply And.intro|(apply Yh;clear Yh Y)));all_goals first|apply Xi|omega))
   refine ⟨i + 1, ?_, ⟨by omega, hr.trans hst1⟩, by omega⟩
   (refine ql ?_ ?_ <;> simp[go_sem])
 ·refine qp ?_
  simp only [go_sem]
  refine hK1 _ ?_; clear hK1
  have hie : i = s.length := by omega
  subst hie
  have h0 : r0 = none := hr.trans he
  subst h0
  (refine qc fun Y Yh=>?_;simp[go_sem];apply Yh;clear Yh Y;apply Xi)
  (refine qi ?_;simp[go_sem])
theorem filt_step {l : List Vrs} {n : Bs} {i : Nat} {v : Vrs} (h : l[i]? = some v) : (l.take (i + 1)).filter (fun v => decide (v.1 = n)) = (l.take i).filter (fun v => decide (v.1 = n)) ++ (if v.1 = n then [v] else []) := by
 rw [List.take_add_one, h, List.filter_append]
 by_cases q : v.1 = n <;> simp [q]
set_option maxHeartbeats 32000000 in
theorem Zj (s : Src) (L : Lck) (gem : Bs) (hs : SzS s) (hl : L.1.length ≤ 1000000) (hnd : (L.1.map (·.1)).Nodup) : PCall Tryz.prog 106 [dSrc s, dLk L, dS gem] fun r => r = dSrc (keptV s L.1 gem) := by 
 refine qw Tryz.func106 rfl rfl Tryz.ntmps106 (rs := [.cell 6 25]) (tys := [25]) rfl rfl (by simp) ?_
 obtain ⟨hs0, hs1⟩ := hs
 have hkt := fun i g => @kept_take s L.1 gem i g
 have hk0 : keptV (s.take 0) L.1 gem = [] := rfl
 have hkn : keptV (s.take s.length) L.1 gem = keptV s L.1 gem := by rw [List.take_length]
 have hkl : ∀ i, (keptV (s.take i) L.1 gem).length ≤ s.length := fun i => by unfold keptV; simp; omega
 rw [← hkn]
 generalize hF : (fun i => keptV (s.take i) L.1 gem) = F at *
 have hF1 : ∀ i, keptV (s.take i) L.1 gem = F i := fun i => by rw [← hF]
 simp only [hF1] at hkt hk0 hkn hkl ⊢
 clear hF hF1 hkn
 (refine qc fun Y Yh=>?_;simp[go_sem];intro _;intro _;intro _;apply Yh;clear Yh Y;apply Xi)
 refine qA 3 rfl rfl ?_
 simp only [go_sem]
 refine qA 4 rfl rfl ?_
 simp only [go_sem]
 rename_i g6
 (refine qc fun Y Yh=>?_;simp[go_sem];intro _;apply Yh;clear Yh Y;apply Xi)
 rename_i g7
 refine zo 900091 46 2 0 (sb := 7) rfl rfl (by decide) fun gr0 => ?_
 simp only [List.set, go_sem]
 refine qf fun K1 hK1 => ?_
 (refine qc fun Y Yh=>?_;simp[go_sem];apply Yh;clear Yh Y;apply Xi)
 refine qj ?_
 refine qx (σ := Nat × Nat) (fun x => ⟨[(2, dS gem), (3, .rd [dGms s]), (4, .rd [dPs L.1, dNs L.2.1, dPs L.2.2]), (6, .ptr 6 g6 0), (7, .ptr 7 g7 0), (8, dI x.1)], [(6, (g6, .box [.v (.slice none 0 0)])), (7, (g7, .box [.own 900091 x.2])), (900091, (x.2, .row 46 2 ((F x.1).map cGm)))]⟩) (fun x => x.1 ≤ s.length) (fun x => s.length - x.1) (0, gr0) ?_ ?_ ?_
 ·(refine ql ?_ ?_ <;> simp[go_sem, hk0])
 ·simp
 rintro ⟨i, gr⟩ hi
 simp only at hi
 have hFl := hkl i
 refine qf fun K2 hK2 => ?_
 (refine qc fun Y Yh=>?_;simp[go_sem];apply Yh;clear Yh Y;apply Xi)
 (refine qg fun T F hT hF=>?_;simp[go_sem];refine BR.intro (fun h3=>hT ?_) (fun h3=>hF ?_);all_goals clear hT hF T F;try simp at h3)
 ·refine qh ?_
  refine hK2 _ ?_; clear hK2
  obtain ⟨x, hx⟩ : ∃ x, s[i]? = some x := ⟨_, List.getElem?_eq_getElem (by omega)⟩
  obtain ⟨hx0, hx1, hx2⟩ := hs1 x (List.mem_of_getElem? hx)
  have hst := hkt i x hx
  have hkf := QP (gem := gem) (g := x) hnd
  have hft := fun k p => @foldl_take Prs Gm (kfP gem) x L.1 k p
  have hfn := fun k => (QQ gem (L.1.take k) x)
  generalize keepG L.1 gem x = kg at *
  refine qf fun K4 hK4 => ?_
  refine qj ?_
  (refine qc fun Y Yh=>?_;simp[go_sem, hx];intro _;apply Yh;clear Yh Y;apply Xi)
  rename_i g9
  refine qf fun K5 hK5 => ?_
  (refine qc fun Y Yh=>?_;simp[go_sem];apply Yh;clear Yh Y;apply Xi)
  refine qj ?_
  refine qx (σ := Nat) (fun k => ⟨[(2, dS gem), (3, .rd [dGms s]), (4, .rd [dPs L.1, dNs L.2.1, dPs L.2.2]), (6, .ptr 6 g6 0), (7, .ptr 7 g7 0), (8, dI i), (9, .ptr 9 g9 0), (10, dI k)], [(6, (g6, .box [.v (.slice none 0 0)])), (7, (g7, .box [.own 900091 gr])), (900091, (gr, .row 46 2 ((F i).map cGm))), (9, (g9, .box [dS x.1, dVrs ((L.1.take k).foldl (kfP gem) x).2]))]⟩) (fun k => k ≤ L.1.length) (fun k => L.1.length - k) 0 ?_ ?_ ?_
  ·(refine ql ?_ ?_ <;> simp[go_sem])
  ·simp
  rintro k hk
  refine qf fun K6 hK6 => ?_
  (refine qc fun Y Yh=>?_;simp[go_sem];apply Yh;clear Yh Y;apply Xi)
  (refine qg fun T F hT hF=>?_;simp[go_sem];refine BR.intro (fun h5=>hT ?_) (fun h5=>hF ?_);all_goals clear hT hF T F;try simp at h5)
  ·refine qh ?_
   refine hK6 _ ?_; clear hK6
   obtain ⟨p, hp⟩ : ∃ p, L.1[k]? = some p := ⟨_, List.getElem?_eq_getElem (by omega)⟩
   have hft1 := hft k p hp
   obtain ⟨hn1, hn2⟩ := hfn k
   have hcl : ((L.1.take k).foldl (kfP gem) x).2.length ≤ 1000000 := by have := hn2.length_le; omega
   generalize hC : (L.1.take k).foldl (kfP gem) x = C at *
   generalize hC2 : (L.1.take (k + 1)).foldl (kfP gem) x = C2 at *
   obtain ⟨c1, cur⟩ := C
   simp only at hn1 hn2 hcl
   subst hn1
   refine qf fun K8 hK8 => ?_
   have tl8 : ∀ S' vs, C2.2 = vs → Cov S' ⟨[(2, dS gem), (3, .rd [dGms s]), (4, .rd [dPs L.1, dNs L.2.1, dPs L.2.2]), (6, .ptr 6 g6 0), (7, .ptr 7 g7 0), (8, dI i), (9, .ptr 9 g9 0), (10, dI k)], [(6, (g6, .box [.v (.slice none 0 0)])), (7, (g7, .box [.own 900091 gr])), (900091, (gr, .row 46 2 ((F i).map cGm))), (9, (g9, .box [dS x.1, dVrs vs]))]⟩ → K8 S' := fun S' vs hvs hS => by
    refine hK8 _ ?_; clear hK8
    refine qN hS ?_; clear hS
    (refine qB fun Y Yh=>?_;simp[go_sem];((repeat' (first|apply And.intro|(apply Yh;clear Yh Y)));all_goals first|apply Xi|omega))
    refine ⟨k + 1, ?_, by omega, by omega⟩
    rw [hC2, hvs]
    (refine ql ?_ ?_ <;> simp[go_sem])
   clear hK8
   refine qj ?_
   refine qf fun K9 hK9 => ?_
   by_cases h7 : p.1 = x.1
   ·by_cases h8 : x.1 = gem
    ·have hc2 : C2.2 = cur := by rw [hft1]; unfold kfP; rw [if_pos (.inr h8)]
     ((refine qE (.qs [0, 2, 6, 1, 3, 4, 5, 7, 8, 9, 10, 12, 11, 13, 14] (.nil)) (by kernel_rfl) ?_ ?_ ?_ ?_);kernel_rfl;exact (by decide +kernel);kernel_rfl;intro Y Yh;((repeat' (first|refine qy ?_|(refine qo fun Y Yh=>?_;simp[go_sem, hp, h7, h8])|(apply Yh;clear Yh Y)));all_goals apply Xi))
     (refine qg fun T F hT hF=>?_;simp[go_sem, h7, h8];refine hT ?_;clear hT hF T F)
     refine qp ?_
     simp only [go_sem]
     refine tl8 _ cur hc2 ?_
     (refine ql ?_ ?_ <;> simp[go_sem, h8])
    ·have hc2 : C2.2 = cur.filter fun v => decide (v.1 = p.2) := by
      rw [hft1]; unfold kfP
      rw [if_neg (fun q => by rcases q with q | q; exact q h7; exact h8 q)]
     have h8b : (x.1 == gem) = false := by simp [h8]
     ((refine qE (.qs [0, 2, 6, 1, 3, 4, 5, 7, 8, 9, 10, 12, 11, 13, 14] (.nil)) (by kernel_rfl) ?_ ?_ ?_ ?_);kernel_rfl;exact (by decide +kernel);kernel_rfl;intro Y Yh;((repeat' (first|refine qy ?_|(refine qo fun Y Yh=>?_;simp[go_sem, hp, h7, h8])|(apply Yh;clear Yh Y)));all_goals apply Xi))
     (refine qg fun T F hT hF=>?_;simp[go_sem, h7, h8, h8b];refine hF ?_;clear hT hF T F)
     refine qh ?_
     refine hK9 _ ?_; clear hK9
     (refine qc fun Y Yh=>?_;simp[go_sem];apply Yh;clear Yh Y;apply Xi)
     refine qU 11 900095 48 2 rfl fun g11 => ?_
     simp only [go_sem]
     refine qf fun K10 hK10 => ?_
     (refine qc fun Y Yh=>?_;simp[go_sem];apply Yh;clear Yh Y;apply Xi)
     refine qj ?_
     refine qx (σ := Nat × Nat) (fun z => ⟨[(2, dS gem), (3, .rd [dGms s]), (4, .rd [dPs L.1, dNs L.2.1, dPs L.2.2]), (6, .ptr 6 g6 0), (7, .ptr 7 g7 0), (8, dI i), (9, .ptr 9 g9 0), (10, dI k), (11, .own 900095 z.2), (12, dI z.1)], [(6, (g6, .box [.v (.slice none 0 0)])), (7, (g7, .box [.own 900091 gr])), (900091, (gr, .row 46 2 ((F i).map cGm))), (9, (g9, .box [dS x.1, dVrs cur])), (900095, (z.2, .row 48 2 (((cur.take z.1).filter fun v => decide (v.1 = p.2)).map cVr)))]⟩) (fun z => z.1 ≤ cur.length) (fun z => cur.length - z.1) (0, g11) ?_ ?_ ?_
     ·(refine ql ?_ ?_ <;> simp[go_sem])
     ·simp
     rintro ⟨m, g'⟩ hm
     simp only at hm
     refine qf fun K11 hK11 => ?_
     (refine qc fun Y Yh=>?_;simp[go_sem];apply Yh;clear Yh Y;apply Xi)
     (refine qg fun T F hT hF=>?_;simp[go_sem];refine BR.intro (fun h9=>hT ?_) (fun h9=>hF ?_);all_goals clear hT hF T F;try simp at h9)
     ·refine qh ?_
      refine hK11 _ ?_; clear hK11
      obtain ⟨v, hv⟩ : ∃ v, cur[m]? = some v := ⟨_, List.getElem?_eq_getElem (by omega)⟩
      have hfs := filt_step (n := p.2) hv
      have hfl : ((cur.take m).filter fun v => decide (v.1 = p.2)).length ≤ 1000000 := by
       have h1 := List.length_filter_le (fun v : Vrs => decide (v.1 = p.2)) (cur.take m)
       rw [List.length_take] at h1
       omega
      generalize (cur.take m).filter (fun v => decide (v.1 = p.2)) = A at *
      refine qf fun K12 hK12 => ?_
      refine qj ?_
      by_cases h10 : v.1 = p.2
      ·rw [if_pos h10] at hfs
       ((refine qE (.qs [0, 2, 6, 8, 1, 3, 4, 5, 7, 9, 10, 11, 12] (.nil)) (by kernel_rfl) ?_ ?_ ?_ ?_);kernel_rfl;exact (by decide +kernel);kernel_rfl;intro Y Yh;((repeat' (first|refine qy ?_|(refine qo fun Y Yh=>?_;simp[go_sem, hp, hv, h10])|(apply Yh;clear Yh Y)));all_goals apply Xi))
       (refine qg fun T F hT hF=>?_;simp[go_sem, h10];refine hT ?_;clear hT hF T F)
       (refine qB fun Y Yh=>?_;simp[go_sem, hv];((repeat' (first|intro _|apply And.intro|(apply Yh;clear Yh Y)));all_goals first|apply Xi|omega))
       rename_i gq gq2
       refine hK12 _ ?_; clear hK12
       (refine qB fun Y Yh=>?_;simp[go_sem];((repeat' (first|apply And.intro|(apply Yh;clear Yh Y)));all_goals first|apply Xi|omega))
       refine ⟨(m + 1, gq2), ?_, by simp only; omega, by simp only; omega⟩
       simp only [hfs]
       (refine ql ?_ ?_ <;> simp[go_sem, h10])
      ·rw [if_neg h10, List.append_nil] at hfs
       have h10b : (v.1 == p.2) = false := by simp [h10]
       ((refine qE (.qs [0, 2, 6, 8, 1, 3, 4, 5, 7, 9, 10, 11, 12] (.nil)) (by kernel_rfl) ?_ ?_ ?_ ?_);kernel_rfl;exact (by decide +kernel);kernel_rfl;intro Y Yh;((repeat' (first|refine qy ?_|(refine qo fun Y Yh=>?_;simp[go_sem, hp, hv, h10])|(apply Yh;clear Yh Y)));all_goals apply Xi))
       (refine qg fun T F hT hF=>?_;simp[go_sem, h10, h10b];refine hF ?_;clear hT hF T F)
       refine qh ?_
       refine hK12 _ ?_; clear hK12
       (refine qB fun Y Yh=>?_;simp[go_sem];((repeat' (first|apply And.intro|(apply Yh;clear Yh Y)));all_goals first|apply Xi|omega))
       refine ⟨(m + 1, g'), ?_, by simp only; omega, by simp only; omega⟩
       simp only [hfs]
       (refine ql ?_ ?_ <;> simp[go_sem])
     ·refine qp ?_
      simp only [go_sem]
      refine hK10 _ ?_; clear hK10
      have hme : m = cur.length := by omega
      subst hme
      rw [List.take_length]
      refine qQ 11 rfl rfl ?_
      simp only [go_sem]
      (refine qB fun Y Yh=>?_;simp[go_sem];apply Yh;clear Yh Y;apply Xi)
      refine tl8 _ _ hc2 ?_
      (refine ql ?_ ?_ <;> simp[go_sem])
   ·have hc2 : C2.2 = cur := by rw [hft1]; unfold kfP; rw [if_pos (.inl h7)]
    have h7b : (p.1 == x.1) = false := by simp [h7]
    ((refine qE (.qs [0, 2, 6, 1, 3, 4, 5, 7, 8, 9] (.sk 10 (.sk 12 (.sk 11 (.sk 13 (.qs [14] (.nil))))))) (by kernel_rfl) ?_ ?_ ?_ ?_);kernel_rfl;exact (by decide +kernel);kernel_rfl;intro Y Yh;((repeat' (first|refine qy ?_|(refine qo fun Y Yh=>?_;simp[go_sem, hp, h7, h7b, undef])|(refine qC fun Y Yh=>?_;simp[go_sem, hp, h7, h7b, undef])|(apply Yh;clear Yh Y)));all_goals apply Xi))
    (refine qg fun T F hT hF=>?_;simp[go_sem, h7, h7b];refine hT ?_;clear hT hF T F)
    refine qp ?_
    simp only [go_sem]
    refine tl8 _ cur hc2 ?_
    (refine ql ?_ ?_ <;> simp[go_sem])
  ·refine qp ?_
   simp only [go_sem]
   refine hK5 _ ?_; clear hK5
   have hke : k = L.1.length := by omega
   subst hke
   rw [List.take_length, hkf]
   have hkn : kg.1 = x.1 := by
    have := (hfn L.1.length).1
    rw [List.take_length, hkf] at this
    exact this
   (refine qB fun Y Yh=>?_;simp[go_sem];((repeat' (first|intro _|apply And.intro|(apply Yh;clear Yh Y)));all_goals first|apply Xi|omega))
   rename_i gq gr'
   refine hK4 _ ?_; clear hK4
   (refine qB fun Y Yh=>?_;simp[go_sem];((repeat' (first|apply And.intro|(apply Yh;clear Yh Y)));all_goals first|apply Xi|omega))
   refine ⟨(i + 1, gr'), ?_, by simp only; omega, by simp only; omega⟩
   simp only [hst]
   (refine ql ?_ ?_ <;> simp[go_sem, hkn])
 ·refine qp ?_
  simp only [go_sem]
  refine hK1 _ ?_; clear hK1
  have hie : i = s.length := by omega
  subst hie
  refine zq 900091 7 0 rfl rfl (by decide) rfl ?_
  simp only [go_sem, List.set]
  (refine qc fun Y Yh=>?_;simp[go_sem];apply Yh;clear Yh Y;apply Xi)
  (refine qi ?_;simp[go_sem])
set_option maxHeartbeats 16000000 in
theorem QC (s : Src) (L : Lck) (hs : SzS s) (hL : LkOk L) (hw : SzN L.2.2) : PCall Tryz.prog 46 [dSrc s, dLk L] fun r => r = .tup [dB (heldV s L).1, dI (heldV s L).2] := by 
 refine qw Tryz.func46 rfl rfl Tryz.ntmps46 (rs := [.tmp 4, .tmp 5]) (tys := [4, 35]) rfl rfl (by simp) ?_
 have C1 := jG L hL
 have C2 := jm s hs
 by_cases hsu : suV s = true
 rotate_left
 ·have hv : heldV s L = (false, 1) := by unfold heldV; rw [if_neg (fun q => hsu q.1)]
  have hsf : suV s = false := by simpa using hsu
  rw [hv]
  rw [hsf] at C2
  (refine qc fun Y Yh=>?_;simp[go_sem];intro _;intro _;apply Yh;clear Yh Y;apply Xi)
  refine qA 2 rfl rfl ?_
  simp only [go_sem]
  refine qA 3 rfl rfl ?_
  simp only [go_sem]
  refine qf fun K1 hK1 => ?_
  (refine qc fun Y Yh=>?_;simp[go_sem])
  ((try refine Xj ?_);refine qm (.inl ⟨rfl,rfl⟩) (by simp[go_sem]) ?_;intro args ha;simp[go_sem] at ha;subst ha;refine ⟨_, C2, ?_⟩;rintro _ rfl;simp[go_sem];((repeat' (first|(refine qG ?_ ?_ ?_;(focus (simp[go_sem, undef];done));(focus (simp[go_sem];done));simp[go_sem])|(apply Yh;clear Yh Y)));all_goals apply Xi))
  (refine qg fun T F hT hF=>?_;simp[go_sem];refine hT ?_;clear hT hF T F)
  (refine qc fun Y Yh=>?_;simp[go_sem];apply Yh;clear Yh Y;apply Xi)
  (refine qi ?_;simp[go_sem])
 rw [hsu] at C2
 by_cases hlk : lockV L = true
 rotate_left
 ·have hv : heldV s L = (false, 1) := by unfold heldV; rw [if_neg (fun q => hlk q.2)]
  have hlf : lockV L = false := by simpa using hlk
  rw [hv]
  rw [hlf] at C1
  (refine qc fun Y Yh=>?_;simp[go_sem];intro _;intro _;apply Yh;clear Yh Y;apply Xi)
  refine qA 2 rfl rfl ?_
  simp only [go_sem]
  refine qA 3 rfl rfl ?_
  simp only [go_sem]
  refine qf fun K1 hK1 => ?_
  (refine qc fun Y Yh=>?_;simp[go_sem])
  ((try refine Xj ?_);refine qm (.inl ⟨rfl,rfl⟩) (by simp[go_sem]) ?_;intro args ha;simp[go_sem] at ha;subst ha;refine ⟨_, C2, ?_⟩;rintro _ rfl;simp[go_sem];((repeat' (refine qJ ?_ ?_;(focus (simp[go_sem, undef];done));simp[go_sem]))))
  ((try refine Xj ?_);refine qm (.inl ⟨rfl,rfl⟩) (by simp[go_sem]) ?_;intro args ha;simp[go_sem] at ha;subst ha;refine ⟨_, C1, ?_⟩;rintro _ rfl;simp[go_sem];refine qJ ?_ ?_;(focus (simp[go_sem, undef];done));simp[go_sem];apply Yh;clear Yh Y;apply Xi)
  (refine qg fun T F hT hF=>?_;simp[go_sem];refine hT ?_;clear hT hF T F)
  (refine qc fun Y Yh=>?_;simp[go_sem];apply Yh;clear Yh Y;apply Xi)
  (refine qi ?_;simp[go_sem])
 rw [hlk] at C1
 have hln := (zD hlk).2.1
 have hl60 := (zD hlk).1
 have hst := fun i p r => @held_step s L i p r
 have hno := fun i => @held_not s L i
 have hok := held_ok hsu hlk
 obtain ⟨hL0, hL1, hL2, hL3, hL4, hL5⟩ := hL
 (refine qc fun Y Yh=>?_;simp[go_sem];intro _;intro _;apply Yh;clear Yh Y;apply Xi)
 refine qA 2 rfl rfl ?_
 simp only [go_sem]
 refine qA 3 rfl rfl ?_
 simp only [go_sem]
 refine qf fun K1 hK1 => ?_
 (refine qc fun Y Yh=>?_;simp[go_sem])
 ((try refine Xj ?_);refine qm (.inl ⟨rfl,rfl⟩) (by simp[go_sem]) ?_;intro args ha;simp[go_sem] at ha;subst ha;refine ⟨_, C2, ?_⟩;rintro _ rfl;simp[go_sem];((repeat' (refine qJ ?_ ?_;(focus (simp[go_sem, undef];done));simp[go_sem]))))
 ((try refine Xj ?_);refine qm (.inl ⟨rfl,rfl⟩) (by simp[go_sem]) ?_;intro args ha;simp[go_sem] at ha;subst ha;refine ⟨_, C1, ?_⟩;rintro _ rfl;simp[go_sem];refine qJ ?_ ?_;(focus (simp[go_sem, undef];done));simp[go_sem];apply Yh;clear Yh Y;apply Xi)
 (refine qg fun T F hT hF=>?_;simp[go_sem];refine hF ?_;clear hT hF T F)
 refine qh ?_
 refine hK1 _ ?_; clear hK1
 refine qf fun K3 hK3 => ?_
 (refine qc fun Y Yh=>?_;simp[go_sem];apply Yh;clear Yh Y;apply Xi)
 refine qj ?_
 refine qx (σ := Nat) (fun i => ⟨[(2, .rd [dGms s]), (3, .rd [dPs L.1, dNs L.2.1, dPs L.2.2]), (6, dI i)], []⟩) (fun i => i ≤ L.1.length ∧ upTo (heldP s L) i = true) (fun i => L.1.length - i) 0 ?_ ?_ ?_
 ·(refine ql ?_ ?_ <;> simp[go_sem])
 ·exact ⟨by simp, rfl⟩
 rintro i ⟨hi, hT⟩
 refine qf fun K4 hK4 => ?_
 (refine qc fun Y Yh=>?_;simp[go_sem];apply Yh;clear Yh Y;apply Xi)
 (refine qg fun T F hT hF=>?_;simp[go_sem];refine BR.intro (fun h5=>hT ?_) (fun h5=>hF ?_);all_goals clear hT hF T F;try simp at h5)
 ·refine qh ?_
  refine hK4 _ ?_; clear hK4
  have hil : i < L.1.length := by omega
  obtain ⟨x, hx⟩ : ∃ x, L.1[i]? = some x := ⟨_, List.getElem?_eq_getElem hil⟩
  obtain ⟨r, hr⟩ : ∃ r, L.2.1[i]? = some r := ⟨_, List.getElem?_eq_getElem (by omega)⟩
  have hst1 := hst i x r hx hr hT
  have hrl := (hL4 r (List.mem_of_getElem? hr)).1
  have hhp : heldP s L i = ((fndV s x).isSome && decide (ownV s x = r)) := by unfold heldP; rw [hx, hr]
  have hno1 := hno i hil hsu hlk
  rw [hhp] at hno1
  have HS := J3 s x hs
  have OW := QF s x hs
  have hol : (ownV s x).length ≤ 1000000 := by
   unfold ownV; rw [jq]; have := (fnd_nu hsu x).1; omega
  have EQ := jS (ownV s x) r hol hrl
  generalize ownV s x = o at *
  generalize (fndV s x).isSome = is at *
  refine qf fun K6 hK6 => ?_
  refine qj ?_
  cases is with
  | false =>
   have hv := hno1 rfl
   rw [hv]
   ((refine qE (.qs [1, 3, 0, 2, 4, 5] (.one 6 (.qs [7, 8] (.sk 10 (.sk 12 (.sk 16 (.sk 18 (.sk 9 (.sk 11 (.sk 13 (.sk 14 (.sk 17 (.sk 19 (.sk 20 (.sk 15 (.sk 21 (.sk 22 (.qs [23] (.nil))))))))))))))))))) (by kernel_rfl) ?_ ?_ ?_ ?_);kernel_rfl;exact (by decide +kernel);kernel_rfl;intro Y Yh;((repeat' (first|(refine qo fun Y Yh=>?_;simp[go_sem, hx])|(refine qC fun Y Yh=>?_;simp[go_sem, hx])|(apply Yh;clear Yh Y)))))
   ((try refine Xj ?_);refine qm (.inl ⟨rfl,rfl⟩) (by simp[go_sem]) ?_;intro args ha;simp[go_sem] at ha;subst ha;refine ⟨_, HS, ?_⟩;rintro _ rfl;simp[go_sem, undef];((repeat' (first|refine qy ?_|(refine qo fun Y Yh=>?_;simp[go_sem, undef])|(refine qC fun Y Yh=>?_;simp[go_sem, undef])|(apply Yh;clear Yh Y)));all_goals apply Xi))
   (refine qg fun T F hT hF=>?_;simp[go_sem];refine hT ?_;clear hT hF T F)
   (refine qc fun Y Yh=>?_;simp[go_sem];apply Yh;clear Yh Y;apply Xi)
   (refine qi ?_;simp[go_sem])
  | true =>
   simp only [Bool.true_and] at hst1 hno1
   ((refine qE (.qs [1, 3, 0, 2, 4, 5] (.one 6 (.qs [7, 8, 10, 12, 16, 18, 9, 11, 13, 14, 17, 19, 20] (.kp 15 (.kp 21 (.qs [22, 23] (.nil))))))) (by kernel_rfl) ?_ ?_ ?_ ?_);kernel_rfl;exact (by decide +kernel);kernel_rfl;intro Y Yh;((repeat' (first|(refine qo fun Y Yh=>?_;simp[go_sem, hx, hr])|(refine qC fun Y Yh=>?_;simp[go_sem, hx, hr])|(apply Yh;clear Yh Y)))))
   ((try refine Xj ?_);refine qm (.inl ⟨rfl,rfl⟩) (by simp[go_sem]) ?_;intro args ha;simp[go_sem] at ha;subst ha;refine ⟨_, HS, ?_⟩;rintro _ rfl;simp[go_sem, hx, hr];((repeat' (first|(refine qo fun Y Yh=>?_;simp[go_sem, hx, hr])|(refine qC fun Y Yh=>?_;simp[go_sem, hx, hr])|(apply Yh;clear Yh Y)))))
   (refine ZQ (dPs o) (.inl ⟨rfl,rfl⟩) (by simp[go_sem]) ?_ ?_;(intro hc args ha;simp[go_sem] at ha;subst ha;exact OW);simp[go_sem, hx, hr];((repeat' (first|(refine qC fun Y Yh=>?_;simp[go_sem, hx, hr])|(apply Yh;clear Yh Y)))))
   (refine qX (dB (decide (o = r))) (.inl ⟨rfl,rfl⟩) ?_ rfl ?_;(intro hc args ha;simp[go_sem] at ha;subst ha;exact EQ);simp[go_sem, hx, hr];((repeat' (first|refine qy ?_|(refine qo fun Y Yh=>?_;simp[go_sem, hx, hr])|(apply Yh;clear Yh Y)));all_goals apply Xi))
   by_cases he : o = r
   ·have hed : decide (o = r) = true := by simp [he]
    rw [hed] at hst1
    (refine qg fun T F hT hF=>?_;simp[go_sem, he];refine hF ?_;clear hT hF T F)
    refine qh ?_
    refine hK6 _ ?_; clear hK6
    (refine qB fun Y Yh=>?_;simp[go_sem];((repeat' (first|apply And.intro|(apply Yh;clear Yh Y)));all_goals first|apply Xi|omega))
    refine ⟨i + 1, ?_, ⟨by omega, hst1⟩, by omega⟩
    (refine ql ?_ ?_ <;> simp[go_sem])
   ·have hv := hno1 (by simp [he])
    rw [hv]
    (refine qg fun T F hT hF=>?_;simp[go_sem, he];refine hT ?_;clear hT hF T F)
    (refine qc fun Y Yh=>?_;simp[go_sem];apply Yh;clear Yh Y;apply Xi)
    (refine qi ?_;simp[go_sem])
 ·refine qp ?_
  simp only [go_sem]
  refine hK3 _ ?_; clear hK3
  have hie : i = L.1.length := by omega
  subst hie
  obtain ⟨hq, hv⟩ := hok hT
  have hpq : picksQ s L.1 = true := by
   unfold okQ at hq
   rw [Bool.and_eq_true] at hq
   exact hq.2
  have SL := ve s L.2.2 L.1 hs hw (by omega) (pick_sz hsu (picksQ_ok hpq))
  rw [hv]
  (refine qc fun Y Yh=>?_;simp[go_sem])
  ((try refine Xj ?_);refine qm (.inl ⟨rfl,rfl⟩) (by simp[go_sem]) ?_;intro args ha;simp[go_sem] at ha;subst ha;refine ⟨_, SL, ?_⟩;rintro _ rfl;simp[go_sem];apply Yh;clear Yh Y;apply Xi)
  (refine qi ?_;simp[go_sem])
set_option maxHeartbeats 16000000 in
theorem Q3 (s : Src) (L : Lck) (gem : Bs) (b : Int) (hs : SzS s) (hL : LkOk L) (hw : SzN L.2.2) : PCall Tryz.prog 48 [dSrc s, dLk L, dS gem, dI b] fun r => r = .tup [dLk (updV s L gem b).1, dI (updV s L gem b).2] := by 
 refine qw Tryz.func48 rfl rfl Tryz.ntmps48 (rs := [.cell 8 61, .tmp 9]) (tys := [61, 35]) rfl rfl (by simp) ?_
 have C1 := jG L hL
 have C2 := jm s hs
 by_cases hsu : suV s = true
 rotate_left
 ·have hv : updV s L gem b = (lk0, 1) := by unfold updV; rw [if_neg (fun q => hsu q.1)]
  have hsf : suV s = false := by simpa using hsu
  rw [hv]
  rw [hsf] at C2
  (refine qc fun Y Yh=>?_;simp[go_sem];intro _;intro _;intro _;apply Yh;clear Yh Y;apply Xi)
  refine qA 4 rfl rfl ?_
  simp only [go_sem]
  refine qA 5 rfl rfl ?_
  simp only [go_sem]
  refine qf fun K1 hK1 => ?_
  (refine qc fun Y Yh=>?_;simp[go_sem])
  ((try refine Xj ?_);refine qm (.inl ⟨rfl,rfl⟩) (by simp[go_sem]) ?_;intro args ha;simp[go_sem] at ha;subst ha;refine ⟨_, C2, ?_⟩;rintro _ rfl;simp[go_sem];((repeat' (first|(refine qG ?_ ?_ ?_;(focus (simp[go_sem, undef];done));(focus (simp[go_sem];done));simp[go_sem])|(apply Yh;clear Yh Y)));all_goals apply Xi))
  (refine qg fun T F hT hF=>?_;simp[go_sem];refine hT ?_;clear hT hF T F)
  (refine qc fun Y Yh=>?_;simp[go_sem];apply Yh;clear Yh Y;apply Xi)
  (refine qi ?_;simp[go_sem])
 rw [hsu] at C2
 by_cases hlk : lockV L = true
 rotate_left
 ·have hv : updV s L gem b = (lk0, 1) := by unfold updV; rw [if_neg (fun q => hlk q.2)]
  have hlf : lockV L = false := by simpa using hlk
  rw [hv]
  rw [hlf] at C1
  (refine qc fun Y Yh=>?_;simp[go_sem];intro _;intro _;intro _;apply Yh;clear Yh Y;apply Xi)
  refine qA 4 rfl rfl ?_
  simp only [go_sem]
  refine qA 5 rfl rfl ?_
  simp only [go_sem]
  refine qf fun K1 hK1 => ?_
  (refine qc fun Y Yh=>?_;simp[go_sem])
  ((try refine Xj ?_);refine qm (.inl ⟨rfl,rfl⟩) (by simp[go_sem]) ?_;intro args ha;simp[go_sem] at ha;subst ha;refine ⟨_, C2, ?_⟩;rintro _ rfl;simp[go_sem];((repeat' (refine qJ ?_ ?_;(focus (simp[go_sem, undef];done));simp[go_sem]))))
  ((try refine Xj ?_);refine qm (.inl ⟨rfl,rfl⟩) (by simp[go_sem]) ?_;intro args ha;simp[go_sem] at ha;subst ha;refine ⟨_, C1, ?_⟩;rintro _ rfl;simp[go_sem];refine qJ ?_ ?_;(focus (simp[go_sem, undef];done));simp[go_sem];apply Yh;clear Yh Y;apply Xi)
  (refine qg fun T F hT hF=>?_;simp[go_sem];refine hT ?_;clear hT hF T F)
  (refine qc fun Y Yh=>?_;simp[go_sem];apply Yh;clear Yh Y;apply Xi)
  (refine qi ?_;simp[go_sem])
 rw [hlk] at C1
 have KP := Zj s L gem hs hL.1 (asc_nodup (lock_asc hlk))
 have hks := zY (kept_su hsu L.1 gem)
 have O1 := xA (keptV s L.1 gem) L.2.2 b hks hw
 have O2 := xA s L.2.2 b hs hw
 have hv : updV s L gem b = if (ofV (keptV s L.1 gem) L.2.2 b).2 = 3 then ofV s L.2.2 b else ofV (keptV s L.1 gem) L.2.2 b := by unfold updV; rw [if_pos ⟨hsu, hlk⟩]
 rw [hv]
 generalize keptV s L.1 gem = ks at *
 generalize ofV ks L.2.2 b = q1 at *
 generalize ofV s L.2.2 b = q2 at *
 obtain ⟨M1, e1⟩ := q1
 obtain ⟨M2, e2⟩ := q2
 simp only at O1 O2 ⊢
 (refine qc fun Y Yh=>?_;simp[go_sem];intro _;intro _;intro _;apply Yh;clear Yh Y;apply Xi)
 refine qA 4 rfl rfl ?_
 simp only [go_sem]
 refine qA 5 rfl rfl ?_
 simp only [go_sem]
 rename_i g8
 refine qf fun K1 hK1 => ?_
 (refine qc fun Y Yh=>?_;simp[go_sem])
 ((try refine Xj ?_);refine qm (.inl ⟨rfl,rfl⟩) (by simp[go_sem]) ?_;intro args ha;simp[go_sem] at ha;subst ha;refine ⟨_, C2, ?_⟩;rintro _ rfl;simp[go_sem];((repeat' (refine qJ ?_ ?_;(focus (simp[go_sem, undef];done));simp[go_sem]))))
 ((try refine Xj ?_);refine qm (.inl ⟨rfl,rfl⟩) (by simp[go_sem]) ?_;intro args ha;simp[go_sem] at ha;subst ha;refine ⟨_, C1, ?_⟩;rintro _ rfl;simp[go_sem];refine qJ ?_ ?_;(focus (simp[go_sem, undef];done));simp[go_sem];apply Yh;clear Yh Y;apply Xi)
 (refine qg fun T F hT hF=>?_;simp[go_sem];refine hF ?_;clear hT hF T F)
 refine qh ?_
 refine hK1 _ ?_; clear hK1
 refine zy (α := Nat) (fun g => ⟨[(3, dI b), (4, .rd [dGms s]), (5, .rd [dPs L.1, dNs L.2.1, dPs L.2.2]), (8, .ptr 8 g8 0), (10, .ptr 10 g 0), (11, dI e1)], [(8, (g8, .box [.v (.slice none 0 0), .v (.slice none 0 0), .v (.slice none 0 0)])), (10, (g, .box [dPs M1.1, dNs M1.2.1, dPs M1.2.2]))]⟩) (fun K2 hK2 hM2 => ?_) (fun g => ?_)
 ·((refine zA (.qs [2, 4, 6, 0, 1, 5] (.kp2 3 (.kp2 7 (.qs [8, 9, 10] (.kp 11 (.one 12 (.qs [13] (.nil))))) 11 (.kp 7 (.qs [8, 9, 10] (.one 12 (.qs [13] (.nil)))))) 11 (.kp 3 (.kp 7 (.qs [8, 9, 10] (.one 12 (.qs [13] (.nil)))))))) (by kernel_rfl) ?_ ?_ ?_ ?_);kernel_rfl;exact (by decide +kernel);kernel_rfl;intro Y Yh;((repeat' (first|refine zC ?_ ?_|(refine qo fun Y Yh=>?_;simp[go_sem])|(refine qC fun Y Yh=>?_;simp[go_sem])|intro _|(apply Yh;clear Yh Y)))))
  all_goals ((try refine Xj ?_);refine qm (.inl ⟨rfl,rfl⟩) (by simp[go_sem]) ?_;intro args ha;simp[go_sem] at ha;subst ha;refine ⟨_, KP, ?_⟩;rintro _ rfl;simp[go_sem];((repeat' (first|refine zC ?_ ?_|(refine qC fun Y Yh=>?_;simp[go_sem])|intro _|(apply Yh;clear Yh Y)))))
  all_goals ((try refine Xj ?_);refine qm (.inl ⟨rfl,rfl⟩) (by simp[go_sem]) ?_;intro args ha;simp[go_sem] at ha;subst ha;refine ⟨_, O1, ?_⟩;rintro _ rfl;simp[go_sem];((repeat' (first|refine qy ?_|(refine qo fun Y Yh=>?_;simp[go_sem])|(refine qC fun Y Yh=>?_;simp[go_sem])|intro _|(apply Yh;clear Yh Y)));all_goals apply Xi))
  all_goals
   rename_i gq
   refine hK2 _ ?_
   refine hM2 gq _ ?_
   (refine ql ?_ ?_ <;> simp[go_sem])
 ·refine qA 10 rfl rfl ?_
  simp only [go_sem]
  refine qf fun K3 hK3 => ?_
  (refine qc fun Y Yh=>?_;simp[go_sem];apply Yh;clear Yh Y;apply Xi)
  by_cases h3 : e1 = 3
  ·subst h3
   (refine qg fun T F hT hF=>?_;simp[go_sem];refine hT ?_;clear hT hF T F)
   (refine qc fun Y Yh=>?_;simp[go_sem])
   ((try refine Xj ?_);refine qm (.inl ⟨rfl,rfl⟩) (by simp[go_sem]) ?_;intro args ha;simp[go_sem] at ha;subst ha;refine ⟨_, O2, ?_⟩;rintro _ rfl;simp[go_sem];apply Yh;clear Yh Y;apply Xi)
   (refine qi ?_;simp[go_sem])
  ·have h3i : ¬ (e1 : Int) = 3 := by omega
   rw [if_neg h3]
   (refine qg fun T F hT hF=>?_;simp[go_sem, h3, h3i];refine hF ?_;clear hT hF T F)
   refine qh ?_
   refine hK3 _ ?_; clear hK3
   (refine qc fun Y Yh=>?_;simp[go_sem];apply Yh;clear Yh Y;apply Xi)
   (refine qi ?_;simp[go_sem, h3])
end Go.Proofs.YteekfnhhlcmcgaaGreatDoor
set_option maxRecDepth 20000
namespace Go.Lk
open Go.Lib Go.Wh Go.Ver
theorem Zr {s : Src} {w : List Prs} {b : Int} : SzL (ofV s w b).1 := by
 by_cases h : (ofV s w b).2 = 0
 ·exact vF (Qa h)
 ·have : (ofV s w b).1 = lk0 := by
   unfold ofV at h ⊢
   split
   ·rename_i q
    rw [if_pos q] at h
    exact absurd rfl h
   ·rfl
  rw [this]
  exact ⟨⟨by simp, by simp⟩, ⟨by simp, by simp⟩, ⟨by simp, by simp⟩⟩
theorem JM {s : Src} {L : Lck} {gem : Bs} {b : Int} : SzL (updV s L gem b).1 := by
 unfold updV
 split
 ·split
  ·exact Zr
  ·exact Zr
 ·exact ⟨⟨by simp, by simp⟩, ⟨by simp, by simp⟩, ⟨by simp, by simp⟩⟩
end Go.Lk
namespace Go.Proofs.YteekfnhhlcmcgaaGreatDoor
open Go.Eng Go.Wh Go.Ver Go.Lk
set_option maxRecDepth 20000
attribute [local irreducible] AG CallA CallT AWp PCall ACall AgC
theorem zl_of {L : Lck} (h : SzL L) : ZL L := by
 obtain ⟨⟨a1, a2⟩, ⟨b1, b2⟩, ⟨c1, c2⟩⟩ := h
 have z1 : ∀ {x : Prs}, Sz1 x → Z1 x := fun q => ⟨by have := q.1; omega, by have := q.2; omega⟩
 exact ⟨⟨by omega, fun x hx => z1 (a2 x hx)⟩, ⟨by omega, fun r hr => ⟨by have := (b2 r hr).1; omega, fun x hx => z1 ((b2 r hr).2 x hx)⟩⟩, ⟨by omega, fun x hx => z1 (c2 x hx)⟩⟩
@[go_sem] abbrev cLk (L : Lck) : List D := [dPs L.1, dNs L.2.1, dPs L.2.2]
set_option maxHeartbeats 64000000 in
theorem kR (a o : List Int) (L : Lck) (gm bud : Int) (ha : a.length ≤ 9223372036854775807) (ho : o.length ≤ 9223372036854775807) (hL : ZL L) (hg : InR gm) (hb : InR bud) :
  PCall Tryz.prog 11 [.agg [dIs a, dIs o, dPs L.1, dNs L.2.1, dPs L.2.2, dI gm, dI bud]] fun r => r = dB true := by 
 refine qw Tryz.func11 rfl rfl Tryz.ntmps11 (rs := [.tmp 2]) (tys := [4]) rfl rfl (by simp) ?_
 have G := kF a ha
 have G2 := Zy o ho
 (refine qc fun Y Yh=>?_;simp[go_sem];intro _;apply Yh;clear Yh Y;apply Xi)
 refine qA 1 rfl rfl ?_
 simp only [go_sem]
 (refine qc fun Y Yh=>?_;simp[go_sem])
 ((try refine Xj ?_);refine qm (.inl ⟨rfl,rfl⟩) (by simp[go_sem]) ?_;intro args ha;simp[go_sem] at ha;subst ha;refine ⟨_, G, ?_⟩;rintro _ ⟨s, w, hG, rfl⟩;simp[go_sem];intro _;apply Yh;clear Yh Y;apply Xi)
 have hc := QY hG
 have hsu := Qh hG
 have hs := zY hsu
 have hw := JZ hG
 refine qA 3 rfl rfl ?_
 simp only [go_sem]
 (refine qc fun Y Yh=>?_;simp[go_sem])
 ((try refine Xj ?_);refine qm (.inl ⟨rfl,rfl⟩) (by simp[go_sem]) ?_;intro args ha;simp[go_sem] at ha;subst ha;refine ⟨_, (Jo s hs), ?_⟩;rintro _ rfl;simp[go_sem];intro _;apply Yh;clear Yh Y;apply Xi)
 refine qA 5 rfl rfl ?_
 simp only [go_sem]
 have w1 := unI_wrap bud
 have hlt : unI bud % 1000 < 1000 := Nat.mod_lt _ (by omega)
 have m0 : ((unI bud : Nat) : Int).tmod 1000 = ((unI bud % 1000 : Nat) : Int) := by
  rw [show (1000 : Int) = ((1000 : Nat) : Int) by omega]; simp [Int.tmod_eq_emod_of_nonneg]
 generalize unI bud % 1000 = k at *
 have hn1 : InR (1 + (k : Int)) := ⟨by omega, by omega⟩
 (refine qc fun Y Yh=>?_;simp[go_sem, w1, m0];((repeat' (first|apply And.intro|(apply Yh;clear Yh Y)));all_goals first|apply Xi|omega))
 generalize hn : (1 + (k : Int)) = n at *
 have hn2 : 1 ≤ n ∧ n ≤ 100000 := by omega
 have BK := kw w hw.1
 have OF := Xa s w n hs hw hn1
 have OR := xA s w n hs hw
 have hok := @Qa s w n
 have hlz := @Zr s w n
 have hheld := @of_held s w n
 generalize ofV s w n = q at *
 obtain ⟨M0, e⟩ := q
 simp only at OF OR hok hlz hheld
 have hMk := lkOk_of hlz
 refine zy (α := Nat) (fun g => ⟨[(1, .rd [dIs a, dIs o, dPs L.1, dNs L.2.1, dPs L.2.2, dI gm, dI bud]), (3, .rd [dGms s]), (4, dPs w), (5, .rd [dGms s]), (6, dI n), (7, .ptr 7 g 0), (8, dI e)], [(7, (g, .box [dPs M0.1, dNs M0.2.1, dPs M0.2.2]))]⟩) (fun K2 hK2 hM2 => ?_) (fun g => ?_)
 ·((refine zA (.qs [1, 3, 0] (.kp2 2 (.kp2 4 (.qs [5, 6, 7] (.kp 8 (.one 9 (.qs [10] (.nil))))) 8 (.kp 4 (.qs [5, 6, 7] (.one 9 (.qs [10] (.nil)))))) 8 (.kp 2 (.kp 4 (.qs [5, 6, 7] (.one 9 (.qs [10] (.nil)))))))) (by kernel_rfl) ?_ ?_ ?_ ?_);kernel_rfl;exact (by decide +kernel);kernel_rfl;intro Y Yh;((repeat' (first|refine zC ?_ ?_|(refine qo fun Y Yh=>?_;simp[go_sem])|(refine qC fun Y Yh=>?_;simp[go_sem])|intro _|(apply Yh;clear Yh Y)))))
  all_goals ((try refine Xj ?_);refine qm (.inl ⟨rfl,rfl⟩) (by simp[go_sem]) ?_;intro args ha;simp[go_sem] at ha;subst ha;refine ⟨_, BK, ?_⟩;rintro _ rfl;simp[go_sem];((repeat' (first|refine zC ?_ ?_|(refine qC fun Y Yh=>?_;simp[go_sem])|intro _|(apply Yh;clear Yh Y)))))
  all_goals ((try refine Xj ?_);refine qm (.inl ⟨rfl,rfl⟩) (by simp[go_sem]) ?_;intro args ha;simp[go_sem] at ha;subst ha;refine ⟨_, OF, ?_⟩;rintro _ rfl;simp[go_sem];((repeat' (first|refine qy ?_|(refine qo fun Y Yh=>?_;simp[go_sem])|(refine qC fun Y Yh=>?_;simp[go_sem])|intro _|(apply Yh;clear Yh Y)));all_goals apply Xi))
  all_goals
   rename_i gq
   refine hK2 _ ?_
   refine hM2 gq _ ?_
   (refine ql ?_ ?_ <;> simp[go_sem])
 ·refine qA 7 rfl rfl ?_
  simp only [go_sem]
  (refine qc fun Y Yh=>?_;simp[go_sem])
  ((try refine Xj ?_);refine qm (.inl ⟨rfl,rfl⟩) (by simp[go_sem]) ?_;intro args ha;simp[go_sem] at ha;subst ha;refine ⟨_, OR, ?_⟩;rintro _ rfl;simp[go_sem];intro _;apply Yh;clear Yh Y;apply Xi)
  refine qA 9 rfl rfl ?_
  simp only [go_sem]
  refine qf fun K6 hK6 => ?_
  have SM := vg M0 M0 hMk hMk
  simp only [decide_true] at SM
  ((refine qE (.qs [0, 2] (.kp 1 (.kp 3 (.qs [4, 5, 6, 7, 8, 9] (.nil))))) (by kernel_rfl) ?_ ?_ ?_ ?_);kernel_rfl;exact (by decide +kernel);kernel_rfl;intro Y Yh;((repeat' (first|(refine qo fun Y Yh=>?_;simp[go_sem])|(refine qC fun Y Yh=>?_;simp[go_sem])|(apply Yh;clear Yh Y)))))
  ((try refine Xj ?_);refine qm (.inl ⟨rfl,rfl⟩) (by simp[go_sem]) ?_;intro args ha;simp[go_sem] at ha;subst ha;refine ⟨_, (Ql M0 hMk), ?_⟩;rintro _ rfl;simp[go_sem];((repeat' (first|(refine qC fun Y Yh=>?_;simp[go_sem])|(apply Yh;clear Yh Y)))))
  ((try refine Xj ?_);refine qm (.inl ⟨rfl,rfl⟩) (by simp[go_sem]) ?_;intro args ha;simp[go_sem] at ha;subst ha;refine ⟨_, SM, ?_⟩;rintro _ rfl;simp[go_sem];((repeat' (first|refine qy ?_|(refine qo fun Y Yh=>?_;simp[go_sem])|(apply Yh;clear Yh Y)));all_goals apply Xi))
  (refine qg fun T F hT hF=>?_;simp[go_sem];refine hF ?_;clear hT hF T F)
  refine qh ?_
  refine hK6 _ ?_; clear hK6
  refine qf fun K8 hK8 => ?_
  have tl8 : ∀ S', Cov S' ⟨[(1, .rd [dIs a, dIs o, dPs L.1, dNs L.2.1, dPs L.2.2, dI gm, dI bud]), (3, .rd [dGms s]), (5, .rd [dGms s]), (6, dI n), (7, .rd [dPs M0.1, dNs M0.2.1, dPs M0.2.2])], []⟩ → K8 S' := fun S' hS => by
   refine hK8 _ ?_; clear hK8
   refine qN hS ?_; clear hS
   ((refine qE (.qs [0, 2, 1, 3, 6] (.kp 4 (.kp 5 (.kp 7 (.qs [8] (.nil)))))) (by kernel_rfl) ?_ ?_ ?_ ?_);kernel_rfl;exact (by decide +kernel);kernel_rfl;intro Y Yh;((repeat' (first|(refine qo fun Y Yh=>?_;simp[go_sem])|(refine qC fun Y Yh=>?_;simp[go_sem])|(apply Yh;clear Yh Y)))))
   ((try refine Xj ?_);refine qm (.inl ⟨rfl,rfl⟩) (by simp[go_sem]) ?_;intro args ha;simp[go_sem] at ha;subst ha;refine ⟨_, G2, ?_⟩;rintro _ ⟨M1, hM1, rfl⟩;simp[go_sem];((repeat' (first|(refine qC fun Y Yh=>?_;simp[go_sem])|(apply Yh;clear Yh Y)))))
   ((try refine Xj ?_);refine qm (.inl ⟨rfl,rfl⟩) (by simp[go_sem]) ?_;intro args ha;simp[go_sem] at ha;subst ha;refine ⟨_, (JX M1 (lkOk_of (vF hM1))), ?_⟩;rintro _ rfl;simp[go_sem];((repeat' (first|refine qy ?_|(refine qo fun Y Yh=>?_;simp[go_sem])|(refine qC fun Y Yh=>?_;simp[go_sem])|intro _|(apply Yh;clear Yh Y)));all_goals apply Xi))
   refine qQ 13 rfl rfl ?_
   simp only [go_sem]
   obtain ⟨Ls, hLs⟩ : ∃ Ls, Ls = [L, M1, M0] := ⟨_, rfl⟩
   have hLz : ∀ X ∈ Ls, ZL X := fun X hX => by
    rw [hLs] at hX
    simp only [List.mem_cons, List.mem_nil_iff, or_false] at hX
    rcases hX with rfl | rfl | rfl
    ·exact hL
    ·exact zl_of (vF hM1)
    ·exact zl_of hlz
   have hLl : Ls.length = 3 := by rw [hLs]; rfl
   have hcell : D.sl 3 (Ls.map cLk) = D.sl 3 [cLk L, cLk M1, cLk M0] := by rw [hLs]; rfl
   rw [← hcell]
   clear hcell hLs
   refine qf fun K9 hK9 => ?_
   (refine qc fun Y Yh=>?_;simp[go_sem];apply Yh;clear Yh Y;apply Xi)
   refine qj ?_
   refine qx (σ := Nat) (fun i => ⟨[(1, .rd [dIs a, dIs o, dPs L.1, dNs L.2.1, dPs L.2.2, dI gm, dI bud]), (3, .rd [dGms s]), (5, .rd [dGms s]), (6, dI n), (13, .sl 3 (Ls.map cLk)), (14, dI i)], []⟩) (fun i => i ≤ 3) (fun i => 3 - i) 0 ?_ ?_ ?_
   ·(refine ql ?_ ?_ <;> simp[go_sem])
   ·simp
   rintro i hi
   refine qf fun K10 hK10 => ?_
   (refine qc fun Y Yh=>?_;simp[go_sem];apply Yh;clear Yh Y;apply Xi)
   (refine qg fun T F hT hF=>?_;simp[go_sem];refine BR.intro (fun h9=>hT ?_) (fun h9=>hF ?_);all_goals clear hT hF T F;try simp at h9)
   ·refine qh ?_
    refine hK10 _ ?_; clear hK10
    obtain ⟨X, hX⟩ : ∃ X, Ls[i]? = some X := ⟨_, List.getElem?_eq_getElem (by omega)⟩
    have hXz := hLz X (List.mem_of_getElem? hX)
    refine qf fun K12 hK12 => ?_
    have tl : ∀ S', Cov S' ⟨[(1, .rd [dIs a, dIs o, dPs L.1, dNs L.2.1, dPs L.2.2, dI gm, dI bud]), (3, .rd [dGms s]), (5, .rd [dGms s]), (6, dI n), (13, .sl 3 (Ls.map cLk)), (14, dI i)], []⟩ → K12 S' := fun S' hS => by
     refine hK12 _ ?_; clear hK12
     refine qN hS ?_; clear hS
     (refine qB fun Y Yh=>?_;simp[go_sem];((repeat' (first|apply And.intro|(apply Yh;clear Yh Y)));all_goals first|apply Xi|omega))
     refine ⟨i + 1, ?_, by omega, by omega⟩
     (refine ql ?_ ?_ <;> simp[go_sem])
    clear hK12
    refine qj ?_
    refine qf fun K13 hK13 => ?_
    (refine qc fun Y Yh=>?_;simp[go_sem, hX])
    ((try refine Xj ?_);refine qm (.inl ⟨rfl,rfl⟩) (by simp[go_sem]) ?_;intro args ha;simp[go_sem] at ha;subst ha;refine ⟨_, (Zv X hXz), ?_⟩;rintro _ ⟨bl, hbl, rfl⟩;simp[go_sem];apply Yh;clear Yh Y;apply Xi)
    cases bl with
    | true =>
     (refine qg fun T F hT hF=>?_;simp[go_sem];refine hT ?_;clear hT hF T F)
     refine qp ?_
     simp only [go_sem]
     refine tl _ ?_
     (refine ql ?_ ?_ <;> simp[go_sem])
    | false =>
     have hXk := hbl rfl
     (refine qg fun T F hT hF=>?_;simp[go_sem];refine hF ?_;clear hT hF T F)
     refine qh ?_
     refine hK13 _ ?_; clear hK13
     have v1 := unI_wrap gm
     have hlt5 : unI gm % 5 < 5 := Nat.mod_lt _ (by omega)
     have v0 : ((unI gm : Nat) : Int).tmod 5 = ((unI gm % 5 : Nat) : Int) := by
      rw [show (5 : Int) = ((5 : Nat) : Int) by omega]; simp [Int.tmod_eq_emod_of_nonneg]
     generalize unI gm % 5 = k5 at *
     obtain ⟨gs, hgs⟩ : ∃ gs : Bs, ([[D.v (Value.string ⟨#[97]⟩)], [D.v (Value.string ⟨#[98]⟩)], [D.v (Value.string ⟨#[99, 49]⟩)], [D.v (Value.string ⟨#[110, 111, 110, 101]⟩)], [D.v (Value.string ⟨#[]⟩)]] : List (List D))[k5]? = some [dS gs] := by
      match k5, hlt5 with
      | 0, _ => exact ⟨[97], rfl⟩
      | 1, _ => exact ⟨[98], rfl⟩
      | 2, _ => exact ⟨[99, 49], rfl⟩
      | 3, _ => exact ⟨[110, 111, 110, 101], rfl⟩
      | 4, _ => exact ⟨[], rfl⟩
     (refine qc fun Y Yh=>?_;simp[go_sem, v1, v0, hgs];((repeat' (first|intro _|apply And.intro|(apply Yh;clear Yh Y)));all_goals first|apply Xi|omega))
     have hXw : SzN X.2.2 := ⟨hXk.2.2.1, hXk.2.2.2.2.2⟩
     have HO := vY s X hs hXk hXw
     have HR := QC s X hs hXk hXw
     have UO := Zf s X gs n hs hXk hXw hn1
     have UR := Q3 s X gs n hs hXk hXw
     have huz := @JM s X gs n
     have AX := Ql X hXk
     generalize heldV s X = q at *
     obtain ⟨hb1, he1⟩ := q
     generalize updV s X gs n = q at *
     obtain ⟨U, ue⟩ := q
     simp only at HO HR UO UR huz
     have hUk := lkOk_of huz
     have SU := vg U U hUk hUk
     simp only [decide_true] at SU
     ((refine qE (.qs [1, 2, 3, 0, 4] (.one 5 (.qs [6, 7, 8, 9, 10] (.nil)))) (by kernel_rfl) ?_ ?_ ?_ ?_);kernel_rfl;exact (by decide +kernel);kernel_rfl;intro Y Yh;((repeat' (first|(refine qo fun Y Yh=>?_;simp[go_sem, hX])|(refine qC fun Y Yh=>?_;simp[go_sem, hX])|(apply Yh;clear Yh Y)))))
     ((try refine Xj ?_);refine qm (.inl ⟨rfl,rfl⟩) (by simp[go_sem]) ?_;intro args ha;simp[go_sem] at ha;subst ha;refine ⟨_, HO, ?_⟩;rintro _ rfl;simp[go_sem, hX];((repeat' (first|refine qy ?_|(refine qo fun Y Yh=>?_;simp[go_sem, hX])|(apply Yh;clear Yh Y)));all_goals apply Xi))
     ((refine qE (.qs [1, 2, 3, 0, 4] (.kp 5 (.kp 6 (.qs [7, 8, 9, 10, 11] (.nil))))) (by kernel_rfl) ?_ ?_ ?_ ?_);kernel_rfl;exact (by decide +kernel);kernel_rfl;intro Y Yh;((repeat' (first|(refine qo fun Y Yh=>?_;simp[go_sem, hX])|(refine qC fun Y Yh=>?_;simp[go_sem, hX])|(apply Yh;clear Yh Y)))))
     ((try refine Xj ?_);refine qm (.inl ⟨rfl,rfl⟩) (by simp[go_sem]) ?_;intro args ha;simp[go_sem] at ha;subst ha;refine ⟨_, AX, ?_⟩;rintro _ rfl;simp[go_sem, hX];((repeat' (first|(refine qC fun Y Yh=>?_;simp[go_sem, hX])|(apply Yh;clear Yh Y)))))
     ((try refine Xj ?_);refine qm (.inl ⟨rfl,rfl⟩) (by simp[go_sem]) ?_;intro args ha;simp[go_sem] at ha;subst ha;refine ⟨_, HR, ?_⟩;rintro _ rfl;simp[go_sem, hX];((repeat' (first|refine qy ?_|(refine qo fun Y Yh=>?_;simp[go_sem, hX])|(apply Yh;clear Yh Y)));all_goals apply Xi))
     refine zy (α := Nat) (fun g => ⟨[(1, .rd [dIs a, dIs o, dPs L.1, dNs L.2.1, dPs L.2.2, dI gm, dI bud]), (3, .rd [dGms s]), (5, .rd [dGms s]), (6, dI n), (13, .sl 3 (Ls.map cLk)), (14, dI i), (15, dS gs), (16, dB hb1), (17, dI he1), (18, dB hb1), (19, dI he1), (20, .ptr 20 g 0), (21, dI ue)], [(20, (g, .box [dPs U.1, dNs U.2.1, dPs U.2.2]))]⟩) (fun K2 hK2 hM2 => ?_) (fun g20 => ?_)
     ·((refine zA (.qs [1, 2, 3, 5, 6, 0, 4] (.kp2 7 (.qs [8, 9, 10] (.kp 11 (.one 12 (.qs [13] (.nil))))) 11 (.kp 7 (.qs [8, 9, 10] (.one 12 (.qs [13] (.nil))))))) (by kernel_rfl) ?_ ?_ ?_ ?_);kernel_rfl;exact (by decide +kernel);kernel_rfl;intro Y Yh;((repeat' (first|refine zC ?_ ?_|(refine qo fun Y Yh=>?_;simp[go_sem, hX])|(refine qC fun Y Yh=>?_;simp[go_sem, hX])|intro _|(apply Yh;clear Yh Y)))))
      all_goals ((try refine Xj ?_);refine qm (.inl ⟨rfl,rfl⟩) (by simp[go_sem]) ?_;intro args ha;simp[go_sem] at ha;subst ha;refine ⟨_, UO, ?_⟩;rintro _ rfl;simp[go_sem, hX];((repeat' (first|refine qy ?_|(refine qo fun Y Yh=>?_;simp[go_sem, hX])|(refine qC fun Y Yh=>?_;simp[go_sem, hX])|intro _|(apply Yh;clear Yh Y)));all_goals apply Xi))
      all_goals
       rename_i gq
       refine hK2 _ ?_
       refine hM2 gq _ ?_
       (refine ql ?_ ?_ <;> simp[go_sem])
     ·refine qA 20 rfl rfl ?_
      simp only [go_sem]
      refine zy (α := Nat) (fun g => ⟨[(1, .rd [dIs a, dIs o, dPs L.1, dNs L.2.1, dPs L.2.2, dI gm, dI bud]), (3, .rd [dGms s]), (5, .rd [dGms s]), (6, dI n), (13, .sl 3 (Ls.map cLk)), (14, dI i), (15, dS gs), (16, dB hb1), (17, dI he1), (18, dB hb1), (19, dI he1), (20, .rd [dPs U.1, dNs U.2.1, dPs U.2.2]), (21, dI ue), (22, .ptr 22 g 0), (23, dI ue)], [(22, (g, .box [dPs U.1, dNs U.2.1, dPs U.2.2]))]⟩) (fun K2 hK2 hM2 => ?_) (fun g22 => ?_)
      ·((refine zA (.qs [1, 2, 3, 6, 7, 0, 4] (.kp2 5 (.kp2 8 (.qs [9, 10, 11] (.kp 12 (.one 13 (.qs [14] (.nil))))) 12 (.kp 8 (.qs [9, 10, 11] (.one 13 (.qs [14] (.nil)))))) 12 (.kp 5 (.kp 8 (.qs [9, 10, 11] (.one 13 (.qs [14] (.nil)))))))) (by kernel_rfl) ?_ ?_ ?_ ?_);kernel_rfl;exact (by decide +kernel);kernel_rfl;intro Y Yh;((repeat' (first|refine zC ?_ ?_|(refine qo fun Y Yh=>?_;simp[go_sem, hX])|(refine qC fun Y Yh=>?_;simp[go_sem, hX])|intro _|(apply Yh;clear Yh Y)))))
       all_goals ((try refine Xj ?_);refine qm (.inl ⟨rfl,rfl⟩) (by simp[go_sem]) ?_;intro args ha;simp[go_sem] at ha;subst ha;refine ⟨_, AX, ?_⟩;rintro _ rfl;simp[go_sem, hX];((repeat' (first|refine zC ?_ ?_|(refine qC fun Y Yh=>?_;simp[go_sem, hX])|intro _|(apply Yh;clear Yh Y)))))
       all_goals ((try refine Xj ?_);refine qm (.inl ⟨rfl,rfl⟩) (by simp[go_sem]) ?_;intro args ha;simp[go_sem] at ha;subst ha;refine ⟨_, UR, ?_⟩;rintro _ rfl;simp[go_sem, hX];((repeat' (first|refine qy ?_|(refine qo fun Y Yh=>?_;simp[go_sem, hX])|(refine qC fun Y Yh=>?_;simp[go_sem, hX])|intro _|(apply Yh;clear Yh Y)));all_goals apply Xi))
       all_goals
        rename_i gq
        refine hK2 _ ?_
        refine hM2 gq _ ?_
        (refine ql ?_ ?_ <;> simp[go_sem])
      ·refine qA 22 rfl rfl ?_
       simp only [go_sem]
       ((refine qE (.qs [0, 1, 2, 3, 4, 5, 6, 7, 8, 9, 11] (.kp 10 (.kp 12 (.qs [13, 14, 15, 16, 17, 18, 19] (.nil))))) (by kernel_rfl) ?_ ?_ ?_ ?_);kernel_rfl;exact (by decide +kernel);kernel_rfl;intro Y Yh;((repeat' (first|(refine qo fun Y Yh=>?_;simp[go_sem])|(refine qC fun Y Yh=>?_;simp[go_sem])|(apply Yh;clear Yh Y)))))
       (refine ZQ (dLk U) (.inl ⟨rfl,rfl⟩) (by simp[go_sem]) ?_ ?_;(intro hc args ha;simp[go_sem] at ha;subst ha;exact (Ql U hUk));simp[go_sem];((repeat' (first|(refine qC fun Y Yh=>?_;simp[go_sem])|(apply Yh;clear Yh Y)))))
       (refine qX (dB true) (.inl ⟨rfl,rfl⟩) ?_ rfl ?_;(intro hc args ha;simp[go_sem] at ha;subst ha;exact SU);simp[go_sem];((repeat' (first|refine qy ?_|(refine qo fun Y Yh=>?_;simp[go_sem])|(apply Yh;clear Yh Y)));all_goals apply Xi))
       (refine qg fun T F hT hF=>?_;simp[go_sem];refine hF ?_;clear hT hF T F)
       refine qh ?_
       refine tl _ ?_
       (refine ql ?_ ?_ <;> simp[go_sem])
   ·refine qp ?_
    simp only [go_sem]
    refine hK9 _ ?_; clear hK9
    (refine qc fun Y Yh=>?_;simp[go_sem])
    ((try refine Xj ?_);refine qm (.inl ⟨rfl,rfl⟩) (by simp[go_sem]) ?_;intro args ha;simp[go_sem] at ha;subst ha;refine ⟨_, Qy, ?_⟩;rintro _ rfl;simp[go_sem];apply Yh;clear Yh Y;apply Xi)
    (refine qi ?_;simp[go_sem])
  clear hK8
  (refine qc fun Y Yh=>?_;simp[go_sem];apply Yh;clear Yh Y;apply Xi)
  by_cases h0 : e = 0
  ·subst h0
   have HO := vY s M0 hs hMk hlz.2.2
   rw [hheld rfl] at HO
   simp only at HO
   (refine qg fun T F hT hF=>?_;simp[go_sem];refine hT ?_;clear hT hF T F)
   (refine qc fun Y Yh=>?_;simp[go_sem])
   ((try refine Xj ?_);refine qm (.inl ⟨rfl,rfl⟩) (by simp[go_sem]) ?_;intro args ha;simp[go_sem] at ha;subst ha;refine ⟨_, HO, ?_⟩;rintro _ rfl;simp[go_sem];apply Yh;clear Yh Y;apply Xi)
   (refine qc fun Y Yh=>?_;simp[go_sem];((repeat' (first|(refine qJ ?_ ?_;(focus (simp[go_sem, undef];done));simp[go_sem])|(apply Yh;clear Yh Y)));all_goals apply Xi))
   (refine qg fun T F hT hF=>?_;simp[go_sem];refine hF ?_;clear hT hF T F)
   refine qh ?_
   refine tl8 _ ?_
   (refine ql ?_ ?_ <;> simp[go_sem])
  ·have h0i : ¬ (e : Int) = 0 := by omega
   (refine qg fun T F hT hF=>?_;simp[go_sem, h0, h0i];refine hF ?_;clear hT hF T F)
   refine qh ?_
   refine tl8 _ ?_
   (refine ql ?_ ?_ <;> simp[go_sem])
end Go.Proofs.YteekfnhhlcmcgaaGreatDoor
namespace Go.Proofs.YteekfnhhlcmcgaaGreatDoor
open Go.Eng Go.WideShapes Go.Wh Go.Ver Go.Lk
set_option maxRecDepth 100000
/-! the parameter of LockSolves -/
abbrev LkT := List Int × List Int × Lck × Int × Int
abbrev LkQ (x : LkT) : Prop := (x.1.length ≤ 9223372036854775807 ∧ ∀ n ∈ x.1, InR n) ∧ (x.2.1.length ≤ 9223372036854775807 ∧ ∀ n ∈ x.2.1, InR n) ∧ ZL x.2.2.1 ∧ InR x.2.2.2.1 ∧ InR x.2.2.2.2
theorem oz_lask : OpensZ Tryz.prog 98 (fun x : LkT => [dIs x.1, dIs x.2.1, dPs x.2.2.1.1, dNs x.2.2.1.2.1, dPs x.2.2.1.2.2, dI x.2.2.2.1, dI x.2.2.2.2]) LkQ := by
 have h := zQ (e := 7) Tryz.underlying98 rfl (by kernel_rfl) (zi (n := 1) rfl (by kernel_rfl) oz_ints (zi (n := 1) rfl (by kernel_rfl) oz_ints (zi (n := 3) rfl (by kernel_rfl) oz_lock (zi (n := 1) rfl (by kernel_rfl) oz_int (zi (n := 1) rfl (by kernel_rfl) oz_int jf)))))
 exact h.iso (fun x => (x.1, x.2.1, x.2.2.1, x.2.2.2.1, x.2.2.2.2.1)) (fun _ => rfl) (fun _ q => ⟨q.1, q.2.1, q.2.2.1, q.2.2.2.1, q.2.2.2.2.1⟩)
theorem ovz_lask : OpensZV Tryz.prog 98 (fun x : LkT => .agg [dIs x.1, dIs x.2.1, dPs x.2.2.1.1, dNs x.2.2.1.2.1, dPs x.2.2.1.2.2, dI x.2.2.2.1, dI x.2.2.2.2]) LkQ := QG Tryz.underlying98 oz_lask
end Go.Proofs.YteekfnhhlcmcgaaGreatDoor
