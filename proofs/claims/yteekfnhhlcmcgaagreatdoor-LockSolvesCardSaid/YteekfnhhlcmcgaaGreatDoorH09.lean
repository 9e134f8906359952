/- Part of a proof: see the last text. -/
import Derived.Test.YteekfnhhlcmcgaaGreatDoorH08
set_option linter.unusedVariables false
set_option linter.unusedSimpArgs false
namespace Go.Proofs.YteekfnhhlcmcgaaGreatDoor
open Go.Eng Go.Wh Go.Ver Go.RowKit Go.Lk
set_option maxRecDepth 20000
attribute [local irreducible] AG CallA CallT AWp PCall ACall AgC
set_option maxHeartbeats 8000000 in
theorem jm (s : Src) (hs : SzS s) : PCall Tryz.prog 102 [dSrc s] fun r => r = dB (suV s) := by 
 refine qw Tryz.func102 rfl rfl Tryz.ntmps102 (rs := [.tmp 2]) (tys := [4]) rfl rfl (by simp) ?_
 obtain ⟨hs0, hs1⟩ := hs
 have hbad := fun n (h : upTo (suAt s) n = false) (hn : n ≤ s.length) => upTo_bad h s.length hn
 have hst := fun i x => @su_step s x i
 have hz : upTo (suAt s) 0 = true := rfl
 unfold suV
 generalize upTo (suAt s) = nt at *
 (refine qc fun Y Yh=>?_;simp[go_sem];intro _;apply Yh;clear Yh Y;apply Xi)
 rename_i g1
 refine qf fun K1 hK1 => ?_
 (refine qc fun Y Yh=>?_;simp[go_sem];apply Yh;clear Yh Y;apply Xi)
 (refine qg fun T F hT hF=>?_;simp[go_sem];refine BR.intro (fun h2=>hT ?_) (fun h2=>hF ?_);all_goals clear hT hF T F;try simp at h2) 
 ·have : ¬ s.length ≤ 15 := by omega
  (refine qc fun Y Yh=>?_;simp[go_sem];apply Yh;clear Yh Y;apply Xi)
  (refine qi ?_;simp[go_sem, this])
 ·have hle : s.length ≤ 15 := by omega
  refine qh ?_
  refine hK1 _ ?_; clear hK1
  refine qf fun K3 hK3 => ?_
  (refine qc fun Y Yh=>?_;simp[go_sem];apply Yh;clear Yh Y;apply Xi)
  refine qj ?_
  refine qx (σ := Nat) (fun i => ⟨[(1, .ptr 1 g1 0), (3, dI i)], [(1, g1, .box [dGms s])]⟩) (fun i => i ≤ s.length ∧ nt i = true) (fun i => s.length - i) 0 ?_ ?_ ?_
  ·(refine ql ?_ ?_ <;> simp[go_sem])
  ·exact ⟨by omega, hz⟩
  rintro i ⟨hi, hn⟩
  refine qf fun K4 hK4 => ?_
  (refine qc fun Y Yh=>?_;simp[go_sem];apply Yh;clear Yh Y;apply Xi)
  (refine qg fun T F hT hF=>?_;simp[go_sem];refine BR.intro (fun h5=>hT ?_) (fun h5=>hF ?_);all_goals clear hT hF T F;try simp at h5) 
  ·refine qh ?_
   refine hK4 _ ?_; clear hK4
   obtain ⟨x, hx⟩ : ∃ x, s[i]? = some x := ⟨_, List.getElem?_eq_getElem (by omega)⟩
   obtain ⟨hx1, hx2, hx3⟩ := hs1 x (List.mem_of_getElem? hx)
   have N1 := zT x.1 (by omega)
   have Q1 := xe x.2 hx2 hx3
   have hst1 := hst i x hx hn
   have hbad1 := fun h => hbad (i + 1) h (by omega)
   generalize nameV x.1 = nb at *
   generalize vuV x.2 = qb at *
   refine qf fun K6 hK6 => ?_
   refine qj ?_
   (refine qc fun Y Yh=>?_;simp[go_sem, hx];intro _;apply Yh;clear Yh Y;apply Xi)
   rename_i g4
   cases nb with
   | false =>
    have hF := hbad1 (by rw [hst1]; simp)
    ((refine qE (.qs [0, 1] (.one 2 (.qs [3, 4] (.sk 5 (.sk 6 (.sk 7 (.sk 8 (.sk 10 (.sk 12 (.sk 13 (.sk 9 (.sk 11 (.sk 14 (.sk 15 (.sk 16 (.sk 17 (.sk 18 (.qs [19, 20] (.sk 21 (.sk 22 (.sk 23 (.sk 24 (.qs [25] (.nil)))))))))))))))))))))))) (by kernel_rfl) ?_ ?_ ?_ ?_);kernel_rfl;exact (by decide +kernel);kernel_rfl;intro Y Yh;((repeat' (first|(refine qo fun Y Yh=>?_;simp[go_sem])|(refine qC fun Y Yh=>?_;simp[go_sem])|(apply Yh;clear Yh Y)))))
    ((try refine Xj ?_);refine qm (.inl ⟨rfl,rfl⟩) (by simp[go_sem]) ?_;intro args ha;simp[go_sem] at ha;subst ha;refine ⟨_, N1, ?_⟩;rintro _ rfl;simp[go_sem, undef];((repeat' (first|refine qy ?_|(refine qo fun Y Yh=>?_;simp[go_sem, undef])|(refine qC fun Y Yh=>?_;simp[go_sem, undef])|(apply Yh;clear Yh Y)));all_goals apply Xi))
    (refine qg fun T F hT hF=>?_;simp[go_sem];refine hT ?_;clear hT hF T F)
    (refine qc fun Y Yh=>?_;simp[go_sem];apply Yh;clear Yh Y;apply Xi)
    (refine qi ?_;simp[go_sem, hF])
   | true =>
    by_cases h0 : i = 0
    ·subst h0
     ((refine qE (.qs [0, 1] (.one 2 (.qs [3, 4, 5, 6, 7] (.sk 8 (.sk 10 (.sk 12 (.sk 13 (.sk 9 (.sk 11 (.sk 14 (.sk 15 (.sk 16 (.sk 17 (.qs [18, 19, 20, 21, 22] (.one 23 (.qs [24, 25] (.nil))))))))))))))))) (by kernel_rfl) ?_ ?_ ?_ ?_);kernel_rfl;exact (by decide +kernel);kernel_rfl;intro Y Yh;((repeat' (first|(refine qo fun Y Yh=>?_;simp[go_sem])|(refine qC fun Y Yh=>?_;simp[go_sem])|(apply Yh;clear Yh Y)))))
     ((try refine Xj ?_);refine qm (.inl ⟨rfl,rfl⟩) (by simp[go_sem]) ?_;intro args ha;simp[go_sem] at ha;subst ha;refine ⟨_, N1, ?_⟩;rintro _ rfl;simp[go_sem, undef];((repeat' (first|(refine qH ?_;simp[go_sem, undef])|(refine qo fun Y Yh=>?_;simp[go_sem, undef])|(refine qC fun Y Yh=>?_;simp[go_sem, undef])|(apply Yh;clear Yh Y)))))
     (refine qX (dB qb) (.inl ⟨rfl,rfl⟩) ?_ rfl ?_;(intro hc args ha;simp[go_sem] at ha;subst ha;exact Q1);simp[go_sem, undef];((repeat' (first|refine qy ?_|(refine qo fun Y Yh=>?_;simp[go_sem, undef])|(apply Yh;clear Yh Y)));all_goals apply Xi))
     cases qb with
     | false =>
      have hF := hbad1 (by rw [hst1]; simp)
      (refine qg fun T F hT hF=>?_;simp[go_sem];refine hT ?_;clear hT hF T F)
      (refine qc fun Y Yh=>?_;simp[go_sem];apply Yh;clear Yh Y;apply Xi)
      (refine qi ?_;simp[go_sem, hF])
     | true =>
      have hT : nt 1 = true := by rw [hst1]; simp
      (refine qg fun T F hT hF=>?_;simp[go_sem];refine hF ?_;clear hT hF T F)
      refine qh ?_
      refine hK6 _ ?_; clear hK6
      (refine qB fun Y Yh=>?_;simp[go_sem];((repeat' (first|apply And.intro|(apply Yh;clear Yh Y)));all_goals first|apply Xi|omega))
      refine ⟨1, ?_, ⟨by omega, hT⟩, by omega⟩
      (refine ql ?_ ?_ <;> simp[go_sem])
    ·obtain ⟨j, rfl⟩ : ∃ j, i = j + 1 := ⟨i - 1, by omega⟩
     obtain ⟨y, hy⟩ : ∃ y, s[j]? = some y := ⟨_, List.getElem?_eq_getElem (by omega)⟩
     have hi1 : ((j : Int) + 1 - 1).toNat = j := by omega
     have hi2 : (j : Int) + 1 - 1 = j := by omega
     have hi3 : ((j : Int) + 1).toNat = j + 1 := by omega
     have hpos : (0 : Int) < (j : Int) + 1 := by omega
     simp only [Nat.add_sub_cancel, hy] at hst1
     generalize hlb : Op.bytesLess y.1 x.1 = lb at *
     cases lb with
     | false =>
      have hF := hbad1 (by rw [hst1]; simp)
      ((refine qE (.qs [0, 1] (.one 2 (.qs [3, 4, 5, 6, 7, 8, 10, 12, 13, 9, 11, 14, 15, 16, 17, 18, 19, 20] (.sk 21 (.sk 22 (.sk 23 (.sk 24 (.qs [25] (.nil))))))))) (by kernel_rfl) ?_ ?_ ?_ ?_);kernel_rfl;exact (by decide +kernel);kernel_rfl;intro Y Yh;((repeat' (first|(refine qo fun Y Yh=>?_;simp[go_sem, hy, hi1, hi2, hi3, hpos])|(refine qC fun Y Yh=>?_;simp[go_sem, hy, hi1, hi2, hi3, hpos])|(apply Yh;clear Yh Y)))))
      ((try refine Xj ?_);refine qm (.inl ⟨rfl,rfl⟩) (by simp[go_sem]) ?_;intro args ha;simp[go_sem] at ha;subst ha;refine ⟨_, N1, ?_⟩;rintro _ rfl;simp[go_sem, undef, hy, hi1, hi2, hi3, hpos, hlb];((repeat' (first|refine qy ?_|(refine qo fun Y Yh=>?_;simp[go_sem, undef, hy, hi1, hi2, hi3, hpos, hlb])|(refine qC fun Y Yh=>?_;simp[go_sem, undef, hy, hi1, hi2, hi3, hpos, hlb])|apply And.intro|(apply Yh;clear Yh Y)));all_goals first|apply Xi|omega))
      (refine qg fun T F hT hF=>?_;simp[go_sem];refine hT ?_;clear hT hF T F)
      (refine qc fun Y Yh=>?_;simp[go_sem];apply Yh;clear Yh Y;apply Xi)
      (refine qi ?_;simp[go_sem, hF])
     | true =>
      ((refine qE (.qs [0, 1] (.one 2 (.qs [3, 4, 5, 6, 7, 8, 10, 12, 13, 9, 11, 14, 15, 16, 17, 18, 19, 20, 21, 22] (.one 23 (.qs [24, 25] (.nil)))))) (by kernel_rfl) ?_ ?_ ?_ ?_);kernel_rfl;exact (by decide +kernel);kernel_rfl;intro Y Yh;((repeat' (first|(refine qo fun Y Yh=>?_;simp[go_sem, hy, hi1, hi2, hi3, hpos])|(refine qC fun Y Yh=>?_;simp[go_sem, hy, hi1, hi2, hi3, hpos])|(apply Yh;clear Yh Y)))))
      ((try refine Xj ?_);refine qm (.inl ⟨rfl,rfl⟩) (by simp[go_sem]) ?_;intro args ha;simp[go_sem] at ha;subst ha;refine ⟨_, N1, ?_⟩;rintro _ rfl;simp[go_sem, hy, hi1, hi2, hi3, hpos, hlb];((repeat' (first|(refine qH ?_;simp[go_sem, hy, hi1, hi2, hi3, hpos, hlb])|(refine qo fun Y Yh=>?_;simp[go_sem, hy, hi1, hi2, hi3, hpos, hlb])|(refine qC fun Y Yh=>?_;simp[go_sem, hy, hi1, hi2, hi3, hpos, hlb])|apply And.intro|(apply Yh;clear Yh Y)));all_goals first|omega|skip))
      (refine qX (dB qb) (.inl ⟨rfl,rfl⟩) ?_ rfl ?_;(intro hc args ha;simp[go_sem] at ha;subst ha;exact Q1);simp[go_sem, hy, hi1, hi2, hi3, hpos, hlb];((repeat' (first|refine qy ?_|(refine qo fun Y Yh=>?_;simp[go_sem, hy, hi1, hi2, hi3, hpos, hlb])|(apply Yh;clear Yh Y)));all_goals apply Xi))
      cases qb with
      | false =>
       have hF := hbad1 (by rw [hst1]; simp)
       (refine qg fun T F hT hF=>?_;simp[go_sem];refine hT ?_;clear hT hF T F)
       (refine qc fun Y Yh=>?_;simp[go_sem];apply Yh;clear Yh Y;apply Xi)
       (refine qi ?_;simp[go_sem, hF])
      | true =>
       have hT : nt (j + 1 + 1) = true := by rw [hst1]; simp
       (refine qg fun T F hT hF=>?_;simp[go_sem];refine hF ?_;clear hT hF T F)
       refine qh ?_
       refine hK6 _ ?_; clear hK6
       (refine qB fun Y Yh=>?_;simp[go_sem];((repeat' (first|apply And.intro|(apply Yh;clear Yh Y)));all_goals first|apply Xi|omega))
       refine ⟨j + 1 + 1, ?_, ⟨by omega, hT⟩, by omega⟩
       (refine ql ?_ ?_ <;> simp[go_sem])
  ·refine qp ?_
   simp only [go_sem]
   refine hK3 _ ?_; clear hK3
   have : i = s.length := by omega
   subst this
   (refine qc fun Y Yh=>?_;simp[go_sem];apply Yh;clear Yh Y;apply Xi)
   (refine qi ?_;simp[go_sem, hle, hn])
set_option maxHeartbeats 4000000 in
theorem J7 (s : Src) (w : List Prs) (hs : SzS s) (hw : SzN w) : PCall Tryz.prog 77 [dSrc s, dPs w] fun r => r = dI (if chkV s w = true then 0 else 1) := by 
 refine qw Tryz.func77 rfl rfl Tryz.ntmps77 (rs := [.tmp 4]) (tys := [35]) rfl rfl (by simp) ?_
 have I1 := jm s hs
 have N1 := Qb w 8 hw (by decide)
 unfold chkV
 generalize suV s = a at *
 generalize nuV 8 w = b at *
 (refine qc fun Y Yh=>?_;simp[go_sem];intro _;apply Yh;clear Yh Y;apply Xi)
 refine qf fun K1 hK1 => ?_
 (refine qc fun Y Yh=>?_;simp[go_sem])
 ((try refine Xj ?_);refine qm (.inl ⟨rfl,rfl⟩) (by simp[go_sem]) ?_;intro args ha;simp[go_sem] at ha;subst ha;refine ⟨_, I1, ?_⟩;rintro _ rfl;simp[go_sem];((repeat' (refine qH ?_;simp[go_sem]))))
 (refine qX (dB b) (.inl ⟨rfl,rfl⟩) ?_ rfl ?_;(intro hc args ha;simp[go_sem] at ha;subst ha;exact N1);simp[go_sem];refine qH ?_;simp[go_sem];apply Yh;clear Yh Y;apply Xi)
 cases a with
 | false => (refine qg fun T F hT hF=>?_;simp[go_sem];refine hT ?_;clear hT hF T F); (refine qc fun Y Yh=>?_;simp[go_sem];apply Yh;clear Yh Y;apply Xi); (refine qi ?_;simp[go_sem])
 | true =>
  cases b with
  | false => (refine qg fun T F hT hF=>?_;simp[go_sem];refine hT ?_;clear hT hF T F); (refine qc fun Y Yh=>?_;simp[go_sem];apply Yh;clear Yh Y;apply Xi); (refine qi ?_;simp[go_sem])
  | true => (refine qg fun T F hT hF=>?_;simp[go_sem];refine hF ?_;clear hT hF T F); refine qh ?_; refine hK1 _ ?_; clear hK1; (refine qc fun Y Yh=>?_;simp[go_sem];apply Yh;clear Yh Y;apply Xi); (refine qi ?_;simp[go_sem])
set_option maxHeartbeats 4000000 in
theorem jV (l : List Prs) (n : Bs) (hl : l.length ≤ 1000000) : PCall Tryz.prog 139 [dPs l, dS n] fun r => r = dS (pkdV l n) := by 
 refine qw Tryz.func139 rfl rfl Tryz.ntmps139 (rs := [.tmp 4]) (tys := [9]) rfl rfl (by simp) ?_
 have hst := fun k v => @pkd_step l n k v
 have hz : pkdV l n = (((l.drop 0).find? (fun x => decide (x.1 = n))).map (·.2)).getD [] := rfl
 have he : (l.drop l.length).find? (fun x => decide (x.1 = n)) = none := by rw [List.drop_length]; rfl
 generalize pkdV l n = r0 at *
 generalize hF : (fun k => (l.drop k).find? (fun x => decide (x.1 = n))) = F at *
 have hF1 : ∀ k, (l.drop k).find? (fun x => decide (x.1 = n)) = F k := fun k => by rw [← hF]
 simp only [hF1] at hst hz he
 clear hF hF1
 (refine qc fun Y Yh=>?_;simp[go_sem];apply Yh;clear Yh Y;apply Xi)
 refine qf fun K1 hK1 => ?_
 (refine qc fun Y Yh=>?_;simp[go_sem];apply Yh;clear Yh Y;apply Xi)
 refine qj ?_
 refine qx (σ := Nat) (fun i => ⟨[(0, dPs l), (1, dS n), (5, dI i)], []⟩) (fun i => i ≤ l.length ∧ F 0 = F i) (fun i => l.length - i) 0 ?_ ?_ ?_
 ·(refine ql ?_ ?_ <;> simp[go_sem])
 ·exact ⟨by omega, rfl⟩
 rintro i ⟨hi, hf⟩
 refine qf fun K2 hK2 => ?_
 (refine qc fun Y Yh=>?_;simp[go_sem];apply Yh;clear Yh Y;apply Xi)
 (refine qg fun T F hT hF=>?_;simp[go_sem];refine BR.intro (fun h3=>hT ?_) (fun h3=>hF ?_);all_goals clear hT hF T F;try simp at h3)
 ·refine qh ?_
  refine hK2 _ ?_; clear hK2
  obtain ⟨x, hx⟩ : ∃ x, l[i]? = some x := ⟨_, List.getElem?_eq_getElem (by omega)⟩
  have hst1 := hst i x hx
  refine qf fun K4 hK4 => ?_
  refine qj ?_
  (refine qc fun Y Yh=>?_;simp[go_sem, hx];apply Yh;clear Yh Y;apply Xi)
  (refine qg fun T F hT hF=>?_;simp[go_sem];refine BR.intro (fun h5=>hT ?_) (fun h5=>hF ?_);all_goals clear hT hF T F;try simp at h5)
  ·rw [if_pos h5] at hst1
   have : r0 = x.2 := by rw [hz, hf, hst1]; rfl
   (refine qc fun Y Yh=>?_;simp[go_sem, hx];apply Yh;clear Yh Y;apply Xi)
   (refine qi ?_;simp[go_sem, this])
  ·rw [if_neg h5] at hst1
   refine qh ?_
   refine hK4 _ ?_; clear hK4
   (refine qB fun Y Yh=>?_;simp[go_sem];((repeat' (first|apply And.intro|(apply Yh;clear Yh Y)));all_goals first|apply Xi|omega))
   refine ⟨i + 1, ?_, ⟨by omega, hf.trans hst1⟩, by omega⟩
   (refine ql ?_ ?_ <;> simp[go_sem])
 ·refine qp ?_
  simp only [go_sem]
  refine hK1 _ ?_; clear hK1
  have : i = l.length := by omega
  subst this
  have : r0 = [] := by rw [hz, hf, he]; rfl
  (refine qc fun Y Yh=>?_;simp[go_sem];apply Yh;clear Yh Y;apply Xi)
  (refine qi ?_;simp[go_sem, this])
theorem jU (v r : Bs) (hv : v.length ≤ 1000000) (hr : r.length ≤ 1000000) : PCall Tryz.prog 183 [dS v, dS r] fun x => x = dB (meetsP v r) := by 
 refine qw Tryz.func183 rfl rfl Tryz.ntmps183 (rs := [.tmp 4]) (tys := [4]) rfl rfl (by simp) ?_
 have M := QA v r hv hr
 generalize meetsP v r = b at *
 generalize codeP ((readV v).isSome && (condsV r).isSome) = c at *
 (refine qc fun Y Yh=>?_;simp[go_sem];apply Yh;clear Yh Y;apply Xi)
 (refine qc fun Y Yh=>?_;simp[go_sem])
 ((try refine Xj ?_);refine qm (.inl ⟨rfl,rfl⟩) (by simp[go_sem]) ?_;intro args ha;simp[go_sem] at ha;subst ha;refine ⟨_, M, ?_⟩;rintro _ rfl;simp[go_sem];apply Yh;clear Yh Y;apply Xi)
 (refine qc fun Y Yh=>?_;simp[go_sem];apply Yh;clear Yh Y;apply Xi)
 (refine qi ?_;simp[go_sem])
set_option maxHeartbeats 8000000 in
theorem Zz (s : Src) (p : Prs) (hs : SzS s) : PCall Tryz.prog 138 [dSrc s, dP p] fun r => r = .tup [dVr (fndP s p), dB (fndV s p).isSome] := by 
 refine qw Tryz.func138 rfl rfl Tryz.ntmps138 (rs := [.cell 4 48, .tmp 5]) (tys := [48, 4]) rfl rfl (by simp) ?_
 obtain ⟨hs0, hs1⟩ := hs
 have hst := fun i g => @fnd_step s p i g
 have he := fnd_end s p
 unfold fndP
 have hz : fndV s p = (s.drop 0).findSome? (fndG p) := rfl
 generalize fndV s p = r0 at *
 generalize hF : (fun k => (s.drop k).findSome? (fndG p)) = F at *
 have hF1 : ∀ k, (s.drop k).findSome? (fndG p) = F k := fun k => by rw [← hF]
 simp only [hF1] at hst hz he
 clear hF hF1
 (refine qc fun Y Yh=>?_;simp[go_sem];intro _;intro _;intro _;apply Yh;clear Yh Y;apply Xi)
 rename_i g2 g3 g4
 refine qf fun K1 hK1 => ?_
 (refine qc fun Y Yh=>?_;simp[go_sem];apply Yh;clear Yh Y;apply Xi)
 refine qj ?_
 refine qx (σ := Nat) (fun i => ⟨[(2, .ptr 2 g2 0), (3, .ptr 3 g3 0), (4, .ptr 4 g4 0), (6, dI i)], [(2, g2, .box [dGms s]), (3, g3, .box (cP p)), (4, g4, .box [dS [], .v (.slice none 0 0)])]⟩) (fun i => i ≤ s.length ∧ r0 = F i) (fun i => s.length - i) 0 ?_ ?_ ?_
 ·(refine ql ?_ ?_ <;> simp[go_sem])
 ·exact ⟨by omega, hz⟩
 rintro i ⟨hi, hf⟩
 refine qf fun K2 hK2 => ?_
 (refine qc fun Y Yh=>?_;simp[go_sem];apply Yh;clear Yh Y;apply Xi)
 (refine qg fun T F hT hF=>?_;simp[go_sem];refine BR.intro (fun h3=>hT ?_) (fun h3=>hF ?_);all_goals clear hT hF T F;try simp at h3)
 ·refine qh ?_
  refine hK2 _ ?_; clear hK2
  obtain ⟨x, hx⟩ : ∃ x, s[i]? = some x := ⟨_, List.getElem?_eq_getElem (by omega)⟩
  obtain ⟨hx1, hx2, hx3⟩ := hs1 x (List.mem_of_getElem? hx)
  have hst1 := hst i x hx
  have hin := fun k v => @find_step x.2 p.2 k v
  have hie : (x.2.drop x.2.length).find? (fun v => decide (v.1 = p.2)) = none := by rw [List.drop_length]; rfl
  have hG : fndG p x = if x.1 = p.1 then (x.2.drop 0).find? (fun v => decide (v.1 = p.2)) else none := rfl
  generalize hE : (fun k => (x.2.drop k).find? (fun v => decide (v.1 = p.2))) = E at *
  have hE1 : ∀ k, (x.2.drop k).find? (fun v => decide (v.1 = p.2)) = E k := fun k => by rw [← hE]
  simp only [hE1] at hin hie hG
  clear hE hE1
  refine qf fun K4 hK4 => ?_
  have tl4 : ∀ S', fndG p x = none → Cov S' ⟨[(2, .ptr 2 g2 0), (3, .ptr 3 g3 0), (4, .ptr 4 g4 0), (6, dI i)], [(2, g2, .box [dGms s]), (3, g3, .box (cP p)), (4, g4, .box [dS [], .v (.slice none 0 0)])]⟩ → K4 S' := fun S' hn hS => by
   refine hK4 _ ?_; clear hK4
   refine qN hS ?_; clear hS
   rw [hn] at hst1
   (refine qB fun Y Yh=>?_;simp[go_sem];((repeat' (first|apply And.intro|(apply Yh;clear Yh Y)));all_goals first|apply Xi|omega))
   refine ⟨i + 1, ?_, ⟨by omega, hf.trans hst1⟩, by omega⟩
   (refine ql ?_ ?_ <;> simp[go_sem])
  clear hK4
  refine qj ?_
  (refine qc fun Y Yh=>?_;simp[go_sem];apply Yh;clear Yh Y;apply Xi)
  refine qj ?_
  refine qx (σ := Nat) (fun k => ⟨[(2, .ptr 2 g2 0), (3, .ptr 3 g3 0), (4, .ptr 4 g4 0), (6, dI i), (7, dI k)], [(2, g2, .box [dGms s]), (3, g3, .box (cP p)), (4, g4, .box [dS [], .v (.slice none 0 0)])]⟩) (fun k => k ≤ x.2.length ∧ (x.1 = p.1 → fndG p x = E k)) (fun k => x.2.length - k) 0 ?_ ?_ ?_
  ·(refine ql ?_ ?_ <;> simp[go_sem])
  ·exact ⟨by omega, fun q => by rw [hG, if_pos q]⟩
  rintro k ⟨hk, hek⟩
  refine qf fun K5 hK5 => ?_
  by_cases h6 : k < x.2.length
  ·by_cases h7 : x.1 = p.1
   ·obtain ⟨v, hv⟩ : ∃ v, x.2[k]? = some v := ⟨_, List.getElem?_eq_getElem h6⟩
    have hin1 := hin k v hv
    have hek1 := hek h7
    ((refine qE (.qs [0, 1, 3, 2, 4, 5, 6, 7, 8, 9, 10, 12, 16, 11, 13, 14, 15, 17, 18, 19] (.nil)) (by kernel_rfl) ?_ ?_ ?_ ?_);kernel_rfl;exact (by decide +kernel);kernel_rfl;intro Y Yh;((repeat' (first|refine qy ?_|(refine qo fun Y Yh=>?_;simp[go_sem, hx, h6, h7])|(apply Yh;clear Yh Y)));all_goals apply Xi))
    (refine qg fun T F hT hF=>?_;simp[go_sem, h6, h7];refine hT ?_;clear hT hF T F)
    refine qh ?_
    refine hK5 _ ?_; clear hK5
    refine qf fun K7 hK7 => ?_
    refine qj ?_
    ((refine qE (.qs [0, 2, 6, 10, 1, 3, 4, 5, 7, 8, 9, 11, 12] (.nil)) (by kernel_rfl) ?_ ?_ ?_ ?_);kernel_rfl;exact (by decide +kernel);kernel_rfl;intro Y Yh;((repeat' (first|refine qy ?_|(refine qo fun Y Yh=>?_;simp[go_sem, hx, hv])|(apply Yh;clear Yh Y)));all_goals apply Xi))
    (refine qg fun T F hT hF=>?_;simp[go_sem];refine BR.intro (fun h8=>hT ?_) (fun h8=>hF ?_);all_goals clear hT hF T F;try simp at h8)
    ·rw [if_pos h8] at hin1
     rw [hek1.trans hin1] at hst1
     have : r0 = some v := hf.trans hst1
     (refine qc fun Y Yh=>?_;simp[go_sem, hx, hv];apply Yh;clear Yh Y;apply Xi)
     (refine qi ?_;simp[go_sem, this])
    ·rw [if_neg h8] at hin1
     refine qh ?_
     refine hK7 _ ?_; clear hK7
     (refine qB fun Y Yh=>?_;simp[go_sem];((repeat' (first|apply And.intro|(apply Yh;clear Yh Y)));all_goals first|apply Xi|omega))
     refine ⟨k + 1, ?_, ⟨by omega, fun q => hek1.trans hin1⟩, by omega⟩
     (refine ql ?_ ?_ <;> simp[go_sem])
   ·have h7b : (x.1 == p.1) = false := by rw [beq_eq_false_iff_ne]; exact h7
    ((refine qE (.qs [0, 1, 3, 2, 4, 5, 6, 7, 8, 9, 10, 12, 16, 11, 13, 14, 15, 17, 18, 19] (.nil)) (by kernel_rfl) ?_ ?_ ?_ ?_);kernel_rfl;exact (by decide +kernel);kernel_rfl;intro Y Yh;((repeat' (first|refine qy ?_|(refine qo fun Y Yh=>?_;simp[go_sem, hx, h6, h7, h7b])|(apply Yh;clear Yh Y)));all_goals apply Xi))
    (refine qg fun T F hT hF=>?_;simp[go_sem, h6, h7, h7b];refine hF ?_;clear hT hF T F)
    refine qp ?_
    simp only [go_sem]
    refine tl4 _ (by rw [hG, if_neg h7]) ?_
    (refine ql ?_ ?_ <;> simp[go_sem])
  ·have h6i : ¬ (k : Int) < x.2.length := by omega
   have hke : k = x.2.length := by omega
   ((refine qE (.qs [0, 1, 3, 2, 4, 5, 6, 7, 8, 9] (.sk 10 (.sk 12 (.sk 16 (.sk 11 (.sk 13 (.sk 14 (.sk 15 (.sk 17 (.sk 18 (.qs [19] (.nil)))))))))))) (by kernel_rfl) ?_ ?_ ?_ ?_);kernel_rfl;exact (by decide +kernel);kernel_rfl;intro Y Yh;((repeat' (first|refine qy ?_|(refine qo fun Y Yh=>?_;simp[go_sem, hx, h6, h6i, undef])|(refine qC fun Y Yh=>?_;simp[go_sem, hx, h6, h6i, undef])|(apply Yh;clear Yh Y)));all_goals apply Xi))
   (refine qg fun T F hT hF=>?_;simp[go_sem, h6, h6i];refine hF ?_;clear hT hF T F)
   refine qp ?_
   simp only [go_sem]
   refine tl4 _ ?_ ?_
   ·by_cases h7 : x.1 = p.1
    ·rw [hek h7, hke, hie]
    ·rw [hG, if_neg h7]
   ·(refine ql ?_ ?_ <;> simp[go_sem])
 ·refine qp ?_
  simp only [go_sem]
  refine hK1 _ ?_; clear hK1
  have : i = s.length := by omega
  subst this
  have : r0 = none := hf.trans he
  (refine qc fun Y Yh=>?_;simp[go_sem];apply Yh;clear Yh Y;apply Xi)
  (refine qi ?_;simp[go_sem, this])
end Go.Proofs.YteekfnhhlcmcgaaGreatDoor
set_option maxRecDepth 20000
namespace Go.Lk
open Go.Lib Go.Wh Go.Ver
/-! the versions of a gem that may be chosen -/
theorem foldl_take {α β : Type} (f : β → α → β) (z : β) {l : List α} {i : Nat} {x : α} (h : l[i]? = some x) : (l.take (i + 1)).foldl f z = f ((l.take i).foldl f z) x := by
 rw [List.take_add_one, h]; simp
theorem all_take {α : Type} (f : α → Bool) {l : List α} {i : Nat} {x : α} (h : l[i]? = some x) : (l.take (i + 1)).all f = ((l.take i).all f && f x) := by
 rw [List.take_add_one, h]; simp
def aFit (gem num : Bs) (n : Prs) : Bool := decide (n.1 ≠ gem) || meetsP num n.2
def bFit (l : List Prs) (n : Prs) : Bool := decide (pkdV l n.1 = []) || meetsP (pkdV l n.1) n.2
def fitV (all l : List Prs) (gem : Bs) (v : Vrs) : Bool := all.all (aFit gem v.1) && v.2.all (bFit (l ++ [(gem, v.1)]))
def insV (v : Vrs) : List Vrs → List Vrs
 | [] => [v]
 | y :: r => if compareP y.1 v.1 < 0 then v :: y :: r else y :: insV v r
theorem ZM {v : Vrs} : ∀ {out : List Vrs} {a : Nat}, a ≤ out.length → (∀ y ∈ out.take a, ¬ compareP y.1 v.1 < 0) → (∀ y, out[a]? = some y → compareP y.1 v.1 < 0) → insV v out = out.take a ++ v :: out.drop a
 | [], a, ha, _, _ => by
  have : a = 0 := by simpa using ha
  subst this; rfl
 | y :: r, 0, _, _, h => by
  have := h y rfl
  simp [insV, this]
 | y :: r, a + 1, ha, h1, h2 => by
  have := h1 y (by simp)
  simp only [insV, this, if_false, List.take_succ_cons, List.drop_succ_cons, List.cons_append]
  rw [ZM (by simpa using ha) (fun z hz => h1 z (by simp [hz])) (fun z hz => h2 z (by simpa using hz))]
theorem QR (v : Vrs) : ∀ out : List Vrs, (insV v out).length = out.length + 1
 | [] => rfl
 | y :: r => by
  unfold insV
  split
  ·simp
  ·simp [QR v r]
theorem xG {v x : Vrs} : ∀ {out : List Vrs}, x ∈ insV v out ↔ x = v ∨ x ∈ out
 | [] => by simp [insV]
 | y :: r => by
  unfold insV
  split
  ·simp
  ·simp only [List.mem_cons, xG (out := r)]
   constructor
   ·rintro (h | h | h) <;> simp [h]
   ·rintro (h | h | h) <;> simp [h]
def cstV (all l : List Prs) (gem : Bs) (o : List Vrs) (v : Vrs) : List Vrs := if fitV all l gem v = true then insV v o else o
def cstG (all l : List Prs) (gem : Bs) (o : List Vrs) (g : Gm) : List Vrs := if g.1 = gem then g.2.foldl (cstV all l gem) o else o
def candV (s : Src) (w l : List Prs) (gem : Bs) : List Vrs := s.foldl (cstG (allN s w l) l gem) []
theorem JG (all l : List Prs) (gem : Bs) (o : List Vrs) (v : Vrs) : (cstV all l gem o v).length ≤ o.length + 1 := by
 unfold cstV; split
 ·rw [QR]; omega
 ·omega
theorem JF {all l : List Prs} {gem : Bs} {o : List Vrs} {v x : Vrs} (h : x ∈ cstV all l gem o v) : x = v ∨ x ∈ o := by
 unfold cstV at h; split at h
 ·exact xG.1 h
 ·exact .inr h
theorem xY {all l : List Prs} {gem : Bs} {x : Vrs} : ∀ {vs o : List Vrs}, x ∈ vs.foldl (cstV all l gem) o → x ∈ vs ∨ x ∈ o
 | [], o, h => .inr h
 | v :: vs, o, h => by
  rw [List.foldl_cons] at h
  rcases xY h with h | h
  ·exact .inl (by simp [h])
  ·rcases JF h with h | h
   ·exact .inl (by simp [h])
   ·exact .inr h
theorem cstsG_mem {all l : List Prs} {gem : Bs} {x : Vrs} : ∀ {s : Src} {o : List Vrs}, x ∈ s.foldl (cstG all l gem) o → (∃ g ∈ s, g.1 = gem ∧ x ∈ g.2) ∨ x ∈ o
 | [], o, h => .inr h
 | g :: s, o, h => by
  rw [List.foldl_cons] at h
  rcases cstsG_mem h with ⟨g', h1, h2, h3⟩ | h
  ·exact .inl ⟨g', by simp [h1], h2, h3⟩
  ·unfold cstG at h
   split at h
   ·rename_i e
    rcases xY h with h | h
    ·exact .inl ⟨g, by simp, e, h⟩
    ·exact .inr h
   ·exact .inr h
theorem xZ {s : Src} {w l : List Prs} {gem : Bs} {x : Vrs} (h : x ∈ candV s w l gem) : ∃ g ∈ s, g.1 = gem ∧ x ∈ g.2 := by
 rcases cstsG_mem h with h | h
 ·exact h
 ·cases h
theorem ZK {l : List Prs} (h : ∀ x ∈ l, x.2.length ≤ 1000000) (n : Bs) : (pkdV l n).length ≤ 1000000 := by
 unfold pkdV
 cases hf : l.find? (fun x => decide (x.1 = n)) with
 | none => simp
 | some x => exact h x (List.mem_of_find?_eq_some hf)
end Go.Lk
set_option linter.unusedSectionVars false
namespace Go.Eng
variable {P : Program} [HasGlob P] {n : Nat} {S : St} {Q : Exit → St → Prop}
theorem zy {x y : Code} {α : Type} (S1 : α → St) (h : ∀ K : St → Prop, (∀ S', AWp P n y S' Q → K S') → (∀ a S', Cov S' (S1 a) → AWp P n y S' Q) → AWp P n x S (thenQ K Q)) (h2 : ∀ a, AWp P n y (S1 a) Q) :
  AWp P n (.seq x y) S Q := qf fun K hK => h K hK fun a _ hc => qN hc (h2 a)
theorem Jk {df : D} {ds : List D} {tys : List TypeId} {k : St → D → Prop} (s : Nat) {g e kk : Nat} {es : List (List D)} (hx : look S.heap s = some (g, .row e kk es)) (h : CallA P df ds tys (S.hput s g (.froz kk es)) k) : CallA P df ds tys S k := by
 unfold CallA at h ⊢
 intro w0 B C0 n C a w us uf E I hr hu
 have hF := I.freeze hx
 exact h us uf E hF.1 ⟨hr.1, fun j d u hd hu => (hr.2 j d u hd hu).mono hF.2⟩ (hu.mono hF.2)
end Go.Eng
namespace Go.Proofs.YteekfnhhlcmcgaaGreatDoor
open Go.Eng Go.Wh Go.Ver Go.RowKit Go.Lk
set_option maxRecDepth 20000
attribute [local irreducible] AG CallA CallT AWp PCall ACall AgC
set_option maxHeartbeats 8000000 in
theorem jX (s : Src) (w l : List Prs) (hs : SzS s) (hw : SzN w) (hl : l.length ≤ 1000) : PCall Tryz.prog 141 [dSrc s, dPs w, dPs l] fun r => r = dPs (allN s w l) := by 
 refine qw Tryz.func141 rfl rfl Tryz.ntmps141 (rs := [.tmp 6]) (tys := [26]) rfl rfl (by simp) ?_
 have hw0 := hw.1
 have hst := fun i p => @allN_step s w l i p
 have hz := allN_nil s w
 have hln := fun i => allN_len (w := w) hs (l.take i)
 have hfl : allN s w (l.take l.length) = allN s w l := by rw [List.take_length]
 (refine qc fun Y Yh=>?_;simp[go_sem];intro _;apply Yh;clear Yh Y;apply Xi)
 rename_i g3
 (refine qc fun Y Yh=>?_;simp[go_sem];((repeat' (first|intro _|apply And.intro|(apply Yh;clear Yh Y)));all_goals first|apply Xi|omega))
 refine zk 7 7 rfl rfl (by decide) fun g7 => ?_
 simp only [go_sem]
 refine qf fun K1 hK1 => ?_
 (refine qc fun Y Yh=>?_;simp[go_sem];apply Yh;clear Yh Y;apply Xi)
 refine qj ?_
 refine qx (σ := Nat × Nat) (fun x => ⟨[(2, dPs l), (3, .ptr 3 g3 0), (7, .own 7 x.2), (8, dI x.1)], [(3, g3, .box [dGms s]), (7, x.2, .row 43 2 ((allN s w (l.take x.1)).map cP))]⟩) (fun x => x.1 ≤ l.length) (fun x => l.length - x.1) (0, g7) ?_ ?_ ?_
 ·(refine ql ?_ ?_ <;> simp[go_sem, hz])
 ·simp
 rintro ⟨i, g⟩ hi
 simp only at hi
 refine qf fun K2 hK2 => ?_
 (refine qc fun Y Yh=>?_;simp[go_sem];apply Yh;clear Yh Y;apply Xi)
 (refine qg fun T F hT hF=>?_;simp[go_sem];refine BR.intro (fun h3=>hT ?_) (fun h3=>hF ?_);all_goals clear hT hF T F;try simp at h3)
 ·refine qh ?_
  refine hK2 _ ?_; clear hK2
  obtain ⟨x, hx⟩ : ∃ x, l[i]? = some x := ⟨_, List.getElem?_eq_getElem (by omega)⟩
  have FD := Zz s x hs
  have hst1 := hst i x hx
  have hfz := (kT hs x).2.1
  have hln1 := hln i
  have hti : (l.take i).length = i := by rw [List.length_take]; omega
  rw [hti] at hln1
  have hln2 : (allN s w (l.take i)).length ≤ 1001000000 := by
   have e : i * 1000000 ≤ 1000 * 1000000 := Nat.mul_le_mul_right _ (by omega)
   omega
  generalize (fndV s x).isSome = b at *
  generalize fndP s x = v at *
  generalize allN s w (l.take i) = out at *
  refine qf fun K4 hK4 => ?_
  refine qj ?_
  ((refine qE (.qs [1, 2, 3, 0, 4] (.kp2 5 (.qs [6, 7, 8] (.kp 9 (.one 10 (.qs [11] (.nil))))) 9 (.kp 5 (.qs [6, 7, 8] (.one 10 (.qs [11] (.nil))))))) (by kernel_rfl) ?_ ?_ ?_ ?_);kernel_rfl;exact (by decide +kernel);kernel_rfl;intro Y Yh;((repeat' (first|refine zC ?_ ?_|(refine qo fun Y Yh=>?_;simp[go_sem, hx])|(refine qC fun Y Yh=>?_;simp[go_sem, hx])|intro _|(apply Yh;clear Yh Y)))))
  all_goals
   ((try refine Xj ?_);refine qm (.inl ⟨rfl,rfl⟩) (by simp[go_sem]) ?_;intro args ha;simp[go_sem] at ha;subst ha;refine ⟨_, FD, ?_⟩;rintro _ rfl;simp[go_sem];((repeat' (first|refine qy ?_|(refine qo fun Y Yh=>?_;simp[go_sem])|(refine qC fun Y Yh=>?_;simp[go_sem])|intro _|(apply Yh;clear Yh Y)));all_goals apply Xi))
   (refine qB fun Y Yh=>?_;simp[go_sem];((repeat' (first|intro _|apply And.intro|(apply Yh;clear Yh Y)));all_goals first|apply Xi|omega))
   refine hK4 _ ?_; clear hK4
   refine zk 7 7 rfl rfl (by decide) fun g' => ?_
   simp only [go_sem]
   (refine qB fun Y Yh=>?_;simp[go_sem];((repeat' (first|apply And.intro|(apply Yh;clear Yh Y)));all_goals first|apply Xi|omega))
   refine ⟨(i + 1, g'), ?_, by simp only; omega, by simp only; omega⟩
   simp only [hst1]
   (refine ql ?_ ?_ <;> simp[go_sem])
 ·refine qp ?_
  simp only [go_sem]
  refine hK1 _ ?_; clear hK1
  have : i = l.length := by omega
  subst this
  (refine qc fun Y Yh=>?_;simp[go_sem];apply Yh;clear Yh Y;apply Xi)
  refine qQ 6 rfl rfl ?_
  simp only [go_sem]
  (refine qi ?_;simp[go_sem, hfl])
set_option maxHeartbeats 16000000 in
theorem kS (s : Src) (w l : List Prs) (gem : Bs) (hs : SzS s) (h15 : s.length ≤ 15) (h12 : ∀ g ∈ s, g.2.length ≤ 12) (hw : SzN w) (hl : l.length ≤ 1000) (hlz : ∀ x ∈ l, Sz1 x) :
  PCall Tryz.prog 182 [dSrc s, dPs w, dPs l, dS gem] fun r => r = dVrs (candV s w l gem) := by 
 refine qw Tryz.func182 rfl rfl Tryz.ntmps182 (rs := [.tmp 8]) (tys := [44]) rfl rfl (by simp) ?_
 have AN := jX s w l hs hw hl
 have hal := allN_len (w := w) hs l
 have ham := allN_mem (l := l) hs hw.2
 have hw0 := hw.1
 have hal2 : (allN s w l).length ≤ 1001000000 := by
  have e : l.length * 1000000 ≤ 1000 * 1000000 := Nat.mul_le_mul_right _ hl
  omega
 unfold candV
 generalize allN s w l = all at *
 have hGs := fun i g => @foldl_take Gm (List Vrs) (cstG all l gem) [] s i g
 have hfl : (s.take s.length).foldl (cstG all l gem) [] = s.foldl (cstG all l gem) [] := by rw [List.take_length]
 have hz : (s.take 0).foldl (cstG all l gem) [] = [] := rfl
 obtain ⟨r0, hr0⟩ : ∃ r, s.foldl (cstG all l gem) [] = r := ⟨_, rfl⟩
 rw [hr0] at hfl ⊢
 (refine qc fun Y Yh=>?_;simp[go_sem];intro _;apply Yh;clear Yh Y;apply Xi)
 rename_i g4
 (refine qc fun Y Yh=>?_;simp[go_sem];apply Yh;clear Yh Y;apply Xi)
 refine qU 9 9 48 2 rfl fun g9 => ?_
 simp only [go_sem]
 (refine qc fun Y Yh=>?_;simp[go_sem])
 ((try refine Xj ?_);refine qm (.inl ⟨rfl,rfl⟩) (by simp[go_sem]) ?_;intro args ha;simp[go_sem] at ha;subst ha;refine ⟨_, AN, ?_⟩;rintro _ rfl;simp[go_sem];apply Yh;clear Yh Y;apply Xi)
 refine qf fun K1 hK1 => ?_
 (refine qc fun Y Yh=>?_;simp[go_sem];apply Yh;clear Yh Y;apply Xi)
 refine qj ?_
 refine qx (σ := Nat × Nat) (fun x => ⟨[(2, dPs l), (3, dS gem), (4, .ptr 4 g4 0), (9, .own 9 x.2), (10, dPs all), (11, dI x.1)], [(4, g4, .box [dGms s]), (9, x.2, .row 48 2 (((s.take x.1).foldl (cstG all l gem) []).map cVr))]⟩)
  (fun x => x.1 ≤ s.length ∧ ((s.take x.1).foldl (cstG all l gem) []).length ≤ x.1 * 12) (fun x => s.length - x.1) (0, g9) ?_ ?_ ?_
 ·(refine ql ?_ ?_ <;> simp[go_sem])
 ·simp
 rintro ⟨i, go⟩ ⟨hi, hol⟩
 simp only at hi hol
 refine qf fun K2 hK2 => ?_
 (refine qc fun Y Yh=>?_;simp[go_sem];apply Yh;clear Yh Y;apply Xi)
 (refine qg fun T F hT hF=>?_;simp[go_sem];refine BR.intro (fun h3=>hT ?_) (fun h3=>hF ?_);all_goals clear hT hF T F;try simp at h3) 
 ·refine qh ?_
  refine hK2 _ ?_; clear hK2
  obtain ⟨x, hx⟩ : ∃ x, s[i]? = some x := ⟨_, List.getElem?_eq_getElem (by omega)⟩
  have hxm := List.mem_of_getElem? hx
  obtain ⟨hx1, hx2, hx3⟩ := hs.2 x hxm
  have hx12 := h12 x hxm
  have hst1 := hGs i x hx
  have houtz0 : ∀ y ∈ (s.take i).foldl (cstG all l gem) [], y.1.length ≤ 1000000 := fun y hy => by
   rcases cstsG_mem hy with ⟨g, h1, _, h2⟩ | h
   ·exact ((hs.2 g (List.mem_of_mem_take h1)).2.2 y h2).1
   ·cases h
  generalize (s.take i).foldl (cstG all l gem) [] = out0 at *
  have hG : cstG all l gem out0 x = if x.1 = gem then (x.2.take x.2.length).foldl (cstV all l gem) out0 else out0 := by unfold cstG; rw [List.take_length]
  have hVs := fun k v => @foldl_take Vrs (List Vrs) (cstV all l gem) out0 x.2 k v
  have hVz : (x.2.take 0).foldl (cstV all l gem) out0 = out0 := rfl
  refine qf fun K4 hK4 => ?_
  have tl4 : ∀ S' o g, o = cstG all l gem out0 x → o.length ≤ out0.length + 12 → Cov S' ⟨[(2, dPs l), (3, dS gem), (4, .ptr 4 g4 0), (9, .own 9 g), (10, dPs all), (11, dI i)], [(4, g4, .box [dGms s]), (9, g, .row 48 2 (o.map cVr))]⟩ → K4 S' := fun S' o g ho hoz hS => by
   refine hK4 _ ?_; clear hK4
   refine qN hS ?_; clear hS
   rw [← ho] at hst1
   (refine qB fun Y Yh=>?_;simp[go_sem];((repeat' (first|apply And.intro|(apply Yh;clear Yh Y)));all_goals first|apply Xi|omega))
   refine ⟨(i + 1, g), ?_, ⟨by simp only; omega, by simp only [hst1]; omega⟩, by simp only; omega⟩
   simp only [hst1]
   (refine ql ?_ ?_ <;> simp[go_sem])
  clear hK4
  refine qj ?_
  (refine qc fun Y Yh=>?_;simp[go_sem];apply Yh;clear Yh Y;apply Xi)
  refine qj ?_
  refine qx (σ := Nat × Nat) (fun z => ⟨[(2, dPs l), (3, dS gem), (4, .ptr 4 g4 0), (9, .own 9 z.2), (10, dPs all), (11, dI i), (12, dI z.1)], [(4, g4, .box [dGms s]), (9, z.2, .row 48 2 (((x.2.take z.1).foldl (cstV all l gem) out0).map cVr))]⟩)
   (fun z => z.1 ≤ x.2.length ∧ ((x.2.take z.1).foldl (cstV all l gem) out0).length ≤ out0.length + z.1 ∧ (¬ x.1 = gem → z.1 = 0)) (fun z => x.2.length - z.1) (0, go) ?_ ?_ ?_
  ·(refine ql ?_ ?_ <;> simp[go_sem])
  ·simp
  rintro ⟨k, go⟩ ⟨hk, hkl, hk0⟩
  simp only at hk hkl hk0
  have hexit : (k = x.2.length ∨ ¬ x.1 = gem) → (x.2.take k).foldl (cstV all l gem) out0 = cstG all l gem out0 x := fun q => by
   by_cases e : x.1 = gem
   ·rw [hG, if_pos e]
    rcases q with q | q
    ·rw [q]
    ·exact absurd e q
   ·rw [hG, if_neg e, hk0 e]; rfl
  refine qf fun K5 hK5 => ?_
  by_cases h6 : k < x.2.length
  ·by_cases h7 : x.1 = gem
   ·obtain ⟨v, hv⟩ : ∃ v, x.2[k]? = some v := ⟨_, List.getElem?_eq_getElem h6⟩
    obtain ⟨hv1, hv2⟩ := hx3 v (List.mem_of_getElem? hv)
    have hv20 := hv2.1
    have hst2 := hVs k v hv
    have houtz : ∀ y ∈ (x.2.take k).foldl (cstV all l gem) out0, y.1.length ≤ 1000000 := fun y hy => by
     rcases xY hy with h | h
     ·exact (hx3 y (List.mem_of_mem_take h)).1
     ·exact houtz0 y h
    generalize (x.2.take k).foldl (cstV all l gem) out0 = out at *
    (refine qc fun Y Yh=>?_;simp[go_sem, hx, h6, h7];((repeat' (first|(refine qH ?_;simp[go_sem, hx, h6, h7])|(apply Yh;clear Yh Y)));all_goals apply Xi))
    (refine qg fun T F hT hF=>?_;simp[go_sem, h6, h7];refine hT ?_;clear hT hF T F)
    refine qh ?_
    refine hK5 _ ?_; clear hK5
    have hl1 := JG all l gem out v
    refine zy (α := Nat) (fun g => ⟨[(2, dPs l), (3, dS gem), (4, .ptr 4 g4 0), (9, .own 9 g), (10, dPs all), (11, dI i), (12, dI k)], [(4, g4, .box [dGms s]), (9, g, .row 48 2 ((cstV all l gem out v).map cVr))]⟩) (fun K7 hK7 hM7 => ?_) (fun g => ?_)
    rotate_left
    ·(refine qB fun Y Yh=>?_;simp[go_sem];((repeat' (first|apply And.intro|(apply Yh;clear Yh Y)));all_goals first|apply Xi|omega))
     refine ⟨(k + 1, g), ?_, ⟨by simp only; omega, by simp only [hst2]; omega, fun q => absurd h7 q⟩, by simp only; omega⟩
     simp only [hst2]
     (refine ql ?_ ?_ <;> simp[go_sem])
    have hcst : cstV all l gem out v = if fitV all l gem v = true then insV v out else out := rfl
    have hfit : fitV all l gem v = (all.all (aFit gem v.1) && v.2.all (bFit (l ++ [(gem, v.1)]))) := rfl
    generalize cstV all l gem out v = res at *
    generalize fitV all l gem v = fit at *
    refine qj ?_
    (refine qc fun Y Yh=>?_;simp[go_sem, hx, hv];intro _;apply Yh;clear Yh Y;apply Xi)
    rename_i g13
    refine qA 13 rfl rfl ?_
    simp only [go_sem]
    (refine qc fun Y Yh=>?_;simp[go_sem];apply Yh;clear Yh Y;apply Xi)
    refine qf fun K8 hK8 => ?_
    (refine qc fun Y Yh=>?_;simp[go_sem];apply Yh;clear Yh Y;apply Xi)
    refine qj ?_
    obtain ⟨A, hA⟩ : ∃ A : Nat → Bool, ∀ n, (all.take n).all (aFit gem v.1) = A n := ⟨_, fun _ => rfl⟩
    have hA0 : A 0 = true := by rw [← hA]; rfl
    have hAe : all.all (aFit gem v.1) = A all.length := by rw [← hA, List.take_length]
    have hAs : ∀ n x, all[n]? = some x → A (n + 1) = (A n && aFit gem v.1 x) := fun n x h => by rw [← hA, ← hA]; exact all_take _ h
    rw [hAe] at hfit
    clear hA hAe
    refine qx (σ := Nat) (fun n => ⟨[(2, dPs l), (3, dS gem), (4, .ptr 4 g4 0), (9, .own 9 go), (10, dPs all), (11, dI i), (12, dI k), (13, .rd (cVr v)), (14, dB (A n)), (15, dI n)], [(4, g4, .box [dGms s]), (9, go, .row 48 2 (out.map cVr))]⟩) (fun n => n ≤ all.length) (fun n => all.length - n) 0 ?_ ?_ ?_
    ·(refine ql ?_ ?_ <;> simp[go_sem, hA0])
    ·simp
    intro n hn
    refine qf fun K9 hK9 => ?_
    (refine qc fun Y Yh=>?_;simp[go_sem];apply Yh;clear Yh Y;apply Xi)
    (refine qg fun T F hT hF=>?_;simp[go_sem];refine BR.intro (fun h10=>hT ?_) (fun h10=>hF ?_);all_goals clear hT hF T F;try simp at h10) 
    ·refine qh ?_
     refine hK9 _ ?_; clear hK9
     obtain ⟨y, hy⟩ : ∃ y, all[n]? = some y := ⟨_, List.getElem?_eq_getElem (by omega)⟩
     have hyz := ham y (List.mem_of_getElem? hy)
     have hAs1 := hAs n y hy
     have hAF : aFit gem v.1 y = (decide (y.1 ≠ gem) || meetsP v.1 y.2) := rfl
     have MT := jU v.1 y.2 hv1 hyz.2
     generalize meetsP v.1 y.2 = mb at *
     rw [hAF] at hAs1
     generalize A n = an at *
     refine qf fun K11 hK11 => ?_
     refine qj ?_
     cases an with
     | false =>
      ((refine zA (.qs [0, 1] (.sk 2 (.sk 3 (.sk 4 (.sk 5 (.sk 7 (.sk 6 (.sk 8 (.sk 9 (.sk 10 (.sk 12 (.sk 13 (.sk 14 (.sk 15 (.sk 11 (.sk 16 (.sk 17 (.sk 18 (.qs [19, 20] (.nil)))))))))))))))))))) (by kernel_rfl) ?_ ?_ ?_ ?_);kernel_rfl;exact (by decide +kernel);kernel_rfl;intro Y Yh;((repeat' (first|refine qy ?_|(refine qo fun Y Yh=>?_;simp[go_sem, hy, undef])|(refine qC fun Y Yh=>?_;simp[go_sem, hy, undef])|(apply Yh;clear Yh Y)));all_goals apply Xi))
      refine hK11 _ ?_; clear hK11
      (refine qB fun Y Yh=>?_;simp[go_sem];((repeat' (first|apply And.intro|(apply Yh;clear Yh Y)));all_goals first|apply Xi|omega))
      refine ⟨n + 1, ?_, by omega, by omega⟩
      (refine ql ?_ ?_ <;> simp[go_sem, hAs1])
     | true =>
      by_cases he : y.1 = gem
      ·((refine zA (.qs [0, 1, 2, 3, 4, 5, 7, 6, 8, 9, 10, 12, 13, 14, 15, 11, 16] (.one 17 (.qs [18, 19, 20] (.nil)))) (by kernel_rfl) ?_ ?_ ?_ ?_);kernel_rfl;exact (by decide +kernel);kernel_rfl;intro Y Yh;((repeat' (first|(refine qH ?_;simp[go_sem, hy, he])|(refine qo fun Y Yh=>?_;simp[go_sem, hy, he])|(refine qC fun Y Yh=>?_;simp[go_sem, hy, he])|(apply Yh;clear Yh Y)))))
       (refine qX (dB mb) (.inl ⟨rfl,rfl⟩) ?_ rfl ?_;(intro hc args ha;simp[go_sem] at ha;subst ha;exact MT);simp[go_sem, hy, he];((repeat' (first|refine qy ?_|(refine qo fun Y Yh=>?_;simp[go_sem, hy, he])|(apply Yh;clear Yh Y)));all_goals apply Xi))
       refine hK11 _ ?_; clear hK11
       (refine qB fun Y Yh=>?_;simp[go_sem];((repeat' (first|apply And.intro|(apply Yh;clear Yh Y)));all_goals first|apply Xi|omega))
       refine ⟨n + 1, ?_, by omega, by omega⟩
       (refine ql ?_ ?_ <;> simp[go_sem, hAs1, he])
      ·have heb : (y.1 == gem) = false := by rw [beq_eq_false_iff_ne]; exact he
       ((refine zA (.qs [0, 1, 2, 3, 4, 5, 7, 6, 8, 9] (.sk 10 (.sk 12 (.sk 13 (.sk 14 (.sk 15 (.sk 11 (.sk 16 (.sk 17 (.qs [18, 19, 20] (.nil))))))))))) (by kernel_rfl) ?_ ?_ ?_ ?_);kernel_rfl;exact (by decide +kernel);kernel_rfl;intro Y Yh;((repeat' (first|refine qy ?_|(refine qo fun Y Yh=>?_;simp[go_sem, hy, he, heb, undef])|(refine qC fun Y Yh=>?_;simp[go_sem, hy, he, heb, undef])|(apply Yh;clear Yh Y)));all_goals apply Xi))
       refine hK11 _ ?_; clear hK11
       (refine qB fun Y Yh=>?_;simp[go_sem];((repeat' (first|apply And.intro|(apply Yh;clear Yh Y)));all_goals first|apply Xi|omega))
       refine ⟨n + 1, ?_, by omega, by omega⟩
       (refine ql ?_ ?_ <;> simp[go_sem, hAs1, he])
    ·refine qp ?_
     simp only [go_sem]
     refine hK8 _ ?_; clear hK8
     have hne : n = all.length := by omega
     subst hne
     clear hAs
     generalize A all.length = an at *
     refine zy (α := Unit) (fun _ => ⟨[(2, dPs l), (3, dS gem), (4, .ptr 4 g4 0), (9, .own 9 go), (10, dPs all), (11, dI i), (12, dI k), (13, .rd (cVr v)), (14, dB an), (16, dPs (l ++ [(gem, v.1)]))], [(4, g4, .box [dGms s]), (9, go, .row 48 2 (out.map cVr))]⟩) (fun K15 hK15 hM15 => ?_) (fun _ => ?_)
     ·((refine zA (.qs [1, 3, 4, 5, 6] (.kp2 0 (.kp2 2 (.kp 7 (.one 8 (.qs [9] (.nil)))) 7 (.kp 2 (.one 8 (.qs [9] (.nil))))) 7 (.kp 0 (.kp 2 (.one 8 (.qs [9] (.nil))))))) (by kernel_rfl) ?_ ?_ ?_ ?_);kernel_rfl;exact (by decide +kernel);kernel_rfl;intro Y Yh;((repeat' (first|refine qy ?_|refine zC ?_ ?_|(refine qo fun Y Yh=>?_;simp[go_sem])|(refine qC fun Y Yh=>?_;simp[go_sem])|intro _|apply And.intro|(apply Yh;clear Yh Y)));all_goals first|apply Xi|omega))
      all_goals
       refine hK15 _ ?_
       refine qQ 16 rfl rfl ?_
       simp only [go_sem]
       refine hM15 () _ ?_
       (refine ql ?_ ?_ <;> simp[go_sem])
     ·have hlen1 : (l ++ [(gem, v.1)]).length ≤ 1000000 := by simp; omega
      have PK := fun n => jV (l ++ [(gem, v.1)]) n hlen1
      have hBF : ∀ y, bFit (l ++ [(gem, v.1)]) y = (decide (pkdV (l ++ [(gem, v.1)]) y.1 = []) || meetsP (pkdV (l ++ [(gem, v.1)]) y.1) y.2) := fun _ => rfl
      have hpz : ∀ n, (pkdV (l ++ [(gem, v.1)]) n).length ≤ 1000000 := fun n => ZK (fun x hx => by
       rcases List.mem_append.1 hx with h | h
       ·exact (hlz x h).2
       ·simp at h; subst h; exact hv1) n
      obtain ⟨B, hB⟩ : ∃ B : Nat → Bool, ∀ n, (v.2.take n).all (bFit (l ++ [(gem, v.1)])) = B n := ⟨_, fun _ => rfl⟩
      have hB0 : B 0 = true := by rw [← hB]; rfl
      have hBe : v.2.all (bFit (l ++ [(gem, v.1)])) = B v.2.length := by rw [← hB, List.take_length]
      have hBs : ∀ n x, v.2[n]? = some x → B (n + 1) = (B n && bFit (l ++ [(gem, v.1)]) x) := fun n x h => by rw [← hB, ← hB]; exact all_take _ h
      rw [hBe] at hfit
      clear hB hBe
      generalize bFit (l ++ [(gem, v.1)]) = bf0 at *
      generalize pkdV (l ++ [(gem, v.1)]) = pk at *
      generalize hwth : l ++ [(gem, v.1)] = wth at *
      refine qf fun K12 hK12 => ?_
      (refine qc fun Y Yh=>?_;simp[go_sem];apply Yh;clear Yh Y;apply Xi)
      refine qj ?_
      refine qx (σ := Nat) (fun n => ⟨[(2, dPs l), (3, dS gem), (4, .ptr 4 g4 0), (9, .own 9 go), (10, dPs all), (11, dI i), (12, dI k), (13, .rd (cVr v)), (14, dB (an && B n)), (16, dPs wth), (17, dI n)], [(4, g4, .box [dGms s]), (9, go, .row 48 2 (out.map cVr))]⟩) (fun n => n ≤ v.2.length) (fun n => v.2.length - n) 0 ?_ ?_ ?_
      ·(refine ql ?_ ?_ <;> simp[go_sem, hB0])
      ·simp
      intro n hn
      refine qf fun K13 hK13 => ?_
      (refine qc fun Y Yh=>?_;simp[go_sem];apply Yh;clear Yh Y;apply Xi)
      (refine qg fun T F hT hF=>?_;simp[go_sem];refine BR.intro (fun h14=>hT ?_) (fun h14=>hF ?_);all_goals clear hT hF T F;try simp at h14) 
      ·refine qh ?_
       refine hK13 _ ?_; clear hK13
       obtain ⟨y, hy⟩ : ∃ y, v.2[n]? = some y := ⟨_, List.getElem?_eq_getElem (by omega)⟩
       have hyz := hv2.2 y (List.mem_of_getElem? hy)
       have hBs1 := hBs n y hy
       have P1 := PK y.1
       have hp1 := hpz y.1
       rw [hBF] at hBs1
       generalize pk y.1 = q at *
       have MT := jU q y.2 hp1 hyz.2
       generalize meetsP q y.2 = mb at *
       generalize B n = bn at *
       have hABs : (an && B (n + 1)) = ((an && bn) && (decide (q = []) || mb)) := by rw [hBs1, Bool.and_assoc]
       generalize (an && bn) = ab at *
       refine qf fun K15 hK15 => ?_
       refine qj ?_
       (refine qc fun Y Yh=>?_;simp[go_sem, hy])
       ((try refine Xj ?_);refine qm (.inl ⟨rfl,rfl⟩) (by simp[go_sem]) ?_;intro args ha;simp[go_sem] at ha;subst ha;refine ⟨_, P1, ?_⟩;rintro _ rfl;simp[go_sem];apply Yh;clear Yh Y;apply Xi)
       cases ab with
       | false =>
        (refine qB fun Y Yh=>?_;simp[go_sem];((repeat' (first|(refine qG ?_ ?_ ?_;(focus (simp[go_sem, undef];done));(focus (simp[go_sem];done));simp[go_sem])|(apply Yh;clear Yh Y)));all_goals apply Xi))
        refine hK15 _ ?_; clear hK15
        (refine qB fun Y Yh=>?_;simp[go_sem];((repeat' (first|apply And.intro|(apply Yh;clear Yh Y)));all_goals first|apply Xi|omega))
        refine ⟨n + 1, ?_, by omega, by omega⟩
        simp only [hABs]
        (refine ql ?_ ?_ <;> simp[go_sem])
       | true =>
        cases q with
        | nil =>
         (refine qB fun Y Yh=>?_;simp[go_sem];((repeat' (first|(refine qG ?_ ?_ ?_;(focus (simp[go_sem, undef];done));(focus (simp[go_sem];done));simp[go_sem])|(refine qJ ?_ ?_;(focus (simp[go_sem, undef];done));simp[go_sem])|(apply Yh;clear Yh Y)));all_goals apply Xi))
         refine hK15 _ ?_; clear hK15
         (refine qB fun Y Yh=>?_;simp[go_sem];((repeat' (first|apply And.intro|(apply Yh;clear Yh Y)));all_goals first|apply Xi|omega))
         refine ⟨n + 1, ?_, by omega, by omega⟩
         simp only [hABs]
         (refine ql ?_ ?_ <;> simp[go_sem])
        | cons c q =>
         (refine qB fun Y Yh=>?_;simp[go_sem, hy];((repeat' (refine qJ ?_ ?_;(focus (simp[go_sem, undef, hy];done));simp[go_sem, hy]))))
         ((try refine Xj ?_);refine qm (.inl ⟨rfl,rfl⟩) (by simp[go_sem]) ?_;intro args ha;simp[go_sem] at ha;subst ha;refine ⟨_, MT, ?_⟩;rintro _ rfl;simp[go_sem];refine qJ ?_ ?_;(focus (simp[go_sem, undef];done));simp[go_sem];apply Yh;clear Yh Y;apply Xi)
         refine hK15 _ ?_; clear hK15
         (refine qB fun Y Yh=>?_;simp[go_sem];((repeat' (first|apply And.intro|(apply Yh;clear Yh Y)));all_goals first|apply Xi|omega))
         refine ⟨n + 1, ?_, by omega, by omega⟩
         simp only [hABs]
         (refine ql ?_ ?_ <;> simp[go_sem])
      ·refine qp ?_
       simp only [go_sem]
       refine hK12 _ ?_; clear hK12
       have hne : n = v.2.length := by omega
       subst hne
       rw [← hfit]
       clear hfit hBs hBF PK hpz
       refine qf fun K16 hK16 => ?_
       cases fit with
       | false =>
        (refine qc fun Y Yh=>?_;simp[go_sem];apply Yh;clear Yh Y;apply Xi)
        (refine qg fun T F hT hF=>?_;simp[go_sem];refine hT ?_;clear hT hF T F)
        refine qp ?_
        simp only [go_sem]
        refine hK7 _ ?_
        refine hM7 go _ ?_
        rw [hcst]
        (refine ql ?_ ?_ <;> simp[go_sem])
       | true =>
        (refine qc fun Y Yh=>?_;simp[go_sem];apply Yh;clear Yh Y;apply Xi)
        (refine qg fun T F hT hF=>?_;simp[go_sem];refine hF ?_;clear hT hF T F)
        refine qh ?_
        refine hK16 _ ?_; clear hK16
        rw [if_pos rfl] at hcst
        have CMP := fun (y : Vrs) (hy : y.1.length ≤ 1000000) => xh y.1 v.1 hy hv1
        have hIA := fun a => @ZM v out a
        generalize insV v out = iv at *
        (refine qc fun Y Yh=>?_;simp[go_sem];apply Yh;clear Yh Y;apply Xi)
        refine qf fun K18 hK18 => ?_
        have tl18 : ∀ S' a, a ≤ out.length → (∀ y ∈ out.take a, ¬ compareP y.1 v.1 < 0) → (∀ y, out[a]? = some y → compareP y.1 v.1 < 0) → Cov S' ⟨[(2, dPs l), (3, dS gem), (4, .ptr 4 g4 0), (9, .own 9 go), (10, dPs all), (11, dI i), (12, dI k), (13, .rd (cVr v)), (19, dI a)], [(4, g4, .box [dGms s]), (9, go, .row 48 2 (out.map cVr))]⟩ → K18 S' := fun S' a ha h1 h2 hS => by
         refine hK18 _ ?_; clear hK18
         refine qN hS ?_; clear hS
         have hia := hIA a ha h1 h2
         refine qQ 9 rfl rfl ?_
         simp only [go_sem]
         ((refine zA (.qs [1, 2, 3, 8, 9, 10, 5] (.kp2 0 (.kp2 4 (.kp 6 (.one 7 (.one 11 (.qs [12] (.nil))))) 6 (.kp 4 (.one 7 (.one 11 (.qs [12] (.nil)))))) 6 (.kp 0 (.kp 4 (.one 7 (.one 11 (.qs [12] (.nil)))))))) (by kernel_rfl) ?_ ?_ ?_ ?_);kernel_rfl;exact (by decide +kernel);kernel_rfl;intro Y Yh;((repeat' (first|refine qy ?_|refine zC ?_ ?_|(refine qo fun Y Yh=>?_;simp[go_sem])|(refine qC fun Y Yh=>?_;simp[go_sem])|intro _|apply And.intro|(apply Yh;clear Yh Y)));all_goals first|apply Xi|omega))
         all_goals
          refine hK7 _ ?_
          refine zk 9 9 rfl rfl (by decide) fun g' => ?_
          simp only [go_sem]
          refine hM7 g' _ ?_
          rw [hcst, hia]
          (refine ql ?_ ?_ <;> simp[go_sem])
        clear hK18
        refine qj ?_
        refine qx (σ := Nat) (fun a => ⟨[(2, dPs l), (3, dS gem), (4, .ptr 4 g4 0), (9, .own 9 go), (10, dPs all), (11, dI i), (12, dI k), (13, .rd (cVr v)), (19, dI a)], [(4, g4, .box [dGms s]), (9, go, .row 48 2 (out.map cVr))]⟩) (fun a => a ≤ out.length ∧ ∀ y ∈ out.take a, ¬ compareP y.1 v.1 < 0) (fun a => out.length - a) 0 ?_ ?_ ?_
        ·(refine ql ?_ ?_ <;> simp[go_sem])
        ·simp
        rintro a ⟨ha, hab⟩
        refine qf fun K19 hK19 => ?_
        (refine qc fun Y Yh=>?_;simp[go_sem];apply Yh;clear Yh Y;apply Xi)
        (refine qg fun T F hT hF=>?_;simp[go_sem];refine BR.intro (fun h20=>hT ?_) (fun h20=>hF ?_);all_goals clear hT hF T F;try simp at h20) 
        ·refine qh ?_
         refine hK19 _ ?_; clear hK19
         obtain ⟨y, hy⟩ : ∃ y, out[a]? = some y := ⟨_, List.getElem?_eq_getElem (by omega)⟩
         have CM := CMP y (houtz y (List.mem_of_getElem? hy))
         have htk : out.take (a + 1) = out.take a ++ [y] := by rw [List.take_add_one, hy]; rfl
         have hyy : ∀ z, out[a]? = some z → z = y := fun z hz => by rw [hy] at hz; exact (Option.some.inj hz).symm
         generalize hcc : codeP ((readV y.1).isSome && (readV v.1).isSome) = cc at *
         generalize hcp : compareP y.1 v.1 = cp at *
         refine qj ?_
         refine qf fun K21 hK21 => ?_
         ((refine qE (.qs [0, 1, 2, 3, 5, 4, 6] (.one 7 (.qs [8, 9, 10, 11, 12] (.nil)))) (by kernel_rfl) ?_ ?_ ?_ ?_);kernel_rfl;exact (by decide +kernel);kernel_rfl;intro Y Yh;((repeat' (first|(refine qo fun Y Yh=>?_;simp[go_sem, hy])|(refine qC fun Y Yh=>?_;simp[go_sem, hy])|apply And.intro|(apply Yh;clear Yh Y)));all_goals first|omega|skip))
         ((try refine Xj ?_);refine qm (.inl ⟨rfl,rfl⟩) (by simp[go_sem]) ?_;intro args ha;simp[go_sem] at ha;subst ha;refine ⟨_, CM, ?_⟩;rintro _ rfl;simp[go_sem];((repeat' (first|refine qy ?_|(refine qo fun Y Yh=>?_;simp[go_sem])|(apply Yh;clear Yh Y)));all_goals apply Xi))
         (refine qc fun Y Yh=>?_;simp[go_sem];apply Yh;clear Yh Y;apply Xi)
         (refine qg fun T F hT hF=>?_;simp[go_sem];refine BR.intro (fun h22=>hT ?_) (fun h22=>hF ?_);all_goals clear hT hF T F;try simp at h22) 
         ·refine qp ?_
          simp only [go_sem]
          refine tl18 _ a ha hab (fun z hz => by rw [hyy z hz, hcp]; exact h22) ?_
          (refine ql ?_ ?_ <;> simp[go_sem])
         ·refine qh ?_
          refine hK21 _ ?_; clear hK21
          (refine qB fun Y Yh=>?_;simp[go_sem];((repeat' (first|apply And.intro|(apply Yh;clear Yh Y)));all_goals first|apply Xi|omega))
          refine ⟨a + 1, ?_, ⟨by omega, ?_⟩, by omega⟩
          ·(refine ql ?_ ?_ <;> simp[go_sem])
          ·rw [htk]
           intro z hz
           rcases List.mem_append.1 hz with h | h
           ·exact hab z h
           ·simp at h; subst h; rw [hcp]; omega
        ·refine qp ?_
         simp only [go_sem]
         refine tl18 _ a ha hab (fun z hz => ?_) ?_
         ·have := (List.getElem?_eq_some_iff.1 hz).1; omega
         ·(refine ql ?_ ?_ <;> simp[go_sem])
   ·have h7b : (x.1 == gem) = false := by rw [beq_eq_false_iff_ne]; exact h7
    (refine qc fun Y Yh=>?_;simp[go_sem, hx, h6, h7, h7b];((repeat' (first|(refine qH ?_;simp[go_sem, hx, h6, h7, h7b])|(apply Yh;clear Yh Y)));all_goals apply Xi))
    (refine qg fun T F hT hF=>?_;simp[go_sem, h6, h7, h7b];refine hF ?_;clear hT hF T F)
    refine qp ?_
    simp only [go_sem]
    refine tl4 _ _ go (hexit (.inr h7)) (by omega) ?_
    (refine ql ?_ ?_ <;> simp[go_sem])
  ·have h6i : ¬ (k : Int) < x.2.length := by omega
   have hke : k = x.2.length := by omega
   (refine qc fun Y Yh=>?_;simp[go_sem, hx, h6, h6i];((repeat' (first|(refine qG ?_ ?_ ?_;(focus (simp[go_sem, undef, hx, h6, h6i];done));(focus (simp[go_sem];done));simp[go_sem, hx, h6, h6i])|(apply Yh;clear Yh Y)));all_goals apply Xi))
   (refine qg fun T F hT hF=>?_;simp[go_sem, h6, h6i];refine hF ?_;clear hT hF T F)
   refine qp ?_
   simp only [go_sem]
   refine tl4 _ _ go (hexit (.inl hke)) (by omega) ?_
   (refine ql ?_ ?_ <;> simp[go_sem])
 ·refine qp ?_
  simp only [go_sem]
  refine hK1 _ ?_; clear hK1
  have : i = s.length := by omega
  subst this
  (refine qc fun Y Yh=>?_;simp[go_sem];apply Yh;clear Yh Y;apply Xi)
  refine qQ 8 rfl rfl ?_
  simp only [go_sem]
  (refine qi ?_;simp[go_sem, hr0])
end Go.Proofs.YteekfnhhlcmcgaaGreatDoor
set_option maxRecDepth 20000
namespace Go.Lk
open Go.Lib Go.Wh Go.Ver
/-! the search: picks, error, how many were tried -/
def tryL (rec : List Prs → Nat → (List Prs × Nat) × Nat) (bud : Nat) (gem : Bs) (l : List Prs) : List Vrs → Nat → (List Prs × Nat) × Nat
 | [], t => (([], 3), t)
 | v :: r, t => if bud < t + 1 then (([], 12), t + 1)
  else if (rec (l ++ [(gem, v.1)]) (t + 1)).1.2 ≠ 3 then rec (l ++ [(gem, v.1)]) (t + 1)
  else tryL rec bud gem l r (rec (l ++ [(gem, v.1)]) (t + 1)).2
def freeN (l : List Prs) (n : Prs) : Bool := decide (pkdV l n.1 = [])
def restV (s : Src) (w : List Prs) (bud : Nat) : Nat → List Prs → Nat → (List Prs × Nat) × Nat
 | 0, l, t => (([], 3), t)
 | f + 1, l, t => match (allN s w l).find? (freeN l) with
  | none => ((l, 0), t)
  | some n => tryL (restV s w bud f) bud n.1 l (candV s w l n.1) t
def Tlk (bud t : Nat) (q : (List Prs × Nat) × Nat) : Prop := t ≤ q.2 ∧ q.2 ≤ bud + 1 ∧ (q.1.2 = 12 ∨ q.2 ≤ bud) ∧ (q.1.2 = 0 ∨ q.1.2 = 3 ∨ q.1.2 = 12)
theorem tryL_tlk {rec : List Prs → Nat → (List Prs × Nat) × Nat} {bud : Nat} (h : ∀ l t, t ≤ bud → Tlk bud t (rec l t)) (gem : Bs) (l : List Prs) : ∀ (c : List Vrs) (t : Nat), t ≤ bud → Tlk bud t (tryL rec bud gem l c t)
 | [], t, ht => ⟨Nat.le_refl _, by simp [tryL]; omega, .inr ht, .inr (.inl rfl)⟩
 | v :: r, t, ht => by
  unfold tryL
  split
  ·exact ⟨by simp, by simp; omega, .inl rfl, .inr (.inr rfl)⟩
  ·have hr := h (l ++ [(gem, v.1)]) (t + 1) (by omega)
   split
   ·exact ⟨by have := hr.1; omega, hr.2.1, hr.2.2.1, hr.2.2.2⟩
   ·rename_i h3
    simp only [Decidable.not_not] at h3
    have hb : (rec (l ++ [(gem, v.1)]) (t + 1)).2 ≤ bud := by
     rcases hr.2.2.1 with q | q
     ·omega
     ·exact q
    have := tryL_tlk h gem l r _ hb
    exact ⟨by have := this.1; have := hr.1; omega, this.2.1, this.2.2.1, this.2.2.2⟩
theorem jr (s : Src) (w : List Prs) (bud : Nat) : ∀ f l t, t ≤ bud → Tlk bud t (restV s w bud f l t)
 | 0, l, t, ht => ⟨Nat.le_refl _, by simp [restV]; omega, .inr ht, .inr (.inl rfl)⟩
 | f + 1, l, t, ht => by
  unfold restV
  split
  ·exact ⟨Nat.le_refl _, by simp; omega, .inr ht, .inl rfl⟩
  ·exact tryL_tlk (jr s w bud f) _ _ _ _ ht
def muV (s : Src) (l : List Prs) : Nat := (s.filter fun g => decide (pkdV l g.1 = [])).length
theorem filter_lt {α : Type} {p q : α → Bool} (hpq : ∀ x, q x = true → p x = true) {x : α} (hp : p x = true) (hq : q x = false) : ∀ {l : List α}, x ∈ l → (l.filter q).length < (l.filter p).length
 | [], h => by cases h
 | y :: l, h => by
  have le : ∀ l : List α, (l.filter q).length ≤ (l.filter p).length := fun l => by
   induction l with
   | nil => simp
   | cons z l ih =>
    simp only [List.filter_cons]
    cases hz : q z with
    | true => rw [hpq z hz]; simp; exact ih
    | false => cases p z <;> simp <;> omega
  rcases List.mem_cons.1 h with rfl | h
  ·simp only [List.filter_cons, hp, hq]
   have := le l
   simp; omega
  ·have := filter_lt hpq hp hq h
   simp only [List.filter_cons]
   cases hz : q y with
   | true => rw [hpq y hz]; simp; exact this
   | false => cases p y <;> simp <;> omega
def NumOk (l : List Prs) : Prop := ∀ x ∈ l, x.2 ≠ []
theorem pkd_none {l : List Prs} (h : NumOk l) {n : Bs} : pkdV l n = [] ↔ l.find? (fun x => decide (x.1 = n)) = none := by
 unfold pkdV
 cases hf : l.find? (fun x => decide (x.1 = n)) with
 | none => simp
 | some x => have := h x (List.mem_of_find?_eq_some hf); simp [this]
theorem pkd_app (l : List Prs) (g v n : Bs) : pkdV (l ++ [(g, v)]) n = if l.find? (fun x => decide (x.1 = n)) = none then (if g = n then v else []) else pkdV l n := by
 unfold pkdV
 rw [List.find?_append]
 cases hf : l.find? (fun x => decide (x.1 = n)) with
 | none =>
  by_cases e : g = n
  ·simp [e]
  ·simp [e]
 | some x => simp
theorem mu_lt {s : Src} {l : List Prs} {gem v : Bs} (h : NumOk l) (hv : v ≠ []) (hg : ∃ g ∈ s, g.1 = gem) (hf : pkdV l gem = []) : muV s (l ++ [(gem, v)]) < muV s l := by
 obtain ⟨g, hgs, rfl⟩ := hg
 unfold muV
 refine filter_lt (x := g) (fun y hy => ?_) (by simpa using hf) ?_ hgs
 ·simp only [decide_eq_true_eq] at hy ⊢
  rw [pkd_app] at hy
  split at hy
  ·rename_i e; exact (pkd_none h).2 e
  ·exact hy
 ·have := (pkd_none h).1 hf
  simp [pkd_app, this, hv]
theorem mu_le (s : Src) (l : List Prs) : muV s l ≤ s.length := List.length_filter_le _ _
theorem mu_pos {s : Src} {l : List Prs} {gem : Bs} (hg : ∃ g ∈ s, g.1 = gem) (hf : pkdV l gem = []) : 0 < muV s l := by
 obtain ⟨g, hgs, rfl⟩ := hg
 unfold muV
 exact List.length_pos_iff.2 (List.ne_nil_of_mem (List.mem_filter.2 ⟨hgs, by simpa using hf⟩))
theorem free_step {all l : List Prs} {i : Nat} {n : Prs} (h : all[i]? = some n) : (all.drop i).find? (freeN l) = if pkdV l n.1 = [] then some n else (all.drop (i + 1)).find? (freeN l) := by
 rw [drop_cons h, List.find?_cons]
 unfold freeN
 by_cases e : pkdV l n.1 = []
 ·rw [if_pos e]; simp [e]
 ·rw [if_neg e]; simp [e]
/-! a valid source -/
theorem qW {s : Src} (h : suV s = true) : s.length ≤ 15 ∧ ∀ g ∈ s, nameV g.1 = true ∧ vuV g.2 = true := by
 unfold suV at h
 rw [Bool.and_eq_true, decide_eq_true_eq] at h
 refine ⟨h.1, fun g hg => ?_⟩
 obtain ⟨i, hi⟩ := List.getElem?_of_mem hg
 have := upTo_at h.2 (List.getElem?_eq_some_iff.1 hi).1
 unfold suAt at this
 rw [hi] at this
 simp only [Bool.and_eq_true] at this
 exact ⟨this.1.1, this.2⟩
theorem zh {l : List Vrs} (h : vuV l = true) : l.length ≤ 12 ∧ ∀ v ∈ l, (readV v.1).isSome = true ∧ nuV 6 v.2 = true := by
 unfold vuV at h
 rw [Bool.and_eq_true, decide_eq_true_eq] at h
 refine ⟨h.1, fun v hv => ?_⟩
 obtain ⟨i, hi⟩ := List.getElem?_of_mem hv
 have := upTo_at h.2 (List.getElem?_eq_some_iff.1 hi).1
 unfold vuAt at this
 rw [hi] at this
 simp only [Bool.and_eq_true] at this
 exact this.1
theorem zH {m : Nat} {l : List Prs} (h : nuV m l = true) : l.length ≤ m ∧ ∀ n ∈ l, nameV n.1 = true ∧ (condsV n.2).isSome = true := by
 unfold nuV at h
 rw [Bool.and_eq_true, decide_eq_true_eq] at h
 refine ⟨h.1, fun v hv => ?_⟩
 obtain ⟨i, hi⟩ := List.getElem?_of_mem hv
 have := upTo_at h.2 (List.getElem?_eq_some_iff.1 hi).1
 unfold nuAt at this
 rw [hi] at this
 simp only [Bool.and_eq_true] at this
 exact this.1
theorem zV {v : Bs} (h : (readV v).isSome = true) : v.length ≤ 60 := by
 obtain ⟨l, hl⟩ := Option.isSome_iff_exists.1 h
 exact (jQ hl).2.2
theorem vN {w : Bs} (h : (condsV w).isSome = true) : w.length ≤ 1300 := by
 obtain ⟨l, hl⟩ := Option.isSome_iff_exists.1 h
 obtain ⟨h1, h2, h3⟩ := wU hl
 rw [← h1]
 have := textR_small (k := 20) h3 h2
 omega
theorem xU {m : Nat} {l : List Prs} (h : nuV m l = true) (hm : m ≤ 1000) : SzN l := by
 obtain ⟨h1, h2⟩ := zH h
 refine ⟨by omega, fun x hx => ?_⟩
 obtain ⟨a, b⟩ := h2 x hx
 have := (name_nm a).2.2
 have := vN b
 exact ⟨by omega, by omega⟩
theorem zY {s : Src} (h : suV s = true) : SzS s := by
 obtain ⟨h1, h2⟩ := qW h
 refine ⟨by omega, fun g hg => ?_⟩
 obtain ⟨a, b⟩ := h2 g hg
 obtain ⟨c, d⟩ := zh b
 have := (name_nm a).2.2
 refine ⟨by omega, by omega, fun v hv => ?_⟩
 obtain ⟨e, f⟩ := d v hv
 have := zV e
 exact ⟨by omega, xU f (by omega)⟩
end Go.Lk
namespace Go.Proofs.YteekfnhhlcmcgaaGreatDoor
open Go.Eng Go.Wh Go.Ver Go.RowKit Go.Lk
set_option maxRecDepth 20000
attribute [local irreducible] AG CallA CallT AWp PCall ACall AgC
theorem tryL_cons (rec : List Prs → Nat → (List Prs × Nat) × Nat) (bud : Nat) (gem : Bs) (l : List Prs) (v : Vrs) (r : List Vrs) (t : Nat) : tryL rec bud gem l (v :: r) t = if bud < t + 1 then (([], 12), t + 1)
  else if (rec (l ++ [(gem, v.1)]) (t + 1)).1.2 ≠ 3 then rec (l ++ [(gem, v.1)]) (t + 1)
  else tryL rec bud gem l r (rec (l ++ [(gem, v.1)]) (t + 1)).2 := rfl
set_option maxHeartbeats 16000000 in
theorem wL (s : Src) (w : List Prs) (bud : Nat) (hsu : suV s = true) (hw : SzN w) (hb : bud ≤ 100000) : ∀ (f : Nat) (l : List Prs) (t g : Nat), muV s l < f → l.length + f ≤ 1000 → NumOk l → (∀ x ∈ l, Sz1 x) → t ≤ bud →
  ACall Tryz.prog 133 [.ptr 900002 g 0, dPs l] [(900002, (g, .box [dGms s, dPs w, dI t, dI bud]))] [900002]
   fun ps r => ps = [(g, .box [dGms s, dPs w, dI (restV s w bud f l t).2, dI bud])] ∧ r = .tup [dPs (restV s w bud f l t).1.1, dI (restV s w bud f l t).1.2]
 | 0, l, t, g, h, _, _, _, _ => absurd h (by omega)
 | f + 1, l, t, g, hmu, hlf, hno, hlz, ht => by
  have hs := zY hsu
  obtain ⟨h15, hsg⟩ := qW hsu
  have h12 : ∀ g ∈ s, g.2.length ≤ 12 := fun g hg => (zh (hsg g hg).2).1
  have IH := fun l t g => wL s w bud hsu hw hb f l t g
  have TL := fun l t => jr s w bud f l t
  refine zg Tryz.func133 rfl rfl Tryz.ntmps133 (rs := [.tmp 4, .tmp 5]) (tys := [58, 35]) rfl rfl (by simp) ?_ ?_
  ·intro q hq
   simp only [List.mem_cons, List.not_mem_nil, or_false] at hq
   subst hq
   simp [zn]
  have AN := jX s w l hs hw (by omega)
  have CA := fun gem => kS s w l gem hs h15 h12 hw (by omega) hlz
  have ham := allN_mem (l := l) hs hw.2
  have hCM := fun gem x => @xZ s w l gem x
  have hRE : restV s w bud (f + 1) l t = (match (allN s w l).find? (freeN l) with
   | none => ((l, 0), t)
   | some n => tryL (restV s w bud f) bud n.1 l (candV s w l n.1) t) := rfl
  have hal := allN_len (w := w) hs l
  have hw0 := hw.1
  have hal2 : (allN s w l).length ≤ 1001000000 := by
   have e : l.length * 1000000 ≤ 1000 * 1000000 := Nat.mul_le_mul_right _ (by omega)
   omega
  generalize restV s w bud (f + 1) l t = R0 at *
  generalize restV s w bud f = rec at *
  generalize candV s w l = cand at *
  generalize allN s w l = all at *
  have hst := fun i n => @free_step all l i n
  have hz : all.find? (freeN l) = (all.drop 0).find? (freeN l) := rfl
  have he : (all.drop all.length).find? (freeN l) = none := by rw [List.drop_length]; rfl
  obtain ⟨F, hF⟩ : ∃ F : Nat → Option Prs, ∀ i, (all.drop i).find? (freeN l) = F i := ⟨_, fun _ => rfl⟩
  simp only [hF] at hst hz he
  clear hF
  rw [hz] at hRE
  (refine qc fun Y Yh=>?_;simp[go_sem];apply Yh;clear Yh Y;apply Xi)
  ((refine qE (.qs [0, 1, 2, 4, 5, 6, 8, 3, 7] (.one 9 (.qs [10] (.nil)))) (by kernel_rfl) ?_ ?_ ?_ ?_);kernel_rfl;exact (by decide +kernel);kernel_rfl;intro Y Yh;((repeat' (first|(refine qo fun Y Yh=>?_;simp[go_sem])|(refine qC fun Y Yh=>?_;simp[go_sem])|(apply Yh;clear Yh Y)))))
  ((try refine Xj ?_);refine qm (.inl ⟨rfl,rfl⟩) (by simp[go_sem]) ?_;intro args ha;simp[go_sem] at ha;subst ha;refine ⟨_, AN, ?_⟩;rintro _ rfl;simp[go_sem];((repeat' (first|refine qy ?_|(refine qo fun Y Yh=>?_;simp[go_sem])|(apply Yh;clear Yh Y)));all_goals apply Xi))
  refine qf fun K1 hK1 => ?_
  (refine qc fun Y Yh=>?_;simp[go_sem];apply Yh;clear Yh Y;apply Xi)
  refine qj ?_
  refine qx (σ := Nat) (fun i => ⟨[(0, .ptr 900002 g 0), (1, dPs l), (6, dPs all), (7, dI i)], [(900002, (g, .box [dGms s, dPs w, dI t, dI bud]))]⟩) (fun i => i ≤ all.length ∧ F 0 = F i) (fun i => all.length - i) 0 ?_ ?_ ?_
  ·(refine ql ?_ ?_ <;> simp[go_sem])
  ·exact ⟨by omega, rfl⟩
  rintro i ⟨hi, hfi⟩
  refine qf fun K2 hK2 => ?_
  (refine qc fun Y Yh=>?_;simp[go_sem];apply Yh;clear Yh Y;apply Xi)
  (refine qg fun T F hT hF=>?_;simp[go_sem];refine BR.intro (fun h3=>hT ?_) (fun h3=>hF ?_);all_goals clear hT hF T F;try simp at h3) 
  ·refine qh ?_
   refine hK2 _ ?_; clear hK2
   obtain ⟨n, hn⟩ : ∃ n, all[i]? = some n := ⟨_, List.getElem?_eq_getElem (by omega)⟩
   have hst1 := hst i n hn
   have hnz := ham n (List.mem_of_getElem? hn)
   have PK := jV l n.1 (by omega)
   have CA1 := CA n.1
   have hCM1 := hCM n.1
   refine qf fun K4 hK4 => ?_
   refine qj ?_
   refine qf fun K5 hK5 => ?_
   (refine qc fun Y Yh=>?_;simp[go_sem, hn])
   ((try refine Xj ?_);refine qm (.inl ⟨rfl,rfl⟩) (by simp[go_sem]) ?_;intro args ha;simp[go_sem] at ha;subst ha;refine ⟨_, PK, ?_⟩;rintro _ rfl;simp[go_sem];apply Yh;clear Yh Y;apply Xi)
   by_cases hpk : pkdV l n.1 = []
   ·rw [if_pos hpk] at hst1
    rw [hfi.trans hst1] at hRE
    simp only at hRE
    have hmp := fun hg => @mu_pos s l n.1 hg hpk
    have hml := fun v hv hg => @mu_lt s l n.1 v hno hv hg hpk
    (refine qg fun T F hT hF=>?_;simp[go_sem, hpk];refine hF ?_;clear hT hF T F)
    refine qh ?_
    refine hK5 _ ?_; clear hK5
    generalize cand n.1 = c at *
    ((refine qE (.qs [0, 1, 2, 4, 5, 6, 8, 9, 10, 11, 12, 3, 7, 13] (.one 14 (.qs [15] (.nil)))) (by kernel_rfl) ?_ ?_ ?_ ?_);kernel_rfl;exact (by decide +kernel);kernel_rfl;intro Y Yh;((repeat' (first|(refine qo fun Y Yh=>?_;simp[go_sem, hn])|(refine qC fun Y Yh=>?_;simp[go_sem, hn])|(apply Yh;clear Yh Y)))))
    ((try refine Xj ?_);refine qm (.inl ⟨rfl,rfl⟩) (by simp[go_sem]) ?_;intro args ha;simp[go_sem] at ha;subst ha;refine ⟨_, CA1, ?_⟩;rintro _ rfl;simp[go_sem];((repeat' (first|refine qy ?_|(refine qo fun Y Yh=>?_;simp[go_sem])|(apply Yh;clear Yh Y)));all_goals apply Xi))
    refine X5 8 rfl fun hc => ?_
    have hc := hc c.length (by simp [lensD])
    refine qf fun K7 hK7 => ?_
    (refine qc fun Y Yh=>?_;simp[go_sem];apply Yh;clear Yh Y;apply Xi)
    refine qj ?_
    refine qx (σ := Nat × Nat) (fun x => ⟨[(0, .ptr 900002 g 0), (1, dPs l), (6, dPs all), (7, dI i), (8, dVrs c), (9, dI x.1)], [(900002, (g, .box [dGms s, dPs w, dI x.2, dI bud]))]⟩) (fun x => x.1 ≤ c.length ∧ x.2 ≤ bud ∧ R0 = tryL rec bud n.1 l (c.drop x.1) x.2) (fun x => c.length - x.1) (0, t) ?_ ?_ ?_
    ·(refine ql ?_ ?_ <;> simp[go_sem])
    ·exact ⟨by simp, ht, hRE⟩
    rintro ⟨k, t⟩ ⟨hk, ht, hR⟩
    simp only at hk ht hR
    refine qf fun K8 hK8 => ?_
    (refine qc fun Y Yh=>?_;simp[go_sem];apply Yh;clear Yh Y;apply Xi)
    (refine qg fun T F hT hF=>?_;simp[go_sem];refine BR.intro (fun h9=>hT ?_) (fun h9=>hF ?_);all_goals clear hT hF T F;try simp at h9) 
    ·refine qh ?_
     refine hK8 _ ?_; clear hK8
     obtain ⟨v, hv⟩ : ∃ v, c[k]? = some v := ⟨_, List.getElem?_eq_getElem (by omega)⟩
     obtain ⟨gg, hgs, hgn, hvg⟩ := hCM1 v (List.mem_of_getElem? hv)
     have hvv := (zh (hsg gg hgs).2).2 v hvg
     have hvn := jR hvv.1
     have hvl := zV hvv.1
     have hmu1 := hml v.1 hvn ⟨gg, hgs, hgn⟩
     rw [drop_cons hv, tryL_cons] at hR
     refine qf fun K10 hK10 => ?_
     refine qj ?_
     (refine qc fun Y Yh=>?_;simp[go_sem];((repeat' (first|apply And.intro|(apply Yh;clear Yh Y)));all_goals first|apply Xi|omega))
     refine qf fun K11 hK11 => ?_
     ((refine qE (.qs [0, 1, 2, 4, 5, 6, 3, 7, 8] (.nil)) (by kernel_rfl) ?_ ?_ ?_ ?_);kernel_rfl;exact (by decide +kernel);kernel_rfl;intro Y Yh;((repeat' (first|refine qy ?_|(refine qo fun Y Yh=>?_;simp[go_sem])|(apply Yh;clear Yh Y)));all_goals apply Xi))
     (refine qg fun T F hT hF=>?_;simp[go_sem];refine BR.intro (fun h12=>hT ?_) (fun h12=>hF ?_);all_goals clear hT hF T F;try simp at h12) 
     ·rw [if_pos (by omega)] at hR
      (refine qc fun Y Yh=>?_;simp[go_sem];apply Yh;clear Yh Y;apply Xi)
      (refine qi ?_;simp[go_sem, hR])
     ·rw [if_neg (by omega)] at hR
      refine qh ?_
      refine hK11 _ ?_; clear hK11
      have IH1 := IH (l ++ [(n.1, v.1)]) (t + 1) g (by omega) (by simp; omega) (fun x hx => by
       rcases List.mem_append.1 hx with h | h
       ·exact hno x h
       ·simp at h; subst h; exact hvn) (fun x hx => by
       rcases List.mem_append.1 hx with h | h
       ·exact hlz x h
       ·simp at h; subst h; exact ⟨hnz.1, by show v.1.length ≤ 1000000; omega⟩) (by omega)
      rw [show ((t + 1 : Nat) : Int) = (t : Int) + 1 by omega] at IH1
      have T1 := TL (l ++ [(n.1, v.1)]) (t + 1) (by omega)
      generalize rec (l ++ [(n.1, v.1)]) (t + 1) = q at *
      obtain ⟨⟨out, e⟩, t'⟩ := q
      simp only [Tlk] at T1 hR
      rw [show dPs (l ++ [(n.1, v.1)]) = D.sl 2 (l.map cP ++ [[dS n.1, dS v.1]]) by simp [go_sem]] at IH1
      refine zy (α := Unit) (fun _ => ⟨[(0, .ptr 900002 g 0), (1, dPs l), (6, dPs all), (7, dI i), (8, dVrs c), (9, dI k), (10, dPs out), (11, dI e)], [(900002, (g, .box [dGms s, dPs w, dI t', dI bud]))]⟩) (fun K15 hK15 hM15 => ?_) (fun _ => ?_)
      ·((refine zA (.qs [0, 2, 4, 5, 6, 7, 9, 10, 11, 12, 8, 13, 14] (.kp2 1 (.kp2 3 (.kp 15 (.one 16 (.one 17 (.qs [18, 19, 20, 21, 22] (.nil))))) 15 (.kp 3 (.one 16 (.one 17 (.qs [18, 19, 20, 21, 22] (.nil)))))) 15 (.kp 1 (.kp 3 (.one 16 (.one 17 (.qs [18, 19, 20, 21, 22] (.nil)))))))) (by kernel_rfl) ?_ ?_ ?_ ?_);kernel_rfl;exact (by decide +kernel);kernel_rfl;intro Y Yh;((repeat' (first|refine zC ?_ ?_|(refine qo fun Y Yh=>?_;simp[go_sem, hn, hv])|(refine qC fun Y Yh=>?_;simp[go_sem, hn, hv])|intro _|apply And.intro|(apply Yh;clear Yh Y)));all_goals first|omega|skip))
       all_goals
        refine Jk 76 rfl ?_
        (refine qR [900002] (.inl ⟨rfl,rfl⟩) (by simp[go_sem]) ?_;intro args ha;simp[go_sem] at ha;subst ha;refine ⟨_, _, IH1, (by simp[go_sem]), ?_⟩;rintro ps r hps ⟨rfl, rfl⟩;simp[go_sem];((repeat' (first|refine qy ?_|(refine qo fun Y Yh=>?_;simp[go_sem])|(apply Yh;clear Yh Y)));all_goals apply Xi))
        refine hK15 _ ?_
        refine hM15 () _ ?_
        (refine ql ?_ ?_ <;> simp[go_sem])
      ·by_cases he3 : e = 3
       ·rw [if_neg (by simp [he3])] at hR
        have he3i : (e : Int) = 3 := by omega
        (refine qc fun Y Yh=>?_;simp[go_sem, he3];apply Yh;clear Yh Y;apply Xi)
        (refine qg fun T F hT hF=>?_;simp[go_sem, he3];refine hF ?_;clear hT hF T F)
        refine qh ?_
        refine hK10 _ ?_; clear hK10
        (refine qB fun Y Yh=>?_;simp[go_sem];((repeat' (first|apply And.intro|(apply Yh;clear Yh Y)));all_goals first|apply Xi|omega))
        refine ⟨(k + 1, t'), ?_, ⟨by simp only; omega, by simp only; omega, hR⟩, by simp only; omega⟩
        (refine ql ?_ ?_ <;> simp[go_sem])
       ·rw [if_pos he3] at hR
        have he3i : ¬ (e : Int) = 3 := by omega
        (refine qc fun Y Yh=>?_;simp[go_sem, he3, he3i];apply Yh;clear Yh Y;apply Xi)
        (refine qg fun T F hT hF=>?_;simp[go_sem, he3, he3i];refine hT ?_;clear hT hF T F)
        (refine qc fun Y Yh=>?_;simp[go_sem];apply Yh;clear Yh Y;apply Xi)
        (refine qi ?_;simp[go_sem, hR])
    ·refine qp ?_
     simp only [go_sem]
     refine hK7 _ ?_; clear hK7
     have : k = c.length := by omega
     subst this
     rw [List.drop_length] at hR
     have hR' : R0 = (([], 3), t) := hR
     (refine qc fun Y Yh=>?_;simp[go_sem];apply Yh;clear Yh Y;apply Xi)
     (refine qi ?_;simp[go_sem, hR'])
   ·rw [if_neg hpk] at hst1
    have hpb : (pkdV l n.1).isEmpty = false := by cases hq : pkdV l n.1 with
     | nil => exact absurd hq hpk
     | cons => rfl
    (refine qg fun T F hT hF=>?_;simp[go_sem, hpk, hpb];refine hT ?_;clear hT hF T F)
    refine qp ?_
    simp only [go_sem]
    refine hK4 _ ?_; clear hK4
    (refine qB fun Y Yh=>?_;simp[go_sem];((repeat' (first|apply And.intro|(apply Yh;clear Yh Y)));all_goals first|apply Xi|omega))
    refine ⟨i + 1, ?_, ⟨by omega, hfi.trans hst1⟩, by omega⟩
    (refine ql ?_ ?_ <;> simp[go_sem])
  ·refine qp ?_
   simp only [go_sem]
   refine hK1 _ ?_; clear hK1
   have : i = all.length := by omega
   subst this
   rw [hfi.trans he] at hRE
   simp only at hRE
   (refine qc fun Y Yh=>?_;simp[go_sem];apply Yh;clear Yh Y;apply Xi)
   (refine qi ?_;simp[go_sem, hRE])
end Go.Proofs.YteekfnhhlcmcgaaGreatDoor
set_option maxRecDepth 20000
namespace Go.Lk
open Go.Lib Go.Wh Go.Ver
/-! picks and needs in the order of their gems -/
def posP (x : Prs) (out : List Prs) : Nat → Nat
 | 0 => 0
 | n + 1 => match out[n]? with
  | some y => if Op.bytesLess x.1 y.1 = true then posP x out n else n + 1
  | none => n + 1
theorem xB (x : Prs) (out : List Prs) : ∀ n, posP x out n ≤ n
 | 0 => Nat.le_refl _
 | n + 1 => by
  have := xB x out n
  unfold posP
  split
  ·split <;> omega
  ·omega
theorem xR {x y : Prs} {out : List Prs} {n : Nat} (h : out[n]? = some y) : posP x out (n + 1) = if Op.bytesLess x.1 y.1 = true then posP x out n else n + 1 := by
 rw [posP, h]
def insP (x : Prs) (out : List Prs) : List Prs := out.take (posP x out out.length) ++ x :: out.drop (posP x out out.length)
def srtP (l : List Prs) : List Prs := l.foldl (fun o x => insP x o) []
theorem JB (x : Prs) (out : List Prs) : (insP x out).length = out.length + 1 := by
 have := xB x out out.length
 unfold insP
 simp; omega
theorem QT {x y : Prs} {out : List Prs} : y ∈ insP x out ↔ y = x ∨ y ∈ out := by
 unfold insP
 generalize posP x out out.length = a
 conv => rhs; rw [← List.take_append_drop a out]
 simp only [List.mem_append, List.mem_cons]
 constructor
 ·rintro (h | h | h) <;> simp [h]
 ·rintro (h | h | h) <;> simp [h]
theorem srt_step {l : List Prs} {i : Nat} {x : Prs} (h : l[i]? = some x) : srtP (l.take (i + 1)) = insP x (srtP (l.take i)) := by
 unfold srtP; exact foldl_take _ _ h
theorem srtP_len' : ∀ (l o : List Prs), (l.foldl (fun o x => insP x o) o).length = o.length + l.length
 | [], o => by simp
 | x :: l, o => by
  rw [List.foldl_cons, srtP_len' l, JB]; simp; omega
theorem jq (l : List Prs) : (srtP l).length = l.length := by
 unfold srtP; rw [srtP_len']; simp
theorem srtP_mem' {y : Prs} : ∀ (l o : List Prs), y ∈ l.foldl (fun o x => insP x o) o ↔ y ∈ l ∨ y ∈ o
 | [], o => by simp
 | x :: l, o => by
  rw [List.foldl_cons, srtP_mem' l, QT]
  simp only [List.mem_cons]
  constructor
  ·rintro (h | h | h) <;> simp [h]
  ·rintro ((h | h) | h) <;> simp [h]
theorem jo {y : Prs} {l : List Prs} : y ∈ srtP l ↔ y ∈ l := by
 unfold srtP; rw [srtP_mem']; simp
def solV (s : Src) (w : List Prs) (b : Int) : List Prs × Nat × Nat :=
 if chkV s w = true ∧ 1 ≤ b ∧ b ≤ 100000 then
  let q := restV s w b.toNat (s.length + 1) [] 0
  (srtP q.1.1, q.2, q.1.2)
 else ([], 0, 1)
def ownV (s : Src) (p : Prs) : List Prs := srtP (fndP s p).2
def ofV (s : Src) (w : List Prs) (b : Int) : Lck × Nat :=
 if (solV s w b).2.2 = 0 then (((solV s w b).1, (solV s w b).1.map (ownV s), srtP w), 0) else (lk0, (solV s w b).2.2)
/-! what a solution is made of -/
def PickOk (s : Src) (l : List Prs) : Prop := (∀ x ∈ l, ∃ g ∈ s, g.1 = x.1 ∧ ∃ v ∈ g.2, v.1 = x.2) ∧ (l.map (·.1)).Nodup
theorem pkd_notin {l : List Prs} (h : NumOk l) {n : Bs} (hp : pkdV l n = []) : n ∉ l.map (·.1) := fun hm => by
 obtain ⟨x, hx, rfl⟩ := List.mem_map.1 hm
 have := (pkd_none h).1 hp
 have := List.find?_eq_none.1 this x hx
 simp at this
theorem pickOk_num {s : Src} {l : List Prs} (hs : suV s = true) (h : PickOk s l) : NumOk l := fun x hx => by
 obtain ⟨g, hg, _, v, hv, e⟩ := h.1 x hx
 have := (zh ((qW hs).2 g hg).2).2 v hv
 rw [← e]
 exact jR this.1
theorem pickOk_snoc {s : Src} {l : List Prs} {gem : Bs} {v : Vrs} (hs : suV s = true) (h : PickOk s l) (hp : pkdV l gem = []) (hv : ∃ g ∈ s, g.1 = gem ∧ v ∈ g.2) : PickOk s (l ++ [(gem, v.1)]) := by
 refine ⟨fun x hx => ?_, ?_⟩
 ·rcases List.mem_append.1 hx with h1 | h1
  ·exact h.1 x h1
  ·simp at h1; subst h1
   obtain ⟨g, a, b, c⟩ := hv
   exact ⟨g, a, b, v, c, rfl⟩
 ·have := pkd_notin (pickOk_num hs h) hp
  rw [List.map_append, List.nodup_append]
  refine ⟨h.2, by simp, ?_⟩
  intro a ha b hb
  simp at hb
  subst hb
  exact fun e => this (e ▸ ha)
theorem tryL_pick {s : Src} {bud : Nat} {gem : Bs} {l : List Prs} {rec : List Prs → Nat → (List Prs × Nat) × Nat} (hs : suV s = true) (hrec : ∀ l t, PickOk s l → PickOk s (rec l t).1.1) (h : PickOk s l) (hp : pkdV l gem = []) :
  ∀ (c : List Vrs) (t : Nat), (∀ v ∈ c, ∃ g ∈ s, g.1 = gem ∧ v ∈ g.2) → PickOk s (tryL rec bud gem l c t).1.1
 | [], t, _ => ⟨by simp [tryL], by simp [tryL]⟩
 | v :: r, t, hc => by
  have hv := pickOk_snoc hs h hp (hc v (by simp))
  unfold tryL
  split
  ·exact ⟨by simp, by simp⟩
  ·split
   ·exact hrec _ _ hv
   ·exact tryL_pick hs hrec h hp r _ fun v hv => hc v (by simp [hv])
theorem ja {s : Src} {w : List Prs} {bud : Nat} (hs : suV s = true) : ∀ f l t, PickOk s l → PickOk s (restV s w bud f l t).1.1
 | 0, l, t, _ => ⟨by simp [restV], by simp [restV]⟩
 | f + 1, l, t, h => by
  unfold restV
  split
  ·exact h
  ·rename_i n hn
   have hp := List.find?_some hn
   unfold freeN at hp
   exact tryL_pick hs (ja hs f) h (by simpa using hp) _ _ fun v hv => xZ hv
theorem tryL_len {bud : Nat} {gem : Bs} {l : List Prs} {rec : List Prs → Nat → (List Prs × Nat) × Nat} {m : Nat} (h : ∀ v t, (rec (l ++ [(gem, v)]) t).1.1.length ≤ m) : ∀ (c : List Vrs) (t : Nat), (tryL rec bud gem l c t).1.1.length ≤ m
 | [], t => by simp [tryL]
 | v :: r, t => by
  unfold tryL
  split
  ·simp
  ·split
   ·exact h _ _
   ·exact tryL_len h r _
theorem xP (s : Src) (w : List Prs) (bud : Nat) : ∀ f l t, (restV s w bud f l t).1.1.length ≤ l.length + f
 | 0, l, t => by simp [restV]
 | f + 1, l, t => by
  unfold restV
  split
  ·simp
  ·rename_i n hn
   refine tryL_len (fun v t => ?_) _ _
   have := xP s w bud f (l ++ [(n.1, v)]) t
   refine Nat.le_trans this ?_
   simp; omega
theorem jM {s : Src} {w : List Prs} {b : Int} : (solV s w b).1.length ≤ 16 := by
 unfold solV
 split
 ·rename_i h
  have h1 := h.1
  unfold chkV at h1
  rw [Bool.and_eq_true] at h1
  have := (qW h1.1).1
  have := xP s w b.toNat (s.length + 1) [] 0
  simp only [jq]
  simp at this
  omega
 ·simp
theorem ZU {s : Src} {w : List Prs} {b : Int} (hs : suV s = true) : (∀ x ∈ (solV s w b).1, ∃ g ∈ s, g.1 = x.1 ∧ ∃ v ∈ g.2, v.1 = x.2) := fun x hx => by
 unfold solV at hx
 split at hx
 ·simp only at hx
  rw [jo] at hx
  exact (ja hs _ [] 0 ⟨by simp, by simp⟩).1 x hx
 ·simp at hx
theorem xx {s : Src} {w : List Prs} {b : Int} (h : (solV s w b).2.2 = 0) : chkV s w = true ∧ 1 ≤ b ∧ b ≤ 100000 := by
 unfold solV at h
 split at h
 ·rename_i q; exact q
 ·simp at h
end Go.Lk
