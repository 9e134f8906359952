/- Part of a proof: see the last text. -/
import Derived.Test.YteekfnhhlcmcgaaGreatDoorH07
import Derived.Test.YteekfnhhlcmcgaaGreatDoorH05
import Derived.Lib.LastIndexLaws
set_option linter.unusedVariables false
set_option linter.unusedSimpArgs false
namespace Go.Proofs.YteekfnhhlcmcgaaGreatDoor
open Go.Eng Go.Wh Go.Ver Go.RowKit Go.Lk
set_option maxRecDepth 20000
attribute [local irreducible] AG CallA CallT AWp PCall ACall AgC
abbrev PrOk (x : Prs) : Prop := x.1.length ≤ 1000000 ∧ x.2.length ≤ 1000000
def LkOk (L : Lck) : Prop := L.1.length ≤ 1000000 ∧ L.2.1.length ≤ 1000000 ∧ L.2.2.length ≤ 1000000 ∧ (∀ x ∈ L.1, PrOk x) ∧ (∀ r ∈ L.2.1, r.length ≤ 1000000 ∧ ∀ x ∈ r, PrOk x) ∧ (∀ x ∈ L.2.2, PrOk x)
theorem pick_step (L : Lck) (i : Nat) (x : Prs) (r : List Prs) (h : L.1[i]? = some x) (hr : L.2.1[i]? = some r) : pickTo L (i + 1) = (pickTo L i && (nameV x.1 && (readV x.2).isSome && (decide (i = 0) || (match L.1[i - 1]? with | some y => Op.bytesLess y.1 x.1 | none => true)) && needsV 6 r)) := by
 rw [pickTo]
 unfold pickAt
 rw [h]
 have e : L.2.1.getD i [] = r := by simp [List.getD, hr]
 rw [e]
 all_goals rfl
set_option maxHeartbeats 8000000 in
theorem jh (L : Lck) (hL : LkOk L) : PCall Tryz.prog 59 [dLk L] fun r => r = dI (if lockV L = true then 0 else 1) := by 
 refine qw Tryz.func59 rfl rfl Tryz.ntmps59 (rs := [.tmp 2]) (tys := [35]) rfl rfl (by simp) ?_
 have hbad := fun n (h : pickTo L n = false) (hn : n ≤ L.1.length) => pickTo_bad h L.1.length hn
 have hst := pick_step L
 have hz : pickTo L 0 = true := rfl
 unfold lockV
 obtain ⟨P, N, W⟩ := L
 obtain ⟨hP, hN, hW, hP1, hN1, hW1⟩ := hL
 simp only at hP hN hW hP1 hN1 hW1 hbad hst hz ⊢
 generalize pickTo (P, N, W) = nt at *
 have W1 := vz W 8 hW hW1
 generalize needsV 8 W = wb at *
 (refine qc fun Y Yh=>?_;simp[go_sem];intro _;apply Yh;clear Yh Y;apply Xi)
 rename_i g1
 refine qf fun K1 hK1 => ?_
 by_cases h1 : P.length ≤ 60
 ·have h1' : ¬ (60 : Int) < P.length := by omega
  by_cases h2 : N.length = P.length
  ·have h2' : (N.length : Int) = P.length := by omega
   (refine qc fun Y Yh=>?_;simp[go_sem, h1', h2, h2'];((repeat' (refine qH ?_;simp[go_sem, h1', h2, h2']))))
   (refine qX (dB wb) (.inl ⟨rfl,rfl⟩) ?_ rfl ?_;(intro hc args ha;simp[go_sem] at ha;subst ha;exact W1);simp[go_sem, h1', h2, h2'];refine qH ?_;simp[go_sem, h1', h2, h2'];apply Yh;clear Yh Y;apply Xi)
   cases wb with
   | false =>
    (refine qg fun T F hT hF=>?_;simp[go_sem, h1', h2, h2'];refine hT ?_;clear hT hF T F)
    (refine qc fun Y Yh=>?_;simp[go_sem];apply Yh;clear Yh Y;apply Xi)
    (refine qi ?_;simp[go_sem, h1, h2])
   | true =>
    (refine qg fun T F hT hF=>?_;simp[go_sem, h1', h2, h2'];refine hF ?_;clear hT hF T F)
    refine qh ?_
    refine hK1 _ ?_; clear hK1
    refine qf fun K3 hK3 => ?_
    (refine qc fun Y Yh=>?_;simp[go_sem];apply Yh;clear Yh Y;apply Xi)
    refine qj ?_
    refine qx (σ := Nat) (fun i => ⟨[(1, .ptr 1 g1 0), (25, dPs P), (26, dI P.length), (27, dI i)], [(1, g1, .box [dPs P, dNs N, dPs W])]⟩) (fun i => i ≤ P.length ∧ nt i = true) (fun i => P.length - i) 0 ?_ ?_ ?_
    ·(refine ql ?_ ?_ <;> simp[go_sem])
    ·exact ⟨by omega, hz⟩
    rintro i ⟨hi, hn⟩
    (refine qc fun Y Yh=>?_;simp[go_sem];apply Yh;clear Yh Y;apply Xi)
    refine qf fun K4 hK4 => ?_
    (refine qg fun T F hT hF=>?_;simp[go_sem];refine BR.intro (fun h5=>hT ?_) (fun h5=>hF ?_);all_goals clear hT hF T F;try simp at h5)
    ·refine qh ?_
     refine hK4 _ ?_; clear hK4
     obtain ⟨x, hx⟩ : ∃ x, P[i]? = some x := ⟨_, List.getElem?_eq_getElem (by omega)⟩
     obtain ⟨r, hr⟩ : ∃ r, N[i]? = some r := ⟨_, List.getElem?_eq_getElem (by omega)⟩
     have hb1 := hP1 x (List.mem_of_getElem? hx)
     have hb2 := hN1 r (List.mem_of_getElem? hr)
     have N1 := ji x.1 (by omega)
     have C1 := vX x.2 (by omega)
     have Q1 := vz r 6 hb2.1 hb2.2
     have hst1 := hst i x r hx hr
     rw [hn, Bool.true_and] at hst1
     have hbad1 := fun h => hbad (i + 1) h (by omega)
     generalize nameV x.1 = nb at *
     generalize (readV x.2).isSome = cb at *
     generalize needsV 6 r = qb at *
     refine qf fun K6 hK6 => ?_
     refine qj ?_
     (refine qc fun Y Yh=>?_;simp[go_sem, hx];intro _;apply Yh;clear Yh Y;apply Xi)
     cases nb with
     | false =>
      have hF := hbad1 (by rw [hst1]; simp)
      ((refine qE (.qs [0, 1] (.one 2 (.qs [3, 4] (.sk 5 (.sk 6 (.sk 7 (.sk 8 (.qs [9, 10] (.sk 11 (.sk 12 (.sk 13 (.sk 14 (.sk 16 (.sk 17 (.sk 21 (.sk 15 (.sk 18 (.sk 19 (.sk 20 (.sk 22 (.sk 23 (.sk 24 (.qs [25, 26] (.sk 27 (.sk 29 (.sk 28 (.sk 30 (.sk 31 (.sk 32 (.sk 33 (.qs [34] (.nil)))))))))))))))))))))))))))))))) (by kernel_rfl) ?_ ?_ ?_ ?_);kernel_rfl;exact (by decide +kernel);kernel_rfl;intro Y Yh;((repeat' (first|(refine qo fun Y Yh=>?_;simp[go_sem])|(refine qC fun Y Yh=>?_;simp[go_sem])|(apply Yh;clear Yh Y)))))
      ((try refine Xj ?_);refine qm (.inl ⟨rfl,rfl⟩) (by simp[go_sem]) ?_;intro args ha;simp[go_sem] at ha;subst ha;refine ⟨_, N1, ?_⟩;rintro _ rfl;simp[go_sem, undef];((repeat' (first|refine qy ?_|(refine qo fun Y Yh=>?_;simp[go_sem, undef])|(refine qC fun Y Yh=>?_;simp[go_sem, undef])|(apply Yh;clear Yh Y)));all_goals apply Xi))
      (refine qg fun T F hT hF=>?_;simp[go_sem];refine hT ?_;clear hT hF T F)
      (refine qc fun Y Yh=>?_;simp[go_sem];apply Yh;clear Yh Y;apply Xi)
      (refine qi ?_;simp[go_sem, hF, h1, h2])
     | true =>
      cases cb with
      | false =>
       have hF := hbad1 (by rw [hst1]; simp)
       ((refine qE (.qs [0, 1] (.one 2 (.qs [3, 4, 5, 6] (.one 7 (.qs [8, 9, 10] (.sk 11 (.sk 12 (.sk 13 (.sk 14 (.sk 16 (.sk 17 (.sk 21 (.sk 15 (.sk 18 (.sk 19 (.sk 20 (.sk 22 (.sk 23 (.sk 24 (.qs [25, 26] (.sk 27 (.sk 29 (.sk 28 (.sk 30 (.sk 31 (.sk 32 (.sk 33 (.qs [34] (.nil))))))))))))))))))))))))))))) (by kernel_rfl) ?_ ?_ ?_ ?_);kernel_rfl;exact (by decide +kernel);kernel_rfl;intro Y Yh;((repeat' (first|(refine qo fun Y Yh=>?_;simp[go_sem])|(refine qC fun Y Yh=>?_;simp[go_sem])|(apply Yh;clear Yh Y)))))
       ((try refine Xj ?_);refine qm (.inl ⟨rfl,rfl⟩) (by simp[go_sem]) ?_;intro args ha;simp[go_sem] at ha;subst ha;refine ⟨_, N1, ?_⟩;rintro _ rfl;simp[go_sem];((repeat' (first|(refine qH ?_;simp[go_sem])|(refine qo fun Y Yh=>?_;simp[go_sem])|(refine qC fun Y Yh=>?_;simp[go_sem])|(apply Yh;clear Yh Y)))))
       (refine qX (dB false) (.inl ⟨rfl,rfl⟩) ?_ rfl ?_;(intro hc args ha;simp[go_sem] at ha;subst ha;exact C1);simp[go_sem, undef];((repeat' (first|refine qy ?_|(refine qo fun Y Yh=>?_;simp[go_sem, undef])|(refine qC fun Y Yh=>?_;simp[go_sem, undef])|(apply Yh;clear Yh Y)));all_goals apply Xi))
       (refine qg fun T F hT hF=>?_;simp[go_sem];refine hT ?_;clear hT hF T F)
       (refine qc fun Y Yh=>?_;simp[go_sem];apply Yh;clear Yh Y;apply Xi)
       (refine qi ?_;simp[go_sem, hF, h1, h2])
      | true =>
       by_cases h0 : i = 0
       ·subst h0
        ((refine qE (.qs [0, 1] (.one 2 (.qs [3, 4, 5, 6] (.one 7 (.qs [8, 9, 10, 11, 12, 13] (.sk 14 (.sk 16 (.sk 17 (.sk 21 (.sk 15 (.sk 18 (.sk 19 (.sk 20 (.sk 22 (.sk 23 (.qs [24, 25, 26, 27, 29, 28, 30, 31] (.one 32 (.qs [33, 34] (.nil))))))))))))))))))) (by kernel_rfl) ?_ ?_ ?_ ?_);kernel_rfl;exact (by decide +kernel);kernel_rfl;intro Y Yh;((repeat' (first|(refine qo fun Y Yh=>?_;simp[go_sem, hr])|(refine qC fun Y Yh=>?_;simp[go_sem, hr])|(apply Yh;clear Yh Y)))))
        ((try refine Xj ?_);refine qm (.inl ⟨rfl,rfl⟩) (by simp[go_sem]) ?_;intro args ha;simp[go_sem] at ha;subst ha;refine ⟨_, N1, ?_⟩;rintro _ rfl;simp[go_sem, hr];((repeat' (first|(refine qH ?_;simp[go_sem, hr])|(refine qo fun Y Yh=>?_;simp[go_sem, hr])|(refine qC fun Y Yh=>?_;simp[go_sem, hr])|(apply Yh;clear Yh Y)))))
        (refine qX (dB true) (.inl ⟨rfl,rfl⟩) ?_ rfl ?_;(intro hc args ha;simp[go_sem] at ha;subst ha;exact C1);simp[go_sem, undef, hr];((repeat' (first|(refine qH ?_;simp[go_sem, undef, hr])|(refine qo fun Y Yh=>?_;simp[go_sem, undef, hr])|(refine qC fun Y Yh=>?_;simp[go_sem, undef, hr])|(apply Yh;clear Yh Y)))))
        (refine qX (dB qb) (.inl ⟨rfl,rfl⟩) ?_ rfl ?_;(intro hc args ha;simp[go_sem] at ha;subst ha;exact Q1);simp[go_sem, undef, hr];((repeat' (first|refine qy ?_|(refine qo fun Y Yh=>?_;simp[go_sem, undef, hr])|(apply Yh;clear Yh Y)));all_goals apply Xi))
        cases qb with
        | false =>
         have hF := hbad1 (by rw [hst1]; simp)
         (refine qg fun T F hT hF=>?_;simp[go_sem];refine hT ?_;clear hT hF T F)
         (refine qc fun Y Yh=>?_;simp[go_sem];apply Yh;clear Yh Y;apply Xi)
         (refine qi ?_;simp[go_sem, hF, h1, h2])
        | true =>
         have hT : nt 1 = true := by rw [hst1]; simp
         (refine qg fun T F hT hF=>?_;simp[go_sem];refine hF ?_;clear hT hF T F)
         refine qh ?_
         refine hK6 _ ?_; clear hK6
         (refine qB fun Y Yh=>?_;simp[go_sem];((repeat' (first|apply And.intro|(apply Yh;clear Yh Y)));all_goals first|apply Xi|omega))
         refine ⟨1, ?_, ⟨by omega, hT⟩, by omega⟩
         (refine ql ?_ ?_ <;> simp[go_sem])
       ·obtain ⟨j, rfl⟩ : ∃ j, i = j + 1 := ⟨i - 1, by omega⟩
        obtain ⟨y, hy⟩ : ∃ y, P[j]? = some y := ⟨_, List.getElem?_eq_getElem (by omega)⟩
        have hi1 : ((j : Int) + 1 - 1).toNat = j := by omega
        have hi2 : (j : Int) + 1 - 1 = j := by omega
        have hi3 : ((j : Int) + 1).toNat = j + 1 := by omega
        have hpos : (0 : Int) < (j : Int) + 1 := by omega
        simp only [Nat.add_sub_cancel, hy] at hst1
        have hm1 := hP1 y (List.mem_of_getElem? hy)
        generalize hlb : Op.bytesLess y.1 x.1 = lb at *
        cases lb with
        | false =>
         have hF := hbad1 (by rw [hst1]; simp)
         ((refine qE (.qs [0, 1] (.one 2 (.qs [3, 4, 5, 6] (.one 7 (.qs [8, 9, 10, 11, 12, 13, 14, 16, 17, 21, 15, 18, 19, 20, 22, 23, 24, 25, 26] (.sk 27 (.sk 29 (.sk 28 (.sk 30 (.sk 31 (.sk 32 (.sk 33 (.qs [34] (.nil)))))))))))))) (by kernel_rfl) ?_ ?_ ?_ ?_);kernel_rfl;exact (by decide +kernel);kernel_rfl;intro Y Yh;((repeat' (first|(refine qo fun Y Yh=>?_;simp[go_sem, hr, hy, hi1, hi2, hi3, hpos])|(refine qC fun Y Yh=>?_;simp[go_sem, hr, hy, hi1, hi2, hi3, hpos])|(apply Yh;clear Yh Y)))))
         ((try refine Xj ?_);refine qm (.inl ⟨rfl,rfl⟩) (by simp[go_sem]) ?_;intro args ha;simp[go_sem] at ha;subst ha;refine ⟨_, N1, ?_⟩;rintro _ rfl;simp[go_sem, hr, hy, hi1, hi2, hi3, hpos];((repeat' (first|(refine qH ?_;simp[go_sem, hr, hy, hi1, hi2, hi3, hpos])|(refine qo fun Y Yh=>?_;simp[go_sem, hr, hy, hi1, hi2, hi3, hpos])|(refine qC fun Y Yh=>?_;simp[go_sem, hr, hy, hi1, hi2, hi3, hpos])|(apply Yh;clear Yh Y)))))
         (refine qX (dB true) (.inl ⟨rfl,rfl⟩) ?_ rfl ?_;(intro hc args ha;simp[go_sem] at ha;subst ha;exact C1);simp[go_sem, undef, hr, hy, hi1, hi2, hi3, hpos, hlb];((repeat' (first|refine qy ?_|(refine qo fun Y Yh=>?_;simp[go_sem, undef, hr, hy, hi1, hi2, hi3, hpos, hlb])|(refine qC fun Y Yh=>?_;simp[go_sem, undef, hr, hy, hi1, hi2, hi3, hpos, hlb])|apply And.intro|(apply Yh;clear Yh Y)));all_goals first|apply Xi|omega))
         (refine qg fun T F hT hF=>?_;simp[go_sem];refine hT ?_;clear hT hF T F)
         (refine qc fun Y Yh=>?_;simp[go_sem];apply Yh;clear Yh Y;apply Xi)
         (refine qi ?_;simp[go_sem, hF, h1, h2])
        | true =>
         ((refine qE (.qs [0, 1] (.one 2 (.qs [3, 4, 5, 6] (.one 7 (.qs [8, 9, 10, 11, 12, 13, 14, 16, 17, 21, 15, 18, 19, 20, 22, 23, 24, 25, 26, 27, 29, 28, 30, 31] (.one 32 (.qs [33, 34] (.nil)))))))) (by kernel_rfl) ?_ ?_ ?_ ?_);kernel_rfl;exact (by decide +kernel);kernel_rfl;intro Y Yh;((repeat' (first|(refine qo fun Y Yh=>?_;simp[go_sem, hr, hy, hi1, hi2, hi3, hpos])|(refine qC fun Y Yh=>?_;simp[go_sem, hr, hy, hi1, hi2, hi3, hpos])|(apply Yh;clear Yh Y)))))
         ((try refine Xj ?_);refine qm (.inl ⟨rfl,rfl⟩) (by simp[go_sem]) ?_;intro args ha;simp[go_sem] at ha;subst ha;refine ⟨_, N1, ?_⟩;rintro _ rfl;simp[go_sem, hr, hy, hi1, hi2, hi3, hpos];((repeat' (first|(refine qH ?_;simp[go_sem, hr, hy, hi1, hi2, hi3, hpos])|(refine qo fun Y Yh=>?_;simp[go_sem, hr, hy, hi1, hi2, hi3, hpos])|(refine qC fun Y Yh=>?_;simp[go_sem, hr, hy, hi1, hi2, hi3, hpos])|(apply Yh;clear Yh Y)))))
         (refine qX (dB true) (.inl ⟨rfl,rfl⟩) ?_ rfl ?_;(intro hc args ha;simp[go_sem] at ha;subst ha;exact C1);simp[go_sem, hr, hy, hi1, hi2, hi3, hpos, hlb];((repeat' (first|(refine qH ?_;simp[go_sem, hr, hy, hi1, hi2, hi3, hpos, hlb])|(refine qo fun Y Yh=>?_;simp[go_sem, hr, hy, hi1, hi2, hi3, hpos, hlb])|(refine qC fun Y Yh=>?_;simp[go_sem, hr, hy, hi1, hi2, hi3, hpos, hlb])|apply And.intro|(apply Yh;clear Yh Y)));all_goals first|omega|skip))
         (refine qX (dB qb) (.inl ⟨rfl,rfl⟩) ?_ rfl ?_;(intro hc args ha;simp[go_sem] at ha;subst ha;exact Q1);simp[go_sem, hr, hy, hi1, hi2, hi3, hpos, hlb];((repeat' (first|refine qy ?_|(refine qo fun Y Yh=>?_;simp[go_sem, hr, hy, hi1, hi2, hi3, hpos, hlb])|(apply Yh;clear Yh Y)));all_goals apply Xi))
         cases qb with
         | false =>
          have hF := hbad1 (by rw [hst1]; simp)
          (refine qg fun T F hT hF=>?_;simp[go_sem];refine hT ?_;clear hT hF T F)
          (refine qc fun Y Yh=>?_;simp[go_sem];apply Yh;clear Yh Y;apply Xi)
          (refine qi ?_;simp[go_sem, hF, h1, h2])
         | true =>
          have hT : nt (j + 1 + 1) = true := by rw [hst1]; simp
          (refine qg fun T F hT hF=>?_;simp[go_sem];refine hF ?_;clear hT hF T F)
          refine qh ?_
          refine hK6 _ ?_; clear hK6
          (refine qB fun Y Yh=>?_;simp[go_sem];((repeat' (first|apply And.intro|(apply Yh;clear Yh Y)));all_goals first|apply Xi|omega))
          refine ⟨j + 1 + 1, ?_, ⟨by omega, hT⟩, by omega⟩
          (refine ql ?_ ?_ <;> simp[go_sem])
    ·refine qp ?_
     simp only [go_sem]
     refine hK3 _ ?_; clear hK3
     have : i = P.length := by omega
     subst this
     rw [hn]
     (refine qc fun Y Yh=>?_;simp[go_sem];apply Yh;clear Yh Y;apply Xi)
     (refine qi ?_;simp[go_sem, h1, h2])
  ·have h2' : ¬ (N.length : Int) = P.length := by omega
   (refine qc fun Y Yh=>?_;simp[go_sem, h1', h2, h2'];((repeat' (first|(refine qG ?_ ?_ ?_;(focus (simp[go_sem, undef, h1', h2, h2'];done));(focus (simp[go_sem];done));simp[go_sem, h1', h2, h2'])|(refine qH ?_;simp[go_sem, undef, h1', h2, h2'])|(apply Yh;clear Yh Y)));all_goals apply Xi))
   (refine qg fun T F hT hF=>?_;simp[go_sem, h1', h2, h2'];refine hT ?_;clear hT hF T F)
   (refine qc fun Y Yh=>?_;simp[go_sem];apply Yh;clear Yh Y;apply Xi)
   (refine qi ?_;simp[go_sem, h1, h2])
 ·have h1' : (60 : Int) < P.length := by omega
  (refine qc fun Y Yh=>?_;simp[go_sem, h1', undef];((repeat' (first|(refine qG ?_ ?_ ?_;(focus (simp[go_sem, undef, h1', undef];done));(focus (simp[go_sem];done));simp[go_sem, h1', undef])|(apply Yh;clear Yh Y)));all_goals apply Xi))
  (refine qg fun T F hT hF=>?_;simp[go_sem, h1'];refine hT ?_;clear hT hF T F)
  (refine qc fun Y Yh=>?_;simp[go_sem];apply Yh;clear Yh Y;apply Xi)
  (refine qi ?_;simp[go_sem, h1])
set_option maxHeartbeats 8000000 in
theorem jG (L : Lck) (hL : LkOk L) : PCall Tryz.prog 58 [dLk L] fun r => r = dB (lockV L) := by 
 refine qw Tryz.func58 rfl rfl Tryz.ntmps58 (rs := [.tmp 2]) (tys := [4]) rfl rfl (by simp) ?_
 have hbad := fun n (h : pickTo L n = false) (hn : n ≤ L.1.length) => pickTo_bad h L.1.length hn
 have hst := pick_step L
 have hz : pickTo L 0 = true := rfl
 unfold lockV
 obtain ⟨P, N, W⟩ := L
 obtain ⟨hP, hN, hW, hP1, hN1, hW1⟩ := hL
 simp only at hP hN hW hP1 hN1 hW1 hbad hst hz ⊢
 generalize pickTo (P, N, W) = nt at *
 have W1 := kE W 8 hW hW1
 generalize needsV 8 W = wb at *
 (refine qc fun Y Yh=>?_;simp[go_sem];intro _;apply Yh;clear Yh Y;apply Xi)
 rename_i g1
 refine qf fun K1 hK1 => ?_
 by_cases h1 : P.length ≤ 60
 ·have h1' : ¬ (60 : Int) < P.length := by omega
  by_cases h2 : N.length = P.length
  ·have h2' : (N.length : Int) = P.length := by omega
   (refine qc fun Y Yh=>?_;simp[go_sem, h1', h2, h2'];((repeat' (refine qH ?_;simp[go_sem, h1', h2, h2']))))
   (refine qX (dB wb) (.inl ⟨rfl,rfl⟩) ?_ rfl ?_;(intro hc args ha;simp[go_sem] at ha;subst ha;exact W1);simp[go_sem, h1', h2, h2'];refine qH ?_;simp[go_sem, h1', h2, h2'];apply Yh;clear Yh Y;apply Xi)
   cases wb with
   | false =>
    (refine qg fun T F hT hF=>?_;simp[go_sem, h1', h2, h2'];refine hT ?_;clear hT hF T F)
    (refine qc fun Y Yh=>?_;simp[go_sem];apply Yh;clear Yh Y;apply Xi)
    (refine qi ?_;simp[go_sem, h1, h2])
   | true =>
    (refine qg fun T F hT hF=>?_;simp[go_sem, h1', h2, h2'];refine hF ?_;clear hT hF T F)
    refine qh ?_
    refine hK1 _ ?_; clear hK1
    refine qf fun K3 hK3 => ?_
    (refine qc fun Y Yh=>?_;simp[go_sem];apply Yh;clear Yh Y;apply Xi)
    refine qj ?_
    refine qx (σ := Nat) (fun i => ⟨[(1, .ptr 1 g1 0), (3, dI i)], [(1, g1, .box [dPs P, dNs N, dPs W])]⟩) (fun i => i ≤ P.length ∧ nt i = true) (fun i => P.length - i) 0 ?_ ?_ ?_
    ·(refine ql ?_ ?_ <;> simp[go_sem])
    ·exact ⟨by omega, hz⟩
    rintro i ⟨hi, hn⟩
    refine qf fun K4 hK4 => ?_
    (refine qc fun Y Yh=>?_;simp[go_sem];apply Yh;clear Yh Y;apply Xi)
    (refine qg fun T F hT hF=>?_;simp[go_sem];refine BR.intro (fun h5=>hT ?_) (fun h5=>hF ?_);all_goals clear hT hF T F;try simp at h5)
    ·refine qh ?_
     refine hK4 _ ?_; clear hK4
     obtain ⟨x, hx⟩ : ∃ x, P[i]? = some x := ⟨_, List.getElem?_eq_getElem (by omega)⟩
     obtain ⟨r, hr⟩ : ∃ r, N[i]? = some r := ⟨_, List.getElem?_eq_getElem (by omega)⟩
     have hb1 := hP1 x (List.mem_of_getElem? hx)
     have hb2 := hN1 r (List.mem_of_getElem? hr)
     have N1 := zT x.1 (by omega)
     have C1 := jT x.2 (by omega)
     have Q1 := kE r 6 hb2.1 hb2.2
     have hst1 := hst i x r hx hr
     rw [hn, Bool.true_and] at hst1
     have hbad1 := fun h => hbad (i + 1) h (by omega)
     generalize nameV x.1 = nb at *
     generalize (readV x.2).isSome = cb at *
     generalize needsV 6 r = qb at *
     refine qf fun K6 hK6 => ?_
     refine qj ?_
     (refine qc fun Y Yh=>?_;simp[go_sem, hx];intro _;apply Yh;clear Yh Y;apply Xi)
     cases nb with
     | false =>
      have hF := hbad1 (by rw [hst1]; simp)
      ((refine qE (.qs [0, 1] (.one 2 (.qs [3, 4] (.sk 5 (.sk 6 (.sk 7 (.sk 8 (.qs [9, 10] (.sk 11 (.sk 12 (.sk 13 (.sk 14 (.sk 16 (.sk 18 (.sk 19 (.sk 15 (.sk 17 (.sk 20 (.sk 21 (.sk 22 (.sk 23 (.sk 24 (.qs [25, 26] (.sk 27 (.sk 29 (.sk 28 (.sk 30 (.sk 31 (.sk 32 (.sk 33 (.qs [34] (.nil)))))))))))))))))))))))))))))))) (by kernel_rfl) ?_ ?_ ?_ ?_);kernel_rfl;exact (by decide +kernel);kernel_rfl;intro Y Yh;((repeat' (first|(refine qo fun Y Yh=>?_;simp[go_sem])|(refine qC fun Y Yh=>?_;simp[go_sem])|(apply Yh;clear Yh Y)))))
      ((try refine Xj ?_);refine qm (.inl ⟨rfl,rfl⟩) (by simp[go_sem]) ?_;intro args ha;simp[go_sem] at ha;subst ha;refine ⟨_, N1, ?_⟩;rintro _ rfl;simp[go_sem, undef];((repeat' (first|refine qy ?_|(refine qo fun Y Yh=>?_;simp[go_sem, undef])|(refine qC fun Y Yh=>?_;simp[go_sem, undef])|(apply Yh;clear Yh Y)));all_goals apply Xi))
      (refine qg fun T F hT hF=>?_;simp[go_sem];refine hT ?_;clear hT hF T F)
      (refine qc fun Y Yh=>?_;simp[go_sem];apply Yh;clear Yh Y;apply Xi)
      (refine qi ?_;simp[go_sem, hF, h1, h2])
     | true =>
      cases cb with
      | false =>
       have hF := hbad1 (by rw [hst1]; simp)
       ((refine qE (.qs [0, 1] (.one 2 (.qs [3, 4, 5, 6] (.one 7 (.qs [8, 9, 10] (.sk 11 (.sk 12 (.sk 13 (.sk 14 (.sk 16 (.sk 18 (.sk 19 (.sk 15 (.sk 17 (.sk 20 (.sk 21 (.sk 22 (.sk 23 (.sk 24 (.qs [25, 26] (.sk 27 (.sk 29 (.sk 28 (.sk 30 (.sk 31 (.sk 32 (.sk 33 (.qs [34] (.nil))))))))))))))))))))))))))))) (by kernel_rfl) ?_ ?_ ?_ ?_);kernel_rfl;exact (by decide +kernel);kernel_rfl;intro Y Yh;((repeat' (first|(refine qo fun Y Yh=>?_;simp[go_sem])|(refine qC fun Y Yh=>?_;simp[go_sem])|(apply Yh;clear Yh Y)))))
       ((try refine Xj ?_);refine qm (.inl ⟨rfl,rfl⟩) (by simp[go_sem]) ?_;intro args ha;simp[go_sem] at ha;subst ha;refine ⟨_, N1, ?_⟩;rintro _ rfl;simp[go_sem];((repeat' (first|(refine qH ?_;simp[go_sem])|(refine qo fun Y Yh=>?_;simp[go_sem])|(refine qC fun Y Yh=>?_;simp[go_sem])|(apply Yh;clear Yh Y)))))
       (refine qX (dB false) (.inl ⟨rfl,rfl⟩) ?_ rfl ?_;(intro hc args ha;simp[go_sem] at ha;subst ha;exact C1);simp[go_sem, undef];((repeat' (first|refine qy ?_|(refine qo fun Y Yh=>?_;simp[go_sem, undef])|(refine qC fun Y Yh=>?_;simp[go_sem, undef])|(apply Yh;clear Yh Y)));all_goals apply Xi))
       (refine qg fun T F hT hF=>?_;simp[go_sem];refine hT ?_;clear hT hF T F)
       (refine qc fun Y Yh=>?_;simp[go_sem];apply Yh;clear Yh Y;apply Xi)
       (refine qi ?_;simp[go_sem, hF, h1, h2])
      | true =>
       by_cases h0 : i = 0
       ·subst h0
        ((refine qE (.qs [0, 1] (.one 2 (.qs [3, 4, 5, 6] (.one 7 (.qs [8, 9, 10, 11, 12, 13] (.sk 14 (.sk 16 (.sk 18 (.sk 19 (.sk 15 (.sk 17 (.sk 20 (.sk 21 (.sk 22 (.sk 23 (.qs [24, 25, 26, 27, 29, 28, 30, 31] (.one 32 (.qs [33, 34] (.nil))))))))))))))))))) (by kernel_rfl) ?_ ?_ ?_ ?_);kernel_rfl;exact (by decide +kernel);kernel_rfl;intro Y Yh;((repeat' (first|(refine qo fun Y Yh=>?_;simp[go_sem, hr])|(refine qC fun Y Yh=>?_;simp[go_sem, hr])|(apply Yh;clear Yh Y)))))
        ((try refine Xj ?_);refine qm (.inl ⟨rfl,rfl⟩) (by simp[go_sem]) ?_;intro args ha;simp[go_sem] at ha;subst ha;refine ⟨_, N1, ?_⟩;rintro _ rfl;simp[go_sem, hr];((repeat' (first|(refine qH ?_;simp[go_sem, hr])|(refine qo fun Y Yh=>?_;simp[go_sem, hr])|(refine qC fun Y Yh=>?_;simp[go_sem, hr])|(apply Yh;clear Yh Y)))))
        (refine qX (dB true) (.inl ⟨rfl,rfl⟩) ?_ rfl ?_;(intro hc args ha;simp[go_sem] at ha;subst ha;exact C1);simp[go_sem, undef, hr];((repeat' (first|(refine qH ?_;simp[go_sem, undef, hr])|(refine qo fun Y Yh=>?_;simp[go_sem, undef, hr])|(refine qC fun Y Yh=>?_;simp[go_sem, undef, hr])|(apply Yh;clear Yh Y)))))
        (refine qX (dB qb) (.inl ⟨rfl,rfl⟩) ?_ rfl ?_;(intro hc args ha;simp[go_sem] at ha;subst ha;exact Q1);simp[go_sem, undef, hr];((repeat' (first|refine qy ?_|(refine qo fun Y Yh=>?_;simp[go_sem, undef, hr])|(apply Yh;clear Yh Y)));all_goals apply Xi))
        cases qb with
        | false =>
         have hF := hbad1 (by rw [hst1]; simp)
         (refine qg fun T F hT hF=>?_;simp[go_sem];refine hT ?_;clear hT hF T F)
         (refine qc fun Y Yh=>?_;simp[go_sem];apply Yh;clear Yh Y;apply Xi)
         (refine qi ?_;simp[go_sem, hF, h1, h2])
        | true =>
         have hT : nt 1 = true := by rw [hst1]; simp
         (refine qg fun T F hT hF=>?_;simp[go_sem];refine hF ?_;clear hT hF T F)
         refine qh ?_
         refine hK6 _ ?_; clear hK6
         (refine qB fun Y Yh=>?_;simp[go_sem];((repeat' (first|apply And.intro|(apply Yh;clear Yh Y)));all_goals first|apply Xi|omega))
         refine ⟨1, ?_, ⟨by omega, hT⟩, by omega⟩
         (refine ql ?_ ?_ <;> simp[go_sem])
       ·obtain ⟨j, rfl⟩ : ∃ j, i = j + 1 := ⟨i - 1, by omega⟩
        obtain ⟨y, hy⟩ : ∃ y, P[j]? = some y := ⟨_, List.getElem?_eq_getElem (by omega)⟩
        have hi1 : ((j : Int) + 1 - 1).toNat = j := by omega
        have hi2 : (j : Int) + 1 - 1 = j := by omega
        have hi3 : ((j : Int) + 1).toNat = j + 1 := by omega
        have hpos : (0 : Int) < (j : Int) + 1 := by omega
        simp only [Nat.add_sub_cancel, hy] at hst1
        have hm1 := hP1 y (List.mem_of_getElem? hy)
        generalize hlb : Op.bytesLess y.1 x.1 = lb at *
        cases lb with
        | false =>
         have hF := hbad1 (by rw [hst1]; simp)
         ((refine qE (.qs [0, 1] (.one 2 (.qs [3, 4, 5, 6] (.one 7 (.qs [8, 9, 10, 11, 12, 13, 14, 16, 18, 19, 15, 17, 20, 21, 22, 23, 24, 25, 26] (.sk 27 (.sk 29 (.sk 28 (.sk 30 (.sk 31 (.sk 32 (.sk 33 (.qs [34] (.nil)))))))))))))) (by kernel_rfl) ?_ ?_ ?_ ?_);kernel_rfl;exact (by decide +kernel);kernel_rfl;intro Y Yh;((repeat' (first|(refine qo fun Y Yh=>?_;simp[go_sem, hr, hy, hi1, hi2, hi3, hpos])|(refine qC fun Y Yh=>?_;simp[go_sem, hr, hy, hi1, hi2, hi3, hpos])|(apply Yh;clear Yh Y)))))
         ((try refine Xj ?_);refine qm (.inl ⟨rfl,rfl⟩) (by simp[go_sem]) ?_;intro args ha;simp[go_sem] at ha;subst ha;refine ⟨_, N1, ?_⟩;rintro _ rfl;simp[go_sem, hr, hy, hi1, hi2, hi3, hpos];((repeat' (first|(refine qH ?_;simp[go_sem, hr, hy, hi1, hi2, hi3, hpos])|(refine qo fun Y Yh=>?_;simp[go_sem, hr, hy, hi1, hi2, hi3, hpos])|(refine qC fun Y Yh=>?_;simp[go_sem, hr, hy, hi1, hi2, hi3, hpos])|(apply Yh;clear Yh Y)))))
         (refine qX (dB true) (.inl ⟨rfl,rfl⟩) ?_ rfl ?_;(intro hc args ha;simp[go_sem] at ha;subst ha;exact C1);simp[go_sem, undef, hr, hy, hi1, hi2, hi3, hpos, hlb];((repeat' (first|refine qy ?_|(refine qo fun Y Yh=>?_;simp[go_sem, undef, hr, hy, hi1, hi2, hi3, hpos, hlb])|(refine qC fun Y Yh=>?_;simp[go_sem, undef, hr, hy, hi1, hi2, hi3, hpos, hlb])|apply And.intro|(apply Yh;clear Yh Y)));all_goals first|apply Xi|omega))
         (refine qg fun T F hT hF=>?_;simp[go_sem];refine hT ?_;clear hT hF T F)
         (refine qc fun Y Yh=>?_;simp[go_sem];apply Yh;clear Yh Y;apply Xi)
         (refine qi ?_;simp[go_sem, hF, h1, h2])
        | true =>
         ((refine qE (.qs [0, 1] (.one 2 (.qs [3, 4, 5, 6] (.one 7 (.qs [8, 9, 10, 11, 12, 13, 14, 16, 18, 19, 15, 17, 20, 21, 22, 23, 24, 25, 26, 27, 29, 28, 30, 31] (.one 32 (.qs [33, 34] (.nil)))))))) (by kernel_rfl) ?_ ?_ ?_ ?_);kernel_rfl;exact (by decide +kernel);kernel_rfl;intro Y Yh;((repeat' (first|(refine qo fun Y Yh=>?_;simp[go_sem, hr, hy, hi1, hi2, hi3, hpos])|(refine qC fun Y Yh=>?_;simp[go_sem, hr, hy, hi1, hi2, hi3, hpos])|(apply Yh;clear Yh Y)))))
         ((try refine Xj ?_);refine qm (.inl ⟨rfl,rfl⟩) (by simp[go_sem]) ?_;intro args ha;simp[go_sem] at ha;subst ha;refine ⟨_, N1, ?_⟩;rintro _ rfl;simp[go_sem, hr, hy, hi1, hi2, hi3, hpos];((repeat' (first|(refine qH ?_;simp[go_sem, hr, hy, hi1, hi2, hi3, hpos])|(refine qo fun Y Yh=>?_;simp[go_sem, hr, hy, hi1, hi2, hi3, hpos])|(refine qC fun Y Yh=>?_;simp[go_sem, hr, hy, hi1, hi2, hi3, hpos])|(apply Yh;clear Yh Y)))))
         (refine qX (dB true) (.inl ⟨rfl,rfl⟩) ?_ rfl ?_;(intro hc args ha;simp[go_sem] at ha;subst ha;exact C1);simp[go_sem, hr, hy, hi1, hi2, hi3, hpos, hlb];((repeat' (first|(refine qH ?_;simp[go_sem, hr, hy, hi1, hi2, hi3, hpos, hlb])|(refine qo fun Y Yh=>?_;simp[go_sem, hr, hy, hi1, hi2, hi3, hpos, hlb])|(refine qC fun Y Yh=>?_;simp[go_sem, hr, hy, hi1, hi2, hi3, hpos, hlb])|apply And.intro|(apply Yh;clear Yh Y)));all_goals first|omega|skip))
         (refine qX (dB qb) (.inl ⟨rfl,rfl⟩) ?_ rfl ?_;(intro hc args ha;simp[go_sem] at ha;subst ha;exact Q1);simp[go_sem, hr, hy, hi1, hi2, hi3, hpos, hlb];((repeat' (first|refine qy ?_|(refine qo fun Y Yh=>?_;simp[go_sem, hr, hy, hi1, hi2, hi3, hpos, hlb])|(apply Yh;clear Yh Y)));all_goals apply Xi))
         cases qb with
         | false =>
          have hF := hbad1 (by rw [hst1]; simp)
          (refine qg fun T F hT hF=>?_;simp[go_sem];refine hT ?_;clear hT hF T F)
          (refine qc fun Y Yh=>?_;simp[go_sem];apply Yh;clear Yh Y;apply Xi)
          (refine qi ?_;simp[go_sem, hF, h1, h2])
         | true =>
          have hT : nt (j + 1 + 1) = true := by rw [hst1]; simp
          (refine qg fun T F hT hF=>?_;simp[go_sem];refine hF ?_;clear hT hF T F)
          refine qh ?_
          refine hK6 _ ?_; clear hK6
          (refine qB fun Y Yh=>?_;simp[go_sem];((repeat' (first|apply And.intro|(apply Yh;clear Yh Y)));all_goals first|apply Xi|omega))
          refine ⟨j + 1 + 1, ?_, ⟨by omega, hT⟩, by omega⟩
          (refine ql ?_ ?_ <;> simp[go_sem])
    ·refine qp ?_
     simp only [go_sem]
     refine hK3 _ ?_; clear hK3
     have : i = P.length := by omega
     subst this
     rw [hn]
     (refine qc fun Y Yh=>?_;simp[go_sem];apply Yh;clear Yh Y;apply Xi)
     (refine qi ?_;simp[go_sem, h1, h2])
  ·have h2' : ¬ (N.length : Int) = P.length := by omega
   (refine qc fun Y Yh=>?_;simp[go_sem, h1', h2, h2'];((repeat' (first|(refine qG ?_ ?_ ?_;(focus (simp[go_sem, undef, h1', h2, h2'];done));(focus (simp[go_sem];done));simp[go_sem, h1', h2, h2'])|(refine qH ?_;simp[go_sem, undef, h1', h2, h2'])|(apply Yh;clear Yh Y)));all_goals apply Xi))
   (refine qg fun T F hT hF=>?_;simp[go_sem, h1', h2, h2'];refine hT ?_;clear hT hF T F)
   (refine qc fun Y Yh=>?_;simp[go_sem];apply Yh;clear Yh Y;apply Xi)
   (refine qi ?_;simp[go_sem, h1, h2])
 ·have h1' : (60 : Int) < P.length := by omega
  (refine qc fun Y Yh=>?_;simp[go_sem, h1', undef];((repeat' (first|(refine qG ?_ ?_ ?_;(focus (simp[go_sem, undef, h1', undef];done));(focus (simp[go_sem];done));simp[go_sem, h1', undef])|(apply Yh;clear Yh Y)));all_goals apply Xi))
  (refine qg fun T F hT hF=>?_;simp[go_sem, h1'];refine hT ?_;clear hT hF T F)
  (refine qc fun Y Yh=>?_;simp[go_sem];apply Yh;clear Yh Y;apply Xi)
  (refine qi ?_;simp[go_sem, h1])
end Go.Proofs.YteekfnhhlcmcgaaGreatDoor
namespace Go.Eng
set_option linter.unusedSectionVars false
variable {P : Program} [HasGlob P] {n : Nat} {S : St} {Q : Exit → St → Prop}
end Go.Eng
namespace Go.Proofs.YteekfnhhlcmcgaaGreatDoor
open Go.Eng Go.Wh Go.Ver Go.RowKit Go.Lk
set_option maxRecDepth 20000
attribute [local irreducible] AG CallA CallT AWp PCall ACall AgC
theorem take_eq_step {α : Type} {a b : List α} {i : Nat} {x y : α} (hx : a[i]? = some x) (hy : b[i]? = some y) (h : a.take i = b.take i) : a.take (i + 1) = b.take (i + 1) ↔ x = y := by
 rw [List.take_add_one, List.take_add_one, hx, hy, h]
 simp
theorem take_ne {α : Type} {a b : List α} {i : Nat} {x y : α} (hx : a[i]? = some x) (hy : b[i]? = some y) (h : ¬ x = y) : ¬ a = b := fun q => by
 subst q; rw [hx] at hy; exact h (Option.some.inj hy)
theorem take_all {α : Type} {a b : List α} (hl : a.length = b.length) (h : a.take a.length = b.take a.length) : a = b := by
 rw [List.take_length, hl, List.take_length] at h; exact h
set_option maxHeartbeats 4000000 in
theorem jS (a b : List Prs) (ha : a.length ≤ 1000000) (hb : b.length ≤ 1000000) : PCall Tryz.prog 68 [dPs a, dPs b] fun r => r = dB (decide (a = b)) := by 
 refine qw Tryz.func68 rfl rfl Tryz.ntmps68 (rs := [.tmp 4]) (tys := [4]) rfl rfl (by simp) ?_
 (refine qc fun Y Yh=>?_;simp[go_sem];apply Yh;clear Yh Y;apply Xi)
 refine qf fun K1 hK1 => ?_
 (refine qc fun Y Yh=>?_;simp[go_sem];apply Yh;clear Yh Y;apply Xi)
 (refine qg fun T F hT hF=>?_;simp[go_sem];refine BR.intro (fun h2=>hT ?_) (fun h2=>hF ?_);all_goals clear hT hF T F;try simp at h2) 
 ·(refine qc fun Y Yh=>?_;simp[go_sem];apply Yh;clear Yh Y;apply Xi)
  have : ¬ a = b := fun q => h2 (by rw [q])
  (refine qi ?_;simp[go_sem, h2, this])
 ·have hl : a.length = b.length := by omega
  refine qh ?_
  refine hK1 _ ?_; clear hK1
  refine qf fun K3 hK3 => ?_
  (refine qc fun Y Yh=>?_;simp[go_sem];apply Yh;clear Yh Y;apply Xi)
  refine qj ?_
  refine qx (σ := Nat) (fun i => ⟨[(0, dPs a), (1, dPs b), (5, dI i)], []⟩) (fun i => i ≤ a.length ∧ a.take i = b.take i) (fun i => a.length - i) 0 ?_ ?_ ?_
  ·(refine ql ?_ ?_ <;> simp[go_sem])
  ·simp
  rintro i ⟨hi, ht⟩
  refine qf fun K4 hK4 => ?_
  (refine qc fun Y Yh=>?_;simp[go_sem];apply Yh;clear Yh Y;apply Xi)
  (refine qg fun T F hT hF=>?_;simp[go_sem];refine BR.intro (fun h5=>hT ?_) (fun h5=>hF ?_);all_goals clear hT hF T F;try simp at h5) 
  ·refine qh ?_
   refine hK4 _ ?_; clear hK4
   obtain ⟨x, hx⟩ : ∃ x, a[i]? = some x := ⟨_, List.getElem?_eq_getElem (by omega)⟩
   obtain ⟨y, hy⟩ : ∃ y, b[i]? = some y := ⟨_, List.getElem?_eq_getElem (by omega)⟩
   have hs := take_eq_step hx hy ht
   have hn := take_ne hx hy
   have hxy : (x = y) = (x.1 = y.1 ∧ x.2 = y.2) := by rw [Prod.ext_iff]
   refine qf fun K6 hK6 => ?_
   refine qj ?_
   ((refine qE (.qs [0, 1, 2, 4, 5, 6, 3, 7, 8] (.nil)) (by kernel_rfl) ?_ ?_ ?_ ?_);kernel_rfl;exact (by decide +kernel);kernel_rfl;intro Y Yh;((repeat' (first|refine qy ?_|(refine qo fun Y Yh=>?_;simp[go_sem, hx, hy])|(apply Yh;clear Yh Y)));all_goals apply Xi))
   (refine qg fun T F hT hF=>?_;simp[go_sem];refine BR.intro (fun h7=>hT ?_) (fun h7=>hF ?_);all_goals clear hT hF T F;try simp at h7) 
   ·have hne : ¬ a = b := hn (fun q => by subst q; simp at h7)
    (refine qc fun Y Yh=>?_;simp[go_sem];apply Yh;clear Yh Y;apply Xi)
    (refine qi ?_;simp[go_sem, hne])
   ·refine qh ?_
    refine hK6 _ ?_; clear hK6
    (refine qB fun Y Yh=>?_;simp[go_sem];((repeat' (first|apply And.intro|(apply Yh;clear Yh Y)));all_goals first|apply Xi|omega))
    refine ⟨i + 1, ?_, ⟨by omega, ?_⟩, by omega⟩
    ·(refine ql ?_ ?_ <;> simp[go_sem])
    ·exact hs.2 (Prod.ext h7.1 h7.2)
  ·refine qp ?_
   simp only [go_sem]
   refine hK3 _ ?_; clear hK3
   have : i = a.length := by omega
   subst this
   have := take_all hl ht
   (refine qc fun Y Yh=>?_;simp[go_sem];apply Yh;clear Yh Y;apply Xi)
   (refine qi ?_;simp[go_sem, h2, h5, this])
set_option maxHeartbeats 8000000 in
theorem vg (L M : Lck) (hL : LkOk L) (hM : LkOk M) : PCall Tryz.prog 28 [dLk L, dLk M] fun r => r = dB (decide (L = M)) := by 
 refine qw Tryz.func28 rfl rfl Tryz.ntmps28 (rs := [.tmp 4]) (tys := [4]) rfl rfl (by simp) ?_
 obtain ⟨P, N, W⟩ := L
 obtain ⟨P', N', W'⟩ := M
 obtain ⟨hP, hN, hW, hP1, hN1, hW1⟩ := hL
 obtain ⟨kP, kN, kW, kP1, kN1, kW1⟩ := hM
 simp only at hP hN hW hP1 hN1 hW1 kP kN kW kP1 kN1 kW1
 have AW := jS W W' hW kW
 simp only [Prod.mk.injEq]
 (refine qc fun Y Yh=>?_;simp[go_sem];intro _;intro _;apply Yh;clear Yh Y;apply Xi)
 rename_i g2 g3
 refine qf fun K1 hK1 => ?_
 by_cases h1 : P.length = P'.length
 ·by_cases h2 : N.length = N'.length
  ·(refine qc fun Y Yh=>?_;simp[go_sem, h1, h2];((repeat' (refine qH ?_;simp[go_sem, h1, h2]))))
   (refine qX (dB (decide (W = W'))) (.inl ⟨rfl,rfl⟩) ?_ rfl ?_;(intro hc args ha;simp[go_sem] at ha;subst ha;exact AW);simp[go_sem, h1, h2];refine qH ?_;simp[go_sem, h1, h2];apply Yh;clear Yh Y;apply Xi)
   by_cases h3 : W = W'
   ·subst h3
    (refine qg fun T F hT hF=>?_;simp[go_sem, h1, h2];refine hF ?_;clear hT hF T F)
    refine qh ?_
    refine hK1 _ ?_; clear hK1
    refine qf fun K3 hK3 => ?_
    (refine qc fun Y Yh=>?_;simp[go_sem];apply Yh;clear Yh Y;apply Xi)
    refine qj ?_
    refine qx (σ := Nat) (fun i => ⟨[(2, .ptr 2 g2 0), (3, .ptr 3 g3 0), (5, dI i)], [(2, g2, .box [dPs P, dNs N, dPs W]), (3, g3, .box [dPs P', dNs N', dPs W])]⟩) (fun i => i ≤ P.length ∧ P.take i = P'.take i) (fun i => P.length - i) 0 ?_ ?_ ?_
    ·(refine ql ?_ ?_ <;> simp[go_sem])
    ·simp
    rintro i ⟨hi, ht⟩
    refine qf fun K4 hK4 => ?_
    (refine qc fun Y Yh=>?_;simp[go_sem];apply Yh;clear Yh Y;apply Xi)
    (refine qg fun T F hT hF=>?_;simp[go_sem];refine BR.intro (fun h5=>hT ?_) (fun h5=>hF ?_);all_goals clear hT hF T F;try simp at h5) 
    ·refine qh ?_
     refine hK4 _ ?_; clear hK4
     obtain ⟨x, hx⟩ : ∃ x, P[i]? = some x := ⟨_, List.getElem?_eq_getElem (by omega)⟩
     obtain ⟨y, hy⟩ : ∃ y, P'[i]? = some y := ⟨_, List.getElem?_eq_getElem (by omega)⟩
     have hs := take_eq_step hx hy ht
     have hn := take_ne hx hy
     refine qf fun K6 hK6 => ?_
     refine qj ?_
     ((refine qE (.qs [0, 2, 5, 7, 1, 3, 4, 6, 8, 9, 10] (.nil)) (by kernel_rfl) ?_ ?_ ?_ ?_);kernel_rfl;exact (by decide +kernel);kernel_rfl;intro Y Yh;((repeat' (first|refine qy ?_|(refine qo fun Y Yh=>?_;simp[go_sem, hx, hy])|(apply Yh;clear Yh Y)));all_goals apply Xi))
     (refine qg fun T F hT hF=>?_;simp[go_sem];refine BR.intro (fun h7=>hT ?_) (fun h7=>hF ?_);all_goals clear hT hF T F;try simp at h7) 
     ·have hne : ¬ P = P' := hn (fun q => by subst q; simp at h7)
      (refine qc fun Y Yh=>?_;simp[go_sem];apply Yh;clear Yh Y;apply Xi)
      (refine qi ?_;simp[go_sem, hne])
     ·refine qh ?_
      refine hK6 _ ?_; clear hK6
      (refine qB fun Y Yh=>?_;simp[go_sem];((repeat' (first|apply And.intro|(apply Yh;clear Yh Y)));all_goals first|apply Xi|omega))
      refine ⟨i + 1, ?_, ⟨by omega, ?_⟩, by omega⟩
      ·(refine ql ?_ ?_ <;> simp[go_sem])
      ·exact hs.2 (Prod.ext h7.1 h7.2)
    ·refine qp ?_
     simp only [go_sem]
     refine hK3 _ ?_; clear hK3
     have : i = P.length := by omega
     subst this
     have hPP := take_all h1 ht
     refine qf fun K8 hK8 => ?_
     (refine qc fun Y Yh=>?_;simp[go_sem];apply Yh;clear Yh Y;apply Xi)
     refine qj ?_
     refine qx (σ := Nat) (fun i => ⟨[(2, .ptr 2 g2 0), (3, .ptr 3 g3 0), (6, dI i)], [(2, g2, .box [dPs P, dNs N, dPs W]), (3, g3, .box [dPs P', dNs N', dPs W])]⟩) (fun i => i ≤ N.length ∧ N.take i = N'.take i) (fun i => N.length - i) 0 ?_ ?_ ?_
     ·(refine ql ?_ ?_ <;> simp[go_sem])
     ·simp
     rintro i ⟨hi, ht⟩
     refine qf fun K9 hK9 => ?_
     (refine qc fun Y Yh=>?_;simp[go_sem];apply Yh;clear Yh Y;apply Xi)
     (refine qg fun T F hT hF=>?_;simp[go_sem];refine BR.intro (fun h10=>hT ?_) (fun h10=>hF ?_);all_goals clear hT hF T F;try simp at h10) 
     ·refine qh ?_
      refine hK9 _ ?_; clear hK9
      obtain ⟨x, hx⟩ : ∃ x, N[i]? = some x := ⟨_, List.getElem?_eq_getElem (by omega)⟩
      obtain ⟨y, hy⟩ : ∃ y, N'[i]? = some y := ⟨_, List.getElem?_eq_getElem (by omega)⟩
      have hs := take_eq_step hx hy ht
      have hn := take_ne hx hy
      have AL := jS x y (hN1 x (List.mem_of_getElem? hx)).1 (kN1 y (List.mem_of_getElem? hy)).1
      refine qf fun K11 hK11 => ?_
      refine qj ?_
      ((refine qE (.qs [0, 2, 5, 7, 1, 3, 4, 6, 8, 9] (.one 10 (.qs [11] (.nil)))) (by kernel_rfl) ?_ ?_ ?_ ?_);kernel_rfl;exact (by decide +kernel);kernel_rfl;intro Y Yh;((repeat' (first|(refine qo fun Y Yh=>?_;simp[go_sem, hx, hy])|(refine qC fun Y Yh=>?_;simp[go_sem, hx, hy])|(apply Yh;clear Yh Y)))))
      ((try refine Xj ?_);refine qm (.inl ⟨rfl,rfl⟩) (by simp[go_sem]) ?_;intro args ha;simp[go_sem] at ha;subst ha;refine ⟨_, AL, ?_⟩;rintro _ rfl;simp[go_sem];((repeat' (first|refine qy ?_|(refine qo fun Y Yh=>?_;simp[go_sem])|(apply Yh;clear Yh Y)));all_goals apply Xi))
      (refine qg fun T F hT hF=>?_;simp[go_sem];refine BR.intro (fun h12=>hT ?_) (fun h12=>hF ?_);all_goals clear hT hF T F;try simp at h12) 
      ·have hne := hn h12
       (refine qc fun Y Yh=>?_;simp[go_sem];apply Yh;clear Yh Y;apply Xi)
       (refine qi ?_;simp[go_sem, hne])
      ·refine qh ?_
       refine hK11 _ ?_; clear hK11
       (refine qB fun Y Yh=>?_;simp[go_sem];((repeat' (first|apply And.intro|(apply Yh;clear Yh Y)));all_goals first|apply Xi|omega))
       refine ⟨i + 1, ?_, ⟨by omega, hs.2 h12⟩, by omega⟩
       (refine ql ?_ ?_ <;> simp[go_sem])
     ·refine qp ?_
      simp only [go_sem]
      refine hK8 _ ?_; clear hK8
      have : i = N.length := by omega
      subst this
      have hNN := take_all h2 ht
      (refine qc fun Y Yh=>?_;simp[go_sem];apply Yh;clear Yh Y;apply Xi)
      (refine qi ?_;simp[go_sem, hPP, hNN])
   ·(refine qg fun T F hT hF=>?_;simp[go_sem, h1, h2, h3];refine hT ?_;clear hT hF T F)
    (refine qc fun Y Yh=>?_;simp[go_sem];apply Yh;clear Yh Y;apply Xi)
    (refine qi ?_;simp[go_sem, h3])
  ·have h2' : ¬ (N.length : Int) = N'.length := by omega
   have hne : ¬ N = N' := fun q => h2 (by rw [q])
   (refine qc fun Y Yh=>?_;simp[go_sem, h1, h2, h2'];((repeat' (first|(refine qG ?_ ?_ ?_;(focus (simp[go_sem, undef, h1, h2, h2'];done));(focus (simp[go_sem];done));simp[go_sem, h1, h2, h2'])|(refine qJ ?_ ?_;(focus (simp[go_sem, undef, h1, h2, h2'];done));simp[go_sem, h1, h2, h2'])|(apply Yh;clear Yh Y)));all_goals apply Xi))
   (refine qg fun T F hT hF=>?_;simp[go_sem];refine hT ?_;clear hT hF T F)
   (refine qc fun Y Yh=>?_;simp[go_sem];apply Yh;clear Yh Y;apply Xi)
   (refine qi ?_;simp[go_sem, hne])
 ·have h1' : ¬ (P.length : Int) = P'.length := by omega
  have hne : ¬ P = P' := fun q => h1 (by rw [q])
  (refine qc fun Y Yh=>?_;simp[go_sem, h1, h1'];((repeat' (first|(refine qG ?_ ?_ ?_;(focus (simp[go_sem, undef, h1, h1'];done));(focus (simp[go_sem];done));simp[go_sem, h1, h1'])|(apply Yh;clear Yh Y)));all_goals apply Xi))
  (refine qg fun T F hT hF=>?_;simp[go_sem];refine hT ?_;clear hT hF T F)
  (refine qc fun Y Yh=>?_;simp[go_sem];apply Yh;clear Yh Y;apply Xi)
  (refine qi ?_;simp[go_sem, hne])
set_option maxHeartbeats 4000000 in
theorem kz (l : List Prs) (hl : l.length ≤ 1000000) : PCall Tryz.prog 63 [dPs l] fun r => r = dPs l := by 
 refine qw Tryz.func63 rfl rfl Tryz.ntmps63 (rs := [.tmp 2]) (tys := [26]) rfl rfl (by simp) ?_
 (refine qc fun Y Yh=>?_;simp[go_sem];apply Yh;clear Yh Y;apply Xi)
 (refine qc fun Y Yh=>?_;simp[go_sem];apply Yh;clear Yh Y;apply Xi)
 refine qU 3 3 43 2 rfl fun g3 => ?_
 simp only [go_sem]
 refine qf fun K1 hK1 => ?_
 (refine qc fun Y Yh=>?_;simp[go_sem];apply Yh;clear Yh Y;apply Xi)
 refine qj ?_
 refine qx (σ := Nat × Nat) (fun x => ⟨[(0, dPs l), (3, .own 3 x.2), (4, dI x.1)], [(3, x.2, .row 43 2 ((l.take x.1).map cP))]⟩) (fun x => x.1 ≤ l.length) (fun x => l.length - x.1) (0, g3) ?_ ?_ ?_
 ·(refine ql ?_ ?_ <;> simp[go_sem])
 ·simp
 rintro ⟨i, g⟩ hi
 simp only at hi
 refine qf fun K2 hK2 => ?_
 (refine qc fun Y Yh=>?_;simp[go_sem];apply Yh;clear Yh Y;apply Xi)
 (refine qg fun T F hT hF=>?_;simp[go_sem];refine BR.intro (fun h3=>hT ?_) (fun h3=>hF ?_);all_goals clear hT hF T F;try simp at h3) 
 ·refine qh ?_
  refine hK2 _ ?_; clear hK2
  obtain ⟨x, hx⟩ : ∃ x, l[i]? = some x := ⟨_, List.getElem?_eq_getElem (by omega)⟩
  have htk : l.take (i + 1) = l.take i ++ [x] := by rw [List.take_add_one, hx]; rfl
  refine qf fun K4 hK4 => ?_
  refine qj ?_
  ((refine zA (.qs [0, 1, 2, 3, 4, 6, 7, 8, 9, 5, 10, 11] (.one 12 (.one 13 (.qs [14] (.nil))))) (by kernel_rfl) ?_ ?_ ?_ ?_);kernel_rfl;exact (by decide +kernel);kernel_rfl;intro Y Yh;((repeat' (first|refine qy ?_|(refine qo fun Y Yh=>?_;simp[go_sem, hx])|(refine qC fun Y Yh=>?_;simp[go_sem, hx])|intro _|apply And.intro|(apply Yh;clear Yh Y)));all_goals first|apply Xi|omega))
  refine hK4 _ ?_; clear hK4
  rename_i g' _
  refine zk 3 3 rfl rfl (by decide) fun g'' => ?_
  simp only [go_sem]
  (refine qB fun Y Yh=>?_;simp[go_sem];((repeat' (first|apply And.intro|(apply Yh;clear Yh Y)));all_goals first|apply Xi|omega))
  refine ⟨(i + 1, g''), ?_, by simp only; omega, by simp only; omega⟩
  simp only [htk]
  (refine ql ?_ ?_ <;> simp[go_sem])
 ·refine qp ?_
  simp only [go_sem]
  refine hK1 _ ?_; clear hK1
  have : i = l.length := by omega
  subst this
  (refine qc fun Y Yh=>?_;simp[go_sem];apply Yh;clear Yh Y;apply Xi)
  refine qQ 2 rfl rfl ?_
  simp only [go_sem]
  have htl : List.take l.length (l.map cP) = l.map cP := by
   conv => lhs; rw [← List.length_map (f := cP)]
   exact List.take_length
  (refine qi ?_;simp[go_sem, htl])
theorem take_map_len {α β : Type} (f : α → β) (l : List α) : List.take l.length (l.map f) = l.map f := by
 conv => lhs; rw [← List.length_map (f := f)]
 exact List.take_length
theorem map_take_snoc {α β : Type} (f : α → β) {l : List α} {i : Nat} {x : α} (hx : l[i]? = some x) : (l.take (i + 1)).map f = (l.take i).map f ++ [f x] := by
 rw [List.take_add_one, hx]; simp
set_option maxHeartbeats 8000000 in
theorem Ql (L : Lck) (hL : LkOk L) : PCall Tryz.prog 25 [dLk L] fun r => r = dLk L := by 
 refine qw Tryz.func25 rfl rfl Tryz.ntmps25 (rs := [.cell 2 61]) (tys := [61]) rfl rfl (by simp) ?_
 obtain ⟨P, N, W⟩ := L
 obtain ⟨hP, hN, hW, hP1, hN1, hW1⟩ := hL
 simp only at hP hN hW hP1 hN1 hW1
 have NW := kz W hW
 (refine qc fun Y Yh=>?_;simp[go_sem];intro _;intro _;apply Yh;clear Yh Y;apply Xi)
 (refine qc fun Y Yh=>?_;simp[go_sem];intro _;apply Yh;clear Yh Y;apply Xi)
 rename_i g1 g2 g3
 refine zo 900003 95 2 0 (sb := 3) rfl rfl (by decide) fun gp0 => ?_
 refine zo 900004 26 1 1 (sb := 3) rfl rfl (by decide) fun gn0 => ?_
 simp only [List.set, go_sem]
 refine qf fun K1 hK1 => ?_
 (refine qc fun Y Yh=>?_;simp[go_sem];apply Yh;clear Yh Y;apply Xi)
 refine qj ?_
 refine qx (σ := Nat × Nat) (fun x => ⟨[(1, .ptr 1 g1 0), (2, .ptr 2 g2 0), (3, .ptr 3 g3 0), (4, dI x.1)], [(1, g1, .box [dPs P, dNs N, dPs W]), (2, g2, .box [.v (.slice none 0 0), .v (.slice none 0 0), .v (.slice none 0 0)]), (3, g3, .box [.own 900003 x.2, .own 900004 gn0, .v (.slice none 0 0)]), (900003, x.2, .row 95 2 ((P.take x.1).map cP)), (900004, gn0, .row 26 1 [])]⟩) (fun x => x.1 ≤ P.length) (fun x => P.length - x.1) (0, gp0) ?_ ?_ ?_
 ·(refine ql ?_ ?_ <;> simp[go_sem])
 ·simp
 rintro ⟨i, g⟩ hi
 simp only at hi
 refine qf fun K2 hK2 => ?_
 (refine qc fun Y Yh=>?_;simp[go_sem];apply Yh;clear Yh Y;apply Xi)
 (refine qg fun T F hT hF=>?_;simp[go_sem];refine BR.intro (fun h3=>hT ?_) (fun h3=>hF ?_);all_goals clear hT hF T F;try simp at h3) 
 ·refine qh ?_
  refine hK2 _ ?_; clear hK2
  obtain ⟨x, hx⟩ : ∃ x, P[i]? = some x := ⟨_, List.getElem?_eq_getElem (by omega)⟩
  have htk := map_take_snoc cP hx
  refine qf fun K4 hK4 => ?_
  refine qj ?_
  ((refine zA (.qs [0, 2, 4, 8, 10, 1, 3, 5, 6, 7, 9, 11, 12, 13, 14] (.kp 15 (.one 16 (.qs [17] (.one 18 (.nil)))))) (by kernel_rfl) ?_ ?_ ?_ ?_);kernel_rfl;exact (by decide +kernel);kernel_rfl;intro Y Yh;((repeat' (first|refine qy ?_|(refine qo fun Y Yh=>?_;simp[go_sem, hx])|(refine qC fun Y Yh=>?_;simp[go_sem, hx])|intro _|apply And.intro|(apply Yh;clear Yh Y)));all_goals first|apply Xi|omega))
  refine hK4 _ ?_; clear hK4
  (refine qB fun Y Yh=>?_;simp[go_sem];((repeat' (first|apply And.intro|(apply Yh;clear Yh Y)));all_goals first|apply Xi|omega))
  rename_i g' g''
  refine ⟨(i + 1, g''), ?_, by simp only; omega, by simp only; omega⟩
  simp only [htk]
  (refine ql ?_ ?_ <;> simp[go_sem])
 ·refine qp ?_
  simp only [go_sem]
  refine hK1 _ ?_; clear hK1
  have : i = P.length := by omega
  subst this
  refine qf fun K5 hK5 => ?_
  (refine qc fun Y Yh=>?_;simp[go_sem];apply Yh;clear Yh Y;apply Xi)
  refine qj ?_
  refine qx (σ := Nat × Nat) (fun x => ⟨[(1, .ptr 1 g1 0), (2, .ptr 2 g2 0), (3, .ptr 3 g3 0), (5, dI x.1)], [(1, g1, .box [dPs P, dNs N, dPs W]), (2, g2, .box [.v (.slice none 0 0), .v (.slice none 0 0), .v (.slice none 0 0)]), (3, g3, .box [.own 900003 g, .own 900004 x.2, .v (.slice none 0 0)]), (900003, g, .row 95 2 (P.map cP)), (900004, x.2, .row 26 1 ((N.take x.1).map fun n => [dPs n]))]⟩) (fun x => x.1 ≤ N.length) (fun x => N.length - x.1) (0, gn0) ?_ ?_ ?_
  ·(refine ql ?_ ?_ <;> simp[go_sem, take_map_len])
  ·simp
  rintro ⟨i, gn⟩ hi
  simp only at hi
  refine qf fun K6 hK6 => ?_
  (refine qc fun Y Yh=>?_;simp[go_sem];apply Yh;clear Yh Y;apply Xi)
  (refine qg fun T F hT hF=>?_;simp[go_sem];refine BR.intro (fun h7=>hT ?_) (fun h7=>hF ?_);all_goals clear hT hF T F;try simp at h7) 
  ·refine qh ?_
   refine hK6 _ ?_; clear hK6
   obtain ⟨x, hx⟩ : ∃ x, N[i]? = some x := ⟨_, List.getElem?_eq_getElem (by omega)⟩
   have htk := map_take_snoc (fun n => [dPs n]) hx
   have NX := kz x (hN1 x (List.mem_of_getElem? hx)).1
   refine qf fun K8 hK8 => ?_
   refine qj ?_
   ((refine zA (.qs [0, 2, 4, 1, 3, 5, 6] (.kp 7 (.kp 8 (.one 9 (.qs [10] (.one 11 (.nil))))))) (by kernel_rfl) ?_ ?_ ?_ ?_);kernel_rfl;exact (by decide +kernel);kernel_rfl;intro Y Yh;((repeat' (first|(refine qo fun Y Yh=>?_;simp[go_sem, hx])|(refine qC fun Y Yh=>?_;simp[go_sem, hx])|(apply Yh;clear Yh Y)))))
   ((try refine Xj ?_);refine qm (.inl ⟨rfl,rfl⟩) (by simp[go_sem]) ?_;intro args ha;simp[go_sem] at ha;subst ha;refine ⟨_, NX, ?_⟩;rintro _ rfl;simp[go_sem];((repeat' (first|refine qy ?_|(refine qo fun Y Yh=>?_;simp[go_sem])|(refine qC fun Y Yh=>?_;simp[go_sem])|intro _|apply And.intro|(apply Yh;clear Yh Y)));all_goals first|apply Xi|omega))
   refine hK8 _ ?_; clear hK8
   (refine qB fun Y Yh=>?_;simp[go_sem];((repeat' (first|apply And.intro|(apply Yh;clear Yh Y)));all_goals first|apply Xi|omega))
   rename_i g' g''
   refine ⟨(i + 1, g''), ?_, by simp only; omega, by simp only; omega⟩
   simp only [htk]
   (refine ql ?_ ?_ <;> simp[go_sem])
  ·refine qp ?_
   simp only [go_sem]
   refine hK5 _ ?_; clear hK5
   have : i = N.length := by omega
   subst this
   (refine qc fun Y Yh=>?_;simp[go_sem])
   ((try refine Xj ?_);refine qm (.inl ⟨rfl,rfl⟩) (by simp[go_sem]) ?_;intro args ha;simp[go_sem] at ha;subst ha;refine ⟨_, NW, ?_⟩;rintro _ rfl;simp[go_sem];apply Yh;clear Yh Y;apply Xi)
   refine zq 900003 3 0 rfl rfl (by decide) rfl ?_
   simp only [go_sem, List.set]
   refine zq 900004 3 1 rfl rfl (by decide) rfl ?_
   simp only [go_sem, List.set]
   (refine qc fun Y Yh=>?_;simp[go_sem];apply Yh;clear Yh Y;apply Xi)
   (refine qi ?_;simp[go_sem, take_map_len])
end Go.Proofs.YteekfnhhlcmcgaaGreatDoor
namespace Go.Lk
open Go.Lib Go.Wh Go.Ver
/-! a whole text: its lines, where they begin, what reading all of them gives -/
def goL : PS → Nat → List Bs → Option PS × Nat
 | p, i, [] => (some p, i)
 | p, i, [l] => if l = [] then (some p, i) else (none, i + 1)
 | p, i, l :: m :: r => match lineV p l with
  | some q => goL q (i + 1) (m :: r)
  | none => (none, i + 1)
abbrev lk0 : Lck := ([], [], [])
structure SzOk (p : PS) (k m : Nat) : Prop where
 nl : p.needs.length = p.picks.length
 pl : p.picks.length ≤ k
 wl : p.wish.length ≤ k
 rl : ∀ r ∈ p.needs, r.length ≤ k
 ps : ∀ x ∈ p.picks, x.1.length ≤ m ∧ x.2.length ≤ m
 ns : ∀ r ∈ p.needs, ∀ x ∈ r, x.1.length ≤ m ∧ x.2.length ≤ m
 ws : ∀ x ∈ p.wish, x.1.length ≤ m ∧ x.2.length ≤ m
theorem cut_len (s sep : Bs) : (cut s sep).1.length ≤ s.length ∧ (cut s sep).2.1.length ≤ s.length := by
 rcases cut_cases s sep with ⟨a, r, h1, h2⟩ | ⟨h1, _⟩
 ·rw [h1]
  have := congrArg List.length h2
  simp at this
  simp; omega
 ·rw [h1]; simp
/-! a lock's text -/
def wantL (ind : Bs) (n : Prs) : Bs := if n.2 = [] then ind ++ (n.1 ++ [10]) else ind ++ (n.1 ++ ([32, 40] ++ (n.2 ++ [41, 10])))
def pickL (p : Prs) : Bs := [32, 32] ++ (p.1 ++ ([32, 40] ++ (p.2 ++ [41, 10])))
def gemsH : Bs := [71, 69, 77, 83, 10]
def wishH : Bs := [10, 87, 73, 83, 72, 10]
def ndsT (ind : Bs) (l : List Prs) (k : Nat) : Bs := (l.take k).flatMap (wantL ind)
def pksT (L : Lck) : Nat → Bs
 | 0 => gemsH
 | i + 1 => pksT L i ++ (pickL (L.1.getD i ([], [])) ++ ndsT pre4 (L.2.1.getD i []) (L.2.1.getD i []).length)
def headT (L : Lck) : Bs := pksT L L.1.length ++ (wishH ++ (ndsT pre2 L.2.2 L.2.2.length ++ [10]))
def textV (L : Lck) : Bs := headT L ++ (preSum ++ (itoa (sumV (headT L) (headT L).length : Nat) ++ [10]))
theorem zD {L : Lck} (h : lockV L = true) : L.1.length ≤ 60 ∧ L.2.1.length = L.1.length ∧ needsV 8 L.2.2 = true ∧ pickTo L L.1.length = true := by
 unfold lockV at h
 simp only [Bool.and_eq_true, decide_eq_true_eq] at h
 exact ⟨h.1.1.1, h.1.1.2, h.1.2, h.2⟩
theorem pickTo_at {L : Lck} : ∀ {n i : Nat}, pickTo L n = true → i < n → pickAt L i = true
 | 0, i, _, h => absurd h (by omega)
 | n + 1, i, h, hi => by
  rw [pickTo, Bool.and_eq_true] at h
  by_cases e : i = n
  ·subst e; exact h.2
  ·exact pickTo_at h.1 (by omega)
theorem needTo_at {l : List Prs} : ∀ {n i : Nat}, needTo l n = true → i < n → needAt l i = true
 | 0, i, _, h => absurd h (by omega)
 | n + 1, i, h, hi => by
  rw [needTo, Bool.and_eq_true] at h
  by_cases e : i = n
  ·subst e; exact h.2
  ·exact needTo_at h.1 (by omega)
theorem vG {L : Lck} (h : lockV L = true) {i : Nat} {x : Prs} {r : List Prs} (hx : L.1[i]? = some x) (hr : L.2.1[i]? = some r) : nameV x.1 = true ∧ (readV x.2).isSome = true ∧ needsV 6 r = true := by
 obtain ⟨_, _, _, h4⟩ := zD h
 have := pickTo_at h4 (List.getElem?_eq_some_iff.1 hx).1
 unfold pickAt at this
 rw [hx] at this
 have e2 : L.2.1.getD i [] = r := by simp [List.getD, hr]
 simp only [e2, Bool.and_eq_true] at this
 exact ⟨this.1.1.1, this.1.1.2, this.2⟩
theorem vC {m : Nat} {l : List Prs} (h : needsV m l = true) : l.length ≤ m := by
 unfold needsV at h; simp at h; exact h.2
/-! a lock's text is read as the lock -/
theorem jR {v : Bs} (h : (readV v).isSome = true) : v ≠ [] := fun q => by
 subst q
 have : readV [] = none := by decide
 rw [this] at h; cases h
theorem name_nm {g : Bs} (h : nameV g = true) : g ≠ [] ∧ g.all nmC = true ∧ g.length ≤ 20 := by
 cases g with
 | nil => simp [nameV] at h
 | cons c r =>
  simp only [nameV, Bool.and_eq_true, decide_eq_true_eq] at h
  refine ⟨by simp, ?_, by simp; omega⟩
  simp only [List.all_cons, Bool.and_eq_true]
  refine ⟨?_, h.1.2⟩
  unfold nmC; simp [h.1.1]
def Reads (p : PS) (t : Bs) (q : PS) : Prop := ∀ i s, ∃ j, goL p i (dots 10 (t ++ s)) = goL q j (dots 10 s)
theorem Reads.nil (p : PS) : Reads p [] p := fun i s => ⟨i, rfl⟩
theorem Reads.trans {p q r : PS} {t u : Bs} (h : Reads p t q) (k : Reads q u r) : Reads p (t ++ u) r := fun i s => by
 obtain ⟨j, hj⟩ := h i (u ++ s)
 obtain ⟨m, hm⟩ := k j s
 exact ⟨m, by rw [List.append_assoc, hj, hm]⟩
theorem Reads.line {p q : PS} {l : Bs} (h : 10 ∉ l) (hq : lineV p l = some q) : Reads p (l ++ [10]) q := fun i s => by
 refine ⟨i + 1, ?_⟩
 rw [List.append_assoc, show ([10] : Bs) ++ s = 10 :: s from rfl, dots_app _ h]
 obtain ⟨m, r, hm⟩ : ∃ m r, dots 10 s = m :: r := by
  cases hd : dots 10 s with
  | nil => exact absurd hd (dots_ne 10 s)
  | cons m r => exact ⟨m, r, rfl⟩
 rw [hm]
 conv => lhs; unfold goL
 rw [hq]
theorem kJ {m : Nat} {l : List Prs} (h : needsV m l = true) : ∀ n ∈ l, nameV n.1 = true ∧ (condsV n.2).isSome = true := fun n hn => by
 unfold needsV at h
 rw [Bool.and_eq_true] at h
 obtain ⟨i, hi⟩ := List.getElem?_of_mem hn
 have := needTo_at h.1 (List.getElem?_eq_some_iff.1 hi).1
 unfold needAt at this
 rw [hi] at this
 simp only [Bool.and_eq_true] at this
 exact this.1
/-! sources: gems, versions, needs -/
abbrev Vrs := Bs × List Prs
abbrev Gm := Bs × List Vrs
abbrev Src := List Gm
def upTo (f : Nat → Bool) : Nat → Bool
 | 0 => true
 | n + 1 => upTo f n && f n
theorem upTo_bad {f : Nat → Bool} {n : Nat} (h : upTo f n = false) : ∀ m, n ≤ m → upTo f m = false
 | 0, hm => by
  have : n = 0 := by omega
  subst this; exact h
 | m + 1, hm => by
  by_cases e : n = m + 1
  ·subst e; exact h
  ·rw [upTo, upTo_bad h m (by omega)]; rfl
theorem upTo_at {f : Nat → Bool} : ∀ {n i : Nat}, upTo f n = true → i < n → f i = true
 | 0, i, _, h => absurd h (by omega)
 | n + 1, i, h, hi => by
  rw [upTo, Bool.and_eq_true] at h
  by_cases e : i = n
  ·subst e; exact h.2
  ·exact upTo_at h.1 (by omega)
theorem upTo_of {f : Nat → Bool} : ∀ {n : Nat}, (∀ i, i < n → f i = true) → upTo f n = true
 | 0, _ => rfl
 | n + 1, h => by rw [upTo, upTo_of (fun i hi => h i (by omega)), h n (by omega)]; rfl
theorem upTo_step {f : Nat → Bool} {n : Nat} (h : upTo f n = true) : upTo f (n + 1) = f n := by rw [upTo, h]; rfl
def apartAt (l : List Prs) (x : Prs) (k : Nat) : Bool := match l[k]? with
 | some y => decide (y.1 ≠ x.1)
 | none => true
def nuAt (l : List Prs) (i : Nat) : Bool := match l[i]? with
 | some x => nameV x.1 && (condsV x.2).isSome && upTo (apartAt l x) i
 | none => true
def nuV (most : Nat) (l : List Prs) : Bool := decide (l.length ≤ most) && upTo (nuAt l) l.length
theorem apart_step {l : List Prs} {x y : Prs} {k : Nat} (h : l[k]? = some y) (ht : upTo (apartAt l x) k = true) : upTo (apartAt l x) (k + 1) = decide (y.1 ≠ x.1) := by
 rw [upTo_step ht]; unfold apartAt; rw [h]
theorem nu_step {l : List Prs} {x : Prs} {i : Nat} (h : l[i]? = some x) (ht : upTo (nuAt l) i = true) : upTo (nuAt l) (i + 1) = (nameV x.1 && (condsV x.2).isSome && upTo (apartAt l x) i) := by
 rw [upTo_step ht]; unfold nuAt; rw [h]
def rankAt (l : List Vrs) (x : Vrs) (k : Nat) : Bool := match l[k]? with
 | some y => decide (compareP y.1 x.1 ≠ 0)
 | none => true
def vuAt (l : List Vrs) (i : Nat) : Bool := match l[i]? with
 | some x => (readV x.1).isSome && nuV 6 x.2 && upTo (rankAt l x) i
 | none => true
def vuV (l : List Vrs) : Bool := decide (l.length ≤ 12) && upTo (vuAt l) l.length
theorem rank_step {l : List Vrs} {x y : Vrs} {k : Nat} (h : l[k]? = some y) (ht : upTo (rankAt l x) k = true) : upTo (rankAt l x) (k + 1) = decide (compareP y.1 x.1 ≠ 0) := by
 rw [upTo_step ht]; unfold rankAt; rw [h]
theorem vu_step {l : List Vrs} {x : Vrs} {i : Nat} (h : l[i]? = some x) (ht : upTo (vuAt l) i = true) : upTo (vuAt l) (i + 1) = ((readV x.1).isSome && nuV 6 x.2 && upTo (rankAt l x) i) := by
 rw [upTo_step ht]; unfold vuAt; rw [h]
def suAt (s : Src) (i : Nat) : Bool := match s[i]? with
 | some g => nameV g.1 && (decide (i = 0) || (match s[i - 1]? with | some y => Op.bytesLess y.1 g.1 | none => true)) && vuV g.2
 | none => true
def suV (s : Src) : Bool := decide (s.length ≤ 15) && upTo (suAt s) s.length
theorem su_step {s : Src} {g : Gm} {i : Nat} (h : s[i]? = some g) (ht : upTo (suAt s) i = true) : upTo (suAt s) (i + 1) = (nameV g.1 && (decide (i = 0) || (match s[i - 1]? with | some y => Op.bytesLess y.1 g.1 | none => true)) && vuV g.2) := by
 rw [upTo_step ht]; unfold suAt; rw [h]
def chkV (s : Src) (w : List Prs) : Bool := suV s && nuV 8 w
/-! sizes -/
def Sz1 (x : Prs) : Prop := x.1.length ≤ 1000000 ∧ x.2.length ≤ 1000000
def SzN (l : List Prs) : Prop := l.length ≤ 1000000 ∧ ∀ x ∈ l, Sz1 x
def SzV (v : Vrs) : Prop := v.1.length ≤ 1000000 ∧ SzN v.2
def SzG (g : Gm) : Prop := g.1.length ≤ 1000000 ∧ g.2.length ≤ 1000000 ∧ ∀ v ∈ g.2, SzV v
def SzS (s : Src) : Prop := s.length ≤ 1000000 ∧ ∀ g ∈ s, SzG g
end Go.Lk
namespace Go.Proofs.YteekfnhhlcmcgaaGreatDoor
open Go.Eng Go.Wh Go.Ver Go.RowKit Go.Lk
set_option maxRecDepth 20000
attribute [local irreducible] AG CallA CallT AWp PCall ACall AgC
@[go_sem] abbrev cVr (v : Vrs) : List D := [dS v.1, dPs v.2]
@[go_sem] abbrev dVr (v : Vrs) : D := .agg [dS v.1, dPs v.2]
@[go_sem] abbrev dVrs (l : List Vrs) : D := .sl 2 (l.map cVr)
@[go_sem] abbrev cGm (g : Gm) : List D := [dS g.1, dVrs g.2]
@[go_sem] abbrev dGms (s : Src) : D := .sl 2 (s.map cGm)
@[go_sem] abbrev dSrc (s : Src) : D := .agg [dGms s]
theorem ZP (b : Bool) : codeP b = if b = true then 0 else 4 := rfl
set_option maxHeartbeats 8000000 in
theorem Qb (l : List Prs) (most : Nat) (hl : SzN l) (hm : most ≤ 1000000) : PCall Tryz.prog 107 [dPs l, dI most] fun r => r = dB (nuV most l) := by 
 refine qw Tryz.func107 rfl rfl Tryz.ntmps107 (rs := [.tmp 4]) (tys := [4]) rfl rfl (by simp) ?_
 obtain ⟨hl0, hl1⟩ := hl
 have hbad := fun n (h : upTo (nuAt l) n = false) (hn : n ≤ l.length) => upTo_bad h l.length hn
 have hst := fun i x => @nu_step l x i
 have hz : upTo (nuAt l) 0 = true := rfl
 unfold nuV
 generalize upTo (nuAt l) = nt at *
 (refine qc fun Y Yh=>?_;simp[go_sem];apply Yh;clear Yh Y;apply Xi)
 refine qf fun K1 hK1 => ?_
 (refine qc fun Y Yh=>?_;simp[go_sem];apply Yh;clear Yh Y;apply Xi)
 (refine qg fun T F hT hF=>?_;simp[go_sem];refine BR.intro (fun h2=>hT ?_) (fun h2=>hF ?_);all_goals clear hT hF T F;try simp at h2) 
 ·have : ¬ l.length ≤ most := by omega
  (refine qc fun Y Yh=>?_;simp[go_sem];apply Yh;clear Yh Y;apply Xi)
  (refine qi ?_;simp[go_sem, this])
 ·have hle : l.length ≤ most := by omega
  refine qh ?_
  refine hK1 _ ?_; clear hK1
  refine qf fun K3 hK3 => ?_
  (refine qc fun Y Yh=>?_;simp[go_sem];apply Yh;clear Yh Y;apply Xi)
  refine qj ?_
  refine qx (σ := Nat) (fun i => ⟨[(0, dPs l), (1, dI most), (5, dI i)], []⟩) (fun i => i ≤ l.length ∧ nt i = true) (fun i => l.length - i) 0 ?_ ?_ ?_
  ·(refine ql ?_ ?_ <;> simp[go_sem])
  ·exact ⟨by omega, hz⟩
  rintro i ⟨hi, hn⟩
  refine qf fun K4 hK4 => ?_
  (refine qc fun Y Yh=>?_;simp[go_sem];apply Yh;clear Yh Y;apply Xi)
  (refine qg fun T F hT hF=>?_;simp[go_sem];refine BR.intro (fun h5=>hT ?_) (fun h5=>hF ?_);all_goals clear hT hF T F;try simp at h5) 
  ·refine qh ?_
   refine hK4 _ ?_; clear hK4
   obtain ⟨x, hx⟩ : ∃ x, l[i]? = some x := ⟨_, List.getElem?_eq_getElem (by omega)⟩
   have hxl := hl1 x (List.mem_of_getElem? hx)
   obtain ⟨hx1, hx2⟩ := hxl
   have N1 := zT x.1 (by omega)
   have C1 := kG x.2 hx2
   rw [ZP] at C1
   have hst1 := hst i x hx hn
   have hbad1 := fun h => hbad (i + 1) h (by omega)
   have hap := fun k y => @apart_step l x y k
   have hap0 : upTo (apartAt l x) 0 = true := rfl
   have hapb := fun n (h : upTo (apartAt l x) n = false) (hn : n ≤ i) => upTo_bad h i hn
   generalize upTo (apartAt l x) = ap at *
   generalize nameV x.1 = nb at *
   generalize (condsV x.2).isSome = cb at *
   refine qf fun K6 hK6 => ?_
   refine qj ?_
   refine qf fun K7 hK7 => ?_
   (refine qc fun Y Yh=>?_;simp[go_sem, hx])
   ((try refine Xj ?_);refine qm (.inl ⟨rfl,rfl⟩) (by simp[go_sem]) ?_;intro args ha;simp[go_sem] at ha;subst ha;refine ⟨_, N1, ?_⟩;rintro _ rfl;simp[go_sem, hx];((repeat' (refine qH ?_;simp[go_sem, hx]))))
   (refine qX (dI (if cb = true then 0 else 4)) (.inl ⟨rfl,rfl⟩) ?_ rfl ?_;(intro hc args ha;simp[go_sem] at ha;subst ha;exact C1);simp[go_sem, hx];refine qH ?_;simp[go_sem, hx];apply Yh;clear Yh Y;apply Xi)
   cases nb with
   | false =>
    have hF := hbad1 (by rw [hst1]; simp)
    (refine qg fun T F hT hF=>?_;simp[go_sem];refine hT ?_;clear hT hF T F)
    (refine qc fun Y Yh=>?_;simp[go_sem];apply Yh;clear Yh Y;apply Xi)
    (refine qi ?_;simp[go_sem, hF])
   | true =>
    cases cb with
    | false =>
     have hF := hbad1 (by rw [hst1]; simp)
     (refine qg fun T F hT hF=>?_;simp[go_sem];refine hT ?_;clear hT hF T F)
     (refine qc fun Y Yh=>?_;simp[go_sem];apply Yh;clear Yh Y;apply Xi)
     (refine qi ?_;simp[go_sem, hF])
    | true =>
     (refine qg fun T F hT hF=>?_;simp[go_sem];refine hF ?_;clear hT hF T F)
     refine qh ?_
     refine hK7 _ ?_; clear hK7
     simp only [Bool.true_and] at hst1
     (refine qc fun Y Yh=>?_;simp[go_sem];apply Yh;clear Yh Y;apply Xi)
     refine qj ?_
     refine qx (σ := Nat) (fun k => ⟨[(0, dPs l), (1, dI most), (5, dI i), (6, dI k)], []⟩) (fun k => k ≤ i ∧ ap k = true) (fun k => i - k) 0 ?_ ?_ ?_
     ·(refine ql ?_ ?_ <;> simp[go_sem])
     ·exact ⟨by omega, hap0⟩
     rintro k ⟨hk, ha⟩
     refine qf fun K8 hK8 => ?_
     (refine qc fun Y Yh=>?_;simp[go_sem];apply Yh;clear Yh Y;apply Xi)
     (refine qg fun T F hT hF=>?_;simp[go_sem];refine BR.intro (fun h9=>hT ?_) (fun h9=>hF ?_);all_goals clear hT hF T F;try simp at h9) 
     ·refine qh ?_
      refine hK8 _ ?_; clear hK8
      obtain ⟨y, hy⟩ : ∃ y, l[k]? = some y := ⟨_, List.getElem?_eq_getElem (by omega)⟩
      have hap1 := hap k y hy ha
      refine qf fun K10 hK10 => ?_
      refine qj ?_
      ((refine qE (.qs [0, 1, 2, 3, 5, 6, 7, 8, 4, 9, 10] (.nil)) (by kernel_rfl) ?_ ?_ ?_ ?_);kernel_rfl;exact (by decide +kernel);kernel_rfl;intro Y Yh;((repeat' (first|refine qy ?_|(refine qo fun Y Yh=>?_;simp[go_sem, hx, hy])|(apply Yh;clear Yh Y)));all_goals apply Xi))
      (refine qg fun T F hT hF=>?_;simp[go_sem];refine BR.intro (fun h11=>hT ?_) (fun h11=>hF ?_);all_goals clear hT hF T F;try simp at h11) 
      ·have hF := hbad1 (by rw [hst1]; exact hapb (k + 1) (by rw [hap1]; simp [h11]) (by omega))
       (refine qc fun Y Yh=>?_;simp[go_sem];apply Yh;clear Yh Y;apply Xi)
       (refine qi ?_;simp[go_sem, hF])
      ·refine qh ?_
       refine hK10 _ ?_; clear hK10
       (refine qB fun Y Yh=>?_;simp[go_sem];((repeat' (first|apply And.intro|(apply Yh;clear Yh Y)));all_goals first|apply Xi|omega))
       refine ⟨k + 1, ?_, ⟨by omega, by rw [hap1]; simp [h11]⟩, by omega⟩
       (refine ql ?_ ?_ <;> simp[go_sem])
     ·refine qp ?_
      simp only [go_sem]
      have hki : k = i := by omega
      subst hki
      refine hK6 _ ?_; clear hK6
      (refine qB fun Y Yh=>?_;simp[go_sem];((repeat' (first|apply And.intro|(apply Yh;clear Yh Y)));all_goals first|apply Xi|omega))
      refine ⟨k + 1, ?_, ⟨by omega, by rw [hst1]; exact ha⟩, by omega⟩
      (refine ql ?_ ?_ <;> simp[go_sem])
  ·refine qp ?_
   simp only [go_sem]
   refine hK3 _ ?_; clear hK3
   have : i = l.length := by omega
   subst this
   (refine qc fun Y Yh=>?_;simp[go_sem];apply Yh;clear Yh Y;apply Xi)
   (refine qi ?_;simp[go_sem, hle, hn])
set_option maxHeartbeats 8000000 in
theorem xe (l : List Vrs) (hl : l.length ≤ 1000000) (hv : ∀ v ∈ l, SzV v) : PCall Tryz.prog 51 [dVrs l] fun r => r = dB (vuV l) := by 
 refine qw Tryz.func51 rfl rfl Tryz.ntmps51 (rs := [.tmp 2]) (tys := [4]) rfl rfl (by simp) ?_
 have hbad := fun n (h : upTo (vuAt l) n = false) (hn : n ≤ l.length) => upTo_bad h l.length hn
 have hst := fun i x => @vu_step l x i
 have hz : upTo (vuAt l) 0 = true := rfl
 unfold vuV
 generalize upTo (vuAt l) = nt at *
 (refine qc fun Y Yh=>?_;simp[go_sem];apply Yh;clear Yh Y;apply Xi)
 refine qf fun K1 hK1 => ?_
 (refine qc fun Y Yh=>?_;simp[go_sem];apply Yh;clear Yh Y;apply Xi)
 (refine qg fun T F hT hF=>?_;simp[go_sem];refine BR.intro (fun h2=>hT ?_) (fun h2=>hF ?_);all_goals clear hT hF T F;try simp at h2)
 ·have : ¬ l.length ≤ 12 := by omega
  (refine qc fun Y Yh=>?_;simp[go_sem];apply Yh;clear Yh Y;apply Xi)
  (refine qi ?_;simp[go_sem, this])
 ·have hle : l.length ≤ 12 := by omega
  refine qh ?_
  refine hK1 _ ?_; clear hK1
  refine qf fun K3 hK3 => ?_
  (refine qc fun Y Yh=>?_;simp[go_sem];apply Yh;clear Yh Y;apply Xi)
  refine qj ?_
  refine qx (σ := Nat) (fun i => ⟨[(0, dVrs l), (3, dI i)], []⟩) (fun i => i ≤ l.length ∧ nt i = true) (fun i => l.length - i) 0 ?_ ?_ ?_
  ·(refine ql ?_ ?_ <;> simp[go_sem])
  ·exact ⟨by omega, hz⟩
  rintro i ⟨hi, hn⟩
  refine qf fun K4 hK4 => ?_
  (refine qc fun Y Yh=>?_;simp[go_sem];apply Yh;clear Yh Y;apply Xi)
  (refine qg fun T F hT hF=>?_;simp[go_sem];refine BR.intro (fun h5=>hT ?_) (fun h5=>hF ?_);all_goals clear hT hF T F;try simp at h5)
  ·refine qh ?_
   refine hK4 _ ?_; clear hK4
   obtain ⟨x, hx⟩ : ∃ x, l[i]? = some x := ⟨_, List.getElem?_eq_getElem (by omega)⟩
   obtain ⟨hx1, hx2⟩ := hv x (List.mem_of_getElem? hx)
   have N1 := jT x.1 (by omega)
   have C1 := Qb x.2 6 hx2 (by decide)
   have hst1 := hst i x hx hn
   have hbad1 := fun h => hbad (i + 1) h (by omega)
   have hap := fun k y => @rank_step l x y k
   have hap0 : upTo (rankAt l x) 0 = true := rfl
   have hapb := fun n (h : upTo (rankAt l x) n = false) (hn : n ≤ i) => upTo_bad h i hn
   generalize upTo (rankAt l x) = ap at *
   generalize hnb : (readV x.1).isSome = nb at *
   generalize nuV 6 x.2 = cb at *
   refine qf fun K6 hK6 => ?_
   refine qj ?_
   refine qf fun K7 hK7 => ?_
   (refine qc fun Y Yh=>?_;simp[go_sem, hx])
   ((try refine Xj ?_);refine qm (.inl ⟨rfl,rfl⟩) (by simp[go_sem]) ?_;intro args ha;simp[go_sem] at ha;subst ha;refine ⟨_, N1, ?_⟩;rintro _ rfl;simp[go_sem, hx];((repeat' (refine qH ?_;simp[go_sem, hx]))))
   (refine qX (dB cb) (.inl ⟨rfl,rfl⟩) ?_ rfl ?_;(intro hc args ha;simp[go_sem] at ha;subst ha;exact C1);simp[go_sem, hx];refine qH ?_;simp[go_sem, hx];apply Yh;clear Yh Y;apply Xi)
   cases nb with
   | false =>
    have hF := hbad1 (by rw [hst1]; simp)
    (refine qg fun T F hT hF=>?_;simp[go_sem];refine hT ?_;clear hT hF T F)
    (refine qc fun Y Yh=>?_;simp[go_sem];apply Yh;clear Yh Y;apply Xi)
    (refine qi ?_;simp[go_sem, hF])
   | true =>
    cases cb with
    | false =>
     have hF := hbad1 (by rw [hst1]; simp)
     (refine qg fun T F hT hF=>?_;simp[go_sem];refine hT ?_;clear hT hF T F)
     (refine qc fun Y Yh=>?_;simp[go_sem];apply Yh;clear Yh Y;apply Xi)
     (refine qi ?_;simp[go_sem, hF])
    | true =>
     (refine qg fun T F hT hF=>?_;simp[go_sem];refine hF ?_;clear hT hF T F)
     refine qh ?_
     refine hK7 _ ?_; clear hK7
     simp only [Bool.true_and] at hst1
     (refine qc fun Y Yh=>?_;simp[go_sem];apply Yh;clear Yh Y;apply Xi)
     refine qj ?_
     refine qx (σ := Nat) (fun k => ⟨[(0, dVrs l), (3, dI i), (4, dI k)], []⟩) (fun k => k ≤ i ∧ ap k = true) (fun k => i - k) 0 ?_ ?_ ?_
     ·(refine ql ?_ ?_ <;> simp[go_sem])
     ·exact ⟨by omega, hap0⟩
     rintro k ⟨hk, ha⟩
     refine qf fun K8 hK8 => ?_
     (refine qc fun Y Yh=>?_;simp[go_sem];apply Yh;clear Yh Y;apply Xi)
     (refine qg fun T F hT hF=>?_;simp[go_sem];refine BR.intro (fun h9=>hT ?_) (fun h9=>hF ?_);all_goals clear hT hF T F;try simp at h9)
     ·refine qh ?_
      refine hK8 _ ?_; clear hK8
      obtain ⟨y, hy⟩ : ∃ y, l[k]? = some y := ⟨_, List.getElem?_eq_getElem (by omega)⟩
      have hap1 := hap k y hy ha
      have CM := xh y.1 x.1 (hv y (List.mem_of_getElem? hy)).1 hx1
      generalize codeP ((readV y.1).isSome && (readV x.1).isSome) = cc at *
      generalize compareP y.1 x.1 = cp at *
      refine qf fun K10 hK10 => ?_
      refine qj ?_
      ((refine qE (.qs [0, 1, 2, 3, 5, 6, 7, 8, 4, 9] (.one 10 (.qs [11, 12, 13, 14, 15] (.nil)))) (by kernel_rfl) ?_ ?_ ?_ ?_);kernel_rfl;exact (by decide +kernel);kernel_rfl;intro Y Yh;((repeat' (first|(refine qo fun Y Yh=>?_;simp[go_sem, hx, hy])|(refine qC fun Y Yh=>?_;simp[go_sem, hx, hy])|(apply Yh;clear Yh Y)))))
      ((try refine Xj ?_);refine qm (.inl ⟨rfl,rfl⟩) (by simp[go_sem]) ?_;intro args ha;simp[go_sem] at ha;subst ha;refine ⟨_, CM, ?_⟩;rintro _ rfl;simp[go_sem];((repeat' (first|refine qy ?_|(refine qo fun Y Yh=>?_;simp[go_sem])|(apply Yh;clear Yh Y)));all_goals apply Xi))
      (refine qc fun Y Yh=>?_;simp[go_sem];apply Yh;clear Yh Y;apply Xi)
      (refine qg fun T F hT hF=>?_;simp[go_sem];refine BR.intro (fun h11=>hT ?_) (fun h11=>hF ?_);all_goals clear hT hF T F;try simp at h11)
      ·have hF := hbad1 (by rw [hst1]; exact hapb (k + 1) (by rw [hap1]; simp [h11]) (by omega))
       (refine qc fun Y Yh=>?_;simp[go_sem];apply Yh;clear Yh Y;apply Xi)
       (refine qi ?_;simp[go_sem, hF])
      ·refine qh ?_
       refine hK10 _ ?_; clear hK10
       (refine qB fun Y Yh=>?_;simp[go_sem];((repeat' (first|apply And.intro|(apply Yh;clear Yh Y)));all_goals first|apply Xi|omega))
       refine ⟨k + 1, ?_, ⟨by omega, by rw [hap1]; simp [h11]⟩, by omega⟩
       (refine ql ?_ ?_ <;> simp[go_sem])
     ·refine qp ?_
      simp only [go_sem]
      have hki : k = i := by omega
      subst hki
      refine hK6 _ ?_; clear hK6
      (refine qB fun Y Yh=>?_;simp[go_sem];((repeat' (first|apply And.intro|(apply Yh;clear Yh Y)));all_goals first|apply Xi|omega))
      refine ⟨k + 1, ?_, ⟨by omega, by rw [hst1]; exact ha⟩, by omega⟩
      (refine ql ?_ ?_ <;> simp[go_sem])
  ·refine qp ?_
   simp only [go_sem]
   refine hK3 _ ?_; clear hK3
   have : i = l.length := by omega
   subst this
   (refine qc fun Y Yh=>?_;simp[go_sem];apply Yh;clear Yh Y;apply Xi)
   (refine qi ?_;simp[go_sem, hle, hn])
end Go.Proofs.YteekfnhhlcmcgaaGreatDoor
set_option maxRecDepth 20000
namespace Go.Lk
open Go.Lib Go.Wh Go.Ver
/-! what is found in a source, what is needed, what is picked -/
def fndG (p : Prs) (g : Gm) : Option Vrs := if g.1 = p.1 then g.2.find? (fun v => decide (v.1 = p.2)) else none
def fndV (s : Src) (p : Prs) : Option Vrs := s.findSome? (fndG p)
theorem drop_cons {α : Type} {l : List α} {i : Nat} {x : α} (h : l[i]? = some x) : l.drop i = x :: l.drop (i + 1) := by
 obtain ⟨h1, h2⟩ := List.getElem?_eq_some_iff.1 h
 rw [List.drop_eq_getElem_cons h1, h2]
theorem fnd_step {s : Src} {p : Prs} {i : Nat} {g : Gm} (h : s[i]? = some g) : (s.drop i).findSome? (fndG p) = (match fndG p g with | some v => some v | none => (s.drop (i + 1)).findSome? (fndG p)) := by
 rw [drop_cons h, List.findSome?_cons]
 cases fndG p g <;> rfl
theorem fnd_end (s : Src) (p : Prs) : (s.drop s.length).findSome? (fndG p) = none := by rw [List.drop_length]; rfl
theorem find_step {l : List Vrs} {n : Bs} {k : Nat} {v : Vrs} (h : l[k]? = some v) : (l.drop k).find? (fun v => decide (v.1 = n)) = if v.1 = n then some v else (l.drop (k + 1)).find? (fun v => decide (v.1 = n)) := by
 rw [drop_cons h, List.find?_cons]
 by_cases e : v.1 = n
 ·rw [if_pos e]; simp [e]
 ·rw [if_neg e]; simp [e]
def fndP (s : Src) (p : Prs) : Vrs := (fndV s p).getD ([], [])
theorem fndG_mem {p : Prs} {g : Gm} {v : Vrs} (h : fndG p g = some v) : v ∈ g.2 ∧ v.1 = p.2 ∧ g.1 = p.1 := by
 unfold fndG at h
 split at h
 ·rename_i e
  have h1 := List.mem_of_find?_eq_some h
  have h2 := List.find?_some h
  exact ⟨h1, by simpa using h2, e⟩
 ·cases h
theorem jb {s : Src} {p : Prs} {v : Vrs} (h : fndV s p = some v) : ∃ g ∈ s, g.1 = p.1 ∧ v ∈ g.2 ∧ v.1 = p.2 := by
 unfold fndV at h
 obtain ⟨g, hg, h2⟩ := List.exists_of_findSome?_eq_some h
 obtain ⟨a, b, c⟩ := fndG_mem h2
 exact ⟨g, hg, c, a, b⟩
theorem kT {s : Src} (hs : SzS s) (p : Prs) : SzV (fndP s p) := by
 unfold fndP
 cases h : fndV s p with
 | none => simp [SzV, SzN]
 | some v =>
  obtain ⟨g, hg, _, hv, _⟩ := jb h
  exact (hs.2 g hg).2.2 v hv
def pkdV (l : List Prs) (n : Bs) : Bs := ((l.find? (fun x => decide (x.1 = n))).map (·.2)).getD []
theorem pkd_step {l : List Prs} {n : Bs} {k : Nat} {v : Prs} (h : l[k]? = some v) : (l.drop k).find? (fun x => decide (x.1 = n)) = if v.1 = n then some v else (l.drop (k + 1)).find? (fun x => decide (x.1 = n)) := by
 rw [drop_cons h, List.find?_cons]
 by_cases e : v.1 = n
 ·rw [if_pos e]; simp [e]
 ·rw [if_neg e]; simp [e]
def allN (s : Src) (w l : List Prs) : List Prs := w ++ l.flatMap fun p => (fndP s p).2
theorem allN_nil (s : Src) (w : List Prs) : allN s w [] = w := by simp [allN]
theorem allN_step {s : Src} {w l : List Prs} {i : Nat} {p : Prs} (h : l[i]? = some p) : allN s w (l.take (i + 1)) = allN s w (l.take i) ++ (fndP s p).2 := by
 unfold allN; rw [List.take_add_one, h]; simp
theorem allN_snoc (s : Src) (w l : List Prs) (p : Prs) : allN s w (l ++ [p]) = allN s w l ++ (fndP s p).2 := by simp [allN]
theorem allN_mem {s : Src} {w l : List Prs} (hs : SzS s) (hw : ∀ x ∈ w, Sz1 x) : ∀ x ∈ allN s w l, Sz1 x := fun x hx => by
 unfold allN at hx
 rcases List.mem_append.1 hx with h | h
 ·exact hw x h
 ·obtain ⟨p, _, hp⟩ := List.mem_flatMap.1 h
  exact (kT hs p).2.2 x hp
theorem allN_len {s : Src} {w : List Prs} (hs : SzS s) : ∀ l : List Prs, (allN s w l).length ≤ w.length + l.length * 1000000
 | [] => by simp [allN]
 | p :: l => by
  have ih := allN_len (w := w) hs l
  have hp := (kT hs p).2.1
  unfold allN at ih ⊢
  simp only [List.length_append, List.flatMap_cons, List.length_cons] at ih ⊢
  have e : (l.length + 1) * 1000000 = l.length * 1000000 + 1000000 := Nat.succ_mul _ _
  rw [e]
  omega
end Go.Lk
