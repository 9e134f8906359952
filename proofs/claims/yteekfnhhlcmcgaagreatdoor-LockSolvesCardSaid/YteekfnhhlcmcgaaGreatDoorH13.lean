/- Part of a proof: see the last text. -/
import Derived.Test.YteekfnhhlcmcgaaGreatDoorH12
import Derived.Test.YteekfnhhlcmcgaaGreatDoorH09
import Derived.Test.YteekfnhhlcmcgaaGreatDoorH11
import Derived.Test.YteekfnhhlcmcgaaGreatDoorH04
import Derived.Test.YteekfnhhlcmcgaaGreatDoorH06
import Derived.Test.YteekfnhhlcmcgaaGreatDoorH05
import Derived.Lib.SlicesDelete
import Derived.Deep.RegionLaw
import Derived.Lib.SliceRun
import Derived.Lib.OwnBridge
import Derived.Shelf.RegionOpenPlain
import Derived.WalkKit
import Derived.Deep.LoopGhost
import Derived.Lib.Walk
import Derived.Sort.WalkB12
set_option linter.unusedVariables false
set_option linter.unusedSimpArgs false
namespace Go.Proofs.YteekfnhhlcmcgaaGreatDoor
open Go.Eng Go.Wh Go.Ver Go.Lk
set_option maxRecDepth 20000
attribute [local irreducible] AG CallA CallT AWp PCall ACall AgC
set_option maxHeartbeats 32000000 in
theorem kV (s : Src) (w : List Prs) (bud : Nat) (hsu : suV s = true) (hw : SzN w) (hwn : ∀ n ∈ w, n.1 ≠ []) (hb : bud ≤ 100000) : ∀ (f : Nat) (l : List Prs) (t gb gm : Nat), muV s l < f → l.length + f ≤ 1000 → PickOk s l → t ≤ bud →
  ACall Tryz.prog 109 [.ptr 900002 gb 0] (hX gb gm s bud t false (allN s w l) l) [900002, 900003]
   fun ps r => ∃ N' l', (ps = [(gb, bXn s bud (restV s w bud f l t).2 (decide ((restV s w bud f l t).1.2 = 12)) N' gm), (gm, .map (mSn l'))] ∧ r = dB (decide ((restV s w bud f l t).1.2 = 0))) ∧
    ((restV s w bud f l t).1.2 = 3 → N' = allN s w l ∧ l' = l) ∧ ((restV s w bud f l t).1.2 = 0 → l' = (restV s w bud f l t).1.1)
 | 0, l, t, gb, gm, h, _, _, _ => absurd h (by omega)
 | f + 1, l, t, gb, gm, hmu, hlf, hpo, ht => by
  have hs := zY hsu
  obtain ⟨h15, hsg⟩ := qW hsu
  have hno := pickOk_num hsu hpo
  have hlz : ∀ x ∈ l, Sz1 x := fun x hx => by
   obtain ⟨g, hg, e1, v, hv, e2⟩ := hpo.1 x hx
   have := hs.2 g hg
   exact ⟨by rw [← e1]; exact this.1, by rw [← e2]; exact (this.2.2 v hv).1⟩
  have IH := fun l t gb gm => kV s w bud hsu hw hwn hb f l t gb gm
  have TL := fun l t => jr s w bud f l t
  have ham := allN_mem (l := l) hs hw.2
  have hal := allN_len (w := w) hs l
  have hw0 := hw.1
  have hal2 : (allN s w l).length ≤ 1001000000 := by
   have e : l.length * 1000000 ≤ 1000 * 1000000 := Nat.mul_le_mul_right _ (by omega)
   omega
  have hRE : restV s w bud (f + 1) l t = (match (allN s w l).find? (freeN l) with
   | none => ((l, 0), t)
   | some n => tryL (restV s w bud f) bud n.1 l (candV s w l n.1) t) := rfl
  have hnn : ∀ n ∈ allN s w l, n.1 ≠ [] := fun n hn => by
   rcases allN_mem'.1 hn with q | ⟨p, hp, q⟩
   ·exact hwn n q
   ·obtain ⟨g, hg, e1, v, hv, e2⟩ := hpo.1 p hp
    rw [show p = (g.1, v.1) by rw [e1, e2], Qi hsu hg hv] at q
    exact (name_nm ((zH ((zh (hsg g hg).2).2 v hv).2).2 n q).1).1
  have hce := fun gem => @cand_eq s w l gem hsu
  have hsnoc := fun gem v => allN_snoc s w l (gem, v)
  generalize restV s w bud (f + 1) l t = R0 at *
  generalize hrec : restV s w bud f = rec at *
  generalize candV s w l = cand at *
  have NX := J8 gb gm s bud t false (allN s w l) l (by omega)
  have hnf : nextV (allN s w l) l = (((allN s w l).find? (freeN l)).map (·.1)).getD [] := by unfold nextV; rw [next_free hno]
  rw [hnf] at NX
  refine zg Tryz.func109 rfl rfl Tryz.ntmps109 (rs := [.tmp 2]) (tys := [4]) rfl rfl (by simp) ?_ ?_
  ·exact hX_ok gb gm s bud t false (allN s w l) l
  (refine qc fun Y Yh=>?_;simp[go_sem];apply Yh;clear Yh Y;apply Xi)
  (refine qc fun Y Yh=>?_;simp[go_sem])
  (refine qR [900002, 900003] (.inl ⟨rfl,rfl⟩) (by simp[go_sem]) ?_;intro args ha;simp[go_sem] at ha;subst ha;refine ⟨_, _, NX, (by simp[go_sem]), ?_⟩;rintro ps r hps ⟨rfl, rfl⟩;simp[go_sem];apply Yh;clear Yh Y;apply Xi)
  refine qf fun K1 hK1 => ?_
  (refine qc fun Y Yh=>?_;simp[go_sem];apply Yh;clear Yh Y;apply Xi)
  cases hfr : (allN s w l).find? (freeN l) with
  | none =>
   rw [hfr] at hRE
   simp only at hRE
   (refine qg fun T F hT hF=>?_;simp[go_sem, hfr];refine hT ?_;clear hT hF T F)
   (refine qc fun Y Yh=>?_;simp[go_sem];apply Yh;clear Yh Y;apply Xi)
   (refine qi ?_;simp[go_sem, hRE])
   exact ⟨_, rfl⟩
  | some n =>
   rw [hfr] at hRE
   simp only at hRE
   have hnm := List.mem_of_find?_eq_some hfr
   have hnz := hnn n hnm
   have hp := List.find?_some hfr
   unfold freeN at hp
   simp only [decide_eq_true_eq] at hp
   have hln : slook l n.1 = none := (slook_none hno).2 hp
   have hmp := fun hg => @mu_pos s l n.1 hg hp
   have hml := fun v hv hg => @mu_lt s l n.1 v hno hv hg hp
   have hne : n.1.isEmpty = false := by cases hq : n.1 with
    | nil => exact absurd hq hnz
    | cons => rfl
   (refine qg fun T F hT hF=>?_;simp[go_sem, hfr, hnz, hne];refine hF ?_;clear hT hF T F)
   refine qh ?_
   refine hK1 _ ?_; clear hK1
   have GS := Z4 s n.1 hsu
   have hGv : ∀ v ∈ ((gemV s n.1).getD ([], [])).2, ∃ g ∈ s, g.1 = n.1 ∧ v ∈ g.2 := fun v hv => by
    cases hg : gemV s n.1 with
    | none => rw [hg] at hv; cases hv
    | some g => rw [hg] at hv; obtain ⟨a, b⟩ := xH hg; exact ⟨g, a, b, hv⟩
   have hGl : ((gemV s n.1).getD ([], [])).2.length ≤ 12 := by
    cases hg : gemV s n.1 with
    | none => simp
    | some g => exact (zh (hsg g (xH hg).1).2).1
   have hcd : cand n.1 = (srtD ((gemV s n.1).getD ([], [])).2).filter (fitV (allN s w l) l n.1) := by
    rw [hce]
    cases hg : gemV s n.1 with
    | none => rfl
    | some g => rfl
   rw [hcd] at hRE
   clear hcd hce
   generalize (gemV s n.1).isSome = gis at *
   generalize (gemV s n.1).getD ([], []) = G at *
   have hGr : ∀ v ∈ G.2, (readV v.1).isSome = true ∧ SzV v := fun v hv => by
    obtain ⟨g, a, b, c⟩ := hGv v hv
    exact ⟨((zh (hsg g a).2).2 v c).1, (hs.2 g a).2.2 v c⟩
   (refine qc fun Y Yh=>?_;simp[go_sem])
   ((try refine Xj ?_);refine qm (.inl ⟨rfl,rfl⟩) (by simp[go_sem]) ?_;intro args ha;simp[go_sem] at ha;subst ha;refine ⟨_, GS, ?_⟩;rintro _ rfl;simp[go_sem];intro _;apply Yh;clear Yh Y;apply Xi)
   rename_i gg
   (refine qc fun Y Yh=>?_;simp[go_sem])
   (refine qR [900010] (.inl ⟨rfl,rfl⟩) (by simp[go_sem]) ?_;intro args ha;simp[go_sem] at ha;subst ha;refine ⟨_, _, (kC G.2 (by omega)), (by simp[go_sem]), ?_⟩;rintro ps r hps ⟨gr, rfl, rfl⟩;simp[go_sem];apply Yh;clear Yh Y;apply Xi)
   (refine qc fun Y Yh=>?_;simp[go_sem])
   (refine qR [900010] (.inl ⟨rfl,rfl⟩) (by simp[go_sem]) ?_;intro args ha;simp[go_sem] at ha;subst ha;refine ⟨_, _, (vs_sort 149 gr cD wk_ltD (fun x hx y hy => Qu x y (hGr x hx).1 (hGr y hy).1) hGl), (by simp[go_sem]), ?_⟩;rintro ps r hps ⟨rfl, rfl⟩;simp[go_sem];apply Yh;clear Yh Y;apply Xi)
   rw [show sortL (ltF cD) G.2 = srtD G.2 from rfl]
   have hcm : ∀ v ∈ srtD G.2, v ∈ G.2 := fun v hv => srtD_mem.1 hv
   have hcl := srtD_len G.2
   generalize srtD G.2 = c at *
   refine qQ 6 rfl rfl ?_
   simp only [go_sem]
   refine qf fun K3 hK3 => ?_
   (refine qc fun Y Yh=>?_;simp[go_sem];apply Yh;clear Yh Y;apply Xi)
   refine qj ?_
   refine qx (σ := Nat × Nat) (fun x => ⟨[(0, .ptr 900002 gb 0), (3, dS n.1), (28, dVrs c), (29, dI c.length), (30, dI x.1)], hX gb gm s bud x.2 false (allN s w l) l⟩)
    (fun x => x.1 ≤ c.length ∧ x.2 ≤ bud ∧ R0 = tryL rec bud n.1 l ((c.drop x.1).filter (fitV (allN s w l) l n.1)) x.2) (fun x => c.length - x.1) (0, t) ?_ ?_ ?_
   ·(refine ql ?_ ?_ <;> simp[go_sem])
   ·exact ⟨by simp, ht, hRE⟩
   rintro ⟨i, t⟩ ⟨hi, ht, hR⟩
   simp only at hi ht hR
   (refine qc fun Y Yh=>?_;simp[go_sem];apply Yh;clear Yh Y;apply Xi)
   refine qf fun K4 hK4 => ?_
   (refine qg fun T F hT hF=>?_;simp[go_sem];refine BR.intro (fun h5=>hT ?_) (fun h5=>hF ?_);all_goals clear hT hF T F;try simp at h5)
   ·refine qh ?_
    refine hK4 _ ?_; clear hK4
    obtain ⟨v, hv⟩ : ∃ v, c[i]? = some v := ⟨_, List.getElem?_eq_getElem (by omega)⟩
    have hvG := hcm v (List.mem_of_getElem? hv)
    obtain ⟨g, hgs, hgn, hvg⟩ := hGv v hvG
    obtain ⟨hvr, hvz⟩ := hGr v hvG
    have hv0 : v.1 ≠ [] := jR hvr
    have hmu1 := hml v.1 hv0 ⟨g, hgs, hgn⟩
    have FT := Jd gb gm s bud t false (allN s w l) l n.1 v (.inr ⟨hal2, ham⟩) hlz hno hp hvz hv0
    refine qf fun K6 hK6 => ?_
    have tl6 : ∀ S' (t' : Nat), t' ≤ bud → R0 = tryL rec bud n.1 l ((c.drop (i + 1)).filter (fitV (allN s w l) l n.1)) t' → Cov S' ⟨[(0, .ptr 900002 gb 0), (3, dS n.1), (28, dVrs c), (29, dI c.length), (30, dI i)], hX gb gm s bud t' false (allN s w l) l⟩ → K6 S' := fun S' t' h1 h2 hS => by
     refine hK6 _ ?_
     refine qN hS ?_; clear hS
     (refine qB fun Y Yh=>?_;simp[go_sem];((repeat' (first|apply And.intro|(apply Yh;clear Yh Y)));all_goals first|apply Xi|omega))
     refine ⟨(i + 1, t'), ?_, ⟨by simp only; omega, h1, h2⟩, by simp only; omega⟩
     (refine ql ?_ ?_ <;> simp[go_sem])
    clear hK6
    refine qj ?_
    (refine qc fun Y Yh=>?_;simp[go_sem, hv];intro _;apply Yh;clear Yh Y;apply Xi)
    refine qf fun K7 hK7 => ?_
    cases hft : fitV (allN s w l) l n.1 v with
    | false =>
     rw [hft] at FT
     (refine qc fun Y Yh=>?_;simp[go_sem])
     (refine qR [900002, 900003] (.inl ⟨rfl,rfl⟩) (by simp[go_sem]) ?_;intro args ha;simp[go_sem] at ha;subst ha;refine ⟨_, _, FT, (by simp[go_sem]), ?_⟩;rintro ps r hps ⟨rfl, rfl⟩;simp[go_sem];apply Yh;clear Yh Y;apply Xi)
     (refine qg fun T F hT hF=>?_;simp[go_sem];refine hT ?_;clear hT hF T F)
     refine qp ?_
     simp only [go_sem]
     refine tl6 _ t ht ?_ ?_
     ·rw [← tryL_skip hv hft]; exact hR
     ·(refine ql ?_ ?_ <;> simp[go_sem])
    | true =>
     rw [hft] at FT
     rw [tryL_take hv hft] at hR
     (refine qc fun Y Yh=>?_;simp[go_sem])
     (refine qR [900002, 900003] (.inl ⟨rfl,rfl⟩) (by simp[go_sem]) ?_;intro args ha;simp[go_sem] at ha;subst ha;refine ⟨_, _, FT, (by simp[go_sem]), ?_⟩;rintro ps r hps ⟨rfl, rfl⟩;simp[go_sem];apply Yh;clear Yh Y;apply Xi)
     (refine qg fun T F hT hF=>?_;simp[go_sem];refine hF ?_;clear hT hF T F)
     refine qh ?_
     refine hK7 _ ?_; clear hK7
     refine qf fun K9 hK9 => ?_
     (refine qc fun Y Yh=>?_;simp[go_sem];((repeat' (first|apply And.intro|(apply Yh;clear Yh Y)));all_goals first|apply Xi|omega))
     ((refine qE (.qs [0, 1, 2, 4, 5, 6, 3, 7, 8] (.nil)) (by kernel_rfl) ?_ ?_ ?_ ?_);kernel_rfl;exact (by decide +kernel);kernel_rfl;intro Y Yh;((repeat' (first|refine qy ?_|(refine qo fun Y Yh=>?_;simp[go_sem])|(apply Yh;clear Yh Y)));all_goals apply Xi))
     (refine qg fun T F hT hF=>?_;simp[go_sem];refine BR.intro (fun h10=>hT ?_) (fun h10=>hF ?_);all_goals clear hT hF T F;try simp at h10)
     ·rw [if_pos (by omega)] at hR
      (refine qc fun Y Yh=>?_;simp[go_sem];apply Yh;clear Yh Y;apply Xi)
      (refine qc fun Y Yh=>?_;simp[go_sem];apply Yh;clear Yh Y;apply Xi)
      (refine qi ?_;simp[go_sem, hR])
      exact ⟨⟨_, rfl⟩, ⟨_, rfl⟩⟩
     ·rw [if_neg (by omega)] at hR
      refine qh ?_
      refine hK9 _ ?_; clear hK9
      have e1 : allN s w (l ++ [(n.1, v.1)]) = allN s w l ++ v.2 := by rw [hsnoc, ← hgn, Qi hsu hgs hvg]
      have IH1 := IH (l ++ [(n.1, v.1)]) (t + 1) gb gm (by omega) (by simp; omega) (pickOk_snoc hsu hpo hp ⟨g, hgs, hgn, hvg⟩) (by omega)
      have T1 := TL (l ++ [(n.1, v.1)]) (t + 1) (by omega)
      have hput : sput n.1 v.1 l = l ++ [(n.1, v.1)] := sput_new hln
      have hdel : sdel n.1 (l ++ [(n.1, v.1)]) = l := sdel_new hln
      have hvl := hvz.2.1
      rw [show ((t + 1 : Nat) : Int) = (t : Int) + 1 by omega, e1] at IH1
      generalize rec (l ++ [(n.1, v.1)]) (t + 1) = q at *
      obtain ⟨⟨out, e⟩, t'⟩ := q
      simp only [Tlk] at T1 hR IH1
      simp only [hX, bXn, dPs, List.map_append] at IH1
      (refine qc fun Y Yh=>?_;simp[go_sem];apply Yh;clear Yh Y;apply Xi)
      ((refine qE (.qs [0, 1, 2, 4, 5, 3, 6] (.one 7 (.nil))) (by kernel_rfl) ?_ ?_ ?_ ?_);kernel_rfl;exact (by decide +kernel);kernel_rfl;intro Y Yh;((repeat' (first|refine qy ?_|(refine qo fun Y Yh=>?_;simp[go_sem, hput])|(refine qC fun Y Yh=>?_;simp[go_sem, hput])|(apply Yh;clear Yh Y)));all_goals apply Xi))
      ((refine qE (.qs [0, 1, 3, 4] (.kp 2 (.one 5 (.qs [6, 7] (.one 8 (.nil)))))) (by kernel_rfl) ?_ ?_ ?_ ?_);kernel_rfl;exact (by decide +kernel);kernel_rfl;intro Y Yh;((repeat' (first|(refine qo fun Y Yh=>?_;simp[go_sem, hput])|(refine qC fun Y Yh=>?_;simp[go_sem, hput])|(apply Yh;clear Yh Y)))))
      ((try refine Xj ?_);refine qm (.inl ⟨rfl,rfl⟩) (by simp[go_sem]) ?_;intro args ha;simp[go_sem] at ha;subst ha;refine ⟨_, (Jh (allN s w l)), ?_⟩;rintro _ rfl;simp[go_sem];((repeat' (first|refine qy ?_|(refine qo fun Y Yh=>?_;simp[go_sem])|(refine qC fun Y Yh=>?_;simp[go_sem])|apply And.intro|(apply Yh;clear Yh Y)));all_goals first|apply Xi|omega))
      refine qf fun K11 hK11 => ?_
      (refine qc fun Y Yh=>?_;simp[go_sem])
      (refine qR [900002, 900003] (.inl ⟨rfl,rfl⟩) (by simp[go_sem]) ?_;intro args ha;simp[go_sem] at ha;subst ha;refine ⟨_, _, IH1, (by simp[go_sem]), ?_⟩;rintro ps r hps ⟨N', l', ⟨rfl, rfl⟩, h3, h0⟩;simp[go_sem];apply Yh;clear Yh Y;apply Xi)
      by_cases he0 : e = 0
      ·rw [if_pos (by simp [he0])] at hR
       have hl' := h0 he0
       subst hl'
       (refine qg fun T F hT hF=>?_;simp[go_sem, he0];refine hT ?_;clear hT hF T F)
       (refine qc fun Y Yh=>?_;simp[go_sem];apply Yh;clear Yh Y;apply Xi)
       (refine qi ?_;simp[go_sem, hR, he0])
       exact ⟨_, rfl⟩
      ·(refine qg fun T F hT hF=>?_;simp[go_sem, he0];refine hF ?_;clear hT hF T F)
       refine qh ?_
       refine hK11 _ ?_; clear hK11
       refine qf fun K13 hK13 => ?_
       (refine qc fun Y Yh=>?_;simp[go_sem];apply Yh;clear Yh Y;apply Xi)
       by_cases he12 : e = 12
       ·rw [if_pos (by simp [he12])] at hR
        (refine qg fun T F hT hF=>?_;simp[go_sem, he12];refine hT ?_;clear hT hF T F)
        (refine qc fun Y Yh=>?_;simp[go_sem];apply Yh;clear Yh Y;apply Xi)
        (refine qi ?_;simp[go_sem, hR, he12])
        exact ⟨⟨_, rfl⟩, ⟨_, rfl⟩⟩
       ·have he3 : e = 3 := by omega
        rw [if_neg (by simp [he3])] at hR
        obtain ⟨hN', hl'⟩ := h3 he3
        subst hN' hl'
        (refine qg fun T F hT hF=>?_;simp[go_sem, he12];refine hF ?_;clear hT hF T F)
        refine qh ?_
        refine hK13 _ ?_; clear hK13
        (refine qc fun Y Yh=>?_;simp[go_sem];apply Yh;clear Yh Y;apply Xi)
        (refine qB fun Y Yh=>?_;simp[go_sem, hdel];apply Yh;clear Yh Y;apply Xi)
        refine tl6 _ t' (by omega) hR ?_
        (refine ql ?_ ?_ <;> simp[go_sem, he12])
   ·refine qp ?_
    simp only [go_sem]
    refine hK3 _ ?_; clear hK3
    have : i = c.length := by omega
    subst this
    rw [List.drop_length] at hR
    have hR' : R0 = (([], 3), t) := hR
    (refine qc fun Y Yh=>?_;simp[go_sem];apply Yh;clear Yh Y;apply Xi)
    (refine qi ?_;simp[go_sem, hR'])
end Go.Proofs.YteekfnhhlcmcgaaGreatDoor
set_option linter.unusedSectionVars false
namespace Go.Eng
variable {P : Program} [HasGlob P] {n : Nat} {S : St} {Q : Exit → St → Prop}
theorem Jn {c : Code} (s s' sb j : Nat) {g gb : Nat} {es : List (Value × D)} {cs : List D} (hx : look S.heap s = some (g, .map es)) (hb : look S.heap sb = some (gb, .box cs)) (hne : sb ≠ s) (hne' : s' ≠ sb) (hj : cs[j]? = some (.own s g)) (h9 : 900000 ≤ s → 900000 ≤ s')
  (h : ∀ g', AWp P n c (((S.drop s).hput s' g' (.map es)).hput sb gb (.box (cs.set j (.own s' g')))) Q) : AWp P n c S Q := by
 intro w0 B C0 C a w E I
 obtain ⟨g', C', u, I', hu, hv, ext⟩ := I.rename hx rfl s' h9
 refine h g' E (I'.boxSet (cs := cs) ?_ (by simp) fun i cc cc' v q1 q2 hr hone => ?_)
 ·rw [qF, if_neg hne']
  exact (jl hne).trans hb
 ·rw [List.getElem?_set] at q2
  split at q2
  ·rename_i e1
   subst e1
   split at q2
   ·simp only [Option.some.injEq] at q2
    subst q2
    rw [hj] at q1
    simp only [Option.some.injEq] at q1
    subst q1
    cases hr with
    | own _ _ _ p1 p2 =>
     have := ext.val _ _ _ hu
     rw [p1] at this
     simp only [Option.some.injEq] at this
     subst this
     exact .own _ _ _ hv p2
   ·cases q2
  ·rw [q1] at q2
   simp only [Option.some.injEq] at q2
   subst q2
   exact hr
end Go.Eng
namespace Go.Proofs.YteekfnhhlcmcgaaGreatDoor
open Go.Eng Go.Wh Go.Ver Go.Lk
set_option maxRecDepth 20000
attribute [local irreducible] AG CallA CallT AWp PCall ACall AgC
set_option maxHeartbeats 8000000 in
theorem Zo (gb gm : Nat) (s : Src) (bud t : Int) (full : Bool) (N l : List Prs) (hs : s.length ≤ 1000000) :
  ACall Tryz.prog 54 [.ptr 900002 gb 0] (hX gb gm s bud t full N l) [900002, 900003] fun ps r => ps = [(gb, bXn s bud t full N gm), (gm, .map (mSn l))] ∧ r = dPs (pksV s l) := by 
 refine zg Tryz.func54 rfl rfl Tryz.ntmps54 (rs := [.tmp 2]) (tys := [34]) rfl rfl (by simp) ?_ ?_
 ·exact hX_ok gb gm s bud t full N l
 (refine qc fun Y Yh=>?_;simp[go_sem];apply Yh;clear Yh Y;apply Xi)
 (refine qc fun Y Yh=>?_;simp[go_sem];apply Yh;clear Yh Y;apply Xi)
 refine qU 3 900011 41 2 rfl fun g3 => ?_
 simp only [go_sem]
 refine qf fun K1 hK1 => ?_
 (refine qc fun Y Yh=>?_;simp[go_sem];apply Yh;clear Yh Y;apply Xi)
 refine qj ?_
 refine qx (σ := Nat × Nat) (fun x => ⟨[(0, .ptr 900002 gb 0), (3, .own 900011 x.2), (12, dGms s), (13, dI s.length), (14, dI x.1)], (900011, (x.2, .row 41 2 ((pksV (s.take x.1) l).map cP))) :: hX gb gm s bud t full N l⟩) (fun x => x.1 ≤ s.length) (fun x => s.length - x.1) (0, g3) ?_ ?_ ?_
 ·(refine ql ?_ ?_ <;> simp[go_sem, pksV])
 ·simp
 rintro ⟨i, g⟩ hi
 simp only at hi
 (refine qc fun Y Yh=>?_;simp[go_sem];apply Yh;clear Yh Y;apply Xi)
 refine qf fun K2 hK2 => ?_
 (refine qg fun T F hT hF=>?_;simp[go_sem];refine BR.intro (fun h3=>hT ?_) (fun h3=>hF ?_);all_goals clear hT hF T F;try simp at h3)
 ·refine qh ?_
  refine hK2 _ ?_; clear hK2
  obtain ⟨x, hx⟩ : ∃ x, s[i]? = some x := ⟨_, List.getElem?_eq_getElem (by omega)⟩
  have hst := pks_step (l := l) hx
  have hpl := pks_len (s.take i) l
  have hpl2 : (s.take i).length ≤ s.length := by simp; omega
  refine qf fun K4 hK4 => ?_
  refine qj ?_
  (refine qc fun Y Yh=>?_;simp[go_sem, hx];intro _;apply Yh;clear Yh Y;apply Xi)
  cases hq : slook l x.1 with
  | none =>
   rw [hq] at hst
   ((refine qE (.qs [0, 1, 2, 4, 3, 5, 6, 7, 8, 9, 10, 11] (.nil)) (by kernel_rfl) ?_ ?_ ?_ ?_);kernel_rfl;exact (by decide +kernel);kernel_rfl;intro Y Yh;((repeat' (first|refine qy ?_|(refine qo fun Y Yh=>?_;simp[go_sem, hq])|(apply Yh;clear Yh Y)));all_goals apply Xi))
   (refine qc fun Y Yh=>?_;simp[go_sem];apply Yh;clear Yh Y;apply Xi)
   (refine qg fun T F hT hF=>?_;simp[go_sem];refine hF ?_;clear hT hF T F)
   refine qh ?_
   refine hK4 _ ?_; clear hK4
   (refine qB fun Y Yh=>?_;simp[go_sem];((repeat' (first|apply And.intro|(apply Yh;clear Yh Y)));all_goals first|apply Xi|omega))
   refine ⟨(i + 1, g), ?_, by simp only; omega, by simp only; omega⟩
   simp only [hst]
   (refine ql ?_ ?_ <;> simp[go_sem])
  | some v =>
   rw [hq] at hst
   ((refine qE (.qs [0, 1, 2, 4, 3, 5, 6, 7, 8, 9, 10, 11] (.nil)) (by kernel_rfl) ?_ ?_ ?_ ?_);kernel_rfl;exact (by decide +kernel);kernel_rfl;intro Y Yh;((repeat' (first|refine qy ?_|(refine qo fun Y Yh=>?_;simp[go_sem, hq])|(apply Yh;clear Yh Y)));all_goals apply Xi))
   (refine qc fun Y Yh=>?_;simp[go_sem];apply Yh;clear Yh Y;apply Xi)
   (refine qg fun T F hT hF=>?_;simp[go_sem];refine hT ?_;clear hT hF T F)
   (refine qB fun Y Yh=>?_;simp[go_sem];((repeat' (first|intro _|apply And.intro|(apply Yh;clear Yh Y)));all_goals first|apply Xi|omega))
   rename_i g' g''
   refine hK4 _ ?_; clear hK4
   (refine qB fun Y Yh=>?_;simp[go_sem];((repeat' (first|apply And.intro|(apply Yh;clear Yh Y)));all_goals first|apply Xi|omega))
   refine ⟨(i + 1, g''), ?_, by simp only; omega, by simp only; omega⟩
   simp only [hst]
   (refine ql ?_ ?_ <;> simp[go_sem])
 ·refine qp ?_
  simp only [go_sem]
  refine hK1 _ ?_; clear hK1
  have : i = s.length := by omega
  subst this
  (refine qc fun Y Yh=>?_;simp[go_sem];apply Yh;clear Yh Y;apply Xi)
  refine qQ 2 rfl rfl ?_
  simp only [go_sem]
  (refine qi ?_;simp[go_sem])
theorem ZG (s : Src) (w : List Prs) (b : Int) (hs : SzS s) (hw : SzN w) (hbr : InR b) : PCall Tryz.prog 52 [dSrc s, dPs w, dI b] fun r => r = dI (if chkV s w = true ∧ 1 ≤ b ∧ b ≤ 100000 then 0 else 1) := by 
 refine qw Tryz.func52 rfl rfl Tryz.ntmps52 (rs := [.tmp 6]) (tys := [35]) rfl rfl (by simp) ?_
 have C := jd s w hs hw
 generalize chkV s w = c at *
 (refine qc fun Y Yh=>?_;simp[go_sem];intro _;apply Yh;clear Yh Y;apply Xi)
 refine qA 3 rfl rfl ?_
 simp only [go_sem]
 refine qf fun K1 hK1 => ?_
 (refine qc fun Y Yh=>?_;simp[go_sem];refine qH ?_;simp[go_sem];refine qH ?_;simp[go_sem];apply Yh;clear Yh Y;apply Xi)
 (refine qg fun T F hT hF=>?_;simp[go_sem];refine BR.intro (fun h2=>hT ?_) (fun h2=>hF ?_);all_goals clear hT hF T F;try simp at h2)
 ·have : ¬ (c = true ∧ 1 ≤ b ∧ b ≤ 100000) := by omega
  (refine qc fun Y Yh=>?_;simp[go_sem];apply Yh;clear Yh Y;apply Xi)
  (refine qi ?_;simp[go_sem, this])
 ·have hb : 1 ≤ b ∧ b ≤ 100000 := by omega
  refine qh ?_
  refine hK1 _ ?_; clear hK1
  (refine qc fun Y Yh=>?_;simp[go_sem])
  ((try refine Xj ?_);refine qm (.inl ⟨rfl,rfl⟩) (by simp[go_sem]) ?_;intro args ha;simp[go_sem] at ha;subst ha;refine ⟨_, C, ?_⟩;rintro _ rfl;simp[go_sem];apply Yh;clear Yh Y;apply Xi)
  (refine qi ?_;simp[go_sem, hb])
theorem QK (l : List Prs) (hl : l.length ≤ 1000000) : PCall Tryz.prog 69 [dPs l] fun r => r = dPs l := by 
 refine qw Tryz.func69 rfl rfl Tryz.ntmps69 (rs := [.tmp 2]) (tys := [38]) rfl rfl (by simp) ?_
 cases l with
 | nil =>
  (refine qc fun Y Yh=>?_;simp[go_sem];apply Yh;clear Yh Y;apply Xi)
  refine qf fun K1 hK1 => ?_
  (refine qc fun Y Yh=>?_;simp[go_sem];((repeat' (first|apply And.intro|(apply Yh;clear Yh Y)));all_goals apply Xi))
  ·(refine qg fun T F hT hF=>?_;simp[go_sem];refine hF ?_;clear hT hF T F)
   refine qh ?_
   refine hK1 _ ?_; clear hK1
   (refine qc fun Y Yh=>?_;simp[go_sem];intro _;intro _;apply Yh;clear Yh Y;apply Xi)
   (refine qi ?_;simp[go_sem])
  ·(refine qg fun T F hT hF=>?_;simp[go_sem];refine hT ?_;clear hT hF T F)
   (refine qc fun Y Yh=>?_;simp[go_sem];apply Yh;clear Yh Y;apply Xi)
   (refine qi ?_;simp[go_sem])
 | cons x r =>
  simp only [List.length_cons] at hl
  (refine qc fun Y Yh=>?_;simp[go_sem];apply Yh;clear Yh Y;apply Xi)
  refine qf fun K1 hK1 => ?_
  (refine qc fun Y Yh=>?_;simp[go_sem];apply Yh;clear Yh Y;apply Xi)
  refine qg fun T F hT hF => ?_
  simp [go_sem]
  refine hF ?_
  refine qh ?_
  refine hK1 _ ?_; clear hK1
  (refine qc fun Y Yh=>?_;simp[go_sem];((repeat' (first|intro _|apply And.intro|(apply Yh;clear Yh Y)));all_goals first|apply Xi|omega))
  (refine qi ?_;simp[go_sem])
theorem x8 {s : Src} {w : List Prs} (h : chkV s w = true) : suV s = true ∧ SzN w ∧ ∀ n ∈ w, n.1 ≠ [] := by
 unfold chkV at h
 rw [Bool.and_eq_true] at h
 exact ⟨h.1, xU h.2 (by decide), fun n hn => (name_nm ((zH h.2).2 n hn).1).1⟩
theorem mSn_nil : mSn [] = [] := rfl
abbrev qV (s : Src) (w : List Prs) (bud : Nat) : (List Prs × Nat) × Nat := restV s w bud (s.length + 1) [] 0
set_option maxHeartbeats 16000000 in
theorem ZF (s : Src) (w : List Prs) (bud : Nat) (hc : chkV s w = true) (hb : bud ≤ 100000) :
  ACall Tryz.prog 53 [dSrc s, dPs w, dI bud] [] [900002, 900003] fun ps r => ∃ gb gm N' l', (ps = [(gb, bXn s bud (qV s w bud).2 (decide ((qV s w bud).1.2 = 12)) N' gm), (gm, .map (mSn l'))] ∧ r = .tup [.ptr 900002 gb 0, dI (qV s w bud).1.2]) ∧
   ((qV s w bud).1.2 = 0 → l' = (qV s w bud).1.1) := by 
 refine zg Tryz.func53 rfl rfl Tryz.ntmps53 (rs := [.tmp 6, .tmp 7]) (tys := [121, 35]) rfl rfl (by simp) (by simp) ?_
 obtain ⟨hsu, hw, hwn⟩ := x8 hc
 have h15 := (qW hsu).1
 have hmu := mu_le s []
 have T := jr s w bud (s.length + 1) [] 0 (by omega)
 have SV := fun gb gm => kV s w bud hsu hw hwn hb (s.length + 1) [] 0 gb gm (by omega) (by simp; omega) ⟨by simp, by simp⟩ (by omega)
 simp only [allN_nil, hX, bXn, mSn_nil] at SV
 have NC := QK w hw.1
 unfold qV
 generalize restV s w bud (s.length + 1) [] 0 = q at *
 obtain ⟨⟨out, e⟩, t'⟩ := q
 simp only [Tlk] at T SV ⊢
 (refine qc fun Y Yh=>?_;simp[go_sem];intro _;apply Yh;clear Yh Y;apply Xi)
 refine qA 3 rfl rfl ?_
 simp only [go_sem]
 refine zy (α := Nat × Nat) (fun g => ⟨[(8, .ptr 16 g.1 0)], [(16, (g.1, .box [dGms s, dI bud, dI 0, dB false, dPs w, .own 14 g.2])), (14, (g.2, .map []))]⟩) (fun K1 hK1 hM1 => ?_) (fun g => ?_)
 ·((refine zA (.qs [1, 2] (.three 0 (.two 3 (.one 4 (.qs [5] (.one 6 (.qs [7] (.nil))))) 4 (.kp 3 (.qs [5] (.kp 6 (.qs [7] (.nil)))))) 3 (.kq 0 (.one 4 (.qs [5] (.one 6 (.qs [7] (.nil))))) 4 (.qs [0, 5] (.one 6 (.qs [7] (.nil))))) 4 (.qs [0] (.kp 3 (.qs [5] (.kp 6 (.qs [7] (.nil)))))))) (by kernel_rfl) ?_ ?_ ?_ ?_);kernel_rfl;exact (by decide +kernel);kernel_rfl;intro Y Yh;((repeat' (first|refine x9 ?_ ?_|refine zX ?_ ?_ ?_|(refine qo fun Y Yh=>?_;simp[go_sem])|(refine qC fun Y Yh=>?_;simp[go_sem])|intro _|(apply Yh;clear Yh Y)))))
  all_goals ((try refine Xj ?_);refine qm (.inl ⟨rfl,rfl⟩) (by simp[go_sem]) ?_;intro args ha;simp[go_sem] at ha;subst ha;refine ⟨_, NC, ?_⟩;rintro _ rfl;simp[go_sem];((repeat' (first|refine qy ?_|refine vW ?_ ?_|(refine qo fun Y Yh=>?_;simp[go_sem])|(refine qC fun Y Yh=>?_;simp[go_sem])|intro _|(apply Yh;clear Yh Y)));all_goals apply Xi))
  all_goals
   rename_i gm gb
   refine hK1 _ ?_
   refine hM1 (gb, gm) _ ?_
   (refine ql ?_ ?_ <;> simp[go_sem])
 ·obtain ⟨gb0, gm0⟩ := g
  refine jJ 8 900002 rfl rfl (by decide) fun gb => ?_
  simp only [go_sem]
  refine Jn 14 900003 900002 5 rfl rfl (by decide) (by decide) rfl (by decide) fun gm => ?_
  simp only [go_sem, List.set]
  refine qf fun K2 hK2 => ?_
  (refine qc fun Y Yh=>?_;simp[go_sem])
  (refine qR [900002, 900003] (.inl ⟨rfl,rfl⟩) (by simp[go_sem]) ?_;intro args ha;simp[go_sem] at ha;subst ha;refine ⟨_, _, (SV gb gm), (by simp[go_sem]), ?_⟩;rintro ps r hps ⟨N', l', ⟨rfl, rfl⟩, h3, h0⟩;simp[go_sem];apply Yh;clear Yh Y;apply Xi)
  refine qj ?_
  (refine qc fun Y Yh=>?_;simp[go_sem];apply Yh;clear Yh Y;apply Xi)
  by_cases he12 : e = 12
  ·(refine qg fun T F hT hF=>?_;simp[go_sem, he12];refine hT ?_;clear hT hF T F)
   (refine qc fun Y Yh=>?_;simp[go_sem];apply Yh;clear Yh Y;apply Xi)
   (refine qi ?_;simp[go_sem, he12])
   exact ⟨gm, ⟨⟨_, rfl⟩, rfl⟩, rfl, ⟨_, rfl⟩⟩
  ·(refine qg fun T F hT hF=>?_;simp[go_sem, he12];refine hF ?_;clear hT hF T F)
   (refine qc fun Y Yh=>?_;simp[go_sem];apply Yh;clear Yh Y;apply Xi)
   by_cases he0 : e = 0
   ·(refine qg fun T F hT hF=>?_;simp[go_sem, he0];refine hF ?_;clear hT hF T F)
    refine qh ?_
    refine hK2 _ ?_; clear hK2
    (refine qc fun Y Yh=>?_;simp[go_sem];apply Yh;clear Yh Y;apply Xi)
    (refine qi ?_;simp[go_sem, he0])
    exact ⟨gm, ⟨⟨_, rfl⟩, rfl⟩, rfl, by rw [h0 he0]⟩
   ·have he3 : e = 3 := by omega
    (refine qg fun T F hT hF=>?_;simp[go_sem, he0];refine hT ?_;clear hT hF T F)
    (refine qc fun Y Yh=>?_;simp[go_sem];apply Yh;clear Yh Y;apply Xi)
    (refine qi ?_;simp[go_sem, he3])
    exact ⟨gm, ⟨⟨_, rfl⟩, rfl⟩, rfl, ⟨_, rfl⟩⟩
set_option maxHeartbeats 8000000 in
theorem xw (s : Src) (w : List Prs) (b : Int) (hs : SzS s) (hw : SzN w) (hbr : InR b) : PCall Tryz.prog 16 [dSrc s, dPs w, dI b] fun r => r = .tup [dPs (solV s w b).1, dI (solV s w b).2.2] := by 
 refine qw Tryz.func16 rfl rfl Tryz.ntmps16 (rs := [.tmp 6, .tmp 7]) (tys := [34, 35]) rfl rfl (by simp) ?_
 have A := ZG s w b hs hw hbr
 by_cases hok : chkV s w = true ∧ 1 ≤ b ∧ b ≤ 100000
 ·have hsu := (x8 hok.1).1
  have h15 := (qW hsu).1
  obtain ⟨bud, rfl⟩ : ∃ n : Nat, b = n := ⟨b.toNat, by omega⟩
  have BG := ZF s w bud hok.1 (by omega)
  have hpo : (qV s w bud).1.2 = 0 → pksV s (qV s w bud).1.1 = srtP (qV s w bud).1.1 := fun _ => pks_srt hsu (ja hsu _ [] 0 ⟨by simp, by simp⟩)
  have hsv : solV s w bud = (srtP (qV s w bud).1.1, (qV s w bud).2, (qV s w bud).1.2) := by unfold solV; rw [if_pos hok, Int.toNat_natCast]
  have her : (qV s w bud).1.2 ≠ 0 → (qV s w bud).1.1 = [] := rest_err _ _ _
  have T := jr s w bud (s.length + 1) [] 0 (by omega)
  rw [if_pos hok] at A
  rw [hsv]
  simp only
  unfold qV at *
  generalize restV s w bud (s.length + 1) [] 0 = q at *
  obtain ⟨⟨out, e⟩, t'⟩ := q
  simp only [Tlk] at T BG hpo her ⊢
  (refine qc fun Y Yh=>?_;simp[go_sem];intro _;apply Yh;clear Yh Y;apply Xi)
  refine qA 3 rfl rfl ?_
  simp only [go_sem]
  refine qf fun K1 hK1 => ?_
  (refine qc fun Y Yh=>?_;simp[go_sem])
  ((try refine Xj ?_);refine qm (.inl ⟨rfl,rfl⟩) (by simp[go_sem]) ?_;intro args ha;simp[go_sem] at ha;subst ha;refine ⟨_, A, ?_⟩;rintro _ rfl;simp[go_sem];apply Yh;clear Yh Y;apply Xi)
  (refine qc fun Y Yh=>?_;simp[go_sem];apply Yh;clear Yh Y;apply Xi)
  (refine qg fun T F hT hF=>?_;simp[go_sem];refine hF ?_;clear hT hF T F)
  refine qh ?_
  refine hK1 _ ?_; clear hK1
  (refine qc fun Y Yh=>?_;simp[go_sem])
  (refine qR [900002, 900003] (.inl ⟨rfl,rfl⟩) (by simp[go_sem]) ?_;intro args ha;simp[go_sem] at ha;subst ha;refine ⟨_, _, BG, (by simp[go_sem]), ?_⟩;rintro ps r hps ⟨gb, gm, N', l', ⟨rfl, rfl⟩, h0⟩;simp[go_sem];apply Yh;clear Yh Y;apply Xi)
  refine qf fun K3 hK3 => ?_
  (refine qc fun Y Yh=>?_;simp[go_sem];apply Yh;clear Yh Y;apply Xi)
  by_cases he0 : e = 0
  ·(refine qg fun T F hT hF=>?_;simp[go_sem, he0];refine hF ?_;clear hT hF T F)
   refine qh ?_
   refine hK3 _ ?_; clear hK3
   have hl := h0 he0
   subst hl
   (refine qc fun Y Yh=>?_;simp[go_sem])
   (refine qR [900002, 900003] (.inl ⟨rfl,rfl⟩) (by simp[go_sem]) ?_;intro args ha;simp[go_sem] at ha;subst ha;refine ⟨_, _, (Zo gb gm s bud t' (decide (e = 12)) N' l' (by omega)), (by simp[go_sem]), ?_⟩;rintro ps r hps ⟨rfl, rfl⟩;simp[go_sem];apply Yh;clear Yh Y;apply Xi)
   (refine qi ?_;simp[go_sem, he0, hpo he0])
  ·have hoe := her he0
   subst hoe
   (refine qg fun T F hT hF=>?_;simp[go_sem, he0];refine hT ?_;clear hT hF T F)
   (refine qc fun Y Yh=>?_;simp[go_sem];apply Yh;clear Yh Y;apply Xi)
   (refine qi ?_;simp[go_sem, srtP])
 ·rw [if_neg hok] at A
  have hsv : solV s w b = ([], 0, 1) := by unfold solV; rw [if_neg hok]
  rw [hsv]
  (refine qc fun Y Yh=>?_;simp[go_sem];intro _;apply Yh;clear Yh Y;apply Xi)
  refine qA 3 rfl rfl ?_
  simp only [go_sem]
  refine qf fun K1 hK1 => ?_
  (refine qc fun Y Yh=>?_;simp[go_sem])
  ((try refine Xj ?_);refine qm (.inl ⟨rfl,rfl⟩) (by simp[go_sem]) ?_;intro args ha;simp[go_sem] at ha;subst ha;refine ⟨_, A, ?_⟩;rintro _ rfl;simp[go_sem];apply Yh;clear Yh Y;apply Xi)
  (refine qc fun Y Yh=>?_;simp[go_sem];apply Yh;clear Yh Y;apply Xi)
  (refine qg fun T F hT hF=>?_;simp[go_sem];refine hT ?_;clear hT hF T F)
  (refine qc fun Y Yh=>?_;simp[go_sem];apply Yh;clear Yh Y;apply Xi)
  (refine qi ?_;simp[go_sem])
theorem kM (l : List Prs) (f : Nat) (caps : List D) (p : Prs → Bool) (hp : ∀ x ∈ l, PCall Tryz.prog f (dP x :: caps) fun r => r = dB (p x)) (hl : l.length ≤ 1000000) : PCall Tryz.prog 80 [dPs l, .fn f caps] fun r => r = dI (fIx p l) := by
 refine qw Tryz.func80 rfl rfl Tryz.ntmps80 (rs := [.tmp 4]) (tys := [3]) rfl rfl (by simp) ?_
 (refine qc fun Y Yh=>?_;simp[go_sem];apply Yh;clear Yh Y;apply Xi)
 refine qf fun K1 hK1 => ?_
 (refine qc fun Y Yh=>?_;simp[go_sem];apply Yh;clear Yh Y;apply Xi)
 refine qj ?_
 refine qx (σ := Nat) (fun i => ⟨[(0, dPs l), (1, .fn f caps), (7, dI l.length), (8, dI i)], []⟩) (fun i => i ≤ l.length ∧ (l.take i).any p = false) (fun i => l.length - i) 0 (by (refine ql ?_ ?_ <;> simp[go_sem])) (by simp) ?_
 rintro i ⟨hi, hany⟩
 (refine qc fun Y Yh=>?_;simp[go_sem];apply Yh;clear Yh Y;apply Xi)
 refine qf fun K2 hK2 => ?_
 (refine qg fun T F hT hF=>?_;simp[go_sem];refine BR.intro (fun h3=>hT ?_) (fun h3=>hF ?_);all_goals clear hT hF T F;try simp at h3)
 ·refine qh ?_
  refine hK2 _ ?_; clear hK2
  obtain ⟨x, hx⟩ : ∃ x, l[i]? = some x := ⟨_, List.getElem?_eq_getElem (by omega)⟩
  refine qf fun K4 hK4 => ?_
  refine qj ?_
  (refine qc fun Y Yh=>?_;simp[go_sem];apply Yh;clear Yh Y;apply Xi)
  (refine qc fun Y Yh=>?_;simp[go_sem, hx])
  ((try refine Xj ?_);refine qm (by first|exact .inl ⟨rfl,rfl⟩|exact .inr rfl) (by simp[go_sem]) ?_;intro args ha;simp[go_sem] at ha;subst ha;refine ⟨_, (hp x (List.mem_of_getElem? hx)), ?_⟩;rintro _ rfl;simp[go_sem];apply Yh;clear Yh Y;apply Xi)
  (refine qg fun T F hT hF=>?_;simp[go_sem];refine BR.intro (fun h5=>hT ?_) (fun h5=>hF ?_);all_goals clear hT hF T F;try simp at h5)
  ·(refine qc fun Y Yh=>?_;simp[go_sem];apply Yh;clear Yh Y;apply Xi)
   (refine qi ?_;simp[go_sem])
   rw [fIx_at hany hx h5]
  ·refine qh ?_
   refine hK4 _ ?_; clear hK4
   (refine qB fun Y Yh=>?_;simp[go_sem];((repeat' (first|apply And.intro|(apply Yh;clear Yh Y)));all_goals first|apply Xi|omega))
   refine ⟨i + 1, ?_, ⟨by omega, take_anyG hany hx (by simp [h5])⟩, by omega⟩
   (refine ql ?_ ?_ <;> simp[go_sem])
 ·refine qp ?_
  simp only [go_sem]
  refine hK1 _ ?_; clear hK1
  (refine qc fun Y Yh=>?_;simp[go_sem];apply Yh;clear Yh Y;apply Xi)
  (refine qi ?_;simp[go_sem])
  have : i = l.length := by omega
  subst this
  rw [List.take_length] at hany
  rw [fIx_none hany]
set_option maxHeartbeats 8000000 in
theorem Qw (s : Src) (p : Prs) (hsu : suV s = true) : PCall Tryz.prog 82 [dSrc s, dP p] fun r => r = .tup [dVr (fndP s p), dB (fndV s p).isSome] := by 
 refine qw Tryz.func82 rfl rfl Tryz.ntmps82 (rs := [.cell 4 116, .tmp 5]) (tys := [116, 4]) rfl rfl (by simp) ?_
 have hs := zY hsu
 obtain ⟨h15, hsg⟩ := qW hsu
 have GS := Z4 s p.1 hsu
 have hfd : fndV s p = ((gemV s p.1).getD ([], [])).2.find? (fun v => decide (v.1 = p.2)) := by
  rw [fnd_gem hsu]
  cases hg : gemV s p.1 with
  | none => rfl
  | some g => rfl
 have hGl : ((gemV s p.1).getD ([], [])).2.length ≤ 12 := by
  cases hg : gemV s p.1 with
  | none => simp
  | some g => exact (zh (hsg g (xH hg).1).2).1
 unfold fndP
 rw [hfd]
 generalize (gemV s p.1).isSome = gis at *
 generalize (gemV s p.1).getD ([], []) = G at *
 obtain ⟨gn, l⟩ := G
 simp only at hGl ⊢
 have hst := fun k v => @find_step l p.2 k v
 have he : (l.drop l.length).find? (fun v => decide (v.1 = p.2)) = none := by rw [List.drop_length]; rfl
 have hz : l.find? (fun v => decide (v.1 = p.2)) = (l.drop 0).find? (fun v => decide (v.1 = p.2)) := rfl
 rw [hz]
 obtain ⟨F, hF⟩ : ∃ F : Nat → Option Vrs, ∀ i, (l.drop i).find? (fun v => decide (v.1 = p.2)) = F i := ⟨_, fun _ => rfl⟩
 simp only [hF] at hst he ⊢
 clear hF hz hfd
 (refine qc fun Y Yh=>?_;simp[go_sem];intro _;intro _;intro _;apply Yh;clear Yh Y;apply Xi)
 refine qA 2 rfl rfl ?_
 refine qA 3 rfl rfl ?_
 simp only [go_sem]
 rename_i gr
 (refine qc fun Y Yh=>?_;simp[go_sem])
 ((try refine Xj ?_);refine qm (.inl ⟨rfl,rfl⟩) (by simp[go_sem]) ?_;intro args ha;simp[go_sem] at ha;subst ha;refine ⟨_, GS, ?_⟩;rintro _ rfl;simp[go_sem];intro _;apply Yh;clear Yh Y;apply Xi)
 refine qA 6 rfl rfl ?_
 simp only [go_sem]
 refine qf fun K1 hK1 => ?_
 (refine qc fun Y Yh=>?_;simp[go_sem];apply Yh;clear Yh Y;apply Xi)
 refine qj ?_
 refine qx (σ := Nat) (fun i => ⟨[(3, .rd [dS p.1, dS p.2]), (4, .ptr 4 gr 0), (18, dVrs l), (19, dI l.length), (20, dI i)], [(4, (gr, .box [dS [], .v (.slice none 0 0)]))]⟩) (fun i => i ≤ l.length ∧ F 0 = F i) (fun i => l.length - i) 0 ?_ ?_ ?_
 ·(refine ql ?_ ?_ <;> simp[go_sem])
 ·exact ⟨by omega, rfl⟩
 rintro i ⟨hi, hf⟩
 (refine qc fun Y Yh=>?_;simp[go_sem];apply Yh;clear Yh Y;apply Xi)
 refine qf fun K2 hK2 => ?_
 (refine qg fun T F hT hF=>?_;simp[go_sem];refine BR.intro (fun h3=>hT ?_) (fun h3=>hF ?_);all_goals clear hT hF T F;try simp at h3)
 ·refine qh ?_
  refine hK2 _ ?_; clear hK2
  obtain ⟨v, hv⟩ : ∃ v, l[i]? = some v := ⟨_, List.getElem?_eq_getElem (by omega)⟩
  have hst1 := hst i v hv
  refine qf fun K4 hK4 => ?_
  refine qj ?_
  (refine qc fun Y Yh=>?_;simp[go_sem, hv];intro _;apply Yh;clear Yh Y;apply Xi)
  (refine qc fun Y Yh=>?_;simp[go_sem];apply Yh;clear Yh Y;apply Xi)
  (refine qg fun T F hT hF=>?_;simp[go_sem];refine BR.intro (fun h5=>hT ?_) (fun h5=>hF ?_);all_goals clear hT hF T F;try simp at h5)
  ·rw [if_pos h5] at hst1
   (refine qc fun Y Yh=>?_;simp[go_sem];apply Yh;clear Yh Y;apply Xi)
   (refine qi ?_;simp[go_sem, hf, hst1])
  ·rw [if_neg h5] at hst1
   refine qh ?_
   refine hK4 _ ?_; clear hK4
   (refine qB fun Y Yh=>?_;simp[go_sem];((repeat' (first|apply And.intro|(apply Yh;clear Yh Y)));all_goals first|apply Xi|omega))
   refine ⟨i + 1, ?_, ⟨by omega, hf.trans hst1⟩, by omega⟩
   (refine ql ?_ ?_ <;> simp[go_sem])
 ·refine qp ?_
  simp only [go_sem]
  refine hK1 _ ?_; clear hK1
  have : i = l.length := by omega
  subst this
  (refine qc fun Y Yh=>?_;simp[go_sem];apply Yh;clear Yh Y;apply Xi)
  (refine qi ?_;simp[go_sem, hf, he])
set_option maxHeartbeats 8000000 in
theorem wZ (s : Src) (l : List Prs) (hsu : suV s = true) (hl : l.length ≤ 1000000) : PCall Tryz.prog 78 [dSrc s, dPs l] fun r => r = dB (picksQ s l) := by 
 refine qw Tryz.func78 rfl rfl Tryz.ntmps78 (rs := [.tmp 4]) (tys := [4]) rfl rfl (by simp) ?_
 have hbad := fun n (h : upTo (pickS s l) n = false) (hn : n ≤ l.length) => upTo_bad h l.length hn
 have hst := fun i p => @picks_step s l i p
 have hz : upTo (pickS s l) 0 = true := rfl
 unfold picksQ
 generalize upTo (pickS s l) = nt at *
 (refine qc fun Y Yh=>?_;simp[go_sem];intro _;apply Yh;clear Yh Y;apply Xi)
 refine qA 2 rfl rfl ?_
 simp only [go_sem]
 refine qf fun K1 hK1 => ?_
 (refine qc fun Y Yh=>?_;simp[go_sem];apply Yh;clear Yh Y;apply Xi)
 refine qj ?_
 refine qx (σ := Nat) (fun i => ⟨[(1, dPs l), (2, .rd [dGms s]), (9, dPs l), (10, dI l.length), (11, dI i)], []⟩) (fun i => i ≤ l.length ∧ nt i = true) (fun i => l.length - i) 0 ?_ ?_ ?_
 ·(refine ql ?_ ?_ <;> simp[go_sem])
 ·exact ⟨by omega, hz⟩
 rintro i ⟨hi, hn⟩
 (refine qc fun Y Yh=>?_;simp[go_sem];apply Yh;clear Yh Y;apply Xi)
 refine qf fun K4 hK4 => ?_
 (refine qg fun T F hT hF=>?_;simp[go_sem];refine BR.intro (fun h5=>hT ?_) (fun h5=>hF ?_);all_goals clear hT hF T F;try simp at h5)
 ·refine qh ?_
  refine hK4 _ ?_; clear hK4
  obtain ⟨x, hx⟩ : ∃ x, l[i]? = some x := ⟨_, List.getElem?_eq_getElem (by omega)⟩
  have V := Qw s x hsu
  have hst1 := hst i x hx hn
  have hbad1 := fun h => hbad (i + 1) h (by omega)
  generalize fndP s x = fp at *
  generalize (fndV s x).isSome = vb at *
  refine qf fun K6 hK6 => ?_
  refine qj ?_
  (refine qc fun Y Yh=>?_;simp[go_sem, hx];intro _;apply Yh;clear Yh Y;apply Xi)
  (refine qc fun Y Yh=>?_;simp[go_sem])
  ((try refine Xj ?_);refine qm (.inl ⟨rfl,rfl⟩) (by simp[go_sem]) ?_;intro args ha;simp[go_sem] at ha;subst ha;refine ⟨_, V, ?_⟩;rintro _ rfl;simp[go_sem];intro _;apply Yh;clear Yh Y;apply Xi)
  cases vb with
  | false =>
   have hF := hbad1 (by rw [hst1]; simp)
   ((refine qE (.qs [0, 1, 2] (.sk 3 (.sk 4 (.sk 5 (.sk 6 (.sk 7 (.sk 8 (.sk 9 (.sk 10 (.sk 12 (.sk 11 (.sk 13 (.sk 14 (.sk 15 (.qs [16] (.nil)))))))))))))))) (by kernel_rfl) ?_ ?_ ?_ ?_);kernel_rfl;exact (by decide +kernel);kernel_rfl;intro Y Yh;((repeat' (first|refine qy ?_|(refine qo fun Y Yh=>?_;simp[go_sem, undef])|(refine qC fun Y Yh=>?_;simp[go_sem, undef])|(apply Yh;clear Yh Y)));all_goals apply Xi))
   (refine qg fun T F hT hF=>?_;simp[go_sem];refine hT ?_;clear hT hF T F)
   (refine qc fun Y Yh=>?_;simp[go_sem];apply Yh;clear Yh Y;apply Xi)
   (refine qi ?_;simp[go_sem, hF])
  | true =>
   by_cases h0 : i = 0
   ·subst h0
    have hT : nt 1 = true := by rw [hst1]; simp
    ((refine qE (.qs [0, 1, 2, 3, 4, 5] (.sk 6 (.sk 7 (.sk 8 (.sk 9 (.sk 10 (.sk 12 (.sk 11 (.sk 13 (.sk 14 (.qs [15, 16] (.nil)))))))))))) (by kernel_rfl) ?_ ?_ ?_ ?_);kernel_rfl;exact (by decide +kernel);kernel_rfl;intro Y Yh;((repeat' (first|refine qy ?_|(refine qo fun Y Yh=>?_;simp[go_sem, undef])|(refine qC fun Y Yh=>?_;simp[go_sem, undef])|(apply Yh;clear Yh Y)));all_goals apply Xi))
    (refine qg fun T F hT hF=>?_;simp[go_sem];refine hF ?_;clear hT hF T F)
    refine qh ?_
    refine hK6 _ ?_; clear hK6
    (refine qB fun Y Yh=>?_;simp[go_sem];((repeat' (first|apply And.intro|(apply Yh;clear Yh Y)));all_goals first|apply Xi|omega))
    refine ⟨1, ?_, ⟨by omega, hT⟩, by omega⟩
    (refine ql ?_ ?_ <;> simp[go_sem])
   ·obtain ⟨j, rfl⟩ : ∃ j, i = j + 1 := ⟨i - 1, by omega⟩
    obtain ⟨y, hy⟩ : ∃ y, l[j]? = some y := ⟨_, List.getElem?_eq_getElem (by omega)⟩
    have hi1 : ((j : Int) + 1 - 1).toNat = j := by omega
    have hi2 : (j : Int) + 1 - 1 = j := by omega
    have hi3 : ((j : Int) + 1).toNat = j + 1 := by omega
    have hpos : (0 : Int) < (j : Int) + 1 := by omega
    simp only [Nat.add_sub_cancel, hy] at hst1
    generalize hlb : Op.bytesLess y.1 x.1 = lb at *
    cases lb with
    | false =>
     have hF := hbad1 (by rw [hst1]; simp)
     ((refine qE (.qs [0, 1, 2, 3, 4, 5, 6, 7, 8, 9, 10, 12, 11, 13, 14, 15, 16] (.nil)) (by kernel_rfl) ?_ ?_ ?_ ?_);kernel_rfl;exact (by decide +kernel);kernel_rfl;intro Y Yh;((repeat' (first|refine qy ?_|(refine qo fun Y Yh=>?_;simp[go_sem, hy, hi1, hi2, hi3, hpos, hlb])|apply And.intro|(apply Yh;clear Yh Y)));all_goals first|apply Xi|omega))
     (refine qg fun T F hT hF=>?_;simp[go_sem];refine hT ?_;clear hT hF T F)
     (refine qc fun Y Yh=>?_;simp[go_sem];apply Yh;clear Yh Y;apply Xi)
     (refine qi ?_;simp[go_sem, hF])
    | true =>
     have hT : nt (j + 1 + 1) = true := by rw [hst1]; simp
     ((refine qE (.qs [0, 1, 2, 3, 4, 5, 6, 7, 8, 9, 10, 12, 11, 13, 14, 15, 16] (.nil)) (by kernel_rfl) ?_ ?_ ?_ ?_);kernel_rfl;exact (by decide +kernel);kernel_rfl;intro Y Yh;((repeat' (first|refine qy ?_|(refine qo fun Y Yh=>?_;simp[go_sem, hy, hi1, hi2, hi3, hpos, hlb])|apply And.intro|(apply Yh;clear Yh Y)));all_goals first|apply Xi|omega))
     (refine qg fun T F hT hF=>?_;simp[go_sem];refine hF ?_;clear hT hF T F)
     refine qh ?_
     refine hK6 _ ?_; clear hK6
     (refine qB fun Y Yh=>?_;simp[go_sem];((repeat' (first|apply And.intro|(apply Yh;clear Yh Y)));all_goals first|apply Xi|omega))
     refine ⟨j + 1 + 1, ?_, ⟨by omega, hT⟩, by omega⟩
     (refine ql ?_ ?_ <;> simp[go_sem])
 ·refine qp ?_
  simp only [go_sem]
  refine hK1 _ ?_; clear hK1
  have : i = l.length := by omega
  subst this
  (refine qc fun Y Yh=>?_;simp[go_sem];apply Yh;clear Yh Y;apply Xi)
  (refine qi ?_;simp[go_sem, hn])
theorem QU (l : List Vrs) (f : Nat) (caps : List D) (p : Vrs → Bool) (hp : ∀ x ∈ l, PCall Tryz.prog f (dVr x :: caps) fun r => r = dB (p x)) (hl : l.length ≤ 1000000) : PCall Tryz.prog 187 [dVrs l, .fn f caps] fun r => r = dI (fIx p l) := by
 refine qw Tryz.func187 rfl rfl Tryz.ntmps187 (rs := [.tmp 4]) (tys := [3]) rfl rfl (by simp) ?_
 (refine qc fun Y Yh=>?_;simp[go_sem];apply Yh;clear Yh Y;apply Xi)
 refine qf fun K1 hK1 => ?_
 (refine qc fun Y Yh=>?_;simp[go_sem];apply Yh;clear Yh Y;apply Xi)
 refine qj ?_
 refine qx (σ := Nat) (fun i => ⟨[(0, dVrs l), (1, .fn f caps), (7, dI l.length), (8, dI i)], []⟩) (fun i => i ≤ l.length ∧ (l.take i).any p = false) (fun i => l.length - i) 0 (by (refine ql ?_ ?_ <;> simp[go_sem])) (by simp) ?_
 rintro i ⟨hi, hany⟩
 (refine qc fun Y Yh=>?_;simp[go_sem];apply Yh;clear Yh Y;apply Xi)
 refine qf fun K2 hK2 => ?_
 (refine qg fun T F hT hF=>?_;simp[go_sem];refine BR.intro (fun h3=>hT ?_) (fun h3=>hF ?_);all_goals clear hT hF T F;try simp at h3)
 ·refine qh ?_
  refine hK2 _ ?_; clear hK2
  obtain ⟨x, hx⟩ : ∃ x, l[i]? = some x := ⟨_, List.getElem?_eq_getElem (by omega)⟩
  refine qf fun K4 hK4 => ?_
  refine qj ?_
  (refine qc fun Y Yh=>?_;simp[go_sem];apply Yh;clear Yh Y;apply Xi)
  (refine qc fun Y Yh=>?_;simp[go_sem, hx])
  ((try refine Xj ?_);refine qm (by first|exact .inl ⟨rfl,rfl⟩|exact .inr rfl) (by simp[go_sem]) ?_;intro args ha;simp[go_sem] at ha;subst ha;refine ⟨_, (hp x (List.mem_of_getElem? hx)), ?_⟩;rintro _ rfl;simp[go_sem];apply Yh;clear Yh Y;apply Xi)
  (refine qg fun T F hT hF=>?_;simp[go_sem];refine BR.intro (fun h5=>hT ?_) (fun h5=>hF ?_);all_goals clear hT hF T F;try simp at h5)
  ·(refine qc fun Y Yh=>?_;simp[go_sem];apply Yh;clear Yh Y;apply Xi)
   (refine qi ?_;simp[go_sem])
   rw [fIx_at hany hx h5]
  ·refine qh ?_
   refine hK4 _ ?_; clear hK4
   (refine qB fun Y Yh=>?_;simp[go_sem];((repeat' (first|apply And.intro|(apply Yh;clear Yh Y)));all_goals first|apply Xi|omega))
   refine ⟨i + 1, ?_, ⟨by omega, take_anyG hany hx (by simp [h5])⟩, by omega⟩
   (refine ql ?_ ?_ <;> simp[go_sem])
 ·refine qp ?_
  simp only [go_sem]
  refine hK1 _ ?_; clear hK1
  (refine qc fun Y Yh=>?_;simp[go_sem];apply Yh;clear Yh Y;apply Xi)
  (refine qi ?_;simp[go_sem])
  have : i = l.length := by omega
  subst this
  rw [List.take_length] at hany
  rw [fIx_none hany]
end Go.Proofs.YteekfnhhlcmcgaaGreatDoor
namespace Go.Lk
open Go.Ver
theorem pkd_idx {l : List Prs} (h : NumOk l) (n : Bs) : (l.any (fun p => decide (p.1 = n)) = false ∧ pkdV l n = []) ∨ ∃ p, l.any (fun p => decide (p.1 = n)) = true ∧ l[l.findIdx fun p => decide (p.1 = n)]? = some p ∧ pkdV l n = p.2 ∧ p.2 ≠ [] ∧ p.1 = n := by
 cases hf : l.find? (fun x => decide (x.1 = n)) with
 | none =>
  refine .inl ⟨?_, (pkd_none h).2 hf⟩
  rw [List.any_eq_false]
  intro x hx
  simpa using List.find?_eq_none.1 hf x hx
 | some p =>
  have hm := List.mem_of_find?_eq_some hf
  have hp := List.find?_some hf
  refine .inr ⟨p, by rw [List.any_eq_true]; exact ⟨p, hm, hp⟩, ?_, ?_, h p hm, by simpa using hp⟩
  ·clear hm h
   induction l with
   | nil => cases hf
   | cons x l ih =>
    rw [List.find?_cons] at hf
    rw [List.findIdx_cons]
    cases hx : decide (x.1 = n) with
    | true =>
     rw [hx] at hf
     simp only [cond_true]
     simpa using hf
    | false =>
     rw [hx] at hf
     simp only [cond_false, List.getElem?_cons_succ]
     exact ih hf
  ·unfold pkdV
   rw [hf]; rfl
end Go.Lk
namespace Go.Proofs.YteekfnhhlcmcgaaGreatDoor
open Go.Eng Go.Wh Go.Ver Go.Lk
set_option maxRecDepth 20000
attribute [local irreducible] AG CallA CallT AWp PCall ACall AgC
theorem nclone_own (nm : Nat) (l : List Prs) (hl : l.length ≤ 1000000) (h9 : 900000 ≤ nm) : ACall Tryz.prog 69 [dPs l] [] [nm] fun ps r => ∃ g, ps = [(g, .row 114 2 (l.map cP))] ∧ r = .own nm g := by 
 refine zg Tryz.func69 rfl rfl Tryz.ntmps69 (rs := [.tmp 2]) (tys := [38]) rfl rfl (by simp) (by simp) ?_
 cases l with
 | nil =>
  (refine qc fun Y Yh=>?_;simp[go_sem];apply Yh;clear Yh Y;apply Xi)
  refine qf fun K1 hK1 => ?_
  (refine qc fun Y Yh=>?_;simp[go_sem];((repeat' (first|apply And.intro|(apply Yh;clear Yh Y)));all_goals apply Xi))
  ·(refine qg fun T F hT hF=>?_;simp[go_sem];refine hF ?_;clear hT hF T F)
   refine qh ?_
   refine hK1 _ ?_; clear hK1
   (refine qc fun Y Yh=>?_;simp[go_sem];intro _;intro _;apply Yh;clear Yh Y;apply Xi)
   refine zk 2 nm rfl rfl (fun _ => h9) fun g => ?_
   simp only [go_sem]
   refine qi ?_
   simp [go_sem]
  ·(refine qg fun T F hT hF=>?_;simp[go_sem];refine hT ?_;clear hT hF T F)
   (refine qc fun Y Yh=>?_;simp[go_sem];apply Yh;clear Yh Y;apply Xi)
   refine qU 2 nm 114 2 rfl fun g => ?_
   simp only [go_sem]
   refine qi ?_
   simp [go_sem]
 | cons x r =>
  simp only [List.length_cons] at hl
  (refine qc fun Y Yh=>?_;simp[go_sem];apply Yh;clear Yh Y;apply Xi)
  refine qf fun K1 hK1 => ?_
  (refine qc fun Y Yh=>?_;simp[go_sem];apply Yh;clear Yh Y;apply Xi)
  refine qg fun T F hT hF => ?_
  simp [go_sem]
  refine hF ?_
  refine qh ?_
  refine hK1 _ ?_; clear hK1
  (refine qc fun Y Yh=>?_;simp[go_sem];((repeat' (first|intro _|apply And.intro|(apply Yh;clear Yh Y)));all_goals first|apply Xi|omega))
  refine zk 2 nm rfl rfl (fun _ => h9) fun g => ?_
  simp only [go_sem]
  refine qi ?_
  simp [go_sem]
theorem Z5 {s : Src} (hsu : suV s = true) (p : Prs) : (fndP s p).2.length ≤ 6 := by
 unfold fndP
 cases h : fndV s p with
 | none => simp
 | some v =>
  obtain ⟨g, a, b, c, d⟩ := jb h
  exact (zH ((zh ((qW hsu).2 g a).2).2 v c).2).1
theorem allN_len6 {s : Src} (hsu : suV s = true) (w : List Prs) : ∀ l : List Prs, (allN s w l).length ≤ w.length + l.length * 6
 | [] => by simp [allN]
 | p :: l => by
  have ih := allN_len6 hsu w l
  have hp := Z5 hsu p
  unfold allN at ih ⊢
  simp only [List.length_append, List.flatMap_cons, List.length_cons] at ih ⊢
  omega
set_option maxHeartbeats 8000000 in
theorem ZX (s : Src) (w l : List Prs) (hsu : suV s = true) (hw : w.length ≤ 1000000) (hl : l.length ≤ 1000000) : PCall Tryz.prog 90 [dSrc s, dPs w, dPs l] fun r => r = dPs (allN s w l) := by 
 refine qw Tryz.func90 rfl rfl Tryz.ntmps90 (rs := [.tmp 6]) (tys := [38]) rfl rfl (by simp) ?_
 have hst := fun i p => @allN_step s w l i p
 have h0 : allN s w (l.take 0) = w := allN_nil s w
 have hall : allN s w (l.take l.length) = allN s w l := by rw [List.take_length]
 have hlen := fun i => allN_len6 hsu w (l.take i)
 obtain ⟨F, hF⟩ : ∃ F : Nat → List Prs, ∀ i, allN s w (l.take i) = F i := ⟨_, fun _ => rfl⟩
 simp only [hF] at hst h0 hall hlen
 rw [← hall]
 clear hF hall
 (refine qc fun Y Yh=>?_;simp[go_sem];intro _;apply Yh;clear Yh Y;apply Xi)
 refine qA 3 rfl rfl ?_
 simp only [go_sem]
 (refine qc fun Y Yh=>?_;simp[go_sem])
 (refine qR [900012] (.inl ⟨rfl,rfl⟩) (by simp[go_sem]) ?_;intro args ha;simp[go_sem] at ha;subst ha;refine ⟨_, _, (nclone_own 900012 w hw (by decide)), (by simp[go_sem]), ?_⟩;rintro ps r hps ⟨g0, rfl, rfl⟩;simp[go_sem];apply Yh;clear Yh Y;apply Xi)
 refine qf fun K1 hK1 => ?_
 (refine qc fun Y Yh=>?_;simp[go_sem];apply Yh;clear Yh Y;apply Xi)
 refine qj ?_
 refine qx (σ := Nat × Nat) (fun x => ⟨[(3, .rd [dGms s]), (7, .own 900012 x.2), (14, dPs l), (15, dI l.length), (16, dI x.1)], [(900012, (x.2, .row 114 2 ((F x.1).map cP)))]⟩) (fun x => x.1 ≤ l.length) (fun x => l.length - x.1) (0, g0) ?_ ?_ ?_
 ·(refine ql ?_ ?_ <;> simp[go_sem, h0])
 ·simp
 rintro ⟨i, g⟩ hi
 simp only at hi
 (refine qc fun Y Yh=>?_;simp[go_sem];apply Yh;clear Yh Y;apply Xi)
 refine qf fun K2 hK2 => ?_
 (refine qg fun T F hT hF=>?_;simp[go_sem];refine BR.intro (fun h3=>hT ?_) (fun h3=>hF ?_);all_goals clear hT hF T F;try simp at h3)
 ·refine qh ?_
  refine hK2 _ ?_; clear hK2
  obtain ⟨p, hp⟩ : ∃ p, l[i]? = some p := ⟨_, List.getElem?_eq_getElem (by omega)⟩
  have hst1 := hst i p hp
  have hl1 := hlen i
  have hl2 : (l.take i).length ≤ l.length := by simp; omega
  have V := Qw s p hsu
  have hpl := Z5 hsu p
  generalize fndP s p = fp at *
  generalize (fndV s p).isSome = vb at *
  refine qf fun K4 hK4 => ?_
  refine qj ?_
  (refine qc fun Y Yh=>?_;simp[go_sem, hp];intro _;apply Yh;clear Yh Y;apply Xi)
  (refine qc fun Y Yh=>?_;simp[go_sem])
  ((try refine Xj ?_);refine qm (.inl ⟨rfl,rfl⟩) (by simp[go_sem]) ?_;intro args ha;simp[go_sem] at ha;subst ha;refine ⟨_, V, ?_⟩;rintro _ rfl;simp[go_sem];intro _;apply Yh;clear Yh Y;apply Xi)
  (refine qB fun Y Yh=>?_;simp[go_sem];((repeat' (first|intro _|apply And.intro|(apply Yh;clear Yh Y)));all_goals first|apply Xi|omega))
  rename_i g1 g2
  refine hK4 _ ?_; clear hK4
  (refine qB fun Y Yh=>?_;simp[go_sem];((repeat' (first|apply And.intro|(apply Yh;clear Yh Y)));all_goals first|apply Xi|omega))
  refine ⟨(i + 1, g2), ?_, by simp only; omega, by simp only; omega⟩
  simp only [hst1]
  (refine ql ?_ ?_ <;> simp[go_sem])
 ·refine qp ?_
  simp only [go_sem]
  refine hK1 _ ?_; clear hK1
  have : i = l.length := by omega
  subst this
  (refine qc fun Y Yh=>?_;simp[go_sem];apply Yh;clear Yh Y;apply Xi)
  refine qQ 6 rfl rfl ?_
  simp only [go_sem]
  (refine qi ?_;simp[go_sem])
theorem wG (p n : Prs) : PCall Tryz.prog 131 [dP p, .rd [dS n.1, dS n.2]] fun r => r = dB (decide (p.1 = n.1)) := by 
 refine qw Tryz.func131 rfl rfl Tryz.ntmps131 (rs := [.tmp 3]) (tys := [4]) rfl rfl (by simp) ?_
 (refine qc fun Y Yh=>?_;simp[go_sem];intro _;apply Yh;clear Yh Y;apply Xi)
 (refine qc fun Y Yh=>?_;simp[go_sem];apply Yh;clear Yh Y;apply Xi)
 (refine qi ?_;simp[go_sem])
 by_cases h : p.1 = n.1 <;> simp [h]
set_option maxHeartbeats 8000000 in
theorem Qd (all l : List Prs) (hal : all.length ≤ 100000000) (ha : ∀ x ∈ all, Sz1 x) (hl : l.length ≤ 1000000) (hlz : ∀ x ∈ l, Sz1 x) (hno : NumOk l) : PCall Tryz.prog 89 [dPs all, dPs l] fun r => r = dPs (lackV all l) := by 
 refine qw Tryz.func89 rfl rfl Tryz.ntmps89 (rs := [.tmp 4]) (tys := [38]) rfl rfl (by simp) ?_
 have hst := fun i n => @lack_step all l i n
 have h0 : lackV (all.take 0) l = [] := rfl
 have hall : lackV (all.take all.length) l = lackV all l := by rw [List.take_length]
 have hlen := fun i => lack_len (all.take i) l
 obtain ⟨F, hF⟩ : ∃ F : Nat → List Prs, ∀ i, lackV (all.take i) l = F i := ⟨_, fun _ => rfl⟩
 simp only [hF] at hst h0 hall hlen
 rw [← hall]
 clear hF hall
 (refine qc fun Y Yh=>?_;simp[go_sem];apply Yh;clear Yh Y;apply Xi)
 (refine qc fun Y Yh=>?_;simp[go_sem];apply Yh;clear Yh Y;apply Xi)
 refine qU 5 900013 114 2 rfl fun g5 => ?_
 simp only [go_sem]
 refine qf fun K1 hK1 => ?_
 (refine qc fun Y Yh=>?_;simp[go_sem];apply Yh;clear Yh Y;apply Xi)
 refine qj ?_
 refine qx (σ := Nat × Nat) (fun x => ⟨[(1, dPs l), (5, .own 900013 x.2), (9, dPs all), (10, dI all.length), (11, dI x.1)], [(900013, (x.2, .row 114 2 ((F x.1).map cP)))]⟩) (fun x => x.1 ≤ all.length) (fun x => all.length - x.1) (0, g5) ?_ ?_ ?_
 ·(refine ql ?_ ?_ <;> simp[go_sem, h0])
 ·simp
 rintro ⟨i, g⟩ hi
 simp only at hi
 (refine qc fun Y Yh=>?_;simp[go_sem];apply Yh;clear Yh Y;apply Xi)
 refine qf fun K2 hK2 => ?_
 (refine qg fun T F hT hF=>?_;simp[go_sem];refine BR.intro (fun h3=>hT ?_) (fun h3=>hF ?_);all_goals clear hT hF T F;try simp at h3)
 ·refine qh ?_
  refine hK2 _ ?_; clear hK2
  obtain ⟨n, hn⟩ : ∃ n, all[i]? = some n := ⟨_, List.getElem?_eq_getElem (by omega)⟩
  have hst1 := hst i n hn
  have hl1 := hlen i
  have hl2 : (all.take i).length ≤ all.length := by simp; omega
  have hnz := (ha n (List.mem_of_getElem? hn)).2
  have IX := kM l 131 [.rd [dS n.1, dS n.2]] (fun p => decide (p.1 = n.1)) (fun p _ => wG p n) hl
  refine qf fun K4 hK4 => ?_
  have tl4 : ∀ S' g', Cov S' ⟨[(1, dPs l), (5, .own 900013 g'), (9, dPs all), (10, dI all.length), (11, dI i)], [(900013, (g', .row 114 2 ((F (i + 1)).map cP)))]⟩ → K4 S' := fun S' g' hS => by
   refine hK4 _ ?_; clear hK4
   refine qN hS ?_; clear hS
   (refine qB fun Y Yh=>?_;simp[go_sem];((repeat' (first|apply And.intro|(apply Yh;clear Yh Y)));all_goals first|apply Xi|omega))
   refine ⟨(i + 1, g'), ?_, by simp only; omega, by simp only; omega⟩
   (refine ql ?_ ?_ <;> simp[go_sem])
  clear hK4
  refine qj ?_
  rcases pkd_idx hno n.1 with ⟨q1, q2⟩ | ⟨p, q1, q2, q3, q4, q5⟩
  ·have hlk : lackN l n = true := by unfold lackN; simp [q2]
   rw [if_pos hlk] at hst1
   have hfx : fIx (fun p : Prs => decide (p.1 = n.1)) l = -1 := fIx_none q1
   rw [hfx] at IX
   (refine qc fun Y Yh=>?_;simp[go_sem, hn];intro _;apply Yh;clear Yh Y;apply Xi)
   (refine qc fun Y Yh=>?_;simp[go_sem])
   ((try refine Xj ?_);refine jk (.inl ⟨rfl,rfl⟩) ?_;intro args ha;simp[go_sem] at ha;subst ha;refine ⟨_, IX, ?_⟩;rintro _ rfl;refine ⟨rfl, ?_⟩;simp[go_sem];apply Yh;clear Yh Y;apply Xi)
   ((refine qE (.qs [0, 1, 2] (.sk 3 (.sk 4 (.sk 5 (.sk 6 (.sk 8 (.sk 7 (.sk 9 (.sk 10 (.sk 11 (.qs [12] (.nil)))))))))))) (by kernel_rfl) ?_ ?_ ?_ ?_);kernel_rfl;exact (by decide +kernel);kernel_rfl;intro Y Yh;((repeat' (first|refine qy ?_|(refine qo fun Y Yh=>?_;simp[go_sem, undef])|(refine qC fun Y Yh=>?_;simp[go_sem, undef])|(apply Yh;clear Yh Y)));all_goals apply Xi))
   (refine qg fun T F hT hF=>?_;simp[go_sem];refine hT ?_;clear hT hF T F)
   (refine qB fun Y Yh=>?_;simp[go_sem];((repeat' (first|intro _|apply And.intro|(apply Yh;clear Yh Y)));all_goals first|apply Xi|omega))
   rename_i g1 g2
   refine tl4 _ g2 ?_
   rw [hst1]
   (refine ql ?_ ?_ <;> simp[go_sem])
  ·have hfx : fIx (fun p : Prs => decide (p.1 = n.1)) l = ((l.findIdx fun p => decide (p.1 = n.1) : Nat) : Int) := by unfold fIx; rw [if_pos q1]
   rw [hfx] at IX
   generalize l.findIdx (fun p => decide (p.1 = n.1)) = k at *
   have hkl := (List.getElem?_eq_some_iff.1 q2).1
   have M := jc p.2 n.2 (hlz p (List.mem_of_getElem? q2)).2 hnz
   have hlk : lackN l n = !meetsP p.2 n.2 := by unfold lackN; rw [q3]; simp [q4]
   rw [hlk] at hst1
   generalize meetsP p.2 n.2 = mb at *
   have hk0 : ¬ ((k : Int) < 0) := by omega
   (refine qc fun Y Yh=>?_;simp[go_sem, hn];intro _;apply Yh;clear Yh Y;apply Xi)
   (refine qc fun Y Yh=>?_;simp[go_sem])
   ((try refine Xj ?_);refine jk (.inl ⟨rfl,rfl⟩) ?_;intro args ha;simp[go_sem] at ha;subst ha;refine ⟨_, IX, ?_⟩;rintro _ rfl;refine ⟨rfl, ?_⟩;simp[go_sem];apply Yh;clear Yh Y;apply Xi)
   ((refine qE (.qs [0, 1, 2, 3, 4, 5, 6, 8, 7, 9] (.one 10 (.qs [11, 12] (.nil)))) (by kernel_rfl) ?_ ?_ ?_ ?_);kernel_rfl;exact (by decide +kernel);kernel_rfl;intro Y Yh;((repeat' (first|(refine qH ?_;simp[go_sem, hk0, q2])|(refine qo fun Y Yh=>?_;simp[go_sem, hk0, q2])|(refine qC fun Y Yh=>?_;simp[go_sem, hk0, q2])|(apply Yh;clear Yh Y)))))
   (refine qX (dB mb) (.inl ⟨rfl,rfl⟩) ?_ rfl ?_;(intro hc args ha;simp[go_sem] at ha;subst ha;exact M);simp[go_sem, hk0, q2];((repeat' (first|refine qy ?_|(refine qo fun Y Yh=>?_;simp[go_sem, hk0, q2])|(apply Yh;clear Yh Y)));all_goals apply Xi))
   cases mb with
   | false =>
    (refine qg fun T F hT hF=>?_;simp[go_sem];refine hT ?_;clear hT hF T F)
    (refine qB fun Y Yh=>?_;simp[go_sem];((repeat' (first|intro _|apply And.intro|(apply Yh;clear Yh Y)));all_goals first|apply Xi|omega))
    rename_i g1 g2
    refine tl4 _ g2 ?_
    rw [hst1]
    (refine ql ?_ ?_ <;> simp[go_sem])
   | true =>
    (refine qg fun T F hT hF=>?_;simp[go_sem];refine hF ?_;clear hT hF T F)
    refine qh ?_
    refine tl4 _ g ?_
    rw [hst1]
    (refine ql ?_ ?_ <;> simp[go_sem])
 ·refine qp ?_
  simp only [go_sem]
  refine hK1 _ ?_; clear hK1
  have : i = all.length := by omega
  subst this
  (refine qc fun Y Yh=>?_;simp[go_sem];apply Yh;clear Yh Y;apply Xi)
  refine qQ 4 rfl rfl ?_
  simp only [go_sem]
  (refine qi ?_;simp[go_sem])
end Go.Proofs.YteekfnhhlcmcgaaGreatDoor
set_option linter.unusedSectionVars false
namespace Go.Eng
variable {P : Program} [HasGlob P]
end Go.Eng
set_option linter.unusedSectionVars false
namespace Go.Eng
variable {P : Program} [HasGlob P]
/-! results that hold an own row inside a struct of one cell, and such structs as arguments -/
def frzDG (ss : List Nat) (S : St) (d : D) (k : St → D → Prop) : Prop :=
 match d with
 | .agg [.own s g] => if ss.contains s then k S (.agg [.own s g]) else frzDA ss S (.agg [.own s g]) k
 | d => frzDA ss S d k
def frzDsG (ss : List Nat) : St → List D → (St → List D → Prop) → Prop
 | S, [], k => k S []
 | S, d :: ds, k => frzDG ss S d fun S' d' => frzDsG ss S' ds fun S'' ds' => k S'' (d' :: ds')
def retG (P : Program) (rs : List ResultVar) (tys : List TypeId) (ss : List Nat) (R : List (Nat × Blk) → D → Prop) : Exit → St → Prop
 | .normal, S | .ret, S => resL P S rs fun ds => frzDsG ss S ds fun S' ds' => postK S' ss fun ps => R ps (pack (nilDs P tys ds'))
 | _, _ => False
section
variable {w0 w : World} {B : Nat → Nat → Prop} {C0 C : Ctx} {n : Nat} {a : Act} {S : St}
end
attribute [go_sem] retG frzDsG frzDG
end Go.Eng
set_option linter.unusedSectionVars false
namespace Go.Eng
variable {P : Program} [HasGlob P]
theorem flat_get {α : Type} {k : Nat} : ∀ {xs : List (List α)}, (∀ x ∈ xs, x.length = k) → ∀ (i j : Nat), j < k → xs.flatten[i * k + j]? = (xs[i]?).bind fun x => x[j]?
 | [], _, i, j, _ => by simp
 | x :: xs, h, 0, j, hj => by
  have hx := h x (by simp)
  rw [List.flatten_cons, Nat.zero_mul, Nat.zero_add, List.getElem?_append_left (by omega)]
  simp
 | x :: xs, h, i + 1, j, hj => by
  have hx := h x (by simp)
  have e : (i + 1) * k + j = k + (i * k + j) := by rw [Nat.succ_mul]; omega
  rw [List.flatten_cons, e, List.getElem?_append_right (by omega), hx, Nat.add_sub_cancel_left, flat_get (fun y hy => h y (by simp [hy])) i j hj]
  simp
theorem flat_len {α : Type} {k : Nat} : ∀ {xs : List (List α)}, (∀ x ∈ xs, x.length = k) → xs.flatten.length = xs.length * k
 | [], _ => by simp
 | x :: xs, h => by
  have hx := h x (by simp)
  rw [List.flatten_cons, List.length_append, flat_len (fun y hy => h y (by simp [hy])), hx, List.length_cons, Nat.succ_mul, Nat.add_comm]
end Go.Eng
namespace Go.Proofs.YteekfnhhlcmcgaaGreatDoor
open Go.Eng Go.Wh Go.Ver
set_option maxRecDepth 20000
attribute [local irreducible] AG CallA CallT AWp PCall ACall AgC
open Go.Shelf Go.RowKit Go.Lib Go.Sort
end Go.Proofs.YteekfnhhlcmcgaaGreatDoor
namespace Go.Proofs.YteekfnhhlcmcgaaGreatDoor
open Go.Eng Go.Wh Go.Ver Go.Lk
set_option maxRecDepth 20000
attribute [local irreducible] AG CallA CallT AWp PCall ACall AgC
theorem mT_len (ns : List Bs) : (mT ns).length = ns.length := by simp [mT]
set_option maxHeartbeats 8000000 in
theorem Js (s : Src) (w l : List Prs) (hsu : suV s = true) (hw : SzN w) (hl : l.length ≤ 1000000) (hlz : ∀ x ∈ l, Sz1 x) (hno : NumOk l) (hnd : (l.map (·.1)).Nodup) : PCall Tryz.prog 88 [dSrc s, dPs w, dPs l] fun r => r = dB (solQ (allN s w l) l) := by 
 refine qw Tryz.func88 rfl rfl Tryz.ntmps88 (rs := [.tmp 6]) (tys := [4]) rfl rfl (by simp) ?_
 have A := ZX s w l hsu hw.1 hl
 have hal := allN_len6 hsu w l
 have ham := allN_mem (l := l) (zY hsu) hw.2
 have hw0 := hw.1
 have M := Qd (allN s w l) l (by omega) ham hl hlz hno
 have hsc := sol_count (all := allN s w l) hnd hno
 have hst := fun i n => @nset_snoc (allN s w l) i n
 rw [← hsc]
 generalize allN s w l = all at *
 clear hsc
 (refine qc fun Y Yh=>?_;simp[go_sem];intro _;apply Yh;clear Yh Y;apply Xi)
 refine qA 3 rfl rfl ?_
 simp only [go_sem]
 (refine qc fun Y Yh=>?_;simp[go_sem])
 ((try refine Xj ?_);refine qm (.inl ⟨rfl,rfl⟩) (by simp[go_sem]) ?_;intro args ha;simp[go_sem] at ha;subst ha;refine ⟨_, A, ?_⟩;rintro _ rfl;simp[go_sem];apply Yh;clear Yh Y;apply Xi)
 (refine qc fun Y Yh=>?_;simp[go_sem];intro _;apply Yh;clear Yh Y;apply Xi)
 rename_i gm
 refine qf fun K1 hK1 => ?_
 (refine qc fun Y Yh=>?_;simp[go_sem];apply Yh;clear Yh Y;apply Xi)
 refine qj ?_
 refine qx (σ := Nat) (fun i => ⟨[(2, dPs l), (7, dPs all), (8, .own 15 gm), (16, dPs all), (17, dI all.length), (18, dI i)], [(15, (gm, .map (mT (nset all i))))]⟩) (fun i => i ≤ all.length) (fun i => all.length - i) 0 ?_ ?_ ?_
 ·(refine ql ?_ ?_ <;> simp[go_sem, mT, nset])
 ·simp
 rintro i hi
 (refine qc fun Y Yh=>?_;simp[go_sem];apply Yh;clear Yh Y;apply Xi)
 refine qf fun K2 hK2 => ?_
 (refine qg fun T F hT hF=>?_;simp[go_sem];refine BR.intro (fun h3=>hT ?_) (fun h3=>hF ?_);all_goals clear hT hF T F;try simp at h3)
 ·refine qh ?_
  refine hK2 _ ?_; clear hK2
  obtain ⟨n, hn⟩ : ∃ n, all[i]? = some n := ⟨_, List.getElem?_eq_getElem (by omega)⟩
  have hst1 := hst i n hn
  refine qf fun K4 hK4 => ?_
  refine qj ?_
  (refine qc fun Y Yh=>?_;simp[go_sem, hn];intro _;apply Yh;clear Yh Y;apply Xi)
  (refine qB fun Y Yh=>?_;simp[go_sem, mput_mT, mfind_mT];apply Yh;clear Yh Y;apply Xi)
  refine hK4 _ ?_; clear hK4
  (refine qB fun Y Yh=>?_;simp[go_sem];((repeat' (first|apply And.intro|(apply Yh;clear Yh Y)));all_goals first|apply Xi|omega))
  refine ⟨i + 1, ?_, by omega, by omega⟩
  rw [hst1]
  (refine ql ?_ ?_ <;> simp[go_sem])
 ·refine qp ?_
  simp only [go_sem]
  refine hK1 _ ?_; clear hK1
  have : i = all.length := by omega
  subst this
  refine qf fun K5 hK5 => ?_
  generalize lackV all l = L at *
  (refine qc fun Y Yh=>?_;simp[go_sem])
  ((try refine Xj ?_);refine qm (.inl ⟨rfl,rfl⟩) (by simp[go_sem]) ?_;intro args ha;simp[go_sem] at ha;subst ha;refine ⟨_, M, ?_⟩;rintro _ rfl;simp[go_sem];apply Yh;clear Yh Y;apply Xi)
  cases L with
  | nil =>
   (refine qg fun T F hT hF=>?_;simp[go_sem];refine hF ?_;clear hT hF T F)
   refine qh ?_
   refine hK5 _ ?_; clear hK5
   (refine qc fun Y Yh=>?_;simp[go_sem, mT_len];apply Yh;clear Yh Y;apply Xi)
   (refine qi ?_;simp[go_sem])
  | cons x L =>
   (refine qg fun T F hT hF=>?_;simp[go_sem];refine hT ?_;clear hT hF T F)
   (refine qc fun Y Yh=>?_;simp[go_sem];apply Yh;clear Yh Y;apply Xi)
   (refine qi ?_;simp[go_sem])
theorem pick_sz {s : Src} {l : List Prs} (hsu : suV s = true) (h : PickOk s l) : ∀ x ∈ l, Sz1 x := fun x hx => by
 have hs := zY hsu
 obtain ⟨g, hg, e1, v, hv, e2⟩ := h.1 x hx
 have := hs.2 g hg
 exact ⟨by rw [← e1]; exact this.1, by rw [← e2]; exact (this.2.2 v hv).1⟩
def okQ (s : Src) (w l : List Prs) : Bool := chkV s w && picksQ s l
set_option maxHeartbeats 8000000 in
theorem Xb (s : Src) (w l : List Prs) (hs : SzS s) (hw : SzN w) (hl : l.length ≤ 1000000) : PCall Tryz.prog 35 [dSrc s, dPs w, dPs l] fun r => r = .tup [dB (okQ s w l && solQ (allN s w l) l), dI (if okQ s w l = true then 0 else 1)] := by 
 refine qw Tryz.func35 rfl rfl Tryz.ntmps35 (rs := [.tmp 6, .tmp 7]) (tys := [4, 35]) rfl rfl (by simp) ?_
 have C := jd s w hs hw
 unfold okQ
 by_cases hc : chkV s w = true
 ·have hsu := (x8 hc).1
  have P1 := wZ s l hsu hl
  rw [if_pos hc] at C
  by_cases hp : picksQ s l = true
  ·have hpo := picksQ_ok hp
   have I := Js s w l hsu hw hl (pick_sz hsu hpo) (pickOk_num hsu hpo) hpo.2
   generalize solQ (allN s w l) l = sq at *
   rw [hp] at P1
   (refine qc fun Y Yh=>?_;simp[go_sem];intro _;apply Yh;clear Yh Y;apply Xi)
   refine qA 3 rfl rfl ?_
   simp only [go_sem]
   refine qf fun K1 hK1 => ?_
   (refine qc fun Y Yh=>?_;simp[go_sem])
   ((try refine Xj ?_);refine qm (.inl ⟨rfl,rfl⟩) (by simp[go_sem]) ?_;intro args ha;simp[go_sem] at ha;subst ha;refine ⟨_, C, ?_⟩;rintro _ rfl;simp[go_sem];((repeat' (refine qH ?_;simp[go_sem]))))
   (refine qX (dB true) (.inl ⟨rfl,rfl⟩) ?_ rfl ?_;(intro hc args ha;simp[go_sem] at ha;subst ha;exact P1);simp[go_sem];refine qH ?_;simp[go_sem];apply Yh;clear Yh Y;apply Xi)
   (refine qg fun T F hT hF=>?_;simp[go_sem];refine hF ?_;clear hT hF T F)
   refine qh ?_
   refine hK1 _ ?_; clear hK1
   (refine qc fun Y Yh=>?_;simp[go_sem])
   ((try refine Xj ?_);refine qm (.inl ⟨rfl,rfl⟩) (by simp[go_sem]) ?_;intro args ha;simp[go_sem] at ha;subst ha;refine ⟨_, I, ?_⟩;rintro _ rfl;simp[go_sem];apply Yh;clear Yh Y;apply Xi)
   (refine qi ?_;simp[go_sem, hc, hp])
  ·have hp' : picksQ s l = false := by simpa using hp
   rw [hp'] at P1
   (refine qc fun Y Yh=>?_;simp[go_sem];intro _;apply Yh;clear Yh Y;apply Xi)
   refine qA 3 rfl rfl ?_
   simp only [go_sem]
   refine qf fun K1 hK1 => ?_
   (refine qc fun Y Yh=>?_;simp[go_sem])
   ((try refine Xj ?_);refine qm (.inl ⟨rfl,rfl⟩) (by simp[go_sem]) ?_;intro args ha;simp[go_sem] at ha;subst ha;refine ⟨_, C, ?_⟩;rintro _ rfl;simp[go_sem];((repeat' (refine qH ?_;simp[go_sem]))))
   (refine qX (dB false) (.inl ⟨rfl,rfl⟩) ?_ rfl ?_;(intro hc args ha;simp[go_sem] at ha;subst ha;exact P1);simp[go_sem];refine qH ?_;simp[go_sem];apply Yh;clear Yh Y;apply Xi)
   (refine qg fun T F hT hF=>?_;simp[go_sem];refine hT ?_;clear hT hF T F)
   (refine qc fun Y Yh=>?_;simp[go_sem];apply Yh;clear Yh Y;apply Xi)
   (refine qi ?_;simp[go_sem, hc, hp'])
 ·have hc' : chkV s w = false := by simpa using hc
  rw [if_neg hc] at C
  (refine qc fun Y Yh=>?_;simp[go_sem];intro _;apply Yh;clear Yh Y;apply Xi)
  refine qA 3 rfl rfl ?_
  simp only [go_sem]
  refine qf fun K1 hK1 => ?_
  (refine qc fun Y Yh=>?_;simp[go_sem])
  ((try refine Xj ?_);refine qm (.inl ⟨rfl,rfl⟩) (by simp[go_sem]) ?_;intro args ha;simp[go_sem] at ha;subst ha;refine ⟨_, C, ?_⟩;rintro _ rfl;simp[go_sem];((repeat' (first|(refine qG (by simp[go_sem, undef]) (by simp[go_sem]) ?_;simp[go_sem])|intro _|apply And.intro|(apply Yh;clear Yh Y)));all_goals first|apply Xi|omega|assumption|skip))
  (refine qg fun T F hT hF=>?_;simp[go_sem];refine hT ?_;clear hT hF T F)
  (refine qc fun Y Yh=>?_;simp[go_sem];apply Yh;clear Yh Y;apply Xi)
  (refine qi ?_;simp[go_sem, hc'])
theorem map_take_snoc2 {α : Type} (f : α → List D) {l : List α} {i : Nat} {x : α} (h : l[i]? = some x) : (l.take (i + 1)).map f = (l.take i).map f ++ [f x] := by rw [List.take_add_one, h]; simp
theorem take_map_len2 {α : Type} (f : α → List D) (l : List α) : (l.map f).take l.length = l.map f := by
 conv => lhs; rw [← List.length_map (f := f)]
 exact List.take_length
set_option maxHeartbeats 4000000 in
theorem Zd (l : List Prs) (hl : l.length ≤ 1000000) : PCall Tryz.prog 17 [dPs l] fun r => r = dPs l := by 
 refine qw Tryz.func17 rfl rfl Tryz.ntmps17 (rs := [.tmp 2]) (tys := [38]) rfl rfl (by simp) ?_
 (refine qc fun Y Yh=>?_;simp[go_sem];apply Yh;clear Yh Y;apply Xi)
 (refine qc fun Y Yh=>?_;simp[go_sem];apply Yh;clear Yh Y;apply Xi)
 refine qU 3 3 114 2 rfl fun g3 => ?_
 simp only [go_sem]
 refine qf fun K1 hK1 => ?_
 (refine qc fun Y Yh=>?_;simp[go_sem];apply Yh;clear Yh Y;apply Xi)
 refine qj ?_
 refine qx (σ := Nat × Nat) (fun x => ⟨[(0, dPs l), (3, .own 3 x.2), (4, dI x.1)], [(3, x.2, .row 114 2 ((l.take x.1).map cP))]⟩) (fun x => x.1 ≤ l.length) (fun x => l.length - x.1) (0, g3) ?_ ?_ ?_
 ·(refine ql ?_ ?_ <;> simp[go_sem])
 ·simp
 rintro ⟨i, g⟩ hi
 simp only at hi
 refine qf fun K2 hK2 => ?_
 (refine qc fun Y Yh=>?_;simp[go_sem];apply Yh;clear Yh Y;apply Xi)
 (refine qg fun T F hT hF=>?_;simp[go_sem];refine BR.intro (fun h3=>hT ?_) (fun h3=>hF ?_);all_goals clear hT hF T F;try simp at h3) 
 ·refine qh ?_
  refine hK2 _ ?_; clear hK2
  obtain ⟨x, hx⟩ : ∃ x, l[i]? = some x := ⟨_, List.getElem?_eq_getElem (by omega)⟩
  have htk : l.take (i + 1) = l.take i ++ [x] := by rw [List.take_add_one, hx]; rfl
  refine qf fun K4 hK4 => ?_
  refine qj ?_
  ((refine zA (.qs [0, 1, 2, 3, 4, 6, 7, 8, 9, 5, 10, 11] (.one 12 (.one 13 (.qs [14] (.nil))))) (by kernel_rfl) ?_ ?_ ?_ ?_);kernel_rfl;exact (by decide +kernel);kernel_rfl;intro Y Yh;((repeat' (first|refine qy ?_|(refine qo fun Y Yh=>?_;simp[go_sem, hx])|(refine qC fun Y Yh=>?_;simp[go_sem, hx])|intro _|apply And.intro|(apply Yh;clear Yh Y)));all_goals first|apply Xi|omega))
  refine hK4 _ ?_; clear hK4
  rename_i g' _
  refine zk 3 3 rfl rfl (by decide) fun g'' => ?_
  simp only [go_sem]
  (refine qB fun Y Yh=>?_;simp[go_sem];((repeat' (first|apply And.intro|(apply Yh;clear Yh Y)));all_goals first|apply Xi|omega))
  refine ⟨(i + 1, g''), ?_, by simp only; omega, by simp only; omega⟩
  simp only [htk]
  (refine ql ?_ ?_ <;> simp[go_sem])
 ·refine qp ?_
  simp only [go_sem]
  refine hK1 _ ?_; clear hK1
  have : i = l.length := by omega
  subst this
  (refine qc fun Y Yh=>?_;simp[go_sem];apply Yh;clear Yh Y;apply Xi)
  refine qQ 2 rfl rfl ?_
  simp only [go_sem]
  have htl : List.take l.length (l.map cP) = l.map cP := by
   conv => lhs; rw [← List.length_map (f := cP)]
   exact List.take_length
  (refine qi ?_;simp[go_sem, htl])
set_option maxHeartbeats 16000000 in
theorem Jo (s : Src) (hs : SzS s) : PCall Tryz.prog 15 [dSrc s] fun r => r = dSrc s := by 
 refine qw Tryz.func15 rfl rfl Tryz.ntmps15 (rs := [.cell 2 32]) (tys := [32]) rfl rfl (by simp) ?_
 obtain ⟨hs0, hs1⟩ := hs
 (refine qc fun Y Yh=>?_;simp[go_sem];intro _;intro _;apply Yh;clear Yh Y;apply Xi)
 refine qA 1 rfl rfl ?_
 simp only [go_sem]
 rename_i g2
 (refine qc fun Y Yh=>?_;simp[go_sem];intro _;apply Yh;clear Yh Y;apply Xi)
 rename_i g3
 refine zo 900021 119 2 0 (sb := 3) rfl rfl (by decide) fun gr0 => ?_
 simp only [List.set, go_sem]
 refine qf fun K1 hK1 => ?_
 (refine qc fun Y Yh=>?_;simp[go_sem];apply Yh;clear Yh Y;apply Xi)
 refine qj ?_
 refine qx (σ := Nat × Nat) (fun x => ⟨[(1, .rd [dGms s]), (2, .ptr 2 g2 0), (3, .ptr 3 g3 0), (4, dI x.1)], [(2, (g2, .box [.v (.slice none 0 0)])), (3, (g3, .box [.own 900021 x.2])), (900021, (x.2, .row 119 2 ((s.take x.1).map cGm)))]⟩) (fun x => x.1 ≤ s.length) (fun x => s.length - x.1) (0, gr0) ?_ ?_ ?_
 ·(refine ql ?_ ?_ <;> simp[go_sem])
 ·simp
 rintro ⟨i, gr⟩ hi
 simp only at hi
 refine qf fun K2 hK2 => ?_
 (refine qc fun Y Yh=>?_;simp[go_sem];apply Yh;clear Yh Y;apply Xi)
 (refine qg fun T F hT hF=>?_;simp[go_sem];refine BR.intro (fun h3=>hT ?_) (fun h3=>hF ?_);all_goals clear hT hF T F;try simp at h3)
 ·refine qh ?_
  refine hK2 _ ?_; clear hK2
  obtain ⟨x, hx⟩ : ∃ x, s[i]? = some x := ⟨_, List.getElem?_eq_getElem (by omega)⟩
  obtain ⟨hx0, hx1, hx2⟩ := hs1 x (List.mem_of_getElem? hx)
  have htk := map_take_snoc2 cGm hx
  refine qf fun K4 hK4 => ?_
  refine qj ?_
  (refine qc fun Y Yh=>?_;simp[go_sem, hx];intro _;apply Yh;clear Yh Y;apply Xi)
  rename_i g5
  refine zo 900022 116 2 1 (sb := 5) rfl rfl (by decide) fun gv0 => ?_
  simp only [List.set, go_sem]
  refine qf fun K5 hK5 => ?_
  (refine qc fun Y Yh=>?_;simp[go_sem];apply Yh;clear Yh Y;apply Xi)
  refine qj ?_
  refine qx (σ := Nat × Nat) (fun y => ⟨[(1, .rd [dGms s]), (2, .ptr 2 g2 0), (3, .ptr 3 g3 0), (4, dI i), (5, .ptr 5 g5 0), (6, dI y.1)], [(2, (g2, .box [.v (.slice none 0 0)])), (3, (g3, .box [.own 900021 gr])), (900021, (gr, .row 119 2 ((s.take i).map cGm))), (5, (g5, .box [dS x.1, .own 900022 y.2])), (900022, (y.2, .row 116 2 ((x.2.take y.1).map cVr)))]⟩) (fun y => y.1 ≤ x.2.length) (fun y => x.2.length - y.1) (0, gv0) ?_ ?_ ?_
  ·(refine ql ?_ ?_ <;> simp[go_sem])
  ·simp
  rintro ⟨k, gv⟩ hk
  simp only at hk
  refine qf fun K6 hK6 => ?_
  (refine qc fun Y Yh=>?_;simp[go_sem, hx];apply Yh;clear Yh Y;apply Xi)
  (refine qg fun T F hT hF=>?_;simp[go_sem];refine BR.intro (fun h7=>hT ?_) (fun h7=>hF ?_);all_goals clear hT hF T F;try simp at h7)
  ·refine qh ?_
   refine hK6 _ ?_; clear hK6
   obtain ⟨v, hv⟩ : ∃ v, x.2[k]? = some v := ⟨_, List.getElem?_eq_getElem (by omega)⟩
   obtain ⟨hv0, hv1⟩ := hx2 v (List.mem_of_getElem? hv)
   have htv := map_take_snoc2 cVr hv
   have B := Zd v.2 hv1.1
   refine qf fun K8 hK8 => ?_
   refine qj ?_
   (refine qc fun Y Yh=>?_;simp[go_sem, hx, hv];intro _;apply Yh;clear Yh Y;apply Xi)
   ((refine zA (.qs [0, 2, 4, 1, 3, 5] (.kp 6 (.qs [7] (.kp 8 (.one 9 (.qs [10] (.one 11 (.nil)))))))) (by kernel_rfl) ?_ ?_ ?_ ?_);kernel_rfl;exact (by decide +kernel);kernel_rfl;intro Y Yh;((repeat' (first|(refine qo fun Y Yh=>?_;simp[go_sem])|(refine qC fun Y Yh=>?_;simp[go_sem])|(apply Yh;clear Yh Y)))))
   ((try refine Xj ?_);refine qm (.inl ⟨rfl,rfl⟩) (by simp[go_sem]) ?_;intro args ha;simp[go_sem] at ha;subst ha;refine ⟨_, B, ?_⟩;rintro _ rfl;simp[go_sem];((repeat' (first|refine qy ?_|(refine qo fun Y Yh=>?_;simp[go_sem])|(refine qC fun Y Yh=>?_;simp[go_sem])|intro _|apply And.intro|(apply Yh;clear Yh Y)));all_goals first|apply Xi|omega))
   refine hK8 _ ?_; clear hK8
   rename_i gq gv'
   (refine qB fun Y Yh=>?_;simp[go_sem];((repeat' (first|apply And.intro|(apply Yh;clear Yh Y)));all_goals first|apply Xi|omega))
   refine ⟨(k + 1, gv'), ?_, by simp only; omega, by simp only; omega⟩
   simp only [htv]
   (refine ql ?_ ?_ <;> simp[go_sem])
  ·refine qp ?_
   simp only [go_sem]
   refine hK5 _ ?_; clear hK5
   have : k = x.2.length := by omega
   subst this
   refine zq 900022 5 1 rfl rfl (by decide) rfl ?_
   simp only [go_sem, List.set]
   (refine qB fun Y Yh=>?_;simp[go_sem];((repeat' (first|intro _|apply And.intro|(apply Yh;clear Yh Y)));all_goals first|apply Xi|omega))
   rename_i gq gr'
   refine hK4 _ ?_; clear hK4
   (refine qB fun Y Yh=>?_;simp[go_sem];((repeat' (first|apply And.intro|(apply Yh;clear Yh Y)));all_goals first|apply Xi|omega))
   refine ⟨(i + 1, gr'), ?_, by simp only; omega, by simp only; omega⟩
   simp only [htk]
   (refine ql ?_ ?_ <;> simp[go_sem, take_map_len2])
 ·refine qp ?_
  simp only [go_sem]
  refine hK1 _ ?_; clear hK1
  have : i = s.length := by omega
  subst this
  refine zq 900021 3 0 rfl rfl (by decide) rfl ?_
  simp only [go_sem, List.set]
  (refine qc fun Y Yh=>?_;simp[go_sem];apply Yh;clear Yh Y;apply Xi)
  (refine qi ?_;simp[go_sem, take_map_len2])
end Go.Proofs.YteekfnhhlcmcgaaGreatDoor
namespace Go.Lk
open Go.Lib Go.Wh Go.Ver
/-! picks that numbers choose, gem by gem -/
structure Cho (s : Src) (i : Nat) (l : List Prs) : Prop where
 asc : Asc l
 fnd : ∀ p ∈ l, ∃ v, fndV s p = some v
 nm : ∀ p ∈ l, ∃ g ∈ s.take i, g.1 = p.1
 len : l.length ≤ i
/-! what the laws ask -/
/-! orders of picks, found from the end on -/
/-! greater versions, gem by gem -/
/-! needs by gem, as the program sorts them -/
def ltG (x y : Prs) : Bool := Op.bytesLess x.1 y.1
theorem wk_ltG : Weakly ltG where
 anti := fun x y h => by
  unfold ltG at *
  cases hq : Op.bytesLess y.1 x.1 with
  | false => rfl
  | true =>
   have := bl_trans h hq
   rw [bl_irr] at this; cases this
 neg := fun x y z h1 h2 => by
  unfold ltG at *
  cases hq : Op.bytesLess z.1 x.1 with
  | false => rfl
  | true =>
   rcases bl_tri y.1 z.1 with q | q | q
   ·rw [← q, h1] at hq; cases hq
   ·have := bl_trans q hq
    rw [h1] at this; cases this
   ·rw [h2] at q; cases q
theorem srtG {l : List Prs} (h : (l.map (·.1)).Nodup) : sortL ltG l = srtP l := by
 refine asc_ext ?_ (srt_asc h) fun x => by rw [jo]; exact sort_mem
 have h1 : Srt ltG (sortL ltG l) := sort_srt wk_ltG l
 have h2 : ((sortL ltG l).map (·.1)).Nodup := ((sortL_perm (lt := ltG) l).map (·.1)).nodup_iff.2 h
 have h3 : (sortL ltG l).Pairwise fun x y => x.1 ≠ y.1 := by rwa [List.Nodup, List.pairwise_map] at h2
 refine (List.Pairwise.and h1 h3).imp fun {x y} q => ?_
 have := q.1
 unfold ltG at this
 rcases bl_tri x.1 y.1 with e | e | e
 ·exact absurd e q.2
 ·exact e
 ·rw [e] at this; cases this
theorem fnd_nu {s : Src} (hs : suV s = true) (p : Prs) : (fndP s p).2.length ≤ 6 ∧ ((fndP s p).2.map (·.1)).Nodup := by
 unfold fndP
 cases h : fndV s p with
 | none => simp
 | some v =>
  obtain ⟨g, a, b, c, d⟩ := jb h
  have := ((zh ((qW hs).2 g a).2).2 v c).2
  exact ⟨(zH this).1, jy this⟩
theorem kept_take {s : Src} {P : List Prs} {gem : Bs} {i : Nat} {g : Gm} (h : s[i]? = some g) : keptV (s.take (i + 1)) P gem = keptV (s.take i) P gem ++ [keepG P gem g] := by
 unfold keptV
 rw [List.take_add_one, h]; simp
end Go.Lk
