/- Part of a proof: see the last text. -/
import Derived.Test.YteekfnhhlcmcgaaGreatDoorH13
import Derived.Test.YteekfnhhlcmcgaaGreatDoorH07
import Derived.Test.YteekfnhhlcmcgaaGreatDoorH02
import Derived.Lib.SlicesCompact
import Derived.Test.YteekfnhhlcmcgaaGreatDoorH08
import Derived.Test.YteekfnhhlcmcgaaGreatDoorH10
import Derived.Test.YteekfnhhlcmcgaaGreatDoorH11
set_option linter.unusedVariables false
set_option linter.unusedSimpArgs false
namespace Go.Proofs.YteekfnhhlcmcgaaGreatDoor
open Go.Eng Go.Wh Go.Ver Go.Lk
set_option maxRecDepth 20000
attribute [local irreducible] AG CallA CallT AWp PCall ACall AgC
def cG1 (x y : Prs) : Int := scmpV x.1 y.1
theorem ltF_G : (ltF cG1 : Prs → Prs → Bool) = ltG := by
 funext x y
 unfold ltF cG1 ltG
 rw [Bool.eq_iff_iff, decide_eq_true_eq, scmp_neg]
theorem Zc (x y : Prs) : PCall Tryz.prog 186 [dP x, dP y] fun r => r = dI (cG1 x y) := by 
 refine qw Tryz.func186 rfl rfl Tryz.ntmps186 (rs := [.tmp 4]) (tys := [3]) rfl rfl (by simp) ?_
 (refine qc fun Y Yh=>?_;simp[go_sem];intro _;intro _;apply Yh;clear Yh Y;apply Xi)
 (refine qc fun Y Yh=>?_;simp[go_sem])
 ((try refine Xj ?_);refine qm (.inl ⟨rfl,rfl⟩) (by simp[go_sem]) ?_;intro args ha;simp[go_sem] at ha;subst ha;refine ⟨_, (xg x.1 y.1), ?_⟩;rintro _ rfl;simp[go_sem];apply Yh;clear Yh Y;apply Xi)
 (refine qi ?_;simp[go_sem, cG1])
theorem vU (l : List Prs) (hl : l.length ≤ 12) (hn : (l.map (·.1)).Nodup) : PCall Tryz.prog 140 [dPs l] fun r => r = dPs (srtP l) := by 
 refine qw Tryz.func140 rfl rfl Tryz.ntmps140 (rs := [.tmp 2]) (tys := [38]) rfl rfl (by simp) ?_
 have ND := fun g => nd_sort 186 g cG1 (by rw [ltF_G]; exact wk_ltG) (fun x _ y _ => Zc x y) hl
 rw [ltF_G, srtG hn] at ND
 (refine qc fun Y Yh=>?_;simp[go_sem];apply Yh;clear Yh Y;apply Xi)
 (refine qc fun Y Yh=>?_;simp[go_sem])
 (refine qR [900010] (.inl ⟨rfl,rfl⟩) (by simp[go_sem]) ?_;intro args ha;simp[go_sem] at ha;subst ha;refine ⟨_, _, (nclone_own 900010 l (by omega) (by decide)), (by simp[go_sem]), ?_⟩;rintro ps r hps ⟨g1, rfl, rfl⟩;simp[go_sem];apply Yh;clear Yh Y;apply Xi)
 (refine qc fun Y Yh=>?_;simp[go_sem])
 (refine qR [900010] (.inl ⟨rfl,rfl⟩) (by simp[go_sem]) ?_;intro args ha;simp[go_sem] at ha;subst ha;refine ⟨_, _, (ND g1), (by simp[go_sem]), ?_⟩;rintro ps r hps ⟨rfl, rfl⟩;simp[go_sem];apply Yh;clear Yh Y;apply Xi)
 (refine qc fun Y Yh=>?_;simp[go_sem];apply Yh;clear Yh Y;apply Xi)
 refine qQ 2 rfl rfl ?_
 simp only [go_sem]
 (refine qi ?_;simp[go_sem])
set_option maxHeartbeats 16000000 in
theorem xC (s : Src) (p : Prs) (hsu : suV s = true) : PCall Tryz.prog 101 [dSrc s, dP p] fun r => r = .tup [dPs (ownV s p), dB (fndV s p).isSome] := by 
 refine qw Tryz.func101 rfl rfl Tryz.ntmps101 (rs := [.tmp 4, .tmp 5]) (tys := [38, 4]) rfl rfl (by simp) ?_
 obtain ⟨hf6, hfn⟩ := fnd_nu hsu p
 have BG := vU (fndP s p).2 (by omega) hfn
 have hsz := zY hsu
 have hst := fun i g => @fnd_step s p i g
 have he := fnd_end s p
 have hown : ownV s p = srtP (fndP s p).2 := rfl
 have hfp : fndP s p = (fndV s p).getD ([], []) := rfl
 have hz : fndV s p = (s.drop 0).findSome? (fndG p) := rfl
 rw [hown]
 rw [hfp] at BG ⊢
 clear hown hfp hf6 hfn
 generalize fndV s p = r0 at *
 generalize hF : (fun k => (s.drop k).findSome? (fndG p)) = F at *
 have hF1 : ∀ k, (s.drop k).findSome? (fndG p) = F k := fun k => by rw [← hF]
 simp only [hF1] at hst hz he
 clear hF hF1
 (refine qc fun Y Yh=>?_;simp[go_sem];intro _;intro _;apply Yh;clear Yh Y;apply Xi)
 refine qA 2 rfl rfl ?_
 simp only [go_sem]
 refine qA 3 rfl rfl ?_
 simp only [go_sem]
 refine qf fun K1 hK1 => ?_
 (refine qc fun Y Yh=>?_;simp[go_sem];apply Yh;clear Yh Y;apply Xi)
 refine qj ?_
 refine qx (σ := Nat) (fun i => ⟨[(2, .rd [dGms s]), (3, .rd [dS p.1, dS p.2]), (11, dGms s), (12, dI s.length), (13, dI i)], []⟩) (fun i => i ≤ s.length ∧ r0 = F i) (fun i => s.length - i) 0 ?_ ?_ ?_
 ·(refine ql ?_ ?_ <;> simp[go_sem])
 ·exact ⟨by simp, hz⟩
 rintro i ⟨hi, hr⟩
 have hs0 := hsz.1
 (refine qc fun Y Yh=>?_;simp[go_sem];apply Yh;clear Yh Y;apply Xi)
 refine qf fun K2 hK2 => ?_
 (refine qg fun T F hT hF=>?_;simp[go_sem];refine BR.intro (fun h3=>hT ?_) (fun h3=>hF ?_);all_goals clear hT hF T F;try simp at h3)
 ·refine qh ?_
  refine hK2 _ ?_; clear hK2
  obtain ⟨x, hx⟩ : ∃ x, s[i]? = some x := ⟨_, List.getElem?_eq_getElem (by omega)⟩
  obtain ⟨hx1, hx2, hx3⟩ := hsz.2 x (List.mem_of_getElem? hx)
  have hst1 := hst i x hx
  have hin := fun k v => @find_step x.2 p.2 k v
  have hie : (x.2.drop x.2.length).find? (fun v => decide (v.1 = p.2)) = none := by rw [List.drop_length]; rfl
  have hG : fndG p x = if x.1 = p.1 then (x.2.drop 0).find? (fun v => decide (v.1 = p.2)) else none := rfl
  generalize hE : (fun k => (x.2.drop k).find? (fun v => decide (v.1 = p.2))) = E at *
  have hE1 : ∀ k, (x.2.drop k).find? (fun v => decide (v.1 = p.2)) = E k := fun k => by rw [← hE]
  simp only [hE1] at hin hie hG
  clear hE hE1
  refine qf fun K4 hK4 => ?_
  refine qj ?_
  (refine qc fun Y Yh=>?_;simp[go_sem, hx];intro _;apply Yh;clear Yh Y;apply Xi)
  refine qA 7 rfl rfl ?_
  simp only [go_sem]
  (refine qc fun Y Yh=>?_;simp[go_sem];apply Yh;clear Yh Y;apply Xi)
  refine qj ?_
  refine qx (σ := Nat) (fun k => ⟨[(2, .rd [dGms s]), (3, .rd [dS p.1, dS p.2]), (11, dGms s), (12, dI s.length), (13, dI i), (7, .rd [dS x.1, dVrs x.2]), (18, dVrs x.2), (19, dI x.2.length), (20, dI k)], []⟩) (fun k => k ≤ x.2.length ∧ fndG p x = if x.1 = p.1 then E k else none) (fun k => x.2.length - k) 0 ?_ ?_ ?_
  ·(refine ql ?_ ?_ <;> simp[go_sem])
  ·exact ⟨by simp, hG⟩
  rintro k ⟨hk, hg⟩
  (refine qc fun Y Yh=>?_;simp[go_sem];apply Yh;clear Yh Y;apply Xi)
  refine qf fun K5 hK5 => ?_
  (refine qg fun T F hT hF=>?_;simp[go_sem];refine BR.intro (fun h5=>hT ?_) (fun h5=>hF ?_);all_goals clear hT hF T F;try simp at h5)
  ·refine qh ?_
   refine hK5 _ ?_; clear hK5
   obtain ⟨v, hv⟩ : ∃ v, x.2[k]? = some v := ⟨_, List.getElem?_eq_getElem (by omega)⟩
   have hin1 := hin k v hv
   refine qf fun K6 hK6 => ?_
   refine qj ?_
   (refine qc fun Y Yh=>?_;simp[go_sem, hv];intro _;apply Yh;clear Yh Y;apply Xi)
   refine qA 9 rfl rfl ?_
   simp only [go_sem]
   have tl6 : ∀ S', (fndG p x = if x.1 = p.1 then E (k + 1) else none) → Cov S' ⟨[(2, .rd [dGms s]), (3, .rd [dS p.1, dS p.2]), (11, dGms s), (12, dI s.length), (13, dI i), (7, .rd [dS x.1, dVrs x.2]), (18, dVrs x.2), (19, dI x.2.length), (20, dI k)], []⟩ → K6 S' := fun S' hg2 hS => by
    refine hK6 _ ?_; clear hK6
    refine qN hS ?_; clear hS
    (refine qB fun Y Yh=>?_;simp[go_sem];((repeat' (first|apply And.intro|(apply Yh;clear Yh Y)));all_goals first|apply Xi|omega))
    refine ⟨k + 1, ?_, ⟨by omega, hg2⟩, by omega⟩
    (refine ql ?_ ?_ <;> simp[go_sem])
   clear hK6
   by_cases h7 : x.1 = p.1
   ·rw [if_pos h7] at hg tl6
    by_cases h8 : v.1 = p.2
    ·rw [if_pos h8] at hin1
     have h0 : r0 = some v := by
      rw [hg, hin1] at hst1
      exact hr.trans hst1
     subst h0
     (refine qc fun Y Yh=>?_;simp[go_sem, h7, h8];((repeat' (first|(refine qJ ?_ ?_;(focus (simp[go_sem, undef, h7, h8];done));simp[go_sem, h7, h8])|(apply Yh;clear Yh Y)));all_goals apply Xi))
     (refine qg fun T F hT hF=>?_;simp[go_sem, h7, h8];refine hT ?_;clear hT hF T F)
     (refine qc fun Y Yh=>?_;simp[go_sem])
     ((try refine Xj ?_);refine qm (.inl ⟨rfl,rfl⟩) (by simp[go_sem]) ?_;intro args ha;simp[go_sem] at ha;subst ha;refine ⟨_, BG, ?_⟩;rintro _ rfl;simp[go_sem];apply Yh;clear Yh Y;apply Xi)
     (refine qi ?_;simp[go_sem])
    ·rw [if_neg h8] at hin1
     have h8b : (v.1 == p.2) = false := by simp [h8]
     (refine qc fun Y Yh=>?_;simp[go_sem, h7, h8];((repeat' (first|(refine qJ ?_ ?_;(focus (simp[go_sem, undef, h7, h8];done));simp[go_sem, h7, h8])|(apply Yh;clear Yh Y)));all_goals apply Xi))
     (refine qg fun T F hT hF=>?_;simp[go_sem, h7, h8, h8b];refine hF ?_;clear hT hF T F)
     refine qh ?_
     refine tl6 _ (by rw [hg, hin1]) ?_
     (refine ql ?_ ?_ <;> simp[go_sem, h7])
   ·have h7b : (x.1 == p.1) = false := by simp [h7]
    (refine qc fun Y Yh=>?_;simp[go_sem, h7, h7b];((repeat' (first|(refine qG ?_ ?_ ?_;(focus (simp[go_sem, undef, h7, h7b];done));(focus (simp[go_sem];done));simp[go_sem, h7, h7b])|(apply Yh;clear Yh Y)));all_goals apply Xi))
    (refine qg fun T F hT hF=>?_;simp[go_sem, h7, h7b];refine hF ?_;clear hT hF T F)
    refine qh ?_
    refine tl6 _ (by rw [if_neg h7]; rw [if_neg h7] at hg; exact hg) ?_
    (refine ql ?_ ?_ <;> simp[go_sem])
  ·refine qp ?_
   simp only [go_sem]
   refine hK4 _ ?_; clear hK4
   have hke : k = x.2.length := by omega
   subst hke
   have hn : fndG p x = none := by rw [hg, hie]; split <;> rfl
   rw [hn] at hst1
   (refine qB fun Y Yh=>?_;simp[go_sem];((repeat' (first|apply And.intro|(apply Yh;clear Yh Y)));all_goals first|apply Xi|omega))
   refine ⟨i + 1, ?_, ⟨by omega, hr.trans hst1⟩, by omega⟩
   (refine ql ?_ ?_ <;> simp[go_sem])
 ·refine qp ?_
  simp only [go_sem]
  refine hK1 _ ?_; clear hK1
  have hie : i = s.length := by omega
  subst hie
  have h0 : r0 = none := hr.trans he
  subst h0
  (refine qc fun Y Yh=>?_;simp[go_sem];apply Yh;clear Yh Y;apply Xi)
  (refine qi ?_;simp[go_sem, srtP])
set_option maxHeartbeats 16000000 in
theorem kL (s : Src) (w l : List Prs) (hsu : suV s = true) (hw : w.length ≤ 12) (hwn : (w.map (·.1)).Nodup) (hl : l.length ≤ 1000000) : PCall Tryz.prog 98 [dSrc s, dPs w, dPs l] fun r => r = dLk (l, l.map (ownV s), srtP w) := by 
 refine qw Tryz.func98 rfl rfl Tryz.ntmps98 (rs := [.cell 6 53]) (tys := [53]) rfl rfl (by simp) ?_
 have BG := vU w hw hwn
 have NO := fun p => xC s p hsu
 have htk := fun i p => @map_take_snoc2 Prs (fun p => [dPs (ownV s p)]) l i p
 generalize srtP w = sw at *
 (refine qc fun Y Yh=>?_;simp[go_sem];intro _;intro _;apply Yh;clear Yh Y;apply Xi)
 refine qA 3 rfl rfl ?_
 simp only [go_sem]
 rename_i g6
 (refine qc fun Y Yh=>?_;simp[go_sem])
 ((try refine Xj ?_);refine qm (.inl ⟨rfl,rfl⟩) (by simp[go_sem]) ?_;intro args ha;simp[go_sem] at ha;subst ha;refine ⟨_, BG, ?_⟩;rintro _ rfl;simp[go_sem];intro _;apply Yh;clear Yh Y;apply Xi)
 rename_i g7
 refine zo 900081 38 1 1 (sb := 7) rfl rfl (by decide) fun gr0 => ?_
 simp only [List.set, go_sem]
 refine qf fun K1 hK1 => ?_
 (refine qc fun Y Yh=>?_;simp[go_sem];apply Yh;clear Yh Y;apply Xi)
 refine qj ?_
 refine qx (σ := Nat × Nat) (fun x => ⟨[(3, .rd [dGms s]), (6, .ptr 6 g6 0), (7, .ptr 7 g7 0), (16, dPs l), (17, dI l.length), (18, dI x.1)], [(6, (g6, .box [.v (.slice none 0 0), .v (.slice none 0 0), .v (.slice none 0 0)])), (7, (g7, .box [dPs l, .own 900081 x.2, dPs sw])), (900081, (x.2, .row 38 1 ((l.take x.1).map fun p => [dPs (ownV s p)])))]⟩) (fun x => x.1 ≤ l.length) (fun x => l.length - x.1) (0, gr0) ?_ ?_ ?_
 ·(refine ql ?_ ?_ <;> simp[go_sem])
 ·simp
 rintro ⟨i, gr⟩ hi
 simp only at hi
 (refine qc fun Y Yh=>?_;simp[go_sem];apply Yh;clear Yh Y;apply Xi)
 refine qf fun K2 hK2 => ?_
 (refine qg fun T F hT hF=>?_;simp[go_sem];refine BR.intro (fun h3=>hT ?_) (fun h3=>hF ?_);all_goals clear hT hF T F;try simp at h3)
 ·refine qh ?_
  refine hK2 _ ?_; clear hK2
  obtain ⟨x, hx⟩ : ∃ x, l[i]? = some x := ⟨_, List.getElem?_eq_getElem (by omega)⟩
  have htk1 := htk i x hx
  refine qf fun K4 hK4 => ?_
  refine qj ?_
  (refine qc fun Y Yh=>?_;simp[go_sem, hx];intro _;apply Yh;clear Yh Y;apply Xi)
  refine qA 9 rfl rfl ?_
  simp only [go_sem]
  (refine qc fun Y Yh=>?_;simp[go_sem])
  ((try refine Xj ?_);refine qm (.inl ⟨rfl,rfl⟩) (by simp[go_sem]) ?_;intro args ha;simp[go_sem] at ha;subst ha;refine ⟨_, (NO x), ?_⟩;rintro _ rfl;simp[go_sem];apply Yh;clear Yh Y;apply Xi)
  (refine qB fun Y Yh=>?_;simp[go_sem];((repeat' (first|intro _|apply And.intro|(apply Yh;clear Yh Y)));all_goals first|apply Xi|omega))
  rename_i gq gr'
  refine hK4 _ ?_; clear hK4
  (refine qB fun Y Yh=>?_;simp[go_sem];((repeat' (first|apply And.intro|(apply Yh;clear Yh Y)));all_goals first|apply Xi|omega))
  refine ⟨(i + 1, gr'), ?_, by simp only; omega, by simp only; omega⟩
  simp only [htk1]
  (refine ql ?_ ?_ <;> simp[go_sem])
 ·refine qp ?_
  simp only [go_sem]
  refine hK1 _ ?_; clear hK1
  have hie : i = l.length := by omega
  subst hie
  refine zq 900081 7 1 rfl rfl (by decide) rfl ?_
  simp only [go_sem, List.set]
  (refine qc fun Y Yh=>?_;simp[go_sem];apply Yh;clear Yh Y;apply Xi)
  (refine qi ?_;simp[go_sem, take_map_len2])
set_option maxHeartbeats 8000000 in
theorem Xa (s : Src) (w : List Prs) (b : Int) (hs : SzS s) (hw : SzN w) (hbr : InR b) : PCall Tryz.prog 42 [dSrc s, dPs w, dI b] fun r => r = .tup [dLk (ofV s w b).1, dI (ofV s w b).2] := by 
 refine qw Tryz.func42 rfl rfl Tryz.ntmps42 (rs := [.cell 6 53, .tmp 7]) (tys := [53, 35]) rfl rfl (by simp) ?_
 have S1 := xw s w b hs hw hbr
 have hl := @jM s w b
 have hck := @xx s w b
 unfold ofV
 generalize solV s w b = q at *
 obtain ⟨l, n, e⟩ := q
 simp only at S1 hl hck ⊢
 (refine qc fun Y Yh=>?_;simp[go_sem];intro _;intro _;apply Yh;clear Yh Y;apply Xi)
 refine qA 3 rfl rfl ?_
 simp only [go_sem]
 (refine qc fun Y Yh=>?_;simp[go_sem])
 ((try refine Xj ?_);refine qm (.inl ⟨rfl,rfl⟩) (by simp[go_sem]) ?_;intro args ha;simp[go_sem] at ha;subst ha;refine ⟨_, S1, ?_⟩;rintro _ rfl;simp[go_sem];apply Yh;clear Yh Y;apply Xi)
 refine qf fun K1 hK1 => ?_
 (refine qc fun Y Yh=>?_;simp[go_sem];apply Yh;clear Yh Y;apply Xi)
 by_cases h0 : e = 0
 ·subst h0
  obtain ⟨hc, _, _⟩ := hck rfl
  unfold chkV at hc
  rw [Bool.and_eq_true] at hc
  have LC := kL s w l hc.1 (by have := (zH hc.2).1; omega) (jy hc.2) (by omega)
  (refine qg fun T F hT hF=>?_;simp[go_sem];refine hF ?_;clear hT hF T F)
  refine qh ?_
  refine hK1 _ ?_; clear hK1
  (refine qc fun Y Yh=>?_;simp[go_sem])
  ((try refine Xj ?_);refine qm (.inl ⟨rfl,rfl⟩) (by simp[go_sem]) ?_;intro args ha;simp[go_sem] at ha;subst ha;refine ⟨_, LC, ?_⟩;rintro _ rfl;simp[go_sem];apply Yh;clear Yh Y;apply Xi)
  (refine qi ?_;simp[go_sem])
 ·have h0i : ¬ (e : Int) = 0 := by omega
  rw [if_neg h0]
  (refine qg fun T F hT hF=>?_;simp[go_sem, h0, h0i];refine hT ?_;clear hT hF T F)
  (refine qc fun Y Yh=>?_;simp[go_sem];apply Yh;clear Yh Y;apply Xi)
  (refine qi ?_;simp[go_sem, h0])
end Go.Proofs.YteekfnhhlcmcgaaGreatDoor
set_option linter.unusedSectionVars false
namespace Go.Eng
variable {P : Program} [HasGlob P] {n : Nat} {S : St} {Q : Exit → St → Prop}
theorem ags_ok2 {w0 : World} {B : Nat → Nat → Prop} {C0 : Ctx} {ops suf : List Oper} : ∀ {l : List Oper} {S : St} {C : Ctx} {a : Act} {w : World} {K : St → Prop}, Env P w0 B C0 → Inv w0 B C0 n S C a w → AGs P n ops l S K → ∀ (Q : Exit → Act → World → Prop), (∀ a w, NextOk w0 B C0 n K a w → wpList P ops.toArray Q suf a w) → wpList P ops.toArray Q (l ++ suf) a w := by
 intro l
 induction l with
 | nil => intro S C a w K E I h Q hQ; exact hQ _ _ ⟨S, C, h, I⟩
 | cons o rest ih =>
  intro S C a w K E I h Q hQ
  unfold AGs at h
  refine wpList_step fun K' hK' => ?_
  exact h E I K' Q (fun a w ⟨S', C', h', I'⟩ => hK' _ _ (ih E I' h' Q hQ))
theorem zeroCells_flat {z : Value} {zs : List Value} (hz : z.cells.toList = zs) (h0 : 0 < zs.length) (m : Nat) : (Builtin.zeroCells z.cells m).toList = (List.replicate m zs).flatten := by
 have hsz : z.cells.size = zs.length := by rw [← hz]; simp
 have hrep : ∀ x ∈ List.replicate m zs, x.length = zs.length := fun x hx => by rw [List.eq_of_mem_replicate hx]
 have hfl := flat_len hrep
 rw [List.length_replicate] at hfl
 refine List.ext_getElem? fun k => ?_
 by_cases hk : k < m * zs.length
 ·have hn : k = (k / zs.length) * zs.length + k % zs.length := by rw [Nat.mul_comm]; exact (Nat.div_add_mod k _).symm
  have hj : k % zs.length < zs.length := Nat.mod_lt _ h0
  have hi : k / zs.length < m := by rw [Nat.div_lt_iff_lt_mul h0]; omega
  have := flat_get hrep (k / zs.length) (k % zs.length) hj
  rw [← hn] at this
  rw [this, List.getElem?_replicate, if_pos hi, Option.bind_some]
  simp only [Builtin.zeroCells, Array.toList_map, Array.toList_range, List.getElem?_map, hsz, List.getElem?_range hk, Option.map_some]
  rw [getElem!_pos z.cells _ (by omega), ← Array.getElem_toList, List.getElem?_eq_getElem (by omega)]
  simp [hz]
 ·have h2 : (Builtin.zeroCells z.cells m).toList.length = m * zs.length := by simp [Builtin.zeroCells, hsz]
  rw [List.getElem?_eq_none (by omega), List.getElem?_eq_none (by omega)]
section
variable {w0 : World} {B : Nat → Nat → Prop} {C0 : Ctx} {C : Ctx} {a : Act} {w : World}
open Go.Proofs Go.Sort Go.RowKit Go.Lib in
theorem clear_own (I : Inv w0 B C0 n S C a w) {t e : TypeId} {sz by' : Nat} (hs : zu P t = some (e, sz, by')) {zs : List Value} (hz : zeroOf P e = some zs) (h1 : zs.all Value.oneCell' = true) (h0 : 0 < sz) {s g : Nat} {es : List (List D)} {u : Value}
  (hlk : look S.heap s = some (g, .row e sz es)) (hu : C.val s g = some u) {m : Nat} (hm : m ≤ es.length) (ty : TypeId) :
  ∃ v' w', (∀ w, (Instr.sliceAt t u (some (.int .i64 m)) none none).run P w = .ok v' w) ∧ (Builtin.clear_ #[t] ty #[v']).run P w = .ok (.tuple #[]) w' ∧
   Inv w0 B C0 n (S.hput s g (.row e sz (es.take m ++ List.replicate (es.length - m) (zs.map .v)))) C a w' := by
 obtain ⟨inf, i1, i2, i3, _⟩ := zB hs
 obtain ⟨inf2, z, j1, j2, j3, j4⟩ := zI hz
 rw [i2] at j1
 simp only [Option.some.injEq] at j1
 subst j1
 subst i3
 have hzl : zs.length = inf.size := by rw [← j3]; simpa using j4
 have hzr : ∀ w' : World, (zeroValue e).run P w' = .ok z w' := fun w' => by simp [zeroValue, typeInfo, i2, j2]
 obtain ⟨u', xs, hv, hl, hown, hk, hall⟩ := I.heap s g _ hlk
 rw [hu] at hv
 simp only [Option.some.injEq] at hv
 subst hv
 have hlen : (es.take m ++ List.replicate (es.length - m) (zs.map D.v)).length = es.length := by simp; omega
 rcases hown.2 with ⟨rfl, hn0⟩ | ⟨gb, cap, cur, rfl, hzb, hg, hnc, hcm, hcs, htake⟩
 ·have hes : es = [] := List.eq_nil_of_length_eq_zero hn0
  subst hes
  have hm0 : m = 0 := by simpa using hm
  subst hm0
  refine ⟨.slice none 0 0, w, fun w' => ?_, by simp [Builtin.clear_, run_underlying i1], ?_⟩
  ·have := zK (P := P) (isS := true) (len := 0) (cap := 0) (lo := some 0) (hi := none) (Nat.le_refl _) (by simp) w'
   simp at this
   simp [Instr.sliceAt, Instr.slice, run_underlying i1, this, qO i2]
  ·have hb : blk (Value.slice none 0 0) = none := rfl
   refine ⟨I.size, I.defers, I.slots, fun s' g' b hb' => ?_, fun s' g' b x u' hx hl' hv' hb' => ?_, I.apart, I.bound, I.fresh, I.frame, I.old, I.owned, I.kept, fun s' g' y z' hy hz' => ?_, I.dead0, I.bound0⟩
   ·rw [qF] at hb'
    split at hb'
    ·rename_i q; subst q
     simp only [Option.some.injEq, Prod.mk.injEq] at hb'
     obtain ⟨rfl, rfl⟩ := hb'
     exact I.heap s g _ hlk
    ·exact I.heap s' g' b hb'
   ·rw [qF] at hx
    split at hx
    ·rename_i q; subst q
     simp only [Option.some.injEq, Prod.mk.injEq] at hx
     obtain ⟨rfl, rfl⟩ := hx
     exact I.mine s g b _ u' hlk hl' hv' hb'
    ·exact I.mine s' g' b x u' hx hl' hv' hb'
   ·rw [qF] at hy
    split at hy
    ·rename_i q; subst q
     simp only [Option.some.injEq, Prod.mk.injEq] at hy
     obtain ⟨rfl, rfl⟩ := hy
     exact I.ents s g _ z' hlk hz'
    ·exact I.ents s' g' y z' hy hz'
 ·have hxl : xs.length = es.length * inf.size := hown.1
  have hb : 0 ≤ (some (m : Int)).getD 0 ∧ (some (m : Int)).getD 0 ≤ (none : Option Int).getD es.length ∧ (none : Option Int).getD (es.length : Int) ≤ es.length := by simp; omega
  have hbr := zK (P := P) (isS := true) (len := es.length) (cap := cap) (lo := some (m : Int)) (hi := none) hnc hb
  obtain ⟨A, hA⟩ : ∃ A : Addr, A = if cap = m then ⟨gb, 0, none⟩ else ⟨gb, m * inf.size, none⟩ := ⟨_, rfl⟩
  have hH : Holds id w gb 0 xs.toArray := fun j hj => by
   have hj' : j < es.length * inf.size := by simpa [hxl] using hj
   refine ⟨?_, by simp [World.frozen?, hg]⟩
   have e1 : (cur.toList.take (es.length * inf.size))[j]? = xs[j]? := by rw [htake]
   rw [List.getElem?_take, if_pos hj', Array.getElem?_toList, List.getElem?_eq_getElem (by omega)] at e1
   simp only [World.cell?, hg, Nat.zero_add]
   simp only [Option.isSome_none, Bool.false_eq_true, if_false]
   rw [e1]
   have hjl : j < xs.length := by omega
   simp [getElem!_pos, hjl]
  have hmul : m * inf.size ≤ es.length * inf.size := Nat.mul_le_mul_right _ hm
  have hsub : (es.length - m) * inf.size = es.length * inf.size - m * inf.size := Nat.sub_mul _ _ _
  obtain ⟨zz, hzz⟩ : ∃ zz, zz = (List.replicate (es.length - m) zs).flatten := ⟨_, rfl⟩
  have hzzl : zz.length = (es.length - m) * inf.size := by
   rw [hzz, ← hzl]
   simp
  have hzz1 : ∀ v ∈ zz, v.oneCell' = true := fun v hv => by
   rw [hzz] at hv
   obtain ⟨y, hy, hv⟩ := List.mem_flatten.1 hv
   rw [List.eq_of_mem_replicate hy] at hv
   exact List.all_eq_true.1 h1 v hv
  refine ⟨.slice (some A) (es.length - m) (cap - m), w.setCells gb (m * inf.size) zz, fun w' => ?_, ?_, ?_⟩
  ·have := hbr w'
   simp at this
   rw [hA]
   by_cases hcm2 : cap = m
   ·rw [hcm2] at this
    simp [Instr.sliceAt, Instr.slice, run_underlying i1, this, qO i2, Addr.add_lit, hcm2]
   ·simp [Instr.sliceAt, Instr.slice, run_underlying i1, this, qO i2, Addr.add_lit, hcm2]
  ·by_cases hq : es.length - m = 0
   ·have hzn : zz = [] := List.eq_nil_of_length_eq_zero (by rw [hzzl, hq]; simp)
    rw [hq, hzn]
    simp [Builtin.clear_, run_underlying i1, World.setCells]
   ·have hA2 : A = ⟨gb, m * inf.size, none⟩ := by rw [hA, if_neg (by omega)]
    obtain ⟨q, hq1⟩ : ∃ q, es.length - m = q + 1 := ⟨es.length - m - 1, by omega⟩
    have hst := run_storeCells_cells (P := P) gb (m * inf.size) zz 0 w (fun j hj => by
     have := (hH (m * inf.size + j) (by simp; omega)).1
     rw [Nat.zero_add] at this
     rw [Nat.add_zero, this]; rfl) (fun j hj => by
     have := (hH (m * inf.size + j) (by simp; omega)).2
     rw [Nat.zero_add] at this
     rw [Nat.add_zero]; exact this) hzz1
    rw [Nat.add_zero] at hst
    have hzf := zeroCells_flat j3 (by omega) (es.length - m)
    rw [← hzz] at hzf
    rw [hA2]
    rw [hq1] at hzf ⊢
    simp [Builtin.clear_, run_underlying i1, hzr, hzf, hst]
  ·have hps := putRow_setCells id w gb 0 zz xs.toArray (m * inf.size) (by simp; omega)
   rw [putRow_self id w gb 0 _ hH, List.map_id, Nat.zero_add] at hps
   rw [hps]
   obtain ⟨d', hd'⟩ : ∃ d', d' = lay xs.toArray (m * inf.size) zz := ⟨_, rfl⟩
   have hd's : d'.size = es.length * inf.size := by rw [hd', lay_size]; simp [hxl]
   have hd'g : ∀ k, k < es.length * inf.size → d'[k]? = if m * inf.size ≤ k then zz[k - m * inf.size]? else xs[k]? := fun k hk => by
    rw [hd', lay_get? _ _ _ _ (by simp; omega)]
    by_cases hc : m * inf.size ≤ k
    ·rw [if_pos hc, if_pos ⟨hc, by omega⟩]
    ·rw [if_neg hc, if_neg (fun q => hc q.1)]
     simp
   rw [← hd']
   have hw := I.write (x' := .row e inf.size (es.take m ++ List.replicate (es.length - m) (zs.map D.v))) hlk hu hl rfl (w' := putRow id w gb 0 d') (fun k hk => by
    simp [putRow, mapBlock, Array.getElem?_modify, show ¬ gb = k from fun q => hk q.symm]) (by simp [putRow, mapBlock]) rfl rfl rfl (fun ex => ?_)
   ·exact hw.1
   ·refine ⟨_, d'.toList, hu, hl, ⟨by rw [hlen]; simpa using hd's, .inr ⟨gb, cap, putCells id 0 d' cur, by rw [hlen], hzb, ?_, by rw [hlen]; exact hnc, hcm, by simpa [putCells] using hcs, ?_⟩⟩, fun x hx => ?_, fun i j e' c x hi hj hx => ?_⟩
    ·simp [putRow, mapBlock, Array.getElem?_modify, hg, onCells]
    ·rw [hlen]
     apply List.ext_getElem?
     intro k
     rw [List.getElem?_take, Array.getElem?_toList, Array.getElem?_toList]
     by_cases hk : k < es.length * inf.size
     ·have hle : es.length * inf.size ≤ cap * inf.size := Nat.mul_le_mul_right _ hnc
      have hkc : k < cur.size := by rw [hcs]; omega
      simp only [if_pos hk, putCells, Array.getElem?_mapIdx, Array.getElem?_eq_getElem hkc, Option.map_some]
      rw [if_pos (by omega), Array.getElem?_eq_getElem (by omega)]
      simp [getElem!_pos, show k < d'.size by omega]
     ·rw [if_neg hk, Array.getElem?_eq_none (by omega)]
    ·rcases List.mem_append.1 hx with q | q
     ·exact hk x (List.mem_of_mem_take q)
     ·rw [List.eq_of_mem_replicate q, List.length_map, hzl]
    ·have hjs : j < inf.size := by
      have hl' : e'.length = inf.size := by
       have hm' := List.mem_of_getElem? hi
       rcases List.mem_append.1 hm' with q | q
       ·exact hk _ (List.mem_of_mem_take q)
       ·rw [List.eq_of_mem_replicate q, List.length_map, hzl]
      have := (List.getElem?_eq_some_iff.1 hj).1
      omega
     have hil := (List.getElem?_eq_some_iff.1 hi).1
     rw [hlen] at hil
     have hkk : i * inf.size + j < es.length * inf.size := by
      have : (i + 1) * inf.size ≤ es.length * inf.size := Nat.mul_le_mul_right _ hil
      rw [Nat.succ_mul] at this
      omega
     rw [Array.getElem?_toList, hd'g _ hkk] at hx
     by_cases hmi : i < m
     ·have h2 : (i + 1) * inf.size ≤ m * inf.size := Nat.mul_le_mul_right _ hmi
      rw [Nat.succ_mul] at h2
      rw [if_neg (by omega)] at hx
      rw [List.getElem?_append_left (by simp; omega), List.getElem?_take, if_pos hmi] at hi
      have := hall i j e' c x hi hj hx
      exact ⟨this.1.mono ex, this.2⟩
     ·have h2 : m * inf.size ≤ i * inf.size := Nat.mul_le_mul_right _ (by omega)
      have h3 : i * inf.size + j - m * inf.size = (i - m) * inf.size + j := by rw [Nat.sub_mul]; omega
      rw [if_pos (by omega), h3, hzz, ← hzl, flat_get (k := zs.length) (fun x hx => by rw [List.eq_of_mem_replicate hx]) _ _ (by omega), List.getElem?_replicate, if_pos (by omega), Option.bind_some] at hx
      rw [List.getElem?_append_right (by simp; omega), List.getElem?_replicate] at hi
      split at hi
      ·simp only [Option.some.injEq] at hi
       subst hi
       rw [List.getElem?_map, hx] at hj
       simp only [Option.map_some, Option.some.injEq] at hj
       subst hj
       exact ⟨.v x, List.all_eq_true.1 h1 x (List.mem_of_getElem? hx)⟩
      ·cases hi
end
theorem eval_tmp {a : Act} {k : Nat} {u : Value} (h : a.tmps[k]? = some u) : a.eval (.tmp k) = u := by
 simp [Act.eval, h]
theorem X6 {id : Nat} {c2 : Code} {ta tb tc t0 t5 : Nat} {y0 y1 y2 y3 : TypeId} {p0 p1 p2 p3 : String} {f0 f1 f2 f3 : Array Edge} {t e : TypeId} {sz by' : Nat} {zs : List Value} {s g m : Nat} {es : List (List D)}
  (hs : zu P t = some (e, sz, by')) (hz : zeroOf P e = some zs) (h1 : zs.all Value.oneCell' = true) (h0 : 0 < sz) (hl0 : look S.slots t0 = some (.own s g)) (hl5 : look S.slots t5 = some (.v (.int .i64 m))) (hta : ta < n) (htb : tb < n) (htc : tc < n)
  (hab : ta ≠ tb) (h5a : t5 ≠ ta) (hrow : look S.heap s = some (g, .row e sz es)) (hm : m ≤ es.length)
  (h : ∀ u, AWp P n c2 (((((S.put ta (.own s g)).put tb (.v (.int .i64 m))).put tc (.v u)).hput s g (.row e sz (es.take m ++ List.replicate (es.length - m) (zs.map .v))))) Q) :
  AWp P n ((Code.region id #[⟨some ta, .move (.tmp t0), y0, p0, f0, none⟩, ⟨some tb, .move (.tmp t5), y1, p1, f1, none⟩, ⟨some tc, .slice t (.tmp ta) (some (.tmp tb)) none none, y2, p2, f2, none⟩,
   ⟨none, .call { callee := .builtin Builtin.clear, args := #[.tmp tc], argTypes := #[t] }, y3, p3, f3, none⟩] false).seq c2) S Q := by
 refine xM ?_
 intro w0 B C0 C a w E I
 refine wp_region_lit (l := [_, _, _, _]) ?_
 refine ags_ok2 (l := [_, _]) (suf := [_, _]) (K := fun S' => S' = (S.put ta (.own s g)).put tb (.v (.int .i64 m))) E I ?_ _ ?_
 ·simp only [AGs]
  refine qJ rfl ?_
  refine ⟨hta, ?_⟩
  simp only [qK, evK, hl0, St.set]
  refine qJ rfl ?_
  refine ⟨htb, ?_⟩
  have : look (S.put ta (.own s g)).slots t5 = some (.v (.int .i64 m)) := by simp only [St.put, look]; rw [if_neg (Ne.symm h5a)]; exact hl5
  simp only [qK, evK, this, St.set, unwK]
 ·rintro a w ⟨S', C', rfl, I'⟩
  have hla : look ((S.put ta (.own s g)).put tb (.v (.int .i64 m))).slots ta = some (.own s g) := by simp [St.put, look, Ne.symm hab]
  have hlb : look ((S.put ta (.own s g)).put tb (.v (.int .i64 m))).slots tb = some (.v (.int .i64 m)) := by simp [St.put, look]
  obtain ⟨ua, ha1, ha2⟩ := I'.slots ta _ hla
  obtain ⟨ub, hb1, hb2⟩ := I'.slots tb _ hlb
  obtain rfl := hb2.v_inv
  have hval : C'.val s g = some ua := by
   cases ha2 with
   | own _ _ _ q _ => exact q
  obtain ⟨v', w', k1, k2, _⟩ := clear_own I' hs hz h1 h0 (hlk := hrow) hval hm y3
  refine wpList_step fun K' hK' => ?_
  rw [if_pos (by simp [Region.wanted])]
  refine wp_val (u := v') (w' := w) (by simp [execOp, eval_tmp ha1, eval_tmp hb1, k1]) ?_
  refine hK' _ _ ?_
  have I2 := I'.put (t := tc) (d := .v v') htc (.v v')
  obtain ⟨v2, w2, k3, k4, I3⟩ := clear_own I2 hs hz h1 h0 (hlk := hrow) hval hm y3
  have hvv : v2 = v' := by
   have e1 := k1 w
   rw [k3 w] at e1
   simpa using e1
  subst hvv
  have htc2 : ((a.put (some tc) v2).tmps)[tc]? = some v2 := by
   have := I'.size
   simp [Act.put, this, htc]
  refine wpList_step fun K2 hK2 => ?_
  rw [if_pos (by simp [Region.wanted])]
  refine wp_val (u := .tuple #[]) (w' := w2) (by simp [execOp, resolve, invoke, builtin, eval_tmp htc2, k4, Result.andThen]) ?_
  refine hK2 _ _ ?_
  refine wpList_nil ?_
  exact ⟨_, C', h v2, I3⟩
end Go.Eng
namespace Go.Proofs.YteekfnhhlcmcgaaGreatDoor
open Go.Eng Go.Wh Go.Ver Go.Lk
set_option maxRecDepth 20000
attribute [local irreducible] AG CallA CallT AWp PCall ACall AgC
theorem filter_step {α : Type} (f : α → Bool) {l : List α} {i : Nat} {x : α} (h : l[i]? = some x) : (l.take (i + 1)).filter f = (l.take i).filter f ++ (if f x = true then [x] else []) := by
 rw [List.take_add_one, h, List.filter_append]
 by_cases q : f x = true <;> simp [q]
set_option maxHeartbeats 16000000 in
theorem ZR (nr gr : Nat) (l : List Vrs) (f : Nat) (c1 c2 : List D) (p : Vrs → Bool) (hp : ∀ x ∈ l, PCall Tryz.prog f [dVr x, .rd c1, .rd c2] fun r => r = dB (p x)) (hl : l.length ≤ 1000000) (hn : nr = 900010) :
  ACall Tryz.prog 143 [.own nr gr, .fn f [.rd c1, .rd c2]] [(nr, (gr, .row 116 2 (l.map cVr)))] [nr] fun ps r => ∃ g', ps = [(g', .row 116 2 ((l.filter fun x => !p x).map cVr))] ∧ r = .own nr g' := by 
 subst hn
 refine zg Tryz.func143 rfl rfl Tryz.ntmps143 (rs := [.tmp 4]) (tys := [117]) rfl rfl (by simp) ?_ ?_
 ·intro p hp
  simp only [List.mem_cons, List.mem_nil_iff, or_false] at hp
  subst hp; simp [zn]
 have IX := QU l f [.rd c1, .rd c2] p hp hl
 (refine qc fun Y Yh=>?_;simp[go_sem];apply Yh;clear Yh Y;apply Xi)
 (refine qc fun Y Yh=>?_;simp[go_sem])
 ((try refine Xj ?_);refine jk (.inl ⟨rfl,rfl⟩) ?_;intro args ha;simp[go_sem] at ha;subst ha;refine ⟨_, IX, ?_⟩;rintro _ rfl;refine ⟨rfl, ?_⟩;simp[go_sem];apply Yh;clear Yh Y;apply Xi)
 refine qf fun K1 hK1 => ?_
 cases ha : l.any p with
 | false =>
  have hfx : fIx p l = -1 := fIx_none ha
  have hfl : (l.filter fun x => !p x) = l := by
   rw [List.filter_eq_self]
   intro x hx
   have := List.any_eq_false.1 ha x hx
   simpa using this
  rw [hfx, hfl]
  (refine qc fun Y Yh=>?_;simp[go_sem];apply Yh;clear Yh Y;apply Xi)
  (refine qg fun T F hT hF=>?_;simp[go_sem];refine hT ?_;clear hT hF T F)
  (refine qc fun Y Yh=>?_;simp[go_sem];apply Yh;clear Yh Y;apply Xi)
  refine qi ?_
  simp [go_sem]
 | true =>
  have hfx : fIx p l = ((l.findIdx p : Nat) : Int) := by unfold fIx; rw [if_pos ha]
  rw [hfx]
  have hil : l.findIdx p < l.length := by
   rw [List.findIdx_lt_length]
   simpa using ha
  have hfi : (l.take (l.findIdx p)).filter (fun x => !p x) = l.take (l.findIdx p) := by
   rw [List.filter_eq_self]
   intro x hx
   obtain ⟨j, hj⟩ := List.getElem?_of_mem hx
   rw [List.getElem?_take] at hj
   split at hj
   ·rename_i hjl
    have := List.not_of_lt_findIdx hjl
    obtain ⟨hj1, hj2⟩ := List.getElem?_eq_some_iff.1 hj
    rw [hj2] at this
    simp [this]
   ·cases hj
  have hpi : p l[l.findIdx p] = true := List.findIdx_getElem
  obtain ⟨x0, hx0⟩ : ∃ x, l[l.findIdx p]? = some x := ⟨_, List.getElem?_eq_getElem hil⟩
  have hpx : p x0 = true := by
   rw [List.getElem?_eq_getElem hil] at hx0
   simp only [Option.some.injEq] at hx0
   rw [← hx0]; exact hpi
  have hfs := filter_step (fun x => !p x) hx0
  simp only [hpx, Bool.not_true, Bool.false_eq_true, if_false, List.append_nil, hfi] at hfs
  generalize l.findIdx p = k0 at *
  have hk1 : ¬ (k0 : Int) = -1 := by omega
  (refine qc fun Y Yh=>?_;simp[go_sem];apply Yh;clear Yh Y;apply Xi)
  (refine qg fun T F hT hF=>?_;simp[go_sem, hk1];refine hF ?_;clear hT hF T F)
  refine qh ?_
  refine hK1 _ ?_; clear hK1
  refine qf fun K3 hK3 => ?_
  (refine qc fun Y Yh=>?_;simp[go_sem];((repeat' (first|apply And.intro|(apply Yh;clear Yh Y)));all_goals first|apply Xi|omega))
  refine qj ?_
  refine qx (σ := Nat × List Vrs) (fun z => ⟨[(0, .own 900010 gr), (1, .fn f [.rd c1, .rd c2]), (5, dI ((l.take z.1).filter fun x => !p x).length), (6, dI z.1)], [(900010, (gr, .row 116 2 (z.2.map cVr)))]⟩) (fun z => k0 < z.1 ∧ z.1 ≤ l.length ∧ z.2.length = l.length ∧ z.2.take ((l.take z.1).filter fun x => !p x).length = (l.take z.1).filter (fun x => !p x) ∧ z.2.drop z.1 = l.drop z.1) (fun z => l.length - z.1) (k0 + 1, l) ?_ ?_ ?_
  ·have hfl2 : ((l.take (k0 + 1)).filter fun x => !p x).length = k0 := by rw [hfs, List.length_take]; omega
   (refine ql ?_ ?_ <;> simp[go_sem, hfl2])
  ·refine ⟨by simp, by simp only; omega, rfl, ?_, rfl⟩
   simp only
   rw [hfs, List.length_take, Nat.min_eq_left (by omega)]
  rintro ⟨j, m⟩ ⟨hj0, hj1, hml, hmt, hmd⟩
  simp only at hj0 hj1 hml hmt hmd
  have hfle : ((l.take j).filter fun x => !p x).length ≤ j := by
   have := List.length_filter_le (fun x => !p x) (l.take j)
   rw [List.length_take] at this
   omega
  have hst := fun x => @filter_step Vrs (fun x => !p x) l j x
  generalize hA : (l.take j).filter (fun x => !p x) = A at *
  refine qf fun K4 hK4 => ?_
  (refine qc fun Y Yh=>?_;simp[go_sem];apply Yh;clear Yh Y;apply Xi)
  (refine qg fun T F hT hF=>?_;simp[go_sem];refine BR.intro (fun h3=>hT ?_) (fun h3=>hF ?_);all_goals clear hT hF T F;try simp at h3)
  ·refine qh ?_
   refine hK4 _ ?_; clear hK4
   have hjl : j < l.length := by omega
   obtain ⟨x, hx⟩ : ∃ x, l[j]? = some x := ⟨_, List.getElem?_eq_getElem hjl⟩
   have hmx : m[j]? = some x := by
    have : (m.drop j)[0]? = (l.drop j)[0]? := by rw [hmd]
    rw [List.getElem?_drop, List.getElem?_drop] at this
    simpa [hx] using this
   have hdr : m.drop (j + 1) = l.drop (j + 1) := by
    have := congrArg (List.drop 1) hmd
    rw [List.drop_drop, List.drop_drop] at this
    exact this
   have hst1 := hst x hx
   generalize hA2 : (l.take (j + 1)).filter (fun x => !p x) = A2 at *
   have hpv := hp x (List.mem_of_getElem? hx)
   refine qf fun K6 hK6 => ?_
   refine qj ?_
   (refine qc fun Y Yh=>?_;simp[go_sem, hmx];((repeat' (first|intro _|apply And.intro|(apply Yh;clear Yh Y)));all_goals first|apply Xi|omega))
   refine qA 7 rfl rfl ?_
   simp only [go_sem]
   generalize hpq : p x = b at *
   (refine qc fun Y Yh=>?_;simp[go_sem])
   ((try refine Xj ?_);refine qm (by first|exact .inl ⟨rfl,rfl⟩|exact .inr rfl) (by simp[go_sem]) ?_;intro args ha;simp[go_sem] at ha;subst ha;refine ⟨_, (hpv), ?_⟩;rintro _ rfl;simp[go_sem];apply Yh;clear Yh Y;apply Xi)
   cases b with
   | true =>
    simp only [Bool.not_true, Bool.false_eq_true, if_false, List.append_nil] at hst1
    (refine qg fun T F hT hF=>?_;simp[go_sem];refine hF ?_;clear hT hF T F)
    refine qh ?_
    refine hK6 _ ?_; clear hK6
    (refine qB fun Y Yh=>?_;simp[go_sem];((repeat' (first|apply And.intro|(apply Yh;clear Yh Y)));all_goals first|apply Xi|omega))
    refine ⟨(j + 1, m), ?_, ⟨by simp only; omega, by simp only; omega, hml, by simp only; rw [hA2, hst1]; exact hmt, hdr⟩, by simp only; omega⟩
    simp only [hA2, hst1]
    (refine ql ?_ ?_ <;> simp[go_sem])
   | false =>
    simp only [Bool.not_false, if_true] at hst1
    have hAl : A.length < m.length := by omega
    have hset : (m.map cVr).set A.length (cVr x) = (m.set A.length x).map cVr := by rw [List.map_set]
    obtain ⟨y, hy⟩ : ∃ y, m[A.length]? = some y := ⟨_, List.getElem?_eq_getElem hAl⟩
    have hn2 : (m.set A.length x).take (A.length + 1) = A ++ [x] := by
     rw [List.take_add_one, List.getElem?_set_self hAl, List.take_set_of_le (Nat.le_refl _), hmt]; rfl
    have hd2 : (m.set A.length x).drop (j + 1) = l.drop (j + 1) := by
     rw [List.drop_set_of_lt (by omega), hdr]
    (refine qg fun T F hT hF=>?_;simp[go_sem];refine hT ?_;clear hT hF T F)
    (refine qc fun Y Yh=>?_;simp[go_sem, hy];((repeat' (first|apply And.intro|(apply Yh;clear Yh Y)));all_goals first|apply Xi|omega))
    (refine qB fun Y Yh=>?_;simp[go_sem];((repeat' (first|apply And.intro|(apply Yh;clear Yh Y)));all_goals first|apply Xi|omega))
    refine hK6 _ ?_; clear hK6
    (refine qB fun Y Yh=>?_;simp[go_sem];((repeat' (first|apply And.intro|(apply Yh;clear Yh Y)));all_goals first|apply Xi|omega))
    refine ⟨(j + 1, m.set A.length x), ?_, ⟨by simp only; omega, by simp only; omega, by simp only [List.length_set]; exact hml, by simp only; rw [hA2, hst1, List.length_append]; exact hn2, hd2⟩, by simp only; omega⟩
    simp only [hA2, hst1, List.map_set]
    (refine ql ?_ ?_ <;> simp[go_sem])
  ·refine qp ?_
   simp only [go_sem]
   refine hK3 _ ?_; clear hK3
   have hje : j = l.length := by omega
   subst hje
   rw [List.take_length] at hA
   subst hA
   generalize hA : (l.filter fun x => !p x) = A at *
   refine X6 (es := m.map cVr) (m := A.length) (s := 900010) (g := gr) sl117 zr116 (by decide) (by decide) rfl rfl (by decide) (by decide) (by decide) (by decide) (by decide) rfl (by simp; omega) fun u => ?_
   simp only [go_sem]
   have hWt : ∀ R, ((m.map cVr).take A.length ++ R).take A.length = A.map cVr := fun R => by
    rw [List.take_append_of_le_length (by simp; omega), List.take_take, Nat.min_self, ← List.map_take, hmt]
   have hWl : ∀ R, A.length ≤ ((m.map cVr).take A.length ++ R).length := fun R => by simp; omega
   replace hWt := hWt (List.replicate ((m.map cVr).length - A.length) (List.map D.v [.string ⟨#[]⟩, .slice none 0 0]))
   replace hWl := hWl (List.replicate ((m.map cVr).length - A.length) (List.map D.v [.string ⟨#[]⟩, .slice none 0 0]))
   generalize ((m.map cVr).take A.length ++ List.replicate ((m.map cVr).length - A.length) (List.map D.v [.string ⟨#[]⟩, .slice none 0 0])) = W at *
   (refine qc fun Y Yh=>?_;simp[go_sem];((repeat' (first|intro _|apply And.intro|(apply Yh;clear Yh Y)));all_goals first|apply Xi|omega))
   rw [hWt]
   refine qi ?_
   simp [go_sem]
theorem find_idx {α : Type} (f : α → Bool) : ∀ {l : List α} {p : α}, l.find? f = some p → l[l.findIdx f]? = some p
 | [], p, h => by cases h
 | x :: l, p, h => by
  rw [List.find?_cons] at h
  rw [List.findIdx_cons]
  cases hx : f x with
  | true =>
   rw [hx] at h
   simpa using h
  | false =>
   rw [hx] at h
   simpa using find_idx f h
theorem fIx_find (f : Prs → Bool) (l : List Prs) : (fIx f l = -1 ∧ l.find? f = none) ∨ ∃ (k : Nat) (p : Prs), fIx f l = k ∧ l[k]? = some p ∧ l.find? f = some p := by
 cases h : l.find? f with
 | none =>
  have ha : l.any f = false := by
   rw [List.any_eq_false]
   exact List.find?_eq_none.1 h
  exact .inl ⟨fIx_none ha, rfl⟩
 | some p =>
  have ha : l.any f = true := List.any_eq_true.2 ⟨p, List.mem_of_find?_eq_some h, List.find?_some h⟩
  exact .inr ⟨_, p, by unfold fIx; rw [if_pos ha], find_idx f h, rfl⟩
set_option maxHeartbeats 8000000 in
theorem Zx (p : Prs) (g : Gm) (gem : Bs) : PCall Tryz.prog 142 [dP p, .rd [dS g.1, dVrs g.2], .rd [dS gem]] fun r => r = dB (decide (p.1 = g.1 ∧ g.1 ≠ gem)) := by 
 refine qw Tryz.func142 rfl rfl Tryz.ntmps142 (rs := [.tmp 4]) (tys := [4]) rfl rfl (by simp) ?_
 (refine qc fun Y Yh=>?_;simp[go_sem];intro _;apply Yh;clear Yh Y;apply Xi)
 by_cases h : p.1 = g.1
 ·(refine qc fun Y Yh=>?_;simp[go_sem, h];((repeat' (first|(refine qJ ?_ ?_;(focus (simp[go_sem, undef, h];done));simp[go_sem, h])|(apply Yh;clear Yh Y)));all_goals apply Xi))
  (refine qi ?_;simp[go_sem, h])
  by_cases h2 : g.1 = gem <;> simp [h2]
 ·have hb : (p.1 == g.1) = false := by simp [h]
  (refine qc fun Y Yh=>?_;simp[go_sem, h, hb];((repeat' (first|(refine qG ?_ ?_ ?_;(focus (simp[go_sem, undef, h, hb];done));(focus (simp[go_sem];done));simp[go_sem, h, hb])|(apply Yh;clear Yh Y)));all_goals apply Xi))
  (refine qi ?_;simp[go_sem, h])
set_option maxHeartbeats 8000000 in
theorem Zw (v : Vrs) (L : Lck) (k : Nat) (p : Prs) (hp : L.1[k]? = some p) : PCall Tryz.prog 145 [dVr v, .rd [dPs L.1, dNs L.2.1, dPs L.2.2], .rd [dI k]] fun r => r = dB (decide (v.1 ≠ p.2)) := by 
 refine qw Tryz.func145 rfl rfl Tryz.ntmps145 (rs := [.tmp 4]) (tys := [4]) rfl rfl (by simp) ?_
 (refine qc fun Y Yh=>?_;simp[go_sem];intro _;apply Yh;clear Yh Y;apply Xi)
 ((refine qE (.qs [0, 2, 1, 3, 4, 5, 6, 7, 8, 9] (.nil)) (by kernel_rfl) ?_ ?_ ?_ ?_);kernel_rfl;exact (by decide +kernel);kernel_rfl;intro Y Yh;((repeat' (first|refine qy ?_|(refine qo fun Y Yh=>?_;simp[go_sem, hp])|(apply Yh;clear Yh Y)));all_goals apply Xi))
 (refine qi ?_;simp[go_sem])
 by_cases h : v.1 = p.2 <;> simp [h]
set_option maxHeartbeats 16000000 in
theorem Jb (s : Src) (L : Lck) (gem : Bs) (hs : SzS s) (hl : L.1.length ≤ 1000000) : PCall Tryz.prog 105 [dSrc s, dLk L, dS gem] fun r => r = dSrc (keptV s L.1 gem) := by 
 refine qw Tryz.func105 rfl rfl Tryz.ntmps105 (rs := [.cell 6 32]) (tys := [32]) rfl rfl (by simp) ?_
 obtain ⟨hs0, hs1⟩ := hs
 have hkt := fun i g => @kept_take s L.1 gem i g
 have hk0 : keptV (s.take 0) L.1 gem = [] := rfl
 have hkn : keptV (s.take s.length) L.1 gem = keptV s L.1 gem := by rw [List.take_length]
 have hkl : ∀ i, (keptV (s.take i) L.1 gem).length ≤ s.length := fun i => by unfold keptV; simp; omega
 rw [← hkn]
 generalize hF : (fun i => keptV (s.take i) L.1 gem) = F at *
 have hF1 : ∀ i, keptV (s.take i) L.1 gem = F i := fun i => by rw [← hF]
 simp only [hF1] at hkt hk0 hkn hkl ⊢
 clear hF hF1 hkn
 (refine qc fun Y Yh=>?_;simp[go_sem];((repeat' (first|intro _|(apply Yh;clear Yh Y)));all_goals apply Xi))
 refine qA 3 rfl rfl ?_
 simp only [go_sem]
 refine qA 4 rfl rfl ?_
 simp only [go_sem]
 refine qA 5 rfl rfl ?_
 simp only [go_sem]
 rename_i g6
 (refine qc fun Y Yh=>?_;simp[go_sem];intro _;apply Yh;clear Yh Y;apply Xi)
 rename_i g7
 refine zo 900091 119 2 0 (sb := 7) rfl rfl (by decide) fun gr0 => ?_
 simp only [List.set, go_sem]
 refine qf fun K1 hK1 => ?_
 (refine qc fun Y Yh=>?_;simp[go_sem];apply Yh;clear Yh Y;apply Xi)
 refine qj ?_
 refine qx (σ := Nat × Nat) (fun x => ⟨[(4, .rd [dPs L.1, dNs L.2.1, dPs L.2.2]), (5, .rd [dS gem]), (6, .ptr 6 g6 0), (7, .ptr 7 g7 0), (12, dGms s), (13, dI s.length), (14, dI x.1)], [(6, (g6, .box [.v (.slice none 0 0)])), (7, (g7, .box [.own 900091 x.2])), (900091, (x.2, .row 119 2 ((F x.1).map cGm)))]⟩) (fun x => x.1 ≤ s.length) (fun x => s.length - x.1) (0, gr0) ?_ ?_ ?_
 ·(refine ql ?_ ?_ <;> simp[go_sem, hk0])
 ·simp
 rintro ⟨i, gr⟩ hi
 simp only at hi
 have hFl := hkl i
 (refine qc fun Y Yh=>?_;simp[go_sem];apply Yh;clear Yh Y;apply Xi)
 refine qf fun K2 hK2 => ?_
 (refine qg fun T F hT hF=>?_;simp[go_sem];refine BR.intro (fun h3=>hT ?_) (fun h3=>hF ?_);all_goals clear hT hF T F;try simp at h3)
 ·refine qh ?_
  refine hK2 _ ?_; clear hK2
  obtain ⟨x, hx⟩ : ∃ x, s[i]? = some x := ⟨_, List.getElem?_eq_getElem (by omega)⟩
  obtain ⟨hx0, hx1, hx2⟩ := hs1 x (List.mem_of_getElem? hx)
  have hst := hkt i x hx
  have IX := kM L.1 142 [.rd [dS x.1, dVrs x.2], .rd [dS gem]] (fun p => decide (p.1 = x.1 ∧ x.1 ≠ gem)) (fun p _ => Zx p x gem) hl
  have hfx := fIx_find (fun p => decide (p.1 = x.1 ∧ x.1 ≠ gem)) L.1
  have hkg : keepG L.1 gem x = (match L.1.find? (fun p => decide (p.1 = x.1 ∧ x.1 ≠ gem)) with
   | some p => (x.1, x.2.filter fun v => decide (v.1 = p.2))
   | none => x) := rfl
  generalize fIx (fun p => decide (p.1 = x.1 ∧ x.1 ≠ gem)) L.1 = ix at *
  generalize L.1.find? (fun p => decide (p.1 = x.1 ∧ x.1 ≠ gem)) = fd at *
  generalize keepG L.1 gem x = kg at *
  refine qf fun K4 hK4 => ?_
  refine qj ?_
  (refine qc fun Y Yh=>?_;simp[go_sem, hx];intro _;apply Yh;clear Yh Y;apply Xi)
  rename_i g9
  (refine qc fun Y Yh=>?_;simp[go_sem])
  ((try refine Xj ?_);refine jk (.inl ⟨rfl,rfl⟩) ?_;intro args ha;simp[go_sem] at ha;subst ha;refine ⟨_, IX, ?_⟩;rintro _ rfl;refine ⟨rfl, ?_⟩;simp[go_sem];intro _;apply Yh;clear Yh Y;apply Xi)
  refine qA 10 rfl rfl ?_
  simp only [go_sem]
  refine qf fun K5 hK5 => ?_
  have tl5 : ∀ S' g9, Cov S' ⟨[(4, .rd [dPs L.1, dNs L.2.1, dPs L.2.2]), (5, .rd [dS gem]), (6, .ptr 6 g6 0), (7, .ptr 7 g7 0), (9, .ptr 9 g9 0), (12, dGms s), (13, dI s.length), (14, dI i)], [(6, (g6, .box [.v (.slice none 0 0)])), (7, (g7, .box [.own 900091 gr])), (9, (g9, .box [dS kg.1, dVrs kg.2])), (900091, (gr, .row 119 2 ((F i).map cGm)))]⟩ → K5 S' := fun S' g9 hS => by
   refine hK5 _ ?_; clear hK5
   refine qN hS ?_; clear hS
   (refine qB fun Y Yh=>?_;simp[go_sem];((repeat' (first|intro _|apply And.intro|(apply Yh;clear Yh Y)));all_goals first|apply Xi|omega))
   rename_i gq gr'
   refine hK4 _ ?_; clear hK4
   (refine qB fun Y Yh=>?_;simp[go_sem];((repeat' (first|apply And.intro|(apply Yh;clear Yh Y)));all_goals first|apply Xi|omega))
   refine ⟨(i + 1, gr'), ?_, by simp only; omega, by simp only; omega⟩
   simp only [hst]
   (refine ql ?_ ?_ <;> simp[go_sem])
  have tl5b : ∀ S' g9 g2 vs, kg = (kg.1, vs) → Cov S' ⟨[(4, .rd [dPs L.1, dNs L.2.1, dPs L.2.2]), (5, .rd [dS gem]), (6, .ptr 6 g6 0), (7, .ptr 7 g7 0), (9, .ptr 9 g9 0), (12, dGms s), (13, dI s.length), (14, dI i)], [(6, (g6, .box [.v (.slice none 0 0)])), (7, (g7, .box [.own 900091 gr])), (9, (g9, .box [dS kg.1, .own 900010 g2])), (900010, (g2, .row 116 2 (vs.map cVr))), (900091, (gr, .row 119 2 ((F i).map cGm)))]⟩ → K5 S' := fun S' g9 g2 vs hvs hS => by
   refine hK5 _ ?_; clear hK5
   refine qN hS ?_; clear hS
   refine zq 900010 9 1 rfl rfl (by decide) rfl ?_
   simp only [go_sem, List.set]
   have hk2 : kg.2 = vs := by rw [hvs]
   rw [← hk2]
   (refine qB fun Y Yh=>?_;simp[go_sem];((repeat' (first|intro _|apply And.intro|(apply Yh;clear Yh Y)));all_goals first|apply Xi|omega))
   rename_i gq gr'
   refine hK4 _ ?_; clear hK4
   (refine qB fun Y Yh=>?_;simp[go_sem];((repeat' (first|apply And.intro|(apply Yh;clear Yh Y)));all_goals first|apply Xi|omega))
   refine ⟨(i + 1, gr'), ?_, by simp only; omega, by simp only; omega⟩
   simp only [hst]
   (refine ql ?_ ?_ <;> simp[go_sem])
  clear hK5 hK4
  rcases hfx with ⟨h1, h2⟩ | ⟨k, p, h1, h2, h3⟩
  ·subst h1 h2
   simp only at hkg
   subst hkg
   (refine qc fun Y Yh=>?_;simp[go_sem];apply Yh;clear Yh Y;apply Xi)
   (refine qg fun T F hT hF=>?_;simp[go_sem];refine hF ?_;clear hT hF T F)
   refine qh ?_
   refine tl5 _ g9 ?_
   (refine ql ?_ ?_ <;> simp[go_sem])
  ·subst h1 h3
   simp only at hkg
   subst hkg
   have hfe : (fun v : Vrs => !decide (v.1 ≠ p.2)) = fun v => decide (v.1 = p.2) := by
    funext v
    by_cases e : v.1 = p.2 <;> simp [e]
   have VD := fun g => ZR 900010 g x.2 145 [dPs L.1, dNs L.2.1, dPs L.2.2] [dI k] (fun v => decide (v.1 ≠ p.2)) (fun v _ => Zw v L k p h2) hx1 rfl
   rw [hfe] at VD
   (refine qc fun Y Yh=>?_;simp[go_sem];apply Yh;clear Yh Y;apply Xi)
   (refine qg fun T F hT hF=>?_;simp[go_sem];refine hT ?_;clear hT hF T F)
   (refine qB fun Y Yh=>?_;simp[go_sem])
   (refine qR [900010] (.inl ⟨rfl,rfl⟩) (by simp[go_sem]) ?_;intro args ha;simp[go_sem] at ha;subst ha;refine ⟨_, _, (kC x.2 hx1), (by simp[go_sem]), ?_⟩;rintro ps r hps ⟨g1, rfl, rfl⟩;simp[go_sem])
   (refine qR [900010] (.inl ⟨rfl,rfl⟩) (by simp[go_sem]) ?_;intro args ha;simp[go_sem] at ha;subst ha;refine ⟨_, _, (VD g1), (by simp[go_sem]), ?_⟩;rintro ps r hps ⟨g2, rfl, rfl⟩;simp[go_sem];apply Yh;clear Yh Y;apply Xi)
   refine tl5b _ g9 g2 _ rfl ?_
   (refine ql ?_ ?_ <;> simp[go_sem])
 ·refine qp ?_
  simp only [go_sem]
  refine hK1 _ ?_; clear hK1
  have hie : i = s.length := by omega
  subst hie
  refine zq 900091 7 0 rfl rfl (by decide) rfl ?_
  simp only [go_sem, List.set]
  (refine qc fun Y Yh=>?_;simp[go_sem];apply Yh;clear Yh Y;apply Xi)
  (refine qi ?_;simp[go_sem])
theorem held_not {s : Src} {L : Lck} {i : Nat} (hi : i < L.1.length) (hs : suV s = true) (hL : lockV L = true) (h : heldP s L i = false) : heldV s L = (false, 0) := by
 unfold heldV
 rw [if_pos ⟨hs, hL⟩]
 have : upTo (heldP s L) L.1.length = false := by
  cases hq : upTo (heldP s L) L.1.length with
  | false => rfl
  | true =>
   have := upTo_at hq hi
   rw [h] at this; cases this
 rw [this]; rfl
theorem held_ok {s : Src} {L : Lck} (hs : suV s = true) (hL : lockV L = true) (h : upTo (heldP s L) L.1.length = true) : okQ s L.2.2 L.1 = true ∧ heldV s L = (solQ (allN s L.2.2 L.1) L.1, 0) := by
 have hp : picksQ s L.1 = true := picksQ_of (lock_asc hL) fun p hp => by
  obtain ⟨i, hi⟩ := List.getElem?_of_mem hp
  have hil := (List.getElem?_eq_some_iff.1 hi).1
  have h1 := upTo_at h hil
  unfold heldP at h1
  rw [hi] at h1
  obtain ⟨r, hr⟩ : ∃ r, L.2.1[i]? = some r := ⟨_, List.getElem?_eq_getElem (by have := (zD hL).2.1; omega)⟩
  rw [hr] at h1
  simp only [Bool.and_eq_true] at h1
  exact Option.isSome_iff_exists.1 h1.1
 refine ⟨by unfold okQ; rw [lock_chk hs hL, hp]; rfl, ?_⟩
 unfold heldV
 rw [if_pos ⟨hs, hL⟩, h]; rfl
set_option maxHeartbeats 16000000 in
theorem vY (s : Src) (L : Lck) (hs : SzS s) (hL : LkOk L) (hw : SzN L.2.2) : PCall Tryz.prog 45 [dSrc s, dLk L] fun r => r = .tup [dB (heldV s L).1, dI (heldV s L).2] := by 
 refine qw Tryz.func45 rfl rfl Tryz.ntmps45 (rs := [.tmp 4, .tmp 5]) (tys := [4, 35]) rfl rfl (by simp) ?_
 have C1 := jh L hL
 have C2 := jd s L.2.2 hs hw
 by_cases hlk : lockV L = true
 rotate_left
 ·have hv : heldV s L = (false, 1) := by unfold heldV; rw [if_neg (fun q => hlk q.2)]
  have hlf : lockV L = false := by simpa using hlk
  rw [hv]
  rw [hlf] at C1
  (refine qc fun Y Yh=>?_;simp[go_sem];intro _;intro _;apply Yh;clear Yh Y;apply Xi)
  refine qA 2 rfl rfl ?_
  simp only [go_sem]
  refine qA 3 rfl rfl ?_
  simp only [go_sem]
  refine qf fun K1 hK1 => ?_
  (refine qc fun Y Yh=>?_;simp[go_sem])
  ((try refine Xj ?_);refine qm (.inl ⟨rfl,rfl⟩) (by simp[go_sem]) ?_;intro args ha;simp[go_sem] at ha;subst ha;refine ⟨_, C1, ?_⟩;rintro _ rfl;simp[go_sem];((repeat' (first|(refine qG ?_ ?_ ?_;(focus (simp[go_sem, undef];done));(focus (simp[go_sem];done));simp[go_sem])|(apply Yh;clear Yh Y)));all_goals apply Xi))
  (refine qg fun T F hT hF=>?_;simp[go_sem];refine hT ?_;clear hT hF T F)
  (refine qc fun Y Yh=>?_;simp[go_sem];apply Yh;clear Yh Y;apply Xi)
  (refine qi ?_;simp[go_sem])
 rw [hlk] at C1
 by_cases hsu : suV s = true
 rotate_left
 ·have hv : heldV s L = (false, 1) := by unfold heldV; rw [if_neg (fun q => hsu q.1)]
  have hcf : chkV s L.2.2 = false := by
   have : suV s = false := by simpa using hsu
   unfold chkV; rw [this]; rfl
  rw [hv]
  rw [hcf] at C2
  (refine qc fun Y Yh=>?_;simp[go_sem];intro _;intro _;apply Yh;clear Yh Y;apply Xi)
  refine qA 2 rfl rfl ?_
  simp only [go_sem]
  refine qA 3 rfl rfl ?_
  simp only [go_sem]
  refine qf fun K1 hK1 => ?_
  (refine qc fun Y Yh=>?_;simp[go_sem])
  ((try refine Xj ?_);refine qm (.inl ⟨rfl,rfl⟩) (by simp[go_sem]) ?_;intro args ha;simp[go_sem] at ha;subst ha;refine ⟨_, C1, ?_⟩;rintro _ rfl;simp[go_sem];((repeat' (refine qJ ?_ ?_;(focus (simp[go_sem, undef];done));simp[go_sem]))))
  ((try refine Xj ?_);refine qm (.inl ⟨rfl,rfl⟩) (by simp[go_sem]) ?_;intro args ha;simp[go_sem] at ha;subst ha;refine ⟨_, C2, ?_⟩;rintro _ rfl;simp[go_sem];refine qJ ?_ ?_;(focus (simp[go_sem, undef];done));simp[go_sem];apply Yh;clear Yh Y;apply Xi)
  (refine qg fun T F hT hF=>?_;simp[go_sem];refine hT ?_;clear hT hF T F)
  (refine qc fun Y Yh=>?_;simp[go_sem];apply Yh;clear Yh Y;apply Xi)
  (refine qi ?_;simp[go_sem])
 rw [lock_chk hsu hlk] at C2
 have hln := (zD hlk).2.1
 have hst := fun i p r => @held_step s L i p r
 have hno := fun i => @held_not s L i
 have hok := held_ok hsu hlk
 obtain ⟨hL0, hL1, hL2, hL3, hL4, hL5⟩ := hL
 (refine qc fun Y Yh=>?_;simp[go_sem];intro _;intro _;apply Yh;clear Yh Y;apply Xi)
 refine qA 2 rfl rfl ?_
 simp only [go_sem]
 refine qA 3 rfl rfl ?_
 simp only [go_sem]
 refine qf fun K1 hK1 => ?_
 (refine qc fun Y Yh=>?_;simp[go_sem])
 ((try refine Xj ?_);refine qm (.inl ⟨rfl,rfl⟩) (by simp[go_sem]) ?_;intro args ha;simp[go_sem] at ha;subst ha;refine ⟨_, C1, ?_⟩;rintro _ rfl;simp[go_sem];((repeat' (refine qJ ?_ ?_;(focus (simp[go_sem, undef];done));simp[go_sem]))))
 ((try refine Xj ?_);refine qm (.inl ⟨rfl,rfl⟩) (by simp[go_sem]) ?_;intro args ha;simp[go_sem] at ha;subst ha;refine ⟨_, C2, ?_⟩;rintro _ rfl;simp[go_sem];refine qJ ?_ ?_;(focus (simp[go_sem, undef];done));simp[go_sem];apply Yh;clear Yh Y;apply Xi)
 (refine qg fun T F hT hF=>?_;simp[go_sem];refine hF ?_;clear hT hF T F)
 refine qh ?_
 refine hK1 _ ?_; clear hK1
 refine qf fun K3 hK3 => ?_
 (refine qc fun Y Yh=>?_;simp[go_sem];apply Yh;clear Yh Y;apply Xi)
 refine qj ?_
 refine qx (σ := Nat) (fun i => ⟨[(2, .rd [dGms s]), (3, .rd [dPs L.1, dNs L.2.1, dPs L.2.2]), (21, dPs L.1), (22, dI L.1.length), (23, dI i)], []⟩) (fun i => i ≤ L.1.length ∧ upTo (heldP s L) i = true) (fun i => L.1.length - i) 0 ?_ ?_ ?_
 ·(refine ql ?_ ?_ <;> simp[go_sem])
 ·exact ⟨by simp, rfl⟩
 rintro i ⟨hi, hT⟩
 (refine qc fun Y Yh=>?_;simp[go_sem];apply Yh;clear Yh Y;apply Xi)
 refine qf fun K4 hK4 => ?_
 (refine qg fun T F hT hF=>?_;simp[go_sem];refine BR.intro (fun h5=>hT ?_) (fun h5=>hF ?_);all_goals clear hT hF T F;try simp at h5)
 ·refine qh ?_
  refine hK4 _ ?_; clear hK4
  have hil : i < L.1.length := by omega
  obtain ⟨x, hx⟩ : ∃ x, L.1[i]? = some x := ⟨_, List.getElem?_eq_getElem hil⟩
  obtain ⟨r, hr⟩ : ∃ r, L.2.1[i]? = some r := ⟨_, List.getElem?_eq_getElem (by omega)⟩
  have hst1 := hst i x r hx hr hT
  have hrl := (hL4 r (List.mem_of_getElem? hr)).1
  have hhp : heldP s L i = ((fndV s x).isSome && decide (ownV s x = r)) := by unfold heldP; rw [hx, hr]
  have hno1 := hno i hil hsu hlk
  rw [hhp] at hno1
  have NO := xC s x hsu
  have hol : (ownV s x).length ≤ 1000000 := by
   unfold ownV; rw [jq]; have := (fnd_nu hsu x).1; omega
  have EQ := JE (ownV s x) r hol hrl
  generalize ownV s x = o at *
  generalize (fndV s x).isSome = is at *
  refine qf fun K6 hK6 => ?_
  refine qj ?_
  (refine qc fun Y Yh=>?_;simp[go_sem, hx];intro _;apply Yh;clear Yh Y;apply Xi)
  refine qA 7 rfl rfl ?_
  simp only [go_sem]
  (refine qc fun Y Yh=>?_;simp[go_sem])
  ((try refine Xj ?_);refine qm (.inl ⟨rfl,rfl⟩) (by simp[go_sem]) ?_;intro args ha;simp[go_sem] at ha;subst ha;refine ⟨_, NO, ?_⟩;rintro _ rfl;simp[go_sem];apply Yh;clear Yh Y;apply Xi)
  cases is with
  | false =>
   have hv := hno1 rfl
   rw [hv]
   (refine qc fun Y Yh=>?_;simp[go_sem];((repeat' (first|(refine qG ?_ ?_ ?_;(focus (simp[go_sem, undef];done));(focus (simp[go_sem];done));simp[go_sem])|(apply Yh;clear Yh Y)));all_goals apply Xi))
   (refine qg fun T F hT hF=>?_;simp[go_sem];refine hT ?_;clear hT hF T F)
   (refine qc fun Y Yh=>?_;simp[go_sem];apply Yh;clear Yh Y;apply Xi)
   (refine qi ?_;simp[go_sem])
  | true =>
   simp only [Bool.true_and] at hst1 hno1
   (refine qc fun Y Yh=>?_;simp[go_sem, hr];((repeat' (refine qJ ?_ ?_;(focus (simp[go_sem, undef, hr];done));simp[go_sem, hr]))))
   ((try refine Xj ?_);refine qm (.inl ⟨rfl,rfl⟩) (by simp[go_sem]) ?_;intro args ha;simp[go_sem] at ha;subst ha;refine ⟨_, EQ, ?_⟩;rintro _ rfl;simp[go_sem, hr];refine qJ ?_ ?_;(focus (simp[go_sem, undef, hr];done));simp[go_sem, hr];apply Yh;clear Yh Y;apply Xi)
   by_cases he : o = r
   ·have hed : decide (o = r) = true := by simp [he]
    rw [hed] at hst1
    (refine qg fun T F hT hF=>?_;simp[go_sem, he];refine hF ?_;clear hT hF T F)
    refine qh ?_
    refine hK6 _ ?_; clear hK6
    (refine qB fun Y Yh=>?_;simp[go_sem];((repeat' (first|apply And.intro|(apply Yh;clear Yh Y)));all_goals first|apply Xi|omega))
    refine ⟨i + 1, ?_, ⟨by omega, hst1⟩, by omega⟩
    (refine ql ?_ ?_ <;> simp[go_sem])
   ·have hv := hno1 (by simp [he])
    rw [hv]
    (refine qg fun T F hT hF=>?_;simp[go_sem, he];refine hT ?_;clear hT hF T F)
    (refine qc fun Y Yh=>?_;simp[go_sem];apply Yh;clear Yh Y;apply Xi)
    (refine qi ?_;simp[go_sem])
 ·refine qp ?_
  simp only [go_sem]
  refine hK3 _ ?_; clear hK3
  have hie : i = L.1.length := by omega
  subst hie
  obtain ⟨hq, hv⟩ := hok hT
  have IS := Xb s L.2.2 L.1 hs hw hL0
  rw [hq] at IS
  simp only [Bool.true_and, if_true] at IS
  rw [hv]
  (refine qc fun Y Yh=>?_;simp[go_sem])
  ((try refine Xj ?_);refine qm (.inl ⟨rfl,rfl⟩) (by simp[go_sem]) ?_;intro args ha;simp[go_sem] at ha;subst ha;refine ⟨_, IS, ?_⟩;rintro _ rfl;simp[go_sem];apply Yh;clear Yh Y;apply Xi)
  (refine qi ?_;simp[go_sem])
end Go.Proofs.YteekfnhhlcmcgaaGreatDoor
set_option maxRecDepth 20000
namespace Go.Lk
open Go.Lib Go.Wh Go.Ver
theorem kept_own {s : Src} (hs : suV s = true) (P : List Prs) (gem : Bs) {w : List Prs} {b : Int} (h : (solV (keptV s P gem) w b).2.2 = 0) :
  (solV (keptV s P gem) w b).1.map (ownV (keptV s P gem)) = (solV (keptV s P gem) w b).1.map (ownV s) := by
 have h1 := (Sol.map _ (keepG_nm P gem) (keepG_sub P gem) hs (Qv h)).2
 refine List.map_congr_left fun p hp => ?_
 unfold ownV
 rw [show keptV s P gem = s.map (keepG P gem) from rfl, h1 p hp]
theorem upd_val {s : Src} {L : Lck} (hs : suV s = true) (hL : lockV L = true) (gem : Bs) (b : Int) :
  updV s L gem b = (if (solV (keptV s L.1 gem) L.2.2 b).2.2 = 3 then ofV s L.2.2 b else if (solV (keptV s L.1 gem) L.2.2 b).2.2 = 0 then (((solV (keptV s L.1 gem) L.2.2 b).1, (solV (keptV s L.1 gem) L.2.2 b).1.map (ownV s), srtP L.2.2), 0) else (lk0, (solV (keptV s L.1 gem) L.2.2 b).2.2)) := by
 unfold updV
 rw [if_pos ⟨hs, hL⟩]
 by_cases h0 : (solV (keptV s L.1 gem) L.2.2 b).2.2 = 0
 ·have e1 : ofV (keptV s L.1 gem) L.2.2 b = (((solV (keptV s L.1 gem) L.2.2 b).1, (solV (keptV s L.1 gem) L.2.2 b).1.map (ownV s), srtP L.2.2), 0) := by
   unfold ofV
   rw [if_pos h0, kept_own hs L.1 gem h0]
  rw [e1, h0]
  simp
 ·have e1 : ofV (keptV s L.1 gem) L.2.2 b = (lk0, (solV (keptV s L.1 gem) L.2.2 b).2.2) := by
   unfold ofV
   rw [if_neg h0]
  rw [e1]
  simp only [h0, if_false]
end Go.Lk
namespace Go.Proofs.YteekfnhhlcmcgaaGreatDoor
open Go.Eng Go.Wh Go.Ver Go.Lk
set_option maxRecDepth 20000
attribute [local irreducible] AG CallA CallT AWp PCall ACall AgC
set_option maxHeartbeats 16000000 in
theorem Zf (s : Src) (L : Lck) (gem : Bs) (b : Int) (hs : SzS s) (hL : LkOk L) (hw : SzN L.2.2) (hbr : InR b) : PCall Tryz.prog 47 [dSrc s, dLk L, dS gem, dI b] fun r => r = .tup [dLk (updV s L gem b).1, dI (updV s L gem b).2] := by 
 refine qw Tryz.func47 rfl rfl Tryz.ntmps47 (rs := [.cell 8 53, .tmp 9]) (tys := [53, 35]) rfl rfl (by simp) ?_
 have C1 := jh L hL
 have C2 := jd s L.2.2 hs hw
 by_cases hlk : lockV L = true
 rotate_left
 ·have hv : updV s L gem b = (lk0, 1) := by unfold updV; rw [if_neg (fun q => hlk q.2)]
  have hlf : lockV L = false := by simpa using hlk
  rw [hv]
  rw [hlf] at C1
  (refine qc fun Y Yh=>?_;simp[go_sem];intro _;intro _;intro _;apply Yh;clear Yh Y;apply Xi)
  refine qA 4 rfl rfl ?_
  simp only [go_sem]
  refine qA 5 rfl rfl ?_
  simp only [go_sem]
  refine qf fun K1 hK1 => ?_
  (refine qc fun Y Yh=>?_;simp[go_sem])
  ((try refine Xj ?_);refine qm (.inl ⟨rfl,rfl⟩) (by simp[go_sem]) ?_;intro args ha;simp[go_sem] at ha;subst ha;refine ⟨_, C1, ?_⟩;rintro _ rfl;simp[go_sem];((repeat' (first|(refine qG ?_ ?_ ?_;(focus (simp[go_sem, undef];done));(focus (simp[go_sem];done));simp[go_sem])|(apply Yh;clear Yh Y)));all_goals apply Xi))
  (refine qg fun T F hT hF=>?_;simp[go_sem];refine hT ?_;clear hT hF T F)
  (refine qc fun Y Yh=>?_;simp[go_sem];apply Yh;clear Yh Y;apply Xi)
  (refine qi ?_;simp[go_sem])
 rw [hlk] at C1
 by_cases hsu : suV s = true
 rotate_left
 ·have hv : updV s L gem b = (lk0, 1) := by unfold updV; rw [if_neg (fun q => hsu q.1)]
  have hcf : chkV s L.2.2 = false := by
   have : suV s = false := by simpa using hsu
   unfold chkV; rw [this]; rfl
  rw [hv]
  rw [hcf] at C2
  (refine qc fun Y Yh=>?_;simp[go_sem];intro _;intro _;intro _;apply Yh;clear Yh Y;apply Xi)
  refine qA 4 rfl rfl ?_
  simp only [go_sem]
  refine qA 5 rfl rfl ?_
  simp only [go_sem]
  refine qf fun K1 hK1 => ?_
  (refine qc fun Y Yh=>?_;simp[go_sem])
  ((try refine Xj ?_);refine qm (.inl ⟨rfl,rfl⟩) (by simp[go_sem]) ?_;intro args ha;simp[go_sem] at ha;subst ha;refine ⟨_, C1, ?_⟩;rintro _ rfl;simp[go_sem];((repeat' (refine qJ ?_ ?_;(focus (simp[go_sem, undef];done));simp[go_sem]))))
  ((try refine Xj ?_);refine qm (.inl ⟨rfl,rfl⟩) (by simp[go_sem]) ?_;intro args ha;simp[go_sem] at ha;subst ha;refine ⟨_, C2, ?_⟩;rintro _ rfl;simp[go_sem];refine qJ ?_ ?_;(focus (simp[go_sem, undef];done));simp[go_sem];apply Yh;clear Yh Y;apply Xi)
  (refine qg fun T F hT hF=>?_;simp[go_sem];refine hT ?_;clear hT hF T F)
  (refine qc fun Y Yh=>?_;simp[go_sem];apply Yh;clear Yh Y;apply Xi)
  (refine qi ?_;simp[go_sem])
 rw [lock_chk hsu hlk] at C2
 have hnu := wQ (zD hlk).2.2.1
 have KP := Jb s L gem hs hL.1
 have hks := zY (kept_su hsu L.1 gem)
 have S1 := xw (keptV s L.1 gem) L.2.2 b hks hw hbr
 have S2 := xw s L.2.2 b hs hw hbr
 have LC := fun l hl => kL s L.2.2 l hsu (by have := (zH hnu).1; omega) (jy hnu) hl
 have hl1 := @jM (keptV s L.1 gem) L.2.2 b
 have hl2 := @jM s L.2.2 b
 rw [upd_val hsu hlk]
 unfold ofV
 generalize keptV s L.1 gem = ks at *
 generalize solV ks L.2.2 b = q1 at *
 generalize solV s L.2.2 b = q2 at *
 obtain ⟨l1, n1, e1⟩ := q1
 obtain ⟨l2, n2, e2⟩ := q2
 simp only at S1 S2 hl1 hl2 ⊢
 generalize hV : (if e1 = 3 then if e2 = 0 then ((l2, l2.map (ownV s), srtP L.2.2), 0) else (lk0, e2) else if e1 = 0 then ((l1, l1.map (ownV s), srtP L.2.2), 0) else (lk0, e1) : Lck × Nat) = V at *
 (refine qc fun Y Yh=>?_;simp[go_sem];intro _;intro _;intro _;apply Yh;clear Yh Y;apply Xi)
 refine qA 4 rfl rfl ?_
 simp only [go_sem]
 refine qA 5 rfl rfl ?_
 simp only [go_sem]
 rename_i g8
 refine qf fun K1 hK1 => ?_
 (refine qc fun Y Yh=>?_;simp[go_sem])
 ((try refine Xj ?_);refine qm (.inl ⟨rfl,rfl⟩) (by simp[go_sem]) ?_;intro args ha;simp[go_sem] at ha;subst ha;refine ⟨_, C1, ?_⟩;rintro _ rfl;simp[go_sem];((repeat' (refine qJ ?_ ?_;(focus (simp[go_sem, undef];done));simp[go_sem]))))
 ((try refine Xj ?_);refine qm (.inl ⟨rfl,rfl⟩) (by simp[go_sem]) ?_;intro args ha;simp[go_sem] at ha;subst ha;refine ⟨_, C2, ?_⟩;rintro _ rfl;simp[go_sem];refine qJ ?_ ?_;(focus (simp[go_sem, undef];done));simp[go_sem];apply Yh;clear Yh Y;apply Xi)
 (refine qg fun T F hT hF=>?_;simp[go_sem];refine hF ?_;clear hT hF T F)
 refine qh ?_
 refine hK1 _ ?_; clear hK1
 ((refine qE (.qs [2, 4, 6, 0, 1, 5] (.kp 3 (.kp 7 (.qs [8, 9, 10, 11, 12] (.nil))))) (by kernel_rfl) ?_ ?_ ?_ ?_);kernel_rfl;exact (by decide +kernel);kernel_rfl;intro Y Yh;((repeat' (first|(refine qo fun Y Yh=>?_;simp[go_sem])|(refine qC fun Y Yh=>?_;simp[go_sem])|(apply Yh;clear Yh Y)))))
 ((try refine Xj ?_);refine qm (.inl ⟨rfl,rfl⟩) (by simp[go_sem]) ?_;intro args ha;simp[go_sem] at ha;subst ha;refine ⟨_, KP, ?_⟩;rintro _ rfl;simp[go_sem];((repeat' (first|(refine qC fun Y Yh=>?_;simp[go_sem])|(apply Yh;clear Yh Y)))))
 ((try refine Xj ?_);refine qm (.inl ⟨rfl,rfl⟩) (by simp[go_sem]) ?_;intro args ha;simp[go_sem] at ha;subst ha;refine ⟨_, S1, ?_⟩;rintro _ rfl;simp[go_sem];((repeat' (first|refine qy ?_|(refine qo fun Y Yh=>?_;simp[go_sem])|(apply Yh;clear Yh Y)));all_goals apply Xi))
 refine qf fun K2 hK2 => ?_
 have tl2 : ∀ S' l e, l.length ≤ 16 → V = (if e = 0 then ((l, l.map (ownV s), srtP L.2.2), 0) else (lk0, e)) → Cov S' ⟨[(4, .rd [dGms s]), (5, .rd [dPs L.1, dNs L.2.1, dPs L.2.2]), (8, .ptr 8 g8 0), (10, dPs l), (11, dI (e : Nat))], [(8, (g8, .box [.v (.slice none 0 0), .v (.slice none 0 0), .v (.slice none 0 0)]))]⟩ → K2 S' := fun S' l e hl he hS => by
  refine hK2 _ ?_; clear hK2
  rw [he]
  clear hV he
  refine qN hS ?_; clear hS
  refine qf fun K3 hK3 => ?_
  (refine qc fun Y Yh=>?_;simp[go_sem];apply Yh;clear Yh Y;apply Xi)
  by_cases h0 : e = 0
  ·subst h0
   (refine qg fun T F hT hF=>?_;simp[go_sem];refine hF ?_;clear hT hF T F)
   refine qh ?_
   refine hK3 _ ?_; clear hK3
   (refine qc fun Y Yh=>?_;simp[go_sem])
   ((try refine Xj ?_);refine qm (.inl ⟨rfl,rfl⟩) (by simp[go_sem]) ?_;intro args ha;simp[go_sem] at ha;subst ha;refine ⟨_, (LC l (by omega)), ?_⟩;rintro _ rfl;simp[go_sem];apply Yh;clear Yh Y;apply Xi)
   (refine qi ?_;simp[go_sem])
  ·have h0i : ¬ (e : Int) = 0 := by omega
   rw [if_neg h0]
   (refine qg fun T F hT hF=>?_;simp[go_sem, h0, h0i];refine hT ?_;clear hT hF T F)
   (refine qc fun Y Yh=>?_;simp[go_sem];apply Yh;clear Yh Y;apply Xi)
   (refine qi ?_;simp[go_sem, h0])
 clear hK2
 (refine qc fun Y Yh=>?_;simp[go_sem];apply Yh;clear Yh Y;apply Xi)
 by_cases h3 : e1 = 3
 ·subst h3
  (refine qg fun T F hT hF=>?_;simp[go_sem];refine hT ?_;clear hT hF T F)
  (refine qB fun Y Yh=>?_;simp[go_sem])
  ((try refine Xj ?_);refine qm (.inl ⟨rfl,rfl⟩) (by simp[go_sem]) ?_;intro args ha;simp[go_sem] at ha;subst ha;refine ⟨_, S2, ?_⟩;rintro _ rfl;simp[go_sem];apply Yh;clear Yh Y;apply Xi)
  refine tl2 _ l2 e2 hl2 (by rw [← hV, if_pos rfl]) ?_
  (refine ql ?_ ?_ <;> simp[go_sem])
 ·have h3i : ¬ (e1 : Int) = 3 := by omega
  (refine qg fun T F hT hF=>?_;simp[go_sem, h3, h3i];refine hF ?_;clear hT hF T F)
  refine qh ?_
  refine tl2 _ l1 e1 hl1 (by rw [← hV, if_neg h3]) ?_
  (refine ql ?_ ?_ <;> simp[go_sem])
end Go.Proofs.YteekfnhhlcmcgaaGreatDoor
namespace Go.Lk
open Go.Ver
/-! the example of chapter 12 -/
set_option maxRecDepth 100000
end Go.Lk
namespace Go.Proofs.YteekfnhhlcmcgaaGreatDoor
open Go.Eng Go.Wh Go.Ver Go.Lk
set_option maxRecDepth 20000
attribute [local irreducible] AG CallA CallT AWp PCall ACall AgC
theorem QY {s : Src} {w : List Prs} (h : GrOk s w) : chkV s w = true := by
 unfold chkV
 rw [Qh h, Bool.true_and, Qc]
 obtain ⟨_, b, c⟩ := Qc.1 h.wi
 exact ⟨by have := h.wl; omega, b, c⟩
theorem JZ {s : Src} {w : List Prs} (h : GrOk s w) : SzN w := (x8 (QY h)).2.1
set_option maxHeartbeats 16000000 in
theorem QB (s : Src) (w l : List Prs) (hs : SzS s) (hw : SzN w) (hl : l.length ≤ 1000) (hlz : ∀ x ∈ l, Sz1 x) : PCall Tryz.prog 136 [dSrc s, dPs w, dPs l] fun r => r = dPs (lackV (allN s w l) l) := by 
 refine qw Tryz.func136 rfl rfl Tryz.ntmps136 (rs := [.tmp 6]) (tys := [26]) rfl rfl (by simp) ?_
 have AL := jX s w l hs hw hl
 have haz := allN_mem (l := l) hs hw.2
 have hal := allN_len (w := w) hs l
 have hal2 : (allN s w l).length ≤ 2000000000 := by have := hw.1; have : l.length * 1000000 ≤ 1000 * 1000000 := Nat.mul_le_mul_right _ hl; omega
 generalize allN s w l = all at *
 (refine qc fun Y Yh=>?_;simp[go_sem];intro _;apply Yh;clear Yh Y;apply Xi)
 refine qA 3 rfl rfl ?_
 simp only [go_sem]
 (refine qc fun Y Yh=>?_;simp[go_sem])
 ((try refine Xj ?_);refine qm (.inl ⟨rfl,rfl⟩) (by simp[go_sem]) ?_;intro args ha;simp[go_sem] at ha;subst ha;refine ⟨_, AL, ?_⟩;rintro _ rfl;simp[go_sem];apply Yh;clear Yh Y;apply Xi)
 (refine qc fun Y Yh=>?_;simp[go_sem];apply Yh;clear Yh Y;apply Xi)
 refine qU 8 900013 43 2 rfl fun g8 => ?_
 simp only [go_sem]
 refine qf fun K1 hK1 => ?_
 (refine qc fun Y Yh=>?_;simp[go_sem];apply Yh;clear Yh Y;apply Xi)
 refine qj ?_
 refine qx (σ := Nat × Nat) (fun z => ⟨[(2, dPs l), (7, dPs all), (8, .own 900013 z.2), (9, dI z.1)], [(900013, (z.2, .row 43 2 ((lackV (all.take z.1) l).map cP)))]⟩) (fun z => z.1 ≤ all.length) (fun z => all.length - z.1) (0, g8) ?_ ?_ ?_
 ·(refine ql ?_ ?_ <;> simp[go_sem, lackV])
 ·simp
 rintro ⟨i, g⟩ hi
 simp only at hi
 refine qf fun K2 hK2 => ?_
 (refine qc fun Y Yh=>?_;simp[go_sem];apply Yh;clear Yh Y;apply Xi)
 (refine qg fun T F hT hF=>?_;simp[go_sem];refine BR.intro (fun h3=>hT ?_) (fun h3=>hF ?_);all_goals clear hT hF T F;try simp at h3)
 ·refine qh ?_
  refine hK2 _ ?_; clear hK2
  obtain ⟨x, hx⟩ : ∃ x, all[i]? = some x := ⟨_, List.getElem?_eq_getElem (by omega)⟩
  have hst := lack_step (l := l) hx
  have hFl : (lackV (all.take i) l).length ≤ 2000000000 := by
   have h1 := List.length_filter_le (lackN l) (all.take i)
   rw [List.length_take] at h1
   unfold lackV
   omega
  obtain ⟨hz1, hz2⟩ := haz x (List.mem_of_getElem? hx)
  have PK := jV l x.1 (by omega)
  have hpz := ZK (l := l) (fun y hy => (hlz y hy).2) x.1
  have MT := jU (pkdV l x.1) x.2 hpz hz2
  unfold lackN at hst
  generalize pkdV l x.1 = p at *
  generalize meetsP p x.2 = mt at *
  generalize lackV (all.take i) l = F at *
  refine qf fun K4 hK4 => ?_
  have tl4 : ∀ S' g', Cov S' ⟨[(2, dPs l), (7, dPs all), (8, .own 900013 g'), (9, dI i)], [(900013, (g', .row 43 2 ((lackV (all.take (i + 1)) l).map cP)))]⟩ → K4 S' := fun S' g' hS => by
   refine hK4 _ ?_; clear hK4
   refine qN hS ?_; clear hS
   (refine qB fun Y Yh=>?_;simp[go_sem];((repeat' (first|apply And.intro|(apply Yh;clear Yh Y)));all_goals first|apply Xi|omega))
   refine ⟨(i + 1, g'), ?_, by simp only; omega, by simp only; omega⟩
   (refine ql ?_ ?_ <;> simp[go_sem])
  clear hK4
  refine qj ?_
  (refine qc fun Y Yh=>?_;simp[go_sem, hx])
  ((try refine Xj ?_);refine qm (.inl ⟨rfl,rfl⟩) (by simp[go_sem]) ?_;intro args ha;simp[go_sem] at ha;subst ha;refine ⟨_, PK, ?_⟩;rintro _ rfl;simp[go_sem, hx];apply Yh;clear Yh Y;apply Xi)
  by_cases hp : p = []
  ·subst hp
   (refine qc fun Y Yh=>?_;simp[go_sem, hx];((repeat' (first|(refine qG ?_ ?_ ?_;(focus (simp[go_sem, undef, hx];done));(focus (simp[go_sem];done));simp[go_sem, hx])|(apply Yh;clear Yh Y)));all_goals apply Xi))
   (refine qg fun T F hT hF=>?_;simp[go_sem];refine hT ?_;clear hT hF T F)
   (refine qB fun Y Yh=>?_;simp[go_sem, hx];((repeat' (first|intro _|apply And.intro|(apply Yh;clear Yh Y)));all_goals first|apply Xi|omega))
   rename_i gq g'
   refine tl4 _ g' ?_
   rw [hst]
   (refine ql ?_ ?_ <;> simp[go_sem])
  ·have hpe : p.isEmpty = false := by cases p with | nil => exact absurd rfl hp | cons _ _ => rfl
   (refine qc fun Y Yh=>?_;simp[go_sem, hx, hpe];((repeat' (refine qJ ?_ ?_;(focus (simp[go_sem, undef, hx, hpe];done));simp[go_sem, hx, hpe]))))
   ((try refine Xj ?_);refine qm (.inl ⟨rfl,rfl⟩) (by simp[go_sem]) ?_;intro args ha;simp[go_sem] at ha;subst ha;refine ⟨_, MT, ?_⟩;rintro _ rfl;simp[go_sem, hx, hpe];refine qJ ?_ ?_;(focus (simp[go_sem, undef, hx, hpe];done));simp[go_sem, hx, hpe];apply Yh;clear Yh Y;apply Xi)
   cases mt with
   | true =>
    (refine qg fun T F hT hF=>?_;simp[go_sem];refine hF ?_;clear hT hF T F)
    refine qh ?_
    refine tl4 _ g ?_
    simp only [hp, decide_false, Bool.not_true, Bool.or_self, Bool.false_eq_true, if_false, List.append_nil] at hst
    rw [hst]
    (refine ql ?_ ?_ <;> simp[go_sem])
   | false =>
    (refine qg fun T F hT hF=>?_;simp[go_sem];refine hT ?_;clear hT hF T F)
    (refine qB fun Y Yh=>?_;simp[go_sem, hx];((repeat' (first|intro _|apply And.intro|(apply Yh;clear Yh Y)));all_goals first|apply Xi|omega))
    rename_i gq g'
    refine tl4 _ g' ?_
    rw [hst]
    (refine ql ?_ ?_ <;> simp[go_sem, hp])
 ·refine qp ?_
  simp only [go_sem]
  refine hK1 _ ?_; clear hK1
  have hie : i = all.length := by omega
  subst hie
  rw [List.take_length]
  (refine qc fun Y Yh=>?_;simp[go_sem];apply Yh;clear Yh Y;apply Xi)
  refine qQ 6 rfl rfl ?_
  simp only [go_sem]
  (refine qi ?_;simp[go_sem])
theorem any_take {α : Type} (f : α → Bool) {l : List α} {i : Nat} {x : α} (h : l[i]? = some x) : (l.take (i + 1)).any f = ((l.take i).any f || f x) := by
 rw [List.take_add_one, h]; simp
set_option maxHeartbeats 16000000 in
theorem ve (s : Src) (w l : List Prs) (hs : SzS s) (hw : SzN w) (hl : l.length ≤ 1000) (hlz : ∀ x ∈ l, Sz1 x) : PCall Tryz.prog 104 [dSrc s, dPs w, dPs l] fun r => r = dB (solQ (allN s w l) l) := by 
 refine qw Tryz.func104 rfl rfl Tryz.ntmps104 (rs := [.tmp 6]) (tys := [4]) rfl rfl (by simp) ?_
 have AL := jX s w l hs hw hl
 have LK := QB s w l hs hw hl hlz
 have hal := allN_len (w := w) hs l
 have hal2 : (allN s w l).length ≤ 2000000000 := by have := hw.1; have : l.length * 1000000 ≤ 1000 * 1000000 := Nat.mul_le_mul_right _ hl; omega
 unfold solQ
 have hkl := lack_len (allN s w l) l
 generalize hLV : lackV (allN s w l) l = lv at *
 generalize allN s w l = all at *
 (refine qc fun Y Yh=>?_;simp[go_sem];intro _;apply Yh;clear Yh Y;apply Xi)
 refine qA 3 rfl rfl ?_
 simp only [go_sem]
 (refine qc fun Y Yh=>?_;simp[go_sem])
 ((try refine Xj ?_);refine qm (.inl ⟨rfl,rfl⟩) (by simp[go_sem]) ?_;intro args ha;simp[go_sem] at ha;subst ha;refine ⟨_, AL, ?_⟩;rintro _ rfl;simp[go_sem];apply Yh;clear Yh Y;apply Xi)
 refine qf fun K1 hK1 => ?_
 (refine qc fun Y Yh=>?_;simp[go_sem];apply Yh;clear Yh Y;apply Xi)
 refine qj ?_
 refine qx (σ := Nat) (fun i => ⟨[(1, dPs w), (2, dPs l), (3, .rd [dGms s]), (7, dPs all), (8, dI i)], []⟩) (fun i => i ≤ l.length ∧ (l.take i).all (ndedN all) = true) (fun i => l.length - i) 0 ?_ ?_ ?_
 ·(refine ql ?_ ?_ <;> simp[go_sem])
 ·exact ⟨by simp, by simp⟩
 rintro i ⟨hi, hT⟩
 refine qf fun K2 hK2 => ?_
 (refine qc fun Y Yh=>?_;simp[go_sem];apply Yh;clear Yh Y;apply Xi)
 (refine qg fun T F hT hF=>?_;simp[go_sem];refine BR.intro (fun h3=>hT ?_) (fun h3=>hF ?_);all_goals clear hT hF T F;try simp at h3)
 ·refine qh ?_
  refine hK2 _ ?_; clear hK2
  have hil : i < l.length := by omega
  obtain ⟨x, hx⟩ : ∃ x, l[i]? = some x := ⟨_, List.getElem?_eq_getElem hil⟩
  have hst := all_take (ndedN all) hx
  rw [hT, Bool.true_and] at hst
  have hxm := List.mem_of_getElem? hx
  refine qf fun K4 hK4 => ?_
  refine qj ?_
  (refine qc fun Y Yh=>?_;simp[go_sem];apply Yh;clear Yh Y;apply Xi)
  refine qf fun K5 hK5 => ?_
  (refine qc fun Y Yh=>?_;simp[go_sem];apply Yh;clear Yh Y;apply Xi)
  refine qj ?_
  refine qx (σ := Nat) (fun k => ⟨[(1, dPs w), (2, dPs l), (3, .rd [dGms s]), (7, dPs all), (8, dI i), (9, dB ((all.take k).any fun n => decide (n.1 = x.1))), (10, dI k)], []⟩) (fun k => k ≤ all.length) (fun k => all.length - k) 0 ?_ ?_ ?_
  ·(refine ql ?_ ?_ <;> simp[go_sem])
  ·simp
  rintro k hk
  refine qf fun K6 hK6 => ?_
  (refine qc fun Y Yh=>?_;simp[go_sem];apply Yh;clear Yh Y;apply Xi)
  (refine qg fun T F hT hF=>?_;simp[go_sem];refine BR.intro (fun h5=>hT ?_) (fun h5=>hF ?_);all_goals clear hT hF T F;try simp at h5)
  ·refine qh ?_
   refine hK6 _ ?_; clear hK6
   obtain ⟨y, hy⟩ : ∃ y, all[k]? = some y := ⟨_, List.getElem?_eq_getElem (by omega)⟩
   have hsk := any_take (fun n : Prs => decide (n.1 = x.1)) hy
   refine qf fun K8 hK8 => ?_
   refine qj ?_
   generalize (all.take k).any (fun n : Prs => decide (n.1 = x.1)) = b at *
   cases b with
   | true =>
    ((refine zA (.qs [0, 1] (.sk 2 (.sk 3 (.sk 4 (.sk 5 (.sk 7 (.sk 8 (.sk 9 (.sk 10 (.sk 6 (.sk 11 (.sk 12 (.qs [13, 14] (.nil)))))))))))))) (by kernel_rfl) ?_ ?_ ?_ ?_);kernel_rfl;exact (by decide +kernel);kernel_rfl;intro Y Yh;((repeat' (first|refine qy ?_|(refine qo fun Y Yh=>?_;simp[go_sem, undef])|(refine qC fun Y Yh=>?_;simp[go_sem, undef])|(apply Yh;clear Yh Y)));all_goals apply Xi))
    refine hK8 _ ?_; clear hK8
    (refine qB fun Y Yh=>?_;simp[go_sem];((repeat' (first|apply And.intro|(apply Yh;clear Yh Y)));all_goals first|apply Xi|omega))
    refine ⟨k + 1, ?_, by omega, by omega⟩
    rw [hsk]
    (refine ql ?_ ?_ <;> simp[go_sem])
   | false =>
    ((refine zA (.qs [0, 1, 2, 3, 4, 5, 7, 8, 9, 10, 6, 11, 12, 13, 14] (.nil)) (by kernel_rfl) ?_ ?_ ?_ ?_);kernel_rfl;exact (by decide +kernel);kernel_rfl;intro Y Yh;((repeat' (first|refine qy ?_|(refine qo fun Y Yh=>?_;simp[go_sem, hx, hy])|(apply Yh;clear Yh Y)));all_goals apply Xi))
    refine hK8 _ ?_; clear hK8
    (refine qB fun Y Yh=>?_;simp[go_sem];((repeat' (first|apply And.intro|(apply Yh;clear Yh Y)));all_goals first|apply Xi|omega))
    refine ⟨k + 1, ?_, by omega, by omega⟩
    rw [hsk]
    (refine ql ?_ ?_ <;> simp[go_sem])
    by_cases e : y.1 = x.1 <;> simp [e]
  ·refine qp ?_
   simp only [go_sem]
   refine hK5 _ ?_; clear hK5
   have hke : k = all.length := by omega
   subst hke
   rw [List.take_length]
   have hnd : (all.any fun n => decide (n.1 = x.1)) = ndedN all x := rfl
   rw [hnd]
   generalize ndedN all x = nb at *
   cases nb with
   | false =>
    (refine qc fun Y Yh=>?_;simp[go_sem];apply Yh;clear Yh Y;apply Xi)
    (refine qg fun T F hT hF=>?_;simp[go_sem];refine hT ?_;clear hT hF T F)
    have hF : l.all (ndedN all) = false := by
     rw [Bool.eq_false_iff]
     intro q
     rw [List.all_eq_true] at q
     have hq : (l.take (i + 1)).all (ndedN all) = true := List.all_eq_true.2 fun z hz => q z (List.mem_of_mem_take hz)
     rw [hst] at hq
     cases hq
    (refine qc fun Y Yh=>?_;simp[go_sem];apply Yh;clear Yh Y;apply Xi)
    (refine qi ?_;simp[go_sem, hF])
   | true =>
    (refine qc fun Y Yh=>?_;simp[go_sem];apply Yh;clear Yh Y;apply Xi)
    (refine qg fun T F hT hF=>?_;simp[go_sem];refine hF ?_;clear hT hF T F)
    refine qh ?_
    refine hK4 _ ?_; clear hK4
    (refine qB fun Y Yh=>?_;simp[go_sem];((repeat' (first|apply And.intro|(apply Yh;clear Yh Y)));all_goals first|apply Xi|omega))
    refine ⟨i + 1, ?_, ⟨by omega, hst⟩, by omega⟩
    (refine ql ?_ ?_ <;> simp[go_sem])
 ·refine qp ?_
  simp only [go_sem]
  refine hK1 _ ?_; clear hK1
  have hie : i = l.length := by omega
  subst hie
  rw [List.take_length] at hT
  (refine qc fun Y Yh=>?_;simp[go_sem])
  ((try refine Xj ?_);refine qm (.inl ⟨rfl,rfl⟩) (by simp[go_sem]) ?_;intro args ha;simp[go_sem] at ha;subst ha;refine ⟨_, LK, ?_⟩;rintro _ rfl;simp[go_sem];apply Yh;clear Yh Y;apply Xi)
  (refine qi ?_;simp[go_sem, hT])
  cases lv with
  | nil => simp
  | cons a b => simp
end Go.Proofs.YteekfnhhlcmcgaaGreatDoor
set_option maxRecDepth 20000
namespace Go.Lk
open Go.Lib Go.Wh Go.Ver
def kfP (gem : Bs) (g : Gm) (p : Prs) : Gm := if p.1 ≠ g.1 ∨ g.1 = gem then g else (g.1, g.2.filter fun v => decide (v.1 = p.2))
theorem Xd (gem : Bs) (g : Gm) (p : Prs) : (kfP gem g p).1 = g.1 := by unfold kfP; split <;> rfl
theorem JY (gem : Bs) (g : Gm) (p : Prs) : (kfP gem g p).2.Sublist g.2 := by
 unfold kfP
 split
 ·exact List.Sublist.refl _
 ·exact List.filter_sublist
theorem QQ (gem : Bs) : ∀ (P : List Prs) (g : Gm), (P.foldl (kfP gem) g).1 = g.1 ∧ (P.foldl (kfP gem) g).2.Sublist g.2
 | [], g => ⟨rfl, List.Sublist.refl _⟩
 | p :: P, g => by
  obtain ⟨h1, h2⟩ := QQ gem P (kfP gem g p)
  exact ⟨h1.trans (Xd gem g p), h2.trans (JY gem g p)⟩
theorem QO (gem : Bs) : ∀ {P : List Prs} {g : Gm}, (∀ p ∈ P, p.1 ≠ g.1 ∨ g.1 = gem) → P.foldl (kfP gem) g = g
 | [], g, _ => rfl
 | p :: P, g, h => by
  have : kfP gem g p = g := by unfold kfP; rw [if_pos (h p (by simp))]
  rw [List.foldl_cons, this]
  exact QO gem fun q hq => h q (by simp [hq])
theorem QP (gem : Bs) : ∀ {P : List Prs} {g : Gm}, (P.map (·.1)).Nodup → P.foldl (kfP gem) g = keepG P gem g
 | [], g, _ => rfl
 | p :: P, g, h => by
  rw [List.map_cons, List.nodup_cons] at h
  rw [List.foldl_cons]
  unfold keepG
  rw [List.find?_cons]
  by_cases hc : p.1 = g.1 ∧ g.1 ≠ gem
  ·have h1 : kfP gem g p = (g.1, g.2.filter fun v => decide (v.1 = p.2)) := by
    unfold kfP
    rw [if_neg (fun q => by rcases q with q | q; exact q hc.1; exact hc.2 q)]
   rw [h1, QO gem fun q hq => .inl fun e => h.1 (List.mem_map.2 ⟨q, hq, by rw [e]; exact hc.1.symm⟩)]
   simp [hc]
  ·have h1 : kfP gem g p = g := by
    unfold kfP
    rw [if_pos (by by_cases q : p.1 = g.1; exact .inr (by simpa [q] using hc); exact .inl q)]
   rw [h1, QP gem h.2]
   simp only [hc, decide_false]
   rfl
end Go.Lk
