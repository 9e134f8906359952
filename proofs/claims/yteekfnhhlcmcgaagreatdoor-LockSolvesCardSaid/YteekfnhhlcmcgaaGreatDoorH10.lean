/- Part of a proof: see the last text. -/
import Derived.Test.YteekfnhhlcmcgaaGreatDoorH09
set_option linter.unusedVariables false
set_option linter.unusedSimpArgs false
namespace Go.Proofs.YteekfnhhlcmcgaaGreatDoor
open Go.Eng Go.Wh Go.Ver Go.RowKit Go.Lk
set_option maxRecDepth 20000
attribute [local irreducible] AG CallA CallT AWp PCall ACall AgC
set_option maxHeartbeats 16000000 in
theorem Qr (l : List Prs) (hl : l.length ≤ 1000000) : PCall Tryz.prog 134 [dPs l] fun r => r = dPs (srtP l) := by 
 refine qw Tryz.func134 rfl rfl Tryz.ntmps134 (rs := [.tmp 2]) (tys := [58]) rfl rfl (by simp) ?_
 have hst := fun i x => @srt_step l i x
 have hln := fun i => jq (l.take i)
 have hfl : srtP (l.take l.length) = srtP l := by rw [List.take_length]
 have hz : srtP (l.take 0) = [] := rfl
 obtain ⟨r0, hr0⟩ : ∃ r, srtP l = r := ⟨_, rfl⟩
 rw [hr0] at hfl ⊢
 obtain ⟨F, hF⟩ : ∃ F : Nat → List Prs, ∀ i, srtP (l.take i) = F i := ⟨_, fun _ => rfl⟩
 simp only [hF] at hst hln hfl hz
 clear hF
 (refine qc fun Y Yh=>?_;simp[go_sem];apply Yh;clear Yh Y;apply Xi)
 (refine qc fun Y Yh=>?_;simp[go_sem];apply Yh;clear Yh Y;apply Xi)
 refine qU 3 3 95 2 rfl fun g3 => ?_
 simp only [go_sem]
 refine qf fun K1 hK1 => ?_
 (refine qc fun Y Yh=>?_;simp[go_sem];apply Yh;clear Yh Y;apply Xi)
 refine qj ?_
 refine qx (σ := Nat × Nat) (fun x => ⟨[(0, dPs l), (3, .own 3 x.2), (4, dI x.1)], [(3, x.2, .row 95 2 ((F x.1).map cP))]⟩) (fun x => x.1 ≤ l.length) (fun x => l.length - x.1) (0, g3) ?_ ?_ ?_
 ·(refine ql ?_ ?_ <;> simp[go_sem, hz])
 ·simp
 rintro ⟨i, g⟩ hi
 simp only at hi
 refine qf fun K2 hK2 => ?_
 (refine qc fun Y Yh=>?_;simp[go_sem];apply Yh;clear Yh Y;apply Xi)
 (refine qg fun T F hT hF=>?_;simp[go_sem];refine BR.intro (fun h3=>hT ?_) (fun h3=>hF ?_);all_goals clear hT hF T F;try simp at h3)
 ·refine qh ?_
  refine hK2 _ ?_; clear hK2
  obtain ⟨x, hx⟩ : ∃ x, l[i]? = some x := ⟨_, List.getElem?_eq_getElem (by omega)⟩
  have hst1 := hst i x hx
  have hln1 := hln i
  rw [List.length_take] at hln1
  have hps := fun n y => @xR x y (F i) n
  have hpl := xB x (F i)
  have hins : insP x (F i) = (F i).take (posP x (F i) (F i).length) ++ x :: (F i).drop (posP x (F i) (F i).length) := rfl
  generalize insP x (F i) = ins at *
  generalize F i = out at *
  have hp0 : posP x out 0 = 0 := rfl
  generalize posP x out = pos at *
  refine qf fun K4 hK4 => ?_
  refine qj ?_
  (refine qc fun Y Yh=>?_;simp[go_sem];apply Yh;clear Yh Y;apply Xi)
  refine qf fun K5 hK5 => ?_
  have tl5 : ∀ S' a, a ≤ out.length → pos out.length = a → Cov S' ⟨[(0, dPs l), (3, .own 3 g), (4, dI i), (5, dI a)], [(3, g, .row 95 2 (out.map cP))]⟩ → K5 S' := fun S' a ha hp hS => by
   refine hK5 _ ?_; clear hK5
   refine qN hS ?_; clear hS
   rw [hp] at hins
   refine qQ 3 rfl rfl ?_
   simp only [go_sem]
   ((refine zA (.qs [1, 2, 3, 5, 6, 7, 11, 12, 13, 8] (.kp2 0 (.kp2 4 (.kp 9 (.one 10 (.one 14 (.qs [15] (.nil))))) 9 (.kp 4 (.one 10 (.one 14 (.qs [15] (.nil)))))) 9 (.kp 0 (.kp 4 (.one 10 (.one 14 (.qs [15] (.nil)))))))) (by kernel_rfl) ?_ ?_ ?_ ?_);kernel_rfl;exact (by decide +kernel);kernel_rfl;intro Y Yh;((repeat' (first|refine qy ?_|refine zC ?_ ?_|(refine qo fun Y Yh=>?_;simp[go_sem, hx])|(refine qC fun Y Yh=>?_;simp[go_sem, hx])|intro _|apply And.intro|(apply Yh;clear Yh Y)));all_goals first|apply Xi|omega))
   all_goals
    refine hK4 _ ?_
    refine zk 3 3 rfl rfl (by decide) fun g' => ?_
    simp only [go_sem]
    (refine qB fun Y Yh=>?_;simp[go_sem];((repeat' (first|apply And.intro|(apply Yh;clear Yh Y)));all_goals first|apply Xi|omega))
    refine ⟨(i + 1, g'), ?_, by simp only; omega, by simp only; omega⟩
    simp only [hst1, hins]
    (refine ql ?_ ?_ <;> simp[go_sem])
  clear hK5 hK4
  refine qj ?_
  refine qx (σ := Nat) (fun a => ⟨[(0, dPs l), (3, .own 3 g), (4, dI i), (5, dI a)], [(3, g, .row 95 2 (out.map cP))]⟩) (fun a => a ≤ out.length ∧ pos out.length = pos a) (fun a => a) out.length ?_ ?_ ?_
  ·(refine ql ?_ ?_ <;> simp[go_sem])
  ·exact ⟨Nat.le_refl _, rfl⟩
  rintro a ⟨ha, hpa⟩
  refine qf fun K6 hK6 => ?_
  cases a with
  | zero =>
   ((refine qE (.qs [0, 1, 2] (.sk 3 (.sk 4 (.sk 5 (.sk 6 (.sk 7 (.sk 9 (.sk 10 (.sk 11 (.sk 12 (.sk 8 (.sk 13 (.sk 14 (.qs [15] (.nil))))))))))))))) (by kernel_rfl) ?_ ?_ ?_ ?_);kernel_rfl;exact (by decide +kernel);kernel_rfl;intro Y Yh;((repeat' (first|refine qy ?_|(refine qo fun Y Yh=>?_;simp[go_sem, undef])|(refine qC fun Y Yh=>?_;simp[go_sem, undef])|(apply Yh;clear Yh Y)));all_goals apply Xi))
   (refine qg fun T F hT hF=>?_;simp[go_sem];refine hF ?_;clear hT hF T F)
   refine qp ?_
   simp only [go_sem]
   refine tl5 _ 0 (by omega) (hpa.trans hp0) ?_
   (refine ql ?_ ?_ <;> simp[go_sem])
  | succ a =>
   obtain ⟨y, hy⟩ : ∃ y, out[a]? = some y := ⟨_, List.getElem?_eq_getElem (by omega)⟩
   have hps1 := hps a y hy
   have hpos : (0 : Int) < (a : Int) + 1 := by omega
   have hi1 : ((a : Int) + 1 - 1).toNat = a := by omega
   have hi2 : (a : Int) + 1 - 1 = a := by omega
   generalize hlb : Op.bytesLess x.1 y.1 = lb at *
   ((refine qE (.qs [0, 1, 2, 3, 4, 5, 6, 7, 9, 10, 11, 12, 8, 13, 14, 15] (.nil)) (by kernel_rfl) ?_ ?_ ?_ ?_);kernel_rfl;exact (by decide +kernel);kernel_rfl;intro Y Yh;((repeat' (first|refine qy ?_|(refine qo fun Y Yh=>?_;simp[go_sem, hx, hy, hpos, hi1, hi2, hlb])|apply And.intro|(apply Yh;clear Yh Y)));all_goals first|apply Xi|omega))
   cases lb with
   | true =>
    rw [if_pos rfl] at hps1
    (refine qg fun T F hT hF=>?_;simp[go_sem, hlb, hpos];refine hT ?_;clear hT hF T F)
    refine qh ?_
    refine hK6 _ ?_; clear hK6
    refine qj ?_
    (refine qB fun Y Yh=>?_;simp[go_sem];((repeat' (first|apply And.intro|(apply Yh;clear Yh Y)));all_goals first|apply Xi|omega))
    refine ⟨a, ?_, ⟨by omega, hpa.trans hps1⟩, by omega⟩
    (refine ql ?_ ?_ <;> simp[go_sem])
   | false =>
    rw [if_neg (by simp)] at hps1
    (refine qg fun T F hT hF=>?_;simp[go_sem, hlb, hpos];refine hF ?_;clear hT hF T F)
    refine qp ?_
    simp only [go_sem]
    refine tl5 _ (a + 1) ha (hpa.trans hps1) ?_
    (refine ql ?_ ?_ <;> simp[go_sem])
 ·refine qp ?_
  simp only [go_sem]
  refine hK1 _ ?_; clear hK1
  have : i = l.length := by omega
  subst this
  rw [hfl]
  (refine qc fun Y Yh=>?_;simp[go_sem];apply Yh;clear Yh Y;apply Xi)
  refine qQ 2 rfl rfl ?_
  simp only [go_sem]
  (refine qi ?_;simp[go_sem])
set_option maxHeartbeats 16000000 in
theorem jW (l : List Prs) (hl : l.length ≤ 1000000) : PCall Tryz.prog 99 [dPs l] fun r => r = dPs (srtP l) := by 
 refine qw Tryz.func99 rfl rfl Tryz.ntmps99 (rs := [.tmp 2]) (tys := [26]) rfl rfl (by simp) ?_
 have hst := fun i x => @srt_step l i x
 have hln := fun i => jq (l.take i)
 have hfl : srtP (l.take l.length) = srtP l := by rw [List.take_length]
 have hz : srtP (l.take 0) = [] := rfl
 obtain ⟨r0, hr0⟩ : ∃ r, srtP l = r := ⟨_, rfl⟩
 rw [hr0] at hfl ⊢
 obtain ⟨F, hF⟩ : ∃ F : Nat → List Prs, ∀ i, srtP (l.take i) = F i := ⟨_, fun _ => rfl⟩
 simp only [hF] at hst hln hfl hz
 clear hF
 (refine qc fun Y Yh=>?_;simp[go_sem];apply Yh;clear Yh Y;apply Xi)
 (refine qc fun Y Yh=>?_;simp[go_sem];apply Yh;clear Yh Y;apply Xi)
 refine qU 3 3 43 2 rfl fun g3 => ?_
 simp only [go_sem]
 refine qf fun K1 hK1 => ?_
 (refine qc fun Y Yh=>?_;simp[go_sem];apply Yh;clear Yh Y;apply Xi)
 refine qj ?_
 refine qx (σ := Nat × Nat) (fun x => ⟨[(0, dPs l), (3, .own 3 x.2), (4, dI x.1)], [(3, x.2, .row 43 2 ((F x.1).map cP))]⟩) (fun x => x.1 ≤ l.length) (fun x => l.length - x.1) (0, g3) ?_ ?_ ?_
 ·(refine ql ?_ ?_ <;> simp[go_sem, hz])
 ·simp
 rintro ⟨i, g⟩ hi
 simp only at hi
 refine qf fun K2 hK2 => ?_
 (refine qc fun Y Yh=>?_;simp[go_sem];apply Yh;clear Yh Y;apply Xi)
 (refine qg fun T F hT hF=>?_;simp[go_sem];refine BR.intro (fun h3=>hT ?_) (fun h3=>hF ?_);all_goals clear hT hF T F;try simp at h3)
 ·refine qh ?_
  refine hK2 _ ?_; clear hK2
  obtain ⟨x, hx⟩ : ∃ x, l[i]? = some x := ⟨_, List.getElem?_eq_getElem (by omega)⟩
  have hst1 := hst i x hx
  have hln1 := hln i
  rw [List.length_take] at hln1
  have hps := fun n y => @xR x y (F i) n
  have hpl := xB x (F i)
  have hins : insP x (F i) = (F i).take (posP x (F i) (F i).length) ++ x :: (F i).drop (posP x (F i) (F i).length) := rfl
  generalize insP x (F i) = ins at *
  generalize F i = out at *
  have hp0 : posP x out 0 = 0 := rfl
  generalize posP x out = pos at *
  refine qf fun K4 hK4 => ?_
  refine qj ?_
  (refine qc fun Y Yh=>?_;simp[go_sem];apply Yh;clear Yh Y;apply Xi)
  refine qf fun K5 hK5 => ?_
  have tl5 : ∀ S' a, a ≤ out.length → pos out.length = a → Cov S' ⟨[(0, dPs l), (3, .own 3 g), (4, dI i), (5, dI a)], [(3, g, .row 43 2 (out.map cP))]⟩ → K5 S' := fun S' a ha hp hS => by
   refine hK5 _ ?_; clear hK5
   refine qN hS ?_; clear hS
   rw [hp] at hins
   refine qQ 3 rfl rfl ?_
   simp only [go_sem]
   ((refine zA (.qs [1, 2, 3, 5, 6, 7, 11, 12, 13, 8] (.kp2 0 (.kp2 4 (.kp 9 (.one 10 (.one 14 (.qs [15] (.nil))))) 9 (.kp 4 (.one 10 (.one 14 (.qs [15] (.nil)))))) 9 (.kp 0 (.kp 4 (.one 10 (.one 14 (.qs [15] (.nil)))))))) (by kernel_rfl) ?_ ?_ ?_ ?_);kernel_rfl;exact (by decide +kernel);kernel_rfl;intro Y Yh;((repeat' (first|refine qy ?_|refine zC ?_ ?_|(refine qo fun Y Yh=>?_;simp[go_sem, hx])|(refine qC fun Y Yh=>?_;simp[go_sem, hx])|intro _|apply And.intro|(apply Yh;clear Yh Y)));all_goals first|apply Xi|omega))
   all_goals
    refine hK4 _ ?_
    refine zk 3 3 rfl rfl (by decide) fun g' => ?_
    simp only [go_sem]
    (refine qB fun Y Yh=>?_;simp[go_sem];((repeat' (first|apply And.intro|(apply Yh;clear Yh Y)));all_goals first|apply Xi|omega))
    refine ⟨(i + 1, g'), ?_, by simp only; omega, by simp only; omega⟩
    simp only [hst1, hins]
    (refine ql ?_ ?_ <;> simp[go_sem])
  clear hK5 hK4
  refine qj ?_
  refine qx (σ := Nat) (fun a => ⟨[(0, dPs l), (3, .own 3 g), (4, dI i), (5, dI a)], [(3, g, .row 43 2 (out.map cP))]⟩) (fun a => a ≤ out.length ∧ pos out.length = pos a) (fun a => a) out.length ?_ ?_ ?_
  ·(refine ql ?_ ?_ <;> simp[go_sem])
  ·exact ⟨Nat.le_refl _, rfl⟩
  rintro a ⟨ha, hpa⟩
  refine qf fun K6 hK6 => ?_
  cases a with
  | zero =>
   ((refine qE (.qs [0, 1, 2] (.sk 3 (.sk 4 (.sk 5 (.sk 6 (.sk 7 (.sk 9 (.sk 10 (.sk 11 (.sk 12 (.sk 8 (.sk 13 (.sk 14 (.qs [15] (.nil))))))))))))))) (by kernel_rfl) ?_ ?_ ?_ ?_);kernel_rfl;exact (by decide +kernel);kernel_rfl;intro Y Yh;((repeat' (first|refine qy ?_|(refine qo fun Y Yh=>?_;simp[go_sem, undef])|(refine qC fun Y Yh=>?_;simp[go_sem, undef])|(apply Yh;clear Yh Y)));all_goals apply Xi))
   (refine qg fun T F hT hF=>?_;simp[go_sem];refine hF ?_;clear hT hF T F)
   refine qp ?_
   simp only [go_sem]
   refine tl5 _ 0 (by omega) (hpa.trans hp0) ?_
   (refine ql ?_ ?_ <;> simp[go_sem])
  | succ a =>
   obtain ⟨y, hy⟩ : ∃ y, out[a]? = some y := ⟨_, List.getElem?_eq_getElem (by omega)⟩
   have hps1 := hps a y hy
   have hpos : (0 : Int) < (a : Int) + 1 := by omega
   have hi1 : ((a : Int) + 1 - 1).toNat = a := by omega
   have hi2 : (a : Int) + 1 - 1 = a := by omega
   generalize hlb : Op.bytesLess x.1 y.1 = lb at *
   ((refine qE (.qs [0, 1, 2, 3, 4, 5, 6, 7, 9, 10, 11, 12, 8, 13, 14, 15] (.nil)) (by kernel_rfl) ?_ ?_ ?_ ?_);kernel_rfl;exact (by decide +kernel);kernel_rfl;intro Y Yh;((repeat' (first|refine qy ?_|(refine qo fun Y Yh=>?_;simp[go_sem, hx, hy, hpos, hi1, hi2, hlb])|apply And.intro|(apply Yh;clear Yh Y)));all_goals first|apply Xi|omega))
   cases lb with
   | true =>
    rw [if_pos rfl] at hps1
    (refine qg fun T F hT hF=>?_;simp[go_sem, hlb, hpos];refine hT ?_;clear hT hF T F)
    refine qh ?_
    refine hK6 _ ?_; clear hK6
    refine qj ?_
    (refine qB fun Y Yh=>?_;simp[go_sem];((repeat' (first|apply And.intro|(apply Yh;clear Yh Y)));all_goals first|apply Xi|omega))
    refine ⟨a, ?_, ⟨by omega, hpa.trans hps1⟩, by omega⟩
    (refine ql ?_ ?_ <;> simp[go_sem])
   | false =>
    rw [if_neg (by simp)] at hps1
    (refine qg fun T F hT hF=>?_;simp[go_sem, hlb, hpos];refine hF ?_;clear hT hF T F)
    refine qp ?_
    simp only [go_sem]
    refine tl5 _ (a + 1) ha (hpa.trans hps1) ?_
    (refine ql ?_ ?_ <;> simp[go_sem])
 ·refine qp ?_
  simp only [go_sem]
  refine hK1 _ ?_; clear hK1
  have : i = l.length := by omega
  subst this
  rw [hfl]
  (refine qc fun Y Yh=>?_;simp[go_sem];apply Yh;clear Yh Y;apply Xi)
  refine qQ 2 rfl rfl ?_
  simp only [go_sem]
  (refine qi ?_;simp[go_sem])
set_option maxHeartbeats 4000000 in
theorem QF (s : Src) (p : Prs) (hs : SzS s) : PCall Tryz.prog 100 [dSrc s, dP p] fun r => r = dPs (ownV s p) := by 
 refine qw Tryz.func100 rfl rfl Tryz.ntmps100 (rs := [.tmp 4]) (tys := [26]) rfl rfl (by simp) ?_
 have A := jX s [] [p] hs ⟨by simp, by simp⟩ (by simp)
 have hz := (kT hs p).2.1
 have e : allN s [] [p] = (fndP s p).2 := by simp [allN]
 rw [e] at A
 have SO := jW (fndP s p).2 hz
 unfold ownV
 generalize srtP (fndP s p).2 = r0 at *
 generalize (fndP s p).2 = l at *
 (refine qc fun Y Yh=>?_;simp[go_sem];intro _;intro _;apply Yh;clear Yh Y;apply Xi)
 (refine qc fun Y Yh=>?_;simp[go_sem];intro _)
 ((try refine Xj ?_);refine X4 (.inl ⟨rfl,rfl⟩) rfl (by simp[go_sem]) (by simp[go_sem]) ?_;intro args ha;simp[go_sem] at ha;subst ha;refine ⟨_, A, ?_⟩;rintro _ rfl;simp[go_sem])
 ((try refine Xj ?_);refine qm (.inl ⟨rfl,rfl⟩) (by simp[go_sem]) ?_;intro args ha;simp[go_sem] at ha;subst ha;refine ⟨_, SO, ?_⟩;rintro _ rfl;simp[go_sem];apply Yh;clear Yh Y;apply Xi)
 (refine qi ?_;simp[go_sem])
set_option maxHeartbeats 8000000 in
theorem Qs (s : Src) (w : List Prs) (b : Int) (hs : SzS s) (hw : SzN w) : PCall Tryz.prog 91 [dSrc s, dPs w, dI b] fun r => r = .tup [dPs (solV s w b).1, dI (solV s w b).2.1, dI (solV s w b).2.2] := by 
 refine qw Tryz.func91 rfl rfl Tryz.ntmps91 (rs := [.tmp 6, .tmp 7, .tmp 8]) (tys := [58, 3, 35]) rfl rfl (by simp) ?_
 have CK := J7 s w hs hw
 by_cases hc : chkV s w = true
 ·rw [if_pos hc] at CK
  by_cases hb1 : b < 1
  ·have e : solV s w b = ([], 0, 1) := by unfold solV; rw [if_neg (by omega)]
   rw [e]
   (refine qc fun Y Yh=>?_;simp[go_sem];intro _;apply Yh;clear Yh Y;apply Xi)
   refine qf fun K1 hK1 => ?_
   (refine qc fun Y Yh=>?_;simp[go_sem, hb1])
   ((try refine Xj ?_);refine qm (.inl ⟨rfl,rfl⟩) (by simp[go_sem]) ?_;intro args ha;simp[go_sem] at ha;subst ha;refine ⟨_, CK, ?_⟩;rintro _ rfl;simp[go_sem, hb1];((repeat' (first|(refine qG ?_ ?_ ?_;(focus (simp[go_sem, undef, hb1];done));(focus (simp[go_sem];done));simp[go_sem, hb1])|(refine qJ ?_ ?_;(focus (simp[go_sem, undef, hb1];done));simp[go_sem, hb1])|(apply Yh;clear Yh Y)));all_goals apply Xi))
   (refine qg fun T F hT hF=>?_;simp[go_sem, hb1];refine hT ?_;clear hT hF T F)
   (refine qc fun Y Yh=>?_;simp[go_sem];apply Yh;clear Yh Y;apply Xi)
   (refine qi ?_;simp[go_sem])
  ·by_cases hb2 : 100000 < b
   ·have e : solV s w b = ([], 0, 1) := by unfold solV; rw [if_neg (by omega)]
    rw [e]
    (refine qc fun Y Yh=>?_;simp[go_sem];intro _;apply Yh;clear Yh Y;apply Xi)
    refine qf fun K1 hK1 => ?_
    (refine qc fun Y Yh=>?_;simp[go_sem, hb1, hb2])
    ((try refine Xj ?_);refine qm (.inl ⟨rfl,rfl⟩) (by simp[go_sem]) ?_;intro args ha;simp[go_sem] at ha;subst ha;refine ⟨_, CK, ?_⟩;rintro _ rfl;simp[go_sem, hb1, hb2];((repeat' (first|(refine qJ ?_ ?_;(focus (simp[go_sem, undef, hb1, hb2];done));simp[go_sem, hb1, hb2])|(apply Yh;clear Yh Y)));all_goals apply Xi))
    (refine qg fun T F hT hF=>?_;simp[go_sem, hb1, hb2];refine hT ?_;clear hT hF T F)
    (refine qc fun Y Yh=>?_;simp[go_sem];apply Yh;clear Yh Y;apply Xi)
    (refine qi ?_;simp[go_sem])
   ·obtain ⟨n, rfl⟩ : ∃ n : Nat, b = n := ⟨b.toNat, by omega⟩
    have hsu : suV s = true := by unfold chkV at hc; simp at hc; exact hc.1
    have hl15 := (qW hsu).1
    have RS := fun g => wL s w n hsu hw (by omega) (s.length + 1) [] 0 g (by have := mu_le s []; omega) (by simp; omega) (fun x hx => by cases hx) (fun x hx => by cases hx) (by omega)
    have hLN := xP s w n (s.length + 1) [] 0
    have hPK := ja (w := w) (bud := n) hsu (s.length + 1) [] 0 ⟨by simp, by simp⟩
    have e : solV s w n = (srtP (restV s w n (s.length + 1) [] 0).1.1, (restV s w n (s.length + 1) [] 0).2, (restV s w n (s.length + 1) [] 0).1.2) := by
     unfold solV; rw [if_pos ⟨hc, by omega, by omega⟩, Int.toNat_natCast]
    rw [e]
    generalize restV s w n (s.length + 1) [] 0 = q at *
    obtain ⟨⟨l, ee⟩, t⟩ := q
    simp only at RS hPK hLN
    simp only
    have hpl : l.length ≤ 1000000 := by simp at hLN; omega
    have SO := Qr l hpl
    generalize srtP l = sl at *
    (refine qc fun Y Yh=>?_;simp[go_sem];intro _;apply Yh;clear Yh Y;apply Xi)
    refine qf fun K1 hK1 => ?_
    (refine qc fun Y Yh=>?_;simp[go_sem])
    ((try refine Xj ?_);refine qm (.inl ⟨rfl,rfl⟩) (by simp[go_sem]) ?_;intro args ha;simp[go_sem] at ha;subst ha;refine ⟨_, CK, ?_⟩;rintro _ rfl;simp[go_sem];((repeat' (first|(refine qH ?_;simp[go_sem])|(apply Yh;clear Yh Y)));all_goals apply Xi))
    (refine qg fun T F hT hF=>?_;simp[go_sem, hb1, hb2];refine hF ?_;clear hT hF T F)
    refine qh ?_
    refine hK1 _ ?_; clear hK1
    (refine qc fun Y Yh=>?_;simp[go_sem];intro _;apply Yh;clear Yh Y;apply Xi)
    rename_i g3 g5
    refine jJ 9 900002 rfl rfl (by decide) fun g9 => ?_
    simp only [go_sem]
    (refine qc fun Y Yh=>?_;simp[go_sem])
    (refine qR [900002] (.inl ⟨rfl,rfl⟩) (by simp[go_sem]) ?_;intro args ha;simp[go_sem] at ha;subst ha;refine ⟨_, _, (RS g9), (by simp[go_sem]), ?_⟩;rintro ps r hps ⟨rfl, rfl⟩;simp[go_sem];apply Yh;clear Yh Y;apply Xi)
    ((refine qE (.qs [0, 2, 3, 4, 6, 5] (.kp 1 (.qs [7, 8, 9] (.nil)))) (by kernel_rfl) ?_ ?_ ?_ ?_);kernel_rfl;exact (by decide +kernel);kernel_rfl;intro Y Yh;((repeat' (first|(refine qo fun Y Yh=>?_;simp[go_sem])|(refine qC fun Y Yh=>?_;simp[go_sem])|(apply Yh;clear Yh Y)))))
    ((try refine Xj ?_);refine qm (.inl ⟨rfl,rfl⟩) (by simp[go_sem]) ?_;intro args ha;simp[go_sem] at ha;subst ha;refine ⟨_, SO, ?_⟩;rintro _ rfl;simp[go_sem];((repeat' (first|refine qy ?_|(refine qo fun Y Yh=>?_;simp[go_sem])|(apply Yh;clear Yh Y)));all_goals apply Xi))
    (refine qi ?_;simp[go_sem])
 ·have e : solV s w b = ([], 0, 1) := by unfold solV; rw [if_neg (fun q => hc q.1)]
  rw [if_neg hc] at CK
  rw [e]
  (refine qc fun Y Yh=>?_;simp[go_sem];intro _;apply Yh;clear Yh Y;apply Xi)
  refine qf fun K1 hK1 => ?_
  (refine qc fun Y Yh=>?_;simp[go_sem])
  ((try refine Xj ?_);refine qm (.inl ⟨rfl,rfl⟩) (by simp[go_sem]) ?_;intro args ha;simp[go_sem] at ha;subst ha;refine ⟨_, CK, ?_⟩;rintro _ rfl;simp[go_sem];((repeat' (first|(refine qG ?_ ?_ ?_;(focus (simp[go_sem, undef];done));(focus (simp[go_sem];done));simp[go_sem])|(apply Yh;clear Yh Y)));all_goals apply Xi))
  (refine qg fun T F hT hF=>?_;simp[go_sem];refine hT ?_;clear hT hF T F)
  (refine qc fun Y Yh=>?_;simp[go_sem];apply Yh;clear Yh Y;apply Xi)
  (refine qi ?_;simp[go_sem])
theorem Qz (s : Src) (w : List Prs) (b : Int) (hs : SzS s) (hw : SzN w) : PCall Tryz.prog 40 [dSrc s, dPs w, dI b] fun r => r = .tup [dPs (solV s w b).1, dI (solV s w b).2.2] := by 
 refine qw Tryz.func40 rfl rfl Tryz.ntmps40 (rs := [.tmp 6, .tmp 7]) (tys := [58, 35]) rfl rfl (by simp) ?_
 have SO := Qs s w b hs hw
 generalize solV s w b = q at *
 obtain ⟨l, t, e⟩ := q
 (refine qc fun Y Yh=>?_;simp[go_sem];intro _;apply Yh;clear Yh Y;apply Xi)
 (refine qc fun Y Yh=>?_;simp[go_sem])
 ((try refine Xj ?_);refine qm (.inl ⟨rfl,rfl⟩) (by simp[go_sem]) ?_;intro args ha;simp[go_sem] at ha;subst ha;refine ⟨_, SO, ?_⟩;rintro _ rfl;simp[go_sem];apply Yh;clear Yh Y;apply Xi)
 (refine qc fun Y Yh=>?_;simp[go_sem];apply Yh;clear Yh Y;apply Xi)
 (refine qi ?_;simp[go_sem])
set_option maxHeartbeats 8000000 in
theorem xA (s : Src) (w : List Prs) (b : Int) (hs : SzS s) (hw : SzN w) : PCall Tryz.prog 44 [dSrc s, dPs w, dI b] fun r => r = .tup [dLk (ofV s w b).1, dI (ofV s w b).2] := by 
 refine qw Tryz.func44 rfl rfl Tryz.ntmps44 (rs := [.cell 6 61, .tmp 7]) (tys := [61, 35]) rfl rfl (by simp) ?_
 have SO := Qz s w b hs hw
 have hln := jM (s := s) (w := w) (b := b)
 have AW := jW w hw.1
 have OW := fun p => QF s p hs
 unfold ofV
 generalize solV s w b = q at *
 obtain ⟨l, t, e⟩ := q
 simp only at SO hln ⊢
 generalize srtP w = sw at *
 (refine qc fun Y Yh=>?_;simp[go_sem];intro _;intro _;apply Yh;clear Yh Y;apply Xi)
 rename_i g3 g6
 (refine qc fun Y Yh=>?_;simp[go_sem])
 ((try refine Xj ?_);refine qm (.inl ⟨rfl,rfl⟩) (by simp[go_sem]) ?_;intro args ha;simp[go_sem] at ha;subst ha;refine ⟨_, SO, ?_⟩;rintro _ rfl;simp[go_sem];apply Yh;clear Yh Y;apply Xi)
 refine qf fun K1 hK1 => ?_
 by_cases he : e = 0
 ·rw [if_pos he]
  subst he
  obtain ⟨r0, hr0⟩ : ∃ r, l.map (ownV s) = r := ⟨_, rfl⟩
  have hfl : (l.take l.length).map (ownV s) = r0 := by rw [List.take_length]; exact hr0
  have hst := fun i (x : Prs) h => map_take_snoc (ownV s) (l := l) (i := i) (x := x) h
  obtain ⟨F, hF⟩ : ∃ F : Nat → List (List Prs), ∀ i, (l.take i).map (ownV s) = F i := ⟨_, fun _ => rfl⟩
  have hz : F 0 = [] := by rw [← hF]; rfl
  have hFl : ∀ i, (F i).length = min i l.length := fun i => by rw [← hF]; simp
  simp only [hF] at hst hfl
  clear hF
  rw [hr0]
  simp only
  (refine qc fun Y Yh=>?_;simp[go_sem];apply Yh;clear Yh Y;apply Xi)
  (refine qg fun T F hT hF=>?_;simp[go_sem];refine hF ?_;clear hT hF T F)
  refine qh ?_
  refine hK1 _ ?_; clear hK1
  (refine qc fun Y Yh=>?_;simp[go_sem])
  ((try refine Xj ?_);refine qm (.inl ⟨rfl,rfl⟩) (by simp[go_sem]) ?_;intro args ha;simp[go_sem] at ha;subst ha;refine ⟨_, AW, ?_⟩;rintro _ rfl;simp[go_sem];intro _;apply Yh;clear Yh Y;apply Xi)
  rename_i g10
  refine zo 900004 26 1 1 (sb := 10) rfl rfl (by decide) fun gn => ?_
  simp only [List.set, go_sem]
  refine qf fun K3 hK3 => ?_
  (refine qc fun Y Yh=>?_;simp[go_sem];apply Yh;clear Yh Y;apply Xi)
  refine qj ?_
  refine qx (σ := Nat × Nat) (fun x => ⟨[(3, .ptr 3 g3 0), (6, .ptr 6 g6 0), (8, dPs l), (10, .ptr 10 g10 0), (11, dI x.1)], [(3, g3, .box [dGms s]), (6, g6, .box [.v (.slice none 0 0), .v (.slice none 0 0), .v (.slice none 0 0)]), (10, g10, .box [dPs l, .own 900004 x.2, dPs sw]), (900004, x.2, .row 26 1 ((F x.1).map fun n => [dPs n]))]⟩) (fun x => x.1 ≤ l.length) (fun x => l.length - x.1) (0, gn) ?_ ?_ ?_
  ·(refine ql ?_ ?_ <;> simp[go_sem, hz])
  ·simp
  rintro ⟨i, gn⟩ hi
  simp only at hi
  refine qf fun K4 hK4 => ?_
  (refine qc fun Y Yh=>?_;simp[go_sem];apply Yh;clear Yh Y;apply Xi)
  (refine qg fun T F hT hF=>?_;simp[go_sem];refine BR.intro (fun h5=>hT ?_) (fun h5=>hF ?_);all_goals clear hT hF T F;try simp at h5)
  ·refine qh ?_
   refine hK4 _ ?_; clear hK4
   obtain ⟨x, hx⟩ : ∃ x, l[i]? = some x := ⟨_, List.getElem?_eq_getElem (by omega)⟩
   have hst1 := hst i x hx
   have O1 := OW x
   have hFi := hFl i
   generalize ownV s x = ow at *
   generalize F i = Fi at *
   refine qf fun K6 hK6 => ?_
   refine qj ?_
   ((refine zA (.qs [0, 3, 4, 5, 1, 2, 6] (.kp 7 (.kp 8 (.one 9 (.qs [10] (.one 11 (.nil))))))) (by kernel_rfl) ?_ ?_ ?_ ?_);kernel_rfl;exact (by decide +kernel);kernel_rfl;intro Y Yh;((repeat' (first|(refine qo fun Y Yh=>?_;simp[go_sem, hx])|(refine qC fun Y Yh=>?_;simp[go_sem, hx])|(apply Yh;clear Yh Y)))))
   ((try refine Xj ?_);refine qm (.inl ⟨rfl,rfl⟩) (by simp[go_sem]) ?_;intro args ha;simp[go_sem] at ha;subst ha;refine ⟨_, O1, ?_⟩;rintro _ rfl;simp[go_sem];((repeat' (first|refine qy ?_|(refine qo fun Y Yh=>?_;simp[go_sem])|(refine qC fun Y Yh=>?_;simp[go_sem])|intro _|apply And.intro|(apply Yh;clear Yh Y)));all_goals first|apply Xi|omega))
   refine hK6 _ ?_; clear hK6
   (refine qB fun Y Yh=>?_;simp[go_sem];((repeat' (first|apply And.intro|(apply Yh;clear Yh Y)));all_goals first|apply Xi|omega))
   rename_i g' g''
   refine ⟨(i + 1, g''), ?_, by simp only; omega, by simp only; omega⟩
   simp only [hst1]
   (refine ql ?_ ?_ <;> simp[go_sem])
  ·refine qp ?_
   simp only [go_sem]
   refine hK3 _ ?_; clear hK3
   have : i = l.length := by omega
   subst this
   rw [hfl]
   refine zq 900004 10 1 rfl rfl (by decide) rfl ?_
   simp only [go_sem, List.set]
   (refine qc fun Y Yh=>?_;simp[go_sem];apply Yh;clear Yh Y;apply Xi)
   (refine qi ?_;simp[go_sem])
   rw [← hr0, List.map_map]
 ·rw [if_neg he]
  have hei : ¬ (e : Int) = 0 := by omega
  (refine qc fun Y Yh=>?_;simp[go_sem, he, hei];apply Yh;clear Yh Y;apply Xi)
  (refine qg fun T F hT hF=>?_;simp[go_sem, he, hei];refine hT ?_;clear hT hF T F)
  (refine qc fun Y Yh=>?_;simp[go_sem];apply Yh;clear Yh Y;apply Xi)
  (refine qi ?_;simp[go_sem])
def unI (n : Int) : Nat := (n % 18446744073709551616).toNat
theorem unI_wrap (n : Int) : IntKind.u64.wrap n = (unI n : Int) := by
 rw [show IntKind.u64.wrap n = n % 18446744073709551616 by simp [IntKind.wrap, IntKind.bits, IntKind.signed]]
 unfold unI; omega
theorem wrapNI {x : Nat} (h : x < 18446744073709551616) : IntKind.u64.wrap (x : Int) = x := by
 rw [show IntKind.u64.wrap (x : Int) = (x : Int) % 18446744073709551616 by simp [IntKind.wrap, IntKind.bits, IntKind.signed]]
 omega
def pickK (l : List Int) (a n : Nat) : Nat := if a < l.length then unI (l.getD a 0) % n else 0
def pickA (l : List Int) (a : Nat) : Nat := if a < l.length then a + 1 else a
theorem pickK_lt {l : List Int} {a n : Nat} (h : 0 < n) : pickK l a n < n := by
 unfold pickK; split
 ·exact Nat.mod_lt _ h
 ·exact h
theorem pickA_le {l : List Int} {a : Nat} (h : a ≤ l.length) : pickA l a ≤ l.length := by
 unfold pickA; split <;> omega
set_option maxHeartbeats 8000000 in
theorem wO (l : List Int) (a n g : Nat) (hl : l.length ≤ 9223372036854775807) (ha : a ≤ l.length) (hn : 0 < n) (hn2 : n ≤ 100) :
  ACall Tryz.prog 49 [.ptr 900002 g 0, dI n] [(900002, (g, .box [dIs l, dI a]))] [900002]
   fun ps r => ps = [(g, .box [dIs l, dI (pickA l a)])] ∧ r = dI (pickK l a n) := by
 refine zg Tryz.func49 rfl rfl Tryz.ntmps49 (rs := [.tmp 4]) (tys := [3]) rfl rfl (by simp) ?_ ?_
 ·intro q hq
  simp only [List.mem_cons, List.not_mem_nil, or_false] at hq
  subst hq
  simp [zn]
 (refine qc fun Y Yh=>?_;simp[go_sem];apply Yh;clear Yh Y;apply Xi)
 refine qf fun K1 hK1 => ?_
 by_cases h : a < l.length
 ·obtain ⟨x, hx⟩ : ∃ x, l[a]? = some x := ⟨_, List.getElem?_eq_getElem h⟩
  have hk : pickK l a n = unI x % n := by unfold pickK; rw [if_pos h]; simp [List.getD, hx]
  have hA : pickA l a = a + 1 := by unfold pickA; rw [if_pos h]
  rw [hk, hA]
  have hi : ¬ (l.length : Int) ≤ a := by omega
  have hi1 : ((a : Int) + 1 - 1).toNat = a := by omega
  have hi2 : (a : Int) + 1 - 1 = a := by omega
  have w1 := unI_wrap x
  have w2 := wrapNI (x := n) (by omega)
  have hlt : unI x % n < n := Nat.mod_lt _ hn
  have hne : ¬ (n : Int) = 0 := by omega
  have hux : unI x < 18446744073709551616 := by unfold unI; omega
  have m1 : IntKind.u64.wrap (((unI x : Nat) : Int).tmod (n : Int)) = ((unI x % n : Nat) : Int) := by
   rw [show ((unI x : Nat) : Int).tmod (n : Int) = ((unI x % n : Nat) : Int) by simp [Int.tmod_eq_emod_of_nonneg]]
   exact wrapNI (by omega)
  have m0 : ((unI x : Nat) : Int).tmod (n : Int) = ((unI x % n : Nat) : Int) := by simp [Int.tmod_eq_emod_of_nonneg]
  generalize hkk : unI x % n = k at *
  ((refine qE (.qs [0, 1, 2, 4, 5, 6, 3, 7, 8, 9] (.nil)) (by kernel_rfl) ?_ ?_ ?_ ?_);kernel_rfl;exact (by decide +kernel);kernel_rfl;intro Y Yh;((repeat' (first|refine qy ?_|(refine qo fun Y Yh=>?_;simp[go_sem, hi])|(apply Yh;clear Yh Y)));all_goals apply Xi))
  (refine qg fun T F hT hF=>?_;simp[go_sem, hi, h];refine hF ?_;clear hT hF T F)
  refine qh ?_
  refine hK1 _ ?_; clear hK1
  (refine qc fun Y Yh=>?_;simp[go_sem];((repeat' (first|apply And.intro|(apply Yh;clear Yh Y)));all_goals first|apply Xi|omega))
  ((refine qE (.qs [0, 1, 2, 4, 5, 6, 12, 13, 3, 7, 8, 9, 10, 11, 14, 15, 16] (.nil)) (by kernel_rfl) ?_ ?_ ?_ ?_);kernel_rfl;exact (by decide +kernel);kernel_rfl;intro Y Yh;((repeat' (first|refine qy ?_|(refine qo fun Y Yh=>?_;simp[go_sem, hx, hi1, hi2, w1, w2, m1, m0, hne])|intro _|apply And.intro|(apply Yh;clear Yh Y)));all_goals first|apply Xi|omega))
  (refine qi ?_;simp[go_sem])
  exact ⟨by rw [hA]; omega, hk.symm⟩
 ·have hk : pickK l a n = 0 := by unfold pickK; rw [if_neg h]
  have hA : pickA l a = a := by unfold pickA; rw [if_neg h]
  rw [hk, hA]
  have hi : (l.length : Int) ≤ a := by omega
  ((refine qE (.qs [0, 1, 2, 4, 5, 6, 3, 7, 8, 9] (.nil)) (by kernel_rfl) ?_ ?_ ?_ ?_);kernel_rfl;exact (by decide +kernel);kernel_rfl;intro Y Yh;((repeat' (first|refine qy ?_|(refine qo fun Y Yh=>?_;simp[go_sem, hi])|(apply Yh;clear Yh Y)));all_goals apply Xi))
  (refine qg fun T F hT hF=>?_;simp[go_sem, hi, h];refine hT ?_;clear hT hF T F)
  (refine qc fun Y Yh=>?_;simp[go_sem];apply Yh;clear Yh Y;apply Xi)
  (refine qi ?_;simp[go_sem, hk, hA])
def nmsL : List Bs := [[97], [98], [99, 49], [100, 45, 101], [102], [97], [98], [103, 111, 110, 101]]
def wtsL : List Bs := [[], [], [62, 61, 32, 49, 46, 48], [126, 62, 32, 49, 46, 48], [60, 32, 50, 46, 48], [126, 62, 32, 50, 46, 48], [61, 32, 49, 46, 53], [62, 32, 50, 46, 48, 46, 97], [33, 61, 32, 51]]
theorem lit_at (L : List Bs) {k : Nat} (h : k < L.length) : ∃ y, L[k]? = some y ∧ y ∈ L := ⟨_, List.getElem?_eq_getElem h, List.getElem_mem h⟩
set_option maxHeartbeats 16000000 in
theorem QZ (l : List Int) (a most g : Nat) (hl : l.length ≤ 9223372036854775807) (ha : a ≤ l.length) (hm : most ≤ 10) :
  ACall Tryz.prog 50 [.ptr 900002 g 0, dI most] [(900002, (g, .box [dIs l, dI a]))] [900002]
   fun ps r => ∃ a' out, a' ≤ l.length ∧ nuV 10 out = true ∧ out.length ≤ most ∧ ps = [(g, .box [dIs l, dI a'])] ∧ r = dPs out := by
 refine zg Tryz.func50 rfl rfl Tryz.ntmps50 (rs := [.tmp 4]) (tys := [26]) rfl rfl (by simp) ?_ ?_
 ·intro q hq
  simp only [List.mem_cons, List.not_mem_nil, or_false] at hq
  subst hq
  simp [zn]
 have PK := fun a n ha hn hn2 => wO l a n g hl ha hn hn2
 have P1 := PK a (most + 1) ha (by omega) (by omega)
 rw [show ((most + 1 : Nat) : Int) = (most : Int) + 1 by omega] at P1
 have hk1 := pickK_lt (l := l) (a := a) (n := most + 1) (by omega)
 have ha1 := pickA_le ha
 generalize pickK l a (most + 1) = k0 at *
 generalize pickA l a = a0 at *
 (refine qc fun Y Yh=>?_;simp[go_sem];apply Yh;clear Yh Y;apply Xi)
 (refine qc fun Y Yh=>?_;simp[go_sem];apply Yh;clear Yh Y;apply Xi)
 refine qU 5 5 43 2 rfl fun g5 => ?_
 simp only [go_sem]
 refine qf fun K1 hK1 => ?_
 (refine qc fun Y Yh=>?_;simp[go_sem];((repeat' apply And.intro);all_goals first|omega|skip))
 (refine qR [900002] (.inl ⟨rfl,rfl⟩) (by simp[go_sem]) ?_;intro args ha;simp[go_sem] at ha;subst ha;refine ⟨_, _, P1, (by simp[go_sem]), ?_⟩;rintro ps r hps ⟨rfl, rfl⟩;simp[go_sem];apply Yh;clear Yh Y;apply Xi)
 refine qj ?_
 refine qx (σ := Nat × Nat × List Prs × Nat) (fun x => ⟨[(0, .ptr 900002 g 0), (5, .own 5 x.2.2.2), (6, dI x.1)], [(900002, (g, .box [dIs l, dI x.2.1])), (5, x.2.2.2, .row 43 2 (x.2.2.1.map cP))]⟩)
  (fun x => x.2.1 ≤ l.length ∧ nuV 10 x.2.2.1 = true ∧ x.2.2.1.length + x.1 ≤ most) (fun x => x.1) (k0, a0, [], g5) ?_ ?_ ?_
 ·(refine ql ?_ ?_ <;> simp[go_sem])
 ·exact ⟨ha1, rfl, by simp; omega⟩
 rintro ⟨i, a, out, g5⟩ ⟨ha, hnu, hol⟩
 simp only at ha hnu hol
 refine qf fun K2 hK2 => ?_
 (refine qc fun Y Yh=>?_;simp[go_sem];apply Yh;clear Yh Y;apply Xi)
 (refine qg fun T F hT hF=>?_;simp[go_sem];refine BR.intro (fun h3=>hT ?_) (fun h3=>hF ?_);all_goals clear hT hF T F;try simp at h3)
 ·refine qh ?_
  refine hK2 _ ?_; clear hK2
  refine zy (α := {x : Nat × List Prs × Nat // x.1 ≤ l.length ∧ nuV 10 x.2.1 = true ∧ x.2.1.length + (i - 1) ≤ most}) (fun x => ⟨[(0, .ptr 900002 g 0), (5, .own 5 x.1.2.2), (6, dI i)], [(900002, (g, .box [dIs l, dI x.1.1])), (5, x.1.2.2, .row 43 2 (x.1.2.1.map cP))]⟩) (fun K4 hK4 hM4 => ?_) (fun x => ?_)
  rotate_left
  ·obtain ⟨⟨a', out', g'⟩, h1, h2, h3'⟩ := x
   simp only at h1 h2 h3'
   obtain ⟨j, rfl⟩ : ∃ j, i = j + 1 := ⟨i - 1, by omega⟩
   (refine qB fun Y Yh=>?_;simp[go_sem];((repeat' (first|apply And.intro|(apply Yh;clear Yh Y)));all_goals first|apply Xi|omega))
   refine ⟨(j, a', out', g'), ?_, ⟨h1, h2, by simpa using h3'⟩, by simp⟩
   (refine ql ?_ ?_ <;> simp[go_sem])
  have P2 := PK a 8 ha (by decide) (by decide)
  have hk2 := pickK_lt (l := l) (a := a) (n := 8) (by decide)
  have ha2 := pickA_le ha
  generalize pickK l a 8 = k2 at *
  generalize pickA l a = a2 at *
  have P3 := PK a2 9 ha2 (by decide) (by decide)
  have hk3 := pickK_lt (l := l) (a := a2) (n := 9) (by decide)
  have ha3 := pickA_le ha2
  generalize pickK l a2 9 = k3 at *
  generalize pickA l a2 = a3 at *
  obtain ⟨nm, hnm, hnmm⟩ := lit_at nmsL (k := k2) hk2
  obtain ⟨wt, hwt, hwtm⟩ := lit_at wtsL (k := k3) hk3
  have hnl : nm.length ≤ 20 := (by decide : ∀ y ∈ nmsL, y.length ≤ 20) nm hnmm
  have hwl : wt.length ≤ 20 := (by decide : ∀ y ∈ wtsL, y.length ≤ 20) wt hwtm
  have r1 : ([[dS [97]], [dS [98]], [dS [99, 49]], [dS [100, 45, 101]], [dS [102]], [dS [97]], [dS [98]], [dS [103, 111, 110, 101]]] : List (List D))[k2]? = some [dS nm] := by
   have : (nmsL.map cS)[k2]? = some (cS nm) := by rw [List.getElem?_map, hnm]; rfl
   exact this
  have r2 : ([[dS []], [dS []], [dS [62, 61, 32, 49, 46, 48]], [dS [126, 62, 32, 49, 46, 48]], [dS [60, 32, 50, 46, 48]], [dS [126, 62, 32, 50, 46, 48]], [dS [61, 32, 49, 46, 53]], [dS [62, 32, 50, 46, 48, 46, 97]], [dS [33, 61, 32, 51]]] : List (List D))[k3]? = some [dS wt] := by
   have : (wtsL.map cS)[k3]? = some (cS wt) := by rw [List.getElem?_map, hwt]; rfl
   exact this
  have hsz := xU hnu (by decide)
  have NU := Qb (out ++ [(nm, wt)]) 10 ⟨by simp; omega, fun x hx => by
   rcases List.mem_append.1 hx with h | h
   ·exact hsz.2 x h
   ·simp at h; subst h; exact ⟨by show nm.length ≤ _; omega, by show wt.length ≤ _; omega⟩⟩ (by decide)
  generalize hnb : nuV 10 (out ++ [(nm, wt)]) = nb at *
  refine qj ?_
  refine zy (α := Nat) (fun g' => ⟨[(0, .ptr 900002 g 0), (5, .own 5 g'), (6, dI i)], [(900002, (g, .box [dIs l, dI a3])), (5, g', .row 43 2 ((out ++ [(nm, wt)]).map cP))]⟩) (fun K15 hK15 hM15 => ?_) (fun g' => ?_)
  ·((refine zA (.qs [0, 2, 7] (.three 1 (.two 3 (.qs [4] (.three 5 (.two 6 (.one 8 (.qs [9, 10, 11] (.one 12 (.one 13 (.qs [14] (.nil)))))) 8 (.kp 6 (.qs [9] (.nb (.qs [10, 11] (.one 12 (.one 13 (.qs [14] (.nil))))))))) 6 (.kq 5 (.one 8 (.qs [9, 10, 11] (.one 12 (.one 13 (.qs [14] (.nil)))))) 8 (.qs [9, 5, 10, 11] (.one 12 (.one 13 (.qs [14] (.nil)))))) 8 (.qs [5] (.kp 6 (.qs [9] (.nb (.qs [10, 11] (.one 12 (.one 13 (.qs [14] (.nil))))))))))) 6 (.one 3 (.qs [4] (.kq 5 (.one 8 (.qs [9, 10, 11] (.one 12 (.one 13 (.qs [14] (.nil)))))) 8 (.qs [9, 5, 10, 11] (.one 12 (.one 13 (.qs [14] (.nil))))))))) 3 (.three 1 (.qs [4] (.three 5 (.two 6 (.one 8 (.qs [9, 10, 11] (.one 12 (.one 13 (.qs [14] (.nil)))))) 8 (.kp 6 (.qs [9] (.nb (.qs [10, 11] (.one 12 (.one 13 (.qs [14] (.nil))))))))) 6 (.kq 5 (.one 8 (.qs [9, 10, 11] (.one 12 (.one 13 (.qs [14] (.nil)))))) 8 (.qs [9, 5, 10, 11] (.one 12 (.one 13 (.qs [14] (.nil)))))) 8 (.qs [5] (.kp 6 (.qs [9] (.nb (.qs [10, 11] (.one 12 (.one 13 (.qs [14] (.nil))))))))))) 6 (.two 1 (.qs [4] (.kq 5 (.one 8 (.qs [9, 10, 11] (.one 12 (.one 13 (.qs [14] (.nil)))))) 8 (.qs [9, 5, 10, 11] (.one 12 (.one 13 (.qs [14] (.nil))))))) 8 (.qs [9, 10] (.kp 1 (.qs [4] (.nb (.qs [5, 11] (.one 12 (.one 13 (.qs [14] (.nil)))))))))) 8 (.kp2 1 (.qs [4] (.nb (.qs [5] (.kp 6 (.qs [9] (.nb (.qs [10, 11] (.one 12 (.one 13 (.qs [14] (.nil))))))))))) 6 (.qs [9] (.nb (.qs [10] (.kp 1 (.qs [4] (.nb (.qs [5, 11] (.one 12 (.one 13 (.qs [14] (.nil))))))))))))) 6 (.two 1 (.one 3 (.qs [4] (.kq 5 (.one 8 (.qs [9, 10, 11] (.one 12 (.one 13 (.qs [14] (.nil)))))) 8 (.qs [9, 5, 10, 11] (.one 12 (.one 13 (.qs [14] (.nil)))))))) 3 (.two 1 (.qs [4] (.kq 5 (.one 8 (.qs [9, 10, 11] (.one 12 (.one 13 (.qs [14] (.nil)))))) 8 (.qs [9, 5, 10, 11] (.one 12 (.one 13 (.qs [14] (.nil))))))) 8 (.qs [9, 10] (.kp 1 (.qs [4] (.nb (.qs [5, 11] (.one 12 (.one 13 (.qs [14] (.nil))))))))))))) (by kernel_rfl) ?_ ?_ ?_ ?_);kernel_rfl;exact (by decide +kernel);kernel_rfl;intro Y Yh;((repeat' (first|refine x9 ?_ ?_|refine zX ?_ ?_ ?_|(refine qo fun Y Yh=>?_;simp[go_sem, r1, r2])|(refine qC fun Y Yh=>?_;simp[go_sem, r1, r2])|intro _|(apply Yh;clear Yh Y)))))
   all_goals (refine qR [900002] (.inl ⟨rfl,rfl⟩) (by simp[go_sem]) ?_;intro args ha;simp[go_sem] at ha;subst ha;refine ⟨_, _, P2, (by simp[go_sem, r1, r2]), ?_⟩;rintro ps r hps ⟨rfl, rfl⟩;simp[go_sem, r1, r2];((repeat' (first|refine x9 ?_ ?_|refine vW ?_ ?_|refine zX ?_ ?_ ?_|(refine qo fun Y Yh=>?_;simp[go_sem, r1, r2])|(refine qC fun Y Yh=>?_;simp[go_sem, r1, r2])|intro _|apply And.intro|(apply Yh;clear Yh Y)));all_goals first|omega|skip))
   all_goals (refine qR [900002] (.inl ⟨rfl,rfl⟩) (by simp[go_sem]) ?_;intro args ha;simp[go_sem] at ha;subst ha;refine ⟨_, _, P3, (by simp[go_sem, r1, r2]), ?_⟩;rintro ps r hps ⟨rfl, rfl⟩;simp[go_sem, r1, r2];((repeat' (first|refine qy ?_|refine zC ?_ ?_|(refine qo fun Y Yh=>?_;simp[go_sem, r1, r2])|(refine qC fun Y Yh=>?_;simp[go_sem, r1, r2])|intro _|apply And.intro|(apply Yh;clear Yh Y)));all_goals first|apply Xi|omega))
   all_goals
    refine hK15 _ ?_
    refine zk 5 5 rfl rfl (by decide) fun g' => ?_
    simp only [go_sem]
    refine hM15 g' _ ?_
    (refine ql ?_ ?_ <;> simp[go_sem])
  ·rw [show dPs (out ++ [(nm, wt)]) = D.sl 2 (out.map cP ++ [[dS nm, dS wt]]) by simp [go_sem]] at NU
   (refine qc fun Y Yh=>?_;simp[go_sem])
   ((try refine Xj ?_);refine jk (.inl ⟨rfl,rfl⟩) ?_;intro args ha;simp[go_sem] at ha;subst ha;refine ⟨_, NU, ?_⟩;rintro _ rfl;refine ⟨rfl, ?_⟩;simp[go_sem];apply Yh;clear Yh Y;apply Xi)
   cases nb with
   | true =>
    (refine qg fun T F hT hF=>?_;simp[go_sem];refine hF ?_;clear hT hF T F)
    refine qh ?_
    refine hK4 _ ?_
    refine hM4 ⟨(a3, out ++ [(nm, wt)], g'), ha3, hnb, by simp; omega⟩ _ ?_
    (refine ql ?_ ?_ <;> simp[go_sem])
   | false =>
    have hl1 : ((out.length : Int) + 1 - 1).toNat = out.length := by omega
    have hl2 : (out.length : Int) + 1 - 1 = out.length := by omega
    (refine qg fun T F hT hF=>?_;simp[go_sem];refine hT ?_;clear hT hF T F)
    (refine qB fun Y Yh=>?_;simp[go_sem, hl1, hl2];((repeat' (first|intro _|apply And.intro|(apply Yh;clear Yh Y)));all_goals first|apply Xi|omega))
    refine hK4 _ ?_
    refine zk 5 5 rfl rfl (by decide) fun g'' => ?_
    simp only [go_sem]
    refine hM4 ⟨(a3, out, g''), ha3, hnu, by simp only; omega⟩ _ ?_
    (refine ql ?_ ?_ <;> simp[go_sem])
 ·refine qp ?_
  simp only [go_sem]
  refine hK1 _ ?_; clear hK1
  (refine qc fun Y Yh=>?_;simp[go_sem];apply Yh;clear Yh Y;apply Xi)
  refine qQ 4 rfl rfl ?_
  simp only [go_sem]
  (refine qi ?_;simp[go_sem])
  exact ⟨a, ha, out, hnu, by omega, by simp⟩
def gnmL : List Bs := [[97], [98], [99, 49], [100, 45, 101], [102]]
def numL : List Bs := [[49, 46, 48], [49, 46, 53], [50, 46, 48], [50, 46, 49, 46, 97], [51]]
structure GrOk (s : Src) (w : List Prs) : Prop where
 nm : s.map (·.1) = gnmL
 vs : ∀ g ∈ s, vuV g.2 = true ∧ g.2.length ≤ 4
 wi : nuV 10 w = true
 wl : w.length ≤ 3
theorem Qh {s : Src} {w : List Prs} (h : GrOk s w) : suV s = true := by
 have hl : s.length = 5 := by have := congrArg List.length h.nm; simpa [gnmL] using this
 unfold suV
 rw [Bool.and_eq_true]
 refine ⟨by simp [hl], upTo_of fun i hi => ?_⟩
 obtain ⟨g, hg⟩ : ∃ g, s[i]? = some g := ⟨_, List.getElem?_eq_getElem hi⟩
 have hgn : gnmL[i]? = some g.1 := by rw [← h.nm, List.getElem?_map, hg]; rfl
 have hv := (h.vs g (List.mem_of_getElem? hg)).1
 unfold suAt
 rw [hg]
 simp only [hv, Bool.and_true]
 have hn : nameV g.1 = true := (by decide : ∀ y ∈ gnmL, nameV y = true) g.1 (List.mem_of_getElem? hgn)
 rw [hn, Bool.true_and]
 by_cases h0 : i = 0
 ·simp [h0]
 ·obtain ⟨y, hy⟩ : ∃ y, s[i - 1]? = some y := ⟨_, List.getElem?_eq_getElem (by omega)⟩
  have hyn : gnmL[i - 1]? = some y.1 := by rw [← h.nm, List.getElem?_map, hy]; rfl
  rw [hy]
  simp only [h0, decide_false, Bool.false_or]
  have hi5 : i < 5 := by omega
  have key : ∀ i, i < 5 → i ≠ 0 → ∀ a b, gnmL[i - 1]? = some a → gnmL[i]? = some b → Op.bytesLess a b = true := by
   intro i hi h0 a b ha hb
   match i, hi, h0 with
   | 1, _, _ => simp [gnmL] at ha hb; subst ha hb; decide
   | 2, _, _ => simp [gnmL] at ha hb; subst ha hb; decide
   | 3, _, _ => simp [gnmL] at ha hb; subst ha hb; decide
   | 4, _, _ => simp [gnmL] at ha hb; subst ha hb; decide
   | 0, _, h0 => exact absurd rfl h0
   | n + 5, h, _ => omega
  exact key i hi5 h0 _ _ hyn hgn
set_option maxHeartbeats 32000000 in
theorem kF (l : List Int) (hl : l.length ≤ 9223372036854775807) : PCall Tryz.prog 13 [dIs l] fun r => ∃ s w, GrOk s w ∧ r = .tup [dSrc s, dPs w] := by 
 refine qw Tryz.func13 rfl rfl Tryz.ntmps13 (rs := [.cell 2 25, .tmp 3]) (tys := [25, 26]) rfl rfl (by simp) ?_
 have PK := fun a n g ha hn hn2 => wO l a n g hl ha hn hn2
 have GN := fun a m g ha hm => QZ l a m g hl ha hm
 (refine qc fun Y Yh=>?_;simp[go_sem];intro _;apply Yh;clear Yh Y;apply Xi)
 rename_i g2
 (refine qc fun Y Yh=>?_;simp[go_sem];intro _;apply Yh;clear Yh Y;apply Xi)
 refine jJ 4 900002 rfl rfl (by decide) fun g4 => ?_
 simp only [go_sem]
 (refine qc fun Y Yh=>?_;simp[go_sem];intro _;apply Yh;clear Yh Y;apply Xi)
 rename_i g5
 refine zo 900011 46 2 0 (sb := 5) rfl rfl (by decide) fun gs => ?_
 simp only [List.set, go_sem]
 (refine qc fun Y Yh=>?_;simp[go_sem];intro _;apply Yh;clear Yh Y;apply Xi)
 refine qQ 6 rfl rfl ?_
 simp only [go_sem]
 refine qf fun K1 hK1 => ?_
 (refine qc fun Y Yh=>?_;simp[go_sem];apply Yh;clear Yh Y;apply Xi)
 refine qj ?_
 refine qx (σ := Nat × Nat × Src × Nat) (fun x => ⟨[(0, dIs l), (2, .ptr 2 g2 0), (4, .ptr 900002 g4 0), (5, .ptr 5 g5 0), (6, dSs gnmL), (7, dI x.1)], [(2, (g2, .box [.v (.slice none 0 0)])), (900002, (g4, .box [dIs l, dI x.2.1])), (5, (g5, .box [.own 900011 x.2.2.2])), (900011, (x.2.2.2, .row 46 2 (x.2.2.1.map cGm)))]⟩)
  (fun x => x.1 ≤ 5 ∧ x.2.1 ≤ l.length ∧ x.2.2.1.map (·.1) = gnmL.take x.1 ∧ ∀ g ∈ x.2.2.1, vuV g.2 = true ∧ g.2.length ≤ 4) (fun x => 5 - x.1) (0, 0, [], gs) ?_ ?_ ?_
 ·(refine ql ?_ ?_ <;> simp[go_sem, gnmL])
 ·simp
 rintro ⟨i, a, s, gs⟩ ⟨hi, ha, hsn, hsv⟩
 simp only at hi ha hsn hsv
 have hsl : s.length = i := by have := congrArg List.length hsn; simp [gnmL] at this; omega
 refine qf fun K2 hK2 => ?_
 (refine qc fun Y Yh=>?_;simp[go_sem];apply Yh;clear Yh Y;apply Xi)
 (refine qg fun T F hT hF=>?_;simp[go_sem];refine BR.intro (fun h3=>hT ?_) (fun h3=>hF ?_);all_goals clear hT hF T F;try simp at h3)
 ·refine qh ?_
  refine hK2 _ ?_; clear hK2
  obtain ⟨nm, hnm, hnmm⟩ := lit_at gnmL (k := i) (by simp [gnmL]; omega)
  have r0 : (gnmL.map cS)[i]? = some (cS nm) := by rw [List.getElem?_map, hnm]; rfl
  refine qf fun K4 hK4 => ?_
  refine qj ?_
  (refine qc fun Y Yh=>?_;simp[go_sem, hnm];intro _;apply Yh;clear Yh Y;apply Xi)
  rename_i g8
  refine zo 900010 48 2 1 (sb := 8) rfl rfl (by decide) fun gv => ?_
  simp only [List.set, go_sem]
  have P1 := PK a 4 g4 ha (by decide) (by decide)
  have hk1 := pickK_lt (l := l) (a := a) (n := 4) (by decide)
  have ha1 := pickA_le ha
  generalize pickK l a 4 = k1 at *
  generalize pickA l a = a1 at *
  refine qf fun K5 hK5 => ?_
  (refine qc fun Y Yh=>?_;simp[go_sem])
  (refine qR [900002] (.inl ⟨rfl,rfl⟩) (by simp[go_sem]) ?_;intro args ha;simp[go_sem] at ha;subst ha;refine ⟨_, _, P1, (by simp[go_sem]), ?_⟩;rintro ps r hps ⟨rfl, rfl⟩;simp[go_sem];apply Yh;clear Yh Y;apply Xi)
  refine qj ?_
  refine qx (σ := Nat × Nat × List Vrs × Nat) (fun x => ⟨[(0, dIs l), (2, .ptr 2 g2 0), (4, .ptr 900002 g4 0), (5, .ptr 5 g5 0), (6, dSs gnmL), (7, dI i), (8, .ptr 8 g8 0), (9, dI ((x.1 : Int) - 1))], [(2, (g2, .box [.v (.slice none 0 0)])), (900002, (g4, .box [dIs l, dI x.2.1])), (5, (g5, .box [.own 900011 gs])), (900011, (gs, .row 46 2 (s.map cGm))), (8, (g8, .box [dS nm, .own 900010 x.2.2.2])), (900010, (x.2.2.2, .row 48 2 (x.2.2.1.map cVr)))]⟩)
   (fun x => x.2.1 ≤ l.length ∧ vuV x.2.2.1 = true ∧ x.2.2.1.length + x.1 ≤ 4) (fun x => x.1) (k1 + 1, a1, [], gv) ?_ ?_ ?_
  ·(refine ql ?_ ?_ <;> simp[go_sem])
   try omega
  ·exact ⟨ha1, rfl, by simp; omega⟩
  rintro ⟨q, a, vs, gv⟩ ⟨ha, hvu, hvl⟩
  simp only at ha hvu hvl
  have tl5 : ∀ S', Cov S' ⟨[(0, dIs l), (2, .ptr 2 g2 0), (4, .ptr 900002 g4 0), (5, .ptr 5 g5 0), (6, dSs gnmL), (7, dI i), (8, .ptr 8 g8 0)], [(2, (g2, .box [.v (.slice none 0 0)])), (900002, (g4, .box [dIs l, dI a])), (5, (g5, .box [.own 900011 gs])), (900011, (gs, .row 46 2 (s.map cGm))), (8, (g8, .box [dS nm, .own 900010 gv])), (900010, (gv, .row 48 2 (vs.map cVr)))]⟩ → K5 S' := fun S' hS => by
   refine hK5 _ ?_; clear hK5
   refine qN hS ?_; clear hS
   (refine qB fun Y Yh=>?_;simp[go_sem];((repeat' (first|intro _|apply And.intro|(apply Yh;clear Yh Y)));all_goals first|apply Xi|omega))
   refine hK4 _ ?_; clear hK4
   (refine qB fun Y Yh=>?_;simp[go_sem];((repeat' (first|apply And.intro|(apply Yh;clear Yh Y)));all_goals first|apply Xi|omega))
   rename_i g' g''
   refine ⟨(i + 1, a, s ++ [(nm, vs)], g''), ?_, ⟨by simp only; omega, ha, ?_, ?_⟩, by simp only; omega⟩
   ·(refine ql ?_ ?_ <;> simp[go_sem])
   ·rw [List.map_append, hsn, List.take_add_one, hnm]; rfl
   ·intro g hg
    rcases List.mem_append.1 hg with h | h
    ·exact hsv g h
    ·simp at h; subst h; exact ⟨hvu, by show vs.length ≤ 4; omega⟩
  clear hK5 hK4
  refine qf fun K6 hK6 => ?_
  cases q with
  | zero =>
   (refine qc fun Y Yh=>?_;simp[go_sem];((repeat' (first|(refine qG ?_ ?_ ?_;(focus (simp[go_sem, undef];done));(focus (simp[go_sem];done));simp[go_sem])|(apply Yh;clear Yh Y)));all_goals apply Xi))
   (refine qg fun T F hT hF=>?_;simp[go_sem];refine hF ?_;clear hT hF T F)
   refine qp ?_
   simp only [go_sem]
   refine tl5 _ ?_
   (refine ql ?_ ?_ <;> simp[go_sem])
  | succ q =>
   have hq0 : (0 : Int) ≤ (q : Int) + 1 - 1 := by omega
   have hqe : (q : Int) + 1 - 1 = q := by omega
   by_cases hal : a < l.length
   ·have hali : (a : Int) < l.length := by omega
    (refine qc fun Y Yh=>?_;simp[go_sem, hq0, hqe, hal, hali];((repeat' (first|(refine qH ?_;simp[go_sem, hq0, hqe, hal, hali])|(apply Yh;clear Yh Y)));all_goals apply Xi))
    (refine qg fun T F hT hF=>?_;simp[go_sem, hq0, hqe, hal, hali];refine hT ?_;clear hT hF T F)
    refine qh ?_
    refine hK6 _ ?_; clear hK6
    refine zy (α := {x : Nat × List Vrs × Nat // x.1 ≤ l.length ∧ vuV x.2.1 = true ∧ x.2.1.length + q ≤ 4}) (fun x => ⟨[(0, dIs l), (2, .ptr 2 g2 0), (4, .ptr 900002 g4 0), (5, .ptr 5 g5 0), (6, dSs gnmL), (7, dI i), (8, .ptr 8 g8 0), (9, dI q)], [(2, (g2, .box [.v (.slice none 0 0)])), (900002, (g4, .box [dIs l, dI x.1.1])), (5, (g5, .box [.own 900011 gs])), (900011, (gs, .row 46 2 (s.map cGm))), (8, (g8, .box [dS nm, .own 900010 x.1.2.2])), (900010, (x.1.2.2, .row 48 2 (x.1.2.1.map cVr)))]⟩) (fun K8 hK8 hM8 => ?_) (fun x => ?_)
    rotate_left
    ·obtain ⟨⟨a', vs', g'⟩, h1, h2, h3'⟩ := x
     simp only at h1 h2 h3'
     (refine qB fun Y Yh=>?_;simp[go_sem];((repeat' (first|apply And.intro|(apply Yh;clear Yh Y)));all_goals first|apply Xi|omega))
     refine ⟨(q, a', vs', g'), ?_, ⟨h1, h2, by simp only; omega⟩, by simp⟩
     (refine ql ?_ ?_ <;> simp[go_sem])
    have P2 := PK a 5 g4 ha (by decide) (by decide)
    have hk2 := pickK_lt (l := l) (a := a) (n := 5) (by decide)
    have ha2 := pickA_le ha
    generalize pickK l a 5 = k2 at *
    generalize pickA l a = a2 at *
    have N2 := GN a2 2 g4 ha2 (by decide)
    obtain ⟨num, hnum, hnumm⟩ := lit_at numL (k := k2) hk2
    have hnl : num.length ≤ 20 := (by decide : ∀ y ∈ numL, y.length ≤ 20) num hnumm
    have r1 : ([[dS [49, 46, 48]], [dS [49, 46, 53]], [dS [50, 46, 48]], [dS [50, 46, 49, 46, 97]], [dS [51]]] : List (List D))[k2]? = some [dS num] := by
     have : (numL.map cS)[k2]? = some (cS num) := by rw [List.getElem?_map, hnum]; rfl
     exact this
    refine qj ?_
    refine zy (α := {x : Nat × List Prs // x.1 ≤ l.length ∧ nuV 10 x.2 = true ∧ x.2.length ≤ 2}) (fun x => ⟨[(0, dIs l), (2, .ptr 2 g2 0), (4, .ptr 900002 g4 0), (5, .ptr 5 g5 0), (6, dSs gnmL), (7, dI i), (8, .ptr 8 g8 0), (9, dI q), (10, .rd [dS num, dPs x.1.2])], [(2, (g2, .box [.v (.slice none 0 0)])), (900002, (g4, .box [dIs l, dI x.1.1])), (5, (g5, .box [.own 900011 gs])), (900011, (gs, .row 46 2 (s.map cGm))), (8, (g8, .box [dS nm, .own 900010 gv])), (900010, (gv, .row 48 2 (vs.map cVr)))]⟩) (fun K9 hK9 hM9 => ?_) (fun x => ?_)
    ·((refine zA (.qs [1, 5] (.three 0 (.two 2 (.qs [3] (.three 4 (.two 6 (.qs [7] (.kp 8 (.one 9 (.nil)))) 8 (.one 6 (.qs [7] (.one 9 (.nil))))) 6 (.qs [4, 7] (.kp 8 (.one 9 (.nil)))) 8 (.kq 4 (.one 6 (.qs [7] (.one 9 (.nil)))) 6 (.qs [4, 7] (.one 9 (.nil)))))) 8 (.one 2 (.qs [3] (.kq 4 (.one 6 (.qs [7] (.one 9 (.nil)))) 6 (.qs [4, 7] (.one 9 (.nil))))))) 2 (.three 0 (.qs [3] (.three 4 (.two 6 (.qs [7] (.kp 8 (.one 9 (.nil)))) 8 (.one 6 (.qs [7] (.one 9 (.nil))))) 6 (.qs [4, 7] (.kp 8 (.one 9 (.nil)))) 8 (.kq 4 (.one 6 (.qs [7] (.one 9 (.nil)))) 6 (.qs [4, 7] (.one 9 (.nil)))))) 6 (.kp2 0 (.qs [3] (.nb (.qs [4, 7] (.kp 8 (.one 9 (.nil)))))) 8 (.kp 0 (.qs [3] (.nb (.qs [4, 7] (.one 9 (.nil))))))) 8 (.two 0 (.qs [3] (.kq 4 (.one 6 (.qs [7] (.one 9 (.nil)))) 6 (.qs [4, 7] (.one 9 (.nil))))) 6 (.one 0 (.qs [3, 4, 7] (.one 9 (.nil)))))) 8 (.two 0 (.one 2 (.qs [3] (.kq 4 (.one 6 (.qs [7] (.one 9 (.nil)))) 6 (.qs [4, 7] (.one 9 (.nil)))))) 2 (.two 0 (.qs [3] (.kq 4 (.one 6 (.qs [7] (.one 9 (.nil)))) 6 (.qs [4, 7] (.one 9 (.nil))))) 6 (.one 0 (.qs [3, 4, 7] (.one 9 (.nil)))))))) (by kernel_rfl) ?_ ?_ ?_ ?_);kernel_rfl;exact (by decide +kernel);kernel_rfl;intro Y Yh;((repeat' (first|refine x9 ?_ ?_|refine zX ?_ ?_ ?_|(refine qo fun Y Yh=>?_;simp[go_sem, r1, hqe])|(refine qC fun Y Yh=>?_;simp[go_sem, r1, hqe])|intro _|(apply Yh;clear Yh Y)))))
     all_goals (refine qR [900002] (.inl ⟨rfl,rfl⟩) (by simp[go_sem]) ?_;intro args ha;simp[go_sem] at ha;subst ha;refine ⟨_, _, P2, (by simp[go_sem, r1, hqe]), ?_⟩;rintro ps r hps ⟨rfl, rfl⟩;simp[go_sem, r1, hqe];((repeat' (first|refine x9 ?_ ?_|refine vW ?_ ?_|refine zX ?_ ?_ ?_|(refine qo fun Y Yh=>?_;simp[go_sem, r1, hqe])|(refine qC fun Y Yh=>?_;simp[go_sem, r1, hqe])|intro _|apply And.intro|(apply Yh;clear Yh Y)));all_goals first|omega|skip))
     all_goals (refine qR [900002] (.inl ⟨rfl,rfl⟩) (by simp[go_sem]) ?_;intro args ha;simp[go_sem] at ha;subst ha;refine ⟨_, _, N2, (by simp[go_sem, r1, hqe]), ?_⟩;rintro ps r hps ⟨a', out, h1, h2, h3', rfl, rfl⟩;simp[go_sem, r1, hqe];((repeat' (first|refine qy ?_|refine zC ?_ ?_|(refine qo fun Y Yh=>?_;simp[go_sem, r1, hqe])|(refine qC fun Y Yh=>?_;simp[go_sem, r1, hqe])|intro _|apply And.intro|(apply Yh;clear Yh Y)));all_goals first|apply Xi|omega))
     all_goals
      refine hK9 _ ?_
      refine qA 10 rfl rfl ?_
      simp only [go_sem]
      refine hM9 ⟨(a', out), h1, h2, h3'⟩ _ ?_
      (refine ql ?_ ?_ <;> simp[go_sem])
    ·obtain ⟨⟨a', out⟩, h1, h2, h3'⟩ := x
     simp only at h1 h2 h3'
     have hvz : ∀ v ∈ vs ++ [(num, out)], SzV v := fun v hv => by
      rcases List.mem_append.1 hv with h | h
      ·have := (zh hvu).2 v h
       exact ⟨by have := zV this.1; omega, xU this.2 (by decide)⟩
      ·simp at h; subst h; exact ⟨by show num.length ≤ _; omega, xU h2 (by decide)⟩
     have VS := xe (vs ++ [(num, out)]) (by simp; omega) hvz
     rw [show dVrs (vs ++ [(num, out)]) = D.sl 2 (vs.map cVr ++ [[dS num, dPs out]]) by simp [go_sem]] at VS
     generalize hnb : vuV (vs ++ [(num, out)]) = nb at *
     (refine qc fun Y Yh=>?_;simp[go_sem];((repeat' (first|intro _|apply And.intro|(apply Yh;clear Yh Y)));all_goals first|apply Xi|omega))
     (refine qc fun Y Yh=>?_;simp[go_sem])
     ((try refine Xj ?_);refine jk (.inl ⟨rfl,rfl⟩) ?_;intro args ha;simp[go_sem] at ha;subst ha;refine ⟨_, VS, ?_⟩;rintro _ rfl;refine ⟨rfl, ?_⟩;simp[go_sem];apply Yh;clear Yh Y;apply Xi)
     rename_i gq1 gq2
     cases nb with
     | true =>
      (refine qg fun T F hT hF=>?_;simp[go_sem];refine hF ?_;clear hT hF T F)
      refine qh ?_
      refine hK8 _ ?_
      refine hM8 ⟨(a', vs ++ [(num, out)], gq2), h1, hnb, by simp; omega⟩ _ ?_
      (refine ql ?_ ?_ <;> simp[go_sem])
     | false =>
      have hl1 : ((vs.length : Int) + 1 - 1).toNat = vs.length := by omega
      have hl2 : (vs.length : Int) + 1 - 1 = vs.length := by omega
      (refine qg fun T F hT hF=>?_;simp[go_sem];refine hT ?_;clear hT hF T F)
      (refine qB fun Y Yh=>?_;simp[go_sem, hl1, hl2];((repeat' (first|intro _|apply And.intro|(apply Yh;clear Yh Y)));all_goals first|apply Xi|omega))
      rename_i gq3
      refine hK8 _ ?_
      refine hM8 ⟨(a', vs, gq3), h1, hvu, by simp only; omega⟩ _ ?_
      (refine ql ?_ ?_ <;> simp[go_sem])
   ·have hali : ¬ (a : Int) < l.length := by omega
    (refine qc fun Y Yh=>?_;simp[go_sem, hq0, hqe, hal, hali];((repeat' (first|(refine qH ?_;simp[go_sem, hq0, hqe, hal, hali])|(apply Yh;clear Yh Y)));all_goals apply Xi))
    (refine qg fun T F hT hF=>?_;simp[go_sem, hq0, hqe, hal, hali];refine hF ?_;clear hT hF T F)
    refine qp ?_
    simp only [go_sem]
    refine tl5 _ ?_
    (refine ql ?_ ?_ <;> simp[go_sem])
 ·refine qp ?_
  simp only [go_sem]
  refine hK1 _ ?_; clear hK1
  have hi5 : i = 5 := by omega
  subst hi5
  refine zq 900011 5 0 rfl rfl (by decide) rfl ?_
  simp only [go_sem, List.set]
  ((refine qE (.qs [1] (.kq 0 (.one 2 (.one 3 (.qs [4] (.nil)))) 2 (.qs [0] (.one 3 (.qs [4] (.nil)))))) (by kernel_rfl) ?_ ?_ ?_ ?_);kernel_rfl;exact (by decide +kernel);kernel_rfl;intro Y Yh;((repeat' (first|refine vW ?_ ?_|(refine qo fun Y Yh=>?_;simp[go_sem])|(refine qC fun Y Yh=>?_;simp[go_sem])|(apply Yh;clear Yh Y)))))
  all_goals
   (refine qR [900002] (.inl ⟨rfl,rfl⟩) (by simp[go_sem]) ?_;intro args ha;simp[go_sem] at ha;subst ha;refine ⟨_, _, (GN a 3 g4 ha (by decide)), (by simp[go_sem]), ?_⟩;rintro ps r hps ⟨a', w, h1, h2, h3', rfl, rfl⟩;simp[go_sem];((repeat' (first|refine qy ?_|(refine qo fun Y Yh=>?_;simp[go_sem])|(refine qC fun Y Yh=>?_;simp[go_sem])|(apply Yh;clear Yh Y)));all_goals apply Xi))
   (refine qi ?_;simp[go_sem])
   exact ⟨s, w, ⟨hsn, hsv, h2, h3'⟩, by simp⟩
set_option maxHeartbeats 4000000 in
theorem kw (l : List Prs) (hl : l.length ≤ 1000000) : PCall Tryz.prog 43 [dPs l] fun r => r = dPs l := by 
 refine qw Tryz.func43 rfl rfl Tryz.ntmps43 (rs := [.tmp 2]) (tys := [38]) rfl rfl (by simp) ?_
 (refine qc fun Y Yh=>?_;simp[go_sem];apply Yh;clear Yh Y;apply Xi)
 (refine qc fun Y Yh=>?_;simp[go_sem];apply Yh;clear Yh Y;apply Xi)
 refine qU 3 3 114 2 rfl fun g3 => ?_
 simp only [go_sem]
 refine qf fun K1 hK1 => ?_
 (refine qc fun Y Yh=>?_;simp[go_sem];apply Yh;clear Yh Y;apply Xi)
 refine qj ?_
 refine qx (σ := Nat × Nat) (fun x => ⟨[(0, dPs l), (3, .own 3 x.2), (4, dI x.1)], [(3, x.2, .row 114 2 ((l.take x.1).map cP))]⟩) (fun x => x.1 ≤ l.length) (fun x => l.length - x.1) (0, g3) ?_ ?_ ?_
 ·(refine ql ?_ ?_ <;> simp[go_sem])
 ·simp
 rintro ⟨i, g⟩ hi
 simp only at hi
 refine qf fun K2 hK2 => ?_
 (refine qc fun Y Yh=>?_;simp[go_sem];apply Yh;clear Yh Y;apply Xi)
 (refine qg fun T F hT hF=>?_;simp[go_sem];refine BR.intro (fun h3=>hT ?_) (fun h3=>hF ?_);all_goals clear hT hF T F;try simp at h3) 
 ·refine qh ?_
  refine hK2 _ ?_; clear hK2
  obtain ⟨x, hx⟩ : ∃ x, l[i]? = some x := ⟨_, List.getElem?_eq_getElem (by omega)⟩
  have htk : l.take (i + 1) = l.take i ++ [x] := by rw [List.take_add_one, hx]; rfl
  refine qf fun K4 hK4 => ?_
  refine qj ?_
  ((refine zA (.qs [0, 1, 2, 3, 4, 6, 7, 8, 9, 5, 10, 11] (.one 12 (.one 13 (.qs [14] (.nil))))) (by kernel_rfl) ?_ ?_ ?_ ?_);kernel_rfl;exact (by decide +kernel);kernel_rfl;intro Y Yh;((repeat' (first|refine qy ?_|(refine qo fun Y Yh=>?_;simp[go_sem, hx])|(refine qC fun Y Yh=>?_;simp[go_sem, hx])|intro _|apply And.intro|(apply Yh;clear Yh Y)));all_goals first|apply Xi|omega))
  refine hK4 _ ?_; clear hK4
  rename_i g' _
  refine zk 3 3 rfl rfl (by decide) fun g'' => ?_
  simp only [go_sem]
  (refine qB fun Y Yh=>?_;simp[go_sem];((repeat' (first|apply And.intro|(apply Yh;clear Yh Y)));all_goals first|apply Xi|omega))
  refine ⟨(i + 1, g''), ?_, by simp only; omega, by simp only; omega⟩
  simp only [htk]
  (refine ql ?_ ?_ <;> simp[go_sem])
 ·refine qp ?_
  simp only [go_sem]
  refine hK1 _ ?_; clear hK1
  have : i = l.length := by omega
  subst this
  (refine qc fun Y Yh=>?_;simp[go_sem];apply Yh;clear Yh Y;apply Xi)
  refine qQ 2 rfl rfl ?_
  simp only [go_sem]
  have htl : List.take l.length (l.map cP) = l.map cP := by
   conv => lhs; rw [← List.length_map (f := cP)]
   exact List.take_length
  (refine qi ?_;simp[go_sem, htl])
set_option maxHeartbeats 8000000 in
theorem JX (L : Lck) (hL : LkOk L) : PCall Tryz.prog 21 [dLk L] fun r => r = dLk L := by 
 refine qw Tryz.func21 rfl rfl Tryz.ntmps21 (rs := [.cell 2 53]) (tys := [53]) rfl rfl (by simp) ?_
 obtain ⟨P, N, W⟩ := L
 obtain ⟨hP, hN, hW, hP1, hN1, hW1⟩ := hL
 simp only at hP hN hW hP1 hN1 hW1
 have NW := kw W hW
 (refine qc fun Y Yh=>?_;simp[go_sem];intro _;intro _;apply Yh;clear Yh Y;apply Xi)
 (refine qc fun Y Yh=>?_;simp[go_sem];intro _;apply Yh;clear Yh Y;apply Xi)
 rename_i g1 g2 g3
 refine zo 900003 41 2 0 (sb := 3) rfl rfl (by decide) fun gp0 => ?_
 refine zo 900004 38 1 1 (sb := 3) rfl rfl (by decide) fun gn0 => ?_
 simp only [List.set, go_sem]
 refine qf fun K1 hK1 => ?_
 (refine qc fun Y Yh=>?_;simp[go_sem];apply Yh;clear Yh Y;apply Xi)
 refine qj ?_
 refine qx (σ := Nat × Nat) (fun x => ⟨[(1, .ptr 1 g1 0), (2, .ptr 2 g2 0), (3, .ptr 3 g3 0), (4, dI x.1)], [(1, g1, .box [dPs P, dNs N, dPs W]), (2, g2, .box [.v (.slice none 0 0), .v (.slice none 0 0), .v (.slice none 0 0)]), (3, g3, .box [.own 900003 x.2, .own 900004 gn0, .v (.slice none 0 0)]), (900003, x.2, .row 41 2 ((P.take x.1).map cP)), (900004, gn0, .row 38 1 [])]⟩) (fun x => x.1 ≤ P.length) (fun x => P.length - x.1) (0, gp0) ?_ ?_ ?_
 ·(refine ql ?_ ?_ <;> simp[go_sem])
 ·simp
 rintro ⟨i, g⟩ hi
 simp only at hi
 refine qf fun K2 hK2 => ?_
 (refine qc fun Y Yh=>?_;simp[go_sem];apply Yh;clear Yh Y;apply Xi)
 (refine qg fun T F hT hF=>?_;simp[go_sem];refine BR.intro (fun h3=>hT ?_) (fun h3=>hF ?_);all_goals clear hT hF T F;try simp at h3) 
 ·refine qh ?_
  refine hK2 _ ?_; clear hK2
  obtain ⟨x, hx⟩ : ∃ x, P[i]? = some x := ⟨_, List.getElem?_eq_getElem (by omega)⟩
  have htk := map_take_snoc cP hx
  refine qf fun K4 hK4 => ?_
  refine qj ?_
  ((refine zA (.qs [0, 2, 4, 8, 10, 1, 3, 5, 6, 7, 9, 11, 12, 13, 14] (.kp 15 (.one 16 (.qs [17] (.one 18 (.nil)))))) (by kernel_rfl) ?_ ?_ ?_ ?_);kernel_rfl;exact (by decide +kernel);kernel_rfl;intro Y Yh;((repeat' (first|refine qy ?_|(refine qo fun Y Yh=>?_;simp[go_sem, hx])|(refine qC fun Y Yh=>?_;simp[go_sem, hx])|intro _|apply And.intro|(apply Yh;clear Yh Y)));all_goals first|apply Xi|omega))
  refine hK4 _ ?_; clear hK4
  (refine qB fun Y Yh=>?_;simp[go_sem];((repeat' (first|apply And.intro|(apply Yh;clear Yh Y)));all_goals first|apply Xi|omega))
  rename_i g' g''
  refine ⟨(i + 1, g''), ?_, by simp only; omega, by simp only; omega⟩
  simp only [htk]
  (refine ql ?_ ?_ <;> simp[go_sem])
 ·refine qp ?_
  simp only [go_sem]
  refine hK1 _ ?_; clear hK1
  have : i = P.length := by omega
  subst this
  refine qf fun K5 hK5 => ?_
  (refine qc fun Y Yh=>?_;simp[go_sem];apply Yh;clear Yh Y;apply Xi)
  refine qj ?_
  refine qx (σ := Nat × Nat) (fun x => ⟨[(1, .ptr 1 g1 0), (2, .ptr 2 g2 0), (3, .ptr 3 g3 0), (5, dI x.1)], [(1, g1, .box [dPs P, dNs N, dPs W]), (2, g2, .box [.v (.slice none 0 0), .v (.slice none 0 0), .v (.slice none 0 0)]), (3, g3, .box [.own 900003 g, .own 900004 x.2, .v (.slice none 0 0)]), (900003, g, .row 41 2 (P.map cP)), (900004, x.2, .row 38 1 ((N.take x.1).map fun n => [dPs n]))]⟩) (fun x => x.1 ≤ N.length) (fun x => N.length - x.1) (0, gn0) ?_ ?_ ?_
  ·(refine ql ?_ ?_ <;> simp[go_sem, take_map_len])
  ·simp
  rintro ⟨i, gn⟩ hi
  simp only at hi
  refine qf fun K6 hK6 => ?_
  (refine qc fun Y Yh=>?_;simp[go_sem];apply Yh;clear Yh Y;apply Xi)
  (refine qg fun T F hT hF=>?_;simp[go_sem];refine BR.intro (fun h7=>hT ?_) (fun h7=>hF ?_);all_goals clear hT hF T F;try simp at h7) 
  ·refine qh ?_
   refine hK6 _ ?_; clear hK6
   obtain ⟨x, hx⟩ : ∃ x, N[i]? = some x := ⟨_, List.getElem?_eq_getElem (by omega)⟩
   have htk := map_take_snoc (fun n => [dPs n]) hx
   have NX := kw x (hN1 x (List.mem_of_getElem? hx)).1
   refine qf fun K8 hK8 => ?_
   refine qj ?_
   ((refine zA (.qs [0, 2, 4, 1, 3, 5, 6] (.kp 7 (.kp 8 (.one 9 (.qs [10] (.one 11 (.nil))))))) (by kernel_rfl) ?_ ?_ ?_ ?_);kernel_rfl;exact (by decide +kernel);kernel_rfl;intro Y Yh;((repeat' (first|(refine qo fun Y Yh=>?_;simp[go_sem, hx])|(refine qC fun Y Yh=>?_;simp[go_sem, hx])|(apply Yh;clear Yh Y)))))
   ((try refine Xj ?_);refine qm (.inl ⟨rfl,rfl⟩) (by simp[go_sem]) ?_;intro args ha;simp[go_sem] at ha;subst ha;refine ⟨_, NX, ?_⟩;rintro _ rfl;simp[go_sem];((repeat' (first|refine qy ?_|(refine qo fun Y Yh=>?_;simp[go_sem])|(refine qC fun Y Yh=>?_;simp[go_sem])|intro _|apply And.intro|(apply Yh;clear Yh Y)));all_goals first|apply Xi|omega))
   refine hK8 _ ?_; clear hK8
   (refine qB fun Y Yh=>?_;simp[go_sem];((repeat' (first|apply And.intro|(apply Yh;clear Yh Y)));all_goals first|apply Xi|omega))
   rename_i g' g''
   refine ⟨(i + 1, g''), ?_, by simp only; omega, by simp only; omega⟩
   simp only [htk]
   (refine ql ?_ ?_ <;> simp[go_sem])
  ·refine qp ?_
   simp only [go_sem]
   refine hK5 _ ?_; clear hK5
   have : i = N.length := by omega
   subst this
   (refine qc fun Y Yh=>?_;simp[go_sem])
   ((try refine Xj ?_);refine qm (.inl ⟨rfl,rfl⟩) (by simp[go_sem]) ?_;intro args ha;simp[go_sem] at ha;subst ha;refine ⟨_, NW, ?_⟩;rintro _ rfl;simp[go_sem];apply Yh;clear Yh Y;apply Xi)
   refine zq 900003 3 0 rfl rfl (by decide) rfl ?_
   simp only [go_sem, List.set]
   refine zq 900004 3 1 rfl rfl (by decide) rfl ?_
   simp only [go_sem, List.set]
   (refine qc fun Y Yh=>?_;simp[go_sem];apply Yh;clear Yh Y;apply Xi)
   (refine qi ?_;simp[go_sem, take_map_len])
set_option maxHeartbeats 4000000 in
theorem JE (a b : List Prs) (ha : a.length ≤ 1000000) (hb : b.length ≤ 1000000) : PCall Tryz.prog 65 [dPs a, dPs b] fun r => r = dB (decide (a = b)) := by 
 refine qw Tryz.func65 rfl rfl Tryz.ntmps65 (rs := [.tmp 4]) (tys := [4]) rfl rfl (by simp) ?_
 (refine qc fun Y Yh=>?_;simp[go_sem];apply Yh;clear Yh Y;apply Xi)
 refine qf fun K1 hK1 => ?_
 (refine qc fun Y Yh=>?_;simp[go_sem];apply Yh;clear Yh Y;apply Xi)
 (refine qg fun T F hT hF=>?_;simp[go_sem];refine BR.intro (fun h2=>hT ?_) (fun h2=>hF ?_);all_goals clear hT hF T F;try simp at h2)
 ·(refine qc fun Y Yh=>?_;simp[go_sem];apply Yh;clear Yh Y;apply Xi)
  have : ¬ a = b := fun q => h2 (by rw [q])
  (refine qi ?_;simp[go_sem, h2, this])
 ·have hl : a.length = b.length := by omega
  refine qh ?_
  refine hK1 _ ?_; clear hK1
  refine qf fun K3 hK3 => ?_
  (refine qc fun Y Yh=>?_;simp[go_sem];apply Yh;clear Yh Y;apply Xi)
  refine qj ?_
  refine qx (σ := Nat) (fun i => ⟨[(0, dPs a), (1, dPs b), (12, dI a.length), (13, dI i)], []⟩) (fun i => i ≤ a.length ∧ a.take i = b.take i) (fun i => a.length - i) 0 ?_ ?_ ?_
  ·(refine ql ?_ ?_ <;> simp[go_sem])
  ·simp
  rintro i ⟨hi, ht⟩
  (refine qc fun Y Yh=>?_;simp[go_sem];apply Yh;clear Yh Y;apply Xi)
  refine qf fun K4 hK4 => ?_
  (refine qg fun T F hT hF=>?_;simp[go_sem];refine BR.intro (fun h5=>hT ?_) (fun h5=>hF ?_);all_goals clear hT hF T F;try simp at h5)
  ·refine qh ?_
   refine hK4 _ ?_; clear hK4
   obtain ⟨x, hx⟩ : ∃ x, a[i]? = some x := ⟨_, List.getElem?_eq_getElem (by omega)⟩
   obtain ⟨y, hy⟩ : ∃ y, b[i]? = some y := ⟨_, List.getElem?_eq_getElem (by omega)⟩
   have hs := take_eq_step hx hy ht
   have hn := take_ne hx hy
   refine qf fun K6 hK6 => ?_
   refine qj ?_
   (refine qc fun Y Yh=>?_;simp[go_sem];apply Yh;clear Yh Y;apply Xi)
   ((refine qE (.qs [0, 1, 2, 4, 5, 6, 3, 7, 8] (.nil)) (by kernel_rfl) ?_ ?_ ?_ ?_);kernel_rfl;exact (by decide +kernel);kernel_rfl;intro Y Yh;((repeat' (first|refine qy ?_|(refine qo fun Y Yh=>?_;simp[go_sem, hx, hy])|(apply Yh;clear Yh Y)));all_goals apply Xi))
   (refine qg fun T F hT hF=>?_;simp[go_sem];refine BR.intro (fun h7=>hT ?_) (fun h7=>hF ?_);all_goals clear hT hF T F;try simp at h7)
   ·have hne : ¬ a = b := hn (fun q => by subst q; simp at h7)
    (refine qc fun Y Yh=>?_;simp[go_sem];apply Yh;clear Yh Y;apply Xi)
    (refine qi ?_;simp[go_sem, hne])
   ·refine qh ?_
    refine hK6 _ ?_; clear hK6
    (refine qB fun Y Yh=>?_;simp[go_sem];((repeat' (first|apply And.intro|(apply Yh;clear Yh Y)));all_goals first|apply Xi|omega))
    refine ⟨i + 1, ?_, ⟨by omega, ?_⟩, by omega⟩
    ·(refine ql ?_ ?_ <;> simp[go_sem])
    ·exact hs.2 (Prod.ext h7.1 h7.2)
  ·refine qp ?_
   simp only [go_sem]
   refine hK3 _ ?_; clear hK3
   have : i = a.length := by omega
   subst this
   have := take_all hl ht
   (refine qc fun Y Yh=>?_;simp[go_sem];apply Yh;clear Yh Y;apply Xi)
   (refine qi ?_;simp[go_sem, h2, h5, this])
end Go.Proofs.YteekfnhhlcmcgaaGreatDoor
set_option maxRecDepth 20000
namespace Go.Lk
open Go.Lib Go.Wh Go.Ver
/-! the order of names; a lock of a solution is valid -/
theorem bl_irr : ∀ a : Bs, Op.bytesLess a a = false
 | [] => rfl
 | x :: a => by
  unfold Op.bytesLess
  rw [bl_irr a]
  simp
theorem bl_trans : ∀ {a b c : Bs}, Op.bytesLess a b = true → Op.bytesLess b c = true → Op.bytesLess a c = true
 | a, [], c, h, _ => by cases a <;> simp [Op.bytesLess] at h
 | a, y :: b, [], _, h => by simp [Op.bytesLess] at h
 | [], y :: b, z :: c, _, _ => rfl
 | x :: a, y :: b, z :: c, h1, h2 => by
  simp only [Op.bytesLess, Bool.or_eq_true, Bool.and_eq_true, decide_eq_true_eq, beq_iff_eq] at h1 h2 ⊢
  rcases h1 with h1 | ⟨rfl, h1⟩
  ·rcases h2 with h2 | ⟨rfl, h2⟩
   ·exact .inl (UInt8.lt_trans h1 h2)
   ·exact .inl h1
  ·rcases h2 with h2 | ⟨rfl, h2⟩
   ·exact .inl h2
   ·exact .inr ⟨rfl, bl_trans h1 h2⟩
theorem bl_tri : ∀ a b : Bs, a = b ∨ Op.bytesLess a b = true ∨ Op.bytesLess b a = true
 | [], [] => .inl rfl
 | [], y :: b => .inr (.inl rfl)
 | x :: a, [] => .inr (.inr rfl)
 | x :: a, y :: b => by
  simp only [Op.bytesLess, Bool.or_eq_true, Bool.and_eq_true, decide_eq_true_eq, beq_iff_eq, List.cons.injEq]
  rcases Nat.lt_trichotomy x.toNat y.toNat with h | h | h
  ·exact .inr (.inl (.inl (UInt8.lt_iff_toNat_lt.2 h)))
  ·have e : x = y := UInt8.toNat_inj.1 h
   rcases bl_tri a b with q | q | q
   ·exact .inl ⟨e, q⟩
   ·exact .inr (.inl (.inr ⟨e, q⟩))
   ·exact .inr (.inr (.inr ⟨e.symm, q⟩))
  ·exact .inr (.inr (.inl (UInt8.lt_iff_toNat_lt.2 h)))
abbrev Asc (l : List Prs) : Prop := l.Pairwise fun x y => Op.bytesLess x.1 y.1 = true
theorem wM (x : Prs) (out : List Prs) : ∀ n, n ≤ out.length → (∀ j y, posP x out n ≤ j → j < n → out[j]? = some y → Op.bytesLess x.1 y.1 = true) ∧ (∀ y, 0 < posP x out n → out[posP x out n - 1]? = some y → Op.bytesLess x.1 y.1 = false)
 | 0, _ => ⟨fun j y _ h => by omega, fun y h => by simp [posP] at h⟩
 | n + 1, hn => by
  obtain ⟨z, hz⟩ : ∃ z, out[n]? = some z := ⟨_, List.getElem?_eq_getElem (by omega)⟩
  obtain ⟨h1, h2⟩ := wM x out n (by omega)
  rw [xR hz]
  split
  ·rename_i hb
   refine ⟨fun j y hj hjn hy => ?_, h2⟩
   by_cases e : j = n
   ·subst e; rw [hz] at hy; rw [← Option.some.inj hy]; exact hb
   ·exact h1 j y hj (by omega) hy
  ·rename_i hb
   refine ⟨fun j y hj hjn => by omega, fun y _ hy => ?_⟩
   rw [Nat.add_sub_cancel, hz] at hy
   rw [← Option.some.inj hy]
   simpa using hb
theorem JC {x : Prs} {out : List Prs} (h : Asc out) (hx : x.1 ∉ out.map (·.1)) : Asc (insP x out) := by
 obtain ⟨h1, h2⟩ := wM x out out.length (Nat.le_refl _)
 have hle := xB x out out.length
 unfold insP
 generalize posP x out out.length = a at *
 have hap : Asc (out.take a ++ out.drop a) := by rw [List.take_append_drop]; exact h
 obtain ⟨p1, p2, p3⟩ := List.pairwise_append.1 hap
 refine List.pairwise_append.2 ⟨p1, List.pairwise_cons.2 ⟨fun y hy => ?_, p2⟩, fun y hy z hz => ?_⟩
 ·obtain ⟨j, hj⟩ := List.getElem?_of_mem hy
  rw [List.getElem?_drop] at hj
  exact h1 (a + j) y (by omega) (List.getElem?_eq_some_iff.1 hj).1 hj
 ·rcases List.mem_cons.1 hz with rfl | hz
  ·
   have ha : 0 < a := by
    rcases Nat.eq_zero_or_pos a with q | q
    ·subst q; simp at hy
    ·exact q
   obtain ⟨w, hw⟩ : ∃ w, out[a - 1]? = some w := ⟨_, List.getElem?_eq_getElem (by omega)⟩
   have hwx : Op.bytesLess w.1 z.1 = true := by
    rcases bl_tri z.1 w.1 with q | q | q
    ·exact absurd (List.mem_map.2 ⟨w, List.mem_of_getElem? hw, q.symm⟩) hx
    ·have := h2 w ha hw; rw [q] at this; cases this
    ·exact q
   obtain ⟨j, hj⟩ := List.getElem?_of_mem hy
   rw [List.getElem?_take] at hj
   split at hj
   ·rename_i hja
    by_cases e : j = a - 1
    ·subst e; rw [hw] at hj; rw [← Option.some.inj hj]; exact hwx
    ·have hlt := (List.getElem?_eq_some_iff.1 hj).1
     have := List.pairwise_iff_getElem.1 h j (a - 1) hlt (by omega) (by omega)
     rw [(List.getElem?_eq_some_iff.1 hj).2, (List.getElem?_eq_some_iff.1 hw).2] at this
     exact bl_trans this hwx
   ·cases hj
  ·exact p3 y hy z hz
theorem srt_asc' : ∀ (l o : List Prs), Asc o → (l.map (·.1)).Nodup → (∀ x ∈ l, x.1 ∉ o.map (·.1)) → Asc (l.foldl (fun o x => insP x o) o)
 | [], o, h, _, _ => h
 | x :: l, o, h, hn, hd => by
  rw [List.foldl_cons]
  rw [List.map_cons, List.nodup_cons] at hn
  refine srt_asc' l _ (JC h (hd x (by simp))) hn.2 fun y hy hm => ?_
  obtain ⟨z, hz, e⟩ := List.mem_map.1 hm
  rcases QT.1 hz with rfl | hz
  ·exact hn.1 (List.mem_map.2 ⟨y, hy, e.symm⟩)
  ·exact hd y (by simp [hy]) (List.mem_map.2 ⟨z, hz, e⟩)
theorem srt_asc {l : List Prs} (h : (l.map (·.1)).Nodup) : Asc (srtP l) := srt_asc' l [] List.Pairwise.nil h (by simp)
theorem asc_at {l : List Prs} (h : Asc l) {i : Nat} {x y : Prs} (hi : i ≠ 0) (hx : l[i]? = some x) (hy : l[i - 1]? = some y) : Op.bytesLess y.1 x.1 = true := by
 have h1 := (List.getElem?_eq_some_iff.1 hx)
 have h2 := (List.getElem?_eq_some_iff.1 hy)
 have := List.pairwise_iff_getElem.1 h (i - 1) i h2.1 h1.1 (by omega)
 rw [h1.2, h2.2] at this
 exact this
theorem J9 {m : Nat} {l : List Prs} (h : Asc l) (hl : l.length ≤ m) (hn : ∀ n ∈ l, nameV n.1 = true ∧ (condsV n.2).isSome = true) : needsV m l = true := by
 unfold needsV
 rw [Bool.and_eq_true]
 refine ⟨?_, by simpa using hl⟩
 have key : ∀ k, needTo l k = true := by
  intro k
  induction k with
  | zero => rfl
  | succ k ih =>
   rw [needTo, ih, Bool.true_and]
   unfold needAt
   cases hx : l[k]? with
   | none => rfl
   | some x =>
    simp only
    obtain ⟨a, b⟩ := hn x (List.mem_of_getElem? hx)
    rw [a, b]
    simp only [Bool.and_self, Bool.true_and, Bool.or_eq_true, decide_eq_true_eq]
    by_cases h0 : k = 0
    ·exact .inl h0
    ·right
     cases hy : l[k - 1]? with
     | none => rfl
     | some y => exact asc_at h h0 hx hy
 exact key _
theorem QN {P : List Prs} {N : List (List Prs)} {W : List Prs} (h60 : P.length ≤ 60) (hl : N.length = P.length) (hw : needsV 8 W = true) (hP : Asc P) (hp : ∀ x ∈ P, nameV x.1 = true ∧ (readV x.2).isSome = true) (hN : ∀ r ∈ N, needsV 6 r = true) : lockV (P, N, W) = true := by
 unfold lockV
 simp only [Bool.and_eq_true, decide_eq_true_eq]
 refine ⟨⟨⟨h60, hl⟩, hw⟩, ?_⟩
 have key : ∀ k, k ≤ P.length → pickTo (P, N, W) k = true := by
  intro k
  induction k with
  | zero => intro _; rfl
  | succ k ih =>
   intro hk
   rw [pickTo, ih (by omega), Bool.true_and]
   unfold pickAt
   obtain ⟨x, hx⟩ : ∃ x, P[k]? = some x := ⟨_, List.getElem?_eq_getElem (by omega)⟩
   obtain ⟨r, hr⟩ : ∃ r, N[k]? = some r := ⟨_, List.getElem?_eq_getElem (by omega)⟩
   have e : N.getD k [] = r := by simp [List.getD, hr]
   simp only [hx, e]
   obtain ⟨a, b⟩ := hp x (List.mem_of_getElem? hx)
   rw [a, b, hN r (List.mem_of_getElem? hr)]
   simp only [Bool.and_self, Bool.true_and, Bool.and_true, Bool.or_eq_true, decide_eq_true_eq]
   by_cases h0 : k = 0
   ·exact .inl h0
   ·right
    cases hy : P[k - 1]? with
    | none => rfl
    | some y => exact asc_at hP h0 hx hy
 exact key _ (Nat.le_refl _)
theorem jy {m : Nat} {l : List Prs} (h : nuV m l = true) : (l.map (·.1)).Nodup := by
 unfold nuV at h
 rw [Bool.and_eq_true] at h
 refine List.pairwise_iff_getElem.2 fun i j hi hj hij => ?_
 simp only [List.length_map] at hi hj
 have hj' := upTo_at h.2 hj
 have hx := List.getElem?_eq_getElem hj
 unfold nuAt at hj'
 rw [hx] at hj'
 simp only [Bool.and_eq_true] at hj'
 have := upTo_at hj'.2 hij
 unfold apartAt at this
 rw [List.getElem?_eq_getElem hi] at this
 simpa using this
theorem nu_srt {m : Nat} {l : List Prs} (h : nuV m l = true) : needsV m (srtP l) = true := by
 obtain ⟨h1, h2⟩ := zH h
 exact J9 (srt_asc (jy h)) (by rw [jq]; exact h1) fun n hn => h2 n (jo.1 hn)
theorem own_ok {s : Src} (hs : suV s = true) (p : Prs) : needsV 6 (ownV s p) = true := by
 unfold ownV fndP
 cases h : fndV s p with
 | none => rfl
 | some v =>
  obtain ⟨g, hg, _, hv, _⟩ := jb h
  exact nu_srt ((zh ((qW hs).2 g hg).2).2 v hv).2
theorem Jr {s : Src} {w : List Prs} {b : Int} (hs : suV s = true) : Asc (solV s w b).1 := by
 unfold solV
 split
 ·exact srt_asc (ja hs _ [] 0 ⟨by simp, by simp⟩).2
 ·exact List.Pairwise.nil
theorem JS {s : Src} {w : List Prs} {b : Int} (hs : suV s = true) : ∀ x ∈ (solV s w b).1, nameV x.1 = true ∧ (readV x.2).isSome = true := fun x hx => by
 obtain ⟨g, hg, e, v, hv, e2⟩ := ZU hs x hx
 obtain ⟨a, c⟩ := (qW hs).2 g hg
 have := ((zh c).2 v hv).1
 exact ⟨by rw [← e]; exact a, by rw [← e2]; exact this⟩
theorem Qa {s : Src} {w : List Prs} {b : Int} (h : (ofV s w b).2 = 0) : lockV (ofV s w b).1 = true := by
 unfold ofV at h ⊢
 split at h
 ·rename_i h0
  rw [if_pos h0]
  obtain ⟨hc, _⟩ := xx h0
  unfold chkV at hc
  rw [Bool.and_eq_true] at hc
  have hln := jM (s := s) (w := w) (b := b)
  refine QN (by omega) (by simp) (nu_srt hc.2) (Jr hc.1) (JS hc.1) fun r hr => ?_
  obtain ⟨p, _, rfl⟩ := List.mem_map.1 hr
  exact own_ok hc.1 p
 ·rename_i h0
  exact absurd h h0
/-! sizes -/
def SzL (L : Lck) : Prop := SzN L.1 ∧ (L.2.1.length ≤ 1000000 ∧ ∀ r ∈ L.2.1, SzN r) ∧ SzN L.2.2
theorem wP {m : Nat} {l : List Prs} (h : needsV m l = true) (hm : m ≤ 1000) : SzN l := by
 refine ⟨by have := vC h; omega, fun x hx => ?_⟩
 obtain ⟨a, b⟩ := kJ h x hx
 have := (name_nm a).2.2
 have := vN b
 exact ⟨by omega, by omega⟩
theorem vF {L : Lck} (h : lockV L = true) : SzL L := by
 obtain ⟨v1, v2, v3, v4⟩ := zD h
 refine ⟨⟨by omega, fun x hx => ?_⟩, ⟨by omega, fun r hr => ?_⟩, wP v3 (by decide)⟩
 ·obtain ⟨i, hi⟩ := List.getElem?_of_mem hx
  have hlt := (List.getElem?_eq_some_iff.1 hi).1
  obtain ⟨r, hr⟩ : ∃ r, L.2.1[i]? = some r := ⟨_, List.getElem?_eq_getElem (by omega)⟩
  obtain ⟨a, b, _⟩ := vG h hi hr
  have := (name_nm a).2.2
  have := zV b
  exact ⟨by omega, by omega⟩
 ·obtain ⟨i, hi⟩ := List.getElem?_of_mem hr
  have hlt := (List.getElem?_eq_some_iff.1 hi).1
  obtain ⟨x, hx⟩ : ∃ x, L.1[i]? = some x := ⟨_, List.getElem?_eq_getElem (by omega)⟩
  exact wP (vG h hx hi).2.2 (by decide)
/-! the first version of each gem -/
def fst1 (g : Gm) : Option (Bs × Vrs) := g.2.head?.map fun v => (g.1, v)
def fstP (s : Src) : List Prs := (s.filterMap fst1).map fun x => (x.1, x.2.1)
def fstN (s : Src) : List (List Prs) := (s.filterMap fst1).map fun x => x.2.2
theorem fst_step {s : Src} {i : Nat} {g : Gm} (h : s[i]? = some g) : fstP (s.take (i + 1)) = fstP (s.take i) ++ (match g.2.head? with | some v => [(g.1, v.1)] | none => []) ∧ fstN (s.take (i + 1)) = fstN (s.take i) ++ (match g.2.head? with | some v => [v.2] | none => []) := by
 unfold fstP fstN
 rw [List.take_add_one, h, List.filterMap_append, List.map_append, List.map_append]
 simp only [Option.toList]
 cases hv : g.2.head? <;> simp [fst1, hv]
theorem fst_len (s : Src) : (fstN s).length = (fstP s).length := by simp [fstN, fstP]
theorem fst_le : ∀ s : Src, (fstP s).length ≤ s.length := fun s => by
 unfold fstP; rw [List.length_map]; exact List.length_filterMap_le _ _
theorem fst_asc : ∀ {s : Src}, (s.Pairwise fun g h => Op.bytesLess g.1 h.1 = true) → Asc (fstP s)
 | [], _ => List.Pairwise.nil
 | g :: s, h => by
  obtain ⟨h1, h2⟩ := List.pairwise_cons.1 h
  have ih := fst_asc h2
  unfold fstP at ih ⊢
  rw [List.filterMap_cons]
  cases hg : fst1 g with
  | none => exact ih
  | some x =>
   simp only [List.map_cons]
   refine List.pairwise_cons.2 ⟨fun y hy => ?_, ih⟩
   obtain ⟨z, hz, rfl⟩ := List.mem_map.1 hy
   obtain ⟨k, hk, e⟩ := List.mem_filterMap.1 hz
   have a : x.1 = g.1 := by unfold fst1 at hg; cases hv : g.2.head? <;> rw [hv] at hg <;> simp at hg; rw [← hg]
   have b : z.1 = k.1 := by unfold fst1 at e; cases hv : k.2.head? <;> rw [hv] at e <;> simp at e; rw [← e]
   show Op.bytesLess x.1 z.1 = true
   rw [a, b]
   exact h1 k hk
theorem fst_mem {s : Src} {x : Prs} (h : x ∈ fstP s) : ∃ g ∈ s, x.1 = g.1 ∧ ∃ v ∈ g.2, x.2 = v.1 := by
 unfold fstP at h
 obtain ⟨z, hz, rfl⟩ := List.mem_map.1 h
 obtain ⟨k, hk, e⟩ := List.mem_filterMap.1 hz
 unfold fst1 at e
 cases hv : k.2.head? with
 | none => rw [hv] at e; simp at e
 | some v =>
  rw [hv] at e; simp at e
  exact ⟨k, hk, by rw [← e], v, List.mem_of_mem_head? hv, by rw [← e]⟩
theorem fstN_mem {s : Src} {r : List Prs} (h : r ∈ fstN s) : ∃ g ∈ s, ∃ v ∈ g.2, r = v.2 := by
 unfold fstN at h
 obtain ⟨z, hz, rfl⟩ := List.mem_map.1 h
 obtain ⟨k, hk, e⟩ := List.mem_filterMap.1 hz
 unfold fst1 at e
 cases hv : k.2.head? with
 | none => rw [hv] at e; simp at e
 | some v =>
  rw [hv] at e; simp at e
  exact ⟨k, hk, v, List.mem_of_mem_head? hv, by rw [← e]⟩
theorem fst_lock {s : Src} (hs : suV s = true) (hp : s.Pairwise fun g h => Op.bytesLess g.1 h.1 = true) : lockV (fstP s, List.replicate (fstP s).length [], []) = true := by
 obtain ⟨h1, h2⟩ := qW hs
 refine QN (by have := fst_le s; omega) (by simp) rfl (fst_asc hp) (fun x hx => ?_) (fun r hr => ?_)
 ·obtain ⟨g, hg, e, v, hv, e2⟩ := fst_mem hx
  obtain ⟨a, c⟩ := h2 g hg
  rw [e, e2]
  exact ⟨a, ((zh c).2 v hv).1⟩
 ·rw [List.eq_of_mem_replicate hr]; rfl
theorem fst_sz {s : Src} (hs : suV s = true) : SzL (fstP s, fstN s, []) := by
 have hz := zY hs
 obtain ⟨h1, h2⟩ := qW hs
 refine ⟨⟨by have := fst_le s; simp only; omega, fun x hx => ?_⟩, ⟨by have := fst_le s; have := fst_len s; simp only; omega, fun r hr => ?_⟩, ⟨by simp, by simp⟩⟩
 ·obtain ⟨g, hg, e, v, hv, e2⟩ := fst_mem hx
  obtain ⟨a, b, c⟩ := hz.2 g hg
  exact ⟨by rw [e]; exact a, by rw [e2]; exact (c v hv).1⟩
 ·obtain ⟨g, hg, v, hv, e⟩ := fstN_mem hr
  rw [e]
  exact ((hz.2 g hg).2.2 v hv).2
end Go.Lk
