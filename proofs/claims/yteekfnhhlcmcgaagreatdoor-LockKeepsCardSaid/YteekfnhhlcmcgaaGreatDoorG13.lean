/- Part of a proof: see the last text. -/
import Derived.Test.YteekfnhhlcmcgaaGreatDoorG11
import Derived.Test.YteekfnhhlcmcgaaGreatDoorG10
import Derived.Test.YteekfnhhlcmcgaaGreatDoorG07
import Derived.Test.YteekfnhhlcmcgaaGreatDoorG08
import Derived.Test.YteekfnhhlcmcgaaGreatDoorG12
set_option linter.unusedVariables false
set_option linter.unusedSimpArgs false
namespace Go.Proofs.YteekfnhhlcmcgaaGreatDoor
open Go.Eng Go.Wh Go.Ver Go.Lk
set_option maxRecDepth 20000
attribute [local irreducible] AG CallA CallT AWp PCall ACall AgC
set_option maxHeartbeats 16000000 in
theorem Update_spec (s : Src) (L : Lck) (gem : Bs) (b : Int) (hs : SzS s) (hL : LkOk L) (hw : SzN L.2.2) (hbr : InR b) : PCall Tryz.prog 47 [dSrc s, dLk L, dS gem, dI b] fun r => r = .tup [dLk (updV s L gem b).1, dI (updV s L gem b).2] := by 
 refine pcall_of Tryz.func47 rfl rfl Tryz.ntmps47 (rs := [.cell 8 53, .tmp 9]) (tys := [53, 35]) rfl rfl (by simp) ?_
 have C1 := lCheck_spec L hL
 have C2 := sCheck_spec s L.2.2 hs hw
 by_cases hlk : lockV L = true
 rotate_left
 ·have hv : updV s L gem b = (lk0, 1) := by unfold updV; rw [if_neg (fun q => hlk q.2)]
  have hlf : lockV L = false := by simpa using hlk
  rw [hv]
  rw [hlf] at C1
  (refine awp_sr fun Y Yh=>?_;simp[go_sem];((repeat' (first|(refine ag_x ?_;simp[go_sem])|intro _|apply And.intro|(apply Yh;clear Yh Y)));all_goals first|apply Hold.mk|omega|assumption|skip))
  refine awp_frzbox 4 rfl rfl ?_
  simp only [go_sem]
  refine awp_frzbox 5 rfl rfl ?_
  simp only [go_sem]
  refine awp_seq_k fun K1 hK1 => ?_
  (refine awp_sr fun Y Yh=>?_;simp[go_sem];((repeat' (first|(refine ag_false ?_ ?_ ?_;(focus (simp[go_sem, undef];done));(focus (simp[go_sem];done));simp[go_sem])|(refine ag_true ?_ ?_;(focus (simp[go_sem, undef];done));simp[go_sem])|(refine ag_x ?_;simp[go_sem, undef])|intro _|apply And.intro|(apply Yh;clear Yh Y)));all_goals first|apply Hold.mk|omega|assumption|skip))
  ((try refine CallT.toA ?_);refine callT_m (.inl ⟨rfl,rfl⟩) (by simp[go_sem]) ?_;intro args ha;simp[go_sem] at ha;subst ha;refine ⟨_, C1, ?_⟩;rintro _ rfl;simp[go_sem];((repeat' (first|(refine ag_false ?_ ?_ ?_;(focus (simp[go_sem, undef];done));(focus (simp[go_sem];done));simp[go_sem])|(refine ag_true ?_ ?_;(focus (simp[go_sem, undef];done));simp[go_sem])|(refine ag_x ?_;simp[go_sem, undef])|intro _|apply And.intro|(apply Yh;clear Yh Y)));all_goals first|apply Hold.mk|omega|assumption|skip))
  (refine awp_if fun T F hT hF=>?_;simp[go_sem];refine hT ?_;clear hT hF T F)
  (refine awp_sr fun Y Yh=>?_;simp[go_sem];((repeat' (first|(refine ag_x ?_;simp[go_sem])|intro _|apply And.intro|(apply Yh;clear Yh Y)));all_goals first|apply Hold.mk|omega|assumption|skip))
  (refine awp_ret ?_;simp[go_sem])
 rw [hlk] at C1
 by_cases hsu : suV s = true
 rotate_left
 ·have hv : updV s L gem b = (lk0, 1) := by unfold updV; rw [if_neg (fun q => hsu q.1)]
  have hcf : chkV s L.2.2 = false := by
   have : suV s = false := by simpa using hsu
   unfold chkV; rw [this]; rfl
  rw [hv]
  rw [hcf] at C2
  (refine awp_sr fun Y Yh=>?_;simp[go_sem];((repeat' (first|(refine ag_x ?_;simp[go_sem])|intro _|apply And.intro|(apply Yh;clear Yh Y)));all_goals first|apply Hold.mk|omega|assumption|skip))
  refine awp_frzbox 4 rfl rfl ?_
  simp only [go_sem]
  refine awp_frzbox 5 rfl rfl ?_
  simp only [go_sem]
  refine awp_seq_k fun K1 hK1 => ?_
  (refine awp_sr fun Y Yh=>?_;simp[go_sem];((repeat' (first|(refine ag_false ?_ ?_ ?_;(focus (simp[go_sem, undef];done));(focus (simp[go_sem];done));simp[go_sem])|(refine ag_true ?_ ?_;(focus (simp[go_sem, undef];done));simp[go_sem])|(refine ag_x ?_;simp[go_sem, undef])|intro _|apply And.intro|(apply Yh;clear Yh Y)));all_goals first|apply Hold.mk|omega|assumption|skip))
  ((try refine CallT.toA ?_);refine callT_m (.inl ⟨rfl,rfl⟩) (by simp[go_sem]) ?_;intro args ha;simp[go_sem] at ha;subst ha;refine ⟨_, C1, ?_⟩;rintro _ rfl;simp[go_sem];((repeat' (first|(refine ag_false ?_ ?_ ?_;(focus (simp[go_sem, undef];done));(focus (simp[go_sem];done));simp[go_sem])|(refine ag_true ?_ ?_;(focus (simp[go_sem, undef];done));simp[go_sem])|(refine ag_x ?_;simp[go_sem, undef])|intro _|apply And.intro|(apply Yh;clear Yh Y)));all_goals first|apply Hold.mk|omega|assumption|skip))
  ((try refine CallT.toA ?_);refine callT_m (.inl ⟨rfl,rfl⟩) (by simp[go_sem]) ?_;intro args ha;simp[go_sem] at ha;subst ha;refine ⟨_, C2, ?_⟩;rintro _ rfl;simp[go_sem];((repeat' (first|(refine ag_false ?_ ?_ ?_;(focus (simp[go_sem, undef];done));(focus (simp[go_sem];done));simp[go_sem])|(refine ag_true ?_ ?_;(focus (simp[go_sem, undef];done));simp[go_sem])|(refine ag_x ?_;simp[go_sem, undef])|intro _|apply And.intro|(apply Yh;clear Yh Y)));all_goals first|apply Hold.mk|omega|assumption|skip))
  (refine awp_if fun T F hT hF=>?_;simp[go_sem];refine hT ?_;clear hT hF T F)
  (refine awp_sr fun Y Yh=>?_;simp[go_sem];((repeat' (first|(refine ag_x ?_;simp[go_sem])|intro _|apply And.intro|(apply Yh;clear Yh Y)));all_goals first|apply Hold.mk|omega|assumption|skip))
  (refine awp_ret ?_;simp[go_sem])
 rw [lock_chk hsu hlk] at C2
 have hnu := needsV_nu (lockV_parts hlk).2.2.1
 have KP := kept_spec s L gem hs hL.1
 have hks := suV_sz (kept_su hsu L.1 gem)
 have S1 := Solve_spec (keptV s L.1 gem) L.2.2 b hks hw hbr
 have S2 := Solve_spec s L.2.2 b hs hw hbr
 have LC := fun l hl => locked_spec s L.2.2 l hsu (by have := (nuV_parts hnu).1; omega) (nuV_nodup hnu) hl
 have hl1 := @solV_len (keptV s L.1 gem) L.2.2 b
 have hl2 := @solV_len s L.2.2 b
 rw [upd_val hsu hlk]
 unfold ofV
 generalize keptV s L.1 gem = ks at *
 generalize solV ks L.2.2 b = q1 at *
 generalize solV s L.2.2 b = q2 at *
 obtain ⟨l1, n1, e1⟩ := q1
 obtain ⟨l2, n2, e2⟩ := q2
 simp only at S1 S2 hl1 hl2 ⊢
 generalize hV : (if e1 = 3 then if e2 = 0 then ((l2, l2.map (ownV s), srtP L.2.2), 0) else (lk0, e2) else if e1 = 0 then ((l1, l1.map (ownV s), srtP L.2.2), 0) else (lk0, e1) : Lck × Nat) = V at *
 (refine awp_sr fun Y Yh=>?_;simp[go_sem];((repeat' (first|(refine ag_x ?_;simp[go_sem])|intro _|apply And.intro|(apply Yh;clear Yh Y)));all_goals first|apply Hold.mk|omega|assumption|skip))
 refine awp_frzbox 4 rfl rfl ?_
 simp only [go_sem]
 refine awp_frzbox 5 rfl rfl ?_
 simp only [go_sem]
 rename_i g8
 refine awp_seq_k fun K1 hK1 => ?_
 (refine awp_sr fun Y Yh=>?_;simp[go_sem];((repeat' (first|(refine ag_false ?_ ?_ ?_;(focus (simp[go_sem, undef];done));(focus (simp[go_sem];done));simp[go_sem])|(refine ag_true ?_ ?_;(focus (simp[go_sem, undef];done));simp[go_sem])|(refine ag_x ?_;simp[go_sem, undef])|intro _|apply And.intro|(apply Yh;clear Yh Y)));all_goals first|apply Hold.mk|omega|assumption|skip))
 ((try refine CallT.toA ?_);refine callT_m (.inl ⟨rfl,rfl⟩) (by simp[go_sem]) ?_;intro args ha;simp[go_sem] at ha;subst ha;refine ⟨_, C1, ?_⟩;rintro _ rfl;simp[go_sem];((repeat' (first|(refine ag_false ?_ ?_ ?_;(focus (simp[go_sem, undef];done));(focus (simp[go_sem];done));simp[go_sem])|(refine ag_true ?_ ?_;(focus (simp[go_sem, undef];done));simp[go_sem])|(refine ag_x ?_;simp[go_sem, undef])|intro _|apply And.intro|(apply Yh;clear Yh Y)));all_goals first|apply Hold.mk|omega|assumption|skip))
 ((try refine CallT.toA ?_);refine callT_m (.inl ⟨rfl,rfl⟩) (by simp[go_sem]) ?_;intro args ha;simp[go_sem] at ha;subst ha;refine ⟨_, C2, ?_⟩;rintro _ rfl;simp[go_sem];((repeat' (first|(refine ag_false ?_ ?_ ?_;(focus (simp[go_sem, undef];done));(focus (simp[go_sem];done));simp[go_sem])|(refine ag_true ?_ ?_;(focus (simp[go_sem, undef];done));simp[go_sem])|(refine ag_x ?_;simp[go_sem, undef])|intro _|apply And.intro|(apply Yh;clear Yh Y)));all_goals first|apply Hold.mk|omega|assumption|skip))
 (refine awp_if fun T F hT hF=>?_;simp[go_sem];refine hF ?_;clear hT hF T F)
 refine awp_skip ?_
 refine hK1 _ ?_; clear hK1
 ((refine awp_dr (.qs [2, 4, 6, 0, 1, 5] (.kp 3 (.kp 7 (.qs [8, 9, 10, 11, 12] (.nil))))) (by kernel_rfl) ?_ ?_ ?_ ?_);kernel_rfl;exact (by decide +kernel);kernel_rfl;intro Y Yh;((repeat' (first|(refine ag_x ?_;simp[go_sem])|refine adr_nil ?_|((first|refine adr_qs fun Y Yh=>?_|refine adr_y fun Y Yh=>?_);simp[go_sem])|intro _|apply And.intro|(apply Yh;clear Yh Y)));all_goals first|apply Hold.mk|omega|assumption|skip))
 ((try refine CallT.toA ?_);refine callT_m (.inl ⟨rfl,rfl⟩) (by simp[go_sem]) ?_;intro args ha;simp[go_sem] at ha;subst ha;refine ⟨_, KP, ?_⟩;rintro _ rfl;simp[go_sem];((repeat' (first|(refine ag_x ?_;simp[go_sem])|refine adr_nil ?_|((first|refine adr_qs fun Y Yh=>?_|refine adr_y fun Y Yh=>?_);simp[go_sem])|intro _|apply And.intro|(apply Yh;clear Yh Y)));all_goals first|apply Hold.mk|omega|assumption|skip))
 ((try refine CallT.toA ?_);refine callT_m (.inl ⟨rfl,rfl⟩) (by simp[go_sem]) ?_;intro args ha;simp[go_sem] at ha;subst ha;refine ⟨_, S1, ?_⟩;rintro _ rfl;simp[go_sem];((repeat' (first|(refine ag_x ?_;simp[go_sem])|refine adr_nil ?_|((first|refine adr_qs fun Y Yh=>?_|refine adr_y fun Y Yh=>?_);simp[go_sem])|intro _|apply And.intro|(apply Yh;clear Yh Y)));all_goals first|apply Hold.mk|omega|assumption|skip))
 refine awp_seq_k fun K2 hK2 => ?_
 have tl2 : ∀ S' l e, l.length ≤ 16 → V = (if e = 0 then ((l, l.map (ownV s), srtP L.2.2), 0) else (lk0, e)) → Cov S' ⟨[(4, .rd [dGms s]), (5, .rd [dPs L.1, dNs L.2.1, dPs L.2.2]), (8, .ptr 8 g8 0), (10, dPs l), (11, dI (e : Nat))], [(8, (g8, .box [.v (.slice none 0 0), .v (.slice none 0 0), .v (.slice none 0 0)]))]⟩ → K2 S' := fun S' l e hl he hS => by
  refine hK2 _ ?_; clear hK2
  rw [he]
  clear hV he
  refine awp_cov hS ?_; clear hS
  refine awp_seq_k fun K3 hK3 => ?_
  (refine awp_sr fun Y Yh=>?_;simp[go_sem];((repeat' (first|(refine ag_x ?_;simp[go_sem])|intro _|apply And.intro|(apply Yh;clear Yh Y)));all_goals first|apply Hold.mk|omega|assumption|skip))
  by_cases h0 : e = 0
  ·subst h0
   (refine awp_if fun T F hT hF=>?_;simp[go_sem];refine hF ?_;clear hT hF T F)
   refine awp_skip ?_
   refine hK3 _ ?_; clear hK3
   (refine awp_sr fun Y Yh=>?_;simp[go_sem];((repeat' (first|(refine ag_x ?_;simp[go_sem])|intro _|apply And.intro|(apply Yh;clear Yh Y)));all_goals first|apply Hold.mk|omega|assumption|skip))
   ((try refine CallT.toA ?_);refine callT_m (.inl ⟨rfl,rfl⟩) (by simp[go_sem]) ?_;intro args ha;simp[go_sem] at ha;subst ha;refine ⟨_, (LC l (by omega)), ?_⟩;rintro _ rfl;simp[go_sem];((repeat' (first|(refine ag_x ?_;simp[go_sem])|intro _|apply And.intro|(apply Yh;clear Yh Y)));all_goals first|apply Hold.mk|omega|assumption|skip))
   (refine awp_ret ?_;simp[go_sem])
  ·have h0i : ¬ (e : Int) = 0 := by omega
   rw [if_neg h0]
   (refine awp_if fun T F hT hF=>?_;simp[go_sem, h0, h0i];refine hT ?_;clear hT hF T F)
   (refine awp_sr fun Y Yh=>?_;simp[go_sem];((repeat' (first|(refine ag_x ?_;simp[go_sem])|intro _|apply And.intro|(apply Yh;clear Yh Y)));all_goals first|apply Hold.mk|omega|assumption|skip))
   (refine awp_ret ?_;simp[go_sem, h0])
 clear hK2
 (refine awp_sr fun Y Yh=>?_;simp[go_sem];((repeat' (first|(refine ag_x ?_;simp[go_sem])|intro _|apply And.intro|(apply Yh;clear Yh Y)));all_goals first|apply Hold.mk|omega|assumption|skip))
 by_cases h3 : e1 = 3
 ·subst h3
  (refine awp_if fun T F hT hF=>?_;simp[go_sem];refine hT ?_;clear hT hF T F)
  (refine awp_r fun Y Yh=>?_;simp[go_sem];((repeat' (first|(refine ag_x ?_;simp[go_sem])|intro _|apply And.intro|(apply Yh;clear Yh Y)));all_goals first|apply Hold.mk|omega|assumption|skip))
  ((try refine CallT.toA ?_);refine callT_m (.inl ⟨rfl,rfl⟩) (by simp[go_sem]) ?_;intro args ha;simp[go_sem] at ha;subst ha;refine ⟨_, S2, ?_⟩;rintro _ rfl;simp[go_sem];((repeat' (first|(refine ag_x ?_;simp[go_sem])|intro _|apply And.intro|(apply Yh;clear Yh Y)));all_goals first|apply Hold.mk|omega|assumption|skip))
  refine tl2 _ l2 e2 hl2 (by rw [← hV, if_pos rfl]) ?_
  (refine cov_of ?_ ?_ <;> simp[go_sem])
 ·have h3i : ¬ (e1 : Int) = 3 := by omega
  (refine awp_if fun T F hT hF=>?_;simp[go_sem, h3, h3i];refine hF ?_;clear hT hF T F)
  refine awp_skip ?_
  refine tl2 _ l1 e1 hl1 (by rw [← hV, if_neg h3]) ?_
  (refine cov_of ?_ ?_ <;> simp[go_sem])
end Go.Proofs.YteekfnhhlcmcgaaGreatDoor
namespace Go.Lk
open Go.Ver
/-! the example of chapter 12 -/
set_option maxRecDepth 100000
end Go.Lk
namespace Go.Proofs.YteekfnhhlcmcgaaGreatDoor
open Go.Eng Go.Wh Go.Ver Go.Lk
set_option maxRecDepth 20000
attribute [local irreducible] AG CallA CallT AWp PCall ACall AgC
theorem grOk_chk {s : Src} {w : List Prs} (h : GrOk s w) : chkV s w = true := by
 unfold chkV
 rw [grOk_su h, Bool.true_and, nuV_iff]
 obtain ⟨_, b, c⟩ := nuV_iff.1 h.wi
 exact ⟨by have := h.wl; omega, b, c⟩
theorem grOk_wz {s : Src} {w : List Prs} (h : GrOk s w) : SzN w := (chk_parts (grOk_chk h)).2.1
end Go.Proofs.YteekfnhhlcmcgaaGreatDoor
set_option maxRecDepth 20000
namespace Go.Lk
open Go.Lib Go.Wh Go.Ver
end Go.Lk
namespace Go.Proofs.YteekfnhhlcmcgaaGreatDoor
open Go.Eng Go.Wh Go.Ver Go.Lk
set_option maxRecDepth 20000
attribute [local irreducible] AG CallA CallT AWp PCall ACall AgC
end Go.Proofs.YteekfnhhlcmcgaaGreatDoor
namespace Go.Proofs.YteekfnhhlcmcgaaGreatDoor
open Go.Eng Go.Wh Go.Ver Go.RowKit Go.Lk
set_option maxRecDepth 20000
attribute [local irreducible] AG CallA CallT AWp PCall ACall AgC
theorem lkOk_of {L : Lck} (h : SzL L) : LkOk L := by
 obtain ⟨a, b, c⟩ := h
 exact ⟨a.1, b.1, c.1, fun x hx => a.2 x hx, fun r hr => ⟨(b.2 r hr).1, fun x hx => (b.2 r hr).2 x hx⟩, fun x hx => c.2 x hx⟩
end Go.Proofs.YteekfnhhlcmcgaaGreatDoor
set_option maxRecDepth 20000
namespace Go.Lk
open Go.Lib Go.Wh Go.Ver
theorem held_lock {s : Src} {L : Lck} (h : heldV s L = (true, 0)) : lockV L = true := by
 unfold heldV at h
 split at h
 ·rename_i q; exact q.2
 ·cases h
theorem ofV_sz {s : Src} {w : List Prs} {b : Int} : SzL (ofV s w b).1 := by
 by_cases h : (ofV s w b).2 = 0
 ·exact lockV_sz (ofV_ok h)
 ·have : (ofV s w b).1 = lk0 := by
   unfold ofV at h ⊢
   split
   ·rename_i q
    rw [if_pos q] at h
    exact absurd rfl h
   ·rfl
  rw [this]
  exact ⟨⟨by simp, by simp⟩, ⟨by simp, by simp⟩, ⟨by simp, by simp⟩⟩
theorem updV_sz {s : Src} {L : Lck} {gem : Bs} {b : Int} : SzL (updV s L gem b).1 := by
 unfold updV
 split
 ·split
  ·exact ofV_sz
  ·exact ofV_sz
 ·exact ⟨⟨by simp, by simp⟩, ⟨by simp, by simp⟩, ⟨by simp, by simp⟩⟩
end Go.Lk
namespace Go.Proofs.YteekfnhhlcmcgaaGreatDoor
open Go.Eng Go.Wh Go.Ver Go.Lk
set_option maxRecDepth 20000
attribute [local irreducible] AG CallA CallT AWp PCall ACall AgC
set_option maxHeartbeats 32000000 in
theorem lockKeeps_spec (a : List Int) (m : Int) (ha : a.length ≤ 9223372036854775807) (hm : InR m) : PCall Tryz.prog 12 [dIs a, dI m] fun r => r = dB true := by 
 refine pcall_of Tryz.func12 rfl rfl Tryz.ntmps12 (rs := [.tmp 4]) (tys := [4]) rfl rfl (by simp) ?_
 have G := rGrown_spec a ha
 (refine awp_sr fun Y Yh=>?_;simp[go_sem];((repeat' (first|(refine ag_x ?_;simp[go_sem])|intro _|apply And.intro|(apply Yh;clear Yh Y)));all_goals first|apply Hold.mk|omega|assumption|skip))
 (refine awp_sr fun Y Yh=>?_;simp[go_sem];((repeat' (first|(refine ag_x ?_;simp[go_sem])|intro _|apply And.intro|(apply Yh;clear Yh Y)));all_goals first|apply Hold.mk|omega|assumption|skip))
 ((try refine CallT.toA ?_);refine callT_m (.inl ⟨rfl,rfl⟩) (by simp[go_sem]) ?_;intro args ha;simp[go_sem] at ha;subst ha;refine ⟨_, G, ?_⟩;rintro _ ⟨s, w, hG, rfl⟩;simp[go_sem];((repeat' (first|(refine ag_x ?_;simp[go_sem])|intro _|apply And.intro|(apply Yh;clear Yh Y)));all_goals first|apply Hold.mk|omega|assumption|skip))
 have hc := grOk_chk hG
 have hsu := grOk_su hG
 have hs := suV_sz hsu
 have hw := grOk_wz hG
 refine awp_frzbox 5 rfl rfl ?_
 simp only [go_sem]
 (refine awp_sr fun Y Yh=>?_;simp[go_sem];((repeat' (first|(refine ag_x ?_;simp[go_sem])|intro _|apply And.intro|(apply Yh;clear Yh Y)));all_goals first|apply Hold.mk|omega|assumption|skip))
 ((try refine CallT.toA ?_);refine callT_m (.inl ⟨rfl,rfl⟩) (by simp[go_sem]) ?_;intro args ha;simp[go_sem] at ha;subst ha;refine ⟨_, (Back_spec s hs), ?_⟩;rintro _ rfl;simp[go_sem];((repeat' (first|(refine ag_x ?_;simp[go_sem])|intro _|apply And.intro|(apply Yh;clear Yh Y)));all_goals first|apply Hold.mk|omega|assumption|skip))
 refine awp_frzbox 7 rfl rfl ?_
 simp only [go_sem]
 have BK := back_spec w hw.1
 have OF := Of_spec s w 1000 hs hw (by constructor <;> decide)
 have hok := @ofV_ok s w 1000
 have hlz := @ofV_sz s w 1000
 have hlaw := fun name => @upd_law s w 1000 name (by decide) (by decide)
 have UP := fun L gem hL hw => Update_spec s L gem 1000 hs hL hw (by constructor <;> decide)
 generalize ofV s w 1000 = q at *
 obtain ⟨L, e⟩ := q
 simp only at OF hok hlz hlaw
 have hLk := lkOk_of hlz
 refine awp_seq_j (α := Nat) (fun g => ⟨[(1, dI m), (7, .rd [dGms s]), (8, .ptr 8 g 0), (9, dI e)], [(8, (g, .box [dPs L.1, dNs L.2.1, dPs L.2.2]))]⟩) (fun K2 hK2 hM2 => ?_) (fun g => ?_)
 ·((refine awp_d (.qs [1, 0] (.kp2 2 (.kp2 3 (.qs [4, 5, 6] (.kp 7 (.one 8 (.qs [9] (.nil))))) 7 (.kp 3 (.qs [4, 5, 6] (.one 8 (.qs [9] (.nil)))))) 7 (.kp 2 (.kp 3 (.qs [4, 5, 6] (.one 8 (.qs [9] (.nil)))))))) (by kernel_rfl) ?_ ?_ ?_ ?_);kernel_rfl;exact (by decide +kernel);kernel_rfl;intro Y Yh;((repeat' (first|(refine ag_x ?_;simp[go_sem])|refine adr_nil ?_|refine adr_kp2 ?_ ?_|((first|refine adr_qs fun Y Yh=>?_|refine adr_y fun Y Yh=>?_);simp[go_sem])|intro _|apply And.intro|(apply Yh;clear Yh Y)));all_goals first|apply Hold.mk|omega|assumption|skip))
  all_goals ((try refine CallT.toA ?_);refine callT_m (.inl ⟨rfl,rfl⟩) (by simp[go_sem]) ?_;intro args ha;simp[go_sem] at ha;subst ha;refine ⟨_, BK, ?_⟩;rintro _ rfl;simp[go_sem];((repeat' (first|(refine ag_x ?_;simp[go_sem])|refine adr_nil ?_|refine adr_kp2 ?_ ?_|((first|refine adr_qs fun Y Yh=>?_|refine adr_y fun Y Yh=>?_);simp[go_sem])|intro _|apply And.intro|(apply Yh;clear Yh Y)));all_goals first|apply Hold.mk|omega|assumption|skip))
  all_goals ((try refine CallT.toA ?_);refine callT_m (.inl ⟨rfl,rfl⟩) (by simp[go_sem]) ?_;intro args ha;simp[go_sem] at ha;subst ha;refine ⟨_, OF, ?_⟩;rintro _ rfl;simp[go_sem];((repeat' (first|(refine ag_x ?_;simp[go_sem])|refine adr_nil ?_|refine adr_kp2 ?_ ?_|((first|refine adr_qs fun Y Yh=>?_|refine adr_y fun Y Yh=>?_);simp[go_sem])|intro _|apply And.intro|(apply Yh;clear Yh Y)));all_goals first|apply Hold.mk|omega|assumption|skip))
  all_goals
   rename_i gq
   refine hK2 _ ?_
   refine hM2 gq _ ?_
   (refine cov_of ?_ ?_ <;> simp[go_sem])
 ·refine awp_frzbox 8 rfl rfl ?_
  simp only [go_sem]
  refine awp_seq_k fun K1 hK1 => ?_
  by_cases h0 : e = 0
  rotate_left
  ·have h0i : ¬ (e : Int) = 0 := by omega
   (refine awp_sr fun Y Yh=>?_;simp[go_sem, h0, h0i];((repeat' (first|(refine ag_false ?_ ?_ ?_;(focus (simp[go_sem, undef, h0, h0i];done));(focus (simp[go_sem];done));simp[go_sem, h0, h0i])|(refine ag_true ?_ ?_;(focus (simp[go_sem, undef, h0, h0i];done));simp[go_sem, h0, h0i])|(refine ag_x ?_;simp[go_sem, undef, h0, h0i])|intro _|apply And.intro|(apply Yh;clear Yh Y)));all_goals first|apply Hold.mk|omega|assumption|skip))
   (refine awp_if fun T F hT hF=>?_;simp[go_sem, h0, h0i];refine hT ?_;clear hT hF T F)
   (refine awp_sr fun Y Yh=>?_;simp[go_sem];((repeat' (first|(refine ag_x ?_;simp[go_sem])|intro _|apply And.intro|(apply Yh;clear Yh Y)));all_goals first|apply Hold.mk|omega|assumption|skip))
   ((try refine CallT.toA ?_);refine callT_m (.inl ⟨rfl,rfl⟩) (by simp[go_sem]) ?_;intro args ha;simp[go_sem] at ha;subst ha;refine ⟨_, sane13_spec, ?_⟩;rintro _ rfl;simp[go_sem];((repeat' (first|(refine ag_x ?_;simp[go_sem])|intro _|apply And.intro|(apply Yh;clear Yh Y)));all_goals first|apply Hold.mk|omega|assumption|skip))
   (refine awp_ret ?_;simp[go_sem])
  subst h0
  have hlk := hok rfl
  have hl60 := (lockV_parts hlk).1
  by_cases hp0 : L.1.length = 0
  ·have hpe : L.1 = [] := List.eq_nil_of_length_eq_zero hp0
   (refine awp_sr fun Y Yh=>?_;simp[go_sem, hp0, hpe];((repeat' (first|(refine ag_false ?_ ?_ ?_;(focus (simp[go_sem, undef, hp0, hpe];done));(focus (simp[go_sem];done));simp[go_sem, hp0, hpe])|(refine ag_true ?_ ?_;(focus (simp[go_sem, undef, hp0, hpe];done));simp[go_sem, hp0, hpe])|(refine ag_x ?_;simp[go_sem, undef, hp0, hpe])|intro _|apply And.intro|(apply Yh;clear Yh Y)));all_goals first|apply Hold.mk|omega|assumption|skip))
   (refine awp_if fun T F hT hF=>?_;simp[go_sem, hp0, hpe];refine hT ?_;clear hT hF T F)
   (refine awp_sr fun Y Yh=>?_;simp[go_sem];((repeat' (first|(refine ag_x ?_;simp[go_sem])|intro _|apply And.intro|(apply Yh;clear Yh Y)));all_goals first|apply Hold.mk|omega|assumption|skip))
   ((try refine CallT.toA ?_);refine callT_m (.inl ⟨rfl,rfl⟩) (by simp[go_sem]) ?_;intro args ha;simp[go_sem] at ha;subst ha;refine ⟨_, sane13_spec, ?_⟩;rintro _ rfl;simp[go_sem];((repeat' (first|(refine ag_x ?_;simp[go_sem])|intro _|apply And.intro|(apply Yh;clear Yh Y)));all_goals first|apply Hold.mk|omega|assumption|skip))
   (refine awp_ret ?_;simp[go_sem])
  have hp0i : ¬ (L.1.length : Int) = 0 := by omega
  have hpe : ¬ L.1 = [] := fun q => hp0 (by rw [q]; rfl)
  (refine awp_sr fun Y Yh=>?_;simp[go_sem, hp0, hp0i, hpe];((repeat' (first|(refine ag_false ?_ ?_ ?_;(focus (simp[go_sem, undef, hp0, hp0i, hpe];done));(focus (simp[go_sem];done));simp[go_sem, hp0, hp0i, hpe])|(refine ag_true ?_ ?_;(focus (simp[go_sem, undef, hp0, hp0i, hpe];done));simp[go_sem, hp0, hp0i, hpe])|(refine ag_x ?_;simp[go_sem, undef, hp0, hp0i, hpe])|intro _|apply And.intro|(apply Yh;clear Yh Y)));all_goals first|apply Hold.mk|omega|assumption|skip))
  (refine awp_if fun T F hT hF=>?_;simp[go_sem, hp0, hp0i, hpe];refine hF ?_;clear hT hF T F)
  refine awp_skip ?_
  refine hK1 _ ?_; clear hK1
  have w1 := unI_wrap m
  have w2 : IntKind.u64.wrap (L.1.length : Int) = L.1.length := by rw [IntKind.wrap_u64]; omega
  have hlt : unI m % L.1.length < L.1.length := Nat.mod_lt _ (by omega)
  have m0 : ((unI m : Nat) : Int).tmod (L.1.length : Int) = ((unI m % L.1.length : Nat) : Int) := by simp [Int.tmod_eq_emod_of_nonneg]
  generalize unI m % L.1.length = k at *
  obtain ⟨x, hx⟩ : ∃ x, L.1[k]? = some x := ⟨_, List.getElem?_eq_getElem hlt⟩
  obtain ⟨hl1, hl2⟩ := hlaw x.1 rfl
  have U1 := UP L x.1 hLk hlz.2.2
  have huz := @updV_sz s L x.1 1000
  generalize updV s L x.1 1000 = q at *
  obtain ⟨U, f⟩ := q
  simp only at U1 huz hl1 hl2
  ((refine awp_dr (.qs [0, 2, 3, 4, 1, 5, 6, 7, 8, 9, 10, 11, 12, 13] (.nil)) (by kernel_rfl) ?_ ?_ ?_ ?_);kernel_rfl;exact (by decide +kernel);kernel_rfl;intro Y Yh;((repeat' (first|(refine ag_x ?_;simp[go_sem, w1, w2, m0, hp0i, hpe, hx])|refine adr_nil ?_|((first|refine adr_qs fun Y Yh=>?_|refine adr_y fun Y Yh=>?_);simp[go_sem, w1, w2, m0, hp0i, hpe, hx])|intro _|apply And.intro|(apply Yh;clear Yh Y)));all_goals first|apply Hold.mk|omega|assumption|skip))
  (refine awp_sr fun Y Yh=>?_;simp[go_sem];((repeat' (first|(refine ag_x ?_;simp[go_sem])|intro _|apply And.intro|(apply Yh;clear Yh Y)));all_goals first|apply Hold.mk|omega|assumption|skip))
  ((try refine CallT.toA ?_);refine callT_m (.inl ⟨rfl,rfl⟩) (by simp[go_sem]) ?_;intro args ha;simp[go_sem] at ha;subst ha;refine ⟨_, U1, ?_⟩;rintro _ rfl;simp[go_sem];((repeat' (first|(refine ag_x ?_;simp[go_sem])|intro _|apply And.intro|(apply Yh;clear Yh Y)));all_goals first|apply Hold.mk|omega|assumption|skip))
  refine awp_frzbox 11 rfl rfl ?_
  simp only [go_sem]
  refine awp_seq_k fun K3 hK3 => ?_
  (refine awp_sr fun Y Yh=>?_;simp[go_sem];((repeat' (first|(refine ag_x ?_;simp[go_sem])|intro _|apply And.intro|(apply Yh;clear Yh Y)));all_goals first|apply Hold.mk|omega|assumption|skip))
  by_cases hf : f = 0
  rotate_left
  ·have hfi : ¬ (f : Int) = 0 := by omega
   have h12 : f = 12 := by omega
   subst h12
   (refine awp_if fun T F hT hF=>?_;simp[go_sem];refine hT ?_;clear hT hF T F)
   (refine awp_sr fun Y Yh=>?_;simp[go_sem];((repeat' (first|(refine ag_false ?_ ?_ ?_;(focus (simp[go_sem, undef];done));(focus (simp[go_sem];done));simp[go_sem])|(refine ag_true ?_ ?_;(focus (simp[go_sem, undef];done));simp[go_sem])|(refine ag_x ?_;simp[go_sem, undef])|intro _|apply And.intro|(apply Yh;clear Yh Y)));all_goals first|apply Hold.mk|omega|assumption|skip))
   ((try refine CallT.toA ?_);refine callT_m (.inl ⟨rfl,rfl⟩) (by simp[go_sem]) ?_;intro args ha;simp[go_sem] at ha;subst ha;refine ⟨_, sane13_spec, ?_⟩;rintro _ rfl;simp[go_sem];((repeat' (first|(refine ag_false ?_ ?_ ?_;(focus (simp[go_sem, undef];done));(focus (simp[go_sem];done));simp[go_sem])|(refine ag_true ?_ ?_;(focus (simp[go_sem, undef];done));simp[go_sem])|(refine ag_x ?_;simp[go_sem, undef])|intro _|apply And.intro|(apply Yh;clear Yh Y)));all_goals first|apply Hold.mk|omega|assumption|skip))
   (refine awp_ret ?_;simp[go_sem])
  subst hf
  (refine awp_if fun T F hT hF=>?_;simp[go_sem];refine hF ?_;clear hT hF T F)
  refine awp_skip ?_
  refine hK3 _ ?_; clear hK3
  obtain ⟨hh, hkeep⟩ := hl2 rfl
  have HO := Holds_spec s U hs (lkOk_of huz) huz.2.2
  rw [hh] at HO
  simp only at HO
  have hU60 := (lockV_parts (held_lock hh)).1
  (refine awp_sr fun Y Yh=>?_;simp[go_sem];((repeat' (first|(refine ag_x ?_;simp[go_sem])|intro _|apply And.intro|(apply Yh;clear Yh Y)));all_goals first|apply Hold.mk|omega|assumption|skip))
  ((try refine CallT.toA ?_);refine callT_m (.inl ⟨rfl,rfl⟩) (by simp[go_sem]) ?_;intro args ha;simp[go_sem] at ha;subst ha;refine ⟨_, HO, ?_⟩;rintro _ rfl;simp[go_sem];((repeat' (first|(refine ag_x ?_;simp[go_sem])|intro _|apply And.intro|(apply Yh;clear Yh Y)));all_goals first|apply Hold.mk|omega|assumption|skip))
  refine awp_seq_k fun K5 hK5 => ?_
  (refine awp_sr fun Y Yh=>?_;simp[go_sem];((repeat' (first|(refine ag_false ?_ ?_ ?_;(focus (simp[go_sem, undef];done));(focus (simp[go_sem];done));simp[go_sem])|(refine ag_true ?_ ?_;(focus (simp[go_sem, undef];done));simp[go_sem])|(refine ag_x ?_;simp[go_sem, undef])|intro _|apply And.intro|(apply Yh;clear Yh Y)));all_goals first|apply Hold.mk|omega|assumption|skip))
  (refine awp_if fun T F hT hF=>?_;simp[go_sem];refine hF ?_;clear hT hF T F)
  refine awp_skip ?_
  refine hK5 _ ?_; clear hK5
  refine awp_seq_k fun K7 hK7 => ?_
  (refine awp_sr fun Y Yh=>?_;simp[go_sem];((repeat' (first|(refine ag_x ?_;simp[go_sem])|intro _|apply And.intro|(apply Yh;clear Yh Y)));all_goals first|apply Hold.mk|omega|assumption|skip))
  refine awp_block ?_
  refine awp_loop (σ := Nat) (fun i => ⟨[(8, .rd [dPs L.1, dNs L.2.1, dPs L.2.2]), (10, dS x.1), (11, .rd [dPs U.1, dNs U.2.1, dPs U.2.2]), (15, dI i)], []⟩) (fun i => i ≤ U.1.length) (fun i => U.1.length - i) 0 ?_ ?_ ?_
  ·(refine cov_of ?_ ?_ <;> simp[go_sem])
  ·simp
  rintro i hi
  refine awp_seq_k fun K8 hK8 => ?_
  (refine awp_sr fun Y Yh=>?_;simp[go_sem];((repeat' (first|(refine ag_x ?_;simp[go_sem])|intro _|apply And.intro|(apply Yh;clear Yh Y)));all_goals first|apply Hold.mk|omega|assumption|skip))
  (refine awp_if fun T F hT hF=>?_;simp[go_sem];refine BR.intro (fun h9=>hT ?_) (fun h9=>hF ?_);all_goals clear hT hF T F;try simp at h9)
  ·refine awp_skip ?_
   refine hK8 _ ?_; clear hK8
   obtain ⟨u, hu⟩ : ∃ u, U.1[i]? = some u := ⟨_, List.getElem?_eq_getElem (by omega)⟩
   have hk1 := hkeep u (List.mem_of_getElem? hu)
   refine awp_seq_k fun K10 hK10 => ?_
   refine awp_block ?_
   (refine awp_sr fun Y Yh=>?_;simp[go_sem];((repeat' (first|(refine ag_x ?_;simp[go_sem])|intro _|apply And.intro|(apply Yh;clear Yh Y)));all_goals first|apply Hold.mk|omega|assumption|skip))
   refine awp_block ?_
   refine awp_loop (σ := Nat) (fun k => ⟨[(8, .rd [dPs L.1, dNs L.2.1, dPs L.2.2]), (10, dS x.1), (11, .rd [dPs U.1, dNs U.2.1, dPs U.2.2]), (15, dI i), (16, dI k)], []⟩) (fun k => k ≤ L.1.length) (fun k => L.1.length - k) 0 ?_ ?_ ?_
   ·(refine cov_of ?_ ?_ <;> simp[go_sem])
   ·simp
   rintro j hj
   refine awp_seq_k fun K11 hK11 => ?_
   (refine awp_sr fun Y Yh=>?_;simp[go_sem];((repeat' (first|(refine ag_x ?_;simp[go_sem])|intro _|apply And.intro|(apply Yh;clear Yh Y)));all_goals first|apply Hold.mk|omega|assumption|skip))
   (refine awp_if fun T F hT hF=>?_;simp[go_sem];refine BR.intro (fun h12=>hT ?_) (fun h12=>hF ?_);all_goals clear hT hF T F;try simp at h12)
   ·refine awp_skip ?_
    refine hK11 _ ?_; clear hK11
    obtain ⟨y, hy⟩ : ∃ y, L.1[j]? = some y := ⟨_, List.getElem?_eq_getElem (by omega)⟩
    have hk2 := hk1 y (List.mem_of_getElem? hy)
    refine awp_seq_k fun K13 hK13 => ?_
    have tl : ∀ S', Cov S' ⟨[(8, .rd [dPs L.1, dNs L.2.1, dPs L.2.2]), (10, dS x.1), (11, .rd [dPs U.1, dNs U.2.1, dPs U.2.2]), (15, dI i), (16, dI j)], []⟩ → K13 S' := fun S' hS => by
     refine hK13 _ ?_; clear hK13
     refine awp_cov hS ?_; clear hS
     (refine awp_r fun Y Yh=>?_;simp[go_sem];((repeat' (first|(refine ag_x ?_;simp[go_sem])|intro _|apply And.intro|(apply Yh;clear Yh Y)));all_goals first|apply Hold.mk|omega|assumption|skip))
     refine ⟨j + 1, ?_, by omega, by omega⟩
     (refine cov_of ?_ ?_ <;> simp[go_sem])
    clear hK13
    refine awp_block ?_
    by_cases e1 : u.1 = y.1
    ·by_cases e2 : u.1 = x.1
     ·have e3 : y.1 = x.1 := e1.symm.trans e2
      ((refine awp_dr (.qs [0, 2, 6, 8, 1, 3, 4, 5, 7, 9, 10, 11, 12, 13, 14, 16, 20, 15, 17, 18, 19, 21, 22, 23] (.sk 24 (.sk 26 (.sk 30 (.sk 32 (.sk 25 (.sk 27 (.sk 28 (.sk 29 (.sk 31 (.sk 33 (.sk 34 (.sk 35 (.sk 36 (.qs [37] (.nil)))))))))))))))) (by kernel_rfl) ?_ ?_ ?_ ?_);kernel_rfl;exact (by decide +kernel);kernel_rfl;intro Y Yh;((repeat' (first|(refine ag_x ?_;simp[go_sem, hu, hy, e1, e3, undef])|refine adr_nil ?_|((first|refine adr_qs fun Y Yh=>?_|refine adr_y fun Y Yh=>?_);simp[go_sem, hu, hy, e1, e3, undef])|intro _|apply And.intro|(apply Yh;clear Yh Y)));all_goals first|apply Hold.mk|omega|assumption|skip))
      (refine awp_if fun T F hT hF=>?_;simp[go_sem, e3];refine hF ?_;clear hT hF T F)
      refine awp_skip ?_
      refine tl _ ?_
      (refine cov_of ?_ ?_ <;> simp[go_sem])
     ·have e2b : (u.1 == x.1) = false := by simp [e2]
      have e4 := hk2 e1 e2
      have e1s := e1.symm
      ((refine awp_dr (.qs [0, 2, 6, 8, 1, 3, 4, 5, 7, 9, 10, 11, 12, 13, 14, 16, 20, 15, 17, 18, 19, 21, 22, 23, 24, 26, 30, 32, 25, 27, 28, 29, 31, 33, 34, 35, 36, 37] (.nil)) (by kernel_rfl) ?_ ?_ ?_ ?_);kernel_rfl;exact (by decide +kernel);kernel_rfl;intro Y Yh;((repeat' (first|(refine ag_x ?_;simp[go_sem, hu, hy, e1s, e2, e2b, e4])|refine adr_nil ?_|((first|refine adr_qs fun Y Yh=>?_|refine adr_y fun Y Yh=>?_);simp[go_sem, hu, hy, e1s, e2, e2b, e4])|intro _|apply And.intro|(apply Yh;clear Yh Y)));all_goals first|apply Hold.mk|omega|assumption|skip))
      (refine awp_if fun T F hT hF=>?_;simp[go_sem, e4];refine hF ?_;clear hT hF T F)
      refine awp_skip ?_
      refine tl _ ?_
      (refine cov_of ?_ ?_ <;> simp[go_sem])
    ·have e1b : (u.1 == y.1) = false := by simp [e1]
     ((refine awp_dr (.qs [0, 2, 6, 8, 1, 3, 4, 5, 7, 9, 10, 11, 12, 13] (.sk 14 (.sk 16 (.sk 20 (.sk 15 (.sk 17 (.sk 18 (.sk 19 (.sk 21 (.qs [22, 23] (.sk 24 (.sk 26 (.sk 30 (.sk 32 (.sk 25 (.sk 27 (.sk 28 (.sk 29 (.sk 31 (.sk 33 (.sk 34 (.sk 35 (.sk 36 (.qs [37] (.nil))))))))))))))))))))))))) (by kernel_rfl) ?_ ?_ ?_ ?_);kernel_rfl;exact (by decide +kernel);kernel_rfl;intro Y Yh;((repeat' (first|(refine ag_x ?_;simp[go_sem, hu, hy, e1, e1b, undef])|refine adr_nil ?_|((first|refine adr_qs fun Y Yh=>?_|refine adr_y fun Y Yh=>?_);simp[go_sem, hu, hy, e1, e1b, undef])|intro _|apply And.intro|(apply Yh;clear Yh Y)));all_goals first|apply Hold.mk|omega|assumption|skip))
     (refine awp_if fun T F hT hF=>?_;simp[go_sem];refine hF ?_;clear hT hF T F)
     refine awp_skip ?_
     refine tl _ ?_
     (refine cov_of ?_ ?_ <;> simp[go_sem])
   ·refine awp_exit ?_
    simp only [go_sem]
    refine hK10 _ ?_; clear hK10
    (refine awp_r fun Y Yh=>?_;simp[go_sem];((repeat' (first|(refine ag_x ?_;simp[go_sem])|intro _|apply And.intro|(apply Yh;clear Yh Y)));all_goals first|apply Hold.mk|omega|assumption|skip))
    refine ⟨i + 1, ?_, by omega, by omega⟩
    (refine cov_of ?_ ?_ <;> simp[go_sem])
  ·refine awp_exit ?_
   simp only [go_sem]
   refine hK7 _ ?_; clear hK7
   (refine awp_sr fun Y Yh=>?_;simp[go_sem];((repeat' (first|(refine ag_x ?_;simp[go_sem])|intro _|apply And.intro|(apply Yh;clear Yh Y)));all_goals first|apply Hold.mk|omega|assumption|skip))
   ((try refine CallT.toA ?_);refine callT_m (.inl ⟨rfl,rfl⟩) (by simp[go_sem]) ?_;intro args ha;simp[go_sem] at ha;subst ha;refine ⟨_, sane13_spec, ?_⟩;rintro _ rfl;simp[go_sem];((repeat' (first|(refine ag_x ?_;simp[go_sem])|intro _|apply And.intro|(apply Yh;clear Yh Y)));all_goals first|apply Hold.mk|omega|assumption|skip))
   (refine awp_ret ?_;simp[go_sem])
end Go.Proofs.YteekfnhhlcmcgaaGreatDoor
