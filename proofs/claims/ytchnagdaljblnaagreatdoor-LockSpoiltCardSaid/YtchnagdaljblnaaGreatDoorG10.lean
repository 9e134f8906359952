/- Part of a proof: see the last text. -/
import Derived.Test.YtchnagdaljblnaaGreatDoorG09
import Derived.Test.YtchnagdaljblnaaGreatDoorG08
import Derived.Test.YtchnagdaljblnaaGreatDoorG05
import Derived.Test.YtchnagdaljblnaaGreatDoorG04
import Derived.Lib.FrozenHead2
import Derived.Shelf.RegionOpenPlain
import Derived.Test.YtchnagdaljblnaaGreatDoorG07
import Derived.Lib.ItoaLen
set_option linter.unusedVariables false
set_option linter.unusedSimpArgs false
namespace Go.Proofs.YtchnagdaljblnaaGreatDoor
open Go.Eng Go.Wh Go.Ver Go.RowKit Go.Lk
set_option maxRecDepth 20000
attribute [local irreducible] AG CallA CallT AWp PCall ACall AgC
def gnmL : List Bs := [[97], [98], [99, 49], [100, 45, 101], [102]]
def numL : List Bs := [[49, 46, 48], [49, 46, 53], [50, 46, 48], [50, 46, 49, 46, 97], [51]]
structure GrOk (s : Src) (w : List Prs) : Prop where
 nm : s.map (·.1) = gnmL
 vs : ∀ g ∈ s, vuV g.2 = true ∧ g.2.length ≤ 4
 wi : nuV 10 w = true
 wl : w.length ≤ 3
theorem grOk_su {s : Src} {w : List Prs} (h : GrOk s w) : suV s = true := by
 have hl : s.length = 5 := by have := congrArg List.length h.nm; simpa [gnmL] using this
 unfold suV
 rw [Bool.and_eq_true]
 refine ⟨by simp [hl], upTo_of fun i hi => ?_⟩
 obtain ⟨g, hg⟩ : ∃ g, s[i]? = some g := ⟨_, List.getElem?_eq_getElem hi⟩
 have hgn : gnmL[i]? = some g.1 := by rw [← h.nm, List.getElem?_map, hg]; rfl
 have hv := (h.vs g (List.mem_of_getElem? hg)).1
 unfold suAt
 rw [hg]
 simp only [hv, Bool.and_true]
 have hn : nameV g.1 = true := (by decide : ∀ y ∈ gnmL, nameV y = true) g.1 (List.mem_of_getElem? hgn)
 rw [hn, Bool.true_and]
 by_cases h0 : i = 0
 ·simp [h0]
 ·obtain ⟨y, hy⟩ : ∃ y, s[i - 1]? = some y := ⟨_, List.getElem?_eq_getElem (by omega)⟩
  have hyn : gnmL[i - 1]? = some y.1 := by rw [← h.nm, List.getElem?_map, hy]; rfl
  rw [hy]
  simp only [h0, decide_false, Bool.false_or]
  have hi5 : i < 5 := by omega
  have key : ∀ i, i < 5 → i ≠ 0 → ∀ a b, gnmL[i - 1]? = some a → gnmL[i]? = some b → Op.bytesLess a b = true := by
   intro i hi h0 a b ha hb
   match i, hi, h0 with
   | 1, _, _ => simp [gnmL] at ha hb; subst ha hb; decide
   | 2, _, _ => simp [gnmL] at ha hb; subst ha hb; decide
   | 3, _, _ => simp [gnmL] at ha hb; subst ha hb; decide
   | 4, _, _ => simp [gnmL] at ha hb; subst ha hb; decide
   | 0, _, h0 => exact absurd rfl h0
   | n + 5, h, _ => omega
  exact key i hi5 h0 _ _ hyn hgn
set_option maxHeartbeats 32000000 in
theorem rGrown_spec (l : List Int) (hl : l.length ≤ 9223372036854775807) : PCall Tryz.prog 24 [dIs l] fun r => ∃ s w, GrOk s w ∧ r = .tup [dSrc s, dPs w] := by 
 refine pcall_of Tryz.func24 rfl rfl Tryz.ntmps24 (rs := [.cell 2 64, .tmp 3]) (tys := [64, 32]) rfl rfl (by simp) ?_
 have PK := fun a n g ha hn hn2 => pick_spec l a n g hl ha hn hn2
 have GN := fun a m g ha hm => gneeds_spec l a m g hl ha hm
 (refine awp_sr fun Y hY => ?_; simp [go_sem]; ((repeat' (first|(refine ag_x ?_;simp [go_sem])|intro _|apply And.intro|(apply hY;clear hY Y)));all_goals first|apply Hold.mk|omega|with_reducible assumption|skip))
 rename_i g2
 (refine awp_sr fun Y hY => ?_; simp [go_sem]; ((repeat' (first|(refine ag_x ?_;simp [go_sem])|intro _|apply And.intro|(apply hY;clear hY Y)));all_goals first|apply Hold.mk|omega|with_reducible assumption|skip))
 refine awp_renbox 4 900002 rfl rfl (by decide) fun g4 => ?_
 simp only [go_sem]
 (refine awp_sr fun Y hY => ?_; simp [go_sem]; ((repeat' (first|(refine ag_x ?_;simp [go_sem])|intro _|apply And.intro|(apply hY;clear hY Y)));all_goals first|apply Hold.mk|omega|with_reducible assumption|skip))
 rename_i g5
 refine awp_nilbox 900011 97 2 0 (sb := 5) rfl rfl (by decide) fun gs => ?_
 simp only [List.set, go_sem]
 (refine awp_sr fun Y hY => ?_; simp [go_sem]; ((repeat' (first|(refine ag_x ?_;simp [go_sem])|intro _|apply And.intro|(apply hY;clear hY Y)));all_goals first|apply Hold.mk|omega|with_reducible assumption|skip))
 refine awp_frzrow 6 rfl rfl ?_
 simp only [go_sem]
 refine awp_seq_k fun K1 hK1 => ?_
 (refine awp_sr fun Y hY => ?_; simp [go_sem]; ((repeat' (first|(refine ag_x ?_;simp [go_sem])|intro _|apply And.intro|(apply hY;clear hY Y)));all_goals first|apply Hold.mk|omega|with_reducible assumption|skip))
 refine awp_block ?_
 refine awp_loop (σ := Nat × Nat × Src × Nat) (fun x => ⟨[(0, dIs l), (2, .ptr 2 g2 0), (4, .ptr 900002 g4 0), (5, .ptr 5 g5 0), (6, dSs gnmL), (7, dI x.1)], [(2, (g2, .box [.v (.slice none 0 0)])), (900002, (g4, .box [dIs l, dI x.2.1])), (5, (g5, .box [.own 900011 x.2.2.2])), (900011, (x.2.2.2, .row 97 2 (x.2.2.1.map cGm)))]⟩)
  (fun x => x.1 ≤ 5 ∧ x.2.1 ≤ l.length ∧ x.2.2.1.map (·.1) = gnmL.take x.1 ∧ ∀ g ∈ x.2.2.1, vuV g.2 = true ∧ g.2.length ≤ 4) (fun x => 5 - x.1) (0, 0, [], gs) ?_ ?_ ?_
 ·(refine cov_of ?_ ?_ <;> simp [go_sem, gnmL])
 ·simp
 rintro ⟨i, a, s, gs⟩ ⟨hi, ha, hsn, hsv⟩
 simp only at hi ha hsn hsv
 have hsl : s.length = i := by have := congrArg List.length hsn; simp [gnmL] at this; omega
 refine awp_seq_k fun K2 hK2 => ?_
 (refine awp_sr fun Y hY => ?_; simp [go_sem]; ((repeat' (first|(refine ag_x ?_;simp [go_sem])|intro _|apply And.intro|(apply hY;clear hY Y)));all_goals first|apply Hold.mk|omega|with_reducible assumption|skip))
 (refine awp_if fun T F hT hF => ?_; simp [go_sem]; refine BR.intro (fun h3 => hT ?_) (fun h3 => hF ?_); all_goals clear hT hF T F; try simp at h3)
 ·refine awp_skip ?_
  refine hK2 _ ?_; clear hK2
  obtain ⟨nm, hnm, hnmm⟩ := lit_at gnmL (k := i) (by simp [gnmL]; omega)
  have r0 : (gnmL.map cS)[i]? = some (cS nm) := by rw [List.getElem?_map, hnm]; rfl
  refine awp_seq_k fun K4 hK4 => ?_
  refine awp_block ?_
  (refine awp_sr fun Y hY => ?_; simp [go_sem, hnm]; ((repeat' (first|(refine ag_x ?_;simp [go_sem, hnm])|intro _|apply And.intro|(apply hY;clear hY Y)));all_goals first|apply Hold.mk|omega|with_reducible assumption|skip))
  rename_i g8
  refine awp_nilbox 900010 99 2 1 (sb := 8) rfl rfl (by decide) fun gv => ?_
  simp only [List.set, go_sem]
  have P1 := PK a 4 g4 ha (by decide) (by decide)
  have hk1 := pickK_lt (l := l) (a := a) (n := 4) (by decide)
  have ha1 := pickA_le ha
  generalize pickK l a 4 = k1 at *
  generalize pickA l a = a1 at *
  refine awp_seq_k fun K5 hK5 => ?_
  (refine awp_sr fun Y hY => ?_; simp [go_sem]; ((repeat' (first|(refine ag_x ?_;simp [go_sem])|intro _|apply And.intro|(apply hY;clear hY Y)));all_goals first|apply Hold.mk|omega|with_reducible assumption|skip))
  (refine callA_l [900002] (.inl ⟨rfl,rfl⟩) (by simp [go_sem]) ?_; intro args ha; simp [go_sem] at ha; subst ha; refine ⟨_, _, P1, (by simp [go_sem]), ?_⟩; rintro ps r hps ⟨rfl, rfl⟩; simp [go_sem]; ((repeat' (first|(refine ag_x ?_;simp [go_sem])|intro _|apply And.intro|(apply hY;clear hY Y)));all_goals first|apply Hold.mk|omega|with_reducible assumption|skip))
  refine awp_block ?_
  refine awp_loop (σ := Nat × Nat × List Vrs × Nat) (fun x => ⟨[(0, dIs l), (2, .ptr 2 g2 0), (4, .ptr 900002 g4 0), (5, .ptr 5 g5 0), (6, dSs gnmL), (7, dI i), (8, .ptr 8 g8 0), (9, dI ((x.1 : Int) - 1))], [(2, (g2, .box [.v (.slice none 0 0)])), (900002, (g4, .box [dIs l, dI x.2.1])), (5, (g5, .box [.own 900011 gs])), (900011, (gs, .row 97 2 (s.map cGm))), (8, (g8, .box [dS nm, .own 900010 x.2.2.2])), (900010, (x.2.2.2, .row 99 2 (x.2.2.1.map cVr)))]⟩)
   (fun x => x.2.1 ≤ l.length ∧ vuV x.2.2.1 = true ∧ x.2.2.1.length + x.1 ≤ 4) (fun x => x.1) (k1 + 1, a1, [], gv) ?_ ?_ ?_
  ·(refine cov_of ?_ ?_ <;> simp [go_sem])
   try omega
  ·exact ⟨ha1, rfl, by simp; omega⟩
  rintro ⟨q, a, vs, gv⟩ ⟨ha, hvu, hvl⟩
  simp only at ha hvu hvl
  have tl5 : ∀ S', Cov S' ⟨[(0, dIs l), (2, .ptr 2 g2 0), (4, .ptr 900002 g4 0), (5, .ptr 5 g5 0), (6, dSs gnmL), (7, dI i), (8, .ptr 8 g8 0)], [(2, (g2, .box [.v (.slice none 0 0)])), (900002, (g4, .box [dIs l, dI a])), (5, (g5, .box [.own 900011 gs])), (900011, (gs, .row 97 2 (s.map cGm))), (8, (g8, .box [dS nm, .own 900010 gv])), (900010, (gv, .row 99 2 (vs.map cVr)))]⟩ → K5 S' := fun S' hS => by
   refine hK5 _ ?_; clear hK5
   refine awp_cov hS ?_; clear hS
   (refine awp_r fun Y hY => ?_; simp [go_sem]; ((repeat' (first|(refine ag_x ?_;simp [go_sem])|intro _|apply And.intro|(apply hY;clear hY Y)));all_goals first|apply Hold.mk|omega|with_reducible assumption|skip))
   refine hK4 _ ?_; clear hK4
   (refine awp_r fun Y hY => ?_; simp [go_sem]; ((repeat' (first|(refine ag_x ?_;simp [go_sem])|intro _|apply And.intro|(apply hY;clear hY Y)));all_goals first|apply Hold.mk|omega|with_reducible assumption|skip))
   rename_i g' g''
   refine ⟨(i + 1, a, s ++ [(nm, vs)], g''), ?_, ⟨by simp only; omega, ha, ?_, ?_⟩, by simp only; omega⟩
   ·(refine cov_of ?_ ?_ <;> simp [go_sem])
   ·rw [List.map_append, hsn, List.take_add_one, hnm]; rfl
   ·intro g hg
    rcases List.mem_append.1 hg with h | h
    ·exact hsv g h
    ·simp at h; subst h; exact ⟨hvu, by show vs.length ≤ 4; omega⟩
  clear hK5 hK4
  refine awp_seq_k fun K6 hK6 => ?_
  cases q with
  | zero =>
   (refine awp_sr fun Y hY => ?_; simp [go_sem]; ((repeat' (first|(refine ag_false ?_ ?_ ?_;(focus (simp [go_sem, undef];done));(focus (simp [go_sem];done));simp [go_sem])|(refine ag_true ?_ ?_;(focus (simp [go_sem, undef];done));simp [go_sem])|(refine ag_x ?_;simp [go_sem, undef])|intro _|apply And.intro|(apply hY;clear hY Y)));all_goals first|apply Hold.mk|omega|with_reducible assumption|skip))
   (refine awp_if fun T F hT hF => ?_; simp [go_sem]; refine hF ?_; clear hT hF T F)
   refine awp_exit ?_
   simp only [go_sem]
   refine tl5 _ ?_
   (refine cov_of ?_ ?_ <;> simp [go_sem])
  | succ q =>
   have hq0 : (0 : Int) ≤ (q : Int) + 1 - 1 := by omega
   have hqe : (q : Int) + 1 - 1 = q := by omega
   by_cases hal : a < l.length
   ·have hali : (a : Int) < l.length := by omega
    (refine awp_sr fun Y hY => ?_; simp [go_sem, hq0, hqe, hal, hali]; ((repeat' (first|(refine ag_x ?_;simp [go_sem, hq0, hqe, hal, hali])|intro _|apply And.intro|(apply hY;clear hY Y)));all_goals first|apply Hold.mk|omega|with_reducible assumption|skip))
    (refine awp_if fun T F hT hF => ?_; simp [go_sem, hq0, hqe, hal, hali]; refine hT ?_; clear hT hF T F)
    refine awp_skip ?_
    refine hK6 _ ?_; clear hK6
    refine awp_seq_j (α := {x : Nat × List Vrs × Nat // x.1 ≤ l.length ∧ vuV x.2.1 = true ∧ x.2.1.length + q ≤ 4}) (fun x => ⟨[(0, dIs l), (2, .ptr 2 g2 0), (4, .ptr 900002 g4 0), (5, .ptr 5 g5 0), (6, dSs gnmL), (7, dI i), (8, .ptr 8 g8 0), (9, dI q)], [(2, (g2, .box [.v (.slice none 0 0)])), (900002, (g4, .box [dIs l, dI x.1.1])), (5, (g5, .box [.own 900011 gs])), (900011, (gs, .row 97 2 (s.map cGm))), (8, (g8, .box [dS nm, .own 900010 x.1.2.2])), (900010, (x.1.2.2, .row 99 2 (x.1.2.1.map cVr)))]⟩) (fun K8 hK8 hM8 => ?_) (fun x => ?_)
    rotate_left
    ·obtain ⟨⟨a', vs', g'⟩, h1, h2, h3'⟩ := x
     simp only at h1 h2 h3'
     (refine awp_r fun Y hY => ?_; simp [go_sem]; ((repeat' (first|(refine ag_x ?_;simp [go_sem])|intro _|apply And.intro|(apply hY;clear hY Y)));all_goals first|apply Hold.mk|omega|with_reducible assumption|skip))
     refine ⟨(q, a', vs', g'), ?_, ⟨h1, h2, by simp only; omega⟩, by simp⟩
     (refine cov_of ?_ ?_ <;> simp [go_sem])
    have P2 := PK a 5 g4 ha (by decide) (by decide)
    have hk2 := pickK_lt (l := l) (a := a) (n := 5) (by decide)
    have ha2 := pickA_le ha
    generalize pickK l a 5 = k2 at *
    generalize pickA l a = a2 at *
    have N2 := GN a2 2 g4 ha2 (by decide)
    obtain ⟨num, hnum, hnumm⟩ := lit_at numL (k := k2) hk2
    have hnl : num.length ≤ 20 := (by decide : ∀ y ∈ numL, y.length ≤ 20) num hnumm
    have r1 : ([[dS [49, 46, 48]], [dS [49, 46, 53]], [dS [50, 46, 48]], [dS [50, 46, 49, 46, 97]], [dS [51]]] : List (List D))[k2]? = some [dS num] := by
     have : (numL.map cS)[k2]? = some (cS num) := by rw [List.getElem?_map, hnum]; rfl
     exact this
    refine awp_block ?_
    refine awp_seq_j (α := {x : Nat × List Prs // x.1 ≤ l.length ∧ nuV 10 x.2 = true ∧ x.2.length ≤ 2}) (fun x => ⟨[(0, dIs l), (2, .ptr 2 g2 0), (4, .ptr 900002 g4 0), (5, .ptr 5 g5 0), (6, dSs gnmL), (7, dI i), (8, .ptr 8 g8 0), (9, dI q), (10, .rd [dS num, dPs x.1.2])], [(2, (g2, .box [.v (.slice none 0 0)])), (900002, (g4, .box [dIs l, dI x.1.1])), (5, (g5, .box [.own 900011 gs])), (900011, (gs, .row 97 2 (s.map cGm))), (8, (g8, .box [dS nm, .own 900010 gv])), (900010, (gv, .row 99 2 (vs.map cVr)))]⟩) (fun K9 hK9 hM9 => ?_) (fun x => ?_)
    ·((refine awp_d (.qs [1, 5] (.three 0 (.two 2 (.qs [3] (.three 4 (.two 6 (.qs [7] (.kp 8 (.one 9 (.nil)))) 8 (.one 6 (.qs [7] (.one 9 (.nil))))) 6 (.qs [4, 7] (.kp 8 (.one 9 (.nil)))) 8 (.kq 4 (.one 6 (.qs [7] (.one 9 (.nil)))) 6 (.qs [4, 7] (.one 9 (.nil)))))) 8 (.one 2 (.qs [3] (.kq 4 (.one 6 (.qs [7] (.one 9 (.nil)))) 6 (.qs [4, 7] (.one 9 (.nil))))))) 2 (.three 0 (.qs [3] (.three 4 (.two 6 (.qs [7] (.kp 8 (.one 9 (.nil)))) 8 (.one 6 (.qs [7] (.one 9 (.nil))))) 6 (.qs [4, 7] (.kp 8 (.one 9 (.nil)))) 8 (.kq 4 (.one 6 (.qs [7] (.one 9 (.nil)))) 6 (.qs [4, 7] (.one 9 (.nil)))))) 6 (.kp2 0 (.qs [3] (.nb (.qs [4, 7] (.kp 8 (.one 9 (.nil)))))) 8 (.kp 0 (.qs [3] (.nb (.qs [4, 7] (.one 9 (.nil))))))) 8 (.two 0 (.qs [3] (.kq 4 (.one 6 (.qs [7] (.one 9 (.nil)))) 6 (.qs [4, 7] (.one 9 (.nil))))) 6 (.one 0 (.qs [3, 4, 7] (.one 9 (.nil)))))) 8 (.two 0 (.one 2 (.qs [3] (.kq 4 (.one 6 (.qs [7] (.one 9 (.nil)))) 6 (.qs [4, 7] (.one 9 (.nil)))))) 2 (.two 0 (.qs [3] (.kq 4 (.one 6 (.qs [7] (.one 9 (.nil)))) 6 (.qs [4, 7] (.one 9 (.nil))))) 6 (.one 0 (.qs [3, 4, 7] (.one 9 (.nil)))))))) (by kernel_rfl) ?_ ?_ ?_ ?_); (kernel_rfl); (exact (by decide +kernel)); (kernel_rfl); intro Y hY; ((repeat' (first|(refine ag_x ?_;simp [go_sem, r1, hqe])|refine adr_nil ?_|refine adr_two ?_ ?_|refine adr_kq ?_ ?_|refine adr_three ?_ ?_ ?_|refine adr_kp2 ?_ ?_|((first|refine adr_qs fun Y hY=>?_|refine adr_y fun Y hY=>?_);simp [go_sem, r1, hqe])|intro _|apply And.intro|(apply hY;clear hY Y)));all_goals first|apply Hold.mk|omega|with_reducible assumption|skip))
     all_goals (refine callA_l [900002] (.inl ⟨rfl,rfl⟩) (by simp [go_sem]) ?_; intro args ha; simp [go_sem] at ha; subst ha; refine ⟨_, _, P2, (by simp [go_sem, r1, hqe]), ?_⟩; rintro ps r hps ⟨rfl, rfl⟩; simp [go_sem, r1, hqe]; ((repeat' (first|(refine ag_x ?_;simp [go_sem, r1, hqe])|refine adr_nil ?_|refine adr_two ?_ ?_|refine adr_kq ?_ ?_|refine adr_three ?_ ?_ ?_|refine adr_kp2 ?_ ?_|((first|refine adr_qs fun Y hY=>?_|refine adr_y fun Y hY=>?_);simp [go_sem, r1, hqe])|intro _|apply And.intro|(apply hY;clear hY Y)));all_goals first|apply Hold.mk|omega|with_reducible assumption|skip))
     all_goals (refine callA_l [900002] (.inl ⟨rfl,rfl⟩) (by simp [go_sem]) ?_; intro args ha; simp [go_sem] at ha; subst ha; refine ⟨_, _, N2, (by simp [go_sem, r1, hqe]), ?_⟩; rintro ps r hps ⟨a', out, h1, h2, h3', rfl, rfl⟩; simp [go_sem, r1, hqe]; ((repeat' (first|(refine ag_x ?_;simp [go_sem, r1, hqe])|refine adr_nil ?_|refine adr_two ?_ ?_|refine adr_kq ?_ ?_|refine adr_three ?_ ?_ ?_|refine adr_kp2 ?_ ?_|((first|refine adr_qs fun Y hY=>?_|refine adr_y fun Y hY=>?_);simp [go_sem, r1, hqe])|intro _|apply And.intro|(apply hY;clear hY Y)));all_goals first|apply Hold.mk|omega|with_reducible assumption|skip))
     all_goals
      refine hK9 _ ?_
      refine awp_frzbox 10 rfl rfl ?_
      simp only [go_sem]
      refine hM9 ⟨(a', out), h1, h2, h3'⟩ _ ?_
      (refine cov_of ?_ ?_ <;> simp [go_sem])
    ·obtain ⟨⟨a', out⟩, h1, h2, h3'⟩ := x
     simp only at h1 h2 h3'
     have hvz : ∀ v ∈ vs ++ [(num, out)], SzV v := fun v hv => by
      rcases List.mem_append.1 hv with h | h
      ·have := (vuV_parts hvu).2 v h
       exact ⟨by have := readV_len this.1; omega, nuV_sz this.2 (by decide)⟩
      ·simp at h; subst h; exact ⟨by show num.length ≤ _; omega, nuV_sz h2 (by decide)⟩
     have VS := versions_spec (vs ++ [(num, out)]) (by simp; omega) hvz
     rw [show dVrs (vs ++ [(num, out)]) = D.sl 2 (vs.map cVr ++ [[dS num, dPs out]]) by simp [go_sem]] at VS
     generalize hnb : vuV (vs ++ [(num, out)]) = nb at *
     (refine awp_sr fun Y hY => ?_; simp [go_sem]; ((repeat' (first|(refine ag_x ?_;simp [go_sem])|intro _|apply And.intro|(apply hY;clear hY Y)));all_goals first|apply Hold.mk|omega|with_reducible assumption|skip))
     (refine awp_sr fun Y hY => ?_; simp [go_sem]; ((repeat' (first|(refine ag_x ?_;simp [go_sem])|intro _|apply And.intro|(apply hY;clear hY Y)));all_goals first|apply Hold.mk|omega|with_reducible assumption|skip))
     ((try refine CallT.toA ?_); refine callT_f (.inl ⟨rfl,rfl⟩) ?_; intro args ha; simp [go_sem] at ha; subst ha; refine ⟨_, VS, ?_⟩; rintro _ rfl; refine ⟨rfl, ?_⟩; simp [go_sem]; ((repeat' (first|(refine ag_x ?_;simp [go_sem])|intro _|apply And.intro|(apply hY;clear hY Y)));all_goals first|apply Hold.mk|omega|with_reducible assumption|skip))
     rename_i gq1 gq2
     cases nb with
     | true =>
      (refine awp_if fun T F hT hF => ?_; simp [go_sem]; refine hF ?_; clear hT hF T F)
      refine awp_skip ?_
      refine hK8 _ ?_
      refine hM8 ⟨(a', vs ++ [(num, out)], gq2), h1, hnb, by simp; omega⟩ _ ?_
      (refine cov_of ?_ ?_ <;> simp [go_sem])
     | false =>
      have hl1 : ((vs.length : Int) + 1 - 1).toNat = vs.length := by omega
      have hl2 : (vs.length : Int) + 1 - 1 = vs.length := by omega
      (refine awp_if fun T F hT hF => ?_; simp [go_sem]; refine hT ?_; clear hT hF T F)
      (refine awp_r fun Y hY => ?_; simp [go_sem, hl1, hl2]; ((repeat' (first|(refine ag_x ?_;simp [go_sem, hl1, hl2])|intro _|apply And.intro|(apply hY;clear hY Y)));all_goals first|apply Hold.mk|omega|with_reducible assumption|skip))
      rename_i gq3
      refine hK8 _ ?_
      refine hM8 ⟨(a', vs, gq3), h1, hvu, by simp only; omega⟩ _ ?_
      (refine cov_of ?_ ?_ <;> simp [go_sem])
   ·have hali : ¬ (a : Int) < l.length := by omega
    (refine awp_sr fun Y hY => ?_; simp [go_sem, hq0, hqe, hal, hali]; ((repeat' (first|(refine ag_x ?_;simp [go_sem, hq0, hqe, hal, hali])|intro _|apply And.intro|(apply hY;clear hY Y)));all_goals first|apply Hold.mk|omega|with_reducible assumption|skip))
    (refine awp_if fun T F hT hF => ?_; simp [go_sem, hq0, hqe, hal, hali]; refine hF ?_; clear hT hF T F)
    refine awp_exit ?_
    simp only [go_sem]
    refine tl5 _ ?_
    (refine cov_of ?_ ?_ <;> simp [go_sem])
 ·refine awp_exit ?_
  simp only [go_sem]
  refine hK1 _ ?_; clear hK1
  have hi5 : i = 5 := by omega
  subst hi5
  refine awp_frzin 900011 5 0 rfl rfl (by decide) rfl ?_
  simp only [go_sem, List.set]
  ((refine awp_dr (.qs [1] (.kq 0 (.one 2 (.one 3 (.qs [4] (.nil)))) 2 (.qs [0] (.one 3 (.qs [4] (.nil)))))) (by kernel_rfl) ?_ ?_ ?_ ?_); (kernel_rfl); (exact (by decide +kernel)); (kernel_rfl); intro Y hY; ((repeat' (first|(refine ag_x ?_;simp [go_sem])|refine adr_nil ?_|refine adr_kq ?_ ?_|((first|refine adr_qs fun Y hY=>?_|refine adr_y fun Y hY=>?_);simp [go_sem])|intro _|apply And.intro|(apply hY;clear hY Y)));all_goals first|apply Hold.mk|omega|with_reducible assumption|skip))
  all_goals
   (refine callA_l [900002] (.inl ⟨rfl,rfl⟩) (by simp [go_sem]) ?_; intro args ha; simp [go_sem] at ha; subst ha; refine ⟨_, _, (GN a 3 g4 ha (by decide)), (by simp [go_sem]), ?_⟩; rintro ps r hps ⟨a', w, h1, h2, h3', rfl, rfl⟩; simp [go_sem]; ((repeat' (first|(refine ag_x ?_;simp [go_sem])|refine adr_nil ?_|refine adr_kq ?_ ?_|((first|refine adr_qs fun Y hY=>?_|refine adr_y fun Y hY=>?_);simp [go_sem])|intro _|apply And.intro|(apply hY;clear hY Y)));all_goals first|apply Hold.mk|omega|with_reducible assumption|skip))
   (refine awp_ret ?_; simp [go_sem])
   exact ⟨s, w, ⟨hsn, hsv, h2, h3'⟩, by simp⟩
end Go.Proofs.YtchnagdaljblnaaGreatDoor
set_option maxRecDepth 20000
namespace Go.Lk
open Go.Lib Go.Wh Go.Ver
/-! the order of names; a lock of a solution is valid -/
theorem bl_trans : ∀ {a b c : Bs}, Op.bytesLess a b = true → Op.bytesLess b c = true → Op.bytesLess a c = true
 | a, [], c, h, _ => by cases a <;> simp [Op.bytesLess] at h
 | a, y :: b, [], _, h => by simp [Op.bytesLess] at h
 | [], y :: b, z :: c, _, _ => rfl
 | x :: a, y :: b, z :: c, h1, h2 => by
  simp only [Op.bytesLess, Bool.or_eq_true, Bool.and_eq_true, decide_eq_true_eq, beq_iff_eq] at h1 h2 ⊢
  rcases h1 with h1 | ⟨rfl, h1⟩
  ·rcases h2 with h2 | ⟨rfl, h2⟩
   ·exact .inl (UInt8.lt_trans h1 h2)
   ·exact .inl h1
  ·rcases h2 with h2 | ⟨rfl, h2⟩
   ·exact .inl h2
   ·exact .inr ⟨rfl, bl_trans h1 h2⟩
theorem bl_tri : ∀ a b : Bs, a = b ∨ Op.bytesLess a b = true ∨ Op.bytesLess b a = true
 | [], [] => .inl rfl
 | [], y :: b => .inr (.inl rfl)
 | x :: a, [] => .inr (.inr rfl)
 | x :: a, y :: b => by
  simp only [Op.bytesLess, Bool.or_eq_true, Bool.and_eq_true, decide_eq_true_eq, beq_iff_eq, List.cons.injEq]
  rcases Nat.lt_trichotomy x.toNat y.toNat with h | h | h
  ·exact .inr (.inl (.inl (UInt8.lt_iff_toNat_lt.2 h)))
  ·have e : x = y := UInt8.toNat_inj.1 h
   rcases bl_tri a b with q | q | q
   ·exact .inl ⟨e, q⟩
   ·exact .inr (.inl (.inr ⟨e, q⟩))
   ·exact .inr (.inr (.inr ⟨e.symm, q⟩))
  ·exact .inr (.inr (.inl (UInt8.lt_iff_toNat_lt.2 h)))
abbrev Asc (l : List Prs) : Prop := l.Pairwise fun x y => Op.bytesLess x.1 y.1 = true
theorem posP_spec (x : Prs) (out : List Prs) : ∀ n, n ≤ out.length → (∀ j y, posP x out n ≤ j → j < n → out[j]? = some y → Op.bytesLess x.1 y.1 = true) ∧ (∀ y, 0 < posP x out n → out[posP x out n - 1]? = some y → Op.bytesLess x.1 y.1 = false)
 | 0, _ => ⟨fun j y _ h => by omega, fun y h => by simp [posP] at h⟩
 | n + 1, hn => by
  obtain ⟨z, hz⟩ : ∃ z, out[n]? = some z := ⟨_, List.getElem?_eq_getElem (by omega)⟩
  obtain ⟨h1, h2⟩ := posP_spec x out n (by omega)
  rw [posP_step hz]
  split
  ·rename_i hb
   refine ⟨fun j y hj hjn hy => ?_, h2⟩
   by_cases e : j = n
   ·subst e; rw [hz] at hy; rw [← Option.some.inj hy]; exact hb
   ·exact h1 j y hj (by omega) hy
  ·rename_i hb
   refine ⟨fun j y hj hjn => by omega, fun y _ hy => ?_⟩
   rw [Nat.add_sub_cancel, hz] at hy
   rw [← Option.some.inj hy]
   simpa using hb
theorem insP_asc {x : Prs} {out : List Prs} (h : Asc out) (hx : x.1 ∉ out.map (·.1)) : Asc (insP x out) := by
 obtain ⟨h1, h2⟩ := posP_spec x out out.length (Nat.le_refl _)
 have hle := posP_le x out out.length
 unfold insP
 generalize posP x out out.length = a at *
 have hap : Asc (out.take a ++ out.drop a) := by rw [List.take_append_drop]; exact h
 obtain ⟨p1, p2, p3⟩ := List.pairwise_append.1 hap
 refine List.pairwise_append.2 ⟨p1, List.pairwise_cons.2 ⟨fun y hy => ?_, p2⟩, fun y hy z hz => ?_⟩
 ·obtain ⟨j, hj⟩ := List.getElem?_of_mem hy
  rw [List.getElem?_drop] at hj
  exact h1 (a + j) y (by omega) (List.getElem?_eq_some_iff.1 hj).1 hj
 ·rcases List.mem_cons.1 hz with rfl | hz
  ·
   have ha : 0 < a := by
    rcases Nat.eq_zero_or_pos a with q | q
    ·subst q; simp at hy
    ·exact q
   obtain ⟨w, hw⟩ : ∃ w, out[a - 1]? = some w := ⟨_, List.getElem?_eq_getElem (by omega)⟩
   have hwx : Op.bytesLess w.1 z.1 = true := by
    rcases bl_tri z.1 w.1 with q | q | q
    ·exact absurd (List.mem_map.2 ⟨w, List.mem_of_getElem? hw, q.symm⟩) hx
    ·have := h2 w ha hw; rw [q] at this; cases this
    ·exact q
   obtain ⟨j, hj⟩ := List.getElem?_of_mem hy
   rw [List.getElem?_take] at hj
   split at hj
   ·rename_i hja
    by_cases e : j = a - 1
    ·subst e; rw [hw] at hj; rw [← Option.some.inj hj]; exact hwx
    ·have hlt := (List.getElem?_eq_some_iff.1 hj).1
     have := List.pairwise_iff_getElem.1 h j (a - 1) hlt (by omega) (by omega)
     rw [(List.getElem?_eq_some_iff.1 hj).2, (List.getElem?_eq_some_iff.1 hw).2] at this
     exact bl_trans this hwx
   ·cases hj
  ·exact p3 y hy z hz
theorem srt_asc' : ∀ (l o : List Prs), Asc o → (l.map (·.1)).Nodup → (∀ x ∈ l, x.1 ∉ o.map (·.1)) → Asc (l.foldl (fun o x => insP x o) o)
 | [], o, h, _, _ => h
 | x :: l, o, h, hn, hd => by
  rw [List.foldl_cons]
  rw [List.map_cons, List.nodup_cons] at hn
  refine srt_asc' l _ (insP_asc h (hd x (by simp))) hn.2 fun y hy hm => ?_
  obtain ⟨z, hz, e⟩ := List.mem_map.1 hm
  rcases insP_mem.1 hz with rfl | hz
  ·exact hn.1 (List.mem_map.2 ⟨y, hy, e.symm⟩)
  ·exact hd y (by simp [hy]) (List.mem_map.2 ⟨z, hz, e⟩)
theorem srt_asc {l : List Prs} (h : (l.map (·.1)).Nodup) : Asc (srtP l) := srt_asc' l [] List.Pairwise.nil h (by simp)
theorem asc_at {l : List Prs} (h : Asc l) {i : Nat} {x y : Prs} (hi : i ≠ 0) (hx : l[i]? = some x) (hy : l[i - 1]? = some y) : Op.bytesLess y.1 x.1 = true := by
 have h1 := (List.getElem?_eq_some_iff.1 hx)
 have h2 := (List.getElem?_eq_some_iff.1 hy)
 have := List.pairwise_iff_getElem.1 h (i - 1) i h2.1 h1.1 (by omega)
 rw [h1.2, h2.2] at this
 exact this
theorem needsV_of {m : Nat} {l : List Prs} (h : Asc l) (hl : l.length ≤ m) (hn : ∀ n ∈ l, nameV n.1 = true ∧ (condsV n.2).isSome = true) : needsV m l = true := by
 unfold needsV
 rw [Bool.and_eq_true]
 refine ⟨?_, by simpa using hl⟩
 have key : ∀ k, needTo l k = true := by
  intro k
  induction k with
  | zero => rfl
  | succ k ih =>
   rw [needTo, ih, Bool.true_and]
   unfold needAt
   cases hx : l[k]? with
   | none => rfl
   | some x =>
    simp only
    obtain ⟨a, b⟩ := hn x (List.mem_of_getElem? hx)
    rw [a, b]
    simp only [Bool.and_self, Bool.true_and, Bool.or_eq_true, decide_eq_true_eq]
    by_cases h0 : k = 0
    ·exact .inl h0
    ·right
     cases hy : l[k - 1]? with
     | none => rfl
     | some y => exact asc_at h h0 hx hy
 exact key _
theorem lockV_of {P : List Prs} {N : List (List Prs)} {W : List Prs} (h60 : P.length ≤ 60) (hl : N.length = P.length) (hw : needsV 8 W = true) (hP : Asc P) (hp : ∀ x ∈ P, nameV x.1 = true ∧ (readV x.2).isSome = true) (hN : ∀ r ∈ N, needsV 6 r = true) : lockV (P, N, W) = true := by
 unfold lockV
 simp only [Bool.and_eq_true, decide_eq_true_eq]
 refine ⟨⟨⟨h60, hl⟩, hw⟩, ?_⟩
 have key : ∀ k, k ≤ P.length → pickTo (P, N, W) k = true := by
  intro k
  induction k with
  | zero => intro _; rfl
  | succ k ih =>
   intro hk
   rw [pickTo, ih (by omega), Bool.true_and]
   unfold pickAt
   obtain ⟨x, hx⟩ : ∃ x, P[k]? = some x := ⟨_, List.getElem?_eq_getElem (by omega)⟩
   obtain ⟨r, hr⟩ : ∃ r, N[k]? = some r := ⟨_, List.getElem?_eq_getElem (by omega)⟩
   have e : N.getD k [] = r := by simp [List.getD, hr]
   simp only [hx, e]
   obtain ⟨a, b⟩ := hp x (List.mem_of_getElem? hx)
   rw [a, b, hN r (List.mem_of_getElem? hr)]
   simp only [Bool.and_self, Bool.true_and, Bool.and_true, Bool.or_eq_true, decide_eq_true_eq]
   by_cases h0 : k = 0
   ·exact .inl h0
   ·right
    cases hy : P[k - 1]? with
    | none => rfl
    | some y => exact asc_at hP h0 hx hy
 exact key _ (Nat.le_refl _)
theorem nuV_nodup {m : Nat} {l : List Prs} (h : nuV m l = true) : (l.map (·.1)).Nodup := by
 unfold nuV at h
 rw [Bool.and_eq_true] at h
 refine List.pairwise_iff_getElem.2 fun i j hi hj hij => ?_
 simp only [List.length_map] at hi hj
 have hj' := upTo_at h.2 hj
 have hx := List.getElem?_eq_getElem hj
 unfold nuAt at hj'
 rw [hx] at hj'
 simp only [Bool.and_eq_true] at hj'
 have := upTo_at hj'.2 hij
 unfold apartAt at this
 rw [List.getElem?_eq_getElem hi] at this
 simpa using this
theorem nu_srt {m : Nat} {l : List Prs} (h : nuV m l = true) : needsV m (srtP l) = true := by
 obtain ⟨h1, h2⟩ := nuV_parts h
 exact needsV_of (srt_asc (nuV_nodup h)) (by rw [srtP_len]; exact h1) fun n hn => h2 n (srtP_mem.1 hn)
theorem own_ok {s : Src} (hs : suV s = true) (p : Prs) : needsV 6 (ownV s p) = true := by
 unfold ownV fndP
 cases h : fndV s p with
 | none => rfl
 | some v =>
  obtain ⟨g, hg, _, hv, _⟩ := fndV_mem h
  exact nu_srt ((vuV_parts ((suV_parts hs).2 g hg).2).2 v hv).2
theorem solV_asc {s : Src} {w : List Prs} {b : Int} (hs : suV s = true) : Asc (solV s w b).1 := by
 unfold solV
 split
 ·exact srt_asc (restV_pick hs _ [] 0 ⟨by simp, by simp⟩).2
 ·exact List.Pairwise.nil
theorem solV_ok {s : Src} {w : List Prs} {b : Int} (hs : suV s = true) : ∀ x ∈ (solV s w b).1, nameV x.1 = true ∧ (readV x.2).isSome = true := fun x hx => by
 obtain ⟨g, hg, e, v, hv, e2⟩ := solV_pick hs x hx
 obtain ⟨a, c⟩ := (suV_parts hs).2 g hg
 have := ((vuV_parts c).2 v hv).1
 exact ⟨by rw [← e]; exact a, by rw [← e2]; exact this⟩
theorem ofV_ok {s : Src} {w : List Prs} {b : Int} (h : (ofV s w b).2 = 0) : lockV (ofV s w b).1 = true := by
 unfold ofV at h ⊢
 split at h
 ·rename_i h0
  rw [if_pos h0]
  obtain ⟨hc, _⟩ := solV_chk h0
  unfold chkV at hc
  rw [Bool.and_eq_true] at hc
  have hln := solV_len (s := s) (w := w) (b := b)
  refine lockV_of (by omega) (by simp) (nu_srt hc.2) (solV_asc hc.1) (solV_ok hc.1) fun r hr => ?_
  obtain ⟨p, _, rfl⟩ := List.mem_map.1 hr
  exact own_ok hc.1 p
 ·rename_i h0
  exact absurd h h0
/-! sizes -/
def SzL (L : Lck) : Prop := SzN L.1 ∧ (L.2.1.length ≤ 1000000 ∧ ∀ r ∈ L.2.1, SzN r) ∧ SzN L.2.2
theorem needsV_sz {m : Nat} {l : List Prs} (h : needsV m l = true) (hm : m ≤ 1000) : SzN l := by
 refine ⟨by have := needsV_len h; omega, fun x hx => ?_⟩
 obtain ⟨a, b⟩ := needsV_each h x hx
 have := (name_nm a).2.2
 have := condsV_len b
 exact ⟨by omega, by omega⟩
theorem lockV_sz {L : Lck} (h : lockV L = true) : SzL L := by
 obtain ⟨v1, v2, v3, v4⟩ := lockV_parts h
 refine ⟨⟨by omega, fun x hx => ?_⟩, ⟨by omega, fun r hr => ?_⟩, needsV_sz v3 (by decide)⟩
 ·obtain ⟨i, hi⟩ := List.getElem?_of_mem hx
  have hlt := (List.getElem?_eq_some_iff.1 hi).1
  obtain ⟨r, hr⟩ : ∃ r, L.2.1[i]? = some r := ⟨_, List.getElem?_eq_getElem (by omega)⟩
  obtain ⟨a, b, _⟩ := lockV_pick h hi hr
  have := (name_nm a).2.2
  have := readV_len b
  exact ⟨by omega, by omega⟩
 ·obtain ⟨i, hi⟩ := List.getElem?_of_mem hr
  have hlt := (List.getElem?_eq_some_iff.1 hi).1
  obtain ⟨x, hx⟩ : ∃ x, L.1[i]? = some x := ⟨_, List.getElem?_eq_getElem (by omega)⟩
  exact needsV_sz (lockV_pick h hx hi).2.2 (by decide)
/-! the first version of each gem -/
def fst1 (g : Gm) : Option (Bs × Vrs) := g.2.head?.map fun v => (g.1, v)
def fstP (s : Src) : List Prs := (s.filterMap fst1).map fun x => (x.1, x.2.1)
def fstN (s : Src) : List (List Prs) := (s.filterMap fst1).map fun x => x.2.2
theorem fst_step {s : Src} {i : Nat} {g : Gm} (h : s[i]? = some g) : fstP (s.take (i + 1)) = fstP (s.take i) ++ (match g.2.head? with | some v => [(g.1, v.1)] | none => []) ∧ fstN (s.take (i + 1)) = fstN (s.take i) ++ (match g.2.head? with | some v => [v.2] | none => []) := by
 unfold fstP fstN
 rw [List.take_add_one, h, List.filterMap_append, List.map_append, List.map_append]
 simp only [Option.toList]
 cases hv : g.2.head? <;> simp [fst1, hv]
theorem fst_len (s : Src) : (fstN s).length = (fstP s).length := by simp [fstN, fstP]
theorem fst_le : ∀ s : Src, (fstP s).length ≤ s.length := fun s => by
 unfold fstP; rw [List.length_map]; exact List.length_filterMap_le _ _
theorem fst_asc : ∀ {s : Src}, (s.Pairwise fun g h => Op.bytesLess g.1 h.1 = true) → Asc (fstP s)
 | [], _ => List.Pairwise.nil
 | g :: s, h => by
  obtain ⟨h1, h2⟩ := List.pairwise_cons.1 h
  have ih := fst_asc h2
  unfold fstP at ih ⊢
  rw [List.filterMap_cons]
  cases hg : fst1 g with
  | none => exact ih
  | some x =>
   simp only [List.map_cons]
   refine List.pairwise_cons.2 ⟨fun y hy => ?_, ih⟩
   obtain ⟨z, hz, rfl⟩ := List.mem_map.1 hy
   obtain ⟨k, hk, e⟩ := List.mem_filterMap.1 hz
   have a : x.1 = g.1 := by unfold fst1 at hg; cases hv : g.2.head? <;> rw [hv] at hg <;> simp at hg; rw [← hg]
   have b : z.1 = k.1 := by unfold fst1 at e; cases hv : k.2.head? <;> rw [hv] at e <;> simp at e; rw [← e]
   show Op.bytesLess x.1 z.1 = true
   rw [a, b]
   exact h1 k hk
theorem fst_mem {s : Src} {x : Prs} (h : x ∈ fstP s) : ∃ g ∈ s, x.1 = g.1 ∧ ∃ v ∈ g.2, x.2 = v.1 := by
 unfold fstP at h
 obtain ⟨z, hz, rfl⟩ := List.mem_map.1 h
 obtain ⟨k, hk, e⟩ := List.mem_filterMap.1 hz
 unfold fst1 at e
 cases hv : k.2.head? with
 | none => rw [hv] at e; simp at e
 | some v =>
  rw [hv] at e; simp at e
  exact ⟨k, hk, by rw [← e], v, List.mem_of_mem_head? hv, by rw [← e]⟩
theorem fstN_mem {s : Src} {r : List Prs} (h : r ∈ fstN s) : ∃ g ∈ s, ∃ v ∈ g.2, r = v.2 := by
 unfold fstN at h
 obtain ⟨z, hz, rfl⟩ := List.mem_map.1 h
 obtain ⟨k, hk, e⟩ := List.mem_filterMap.1 hz
 unfold fst1 at e
 cases hv : k.2.head? with
 | none => rw [hv] at e; simp at e
 | some v =>
  rw [hv] at e; simp at e
  exact ⟨k, hk, v, List.mem_of_mem_head? hv, by rw [← e]⟩
theorem fst_lock {s : Src} (hs : suV s = true) (hp : s.Pairwise fun g h => Op.bytesLess g.1 h.1 = true) : lockV (fstP s, List.replicate (fstP s).length [], []) = true := by
 obtain ⟨h1, h2⟩ := suV_parts hs
 refine lockV_of (by have := fst_le s; omega) (by simp) rfl (fst_asc hp) (fun x hx => ?_) (fun r hr => ?_)
 ·obtain ⟨g, hg, e, v, hv, e2⟩ := fst_mem hx
  obtain ⟨a, c⟩ := h2 g hg
  rw [e, e2]
  exact ⟨a, ((vuV_parts c).2 v hv).1⟩
 ·rw [List.eq_of_mem_replicate hr]; rfl
theorem fst_sz {s : Src} (hs : suV s = true) : SzL (fstP s, fstN s, []) := by
 have hz := suV_sz hs
 obtain ⟨h1, h2⟩ := suV_parts hs
 refine ⟨⟨by have := fst_le s; simp only; omega, fun x hx => ?_⟩, ⟨by have := fst_le s; have := fst_len s; simp only; omega, fun r hr => ?_⟩, ⟨by simp, by simp⟩⟩
 ·obtain ⟨g, hg, e, v, hv, e2⟩ := fst_mem hx
  obtain ⟨a, b, c⟩ := hz.2 g hg
  exact ⟨by rw [e]; exact a, by rw [e2]; exact (c v hv).1⟩
 ·obtain ⟨g, hg, v, hv, e⟩ := fstN_mem hr
  rw [e]
  exact ((hz.2 g hg).2.2 v hv).2
end Go.Lk
namespace Go.Proofs.YtchnagdaljblnaaGreatDoor
open Go.Eng Go.Wh Go.Ver Go.RowKit Go.Lk
set_option maxRecDepth 20000
attribute [local irreducible] AG CallA CallT AWp PCall ACall AgC
theorem pcall_weakE {α : Type} {f : FuncId} {args : List D} {p : α → Prop} {d : α → D} (h : PCall Tryz.prog f args fun r => ∃ x, p x ∧ Weak r (d x)) : PCall Tryz.prog f args fun r => ∃ x, p x ∧ r = d x := by
 unfold PCall at h ⊢
 refine ⟨h.1, fun C w us a b c => (h.2 C w us a b c).mono ?_⟩
 rintro e w' ⟨u, r, C', h1, ⟨x, hx, hw⟩, h3, h4⟩
 exact ⟨u, d x, C', h1, ⟨x, hx, rfl⟩, hw _ _ _ h3, h4⟩
theorem lkOk_of {L : Lck} (h : SzL L) : LkOk L := by
 obtain ⟨a, b, c⟩ := h
 exact ⟨a.1, b.1, c.1, fun x hx => a.2 x hx, fun r hr => ⟨(b.2 r hr).1, fun x hx => (b.2 r hr).2 x hx⟩, fun x hx => c.2 x hx⟩
theorem grOk_pw {s : Src} {w : List Prs} (h : GrOk s w) : s.Pairwise fun g h => Op.bytesLess g.1 h.1 = true := by
 have h1 : (s.map (·.1)).Pairwise fun a b => Op.bytesLess a b = true := by rw [h.nm]; simp [gnmL]; decide
 exact List.pairwise_map.1 h1
theorem weak_nils : ∀ n : Nat, WeakLL (List.replicate n [D.v (.slice none 0 0)]) ((List.replicate n ([] : List Prs)).map fun n => [dPs n])
 | 0 => trivial
 | n + 1 => ⟨⟨Weak.nil 2, trivial⟩, weak_nils n⟩
def nilN (N : List (List Prs)) (j : Nat) : List (List D) := List.replicate j [D.v (.slice none 0 0)] ++ (N.drop j).map fun n => [dPs n]
theorem nilN_len {N : List (List Prs)} {j : Nat} (h : j ≤ N.length) : (nilN N j).length = N.length := by unfold nilN; simp; omega
theorem nilN_step {N : List (List Prs)} {j : Nat} (h : j < N.length) : (nilN N j).set j [D.v (.slice none 0 0)] = nilN N (j + 1) := by
 unfold nilN
 rw [drop_cons (List.getElem?_eq_getElem h), List.map_cons]
 rw [List.set_append_right _ _ (by simp)]
 simp only [List.length_replicate, Nat.sub_self, List.set_cons_zero]
 rw [List.replicate_succ', List.append_assoc]
 rfl
theorem nilN_zero (N : List (List Prs)) : nilN N 0 = N.map fun n => [dPs n] := rfl
theorem nilN_end (N : List (List Prs)) : nilN N N.length = List.replicate N.length [D.v (.slice none 0 0)] := by unfold nilN; simp
theorem nilN_at {N : List (List Prs)} {j : Nat} (h : j < N.length) : ∃ y, (nilN N j)[j]? = some [y] := by
 unfold nilN
 refine ⟨dPs N[j], ?_⟩
 rw [List.getElem?_append_right (by simp), drop_cons (List.getElem?_eq_getElem h)]
 simp
 exact ⟨_, List.getElem?_eq_getElem h, rfl⟩
set_option maxHeartbeats 16000000 in
theorem grownW (l : List Int) (hl : l.length ≤ 9223372036854775807) : PCall Tryz.prog 12 [dIs l] fun r => ∃ L, lockV L = true ∧ Weak r (dLk L) := by 
 refine pcall_of Tryz.func12 rfl rfl Tryz.ntmps12 (rs := [.cell 2 34]) (tys := [34]) rfl rfl (by simp) ?_
 have GR := rGrown_spec l hl
 (refine awp_sr fun Y hY => ?_; simp [go_sem]; ((repeat' (first|(refine ag_x ?_;simp [go_sem])|intro _|apply And.intro|(apply hY;clear hY Y)));all_goals first|apply Hold.mk|omega|with_reducible assumption|skip))
 rename_i g2
 (refine awp_sr fun Y hY => ?_; simp [go_sem]; ((repeat' (first|(refine ag_x ?_;simp [go_sem])|intro _|apply And.intro|(apply hY;clear hY Y)));all_goals first|apply Hold.mk|omega|with_reducible assumption|skip))
 ((try refine CallT.toA ?_); refine callT_m (.inl ⟨rfl,rfl⟩) (by simp [go_sem]) ?_; intro args ha; simp [go_sem] at ha; subst ha; refine ⟨_, GR, ?_⟩; rintro _ ⟨s, w, hgr, rfl⟩; simp [go_sem]; ((repeat' (first|(refine ag_x ?_;simp [go_sem])|intro _|apply And.intro|(apply hY;clear hY Y)));all_goals first|apply Hold.mk|omega|with_reducible assumption|skip))
 rename_i g3
 have hsu := grOk_su hgr
 have hsz := suV_sz hsu
 have hwz := nuV_sz hgr.wi (by decide)
 have hs5 : s.length = 5 := by have := congrArg List.length hgr.nm; simpa [gnmL] using this
 have OF := rOf_spec s w 500 hsz hwz
 have hok := @ofV_ok s w 500
 generalize ofV s w 500 = q at *
 obtain ⟨L, e⟩ := q
 simp only at OF hok
 (refine awp_sr fun Y hY => ?_; simp [go_sem]; ((repeat' (first|(refine ag_x ?_;simp [go_sem])|intro _|apply And.intro|(apply hY;clear hY Y)));all_goals first|apply Hold.mk|omega|with_reducible assumption|skip))
 ((try refine CallT.toA ?_); refine callT_m (.inl ⟨rfl,rfl⟩) (by simp [go_sem]) ?_; intro args ha; simp [go_sem] at ha; subst ha; refine ⟨_, OF, ?_⟩; rintro _ rfl; simp [go_sem]; ((repeat' (first|(refine ag_x ?_;simp [go_sem])|intro _|apply And.intro|(apply hY;clear hY Y)));all_goals first|apply Hold.mk|omega|with_reducible assumption|skip))
 rename_i g5
 refine awp_seq_k fun K1 hK1 => ?_
 have tl1 : ∀ S', Cov S' ⟨[(2, .ptr 2 g2 0), (3, .ptr 3 g3 0)], [(2, (g2, .box [.v (.slice none 0 0), .v (.slice none 0 0), .v (.slice none 0 0)])), (3, (g3, .box [dGms s]))]⟩ → K1 S' := fun S' hS => by
  refine hK1 _ ?_; clear hK1
  refine awp_cov hS ?_; clear hS
  have hst := fun i g => @fst_step s i g
  have hfe : fstP (s.take s.length) = fstP s ∧ fstN (s.take s.length) = fstN s := by rw [List.take_length]; exact ⟨rfl, rfl⟩
  have hfl := fun i => fst_len (s.take i)
  have hf5 := fun i => fst_le (s.take i)
  have hlk := fst_lock hsu (grOk_pw hgr)
  have CK := rLValid_spec (fstP s, fstN s, []) (lkOk_of (fst_sz hsu))
  have hNl := fst_len s
  have hPl := fst_le s
  obtain ⟨FP, hFP⟩ : ∃ F : Nat → List Prs, ∀ i, fstP (s.take i) = F i := ⟨_, fun _ => rfl⟩
  obtain ⟨FN, hFN⟩ : ∃ F : Nat → List (List Prs), ∀ i, fstN (s.take i) = F i := ⟨_, fun _ => rfl⟩
  have hP0 : FP 0 = [] := by rw [← hFP]; rfl
  have hN0 : FN 0 = [] := by rw [← hFN]; rfl
  simp only [hFP, hFN] at hst hfe hfl hf5
  clear hFP hFN
  generalize fstP s = P at *
  generalize fstN s = N at *
  (refine awp_sr fun Y hY => ?_; simp [go_sem]; ((repeat' (first|(refine ag_x ?_;simp [go_sem])|intro _|apply And.intro|(apply hY;clear hY Y)));all_goals first|apply Hold.mk|omega|with_reducible assumption|skip))
  rename_i g7
  refine awp_nilbox 900003 91 2 0 (sb := 7) rfl rfl (by decide) fun gp => ?_
  refine awp_nilbox 900004 32 1 1 (sb := 7) rfl rfl (by decide) fun gn => ?_
  simp only [List.set, go_sem]
  refine awp_seq_k fun K3 hK3 => ?_
  (refine awp_sr fun Y hY => ?_; simp [go_sem]; ((repeat' (first|(refine ag_x ?_;simp [go_sem])|intro _|apply And.intro|(apply hY;clear hY Y)));all_goals first|apply Hold.mk|omega|with_reducible assumption|skip))
  refine awp_block ?_
  refine awp_loop (σ := Nat × Nat × Nat) (fun x => ⟨[(2, .ptr 2 g2 0), (3, .ptr 3 g3 0), (7, .ptr 7 g7 0), (8, dI x.1)], [(2, (g2, .box [.v (.slice none 0 0), .v (.slice none 0 0), .v (.slice none 0 0)])), (3, (g3, .box [dGms s])), (7, (g7, .box [.own 900003 x.2.1, .own 900004 x.2.2, .v (.slice none 0 0)])), (900003, (x.2.1, .row 91 2 ((FP x.1).map cP))), (900004, (x.2.2, .row 32 1 ((FN x.1).map fun n => [dPs n])))]⟩) (fun x => x.1 ≤ s.length) (fun x => s.length - x.1) (0, gp, gn) ?_ ?_ ?_
  ·(refine cov_of ?_ ?_ <;> simp [go_sem, hP0, hN0])
  ·simp
  rintro ⟨i, gp, gn⟩ hi
  simp only at hi
  refine awp_seq_k fun K4 hK4 => ?_
  (refine awp_sr fun Y hY => ?_; simp [go_sem]; ((repeat' (first|(refine ag_x ?_;simp [go_sem])|intro _|apply And.intro|(apply hY;clear hY Y)));all_goals first|apply Hold.mk|omega|with_reducible assumption|skip))
  (refine awp_if fun T F hT hF => ?_; simp [go_sem]; refine BR.intro (fun h5 => hT ?_) (fun h5 => hF ?_); all_goals clear hT hF T F; try simp at h5)
  ·refine awp_skip ?_
   refine hK4 _ ?_; clear hK4
   obtain ⟨x, hx⟩ : ∃ x, s[i]? = some x := ⟨_, List.getElem?_eq_getElem (by omega)⟩
   obtain ⟨hst1, hst2⟩ := hst i x hx
   have hfl1 := hfl i
   have hf51 := hf5 i
   have hti : (s.take i).length = i := by rw [List.length_take]; omega
   rw [hti] at hf51
   generalize FP i = P0 at *
   generalize FN i = N0 at *
   refine awp_seq_j (α := Nat × Nat) (fun z => ⟨[(2, .ptr 2 g2 0), (3, .ptr 3 g3 0), (7, .ptr 7 g7 0), (8, dI i)], [(2, (g2, .box [.v (.slice none 0 0), .v (.slice none 0 0), .v (.slice none 0 0)])), (3, (g3, .box [dGms s])), (7, (g7, .box [.own 900003 z.1, .own 900004 z.2, .v (.slice none 0 0)])), (900003, (z.1, .row 91 2 ((FP (i + 1)).map cP))), (900004, (z.2, .row 32 1 ((FN (i + 1)).map fun n => [dPs n])))]⟩) (fun K6 hK6 hM6 => ?_) (fun z => ?_)
   rotate_left
   ·obtain ⟨gp', gn'⟩ := z
    (refine awp_r fun Y hY => ?_; simp [go_sem]; ((repeat' (first|(refine ag_x ?_;simp [go_sem])|intro _|apply And.intro|(apply hY;clear hY Y)));all_goals first|apply Hold.mk|omega|with_reducible assumption|skip))
    refine ⟨(i + 1, gp', gn'), ?_, by simp only; omega, by simp only; omega⟩
    (refine cov_of ?_ ?_ <;> simp [go_sem])
   refine awp_block ?_
   obtain ⟨nm, vs⟩ := x
   cases vs with
   | nil =>
    simp only [List.head?_nil, List.append_nil] at hst1 hst2
    (refine awp_sr fun Y hY => ?_; simp [go_sem, hx]; ((repeat' (first|(refine ag_x ?_;simp [go_sem, hx])|intro _|apply And.intro|(apply hY;clear hY Y)));all_goals first|apply Hold.mk|omega|with_reducible assumption|skip))
    (refine awp_if fun T F hT hF => ?_; simp [go_sem]; refine hF ?_; clear hT hF T F)
    refine awp_skip ?_
    refine hK6 _ ?_
    refine hM6 (gp, gn) _ ?_
    rw [hst1, hst2]
    (refine cov_of ?_ ?_ <;> simp [go_sem])
   | cons v vs =>
    obtain ⟨num, nds⟩ := v
    simp only [List.head?_cons] at hst1 hst2
    have hpos : (0 : Int) < (vs.length : Int) + 1 := by omega
    (refine awp_sr fun Y hY => ?_; simp [go_sem, hx, hpos]; ((repeat' (first|(refine ag_x ?_;simp [go_sem, hx, hpos])|intro _|apply And.intro|(apply hY;clear hY Y)));all_goals first|apply Hold.mk|omega|with_reducible assumption|skip))
    (refine awp_if fun T F hT hF => ?_; simp [go_sem, hpos]; refine hT ?_; clear hT hF T F)
    (refine awp_sr fun Y hY => ?_; simp [go_sem, hx]; ((repeat' (first|(refine ag_x ?_;simp [go_sem, hx])|intro _|apply And.intro|(apply hY;clear hY Y)));all_goals first|apply Hold.mk|omega|with_reducible assumption|skip))
    rename_i g9
    ((refine awp_dr (.qs [0, 2, 4, 8, 1, 3, 5, 6, 7, 9, 10] (.kp 11 (.one 12 (.qs [13] (.one 14 (.nil)))))) (by kernel_rfl) ?_ ?_ ?_ ?_); (kernel_rfl); (exact (by decide +kernel)); (kernel_rfl); intro Y hY; ((repeat' (first|(refine ag_x ?_;simp [go_sem, hx])|refine adr_nil ?_|((first|refine adr_qs fun Y hY=>?_|refine adr_y fun Y hY=>?_);simp [go_sem, hx])|intro _|apply And.intro|(apply hY;clear hY Y)));all_goals first|apply Hold.mk|omega|with_reducible assumption|skip))
    (refine awp_r fun Y hY => ?_; simp [go_sem]; ((repeat' (first|(refine ag_x ?_;simp [go_sem])|intro _|apply And.intro|(apply hY;clear hY Y)));all_goals first|apply Hold.mk|omega|with_reducible assumption|skip))
    rename_i a1 a2 a3 a4
    refine hK6 _ ?_
    refine hM6 (a2, a4) _ ?_
    rw [hst1, hst2]
    (refine cov_of ?_ ?_ <;> simp [go_sem])
  ·refine awp_exit ?_
   simp only [go_sem]
   refine hK3 _ ?_; clear hK3
   have hie : i = s.length := by omega
   subst hie
   rw [hfe.1, hfe.2]
   clear hst hfe hfl hf5 hP0 hN0
   refine awp_seq_k fun K8 hK8 => ?_
   (refine awp_sr fun Y hY => ?_; simp [go_sem]; ((repeat' (first|(refine ag_x ?_;simp [go_sem])|intro _|apply And.intro|(apply hY;clear hY Y)));all_goals first|apply Hold.mk|omega|with_reducible assumption|skip))
   ((try refine CallT.toA ?_); refine callT_f (.inl ⟨rfl,rfl⟩) ?_; intro args ha; simp [go_sem] at ha; subst ha; refine ⟨_, CK, ?_⟩; rintro _ rfl; refine ⟨rfl, ?_⟩; simp [go_sem]; ((repeat' (first|(refine ag_x ?_;simp [go_sem])|intro _|apply And.intro|(apply hY;clear hY Y)));all_goals first|apply Hold.mk|omega|with_reducible assumption|skip))
   by_cases hv : lockV (P, N, []) = true
   ·rw [hv]
    (refine awp_if fun T F hT hF => ?_; simp [go_sem]; refine hF ?_; clear hT hF T F)
    refine awp_skip ?_
    refine hK8 _ ?_; clear hK8
    refine awp_frzin 900003 7 0 rfl rfl (by decide) rfl ?_
    simp only [go_sem, List.set]
    refine awp_frzin 900004 7 1 rfl rfl (by decide) rfl ?_
    simp only [go_sem, List.set]
    (refine awp_sr fun Y hY => ?_; simp [go_sem]; ((repeat' (first|(refine ag_x ?_;simp [go_sem])|intro _|apply And.intro|(apply hY;clear hY Y)));all_goals first|apply Hold.mk|omega|with_reducible assumption|skip))
    (refine awp_ret ?_; simp [go_sem])
    exact ⟨P, N, [], hv, Weak.agg ⟨Weak.refl _, Weak.refl _, Weak.refl _, trivial⟩⟩
   ·have hvf : lockV (P, N, []) = false := by simpa using hv
    rw [hvf]
    (refine awp_if fun T F hT hF => ?_; simp [go_sem]; refine hT ?_; clear hT hF T F)
    (refine awp_sr fun Y hY => ?_; simp [go_sem]; ((repeat' (first|(refine ag_x ?_;simp [go_sem])|intro _|apply And.intro|(apply hY;clear hY Y)));all_goals first|apply Hold.mk|omega|with_reducible assumption|skip))
    refine awp_block ?_
    refine awp_loop (σ := Nat) (fun j => ⟨[(2, .ptr 2 g2 0), (7, .ptr 7 g7 0), (10, dI j)], [(2, (g2, .box [.v (.slice none 0 0), .v (.slice none 0 0), .v (.slice none 0 0)])), (7, (g7, .box [.own 900003 gp, .own 900004 gn, .v (.slice none 0 0)])), (900003, (gp, .row 91 2 (P.map cP))), (900004, (gn, .row 32 1 (nilN N j)))]⟩) (fun j => j ≤ N.length) (fun j => N.length - j) 0 ?_ ?_ ?_
    ·(refine cov_of ?_ ?_ <;> simp [go_sem, nilN_zero])
    ·simp
    intro j hj
    have hlen := nilN_len hj
    refine awp_seq_k fun K10 hK10 => ?_
    (refine awp_sr fun Y hY => ?_; simp [go_sem, hlen]; ((repeat' (first|(refine ag_x ?_;simp [go_sem, hlen])|intro _|apply And.intro|(apply hY;clear hY Y)));all_goals first|apply Hold.mk|omega|with_reducible assumption|skip))
    (refine awp_if fun T F hT hF => ?_; simp [go_sem]; refine BR.intro (fun h11 => hT ?_) (fun h11 => hF ?_); all_goals clear hT hF T F; try simp at h11)
    ·refine awp_skip ?_
     refine hK10 _ ?_; clear hK10
     have hjl : j < N.length := by omega
     obtain ⟨y, hy⟩ := nilN_at hjl
     have hstp := nilN_step hjl
     generalize nilN N j = nl at *
     refine awp_seq_k fun K12 hK12 => ?_
     refine awp_block ?_
     (refine awp_r fun Y hY => ?_; simp [go_sem, hy, hlen]; ((repeat' (first|(refine ag_x ?_;simp [go_sem, hy, hlen])|intro _|apply And.intro|(apply hY;clear hY Y)));all_goals first|apply Hold.mk|omega|with_reducible assumption|skip))
     refine hK12 _ ?_; clear hK12
     (refine awp_r fun Y hY => ?_; simp [go_sem]; ((repeat' (first|(refine ag_x ?_;simp [go_sem])|intro _|apply And.intro|(apply hY;clear hY Y)));all_goals first|apply Hold.mk|omega|with_reducible assumption|skip))
     refine ⟨j + 1, ?_, by omega, by omega⟩
     (refine cov_of ?_ ?_ <;> simp [go_sem, hstp])
    ·refine awp_exit ?_
     simp only [go_sem]
     refine hK8 _ ?_; clear hK8
     have hje : j = N.length := by omega
     subst hje
     rw [nilN_end]
     refine awp_frzin 900003 7 0 rfl rfl (by decide) rfl ?_
     simp only [go_sem, List.set]
     refine awp_frzin 900004 7 1 rfl rfl (by decide) rfl ?_
     simp only [go_sem, List.set]
     (refine awp_sr fun Y hY => ?_; simp [go_sem]; ((repeat' (first|(refine ag_x ?_;simp [go_sem])|intro _|apply And.intro|(apply hY;clear hY Y)));all_goals first|apply Hold.mk|omega|with_reducible assumption|skip))
     (refine awp_ret ?_; simp [go_sem])
     rw [hNl]
     exact ⟨P, List.replicate P.length [], [], hlk, Weak.agg ⟨Weak.refl _, Weak.sl (weak_nils _), Weak.refl _, trivial⟩⟩
 by_cases he : e = 0
 ·subst he
  by_cases hp : 0 < L.1.length
  ·have hpi : (0 : Int) < L.1.length := by omega
   (refine awp_sr fun Y hY => ?_; simp [go_sem, hp, hpi]; ((repeat' (first|(refine ag_x ?_;simp [go_sem, hp, hpi])|intro _|apply And.intro|(apply hY;clear hY Y)));all_goals first|apply Hold.mk|omega|with_reducible assumption|skip))
   (refine awp_if fun T F hT hF => ?_; simp [go_sem, hp, hpi]; refine hT ?_; clear hT hF T F)
   (refine awp_sr fun Y hY => ?_; simp [go_sem]; ((repeat' (first|(refine ag_x ?_;simp [go_sem])|intro _|apply And.intro|(apply hY;clear hY Y)));all_goals first|apply Hold.mk|omega|with_reducible assumption|skip))
   (refine awp_ret ?_; simp [go_sem])
   obtain ⟨P, N, W⟩ := L
   exact ⟨P, N, W, hok rfl, Weak.refl _⟩
  ·have hpi : ¬ (0 : Int) < L.1.length := by omega
   (refine awp_sr fun Y hY => ?_; simp [go_sem, hp, hpi]; ((repeat' (first|(refine ag_x ?_;simp [go_sem, hp, hpi])|intro _|apply And.intro|(apply hY;clear hY Y)));all_goals first|apply Hold.mk|omega|with_reducible assumption|skip))
   (refine awp_if fun T F hT hF => ?_; simp [go_sem, hp, hpi]; refine hF ?_; clear hT hF T F)
   refine awp_skip ?_
   refine tl1 _ ?_
   (refine cov_of ?_ ?_ <;> simp [go_sem])
 ·have hei : ¬ (e : Int) = 0 := by omega
  (refine awp_sr fun Y hY => ?_; simp [go_sem, he, hei]; ((repeat' (first|(refine ag_false ?_ ?_ ?_;(focus (simp [go_sem, undef, he, hei];done));(focus (simp [go_sem];done));simp [go_sem, he, hei])|(refine ag_true ?_ ?_;(focus (simp [go_sem, undef, he, hei];done));simp [go_sem, he, hei])|(refine ag_x ?_;simp [go_sem, undef, he, hei])|intro _|apply And.intro|(apply hY;clear hY Y)));all_goals first|apply Hold.mk|omega|with_reducible assumption|skip))
  (refine awp_if fun T F hT hF => ?_; simp [go_sem, he, hei]; refine hF ?_; clear hT hF T F)
  refine awp_skip ?_
  refine tl1 _ ?_
  (refine cov_of ?_ ?_ <;> simp [go_sem])
theorem grown_spec (l : List Int) (hl : l.length ≤ 9223372036854775807) : PCall Tryz.prog 12 [dIs l] fun r => ∃ L, lockV L = true ∧ r = dLk L := pcall_weakE (grownW l hl)
end Go.Proofs.YtchnagdaljblnaaGreatDoor
namespace Go.Proofs.YtchnagdaljblnaaGreatDoor
open Go.RowKit
theorem bX : Builder.Extra Tryz.prog Tryz.lays169_ren := Tryz.Builder_Extra_169
set_option maxHeartbeats 1000000 in
set_option maxRecDepth 100000 in
theorem cc_used (b : Nat) (w : World) (h0 : w.cell? ⟨b, 0, none⟩ = some (.pointer (some ⟨b, 0, none⟩))) :
  Calls Tryz.prog 114 #[.pointer (some ⟨b, 0, none⟩)] w fun e w' => e = .returned (.tuple #[]) ∧ w' = w := by
 obtain ⟨j, hj, _⟩ := Option.map_eq_some_iff.1 bX.sizeBuilder
 go_enter Tryz.func114, Tryz.ntmps114
 go_wp2
 rw [Lib.run_neq_ptr_same w _ Tryz.underlying149 hj]
 go_wp2
 go_end0
 exact ⟨rfl, rfl⟩
set_option maxHeartbeats 1000000 in
set_option maxRecDepth 100000 in
theorem cc_fresh (b : Nat) (w : World) (h0 : w.cell? ⟨b, 0, none⟩ = some (.pointer none)) (hsh : w.shape? b = some (151, 2)) (hfz : w.frozen? ⟨b, 0, none⟩ = false) :
  Calls Tryz.prog 114 #[.pointer (some ⟨b, 0, none⟩)] w fun e w' => e = .returned (.tuple #[]) ∧ w' = w.setCell ⟨b, 0, none⟩ (.pointer (some ⟨b, 0, none⟩)) := by
 obtain ⟨j, hj, hjs⟩ := Option.map_eq_some_iff.1 bX.sizeBuilder
 go_enter Tryz.func114, Tryz.ntmps114
 go_wp2
 rw [Lib.run_to_unsafe w ⟨b, 0, none⟩ Tryz.underlying149 Tryz.underlying242 hj (by rw [hjs]; decide) hsh (Nat.zero_lt_succ 1)]
 simp only [Result.andThen]
 rw [Oper.upon_value]
 go_wp2
 rw [run_callFunc_extern Tryz.func167 (by kernel_rfl) (by kernel_rfl) (by kernel_rfl) (e := Extern.AbiNoEscape.same) (by kernel_rfl)]
 rw [Lib.run_noEscape]
 simp only [Result.andThen]
 rw [Oper.upon_value]
 go_wp2
 rw [Lib.run_from_unsafe w ⟨b, 0, none⟩ Tryz.underlying242 Tryz.underlying149 hj hsh bX.liesBuilder]
 simp only [Result.andThen]
 rw [Oper.upon_value]
 go_wp2
 go_end0
 exact ⟨rfl, rfl⟩
section
variable {P : Program} {w : World}
theorem app_exact (t u e : TypeId) (i : TypeInfo) (ht : P.underlying t = some (.slice e)) (hu : P.underlying u = some .string) (hi : P.info? e = some i) (hz : i.zero = some (.int .u8 0))
  (hsize : i.size = 1) (hby : i.bytes = 1) (v : Value) (n : Nat) (xs : List Value) (hown : w.ownsRowF 0 e 1 v n xs) (s : ByteArray) (h63 : n + s.size ≤ maxLen) (hbytes : n + s.size ≤ 140737488355328) :
  ∃ v' w', (∀ ty, (Builtin.append_ #[t, u] ty #[v, .string s]).run P w = .ok v' w') ∧ w'.ownsRowF 0 e 1 v' (n + s.size) (xs ++ Lib.strCells s) ∧ w.grownBy w' v.ownBlock ∧
   (v'.ownBlock = v.ownBlock ∨ ∀ k, v'.ownBlock = some k → w.heap.size ≤ k) := by
 obtain ⟨v', w', h1, h2, h3, _⟩ := Lib.run_append_own_stringF (P := P) w 0 t u t e i ht hu hi hz hsize hby v n xs hown s h63 hbytes (Nat.zero_le _)
 refine ⟨v', w', fun _ => h1, h2, h3, ?_⟩
 have hsmall : n + s.size ≤ 9223372036854775807 := by simp only [maxLen] at h63; omega
 rcases hown.2 with ⟨rfl, rfl⟩ | ⟨g, cap, cur, fz, rfl, hbg, hg, hfz, hnc, hcm, hcs, htake⟩
 ·obtain ⟨v2, w2, q1, q2, _, _⟩ := Lib.run_append_own_string (P := P) w w.heap.size t u t e i ht hu hi hz hsize hby (.slice none 0 0) 0 xs ⟨hown.1, .inl ⟨rfl, rfl⟩⟩ s h63 hbytes (Nat.le_refl _)
  rw [h1] at q1
  injection q1 with q1 q1'
  subst q1 q1'
  refine .inr fun k hk => ?_
  rcases q2.2 with ⟨hv, _⟩ | ⟨g, cap, cur, hv, hb, _⟩
  ·rw [hv] at hk; cases hk
  ·rw [hv] at hk
   simp only [Value.ownBlock, Option.some.injEq] at hk
   omega
 ·have hxl : xs.length = n := by simpa using hown.1
  by_cases hroom : n + s.size ≤ cap
  ·have hr := Lib.run_append_room_stringF (P := P) w t u t e i ht hu hi hsize g n cap cur fz hg (by simpa using hfz) s hroom (by omega)
   rw [h1] at hr
   injection hr with q1 q1'
   subst q1
   exact .inl rfl
  ·have holds : ∀ j u, xs[j]? = some u → w.cell? ((⟨g, 0, none⟩ : Addr).add j) = some u := hown.cells (g := g) rfl
   have hr := Lib.run_append_grow_string (P := P) w t u t e i (.int .u8 0) ht hu hi hz ⟨g, 0, none⟩ n cap xs (by rw [hsize]; simpa using hxl) holds s (by omega) (by omega) (by rw [hby]; exact growslice_fits (by omega) (by omega))
   rw [h1] at hr
   injection hr with q1 q1'
   subst q1
   refine .inr fun k hk => ?_
   simp [Value.ownBlock] at hk
   omega
theorem wpList_app {ops : Array Oper} {rest : List Oper} {o : Oper} {a : Act} {Q : Exit → Act → World → Prop} (hgd : o.guard = none) (sl x : Operand) (t u : TypeId)
  (ho : o.op = .call { callee := .builtin .append, args := #[sl, x], argTypes := #[t, u] }) (v : Value) (hs : a.eval sl = v) (s : ByteArray) (hx : a.eval x = .string s)
  {v' : Value} {w' : World} (hr : ∀ ty, (Builtin.append_ #[t, u] ty #[v, .string s]).run P w = .ok v' w') (h : wpList P ops Q rest (a.put o.dst v') w') : wpList P ops Q (o :: rest) a w := by
 refine wpList_plain hgd fun K hK => ?_
 unfold Oper.wp execOp
 simp only [ho, resolve, invoke, builtin, Sem.run_bind, Sem.run_pure, Result.andThen_ok, List.map_toArray, List.map_cons, List.map_nil, hs, hx, hr]
 exact hK _ _ h
end
set_option maxHeartbeats 2000000 in
set_option maxRecDepth 100000 in
theorem ws_calls (b : Nat) (p v : Value) (l : List UInt8) (s : ByteArray) (w : World) (hb : w.heap[b]? = some (.cells #[p, v] 151 (0, 0))) (hp : p = .pointer none ∨ p = .pointer (some ⟨b, 0, none⟩))
  (hown : w.ownsRowF 0 5 1 v l.length (Lib.byteCells l)) (hne : v.ownBlock ≠ some b) (hlen : l.length + s.size ≤ 140737488355328) :
  Calls Tryz.prog 72 #[.pointer (some ⟨b, 0, none⟩), .string s] w fun e w' => e = .returned (.tuple #[.int .i64 s.size, .nilIface]) ∧
   ∃ v', w'.heap[b]? = some (.cells #[.pointer (some ⟨b, 0, none⟩), v'] 151 (0, 0)) ∧ w'.ownsRowF 0 5 1 v' (l.length + s.size) (Lib.byteCells l ++ Lib.strCells s) ∧
    (v'.ownBlock = v.ownBlock ∨ ∀ k, v'.ownBlock = some k → w.heap.size ≤ k) ∧ v'.ownBlock ≠ some b ∧
    w'.os = w.os ∧ w'.tape = w.tape ∧ w'.output = w.output ∧ w.heap.size ≤ w'.heap.size ∧ ∀ k, k < w.heap.size → k ≠ b → v.ownBlock ≠ some k → w'.heap[k]? = w.heap[k]? := by
 obtain ⟨i0, hi, hz0, hz1, hz2⟩ := info_parts bX.infoByte
 have hlt : b < w.heap.size := by
  rcases Nat.lt_or_ge b w.heap.size with h' | h'
  ·exact h'
  ·simp [Array.getElem?_eq_none h'] at hb
 have hcc : Calls Tryz.prog 114 #[.pointer (some ⟨b, 0, none⟩)] w fun e w' => e = .returned (.tuple #[]) ∧ w'.heap[b]? = some (.cells #[.pointer (some ⟨b, 0, none⟩), v] 151 (0, 0)) ∧ w'.os = w.os ∧ w'.tape = w.tape ∧ w'.output = w.output ∧ w'.heap.size = w.heap.size ∧
   ∀ k, k ≠ b → w'.heap[k]? = w.heap[k]? := by
  rcases hp with rfl | rfl
  ·refine (cc_fresh b w (by rw [Lib.cell_of_heap hb]; rfl) (by simp [World.shape?, hb]) (Lib.frozen_of_heap hb 0)).mono ?_
   rintro e w' ⟨rfl, rfl⟩
   exact ⟨rfl, heap_setCell_same _ _ _ _ _ _ hb, rfl, rfl, rfl, by simp, fun k hk => heap_setCell_other _ _ _ _ hk⟩
  ·refine (cc_used b w (by rw [Lib.cell_of_heap hb]; rfl)).mono ?_
   rintro e w' ⟨rfl, rfl⟩
   exact ⟨rfl, hb, rfl, rfl, rfl, rfl, fun _ _ => rfl⟩
 go_enter Tryz.func72, Tryz.ntmps72
 go_wp2_with (go_at_call 114; refine hcc.mono ?_)
 rintro e w1 ⟨rfl, hbk, ho1, ho2, ho3, hs1, hk1⟩
 have hown1 : w1.ownsRowF 0 5 1 v l.length (Lib.byteCells l) :=
  hown.kept (row := some b) ⟨ho1, ho2, ho3, by omega, fun k _ hk => hk1 k (fun e => hk (by simp [e]))⟩ (Or.inr hne)
 have c0 : w1.cell? ⟨b, 0, none⟩ = some (.pointer (some ⟨b, 0, none⟩)) := by rw [Lib.cell_of_heap hbk]; rfl
 have c1 : w1.cell? ⟨b, 1, none⟩ = some v := by rw [Lib.cell_of_heap hbk]; rfl
 obtain ⟨v', w2, hrun, hown', hgrow, hat⟩ := app_exact (P := Tryz.prog) (w := w1) 148 9 5 i0 Tryz.underlying148 Tryz.underlying9 hi hz0 hz1 hz2 v l.length _ hown1 s (by unfold maxLen; omega) hlen
 have hlt1 : b < w1.heap.size := by omega
 have hb2 : w2.heap[b]? = some (.cells #[.pointer (some ⟨b, 0, none⟩), v] 151 (0, 0)) := by
  rw [hgrow.block b hlt1 (fun e => hne e.symm)]
  exact hbk
 have d0 : w2.cell? ⟨b, 0, none⟩ = some (.pointer (some ⟨b, 0, none⟩)) := by rw [Lib.cell_of_heap hb2]; rfl
 have d1 : w2.cell? ⟨b, 1, none⟩ = some v := by rw [Lib.cell_of_heap hb2]; rfl
 have f1 : w2.frozen? ⟨b, 1, none⟩ = false := Lib.frozen_of_heap hb2 1
 have hne' : v'.ownBlock ≠ some b := by
  rcases hat with h | h
  ·rw [h]; exact hne
  ·intro e; have := h b e; omega
 obtain ⟨ao, n', cap, rfl⟩ : ∃ ao n' cap, v' = .slice ao n' cap := by
  rcases hown'.2 with ⟨hv, _⟩ | ⟨g, cap, cur, fz, hv, _⟩
  ·exact ⟨_, _, _, hv⟩
  ·exact ⟨_, _, _, hv⟩
 go_wp2_with (at_builtin; refine wpList_app rfl _ _ 148 9 rfl _ rfl s rfl hrun ?_)
 go_ret2
 refine ⟨rfl, _, heap_setCell_same _ _ _ _ _ _ hb2, ?_, ?_, hne', hgrow.os.trans ho1, hgrow.tape.trans ho2, hgrow.output.trans ho3, ?_, ?_⟩
 ·exact hown'.kept (row := some b) ⟨rfl, rfl, rfl, by simp, fun k _ hk => heap_setCell_other _ _ _ _ (fun e => hk (by simp [e]))⟩ (Or.inr hne')
 ·rcases hat with h | h
  ·exact .inl h
  ·exact .inr fun k hk => by have := h k hk; omega
 ·have := hgrow.size; simp; omega
 ·intro k hk hkb hkv
  rw [heap_setCell_other _ _ _ _ hkb, hgrow.block k (by omega) (fun e => hkv e.symm), hk1 k hkb]
theorem freeze_other (w : World) (ad : Addr) (m k : Nat) (h : k ≠ ad.block) : (w.freeze ad m).heap[k]? = w.heap[k]? := by
 unfold World.freeze
 by_cases hm : m = 0
 ·simp [hm]
 ·rw [if_neg hm]
  simp only [Array.getElem?_modify]
  rw [if_neg (fun e => h e.symm)]
theorem freeze_rest (w : World) (ad : Addr) (m : Nat) : (w.freeze ad m).heap.size = w.heap.size ∧ (w.freeze ad m).os = w.os ∧ (w.freeze ad m).tape = w.tape ∧ (w.freeze ad m).output = w.output := by
 unfold World.freeze
 by_cases hm : m = 0
 ·simp [hm]
 ·rw [if_neg hm]
  exact ⟨by simp, rfl, rfl, rfl⟩
set_option maxHeartbeats 2000000 in
set_option maxRecDepth 100000 in
theorem str_calls (b : Nat) (p v : Value) (l : List UInt8) (w : World) (hbk : w.heap[b]? = some (.cells #[p, v] 151 (0, 0))) (hown : w.ownsRowF 0 5 1 v l.length (Lib.byteCells l)) (hne : v.ownBlock ≠ some b) (h0 : l ≠ []) :
  Calls Tryz.prog 74 #[.pointer (some ⟨b, 0, none⟩)] w fun e w' => e = .returned (.string ⟨l.toArray⟩) ∧ w'.heap[b]? = some (.cells #[p, v] 151 (0, 0)) ∧ w'.ownsRowF 0 5 1 v l.length (Lib.byteCells l) ∧
   w'.os = w.os ∧ w'.tape = w.tape ∧ w'.output = w.output ∧ w.heap.size ≤ w'.heap.size ∧ ∀ k, k ≠ b → v.ownBlock ≠ some k → w'.heap[k]? = w.heap[k]? := by
 have hl0 : l.length ≠ 0 := by simpa using h0
 obtain ⟨g, cap, cur, fz, rfl, hbg, hg, hfz, hnc, hcm, hcs, htake⟩ : ∃ g cap cur fz, v = .slice (some ⟨g, 0, none⟩) l.length cap ∧ 0 ≤ g ∧ w.heap[g]? = some (.cells cur 5 fz) ∧ fz.2 ≤ l.length * 1 ∧ l.length ≤ cap ∧ cap ≤ maxLen ∧ cur.size = cap * 1 ∧ cur.toList.take (l.length * 1) = Lib.byteCells l := by
  rcases hown.2 with ⟨_, hz⟩ | ⟨g, cap, cur, fz, hv, r⟩
  ·exact absurd hz hl0
  ·exact ⟨g, cap, cur, fz, hv, r⟩
 have hgb : g ≠ b := fun e => hne (by simp [Value.ownBlock, e])
 have c1 : w.drew.cell? ⟨b, 1, none⟩ = some (.slice (some ⟨g, 0, none⟩) l.length cap) := by
  have : w.drew.heap[b]? = some (.cells #[p, .slice (some ⟨g, 0, none⟩) l.length cap] 151 (0, 0)) := hbk
  rw [Lib.cell_of_heap this]; rfl
 have hSD : (Builtin.unsafeSliceData_ #[148] 188 #[.slice (some ⟨g, 0, none⟩) l.length cap]).run Tryz.prog w.drew = .ok (.pointer (some ⟨g, 0, none⟩)) w.drew :=
  Lib.run_unsafeSliceData_row _ _ _ _ _ _ (by omega)
 have hUS : (Builtin.unsafeString_ #[188, 3] 9 #[.pointer (some ⟨g, 0, none⟩), .int .i64 l.length]).run Tryz.prog w.drew = .ok (.string ⟨l.toArray⟩) (w.drew.freeze ⟨g, 0, none⟩ l.length) := by
  refine Lib.run_unsafeString_row w.drew 188 3 9 5 Tryz.underlying188 bX.cellsByte g cur.size (by have hg' : w.drew.heap[g]? = some (.cells cur 5 fz) := hg; simp [World.shape?, hg']) l h0 (by omega) (by unfold maxLen at hcm; omega) ?_
  intro j x hx
  have := hown.cells (g := g) rfl j (.int .u8 x.toNat) (by simp [Lib.byteCells, hx])
  exact this
 have hA : Lib.BuilderAtF 151 5 0 b p (Lib.byteCells l) w.drew := ⟨Nat.zero_le _, _, hbk, by rw [Lib.byteCells_length]; exact hown, hne⟩
 have hF := hA.froze (g := g) (cap := cap) (by rw [Lib.byteCells_length]; exact c1)
 rw [Lib.byteCells_length] at hF
 obtain ⟨_, v', hb', hown', _⟩ := hF
 rw [Lib.byteCells_length] at hown'
 have hb2 : (w.drew.freeze ⟨g, 0, none⟩ l.length).heap[b]? = some (.cells #[p, .slice (some ⟨g, 0, none⟩) l.length cap] 151 (0, 0)) := (freeze_other _ _ _ _ (fun e => hgb e.symm)).trans hbk
 have hv : v' = .slice (some ⟨g, 0, none⟩) l.length cap := by
  rw [hb2] at hb'
  simp at hb'
  exact hb'.symm
 subst hv
 obtain ⟨f1, f2, f3, f4⟩ := freeze_rest w.drew ⟨g, 0, none⟩ l.length
 have hend : ∀ k, k ≠ b → (Value.slice (some ⟨g, 0, none⟩) l.length cap).ownBlock ≠ some k → (w.drew.freeze ⟨g, 0, none⟩ l.length).heap[k]? = w.heap[k]? :=
  fun k _ hk => freeze_other _ _ _ _ (fun e => hk (by simp [Value.ownBlock, e]))
 have mixed := Tryz.lays169.mixed
 go_enter Tryz.func74, Tryz.ntmps74
 go_wp2
 go_region_o
 all_goals (go_wp2; go_ret; exact ⟨rfl, hb2, hown', f2, f3, f4, Nat.le_of_eq f1.symm, hend⟩)
end Go.Proofs.YtchnagdaljblnaaGreatDoor
namespace Go.Proofs.YtchnagdaljblnaaGreatDoor
open Go.Eng Go.Wh Go.Ver
set_option maxRecDepth 20000
theorem strCells_eq (s : List UInt8) : Lib.strCells ⟨s.toArray⟩ = Lib.byteCells s := by
 simp [Lib.strCells, Lib.byteCells]
theorem ws_spec (nb nr gb gr : Nat) (l s : List UInt8) (h1 : 900000 ≤ nb) (h2 : 900000 ≤ nr) (hd : nb ≠ nr) (hlen : l.length + s.length ≤ 140737488355328) :
  ACall Tryz.prog 72 [.ptr nb gb 0, dS s] [(nb, (gb, .bld 151 nr gr)), (nr, (gr, .brow 5 l))] [nb, nr] fun ps r => ∃ gr', ps = [(gb, .bld 151 nr gr'), (gr', .brow 5 (l ++ s))] ∧ r = .tup [dI s.length, .v .nilIface] := by
 refine acall_bld (xs := [.string ⟨s.toArray⟩]) (x := .tuple #[.int .i64 s.length, .nilIface]) ⟨_, Tryz.func72, rfl, rfl⟩ h1 h2 hd (fun C w => ?_) fun b p v w _ hb hp hown hne => ?_
 ·refine .tup _ _ rfl fun j c u hc hu => ?_
  match j, hc, hu with
  | 0, hc, hu => simp at hc hu; subst hc hu; exact .v _
  | 1, hc, hu => simp at hc hu; subst hc hu; exact .v _
  | j + 2, hc, hu => simp at hc
 ·refine (ws_calls b p v l ⟨s.toArray⟩ w hb hp hown hne (by simpa [ByteArray.size] using hlen)).mono ?_
  rintro e w' ⟨he, v', q1, q2, q3, q4, q5, q6, q7, q8, q9⟩
  refine ⟨by simpa [ByteArray.size] using he, _, v', q1, .inr rfl, ?_, q3, q4, q5, q6, q7, q8, q9⟩
  rw [strCells_eq] at q2
  simpa [ByteArray.size, Lib.byteCells] using q2
theorem str_spec (nb nr gb gr : Nat) (l : List UInt8) (h1 : 900000 ≤ nb) (h2 : 900000 ≤ nr) (hd : nb ≠ nr) (h0 : l ≠ []) :
  ACall Tryz.prog 74 [.ptr nb gb 0] [(nb, (gb, .bld 151 nr gr)), (nr, (gr, .brow 5 l))] [nb, nr] fun ps r => ∃ gr', ps = [(gb, .bld 151 nr gr'), (gr', .brow 5 l)] ∧ r = dS l := by
 refine acall_bld (xs := []) (x := .string ⟨l.toArray⟩) ⟨_, Tryz.func74, rfl, rfl⟩ h1 h2 hd (fun C w => .v _) fun b p v w _ hb hp hown hne => ?_
 refine (str_calls b p v l w hb hown hne h0).mono ?_
 rintro e w' ⟨he, q1, q2, q3, q4, q5, q6, q7⟩
 exact ⟨he, p, v, q1, hp, q2, .inl rfl, hne, q3, q4, q5, q6, fun k _ => q7 k⟩
end Go.Proofs.YtchnagdaljblnaaGreatDoor
namespace Go.Proofs.YtchnagdaljblnaaGreatDoor
open Go.Eng Go.Wh Go.Ver Go.RowKit Go.Lk
set_option maxRecDepth 20000
attribute [local irreducible] AG CallA CallT AWp PCall ACall AgC
@[go_sem] theorem ba_app (a b : Array UInt8) : (⟨a⟩ : ByteArray) ++ ⟨b⟩ = ⟨a ++ b⟩ := by
 apply ByteArray.ext
 simp
theorem wline_spec (ind : Bs) (n : Prs) (hi : ind.length ≤ 4) (hn : PrOk n) : PCall Tryz.prog 73 [dS ind, dP n] fun r => r = dS (wantL ind n) := by 
 refine pcall_of Tryz.func73 rfl rfl Tryz.ntmps73 (rs := [.tmp 4]) (tys := [9]) rfl rfl (by simp) ?_
 obtain ⟨a, b⟩ := n
 obtain ⟨hna, hnb⟩ := hn
 simp only at hna hnb
 unfold wantL
 simp only
 (refine awp_sr fun Y hY => ?_; simp [go_sem]; ((repeat' (first|(refine ag_x ?_;simp [go_sem])|intro _|apply And.intro|(apply hY;clear hY Y)));all_goals first|apply Hold.mk|omega|with_reducible assumption|skip))
 refine awp_seq_k fun K1 hK1 => ?_
 (refine awp_sr fun Y hY => ?_; simp [go_sem]; ((repeat' (first|(refine ag_x ?_;simp [go_sem])|intro _|apply And.intro|(apply hY;clear hY Y)));all_goals first|apply Hold.mk|omega|with_reducible assumption|skip))
 cases b with
 | nil =>
  (refine awp_if fun T F hT hF => ?_; simp [go_sem]; refine hT ?_; clear hT hF T F)
  (refine awp_sr fun Y hY => ?_; simp [go_sem]; ((repeat' (first|(refine ag_x ?_;simp [go_sem])|intro _|apply And.intro|(apply hY;clear hY Y)));all_goals first|apply Hold.mk|omega|with_reducible assumption|skip))
  (refine awp_ret ?_; simp [go_sem])
 | cons c b =>
  simp only [List.length_cons] at hnb
  (refine awp_if fun T F hT hF => ?_; simp [go_sem]; refine hF ?_; clear hT hF T F)
  refine awp_skip ?_
  refine hK1 _ ?_; clear hK1
  (refine awp_sr fun Y hY => ?_; simp [go_sem]; ((repeat' (first|(refine ag_x ?_;simp [go_sem])|intro _|apply And.intro|(apply hY;clear hY Y)));all_goals first|apply Hold.mk|omega|with_reducible assumption|skip))
  (refine awp_ret ?_; simp [go_sem])
theorem wanted_spec (ind : Bs) (n : Prs) (hi : ind.length ≤ 4) (hn : PrOk n) : PCall Tryz.prog 38 [dS ind, dP n] fun r => r = dS (wantL ind n) := by 
 refine pcall_of Tryz.func38 rfl rfl Tryz.ntmps38 (rs := [.tmp 4]) (tys := [9]) rfl rfl (by simp) ?_
 obtain ⟨a, b⟩ := n
 obtain ⟨hna, hnb⟩ := hn
 simp only at hna hnb
 unfold wantL
 simp only
 (refine awp_sr fun Y hY => ?_; simp [go_sem]; ((repeat' (first|(refine ag_x ?_;simp [go_sem])|intro _|apply And.intro|(apply hY;clear hY Y)));all_goals first|apply Hold.mk|omega|with_reducible assumption|skip))
 refine awp_seq_k fun K1 hK1 => ?_
 (refine awp_sr fun Y hY => ?_; simp [go_sem]; ((repeat' (first|(refine ag_x ?_;simp [go_sem])|intro _|apply And.intro|(apply hY;clear hY Y)));all_goals first|apply Hold.mk|omega|with_reducible assumption|skip))
 cases b with
 | nil =>
  (refine awp_if fun T F hT hF => ?_; simp [go_sem]; refine hT ?_; clear hT hF T F)
  (refine awp_sr fun Y hY => ?_; simp [go_sem]; ((repeat' (first|(refine ag_x ?_;simp [go_sem])|intro _|apply And.intro|(apply hY;clear hY Y)));all_goals first|apply Hold.mk|omega|with_reducible assumption|skip))
  (refine awp_ret ?_; simp [go_sem])
 | cons c b =>
  simp only [List.length_cons] at hnb
  (refine awp_if fun T F hT hF => ?_; simp [go_sem]; refine hF ?_; clear hT hF T F)
  refine awp_skip ?_
  refine hK1 _ ?_; clear hK1
  (refine awp_sr fun Y hY => ?_; simp [go_sem]; ((repeat' (first|(refine ag_x ?_;simp [go_sem])|intro _|apply And.intro|(apply hY;clear hY Y)));all_goals first|apply Hold.mk|omega|with_reducible assumption|skip))
  (refine awp_ret ?_; simp [go_sem])
set_option maxHeartbeats 8000000 in
theorem rText_spec (L : Lck) (hL : LkOk L) : PCall Tryz.prog 11 [dLk L] fun r => r = .tup [dS (if lockV L = true then textV L else []), dI (if lockV L = true then 0 else 1)] := by 
 refine pcall_of Tryz.func11 rfl rfl Tryz.ntmps11 (rs := [.tmp 2, .tmp 3]) (tys := [9, 27]) rfl rfl (by simp) ?_
 have CK := rLValid_spec L hL
 have hPS := fun i x r => @pksT_step L i x r
 have hP0 := pksT_zero L
 have hLV := @lockV_parts L
 have hLN := @lockV_needs L
 have hPL := @pksT_len L
 have hT : textV L = headT L ++ (preSum ++ (Lib.itoa (sumV (headT L) (headT L).length : Nat) ++ [10])) := rfl
 have hH : headT L = pksT L L.1.length ++ (wishH ++ (ndsT pre2 L.2.2 L.2.2.length ++ [10])) := rfl
 obtain ⟨P, N, W⟩ := L
 obtain ⟨hP, hN, hW, hP1, hN1, hW1⟩ := hL
 simp only at hP hN hW hP1 hN1 hW1 hPS hLV hLN hPL hH hT
 generalize lockV (P, N, W) = lk at *
 generalize textV (P, N, W) = tv at *
 generalize hpk : pksT (P, N, W) = pk at *
 generalize headT (P, N, W) = hd at *
 (refine awp_sr fun Y hY => ?_; simp [go_sem]; ((repeat' (first|(refine ag_x ?_;simp [go_sem])|intro _|apply And.intro|(apply hY;clear hY Y)));all_goals first|apply Hold.mk|omega|with_reducible assumption|skip))
 rename_i g1
 refine awp_seq_k fun K1 hK1 => ?_
 (refine awp_sr fun Y hY => ?_; simp [go_sem]; ((repeat' (first|(refine ag_x ?_;simp [go_sem])|intro _|apply And.intro|(apply hY;clear hY Y)));all_goals first|apply Hold.mk|omega|with_reducible assumption|skip))
 ((try refine CallT.toA ?_); refine callT_m (.inl ⟨rfl,rfl⟩) (by simp [go_sem]) ?_; intro args ha; simp [go_sem] at ha; subst ha; refine ⟨_, CK, ?_⟩; rintro _ rfl; simp [go_sem]; ((repeat' (first|(refine ag_x ?_;simp [go_sem])|intro _|apply And.intro|(apply hY;clear hY Y)));all_goals first|apply Hold.mk|omega|with_reducible assumption|skip))
 cases lk with
 | false =>
  (refine awp_if fun T F hT hF => ?_; simp [go_sem]; refine hT ?_; clear hT hF T F)
  (refine awp_sr fun Y hY => ?_; simp [go_sem]; ((repeat' (first|(refine ag_x ?_;simp [go_sem])|intro _|apply And.intro|(apply hY;clear hY Y)));all_goals first|apply Hold.mk|omega|with_reducible assumption|skip))
  (refine awp_ret ?_; simp [go_sem])
 | true =>
  (refine awp_if fun T F hT hF => ?_; simp [go_sem]; refine hF ?_; clear hT hF T F)
  refine awp_skip ?_
  refine hK1 _ ?_; clear hK1
  obtain ⟨v1, v2, v3, v4⟩ := hLV rfl
  have hN6 := hLN rfl
  have hPL1 := hPL (fun r hr => ⟨hN6 r hr, fun x hx => (hN1 r hr).2 x hx⟩) hP1
  (refine awp_sr fun Y hY => ?_; simp [go_sem]; ((repeat' (first|(refine ag_x ?_;simp [go_sem])|intro _|apply And.intro|(apply hY;clear hY Y)));all_goals first|apply Hold.mk|omega|with_reducible assumption|skip))
  refine awp_seq_k fun K3 hK3 => ?_
  (refine awp_sr fun Y hY => ?_; simp [go_sem]; ((repeat' (first|(refine ag_x ?_;simp [go_sem])|intro _|apply And.intro|(apply hY;clear hY Y)));all_goals first|apply Hold.mk|omega|with_reducible assumption|skip))
  refine awp_block ?_
  refine awp_loop (σ := Nat) (fun i => ⟨[(1, .ptr 1 g1 0), (4, dS (pk i)), (5, dI i)], [(1, g1, .box [dPs P, dNs N, dPs W])]⟩) (fun i => i ≤ P.length) (fun i => P.length - i) 0 ?_ ?_ ?_
  ·(refine cov_of ?_ ?_ <;> simp [go_sem, hP0, gemsH])
  ·simp
  intro i hi
  refine awp_seq_k fun K4 hK4 => ?_
  (refine awp_sr fun Y hY => ?_; simp [go_sem]; ((repeat' (first|(refine ag_x ?_;simp [go_sem])|intro _|apply And.intro|(apply hY;clear hY Y)));all_goals first|apply Hold.mk|omega|with_reducible assumption|skip))
  (refine awp_if fun T F hT hF => ?_; simp [go_sem]; refine BR.intro (fun h5 => hT ?_) (fun h5 => hF ?_); all_goals clear hT hF T F; try simp at h5) 
  ·refine awp_skip ?_
   refine hK4 _ ?_; clear hK4
   obtain ⟨x, hx⟩ : ∃ x, P[i]? = some x := ⟨_, List.getElem?_eq_getElem (by omega)⟩
   obtain ⟨r, hr⟩ : ∃ r, N[i]? = some r := ⟨_, List.getElem?_eq_getElem (by omega)⟩
   have hst := hPS i x r hx hr
   have hr6 := hN1 r (List.mem_of_getElem? hr)
   have hst2 := fun k y => @ndsT_step pre4 r k y
   have hst0 := ndsT_zero pre4 r
   have hpi : (pk i).length ≤ 840003245 := Nat.le_trans (hPL1 i) (Nat.le_trans (Nat.add_le_add_left (Nat.mul_le_mul_right _ (Nat.le_trans hi v1)) 5) (by decide))
   have hxl := hP1 x (List.mem_of_getElem? hx)
   have hpx : (pickL x).length ≤ 2000006 := by
    have q1 := hxl.1
    have q2 := hxl.2
    simp [pickL]; omega
   have hnl := ndsT_len (ind := pre4) (l := r) (by decide) hr6.2
   have hr66 := hN6 r (List.mem_of_getElem? hr)
   generalize pk i = pki at *
   refine awp_seq_k fun K6 hK6 => ?_
   refine awp_block ?_
   ((refine awp_dr (.qs [0, 1, 2, 4, 10, 12, 3, 5, 6, 7, 8, 9, 11, 13, 14, 15, 16, 17, 18] (.nil)) (by kernel_rfl) ?_ ?_ ?_ ?_); (kernel_rfl); (exact (by decide +kernel)); (kernel_rfl); intro Y hY; ((repeat' (first|(refine ag_x ?_;simp [go_sem, hx])|refine adr_nil ?_|((first|refine adr_qs fun Y hY=>?_|refine adr_y fun Y hY=>?_);simp [go_sem, hx])|intro _|apply And.intro|(apply hY;clear hY Y)));all_goals first|apply Hold.mk|omega|with_reducible assumption|skip))
   (refine awp_sr fun Y hY => ?_; simp [go_sem]; ((repeat' (first|(refine ag_x ?_;simp [go_sem])|intro _|apply And.intro|(apply hY;clear hY Y)));all_goals first|apply Hold.mk|omega|with_reducible assumption|skip))
   refine awp_block ?_
   generalize ndsT pre4 r = nt at *
   refine awp_loop (σ := Nat) (fun k => ⟨[(1, .ptr 1 g1 0), (4, dS (pki ++ (pickL x ++ nt k))), (5, dI i), (6, dI k)], [(1, g1, .box [dPs P, dNs N, dPs W])]⟩) (fun k => k ≤ r.length) (fun k => r.length - k) 0 ?_ ?_ ?_
   ·(refine cov_of ?_ ?_ <;> simp [go_sem, hst0, pickL])
   ·simp
   intro k hk
   have hnk : (nt k).length ≤ 12000048 := Nat.le_trans (hnl k) (Nat.le_trans (Nat.mul_le_mul_right _ (Nat.le_trans hk hr66)) (by decide))
   refine awp_seq_k fun K7 hK7 => ?_
   (refine awp_sr fun Y hY => ?_; simp [go_sem, hr]; ((repeat' (first|(refine ag_x ?_;simp [go_sem, hr])|intro _|apply And.intro|(apply hY;clear hY Y)));all_goals first|apply Hold.mk|omega|with_reducible assumption|skip))
   (refine awp_if fun T F hT hF => ?_; simp [go_sem]; refine BR.intro (fun h8 => hT ?_) (fun h8 => hF ?_); all_goals clear hT hF T F; try simp at h8) 
   ·refine awp_skip ?_
    refine hK7 _ ?_; clear hK7
    obtain ⟨y, hy⟩ : ∃ y, r[k]? = some y := ⟨_, List.getElem?_eq_getElem (by omega)⟩
    have hst3 := hst2 k y hy
    have hyl := hr6.2 y (List.mem_of_getElem? hy)
    have hwl := wantL_len pre4 y
    have WS := wanted_spec pre4 y (by decide) hyl
    have hp4 : pre4.length = 4 := rfl
    have q1 := hyl.1
    have q2 := hyl.2
    generalize wantL pre4 y = wy at *
    refine awp_seq_k fun K9 hK9 => ?_
    refine awp_block ?_
    (refine awp_r fun Y hY => ?_; simp [go_sem, hr, hy]; ((repeat' (first|(refine ag_x ?_;simp [go_sem, hr, hy])|intro _|apply And.intro|(apply hY;clear hY Y)));all_goals first|apply Hold.mk|omega|with_reducible assumption|skip))
    ((try refine CallT.toA ?_); refine callT_m (.inl ⟨rfl,rfl⟩) (by simp [go_sem]) ?_; intro args ha; simp [go_sem] at ha; subst ha; refine ⟨_, WS, ?_⟩; rintro _ rfl; simp [go_sem]; ((repeat' (first|(refine ag_x ?_;simp [go_sem])|intro _|apply And.intro|(apply hY;clear hY Y)));all_goals first|apply Hold.mk|omega|with_reducible assumption|skip))
    refine hK9 _ ?_; clear hK9
    (refine awp_r fun Y hY => ?_; simp [go_sem]; ((repeat' (first|(refine ag_x ?_;simp [go_sem])|intro _|apply And.intro|(apply hY;clear hY Y)));all_goals first|apply Hold.mk|omega|with_reducible assumption|skip))
    refine ⟨k + 1, ?_, by omega, by omega⟩
    (refine cov_of ?_ ?_ <;> simp [go_sem, hst3])
   ·refine awp_exit ?_
    simp only [go_sem]
    refine hK6 _ ?_; clear hK6
    have : k = r.length := by omega
    subst this
    (refine awp_r fun Y hY => ?_; simp [go_sem]; ((repeat' (first|(refine ag_x ?_;simp [go_sem])|intro _|apply And.intro|(apply hY;clear hY Y)));all_goals first|apply Hold.mk|omega|with_reducible assumption|skip))
    refine ⟨i + 1, ?_, by omega, by omega⟩
    (refine cov_of ?_ ?_ <;> simp [go_sem, hst])
  ·refine awp_exit ?_
   simp only [go_sem]
   refine hK3 _ ?_; clear hK3
   have : i = P.length := by omega
   subst this
   have hPL2 := hPL1 P.length
   have hWl := ndsT_len (ind := pre2) (l := W) (by decide) hW1
   have hst2 := fun k y => @ndsT_step pre2 W k y
   have hst0 := ndsT_zero pre2 W
   have hW8 := needsV_len v3
   have hpn : (pk P.length).length ≤ 840003245 := Nat.le_trans hPL2 (Nat.le_trans (Nat.add_le_add_left (Nat.mul_le_mul_right _ v1) 5) (by decide))
   have hhl := congrArg List.length hH
   simp only [List.length_append] at hhl
   generalize pk P.length = pkn at *
   generalize ndsT pre2 W = nt at *
   (refine awp_sr fun Y hY => ?_; simp [go_sem]; ((repeat' (first|(refine ag_x ?_;simp [go_sem])|intro _|apply And.intro|(apply hY;clear hY Y)));all_goals first|apply Hold.mk|omega|with_reducible assumption|skip))
   refine awp_seq_k fun K10 hK10 => ?_
   (refine awp_sr fun Y hY => ?_; simp [go_sem]; ((repeat' (first|(refine ag_x ?_;simp [go_sem])|intro _|apply And.intro|(apply hY;clear hY Y)));all_goals first|apply Hold.mk|omega|with_reducible assumption|skip))
   refine awp_block ?_
   refine awp_loop (σ := Nat) (fun k => ⟨[(1, .ptr 1 g1 0), (4, dS (pkn ++ (wishH ++ nt k))), (7, dI k)], [(1, g1, .box [dPs P, dNs N, dPs W])]⟩) (fun k => k ≤ W.length) (fun k => W.length - k) 0 ?_ ?_ ?_
   ·(refine cov_of ?_ ?_ <;> simp [go_sem, hst0, wishH])
   ·simp
   intro k hk
   have hnk : (nt k).length ≤ 16000064 := Nat.le_trans (hWl k) (Nat.le_trans (Nat.mul_le_mul_right _ (Nat.le_trans hk hW8)) (by decide))
   refine awp_seq_k fun K11 hK11 => ?_
   (refine awp_sr fun Y hY => ?_; simp [go_sem]; ((repeat' (first|(refine ag_x ?_;simp [go_sem])|intro _|apply And.intro|(apply hY;clear hY Y)));all_goals first|apply Hold.mk|omega|with_reducible assumption|skip))
   (refine awp_if fun T F hT hF => ?_; simp [go_sem]; refine BR.intro (fun h12 => hT ?_) (fun h12 => hF ?_); all_goals clear hT hF T F; try simp at h12)
   ·refine awp_skip ?_
    refine hK11 _ ?_; clear hK11
    obtain ⟨y, hy⟩ : ∃ y, W[k]? = some y := ⟨_, List.getElem?_eq_getElem (by omega)⟩
    have hst3 := hst2 k y hy
    have hyl := hW1 y (List.mem_of_getElem? hy)
    have hwl := wantL_len pre2 y
    have WS := wanted_spec pre2 y (by decide) hyl
    have hp2 : pre2.length = 2 := rfl
    have q1 := hyl.1
    have q2 := hyl.2
    have hw6 : wishH.length = 6 := rfl
    generalize wantL pre2 y = wy at *
    refine awp_seq_k fun K13 hK13 => ?_
    refine awp_block ?_
    (refine awp_r fun Y hY => ?_; simp [go_sem, hy]; ((repeat' (first|(refine ag_x ?_;simp [go_sem, hy])|intro _|apply And.intro|(apply hY;clear hY Y)));all_goals first|apply Hold.mk|omega|with_reducible assumption|skip))
    ((try refine CallT.toA ?_); refine callT_m (.inl ⟨rfl,rfl⟩) (by simp [go_sem]) ?_; intro args ha; simp [go_sem] at ha; subst ha; refine ⟨_, WS, ?_⟩; rintro _ rfl; simp [go_sem]; ((repeat' (first|(refine ag_x ?_;simp [go_sem])|intro _|apply And.intro|(apply hY;clear hY Y)));all_goals first|apply Hold.mk|omega|with_reducible assumption|skip))
    refine hK13 _ ?_; clear hK13
    (refine awp_r fun Y hY => ?_; simp [go_sem]; ((repeat' (first|(refine ag_x ?_;simp [go_sem])|intro _|apply And.intro|(apply hY;clear hY Y)));all_goals first|apply Hold.mk|omega|with_reducible assumption|skip))
    refine ⟨k + 1, ?_, by omega, by omega⟩
    (refine cov_of ?_ ?_ <;> simp [go_sem, hst3])
   ·refine awp_exit ?_
    simp only [go_sem]
    refine hK10 _ ?_; clear hK10
    have : k = W.length := by omega
    subst this
    have hWl2 := hWl W.length
    have e : pkn ++ (wishH ++ (nt W.length ++ [10])) = hd := hH.symm
    have hdl : hd.length ≤ 1000000000 := by
     rw [hhl]
     have e1 : P.length * 14000054 ≤ 60 * 14000054 := Nat.mul_le_mul_right _ v1
     have e2 : W.length * 2000008 ≤ 8 * 2000008 := Nat.mul_le_mul_right _ hW8
     have e4 : (nt W.length).length ≤ 16000064 := Nat.le_trans hWl2 (Nat.le_trans e2 (by decide))
     have e5 : wishH.length = 6 := rfl
     have e6 : ([10] : Bs).length = 1 := rfl
     rw [e5, e6]
     omega
    have SU := rsum_spec hd hdl
    have hsl := sumV_lt hd hd.length
    have IT := itoa_spec (sumV hd hd.length : Nat) (by omega) (by omega)
    have hil := Lib.itoa_length_le (sumV hd hd.length : Nat) (by omega) (by omega)
    generalize sumV hd hd.length = sm at *
    (refine awp_sr fun Y hY => ?_; simp [go_sem]; ((repeat' (first|(refine ag_x ?_;simp [go_sem])|intro _|apply And.intro|(apply hY;clear hY Y)));all_goals first|apply Hold.mk|omega|with_reducible assumption|skip))
    refine awp_cov (S' := ⟨[(4, dS hd)], []⟩) (by rw [← e]; (refine cov_of ?_ ?_ <;> simp [go_sem])) ?_
    clear e hH
    (refine awp_sr fun Y hY => ?_; simp [go_sem]; ((repeat' (first|(refine ag_x ?_;simp [go_sem])|intro _|apply And.intro|(apply hY;clear hY Y)));all_goals first|apply Hold.mk|omega|with_reducible assumption|skip))
    ((try refine CallT.toA ?_); refine callT_m (.inl ⟨rfl,rfl⟩) (by simp [go_sem]) ?_; intro args ha; simp [go_sem] at ha; subst ha; refine ⟨_, SU, ?_⟩; rintro _ rfl; simp [go_sem]; ((repeat' (first|(refine ag_x ?_;simp [go_sem])|intro _|apply And.intro|(apply hY;clear hY Y)));all_goals first|apply Hold.mk|omega|with_reducible assumption|skip))
    ((try refine CallT.toA ?_); refine callT_m (.inl ⟨rfl,rfl⟩) (by simp [go_sem]) ?_; intro args ha; simp [go_sem] at ha; subst ha; refine ⟨_, IT, ?_⟩; rintro _ rfl; simp [go_sem]; ((repeat' (first|(refine ag_x ?_;simp [go_sem])|intro _|apply And.intro|(apply hY;clear hY Y)));all_goals first|apply Hold.mk|omega|with_reducible assumption|skip))
    (refine awp_ret ?_; simp [go_sem, hT, preSum])
set_option maxHeartbeats 16000000 in
theorem lText_spec (L : Lck) (hL : LkOk L) : PCall Tryz.prog 36 [dLk L] fun r => r = .tup [dS (if lockV L = true then textV L else []), dI (if lockV L = true then 0 else 1)] := by 
 refine pcall_of Tryz.func36 rfl rfl Tryz.ntmps36 (rs := [.tmp 2, .tmp 3]) (tys := [9, 27]) rfl rfl (by simp) ?_
 have CK := lCheck_spec L hL
 have hPS := fun i x r => @pksT_step L i x r
 have hP0 := pksT_zero L
 have hLV := @lockV_parts L
 have hLN := @lockV_needs L
 have hPL := @pksT_len L
 have hT : textV L = headT L ++ (preSum ++ (Lib.itoa (sumV (headT L) (headT L).length : Nat) ++ [10])) := rfl
 have hH : headT L = pksT L L.1.length ++ (wishH ++ (ndsT pre2 L.2.2 L.2.2.length ++ [10])) := rfl
 obtain ⟨P, N, W⟩ := L
 obtain ⟨hP, hN, hW, hP1, hN1, hW1⟩ := hL
 simp only at hP hN hW hP1 hN1 hW1 hPS hLV hLN hPL hH hT
 generalize lockV (P, N, W) = lk at *
 generalize textV (P, N, W) = tv at *
 generalize hpk : pksT (P, N, W) = pk at *
 generalize headT (P, N, W) = hd at *
 (refine awp_sr fun Y hY => ?_; simp [go_sem]; ((repeat' (first|(refine ag_x ?_;simp [go_sem])|intro _|apply And.intro|(apply hY;clear hY Y)));all_goals first|apply Hold.mk|omega|with_reducible assumption|skip))
 rename_i g1
 refine awp_frzbox 1 rfl rfl ?_
 simp only [go_sem]
 refine awp_seq_k fun K1 hK1 => ?_
 (refine awp_sr fun Y hY => ?_; simp [go_sem]; ((repeat' (first|(refine ag_x ?_;simp [go_sem])|intro _|apply And.intro|(apply hY;clear hY Y)));all_goals first|apply Hold.mk|omega|with_reducible assumption|skip))
 ((try refine CallT.toA ?_); refine callT_m (.inl ⟨rfl,rfl⟩) (by simp [go_sem]) ?_; intro args ha; simp [go_sem] at ha; subst ha; refine ⟨_, CK, ?_⟩; rintro _ rfl; simp [go_sem]; ((repeat' (first|(refine ag_x ?_;simp [go_sem])|intro _|apply And.intro|(apply hY;clear hY Y)));all_goals first|apply Hold.mk|omega|with_reducible assumption|skip))
 (refine awp_sr fun Y hY => ?_; simp [go_sem]; ((repeat' (first|(refine ag_x ?_;simp [go_sem])|intro _|apply And.intro|(apply hY;clear hY Y)));all_goals first|apply Hold.mk|omega|with_reducible assumption|skip))
 cases lk with
 | false =>
  (refine awp_if fun T F hT hF => ?_; simp [go_sem]; refine hT ?_; clear hT hF T F)
  (refine awp_sr fun Y hY => ?_; simp [go_sem]; ((repeat' (first|(refine ag_x ?_;simp [go_sem])|intro _|apply And.intro|(apply hY;clear hY Y)));all_goals first|apply Hold.mk|omega|with_reducible assumption|skip))
  (refine awp_ret ?_; simp [go_sem])
 | true =>
  (refine awp_if fun T F hT hF => ?_; simp [go_sem]; refine hF ?_; clear hT hF T F)
  refine awp_skip ?_
  refine hK1 _ ?_; clear hK1
  obtain ⟨v1, v2, v3, v4⟩ := hLV rfl
  have hN6 := hLN rfl
  have hPL1 := hPL (fun r hr => ⟨hN6 r hr, fun x hx => (hN1 r hr).2 x hx⟩) hP1
  refine awp_bld 151 5 900000 900001 (by decide) (by decide) (by kernel_rfl) fun gb gr => ?_
  (refine awp_sr fun Y hY => ?_; simp [go_sem]; ((repeat' (first|(refine ag_x ?_;simp [go_sem])|intro _|apply And.intro|(apply hY;clear hY Y)));all_goals first|apply Hold.mk|omega|with_reducible assumption|skip))
  (refine callA_l [900000, 900001] (.inl ⟨rfl,rfl⟩) (by simp [go_sem]) ?_; intro args ha; simp [go_sem] at ha; subst ha; refine ⟨_, _, (ws_spec 900000 900001 gb gr [] _ (by decide) (by decide) (by decide) (by simp)), (by simp [go_sem]), ?_⟩; rintro ps r hps ⟨gr1, rfl, rfl⟩; simp [go_sem]; ((repeat' (first|(refine ag_x ?_;simp [go_sem])|intro _|apply And.intro|(apply hY;clear hY Y)));all_goals first|apply Hold.mk|omega|with_reducible assumption|skip))
  refine awp_seq_k fun K3 hK3 => ?_
  (refine awp_sr fun Y hY => ?_; simp [go_sem]; ((repeat' (first|(refine ag_x ?_;simp [go_sem])|intro _|apply And.intro|(apply hY;clear hY Y)));all_goals first|apply Hold.mk|omega|with_reducible assumption|skip))
  refine awp_block ?_
  refine awp_loop (σ := Nat × Nat) (fun x => ⟨[(1, .rd [dPs P, dNs N, dPs W]), (5, .ptr 900000 gb 0), (19, dPs P), (20, dI P.length), (21, dI x.1)], [(900000, (gb, .bld 151 900001 x.2)), (900001, (x.2, .brow 5 (pk x.1)))]⟩) (fun x => x.1 ≤ P.length) (fun x => P.length - x.1) (0, gr1) ?_ ?_ ?_
  ·(refine cov_of ?_ ?_ <;> simp [go_sem, hP0, gemsH])
  ·simp
  rintro ⟨i, gr⟩ hi
  simp only at hi
  (refine awp_sr fun Y hY => ?_; simp [go_sem]; ((repeat' (first|(refine ag_x ?_;simp [go_sem])|intro _|apply And.intro|(apply hY;clear hY Y)));all_goals first|apply Hold.mk|omega|with_reducible assumption|skip))
  refine awp_seq_k fun K4 hK4 => ?_
  (refine awp_if fun T F hT hF => ?_; simp [go_sem]; refine BR.intro (fun h5 => hT ?_) (fun h5 => hF ?_); all_goals clear hT hF T F; try simp at h5) 
  ·refine awp_skip ?_
   refine hK4 _ ?_; clear hK4
   obtain ⟨x, hx⟩ : ∃ x, P[i]? = some x := ⟨_, List.getElem?_eq_getElem (by omega)⟩
   obtain ⟨r, hr⟩ : ∃ r, N[i]? = some r := ⟨_, List.getElem?_eq_getElem (by omega)⟩
   have hst := hPS i x r hx hr
   have hr6 := hN1 r (List.mem_of_getElem? hr)
   have hst2 := fun k y => @ndsT_step pre4 r k y
   have hst0 := ndsT_zero pre4 r
   have hpi : (pk i).length ≤ 840003245 := Nat.le_trans (hPL1 i) (Nat.le_trans (Nat.add_le_add_left (Nat.mul_le_mul_right _ (Nat.le_trans hi v1)) 5) (by decide))
   have hxl := hP1 x (List.mem_of_getElem? hx)
   have q1 := hxl.1
   have q2 := hxl.2
   have hpx : (pickL x).length ≤ 2000006 := by simp [pickL]; omega
   have hnl := ndsT_len (ind := pre4) (l := r) (by decide) hr6.2
   have hr66 := hN6 r (List.mem_of_getElem? hr)
   generalize pk i = pki at *
   refine awp_seq_k fun K6 hK6 => ?_
   refine awp_block ?_
   (refine awp_sr fun Y hY => ?_; simp [go_sem, hx]; ((repeat' (first|(refine ag_x ?_;simp [go_sem, hx])|intro _|apply And.intro|(apply hY;clear hY Y)));all_goals first|apply Hold.mk|omega|with_reducible assumption|skip))
   rename_i g7
   refine awp_frzbox 7 rfl rfl ?_
   simp only [go_sem]
   (refine awp_sr fun Y hY => ?_; simp [go_sem]; ((repeat' (first|(refine ag_x ?_;simp [go_sem])|intro _|apply And.intro|(apply hY;clear hY Y)));all_goals first|apply Hold.mk|omega|with_reducible assumption|skip))
   (refine callA_l [900000, 900001] (.inl ⟨rfl,rfl⟩) (by simp [go_sem]) ?_; intro args ha; simp [go_sem] at ha; subst ha; refine ⟨_, _, (ws_spec 900000 900001 gb gr pki _ (by decide) (by decide) (by decide) (by simp; omega)), (by simp [go_sem]), ?_⟩; rintro ps r hps ⟨gr2, rfl, rfl⟩; simp [go_sem]; ((repeat' (first|(refine ag_x ?_;simp [go_sem])|intro _|apply And.intro|(apply hY;clear hY Y)));all_goals first|apply Hold.mk|omega|with_reducible assumption|skip))
   (refine awp_sr fun Y hY => ?_; simp [go_sem, hr]; ((repeat' (first|(refine ag_x ?_;simp [go_sem, hr])|intro _|apply And.intro|(apply hY;clear hY Y)));all_goals first|apply Hold.mk|omega|with_reducible assumption|skip))
   refine awp_block ?_
   generalize ndsT pre4 r = nt at *
   refine awp_loop (σ := Nat × Nat) (fun z => ⟨[(1, .rd [dPs P, dNs N, dPs W]), (5, .ptr 900000 gb 0), (19, dPs P), (20, dI P.length), (21, dI i), (39, dPs r), (40, dI r.length), (41, dI z.1)], [(900000, (gb, .bld 151 900001 z.2)), (900001, (z.2, .brow 5 (pki ++ (pickL x ++ nt z.1))))]⟩) (fun z => z.1 ≤ r.length) (fun z => r.length - z.1) (0, gr2) ?_ ?_ ?_
   ·(refine cov_of ?_ ?_ <;> simp [go_sem, hst0, pickL])
   ·simp
   rintro ⟨k, gr⟩ hk
   simp only at hk
   have hnk : (nt k).length ≤ 12000048 := Nat.le_trans (hnl k) (Nat.le_trans (Nat.mul_le_mul_right _ (Nat.le_trans hk hr66)) (by decide))
   (refine awp_sr fun Y hY => ?_; simp [go_sem]; ((repeat' (first|(refine ag_x ?_;simp [go_sem])|intro _|apply And.intro|(apply hY;clear hY Y)));all_goals first|apply Hold.mk|omega|with_reducible assumption|skip))
   refine awp_seq_k fun K7 hK7 => ?_
   (refine awp_if fun T F hT hF => ?_; simp [go_sem]; refine BR.intro (fun h8 => hT ?_) (fun h8 => hF ?_); all_goals clear hT hF T F; try simp at h8) 
   ·refine awp_skip ?_
    refine hK7 _ ?_; clear hK7
    obtain ⟨y, hy⟩ : ∃ y, r[k]? = some y := ⟨_, List.getElem?_eq_getElem (by omega)⟩
    have hst3 := hst2 k y hy
    have hyl := hr6.2 y (List.mem_of_getElem? hy)
    have hwl := wantL_len pre4 y
    have WS := wline_spec pre4 y (by decide) hyl
    have hp4 : pre4.length = 4 := rfl
    have q1 := hyl.1
    have q2 := hyl.2
    generalize wantL pre4 y = wy at *
    refine awp_seq_k fun K9 hK9 => ?_
    refine awp_block ?_
    (refine awp_sr fun Y hY => ?_; simp [go_sem, hy]; ((repeat' (first|(refine ag_x ?_;simp [go_sem, hy])|intro _|apply And.intro|(apply hY;clear hY Y)));all_goals first|apply Hold.mk|omega|with_reducible assumption|skip))
    rename_i g9
    refine awp_frzbox 9 rfl rfl ?_
    simp only [go_sem]
    (refine awp_r fun Y hY => ?_; simp [go_sem]; ((repeat' (first|(refine ag_x ?_;simp [go_sem])|intro _|apply And.intro|(apply hY;clear hY Y)));all_goals first|apply Hold.mk|omega|with_reducible assumption|skip))
    ((try refine CallT.toA ?_); refine callT_m (.inl ⟨rfl,rfl⟩) (by simp [go_sem]) ?_; intro args ha; simp [go_sem] at ha; subst ha; refine ⟨_, WS, ?_⟩; rintro _ rfl; simp [go_sem]; ((repeat' (first|(refine ag_x ?_;simp [go_sem])|intro _|apply And.intro|(apply hY;clear hY Y)));all_goals first|apply Hold.mk|omega|with_reducible assumption|skip))
    (refine callA_l [900000, 900001] (.inl ⟨rfl,rfl⟩) (by simp [go_sem]) ?_; intro args ha; simp [go_sem] at ha; subst ha; refine ⟨_, _, (ws_spec 900000 900001 gb gr (pki ++ (pickL x ++ nt k)) _ (by decide) (by decide) (by decide) (by simp; omega)), (by simp [go_sem]), ?_⟩; rintro ps r hps ⟨gr3, rfl, rfl⟩; simp [go_sem]; ((repeat' (first|(refine ag_x ?_;simp [go_sem])|intro _|apply And.intro|(apply hY;clear hY Y)));all_goals first|apply Hold.mk|omega|with_reducible assumption|skip))
    refine hK9 _ ?_; clear hK9
    (refine awp_r fun Y hY => ?_; simp [go_sem]; ((repeat' (first|(refine ag_x ?_;simp [go_sem])|intro _|apply And.intro|(apply hY;clear hY Y)));all_goals first|apply Hold.mk|omega|with_reducible assumption|skip))
    refine ⟨(k + 1, gr3), ?_, by simp only; omega, by simp only; omega⟩
    (refine cov_of ?_ ?_ <;> simp [go_sem, hst3])
   ·refine awp_exit ?_
    simp only [go_sem]
    refine hK6 _ ?_; clear hK6
    have : k = r.length := by omega
    subst this
    (refine awp_r fun Y hY => ?_; simp [go_sem]; ((repeat' (first|(refine ag_x ?_;simp [go_sem])|intro _|apply And.intro|(apply hY;clear hY Y)));all_goals first|apply Hold.mk|omega|with_reducible assumption|skip))
    refine ⟨(i + 1, gr), ?_, by simp only; omega, by simp only; omega⟩
    (refine cov_of ?_ ?_ <;> simp [go_sem, hst])
  ·refine awp_exit ?_
   simp only [go_sem]
   refine hK3 _ ?_; clear hK3
   have : i = P.length := by omega
   subst this
   have hPL2 := hPL1 P.length
   have hWl := ndsT_len (ind := pre2) (l := W) (by decide) hW1
   have hst2 := fun k y => @ndsT_step pre2 W k y
   have hst0 := ndsT_zero pre2 W
   have hW8 := needsV_len v3
   have hpn : (pk P.length).length ≤ 840003245 := Nat.le_trans hPL2 (Nat.le_trans (Nat.add_le_add_left (Nat.mul_le_mul_right _ v1) 5) (by decide))
   have hhl := congrArg List.length hH
   simp only [List.length_append] at hhl
   generalize pk P.length = pkn at *
   generalize ndsT pre2 W = nt at *
   have hw6 : wishH.length = 6 := rfl
   (refine awp_sr fun Y hY => ?_; simp [go_sem]; ((repeat' (first|(refine ag_x ?_;simp [go_sem])|intro _|apply And.intro|(apply hY;clear hY Y)));all_goals first|apply Hold.mk|omega|with_reducible assumption|skip))
   (refine callA_l [900000, 900001] (.inl ⟨rfl,rfl⟩) (by simp [go_sem]) ?_; intro args ha; simp [go_sem] at ha; subst ha; refine ⟨_, _, (ws_spec 900000 900001 gb gr pkn _ (by decide) (by decide) (by decide) (by simp; omega)), (by simp [go_sem]), ?_⟩; rintro ps r hps ⟨gr2, rfl, rfl⟩; simp [go_sem]; ((repeat' (first|(refine ag_x ?_;simp [go_sem])|intro _|apply And.intro|(apply hY;clear hY Y)));all_goals first|apply Hold.mk|omega|with_reducible assumption|skip))
   refine awp_seq_k fun K10 hK10 => ?_
   (refine awp_sr fun Y hY => ?_; simp [go_sem]; ((repeat' (first|(refine ag_x ?_;simp [go_sem])|intro _|apply And.intro|(apply hY;clear hY Y)));all_goals first|apply Hold.mk|omega|with_reducible assumption|skip))
   refine awp_block ?_
   refine awp_loop (σ := Nat × Nat) (fun z => ⟨[(5, .ptr 900000 gb 0), (52, dPs W), (53, dI W.length), (54, dI z.1)], [(900000, (gb, .bld 151 900001 z.2)), (900001, (z.2, .brow 5 (pkn ++ (wishH ++ nt z.1))))]⟩) (fun z => z.1 ≤ W.length) (fun z => W.length - z.1) (0, gr2) ?_ ?_ ?_
   ·(refine cov_of ?_ ?_ <;> simp [go_sem, hst0, wishH])
   ·simp
   rintro ⟨k, gr⟩ hk
   simp only at hk
   have hnk : (nt k).length ≤ 16000064 := Nat.le_trans (hWl k) (Nat.le_trans (Nat.mul_le_mul_right _ (Nat.le_trans hk hW8)) (by decide))
   (refine awp_sr fun Y hY => ?_; simp [go_sem]; ((repeat' (first|(refine ag_x ?_;simp [go_sem])|intro _|apply And.intro|(apply hY;clear hY Y)));all_goals first|apply Hold.mk|omega|with_reducible assumption|skip))
   refine awp_seq_k fun K11 hK11 => ?_
   (refine awp_if fun T F hT hF => ?_; simp [go_sem]; refine BR.intro (fun h12 => hT ?_) (fun h12 => hF ?_); all_goals clear hT hF T F; try simp at h12)
   ·refine awp_skip ?_
    refine hK11 _ ?_; clear hK11
    obtain ⟨y, hy⟩ : ∃ y, W[k]? = some y := ⟨_, List.getElem?_eq_getElem (by omega)⟩
    have hst3 := hst2 k y hy
    have hyl := hW1 y (List.mem_of_getElem? hy)
    have hwl := wantL_len pre2 y
    have WS := wline_spec pre2 y (by decide) hyl
    have hp2 : pre2.length = 2 := rfl
    have q1 := hyl.1
    have q2 := hyl.2
    generalize wantL pre2 y = wy at *
    refine awp_seq_k fun K13 hK13 => ?_
    refine awp_block ?_
    (refine awp_sr fun Y hY => ?_; simp [go_sem, hy]; ((repeat' (first|(refine ag_x ?_;simp [go_sem, hy])|intro _|apply And.intro|(apply hY;clear hY Y)));all_goals first|apply Hold.mk|omega|with_reducible assumption|skip))
    rename_i g11
    refine awp_frzbox 11 rfl rfl ?_
    simp only [go_sem]
    (refine awp_r fun Y hY => ?_; simp [go_sem]; ((repeat' (first|(refine ag_x ?_;simp [go_sem])|intro _|apply And.intro|(apply hY;clear hY Y)));all_goals first|apply Hold.mk|omega|with_reducible assumption|skip))
    ((try refine CallT.toA ?_); refine callT_m (.inl ⟨rfl,rfl⟩) (by simp [go_sem]) ?_; intro args ha; simp [go_sem] at ha; subst ha; refine ⟨_, WS, ?_⟩; rintro _ rfl; simp [go_sem]; ((repeat' (first|(refine ag_x ?_;simp [go_sem])|intro _|apply And.intro|(apply hY;clear hY Y)));all_goals first|apply Hold.mk|omega|with_reducible assumption|skip))
    (refine callA_l [900000, 900001] (.inl ⟨rfl,rfl⟩) (by simp [go_sem]) ?_; intro args ha; simp [go_sem] at ha; subst ha; refine ⟨_, _, (ws_spec 900000 900001 gb gr (pkn ++ (wishH ++ nt k)) _ (by decide) (by decide) (by decide) (by simp; omega)), (by simp [go_sem]), ?_⟩; rintro ps r hps ⟨gr3, rfl, rfl⟩; simp [go_sem]; ((repeat' (first|(refine ag_x ?_;simp [go_sem])|intro _|apply And.intro|(apply hY;clear hY Y)));all_goals first|apply Hold.mk|omega|with_reducible assumption|skip))
    refine hK13 _ ?_; clear hK13
    (refine awp_r fun Y hY => ?_; simp [go_sem]; ((repeat' (first|(refine ag_x ?_;simp [go_sem])|intro _|apply And.intro|(apply hY;clear hY Y)));all_goals first|apply Hold.mk|omega|with_reducible assumption|skip))
    refine ⟨(k + 1, gr3), ?_, by simp only; omega, by simp only; omega⟩
    (refine cov_of ?_ ?_ <;> simp [go_sem, hst3])
   ·refine awp_exit ?_
    simp only [go_sem]
    refine hK10 _ ?_; clear hK10
    have : k = W.length := by omega
    subst this
    have e : pkn ++ (wishH ++ (nt W.length ++ [10])) = hd := hH.symm
    have hdl : hd.length ≤ 1000000000 := by
     rw [hhl]
     have e6 : ([10] : Bs).length = 1 := rfl
     rw [hw6, e6]
     omega
    have hdn : hd ≠ [] := by rw [← e]; simp [wishH]
    have SU := sum_spec hd hdl
    have hsl := sumV_lt hd hd.length
    have IT := itoa_spec (sumV hd hd.length : Nat) (by omega) (by omega)
    have hil := Lib.itoa_length_le (sumV hd hd.length : Nat) (by omega) (by omega)
    generalize sumV hd hd.length = sm at *
    (refine awp_sr fun Y hY => ?_; simp [go_sem]; ((repeat' (first|(refine ag_x ?_;simp [go_sem])|intro _|apply And.intro|(apply hY;clear hY Y)));all_goals first|apply Hold.mk|omega|with_reducible assumption|skip))
    (refine callA_l [900000, 900001] (.inl ⟨rfl,rfl⟩) (by simp [go_sem]) ?_; intro args ha; simp [go_sem] at ha; subst ha; refine ⟨_, _, (ws_spec 900000 900001 gb gr (pkn ++ (wishH ++ nt W.length)) _ (by decide) (by decide) (by decide) (by simp; omega)), (by simp [go_sem]), ?_⟩; rintro ps r hps ⟨gr4, rfl, rfl⟩; simp [go_sem]; ((repeat' (first|(refine ag_x ?_;simp [go_sem])|intro _|apply And.intro|(apply hY;clear hY Y)));all_goals first|apply Hold.mk|omega|with_reducible assumption|skip))
    refine awp_cov (S' := ⟨[(5, .ptr 900000 gb 0)], [(900000, (gb, .bld 151 900001 gr4)), (900001, (gr4, .brow 5 hd))]⟩) (by rw [← e]; (refine cov_of ?_ ?_ <;> simp [go_sem])) ?_
    clear e hH
    (refine awp_sr fun Y hY => ?_; simp [go_sem]; ((repeat' (first|(refine ag_x ?_;simp [go_sem])|intro _|apply And.intro|(apply hY;clear hY Y)));all_goals first|apply Hold.mk|omega|with_reducible assumption|skip))
    (refine callA_l [900000, 900001] (.inl ⟨rfl,rfl⟩) (by simp [go_sem]) ?_; intro args ha; simp [go_sem] at ha; subst ha; refine ⟨_, _, (str_spec 900000 900001 gb gr4 hd (by decide) (by decide) (by decide) hdn), (by simp [go_sem]), ?_⟩; rintro ps r hps ⟨gr5, rfl, rfl⟩; simp [go_sem]; ((repeat' (first|(refine ag_x ?_;simp [go_sem])|intro _|apply And.intro|(apply hY;clear hY Y)));all_goals first|apply Hold.mk|omega|with_reducible assumption|skip))
    (refine callA_l [900000, 900001] (.inl ⟨rfl,rfl⟩) (by simp [go_sem]) ?_; intro args ha; simp [go_sem] at ha; subst ha; refine ⟨_, _, (str_spec 900000 900001 gb gr5 hd (by decide) (by decide) (by decide) hdn), (by simp [go_sem]), ?_⟩; rintro ps r hps ⟨gr6, rfl, rfl⟩; simp [go_sem]; ((repeat' (first|(refine ag_x ?_;simp [go_sem])|intro _|apply And.intro|(apply hY;clear hY Y)));all_goals first|apply Hold.mk|omega|with_reducible assumption|skip))
    ((try refine CallT.toA ?_); refine callT_m (.inl ⟨rfl,rfl⟩) (by simp [go_sem]) ?_; intro args ha; simp [go_sem] at ha; subst ha; refine ⟨_, SU, ?_⟩; rintro _ rfl; simp [go_sem]; ((repeat' (first|(refine ag_x ?_;simp [go_sem])|intro _|apply And.intro|(apply hY;clear hY Y)));all_goals first|apply Hold.mk|omega|with_reducible assumption|skip))
    ((try refine CallT.toA ?_); refine callT_m (.inl ⟨rfl,rfl⟩) (by simp [go_sem]) ?_; intro args ha; simp [go_sem] at ha; subst ha; refine ⟨_, IT, ?_⟩; rintro _ rfl; simp [go_sem]; ((repeat' (first|(refine ag_x ?_;simp [go_sem])|intro _|apply And.intro|(apply hY;clear hY Y)));all_goals first|apply Hold.mk|omega|with_reducible assumption|skip))
    (refine awp_ret ?_; simp [go_sem, hT, preSum])
end Go.Proofs.YtchnagdaljblnaaGreatDoor
