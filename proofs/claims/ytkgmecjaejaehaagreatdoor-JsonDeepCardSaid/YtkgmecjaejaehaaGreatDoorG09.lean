/- Part of a proof: see the last text. -/
import Derived.Test.YtkgmecjaejaehaaGreatDoorG08
import Derived.Test.YtkgmecjaejaehaaGreatDoorG05
import Derived.Laws.Pointers
import Derived.Laws.LoneSync
import Derived.RegionTactic
import Derived.RegionCalls
import Derived.ChangeAlike
import Derived.Lib.SplitLaws
import Derived.Lib.CountLaws
set_option linter.unusedVariables false
set_option linter.unusedSimpArgs false
namespace Go.Proofs.YtkgmecjaejaehaaGreatDoor
open Go.Eng Go.Js
set_option maxRecDepth 20000
attribute [local irreducible] AG CallA CallT AWp PCall ACall XCall AgC
abbrev nP : D := .v (.pointer none)
abbrev nS : D := .v (.slice none 0 0)
abbrev zN : List D := [dS [], dI 0, dS [], nP, nS]
abbrev lfN (v : Bs) (p : Int) : List D := [dS v, dI p, dS [], nP, nS]
abbrev chN (c : UInt8) (v : Bs) (p : Int) : List D := [dS [], dI 0, dS [c], .rd (lfN v p), nS]
abbrev chM (c : UInt8) (g2 : Nat) : List D := [dS [], dI 0, dS [c], .ptr 900042 g2 0, nS]
theorem leaf_spec (g gR : Nat) (v : Bs) (p : Int) (rc : List D) : ACall Tryz.prog 221 [.ptr 900042 g 0, dS [], dS v, dI p, .ptr 900040 gR 0] [(900042, (g, .box zN)), (900040, (gR, .box rc))] [900042, 900040] fun ps r => ps = [(g, .box (lfN v p)), (gR, .box rc)] ∧ r = .tup [] := by
 refine acall_of Tryz.func221 rfl rfl Tryz.ntmps221 (rs := []) (tys := []) rfl rfl (by simp) (by simp [notFroz]) ?_
 refine awp_seq_k fun K1 hK1 => ?_
 (refine awp_sr fun Y Yh => ?_; simp [go_sem]; ((repeat' (first|(refine ag_x ?_;simp [go_sem])|intro _|apply And.intro|(apply Yh;clear Yh Y)));all_goals first|apply Hold.mk|omega|with_reducible assumption|skip))
 (refine awp_if fun T F hT hF => ?_; simp [go_sem]; refine hT ?_; clear hT hF T F)
 refine awp_seq_k fun K2 hK2 => ?_
 (refine awp_sr fun Y Yh => ?_; simp [go_sem]; ((repeat' (first|(refine ag_x ?_;simp [go_sem])|intro _|apply And.intro|(apply Yh;clear Yh Y)));all_goals first|apply Hold.mk|omega|with_reducible assumption|skip))
 (refine awp_if fun T F hT hF => ?_; simp [go_sem]; refine hT ?_; clear hT hF T F)
 (refine awp_sr fun Y Yh => ?_; simp [go_sem]; ((repeat' (first|(refine ag_x ?_;simp [go_sem])|intro _|apply And.intro|(apply Yh;clear Yh Y)));all_goals first|apply Hold.mk|omega|with_reducible assumption|skip))
 (refine awp_r fun Y Yh => ?_; simp [go_sem]; ((repeat' (first|(refine ag_x ?_;simp [go_sem])|intro _|apply And.intro|(apply Yh;clear Yh Y)));all_goals first|apply Hold.mk|omega|with_reducible assumption|skip))
 refine hK2 _ ?_; clear hK2
 (refine awp_ret ?_; simp [go_sem, retA])
theorem chain_spec (g gR : Nat) (c : UInt8) (v : Bs) (p : Int) (rc : List D) : ACall Tryz.prog 221 [.ptr 900043 g 0, dS [c], dS v, dI p, .ptr 900040 gR 0] [(900043, (g, .box zN)), (900040, (gR, .box rc))] [900043, 900042, 900040] fun ps r => ∃ g2, ps = [(g, .box (chM c g2)), (g2, .box (lfN v p)), (gR, .box rc)] ∧ r = .tup [] := by
 refine acall_of Tryz.func221 rfl rfl Tryz.ntmps221 (rs := []) (tys := []) rfl rfl (by simp) (by simp [notFroz]) ?_
 refine awp_seq_k fun K1 hK1 => ?_
 (refine awp_sr fun Y Yh => ?_; simp [go_sem]; ((repeat' (first|(refine ag_x ?_;simp [go_sem])|intro _|apply And.intro|(apply Yh;clear Yh Y)));all_goals first|apply Hold.mk|omega|with_reducible assumption|skip))
 (refine awp_if fun T F hT hF => ?_; simp [go_sem]; refine hF ?_; clear hT hF T F)
 refine awp_skip ?_
 refine hK1 _ ?_; clear hK1
 (refine awp_sr fun Y Yh => ?_; simp [go_sem]; ((repeat' (first|(refine ag_x ?_;simp [go_sem])|intro _|apply And.intro|(apply Yh;clear Yh Y)));all_goals first|apply Hold.mk|omega|with_reducible assumption|skip))
 (refine awp_if fun T F hT hF => ?_; simp [go_sem]; refine hF ?_; clear hT hF T F)
 (refine awp_seq ?_; refine awp_ags ?_; simp only [AGs])
 (refine ag_true rfl ?_; simp [go_sem])
 (refine ag_true rfl ?_; simp [go_sem])
 (refine ag_true rfl ?_; simp [go_sem])
 (refine ag_true rfl ?_; simp [go_sem])
 (refine ag_nil true rfl (by simp [dstOk]) (by simp) (by first | exact .inl ⟨by kernel_rfl, rfl⟩ | exact .inr ⟨by kernel_rfl, rfl⟩) ?_; simp [go_sem, isNilD, nOp])
 (refine awp_if fun T F hT hF => ?_; simp [go_sem]; refine hF ?_; clear hT hF T F)
 (refine awp_sr fun Y Yh => ?_; simp [go_sem]; ((repeat' (first|(refine ag_x ?_;simp [go_sem])|intro _|apply And.intro|(apply Yh;clear Yh Y)));all_goals first|apply Hold.mk|omega|with_reducible assumption|skip))
 (refine awp_sr fun Y Yh => ?_; simp [go_sem]; ((repeat' (first|(refine ag_x ?_;simp [go_sem])|intro _|apply And.intro|(apply Yh;clear Yh Y)));all_goals first|apply Hold.mk|omega|with_reducible assumption|skip))
 refine awp_renpb 230 900042 900043 3 rfl rfl (by decide) (by decide) rfl (by decide) fun g2 => ?_
 simp only [go_sem, List.set]
 (refine awp_r fun Y Yh => ?_; simp [go_sem]; ((repeat' (first|(refine ag_x ?_;simp [go_sem])|intro _|apply And.intro|(apply Yh;clear Yh Y)));all_goals first|apply Hold.mk|omega|with_reducible assumption|skip))
 (refine callA_l [900042, 900040] (by first|exact .inl ⟨rfl,rfl⟩|exact .inr rfl) (by simp [go_sem]) ?_; intro args ha; simp [go_sem] at ha; subst ha; refine ⟨_, _, (leaf_spec g2 gR v p rc), (by simp [go_sem]), ?_⟩; rintro ps r hps ⟨rfl, rfl⟩; simp [go_sem]; ((repeat' (first|(refine ag_x ?_;simp [go_sem])|intro _|apply And.intro|(apply Yh;clear Yh Y)));all_goals first|apply Hold.mk|omega|with_reducible assumption|skip))
 unfold retA
 simp [go_sem, notFroz]
def mpL (f : Nat → Int) : List D := (List.range 256).map fun i => .v (.int .u8 (f i))
def rC (t0 ts : D) (f : Nat → Int) : List D := dS [] :: dI 0 :: dS [] :: nP :: t0 :: ts :: mpL f
@[go_sem] theorem mpL_len (f : Nat → Int) : (mpL f).length = 256 := by simp [mpL]
@[go_sem] theorem rC_len (t0 ts : D) (f : Nat → Int) : (rC t0 ts f).length = 262 := by simp [rC, mpL_len]
theorem mpL_get (f : Nat → Int) {c : Nat} (h : c < 256) : (mpL f)[c]? = some (.v (.int .u8 (f c))) := by simp [mpL, h]
theorem mpL_drop (f : Nat → Int) {c : Nat} (h : c < 256) : (mpL f).drop c = .v (.int .u8 (f c)) :: (mpL f).drop (c + 1) := by
 rw [List.drop_eq_getElem_cons (by rw [mpL_len]; exact h)]
 congr 1
 simp [mpL]
theorem rC_drop (t0 ts : D) (f : Nat → Int) {c : Nat} (h : c < 256) : (rC t0 ts f).drop (6 + c) = .v (.int .u8 (f c)) :: (rC t0 ts f).drop (6 + c + 1) := by
 have e : 6 + c = c + 6 := Nat.add_comm _ _
 rw [e]
 unfold rC
 simp only [List.drop_succ_cons]
 exact mpL_drop f h
theorem rC_put (t0 ts : D) (f : Nat → Int) {c : Nat} (h : c < 256) (x : Int) : (rC t0 ts f).take (6 + c) ++ (.v (.int .u8 x) :: (rC t0 ts f).drop (6 + c + 1)) = rC t0 ts (fun i => if i = c then x else f i) := by
 have e : 6 + c = c + 6 := Nat.add_comm _ _
 rw [e]
 unfold rC
 simp only [List.drop_succ_cons, List.take_succ_cons, List.cons_append]
 congr 6
 have e2 : (mpL f).take c ++ (.v (.int .u8 x) :: (mpL f).drop (c + 1)) = (mpL f).set c (.v (.int .u8 x)) := by
  rw [List.set_eq_take_append_cons_drop, if_pos (by rw [mpL_len]; exact h)]
 rw [e2]
 apply List.ext_getElem?
 intro i
 rw [List.getElem?_set, mpL_len]
 by_cases hi : i < 256
 ·rw [mpL_get _ hi, mpL_get _ hi]
  by_cases e : c = i
  ·subst e; simp [h]
  ·rw [if_neg e, if_neg (Ne.symm e)]
 ·rw [if_neg (by omega), List.getElem?_eq_none (by rw [mpL_len]; omega), List.getElem?_eq_none (by rw [mpL_len]; omega)]
@[go_sem] theorem rC_d4 (t0 ts : D) (f : Nat → Int) : (rC t0 ts f).drop 4 = t0 :: ts :: mpL f := rfl
@[go_sem] theorem rC_d5 (t0 ts : D) (f : Nat → Int) : (rC t0 ts f).drop 5 = ts :: mpL f := rfl
@[go_sem] theorem rC_d6 (t0 ts : D) (f : Nat → Int) : (rC t0 ts f).drop 6 = mpL f := rfl
@[go_sem] theorem rC_g4 (t0 ts : D) (f : Nat → Int) : (rC t0 ts f)[4]? = some t0 := rfl
@[go_sem] theorem rC_g5 (t0 ts : D) (f : Nat → Int) : (rC t0 ts f)[5]? = some ts := rfl
set_option maxHeartbeats 8000000 in
theorem split_spec (g gR i j : Nat) (hij : (i = 0 ∧ j = 1) ∨ (i = 1 ∧ j = 0)) (c c' : UInt8) (v v' : Bs) (p p' : Int) (t0 : D) (f : Nat → Int) (hc : c ≠ c') (h1 : f c.toNat = i) (h2 : f c'.toNat = j) :
  ACall Tryz.prog 221 [.ptr 900043 g 0, dS [c'], dS v', dI p', .ptr 900040 gR 0] [(900043, (g, .box (chN c v p))), (900040, (gR, .box (rC t0 (dI 3) f)))] [900043, 900044, 900042, 900040] fun ps r =>
   ∃ gt g2, ps = [(g, .box [dS [], dI 0, dS [], nP, .own 900044 gt]), (gt, .row 270 1 (((List.replicate 3 [nP]).set i [.rd (lfN v p)]).set j [.ptr 900042 g2 0])), (g2, .box (lfN v' p')), (gR, .box (rC t0 (dI 3) f))] ∧ r = .tup [] := by
 refine acall_of Tryz.func221 rfl rfl Tryz.ntmps221 (rs := []) (tys := []) rfl rfl (by simp) (by simp [notFroz]) ?_
 refine awp_seq_k fun K1 hK1 => ?_
 (refine awp_sr fun Y Yh => ?_; simp [go_sem]; ((repeat' (first|(refine ag_x ?_;simp [go_sem])|intro _|apply And.intro|(apply Yh;clear Yh Y)));all_goals first|apply Hold.mk|omega|with_reducible assumption|skip))
 (refine awp_if fun T F hT hF => ?_; simp [go_sem]; refine hF ?_; clear hT hF T F)
 refine awp_skip ?_
 refine hK1 _ ?_; clear hK1
 (refine awp_sr fun Y Yh => ?_; simp [go_sem]; ((repeat' (first|(refine ag_x ?_;simp [go_sem])|intro _|apply And.intro|(apply Yh;clear Yh Y)));all_goals first|apply Hold.mk|omega|with_reducible assumption|skip))
 (refine awp_if fun T F hT hF => ?_; simp [go_sem]; refine hT ?_; clear hT hF T F)
 (refine awp_sr fun Y Yh => ?_; simp [go_sem]; ((repeat' (first|(refine ag_x ?_;simp [go_sem])|intro _|apply And.intro|(apply Yh;clear Yh Y)));all_goals first|apply Hold.mk|omega|with_reducible assumption|skip))
 refine awp_seq_k fun K2 hK2 => ?_
 refine awp_block ?_
 refine awp_loop (σ := Unit) (fun _ => ⟨[(10, dI 0), (0, .ptr 900043 g 0), (1, dS [c']), (2, dS v'), (3, dI p'), (4, .ptr 900040 gR 0)], [(900043, (g, .box (chN c v p))), (900040, (gR, .box (rC t0 (dI 3) f)))]⟩) (fun _ => True) (fun _ => 0) () (by (refine cov_of ?_ ?_ <;> simp [go_sem])) trivial ?_
 rintro ⟨⟩ _
 refine awp_seq_k fun K3 hK3 => ?_
 (refine awp_sr fun Y Yh => ?_; simp [go_sem]; ((repeat' (first|(refine ag_false ?_ ?_ ?_;(focus (simp [go_sem, undef];done));(focus (simp [go_sem];done));simp [go_sem])|(refine ag_true ?_ ?_;(focus (simp [go_sem, undef];done));simp [go_sem])|(refine ag_x ?_;simp [go_sem, undef])|intro _|apply And.intro|(apply Yh;clear Yh Y)));all_goals first|apply Hold.mk|omega|with_reducible assumption|skip))
 (refine awp_if fun T F hT hF => ?_; simp [go_sem]; refine hT ?_; clear hT hF T F)
 refine awp_skip ?_
 refine hK3 _ ?_; clear hK3
 refine awp_seq_k fun K4 hK4 => ?_
 refine awp_block ?_
 ((refine awp_dr (.qs [0, 1, 2, 4, 6, 7, 8, 3, 5, 9] (.nil)) (by kernel_rfl) ?_ ?_ ?_ ?_); (kernel_rfl); (exact (by decide +kernel)); (kernel_rfl); intro Y Yh; ((repeat' (first|(refine ag_x ?_;simp [go_sem])|refine adr_nil ?_|((first|refine adr_qs fun Y Yh=>?_|refine adr_y fun Y Yh=>?_);simp [go_sem])|intro _|apply And.intro|(apply Yh;clear Yh Y)));all_goals first|apply Hold.mk|omega|with_reducible assumption|skip))
 have hne : ¬ c.toNat = c'.toNat := fun h => hc (UInt8.toNat_inj.1 h)
 (refine awp_if fun T F hT hF => ?_; simp [go_sem, hne]; refine hT ?_; clear hT hF T F)
 refine awp_exit ?_
 simp only [go_sem]
 refine hK2 _ ?_; clear hK2
 (refine awp_sr fun Y Yh => ?_; simp [go_sem]; ((repeat' (first|(refine ag_x ?_;simp [go_sem])|intro _|apply And.intro|(apply Yh;clear Yh Y)));all_goals first|apply Hold.mk|omega|with_reducible assumption|skip))
 (refine awp_if fun T F hT hF => ?_; simp [go_sem]; refine hF ?_; clear hT hF T F)
 (refine awp_sr fun Y Yh => ?_; simp [go_sem]; ((repeat' (first|(refine ag_x ?_;simp [go_sem])|intro _|apply And.intro|(apply Yh;clear Yh Y)));all_goals first|apply Hold.mk|omega|with_reducible assumption|skip))
 (refine awp_if fun T F hT hF => ?_; simp [go_sem]; refine hT ?_; clear hT hF T F)
 (refine awp_sr fun Y Yh => ?_; simp [go_sem]; ((repeat' (first|(refine ag_x ?_;simp [go_sem])|intro _|apply And.intro|(apply Yh;clear Yh Y)));all_goals first|apply Hold.mk|omega|with_reducible assumption|skip))
 refine awp_seq_k fun K5 hK5 => ?_
 (refine awp_sr fun Y Yh => ?_; simp [go_sem]; ((repeat' (first|(refine ag_x ?_;simp [go_sem])|intro _|apply And.intro|(apply Yh;clear Yh Y)));all_goals first|apply Hold.mk|omega|with_reducible assumption|skip))
 (refine awp_if fun T F hT hF => ?_; simp [go_sem]; refine hT ?_; clear hT hF T F)
 (refine awp_r fun Y Yh => ?_; simp [go_sem]; ((repeat' (first|(refine ag_x ?_;simp [go_sem])|intro _|apply And.intro|(apply Yh;clear Yh Y)));all_goals first|apply Hold.mk|omega|with_reducible assumption|skip))
 refine hK5 _ ?_; clear hK5
 (refine awp_sr fun Y Yh => ?_; simp [go_sem]; ((repeat' (first|(refine ag_x ?_;simp [go_sem])|intro _|apply And.intro|(apply Yh;clear Yh Y)));all_goals first|apply Hold.mk|omega|with_reducible assumption|skip))
 refine awp_renbox 12 900042 rfl rfl (by decide) fun g2 => ?_
 simp only [go_sem]
 (refine awp_sr fun Y Yh => ?_; simp [go_sem]; ((repeat' (first|(refine ag_x ?_;simp [go_sem])|intro _|apply And.intro|(apply Yh;clear Yh Y)));all_goals first|apply Hold.mk|omega|with_reducible assumption|skip))
 refine awp_renrb 107 900044 900043 4 rfl rfl (by decide) (by decide) rfl (by decide) fun gt => ?_
 simp only [go_sem, List.set]
 have hcl : c.toNat < 256 := c.toNat_lt
 have hcl' : c'.toNat < 256 := c'.toNat_lt
 rcases hij with ⟨rfl, rfl⟩ | ⟨rfl, rfl⟩
 ·((refine awp_dr (.qs [0, 1, 2, 4, 5, 6, 7, 10, 11, 14, 3, 8, 9, 12, 13, 15] (.one 16 (.nil))) (by kernel_rfl) ?_ ?_ ?_ ?_); (kernel_rfl); (exact (by decide +kernel)); (kernel_rfl); intro Y Yh; ((repeat' (first|(refine ag_x ?_;simp [go_sem, rC_drop t0 (dI 3) f hcl, h1])|refine adr_nil ?_|((first|refine adr_qs fun Y Yh=>?_|refine adr_y fun Y Yh=>?_);simp [go_sem, rC_drop t0 (dI 3) f hcl, h1])|intro _|apply And.intro|(apply Yh;clear Yh Y)));all_goals first|apply Hold.mk|omega|with_reducible assumption|skip))
  ((refine awp_dr (.qs [0, 1, 2, 4, 5, 6, 7, 8, 9, 11, 3, 10, 12] (.one 13 (.nil))) (by kernel_rfl) ?_ ?_ ?_ ?_); (kernel_rfl); (exact (by decide +kernel)); (kernel_rfl); intro Y Yh; ((repeat' (first|(refine ag_x ?_;simp [go_sem, rC_drop t0 (dI 3) f hcl', h2])|refine adr_nil ?_|((first|refine adr_qs fun Y Yh=>?_|refine adr_y fun Y Yh=>?_);simp [go_sem, rC_drop t0 (dI 3) f hcl', h2])|intro _|apply And.intro|(apply Yh;clear Yh Y)));all_goals first|apply Hold.mk|omega|with_reducible assumption|skip))
  (refine awp_sr fun Y Yh => ?_; simp [go_sem]; ((repeat' (first|(refine ag_x ?_;simp [go_sem])|intro _|apply And.intro|(apply Yh;clear Yh Y)));all_goals first|apply Hold.mk|omega|with_reducible assumption|skip))
  (refine awp_sr fun Y Yh => ?_; simp [go_sem]; ((repeat' (first|(refine ag_x ?_;simp [go_sem])|intro _|apply And.intro|(apply Yh;clear Yh Y)));all_goals first|apply Hold.mk|omega|with_reducible assumption|skip))
  (refine awp_r fun Y Yh => ?_; simp [go_sem]; ((repeat' (first|(refine ag_x ?_;simp [go_sem])|intro _|apply And.intro|(apply Yh;clear Yh Y)));all_goals first|apply Hold.mk|omega|with_reducible assumption|skip))
  (refine callA_l [900042, 900040] (by first|exact .inl ⟨rfl,rfl⟩|exact .inr rfl) (by simp [go_sem]) ?_; intro args ha; simp [go_sem] at ha; subst ha; refine ⟨_, _, (leaf_spec g2 gR v' p' (rC t0 (dI 3) f)), (by simp [go_sem]), ?_⟩; rintro ps r hps ⟨rfl, rfl⟩; simp [go_sem]; ((repeat' (first|(refine ag_x ?_;simp [go_sem])|intro _|apply And.intro|(apply Yh;clear Yh Y)));all_goals first|apply Hold.mk|omega|with_reducible assumption|skip))
  unfold retA
  simp [go_sem, notFroz]
 ·((refine awp_dr (.qs [0, 1, 2, 4, 5, 6, 7, 10, 11, 14, 3, 8, 9, 12, 13, 15] (.one 16 (.nil))) (by kernel_rfl) ?_ ?_ ?_ ?_); (kernel_rfl); (exact (by decide +kernel)); (kernel_rfl); intro Y Yh; ((repeat' (first|(refine ag_x ?_;simp [go_sem, rC_drop t0 (dI 3) f hcl, h1])|refine adr_nil ?_|((first|refine adr_qs fun Y Yh=>?_|refine adr_y fun Y Yh=>?_);simp [go_sem, rC_drop t0 (dI 3) f hcl, h1])|intro _|apply And.intro|(apply Yh;clear Yh Y)));all_goals first|apply Hold.mk|omega|with_reducible assumption|skip))
  ((refine awp_dr (.qs [0, 1, 2, 4, 5, 6, 7, 8, 9, 11, 3, 10, 12] (.one 13 (.nil))) (by kernel_rfl) ?_ ?_ ?_ ?_); (kernel_rfl); (exact (by decide +kernel)); (kernel_rfl); intro Y Yh; ((repeat' (first|(refine ag_x ?_;simp [go_sem, rC_drop t0 (dI 3) f hcl', h2])|refine adr_nil ?_|((first|refine adr_qs fun Y Yh=>?_|refine adr_y fun Y Yh=>?_);simp [go_sem, rC_drop t0 (dI 3) f hcl', h2])|intro _|apply And.intro|(apply Yh;clear Yh Y)));all_goals first|apply Hold.mk|omega|with_reducible assumption|skip))
  (refine awp_sr fun Y Yh => ?_; simp [go_sem]; ((repeat' (first|(refine ag_x ?_;simp [go_sem])|intro _|apply And.intro|(apply Yh;clear Yh Y)));all_goals first|apply Hold.mk|omega|with_reducible assumption|skip))
  (refine awp_sr fun Y Yh => ?_; simp [go_sem]; ((repeat' (first|(refine ag_x ?_;simp [go_sem])|intro _|apply And.intro|(apply Yh;clear Yh Y)));all_goals first|apply Hold.mk|omega|with_reducible assumption|skip))
  (refine awp_r fun Y Yh => ?_; simp [go_sem]; ((repeat' (first|(refine ag_x ?_;simp [go_sem])|intro _|apply And.intro|(apply Yh;clear Yh Y)));all_goals first|apply Hold.mk|omega|with_reducible assumption|skip))
  (refine callA_l [900042, 900040] (by first|exact .inl ⟨rfl,rfl⟩|exact .inr rfl) (by simp [go_sem]) ?_; intro args ha; simp [go_sem] at ha; subst ha; refine ⟨_, _, (leaf_spec g2 gR v' p' (rC t0 (dI 3) f)), (by simp [go_sem]), ?_⟩; rintro ps r hps ⟨rfl, rfl⟩; simp [go_sem]; ((repeat' (first|(refine ag_x ?_;simp [go_sem])|intro _|apply And.intro|(apply Yh;clear Yh Y)));all_goals first|apply Hold.mk|omega|with_reducible assumption|skip))
  unfold retA
  simp [go_sem, notFroz]
@[go_sem] theorem rC_d0 (t0 ts : D) (f : Nat → Int) : (rC t0 ts f).drop 0 = dS [] :: dI 0 :: dS [] :: nP :: t0 :: ts :: mpL f := rfl
@[go_sem] theorem rC_d1 (t0 ts : D) (f : Nat → Int) : (rC t0 ts f).drop 1 = dI 0 :: dS [] :: nP :: t0 :: ts :: mpL f := rfl
@[go_sem] theorem rC_d2 (t0 ts : D) (f : Nat → Int) : (rC t0 ts f).drop 2 = dS [] :: nP :: t0 :: ts :: mpL f := rfl
@[go_sem] theorem rC_d3 (t0 ts : D) (f : Nat → Int) : (rC t0 ts f).drop 3 = nP :: t0 :: ts :: mpL f := rfl
@[go_sem] theorem rC_g0 (t0 ts : D) (f : Nat → Int) : (rC t0 ts f)[0]? = some (dS []) := rfl
@[go_sem] theorem rC_g1 (t0 ts : D) (f : Nat → Int) : (rC t0 ts f)[1]? = some (dI 0) := rfl
@[go_sem] theorem rC_g2 (t0 ts : D) (f : Nat → Int) : (rC t0 ts f)[2]? = some (dS []) := rfl
@[go_sem] theorem rC_g3 (t0 ts : D) (f : Nat → Int) : (rC t0 ts f)[3]? = some nP := rfl
set_option maxHeartbeats 8000000 in
theorem root1_spec (gR gt : Nat) (c : UInt8) (v : Bs) (p : Int) (f : Nat → Int) (h2 : f 126 = 2) :
  ACall Tryz.prog 221 [.ptr 900040 gR 0, dS [126, c], dS v, dI p, .ptr 900040 gR 0] [(900040, (gR, .box (rC (.own 900041 gt) (dI 3) f))), (900041, (gt, .row 270 1 [[nP], [nP], [nP]]))] [900040, 900041, 900043, 900042] fun ps r =>
   ∃ gN g2, ps = [(gR, .box (rC (.own 900041 gt) (dI 3) f)), (gt, .row 270 1 [[nP], [nP], [.ptr 900043 gN 0]]), (gN, .box (chM c g2)), (g2, .box (lfN v p))] ∧ r = .tup [] := by
 refine acall_of Tryz.func221 rfl rfl Tryz.ntmps221 (rs := []) (tys := []) rfl rfl (by simp) (by simp [notFroz]) ?_
 have hr := rC_drop (.own 900041 gt) (dI 3) f (show 126 < 256 by decide)
 refine awp_seq_k fun K1 hK1 => ?_
 (refine awp_sr fun Y Yh => ?_; simp [go_sem]; ((repeat' (first|(refine ag_x ?_;simp [go_sem])|intro _|apply And.intro|(apply Yh;clear Yh Y)));all_goals first|apply Hold.mk|omega|with_reducible assumption|skip))
 (refine awp_if fun T F hT hF => ?_; simp [go_sem]; refine hF ?_; clear hT hF T F)
 refine awp_skip ?_
 refine hK1 _ ?_; clear hK1
 (refine awp_sr fun Y Yh => ?_; simp [go_sem]; ((repeat' (first|(refine ag_x ?_;simp [go_sem])|intro _|apply And.intro|(apply Yh;clear Yh Y)));all_goals first|apply Hold.mk|omega|with_reducible assumption|skip))
 (refine awp_if fun T F hT hF => ?_; simp [go_sem]; refine hF ?_; clear hT hF T F)
 (refine awp_sr fun Y Yh => ?_; simp [go_sem]; ((repeat' (first|(refine ag_x ?_;simp [go_sem])|intro _|apply And.intro|(apply Yh;clear Yh Y)));all_goals first|apply Hold.mk|omega|with_reducible assumption|skip))
 (refine awp_if fun T F hT hF => ?_; simp [go_sem]; refine hT ?_; clear hT hF T F)
 ((refine awp_dr (.qs [0, 1, 2, 3, 4, 5, 6, 7] (.nil)) (by kernel_rfl) ?_ ?_ ?_ ?_); (kernel_rfl); (exact (by decide +kernel)); (kernel_rfl); intro Y Yh; ((repeat' (first|(refine ag_x ?_;simp [go_sem, hr, h2])|refine adr_nil ?_|((first|refine adr_qs fun Y Yh=>?_|refine adr_y fun Y Yh=>?_);simp [go_sem, hr, h2])|intro _|apply And.intro|(apply Yh;clear Yh Y)));all_goals first|apply Hold.mk|omega|with_reducible assumption|skip))
 refine awp_seq_k fun K2 hK2 => ?_
 (refine awp_seq ?_; refine awp_ags ?_; simp only [AGs])
 (refine ag_true rfl ?_; simp [go_sem])
 (refine ag_true rfl ?_; simp [go_sem])
 (refine ag_true rfl ?_; simp [go_sem])
 (refine ag_true rfl ?_; simp [go_sem])
 (refine ag_true rfl ?_; simp [go_sem])
 (refine ag_true rfl ?_; simp [go_sem])
 (refine ag_true rfl ?_; simp [go_sem])
 (refine ag_nil true rfl (by simp [dstOk]) (by simp) (by first | exact .inl ⟨by kernel_rfl, rfl⟩ | exact .inr ⟨by kernel_rfl, rfl⟩) ?_; simp [go_sem, isNilD, nOp])
 (refine awp_if fun T F hT hF => ?_; simp [go_sem]; refine hT ?_; clear hT hF T F)
 (refine awp_r fun Y Yh => ?_; simp [go_sem]; ((repeat' (first|(refine ag_x ?_;simp [go_sem])|intro _|apply And.intro|(apply Yh;clear Yh Y)));all_goals first|apply Hold.mk|omega|with_reducible assumption|skip))
 refine hK2 _ ?_; clear hK2
 refine awp_renpr 210 900043 900041 2 rfl rfl (by decide) (by decide) rfl (by decide) fun gN => ?_
 simp only [go_sem, List.set]
 ((refine awp_d (.qs [0, 1, 2, 4, 7, 8, 9, 10, 11, 3, 5, 6] (.one 12 (.nil))) (by kernel_rfl) ?_ ?_ ?_ ?_); (kernel_rfl); (exact (by decide +kernel)); (kernel_rfl); intro Y Yh; ((repeat' (first|(refine ag_x ?_;simp [go_sem])|refine adr_nil ?_|((first|refine adr_qs fun Y Yh=>?_|refine adr_y fun Y Yh=>?_);simp [go_sem])|intro _|apply And.intro|(apply Yh;clear Yh Y)));all_goals first|apply Hold.mk|omega|with_reducible assumption|skip))
 (refine callA_l [900043, 900042, 900040] (by first|exact .inl ⟨rfl,rfl⟩|exact .inr rfl) (by simp [go_sem]) ?_; intro args ha; simp [go_sem] at ha; subst ha; refine ⟨_, _, (chain_spec gN gR c v p (rC (.own 900041 gt) (dI 3) f)), (by simp [go_sem]), ?_⟩; rintro ps r hps ⟨g2, rfl, rfl⟩; simp [go_sem]; ((repeat' (first|(refine ag_x ?_;simp [go_sem])|refine adr_nil ?_|((first|refine adr_qs fun Y Yh=>?_|refine adr_y fun Y Yh=>?_);simp [go_sem])|intro _|apply And.intro|(apply Yh;clear Yh Y)));all_goals first|apply Hold.mk|omega|with_reducible assumption|skip))
 unfold retA
 simp [go_sem, notFroz]
set_option maxHeartbeats 8000000 in
theorem root2_spec (gR gt gN i j : Nat) (hij : (i = 0 ∧ j = 1) ∨ (i = 1 ∧ j = 0)) (c c' : UInt8) (v v' : Bs) (p p' : Int) (f : Nat → Int) (h2 : f 126 = 2) (hc : c ≠ c') (hi : f c.toNat = i) (hj : f c'.toNat = j) :
  ACall Tryz.prog 221 [.ptr 900040 gR 0, dS [126, c'], dS v', dI p', .ptr 900040 gR 0] [(900040, (gR, .box (rC (.own 900041 gt) (dI 3) f))), (900041, (gt, .row 270 1 [[nP], [nP], [.ptr 900043 gN 0]])), (900043, (gN, .box (chN c v p)))] [900040, 900041, 900043, 900044, 900042] fun ps r =>
   ∃ g1 g2, ps = [(gR, .box (rC (.own 900041 gt) (dI 3) f)), (gt, .row 270 1 [[nP], [nP], [.ptr 900043 gN 0]]), (gN, .box [dS [], dI 0, dS [], nP, .own 900044 g1]), (g1, .row 270 1 (((List.replicate 3 [nP]).set i [.rd (lfN v p)]).set j [.ptr 900042 g2 0])), (g2, .box (lfN v' p'))] ∧ r = .tup [] := by
 refine acall_of Tryz.func221 rfl rfl Tryz.ntmps221 (rs := []) (tys := []) rfl rfl (by simp) (by simp [notFroz]) ?_
 have hr := rC_drop (.own 900041 gt) (dI 3) f (show 126 < 256 by decide)
 have HS := fun i j hij hi hj => split_spec gN gR i j hij c c' v v' p p' (.own 900041 gt) f hc hi hj
 generalize hT : (((List.replicate 3 [nP]).set i [D.rd (lfN v p)]).set j) = T
 have HS := HS i j hij hi hj
 rw [hT] at HS
 refine awp_seq_k fun K1 hK1 => ?_
 (refine awp_sr fun Y Yh => ?_; simp [go_sem]; ((repeat' (first|(refine ag_x ?_;simp [go_sem])|intro _|apply And.intro|(apply Yh;clear Yh Y)));all_goals first|apply Hold.mk|omega|with_reducible assumption|skip))
 (refine awp_if fun T F hT hF => ?_; simp [go_sem]; refine hF ?_; clear hT hF T F)
 refine awp_skip ?_
 refine hK1 _ ?_; clear hK1
 (refine awp_sr fun Y Yh => ?_; simp [go_sem]; ((repeat' (first|(refine ag_x ?_;simp [go_sem])|intro _|apply And.intro|(apply Yh;clear Yh Y)));all_goals first|apply Hold.mk|omega|with_reducible assumption|skip))
 (refine awp_if fun T F hT hF => ?_; simp [go_sem]; refine hF ?_; clear hT hF T F)
 (refine awp_sr fun Y Yh => ?_; simp [go_sem]; ((repeat' (first|(refine ag_x ?_;simp [go_sem])|intro _|apply And.intro|(apply Yh;clear Yh Y)));all_goals first|apply Hold.mk|omega|with_reducible assumption|skip))
 (refine awp_if fun T F hT hF => ?_; simp [go_sem]; refine hT ?_; clear hT hF T F)
 ((refine awp_dr (.qs [0, 1, 2, 3, 4, 5, 6, 7] (.nil)) (by kernel_rfl) ?_ ?_ ?_ ?_); (kernel_rfl); (exact (by decide +kernel)); (kernel_rfl); intro Y Yh; ((repeat' (first|(refine ag_x ?_;simp [go_sem, hr, h2])|refine adr_nil ?_|((first|refine adr_qs fun Y Yh=>?_|refine adr_y fun Y Yh=>?_);simp [go_sem, hr, h2])|intro _|apply And.intro|(apply Yh;clear Yh Y)));all_goals first|apply Hold.mk|omega|with_reducible assumption|skip))
 refine awp_seq_k fun K2 hK2 => ?_
 (refine awp_seq ?_; refine awp_ags ?_; simp only [AGs])
 (refine ag_true rfl ?_; simp [go_sem])
 (refine ag_true rfl ?_; simp [go_sem])
 (refine ag_true rfl ?_; simp [go_sem])
 (refine ag_true rfl ?_; simp [go_sem])
 (refine ag_true rfl ?_; simp [go_sem])
 (refine ag_true rfl ?_; simp [go_sem])
 (refine ag_true rfl ?_; simp [go_sem])
 (refine ag_nil false rfl (by simp [dstOk]) (by simp) (by first | exact .inl ⟨by kernel_rfl, rfl⟩ | exact .inr ⟨by kernel_rfl, rfl⟩) ?_; simp [go_sem, isNilD, nOp])
 (refine awp_if fun T F hT hF => ?_; simp [go_sem]; refine hF ?_; clear hT hF T F)
 refine awp_skip ?_
 refine hK2 _ ?_; clear hK2
 ((refine awp_d (.qs [0, 1, 2, 4, 7, 8, 9, 10, 11, 3, 5, 6] (.one 12 (.nil))) (by kernel_rfl) ?_ ?_ ?_ ?_); (kernel_rfl); (exact (by decide +kernel)); (kernel_rfl); intro Y Yh; ((repeat' (first|(refine ag_x ?_;simp [go_sem])|refine adr_nil ?_|((first|refine adr_qs fun Y Yh=>?_|refine adr_y fun Y Yh=>?_);simp [go_sem])|intro _|apply And.intro|(apply Yh;clear Yh Y)));all_goals first|apply Hold.mk|omega|with_reducible assumption|skip))
 (refine callA_l [900043, 900044, 900042, 900040] (by first|exact .inl ⟨rfl,rfl⟩|exact .inr rfl) (by simp [go_sem]) ?_; intro args ha; simp [go_sem] at ha; subst ha; refine ⟨_, _, HS, (by simp [go_sem]), ?_⟩; rintro ps r hps ⟨g1, g2, rfl, rfl⟩; simp [go_sem]; ((repeat' (first|(refine ag_x ?_;simp [go_sem])|refine adr_nil ?_|((first|refine adr_qs fun Y Yh=>?_|refine adr_y fun Y Yh=>?_);simp [go_sem])|intro _|apply And.intro|(apply Yh;clear Yh Y)));all_goals first|apply Hold.mk|omega|with_reducible assumption|skip))
 unfold retA
 simp [go_sem, notFroz]
end Go.Proofs.YtkgmecjaejaehaaGreatDoor
namespace Go.Eng
set_option linter.unusedSectionVars false
variable {P : Program} [HasGlob P] [HasPan P]
variable {n : Nat} {S : St} {Q : Exit → St → Prop}
def arrI (P : Program) (t : TypeId) (m : Nat) : Bool := match P.underlying t with
 | some (.array m' e) => m' == m && (match P.underlying e with | some (.int _) => true | _ => false) && (match P.info? e with | some i => i.size == 1 | none => false)
 | _ => false
theorem arrI_spec {t : TypeId} {m : Nat} (h : arrI P t m = true) : ∃ e q i, P.underlying t = some (.array m e) ∧ P.underlying e = some (.int q) ∧ P.info? e = some i ∧ i.size = 1 := by
 unfold arrI at h
 split at h
 ·rename_i m' e h1
  simp only [Bool.and_eq_true, beq_iff_eq] at h
  obtain ⟨⟨rfl, h2⟩, h3⟩ := h
  split at h2
  ·rename_i q h4
   split at h3
   ·rename_i i h5
    exact ⟨e, q, i, h1, h4, h5, by simpa using h3⟩
   ·cases h3
  ·cases h2
 ·cases h
theorem ag_idxagg {ops : List Oper} {dst : Option Nat} {t ty : TypeId} {x y : Operand} {pos : String} {after : Array Edge} {guard : Option (Nat × Bool)} {K : St → Prop} (m : Nat)
  (hg : gcond ops S ⟨dst, .index t x y, ty, pos, after, guard⟩ = some true) (hd : dstOk n dst) (ht : arrI P t m = true)
  (h : evK true S x fun dx => ∃ cs, dx = .agg cs ∧ evK true S y fun dy => ∃ (i : Nat) (d : D), dy = .v (.int .i64 i) ∧ i < m ∧ cs[i]? = some d ∧ K (S.set dst d)) : AG P n ops ⟨dst, .index t x y, ty, pos, after, guard⟩ S K := by
 intro w0 B C0 C a w E I N Q hN _
 rw [gcond_ok I hg, if_pos rfl]
 obtain ⟨e, q, inf, h1, h2, h3, h4⟩ := arrI_spec ht
 obtain ⟨dx, ⟨cs, rfl, hy⟩, hrx⟩ := evK_ok I h
 obtain ⟨dy, ⟨i, d, rfl, hi, hc, hk⟩, hry⟩ := evK_ok I hy
 have rx := hrx rfl
 have ry := (hry rfl).v_inv
 generalize hux : a.eval x = ux at rx
 cases rx with
 | agg _ us hn hh =>
  have hlt : i < us.size := by rw [hn]; exact (List.getElem?_eq_some_iff.1 hc).1
  have hu : us[i]? = some us[i] := Array.getElem?_eq_getElem hlt
  refine wp_val (u := us[i]) (w' := w) ?_ (hN _ _ ⟨_, C, hk, I.set (dstOk_spec hd) (hh i d _ hc hu)⟩)
  have hi2 : (i : Int) < (m : Int) := by omega
  simp [execOp, hux, ry, Instr.index, asIntOf, run_underlying h1, run_sizeOf' h3, h4, part, isAgg, run_underlying h2, hu, hi2, hlt]
  intro h; omega
end Go.Eng
namespace Go.Proofs.YtkgmecjaejaehaaGreatDoor
open Go.Eng Go.Js
set_option maxRecDepth 20000
attribute [local irreducible] AG CallA CallT AWp PCall ACall XCall AgC
def rV : List Value := [.string ⟨#[]⟩, .int .i64 0, .string ⟨#[]⟩, .pointer none, .slice none 0 0, .int .i64 0] ++ List.replicate 256 (.int .u8 0)
attribute [-go_sem] zr275
theorem rV_one : ∀ x ∈ rV, x.oneCell' = true := by
 intro x hx
 unfold rV at hx
 rw [List.mem_append] at hx
 rcases hx with hx | hx
 ·simp only [List.mem_cons, List.mem_nil_iff, or_false] at hx
  rcases hx with rfl | rfl | rfl | rfl | rfl | rfl <;> rfl
 ·rw [List.mem_replicate] at hx
  rw [hx.2]; rfl
@[go_sem] theorem zr275' : zeroOf Tryz.prog 275 = some rV := by kernel_rfl
@[go_sem] theorem rV_map : rV.map D.v = rC nS (dI 0) (fun _ => 0) := by
 have h : List.map D.v rV = rC nS (dI 0) (fun _ => 0) := by
  unfold rV rC mpL
  simp [List.map_const']
 exact h
theorem rC_set4 (t0 ts t : D) (f : Nat → Int) : (rC t0 ts f).set 4 t = rC t ts f := rfl
@[go_sem] theorem rC_p4 (t0 ts t : D) (f : Nat → Int) : (rC t0 ts f).take 4 ++ (t :: ts :: mpL f) = rC t ts f := rfl
@[go_sem] theorem rC_p5 (t0 ts t : D) (f : Nat → Int) : (rC t0 ts f).take 5 ++ (t :: mpL f) = rC t0 t f := rfl
@[go_sem] theorem mpL_take (f : Nat → Int) : (mpL f).take 256 = mpL f := List.take_of_length_le (by rw [mpL_len]; omega)
def mkB (l : List Nat) : Nat → Int := fun i => if i ∈ l then 1 else 0
theorem mkB_put (l : List Nat) (c : Nat) : (fun i => if i = c then 1 else mkB l i) = mkB (c :: l) := by
 funext i
 unfold mkB
 by_cases h : i = c
 ·simp [h]
 ·simp [h]
def sumI (f : Nat → Int) : Nat → Int
 | 0 => 0
 | k + 1 => sumI f k + f k
def mkA : Nat → Int := mkB [48, 49, 126]
theorem mkA_of {a b : Nat} (h : (a = 48 ∧ b = 49) ∨ (a = 49 ∧ b = 48)) : mkB [b, 126, a, 126] = mkA := by
 funext i
 unfold mkA mkB
 congr 1
 rcases h with ⟨rfl, rfl⟩ | ⟨rfl, rfl⟩
 ·simp; omega
 ·simp; omega
theorem mkA_01 (i : Nat) : mkA i = 0 ∨ mkA i = 1 := by
 unfold mkA mkB
 split
 ·exact .inr rfl
 ·exact .inl rfl
theorem sumA_nn : ∀ k, 0 ≤ sumI mkA k
 | 0 => by simp [sumI]
 | k + 1 => by have := sumA_nn k; have := mkA_01 k; simp only [sumI]; omega
theorem sumA_mono : ∀ k j, sumI mkA k ≤ sumI mkA (k + j)
 | k, 0 => by simp
 | k, j + 1 => by have := sumA_mono k j; have := mkA_01 (k + j); rw [← Nat.add_assoc]; simp only [sumI]; omega
theorem sumA_256 : sumI mkA 256 = 3 := by decide +kernel
theorem sumA_le {k : Nat} (h : k ≤ 256) : sumI mkA k ≤ 3 := by
 have := sumA_mono k (256 - k)
 rw [show k + (256 - k) = 256 by omega, sumA_256] at this
 exact this
def finB (i : Nat) : Int := if mkA i = 0 then 3 else sumI mkA i
def hB (k : Nat) (i : Nat) : Int := if i < k then finB i else mkA i
theorem hB_0 : hB 0 = mkA := by funext i; simp [hB]
theorem mpL_congr {f g : Nat → Int} (h : ∀ i, i < 256 → f i = g i) : mpL f = mpL g := by
 unfold mpL
 apply List.map_congr_left
 intro i hi
 rw [h i (by simpa using hi)]
theorem rC_congr (t0 ts : D) {f g : Nat → Int} (h : ∀ i, i < 256 → f i = g i) : rC t0 ts f = rC t0 ts g := by
 unfold rC; rw [mpL_congr h]
theorem hB_256 (t0 ts : D) : rC t0 ts (hB 256) = rC t0 ts finB := rC_congr _ _ fun i hi => by simp [hB, hi]
theorem hB_put {k : Nat} : (fun i => if i = k then finB k else hB k i) = hB (k + 1) := by
 funext i
 unfold hB
 by_cases h : i = k
 ·subst h; simp
 ·rw [if_neg h]
  by_cases h2 : i < k
  ·rw [if_pos h2, if_pos (by omega)]
  ·rw [if_neg h2, if_neg (by omega)]
theorem fin_48 : finB 48 = 0 := by decide +kernel
theorem fin_49 : finB 49 = 1 := by decide +kernel
theorem fin_126 : finB 126 = 2 := by decide +kernel
abbrev onD (a b : UInt8) (va vb : Bs) : D := .sl 1 [[dS [126, a]], [dS va], [dS [126, b]], [dS vb]]
set_option maxHeartbeats 16000000 in
theorem mkgen_spec (a b : UInt8) (va vb : Bs) (i j : Nat) (hab : (a = 48 ∧ b = 49 ∧ i = 0 ∧ j = 1) ∨ (a = 49 ∧ b = 48 ∧ i = 1 ∧ j = 0)) : PCall Tryz.prog 188 [onD a b va vb] fun r =>
  r = .rd (rC (.sl 1 [[nP], [nP], [.rd [dS [], dI 0, dS [], nP, .sl 1 (((List.replicate 3 [nP]).set i [.rd (lfN va 4)]).set j [.rd (lfN vb 2)])]]]) (dI 3) finB) := by
 refine pcall_of Tryz.func188 rfl rfl Tryz.ntmps188 (rs := [.tmp 2]) (tys := [235]) rfl rfl (by simp) ?_
 have hp : ∀ (l : List Nat) (c : Nat), c < 256 → (rC nS (dI 0) (mkB l)).take (6 + c) ++ (.v (.int .u8 1) :: (rC nS (dI 0) (mkB l)).drop (6 + c + 1)) = rC nS (dI 0) (mkB (c :: l)) := fun l c h => by rw [rC_put _ _ _ h, mkB_put]
 have hp126 : ∀ (l : List Nat), (rC nS (dI 0) (mkB l)).take 132 ++ (.v (.int .u8 1) :: (rC nS (dI 0) (mkB l)).drop 133) = rC nS (dI 0) (mkB (126 :: l)) := fun l => hp l 126 (by decide)
 have h0 : (fun _ : Nat => (0 : Int)) = mkB [] := by funext i; simp [mkB]
 have hab' : (a.toNat = 48 ∧ b.toNat = 49) ∨ (a.toNat = 49 ∧ b.toNat = 48) := by
  rcases hab with ⟨rfl, rfl, _⟩ | ⟨rfl, rfl, _⟩
  ·exact .inl ⟨rfl, rfl⟩
  ·exact .inr ⟨rfl, rfl⟩
 (refine awp_sr fun Y Yh => ?_; simp [go_sem]; ((repeat' (first|(refine ag_x ?_;simp [go_sem])|intro _|apply And.intro|(apply Yh;clear Yh Y)));all_goals first|apply Hold.mk|omega|with_reducible assumption|skip))
 (refine awp_sr fun Y Yh => ?_; simp [go_sem]; ((repeat' (first|(refine ag_x ?_;simp [go_sem])|intro _|apply And.intro|(apply Yh;clear Yh Y)));all_goals first|apply Hold.mk|omega|with_reducible assumption|skip))
 all_goals first | (exact rV_one _ (by assumption)) | skip
 refine awp_renbox 3 900040 rfl rfl (by decide) fun gR => ?_
 simp only [go_sem]
 rw [h0]
 refine awp_seq_k fun K1 hK1 => ?_
 (refine awp_sr fun Y Yh => ?_; simp [go_sem]; ((repeat' (first|(refine ag_x ?_;simp [go_sem])|intro _|apply And.intro|(apply Yh;clear Yh Y)));all_goals first|apply Hold.mk|omega|with_reducible assumption|skip))
 refine awp_block ?_
 refine awp_loop (σ := Nat) (fun x => ⟨[(0, onD a b va vb), (3, .ptr 900040 gR 0), (4, dI (2 * x : Nat))], [(900040, (gR, .box (rC nS (dI 0) (mkB (match x with | 0 => [] | 1 => [a.toNat, 126] | _ => [b.toNat, 126, a.toNat, 126])))))]⟩) (fun x => x ≤ 2) (fun x => 2 - x) 0 ?_ (by simp) ?_
 ·(refine cov_of ?_ ?_ <;> simp [go_sem])
 intro x hx
 refine awp_seq_k fun K2 hK2 => ?_
 have hx' : x = 0 ∨ x = 1 ∨ x = 2 := by omega
 rcases hx' with rfl | rfl | rfl
 ·(refine awp_sr fun Y Yh => ?_; simp [go_sem]; ((repeat' (first|(refine ag_x ?_;simp [go_sem])|intro _|apply And.intro|(apply Yh;clear Yh Y)));all_goals first|apply Hold.mk|omega|with_reducible assumption|skip))
  (refine awp_if fun T F hT hF => ?_; simp [go_sem]; refine hT ?_; clear hT hF T F)
  refine awp_skip ?_
  refine hK2 _ ?_; clear hK2
  refine awp_seq_k fun K3 hK3 => ?_
  refine awp_block ?_
  (refine awp_sr fun Y Yh => ?_; simp [go_sem]; ((repeat' (first|(refine ag_x ?_;simp [go_sem])|intro _|apply And.intro|(apply Yh;clear Yh Y)));all_goals first|apply Hold.mk|omega|with_reducible assumption|skip))
  (refine awp_sr fun Y Yh => ?_; simp [go_sem]; ((repeat' (first|(refine ag_x ?_;simp [go_sem])|intro _|apply And.intro|(apply Yh;clear Yh Y)));all_goals first|apply Hold.mk|omega|with_reducible assumption|skip))
  refine awp_block ?_
  refine awp_loop (σ := Nat) (fun y => ⟨[(0, onD a b va vb), (3, .ptr 900040 gR 0), (4, dI (0 : Nat)), (5, dS [126, a]), (6, dI y)], [(900040, (gR, .box (rC nS (dI 0) (mkB (match y with | 0 => [] | 1 => [126] | _ => [a.toNat, 126])))))]⟩) (fun y => y ≤ 2) (fun y => 2 - y) 0 ?_ (by simp) ?_
  ·(refine cov_of ?_ ?_ <;> simp [go_sem])
  intro y hy
  refine awp_seq_k fun K4 hK4 => ?_
  have hy' : y = 0 ∨ y = 1 ∨ y = 2 := by omega
  rcases hy' with rfl | rfl | rfl
  ·(refine awp_sr fun Y Yh => ?_; simp [go_sem]; ((repeat' (first|(refine ag_x ?_;simp [go_sem])|intro _|apply And.intro|(apply Yh;clear Yh Y)));all_goals first|apply Hold.mk|omega|with_reducible assumption|skip))
   (refine awp_if fun T F hT hF => ?_; simp [go_sem]; refine hT ?_; clear hT hF T F)
   refine awp_skip ?_
   refine hK4 _ ?_; clear hK4
   refine awp_seq_k fun K5 hK5 => ?_
   refine awp_block ?_
   ((refine awp_d (.qs [0, 1, 2, 3, 4, 5, 6] (.one 7 (.nil))) (by kernel_rfl) ?_ ?_ ?_ ?_); (kernel_rfl); (exact (by decide +kernel)); (kernel_rfl); intro Y Yh; ((repeat' (first|(refine ag_x ?_;simp [go_sem, hp126 []])|refine adr_nil ?_|((first|refine adr_qs fun Y Yh=>?_|refine adr_y fun Y Yh=>?_);simp [go_sem, hp126 []])|intro _|apply And.intro|(apply Yh;clear Yh Y)));all_goals first|apply Hold.mk|omega|with_reducible assumption|skip))
   show K5 _
   refine hK5 _ ?_; clear hK5
   (refine awp_r fun Y Yh => ?_; simp [go_sem]; ((repeat' (first|(refine ag_x ?_;simp [go_sem])|intro _|apply And.intro|(apply Yh;clear Yh Y)));all_goals first|apply Hold.mk|omega|with_reducible assumption|skip))
   refine ⟨(1 : Nat), ?_, by omega, by omega⟩
   (refine cov_of ?_ ?_ <;> simp [go_sem])
  ·(refine awp_sr fun Y Yh => ?_; simp [go_sem]; ((repeat' (first|(refine ag_x ?_;simp [go_sem])|intro _|apply And.intro|(apply Yh;clear Yh Y)));all_goals first|apply Hold.mk|omega|with_reducible assumption|skip))
   (refine awp_if fun T F hT hF => ?_; simp [go_sem]; refine hT ?_; clear hT hF T F)
   refine awp_skip ?_
   refine hK4 _ ?_; clear hK4
   refine awp_seq_k fun K5 hK5 => ?_
   refine awp_block ?_
   ((refine awp_d (.qs [0, 1, 2, 3, 4, 5, 6] (.one 7 (.nil))) (by kernel_rfl) ?_ ?_ ?_ ?_); (kernel_rfl); (exact (by decide +kernel)); (kernel_rfl); intro Y Yh; ((repeat' (first|(refine ag_x ?_;simp [go_sem, hp [126] a.toNat a.toNat_lt])|refine adr_nil ?_|((first|refine adr_qs fun Y Yh=>?_|refine adr_y fun Y Yh=>?_);simp [go_sem, hp [126] a.toNat a.toNat_lt])|intro _|apply And.intro|(apply Yh;clear Yh Y)));all_goals first|apply Hold.mk|omega|with_reducible assumption|skip))
   show K5 _
   refine hK5 _ ?_; clear hK5
   (refine awp_r fun Y Yh => ?_; simp [go_sem]; ((repeat' (first|(refine ag_x ?_;simp [go_sem])|intro _|apply And.intro|(apply Yh;clear Yh Y)));all_goals first|apply Hold.mk|omega|with_reducible assumption|skip))
   refine ⟨(2 : Nat), ?_, by omega, by omega⟩
   (refine cov_of ?_ ?_ <;> simp [go_sem])
  ·(refine awp_sr fun Y Yh => ?_; simp [go_sem]; ((repeat' (first|(refine ag_x ?_;simp [go_sem])|intro _|apply And.intro|(apply Yh;clear Yh Y)));all_goals first|apply Hold.mk|omega|with_reducible assumption|skip))
   (refine awp_if fun T F hT hF => ?_; simp [go_sem]; refine hF ?_; clear hT hF T F)
   refine awp_exit ?_
   simp only [go_sem]
   refine hK3 _ ?_; clear hK3
   (refine awp_r fun Y Yh => ?_; simp [go_sem]; ((repeat' (first|(refine ag_x ?_;simp [go_sem])|intro _|apply And.intro|(apply Yh;clear Yh Y)));all_goals first|apply Hold.mk|omega|with_reducible assumption|skip))
   refine ⟨(1 : Nat), ?_, by omega, by omega⟩
   (refine cov_of ?_ ?_ <;> simp [go_sem])
 ·(refine awp_sr fun Y Yh => ?_; simp [go_sem]; ((repeat' (first|(refine ag_x ?_;simp [go_sem])|intro _|apply And.intro|(apply Yh;clear Yh Y)));all_goals first|apply Hold.mk|omega|with_reducible assumption|skip))
  (refine awp_if fun T F hT hF => ?_; simp [go_sem]; refine hT ?_; clear hT hF T F)
  refine awp_skip ?_
  refine hK2 _ ?_; clear hK2
  refine awp_seq_k fun K3 hK3 => ?_
  refine awp_block ?_
  (refine awp_sr fun Y Yh => ?_; simp [go_sem]; ((repeat' (first|(refine ag_x ?_;simp [go_sem])|intro _|apply And.intro|(apply Yh;clear Yh Y)));all_goals first|apply Hold.mk|omega|with_reducible assumption|skip))
  (refine awp_sr fun Y Yh => ?_; simp [go_sem]; ((repeat' (first|(refine ag_x ?_;simp [go_sem])|intro _|apply And.intro|(apply Yh;clear Yh Y)));all_goals first|apply Hold.mk|omega|with_reducible assumption|skip))
  refine awp_block ?_
  refine awp_loop (σ := Nat) (fun y => ⟨[(0, onD a b va vb), (3, .ptr 900040 gR 0), (4, dI (2 : Nat)), (5, dS [126, b]), (6, dI y)], [(900040, (gR, .box (rC nS (dI 0) (mkB (match y with | 0 => [a.toNat, 126] | 1 => [126, a.toNat, 126] | _ => [b.toNat, 126, a.toNat, 126])))))]⟩) (fun y => y ≤ 2) (fun y => 2 - y) 0 ?_ (by simp) ?_
  ·(refine cov_of ?_ ?_ <;> simp [go_sem])
  intro y hy
  refine awp_seq_k fun K4 hK4 => ?_
  have hy' : y = 0 ∨ y = 1 ∨ y = 2 := by omega
  rcases hy' with rfl | rfl | rfl
  ·(refine awp_sr fun Y Yh => ?_; simp [go_sem]; ((repeat' (first|(refine ag_x ?_;simp [go_sem])|intro _|apply And.intro|(apply Yh;clear Yh Y)));all_goals first|apply Hold.mk|omega|with_reducible assumption|skip))
   (refine awp_if fun T F hT hF => ?_; simp [go_sem]; refine hT ?_; clear hT hF T F)
   refine awp_skip ?_
   refine hK4 _ ?_; clear hK4
   refine awp_seq_k fun K5 hK5 => ?_
   refine awp_block ?_
   ((refine awp_d (.qs [0, 1, 2, 3, 4, 5, 6] (.one 7 (.nil))) (by kernel_rfl) ?_ ?_ ?_ ?_); (kernel_rfl); (exact (by decide +kernel)); (kernel_rfl); intro Y Yh; ((repeat' (first|(refine ag_x ?_;simp [go_sem, hp126 [a.toNat, 126]])|refine adr_nil ?_|((first|refine adr_qs fun Y Yh=>?_|refine adr_y fun Y Yh=>?_);simp [go_sem, hp126 [a.toNat, 126]])|intro _|apply And.intro|(apply Yh;clear Yh Y)));all_goals first|apply Hold.mk|omega|with_reducible assumption|skip))
   show K5 _
   refine hK5 _ ?_; clear hK5
   (refine awp_r fun Y Yh => ?_; simp [go_sem]; ((repeat' (first|(refine ag_x ?_;simp [go_sem])|intro _|apply And.intro|(apply Yh;clear Yh Y)));all_goals first|apply Hold.mk|omega|with_reducible assumption|skip))
   refine ⟨(1 : Nat), ?_, by omega, by omega⟩
   (refine cov_of ?_ ?_ <;> simp [go_sem])
  ·(refine awp_sr fun Y Yh => ?_; simp [go_sem]; ((repeat' (first|(refine ag_x ?_;simp [go_sem])|intro _|apply And.intro|(apply Yh;clear Yh Y)));all_goals first|apply Hold.mk|omega|with_reducible assumption|skip))
   (refine awp_if fun T F hT hF => ?_; simp [go_sem]; refine hT ?_; clear hT hF T F)
   refine awp_skip ?_
   refine hK4 _ ?_; clear hK4
   refine awp_seq_k fun K5 hK5 => ?_
   refine awp_block ?_
   ((refine awp_d (.qs [0, 1, 2, 3, 4, 5, 6] (.one 7 (.nil))) (by kernel_rfl) ?_ ?_ ?_ ?_); (kernel_rfl); (exact (by decide +kernel)); (kernel_rfl); intro Y Yh; ((repeat' (first|(refine ag_x ?_;simp [go_sem, hp [126, a.toNat, 126] b.toNat b.toNat_lt])|refine adr_nil ?_|((first|refine adr_qs fun Y Yh=>?_|refine adr_y fun Y Yh=>?_);simp [go_sem, hp [126, a.toNat, 126] b.toNat b.toNat_lt])|intro _|apply And.intro|(apply Yh;clear Yh Y)));all_goals first|apply Hold.mk|omega|with_reducible assumption|skip))
   show K5 _
   refine hK5 _ ?_; clear hK5
   (refine awp_r fun Y Yh => ?_; simp [go_sem]; ((repeat' (first|(refine ag_x ?_;simp [go_sem])|intro _|apply And.intro|(apply Yh;clear Yh Y)));all_goals first|apply Hold.mk|omega|with_reducible assumption|skip))
   refine ⟨(2 : Nat), ?_, by omega, by omega⟩
   (refine cov_of ?_ ?_ <;> simp [go_sem])
  ·(refine awp_sr fun Y Yh => ?_; simp [go_sem]; ((repeat' (first|(refine ag_x ?_;simp [go_sem])|intro _|apply And.intro|(apply Yh;clear Yh Y)));all_goals first|apply Hold.mk|omega|with_reducible assumption|skip))
   (refine awp_if fun T F hT hF => ?_; simp [go_sem]; refine hF ?_; clear hT hF T F)
   refine awp_exit ?_
   simp only [go_sem]
   refine hK3 _ ?_; clear hK3
   (refine awp_r fun Y Yh => ?_; simp [go_sem]; ((repeat' (first|(refine ag_x ?_;simp [go_sem])|intro _|apply And.intro|(apply Yh;clear Yh Y)));all_goals first|apply Hold.mk|omega|with_reducible assumption|skip))
   refine ⟨(2 : Nat), ?_, by omega, by omega⟩
   (refine cov_of ?_ ?_ <;> simp [go_sem])
 ·(refine awp_sr fun Y Yh => ?_; simp [go_sem]; ((repeat' (first|(refine ag_x ?_;simp [go_sem])|intro _|apply And.intro|(apply Yh;clear Yh Y)));all_goals first|apply Hold.mk|omega|with_reducible assumption|skip))
  (refine awp_if fun T F hT hF => ?_; simp [go_sem]; refine hF ?_; clear hT hF T F)
  refine awp_exit ?_
  simp only [go_sem]
  refine hK1 _ ?_; clear hK1
  simp only [mkA_of hab']
  clear hp hp126
  refine awp_seq_k fun K6 hK6 => ?_
  (refine awp_sr fun Y Yh => ?_; simp [go_sem]; ((repeat' (first|(refine ag_x ?_;simp [go_sem])|intro _|apply And.intro|(apply Yh;clear Yh Y)));all_goals first|apply Hold.mk|omega|with_reducible assumption|skip))
  refine awp_block ?_
  refine awp_loop (σ := Nat) (fun k => ⟨[(0, onD a b va vb), (3, .ptr 900040 gR 0), (40, .agg (mpL mkA)), (41, dI k)], [(900040, (gR, .box (rC nS (dI (sumI mkA k)) mkA)))]⟩) (fun k => k ≤ 256) (fun k => 256 - k) 0 ?_ (by simp) ?_
  ·(refine cov_of ?_ ?_ <;> simp [go_sem])
   simp [sumI]
  intro k hk
  (refine awp_sr fun Y Yh => ?_; simp [go_sem]; ((repeat' (first|(refine ag_x ?_;simp [go_sem])|intro _|apply And.intro|(apply Yh;clear Yh Y)));all_goals first|apply Hold.mk|omega|with_reducible assumption|skip))
  refine awp_seq_k fun K7 hK7 => ?_
  have hs1 := sumA_nn k
  have hs2 := sumA_le hk
  (refine awp_if fun T F hT hF => ?_; simp [go_sem]; refine BR.intro (fun h7 => hT ?_) (fun h7 => hF ?_); all_goals clear hT hF T F; try simp at h7)
  ·have hlt : k < 256 := by omega
   have hg := mpL_get mkA hlt
   have hd := mpL_drop mkA hlt
   have hm := mkA_01 k
   refine awp_skip ?_
   refine hK7 _ ?_; clear hK7
   refine awp_seq_k fun K8 hK8 => ?_
   refine awp_block ?_
   (refine awp_seq ?_; refine awp_ags ?_; simp only [AGs])
   refine ag_idxagg 256 rfl (by simp [dstOk]) (by kernel_rfl) ?_
   simp [go_sem]
   refine ⟨hlt, _, hg, ?_⟩
   (refine ag_true rfl ?_; simp [go_sem])
   (refine awp_r fun Y Yh => ?_; simp [go_sem]; ((repeat' (first|(refine ag_x ?_;simp [go_sem])|intro _|apply And.intro|(apply Yh;clear Yh Y)));all_goals first|apply Hold.mk|omega|with_reducible assumption|skip))
   refine hK8 _ ?_; clear hK8
   (refine awp_r fun Y Yh => ?_; simp [go_sem]; ((repeat' (first|(refine ag_x ?_;simp [go_sem])|intro _|apply And.intro|(apply Yh;clear Yh Y)));all_goals first|apply Hold.mk|omega|with_reducible assumption|skip))
   refine ⟨k + 1, ?_, by omega, by omega⟩
   (refine cov_of ?_ ?_ <;> simp [go_sem])
   rfl
  ·refine awp_exit ?_
   simp only [go_sem]
   refine hK6 _ ?_; clear hK6
   have e : k = 256 := by omega
   subst e
   rw [sumA_256]
   (refine awp_sr fun Y Yh => ?_; simp [go_sem]; ((repeat' (first|(refine ag_x ?_;simp [go_sem])|intro _|apply And.intro|(apply Yh;clear Yh Y)));all_goals first|apply Hold.mk|omega|with_reducible assumption|skip))
   refine awp_seq_k fun K9 hK9 => ?_
   (refine awp_sr fun Y Yh => ?_; simp [go_sem]; ((repeat' (first|(refine ag_x ?_;simp [go_sem])|intro _|apply And.intro|(apply Yh;clear Yh Y)));all_goals first|apply Hold.mk|omega|with_reducible assumption|skip))
   refine awp_block ?_
   refine awp_loop (σ := Nat) (fun k => ⟨[(0, onD a b va vb), (3, .ptr 900040 gR 0), (9, .v (.int .u8 (sumI mkA k))), (57, .agg (mpL mkA)), (58, dI k)], [(900040, (gR, .box (rC nS (dI 3) (hB k))))]⟩) (fun k => k ≤ 256) (fun k => 256 - k) 0 ?_ (by simp) ?_
   ·rw [hB_0]
    (refine cov_of ?_ ?_ <;> simp [go_sem])
    simp [sumI]
   intro k hk
   (refine awp_sr fun Y Yh => ?_; simp [go_sem]; ((repeat' (first|(refine ag_x ?_;simp [go_sem])|intro _|apply And.intro|(apply Yh;clear Yh Y)));all_goals first|apply Hold.mk|omega|with_reducible assumption|skip))
   refine awp_seq_k fun K10 hK10 => ?_
   have hs1 := sumA_nn k
   have hs2 := sumA_le hk
   (refine awp_if fun T F hT hF => ?_; simp [go_sem]; refine BR.intro (fun h8 => hT ?_) (fun h8 => hF ?_); all_goals clear hT hF T F; try simp at h8)
   ·have hlt : k < 256 := by omega
    have hg := mpL_get mkA hlt
    have hm := mkA_01 k
    refine awp_skip ?_
    refine hK10 _ ?_; clear hK10
    refine awp_seq_k fun K11 hK11 => ?_
    refine awp_block ?_
    (refine awp_seq ?_; refine awp_ags ?_; simp only [AGs])
    (refine ag_true rfl ?_; simp [go_sem])
    refine ag_idxagg 256 rfl (by simp [dstOk]) (by kernel_rfl) ?_
    simp [go_sem]
    refine ⟨hlt, _, hg, ?_⟩
    (refine ag_true rfl ?_; simp [go_sem])
    (refine ag_true rfl ?_; simp [go_sem])
    (refine awp_sr fun Y Yh => ?_; simp [go_sem]; ((repeat' (first|(refine ag_x ?_;simp [go_sem])|intro _|apply And.intro|(apply Yh;clear Yh Y)));all_goals first|apply Hold.mk|omega|with_reducible assumption|skip))
    by_cases hm0 : mkA k = 0
    ·have hf : finB k = 3 := by unfold finB; rw [if_pos hm0]
     have hput : (rC nS (dI 3) (hB k)).take (6 + k) ++ (.v (.int .u8 3) :: (rC nS (dI 3) (hB k)).drop (6 + k + 1)) = rC nS (dI 3) (hB (k + 1)) := by
      rw [rC_put _ _ _ hlt, ← hB_put, hf]
     have hs3 : sumI mkA (k + 1) = sumI mkA k := by simp [sumI, hm0]
     have hw3 : IntKind.u8.wrap 3 = 3 := by decide
     (refine awp_if fun T F hT hF => ?_; simp [go_sem, hm0]; refine hT ?_; clear hT hF T F)
     ((refine awp_d (.qs [0, 1, 2, 3, 4, 7, 8, 5, 6, 9] (.one 10 (.nil))) (by kernel_rfl) ?_ ?_ ?_ ?_); (kernel_rfl); (exact (by decide +kernel)); (kernel_rfl); intro Y Yh; ((repeat' (first|(refine ag_x ?_;simp [go_sem, hw3, hput, hlt])|refine adr_nil ?_|((first|refine adr_qs fun Y Yh=>?_|refine adr_y fun Y Yh=>?_);simp [go_sem, hw3, hput, hlt])|intro _|apply And.intro|(apply Yh;clear Yh Y)));all_goals first|apply Hold.mk|omega|with_reducible assumption|skip))
     show K11 _
     refine hK11 _ ?_; clear hK11
     (refine awp_r fun Y Yh => ?_; simp [go_sem]; ((repeat' (first|(refine ag_x ?_;simp [go_sem])|intro _|apply And.intro|(apply Yh;clear Yh Y)));all_goals first|apply Hold.mk|omega|with_reducible assumption|skip))
     refine ⟨k + 1, ?_, by omega, by omega⟩
     (refine cov_of ?_ ?_ <;> simp [go_sem, hs3])
    ·have hm1 : mkA k = 1 := by omega
     have hf : finB k = sumI mkA k := by unfold finB; rw [if_neg hm0]
     have hput : (rC nS (dI 3) (hB k)).take (6 + k) ++ (.v (.int .u8 (sumI mkA k)) :: (rC nS (dI 3) (hB k)).drop (6 + k + 1)) = rC nS (dI 3) (hB (k + 1)) := by
      rw [rC_put _ _ _ hlt, ← hB_put, hf]
     have hw : IntKind.u8.wrap (sumI mkA k + 1) = sumI mkA (k + 1) := by
      rw [IntKind.wrap_u8]; simp only [sumI, hm1]; omega
     (refine awp_if fun T F hT hF => ?_; simp [go_sem, hm0]; refine hF ?_; clear hT hF T F)
     (refine awp_sr fun Y Yh => ?_; simp [go_sem, hput, hlt]; ((repeat' (first|(refine ag_x ?_;simp [go_sem, hput, hlt])|intro _|apply And.intro|(apply Yh;clear Yh Y)));all_goals first|apply Hold.mk|omega|with_reducible assumption|skip))
     (refine awp_r fun Y Yh => ?_; simp [go_sem, hw]; ((repeat' (first|(refine ag_x ?_;simp [go_sem, hw])|intro _|apply And.intro|(apply Yh;clear Yh Y)));all_goals first|apply Hold.mk|omega|with_reducible assumption|skip))
     refine hK11 _ ?_; clear hK11
     (refine awp_r fun Y Yh => ?_; simp [go_sem]; ((repeat' (first|(refine ag_x ?_;simp [go_sem])|intro _|apply And.intro|(apply Yh;clear Yh Y)));all_goals first|apply Hold.mk|omega|with_reducible assumption|skip))
     refine ⟨k + 1, ?_, by omega, by omega⟩
     (refine cov_of ?_ ?_ <;> simp [go_sem])
   ·refine awp_exit ?_
    simp only [go_sem]
    refine hK9 _ ?_; clear hK9
    have e : k = 256 := by omega
    subst e
    rw [hB_256]
    (refine awp_sr fun Y Yh => ?_; simp [go_sem]; ((repeat' (first|(refine ag_x ?_;simp [go_sem])|intro _|apply And.intro|(apply Yh;clear Yh Y)));all_goals first|apply Hold.mk|omega|with_reducible assumption|skip))
    refine awp_renrb 88 900041 900040 4 rfl rfl (by decide) (by decide) rfl (by decide) fun gt => ?_
    simp only [go_sem, rC_set4]
    refine awp_seq_k fun K12 hK12 => ?_
    (refine awp_sr fun Y Yh => ?_; simp [go_sem]; ((repeat' (first|(refine ag_x ?_;simp [go_sem])|intro _|apply And.intro|(apply Yh;clear Yh Y)));all_goals first|apply Hold.mk|omega|with_reducible assumption|skip))
    refine awp_block ?_
    refine awp_loop (σ := Nat × Nat) (fun x => match x with
     | (0, _) => ⟨[(0, onD a b va vb), (3, .ptr 900040 gR 0), (12, dI (0 : Nat))], [(900040, (gR, .box (rC (.own 900041 gt) (dI 3) finB))), (900041, (gt, .row 270 1 [[nP], [nP], [nP]]))]⟩
     | (1, gN) => ⟨[(0, onD a b va vb), (3, .ptr 900040 gR 0), (12, dI (2 : Nat))], [(900040, (gR, .box (rC (.own 900041 gt) (dI 3) finB))), (900041, (gt, .row 270 1 [[nP], [nP], [.ptr 900043 gN 0]])), (900043, (gN, .box (chN a va 4)))]⟩
     | (_, _) => ⟨[(0, onD a b va vb), (3, .ptr 900040 gR 0), (12, dI (4 : Nat))], [(900040, (gR, .box (rC (.own 900041 gt) (dI 3) finB))), (900041, (gt, .row 270 1 [[nP], [nP], [.rd [dS [], dI 0, dS [], nP, .sl 1 (((List.replicate 3 [nP]).set i [.rd (lfN va 4)]).set j [.rd (lfN vb 2)])]]]))]⟩) (fun x => x.1 ≤ 2) (fun x => 2 - x.1) (0, 0) ?_ (by simp) ?_
    ·(refine cov_of ?_ ?_ <;> simp [go_sem])
    rintro ⟨x, gN⟩ hx
    simp only at hx
    refine awp_seq_k fun K13 hK13 => ?_
    have hx' : x = 0 ∨ x = 1 ∨ x = 2 := by omega
    rcases hx' with rfl | rfl | rfl
    ·simp only
     (refine awp_sr fun Y Yh => ?_; simp [go_sem]; ((repeat' (first|(refine ag_x ?_;simp [go_sem])|intro _|apply And.intro|(apply Yh;clear Yh Y)));all_goals first|apply Hold.mk|omega|with_reducible assumption|skip))
     (refine awp_if fun T F hT hF => ?_; simp [go_sem]; refine hT ?_; clear hT hF T F)
     refine awp_skip ?_
     refine hK13 _ ?_; clear hK13
     refine awp_seq_k fun K14 hK14 => ?_
     refine awp_block ?_
     ((refine awp_d (.qs [0, 1, 2, 3, 4, 5, 7, 8, 9, 10, 12, 13, 14, 15, 16, 6, 11] (.one 17 (.nil))) (by kernel_rfl) ?_ ?_ ?_ ?_); (kernel_rfl); (exact (by decide +kernel)); (kernel_rfl); intro Y Yh; ((repeat' (first|(refine ag_x ?_;simp [go_sem])|refine adr_nil ?_|((first|refine adr_qs fun Y Yh=>?_|refine adr_y fun Y Yh=>?_);simp [go_sem])|intro _|apply And.intro|(apply Yh;clear Yh Y)));all_goals first|apply Hold.mk|omega|with_reducible assumption|skip))
     (refine callA_l [900040, 900041, 900043, 900042] (by first|exact .inl ⟨rfl,rfl⟩|exact .inr rfl) (by simp [go_sem]) ?_; intro args ha; simp [go_sem] at ha; subst ha; refine ⟨_, _, (root1_spec gR gt a va 4 finB fin_126), (by simp [go_sem]), ?_⟩; rintro ps r hps ⟨gN, g2, rfl, rfl⟩; simp [go_sem]; ((repeat' (first|(refine ag_x ?_;simp [go_sem])|refine adr_nil ?_|((first|refine adr_qs fun Y Yh=>?_|refine adr_y fun Y Yh=>?_);simp [go_sem])|intro _|apply And.intro|(apply Yh;clear Yh Y)));all_goals first|apply Hold.mk|omega|with_reducible assumption|skip))
     show K14 _
     refine hK14 _ ?_; clear hK14
     refine awp_frzpb 900042 900043 3 rfl rfl (by decide) rfl ?_
     simp only [go_sem, List.set]
     (refine awp_r fun Y Yh => ?_; simp [go_sem]; ((repeat' (first|(refine ag_x ?_;simp [go_sem])|intro _|apply And.intro|(apply Yh;clear Yh Y)));all_goals first|apply Hold.mk|omega|with_reducible assumption|skip))
     refine ⟨(1, gN), ?_, by simp, by simp⟩
     (refine cov_of ?_ ?_ <;> simp [go_sem])
    ·simp only
     rcases hab with ⟨rfl, rfl, rfl, rfl⟩ | ⟨rfl, rfl, rfl, rfl⟩
     ·have H := root2_spec gR gt gN 0 1 (by omega) 48 49 va vb 4 2 finB fin_126 (by decide) fin_48 fin_49
      (refine awp_sr fun Y Yh => ?_; simp [go_sem]; ((repeat' (first|(refine ag_x ?_;simp [go_sem])|intro _|apply And.intro|(apply Yh;clear Yh Y)));all_goals first|apply Hold.mk|omega|with_reducible assumption|skip))
      (refine awp_if fun T F hT hF => ?_; simp [go_sem]; refine hT ?_; clear hT hF T F)
      refine awp_skip ?_
      refine hK13 _ ?_; clear hK13
      refine awp_seq_k fun K14 hK14 => ?_
      refine awp_block ?_
      ((refine awp_d (.qs [0, 1, 2, 3, 4, 5, 7, 8, 9, 10, 12, 13, 14, 15, 16, 6, 11] (.one 17 (.nil))) (by kernel_rfl) ?_ ?_ ?_ ?_); (kernel_rfl); (exact (by decide +kernel)); (kernel_rfl); intro Y Yh; ((repeat' (first|(refine ag_x ?_;simp [go_sem])|refine adr_nil ?_|((first|refine adr_qs fun Y Yh=>?_|refine adr_y fun Y Yh=>?_);simp [go_sem])|intro _|apply And.intro|(apply Yh;clear Yh Y)));all_goals first|apply Hold.mk|omega|with_reducible assumption|skip))
      (refine callA_l [900040, 900041, 900043, 900044, 900042] (by first|exact .inl ⟨rfl,rfl⟩|exact .inr rfl) (by simp [go_sem]) ?_; intro args ha; simp [go_sem] at ha; subst ha; refine ⟨_, _, H, (by simp [go_sem]), ?_⟩; rintro ps r hps ⟨g1, g2, rfl, rfl⟩; simp [go_sem]; ((repeat' (first|(refine ag_x ?_;simp [go_sem])|refine adr_nil ?_|((first|refine adr_qs fun Y Yh=>?_|refine adr_y fun Y Yh=>?_);simp [go_sem])|intro _|apply And.intro|(apply Yh;clear Yh Y)));all_goals first|apply Hold.mk|omega|with_reducible assumption|skip))
      show K14 _
      refine hK14 _ ?_; clear hK14
      refine awp_frzpr 900042 900044 1 rfl rfl (by decide) rfl ?_
      simp only [go_sem, List.set]
      refine awp_frzin 900044 900043 4 rfl rfl (by decide) rfl ?_
      simp only [go_sem, List.set]
      refine awp_frzpr 900043 900041 2 rfl rfl (by decide) rfl ?_
      simp only [go_sem, List.set]
      (refine awp_r fun Y Yh => ?_; simp [go_sem]; ((repeat' (first|(refine ag_x ?_;simp [go_sem])|intro _|apply And.intro|(apply Yh;clear Yh Y)));all_goals first|apply Hold.mk|omega|with_reducible assumption|skip))
      refine ⟨(2, 0), ?_, by simp, by simp⟩
      (refine cov_of ?_ ?_ <;> simp [go_sem])
     ·have H := root2_spec gR gt gN 1 0 (by omega) 49 48 va vb 4 2 finB fin_126 (by decide) fin_49 fin_48
      (refine awp_sr fun Y Yh => ?_; simp [go_sem]; ((repeat' (first|(refine ag_x ?_;simp [go_sem])|intro _|apply And.intro|(apply Yh;clear Yh Y)));all_goals first|apply Hold.mk|omega|with_reducible assumption|skip))
      (refine awp_if fun T F hT hF => ?_; simp [go_sem]; refine hT ?_; clear hT hF T F)
      refine awp_skip ?_
      refine hK13 _ ?_; clear hK13
      refine awp_seq_k fun K14 hK14 => ?_
      refine awp_block ?_
      ((refine awp_d (.qs [0, 1, 2, 3, 4, 5, 7, 8, 9, 10, 12, 13, 14, 15, 16, 6, 11] (.one 17 (.nil))) (by kernel_rfl) ?_ ?_ ?_ ?_); (kernel_rfl); (exact (by decide +kernel)); (kernel_rfl); intro Y Yh; ((repeat' (first|(refine ag_x ?_;simp [go_sem])|refine adr_nil ?_|((first|refine adr_qs fun Y Yh=>?_|refine adr_y fun Y Yh=>?_);simp [go_sem])|intro _|apply And.intro|(apply Yh;clear Yh Y)));all_goals first|apply Hold.mk|omega|with_reducible assumption|skip))
      (refine callA_l [900040, 900041, 900043, 900044, 900042] (by first|exact .inl ⟨rfl,rfl⟩|exact .inr rfl) (by simp [go_sem]) ?_; intro args ha; simp [go_sem] at ha; subst ha; refine ⟨_, _, H, (by simp [go_sem]), ?_⟩; rintro ps r hps ⟨g1, g2, rfl, rfl⟩; simp [go_sem]; ((repeat' (first|(refine ag_x ?_;simp [go_sem])|refine adr_nil ?_|((first|refine adr_qs fun Y Yh=>?_|refine adr_y fun Y Yh=>?_);simp [go_sem])|intro _|apply And.intro|(apply Yh;clear Yh Y)));all_goals first|apply Hold.mk|omega|with_reducible assumption|skip))
      show K14 _
      refine hK14 _ ?_; clear hK14
      refine awp_frzpr 900042 900044 0 rfl rfl (by decide) rfl ?_
      simp only [go_sem, List.set]
      refine awp_frzin 900044 900043 4 rfl rfl (by decide) rfl ?_
      simp only [go_sem, List.set]
      refine awp_frzpr 900043 900041 2 rfl rfl (by decide) rfl ?_
      simp only [go_sem, List.set]
      (refine awp_r fun Y Yh => ?_; simp [go_sem]; ((repeat' (first|(refine ag_x ?_;simp [go_sem])|intro _|apply And.intro|(apply Yh;clear Yh Y)));all_goals first|apply Hold.mk|omega|with_reducible assumption|skip))
      refine ⟨(2, 0), ?_, by simp, by simp⟩
      (refine cov_of ?_ ?_ <;> simp [go_sem])
    ·simp only
     (refine awp_sr fun Y Yh => ?_; simp [go_sem]; ((repeat' (first|(refine ag_x ?_;simp [go_sem])|intro _|apply And.intro|(apply Yh;clear Yh Y)));all_goals first|apply Hold.mk|omega|with_reducible assumption|skip))
     (refine awp_if fun T F hT hF => ?_; simp [go_sem]; refine hF ?_; clear hT hF T F)
     refine awp_exit ?_
     simp only [go_sem]
     refine hK12 _ ?_; clear hK12
     refine awp_frzin 900041 900040 4 rfl rfl (by decide) rfl ?_
     simp only [go_sem, rC_set4]
     refine awp_frzbox 3 rfl rfl ?_
     simp only [go_sem]
     (refine awp_sr fun Y Yh => ?_; simp [go_sem]; ((repeat' (first|(refine ag_x ?_;simp [go_sem])|intro _|apply And.intro|(apply Yh;clear Yh Y)));all_goals first|apply Hold.mk|omega|with_reducible assumption|skip))
     (refine awp_ret ?_; simp [go_sem])
set_option maxHeartbeats 8000000 in
theorem newr_spec (a b : UInt8) (va vb : Bs) : ACall Tryz.prog 54 [onD a b va vb] [] [900010] fun ps r => ∃ g, ps = [(g, .box [.v (.int .u32 0), .v (.int .i32 0), .v (.int .u32 0), .v .nilIface, onD a b va vb])] ∧ r = .ptr 900010 g 0 := by 
 refine acall_of Tryz.func54 rfl rfl Tryz.ntmps54 (rs := [.tmp 2]) (tys := [94]) rfl rfl (by simp) (by simp) ?_
 (refine awp_sr fun Y Yh => ?_; simp [go_sem]; ((repeat' (first|(refine ag_x ?_;simp [go_sem])|intro _|apply And.intro|(apply Yh;clear Yh Y)));all_goals first|apply Hold.mk|omega|with_reducible assumption|skip))
 refine awp_seq_k fun K1 hK1 => ?_
 (refine awp_sr fun Y Yh => ?_; simp [go_sem]; ((repeat' (first|(refine ag_x ?_;simp [go_sem])|intro _|apply And.intro|(apply Yh;clear Yh Y)));all_goals first|apply Hold.mk|omega|with_reducible assumption|skip))
 (refine awp_if fun T F hT hF => ?_; simp [go_sem]; refine hF ?_; clear hT hF T F)
 refine awp_skip ?_
 refine hK1 _ ?_; clear hK1
 (refine awp_sr fun Y Yh => ?_; simp [go_sem]; ((repeat' (first|(refine ag_x ?_;simp [go_sem])|intro _|apply And.intro|(apply Yh;clear Yh Y)));all_goals first|apply Hold.mk|omega|with_reducible assumption|skip))
 refine awp_renbox 2 900010 rfl rfl (by decide) fun g => ?_
 simp only [go_sem]
 refine awp_frzin 9 900010 4 rfl rfl (by decide) rfl ?_
 simp only [go_sem, List.set]
 (refine awp_ret ?_; simp [go_sem])
def gC (i j : Nat) (va vb : Bs) : List D := rC (.sl 1 [[nP], [nP], [.rd [dS [], dI 0, dS [], nP, .sl 1 (((List.replicate 3 [nP]).set i [.rd (lfN va 4)]).set j [.rd (lfN vb 2)])]]]) (dI 3) finB
abbrev gRd (i j : Nat) (va vb : Bs) : D := .rd (gC i j va vb)
abbrev abOk (a b : UInt8) (i j : Nat) : Prop := (a = 48 ∧ b = 49 ∧ i = 0 ∧ j = 1) ∨ (a = 49 ∧ b = 48 ∧ i = 1 ∧ j = 0)
set_option maxHeartbeats 8000000 in
theorem build_spec (g : Nat) (c0 c1 c2 : Value) (a b : UInt8) (va vb : Bs) (i j : Nat) (hab : abOk a b i j) : ACall Tryz.prog 150 [.ptr 900010 g 0] [(900010, (g, .box [.v c0, .v c1, .v c2, .v .nilIface, onD a b va vb]))] [900010] fun ps r =>
  ps = [(g, .box [.v c0, .v c1, .v c2, .v .nilIface, onD a b va vb])] ∧ r = .ifc 235 (gRd i j va vb) := by 
 refine acall_of Tryz.func150 rfl rfl Tryz.ntmps150 (rs := [.tmp 2]) (tys := [163]) rfl rfl (by simp) (by simp [notFroz]) ?_
 have H := mkgen_spec a b va vb i j hab
 change PCall Tryz.prog 188 [onD a b va vb] fun r => r = gRd i j va vb at H
 simp only [gRd] at H ⊢
 generalize gC i j va vb = G at *
 (refine awp_sr fun Y Yh => ?_; simp [go_sem]; ((repeat' (first|(refine ag_x ?_;simp [go_sem])|intro _|apply And.intro|(apply Yh;clear Yh Y)));all_goals first|apply Hold.mk|omega|with_reducible assumption|skip))
 (refine awp_sr fun Y Yh => ?_; simp [go_sem]; ((repeat' (first|(refine ag_x ?_;simp [go_sem])|intro _|apply And.intro|(apply Yh;clear Yh Y)));all_goals first|apply Hold.mk|omega|with_reducible assumption|skip))
 refine awp_seq_k fun K1 hK1 => ?_
 (refine awp_sr fun Y Yh => ?_; simp [go_sem]; ((repeat' (first|(refine ag_x ?_;simp [go_sem])|intro _|apply And.intro|(apply Yh;clear Yh Y)));all_goals first|apply Hold.mk|omega|with_reducible assumption|skip))
 (refine awp_if fun T F hT hF => ?_; simp [go_sem]; refine hF ?_; clear hT hF T F)
 refine awp_skip ?_
 refine hK1 _ ?_; clear hK1
 (refine awp_sr fun Y Yh => ?_; simp [go_sem]; ((repeat' (first|(refine ag_x ?_;simp [go_sem])|intro _|apply And.intro|(apply Yh;clear Yh Y)));all_goals first|apply Hold.mk|omega|with_reducible assumption|skip))
 refine awp_seq_k fun K3 hK3 => ?_
 (refine awp_sr fun Y Yh => ?_; simp [go_sem]; ((repeat' (first|(refine ag_x ?_;simp [go_sem])|intro _|apply And.intro|(apply Yh;clear Yh Y)));all_goals first|apply Hold.mk|omega|with_reducible assumption|skip))
 refine awp_block ?_
 refine awp_loop (σ := Unit) (fun _ => ⟨[(0, .ptr 900010 g 0), (3, onD a b va vb), (5, dI 0)], [(900010, (g, .box [.v c0, .v c1, .v c2, .v .nilIface, onD a b va vb]))]⟩) (fun _ => True) (fun _ => 0) () (by (refine cov_of ?_ ?_ <;> simp [go_sem])) trivial ?_
 rintro ⟨⟩ _
 refine awp_seq_k fun K4 hK4 => ?_
 (refine awp_sr fun Y Yh => ?_; simp [go_sem]; ((repeat' (first|(refine ag_x ?_;simp [go_sem])|intro _|apply And.intro|(apply Yh;clear Yh Y)));all_goals first|apply Hold.mk|omega|with_reducible assumption|skip))
 (refine awp_if fun T F hT hF => ?_; simp [go_sem]; refine hT ?_; clear hT hF T F)
 refine awp_skip ?_
 refine hK4 _ ?_; clear hK4
 refine awp_seq_k fun K6 hK6 => ?_
 refine awp_block ?_
 refine awp_seq_k fun K7 hK7 => ?_
 (refine awp_sr fun Y Yh => ?_; simp [go_sem]; ((repeat' (first|(refine ag_x ?_;simp [go_sem])|intro _|apply And.intro|(apply Yh;clear Yh Y)));all_goals first|apply Hold.mk|omega|with_reducible assumption|skip))
 (refine awp_if fun T F hT hF => ?_; simp [go_sem]; refine hT ?_; clear hT hF T F)
 (refine awp_seq ?_; refine awp_ags ?_; simp only [AGs])
 (refine ag_true rfl ?_; simp [go_sem])
 (refine ag_true rfl ?_; simp [go_sem])
 refine CallT.toA ?_
 refine callT_m (.inl ⟨rfl, rfl⟩) (by simp [go_sem]) ?_
 intro args ha
 simp [go_sem] at ha
 subst ha
 refine ⟨_, H, ?_⟩
 rintro _ rfl
 refine ag_mkifc (by simp [dstOk]) (by kernel_rfl) ?_
 simp [go_sem]
 (refine ag_true rfl ?_; simp [go_sem])
 (refine awp_ret ?_; simp [go_sem, retA])
set_option maxHeartbeats 8000000 in
theorem bonce_spec (g : Nat) (c0 c1 c2 : Value) (a b : UInt8) (va vb : Bs) (i j : Nat) (hab : abOk a b i j) : ACall Tryz.prog 103 [.ptr 900010 g 0] [(900010, (g, .box [.v c0, .v c1, .v c2, .v .nilIface, onD a b va vb]))] [900010] fun ps r =>
  ps = [(g, .box [.v c0, .v c1, .v c2, .ifc 235 (gRd i j va vb), nS])] ∧ r = .tup [] := by 
 refine acall_of Tryz.func103 rfl rfl Tryz.ntmps103 (rs := []) (tys := []) rfl rfl (by simp) (by simp [notFroz]) ?_
 have H := build_spec g c0 c1 c2 a b va vb i j hab
 simp only [gRd] at H ⊢
 generalize gC i j va vb = G at *
 (refine awp_sr fun Y Yh => ?_; simp [go_sem]; ((repeat' (first|(refine ag_x ?_;simp [go_sem])|intro _|apply And.intro|(apply Yh;clear Yh Y)));all_goals first|apply Hold.mk|omega|with_reducible assumption|skip))
 (refine callA_l [900010] (by first|exact .inl ⟨rfl,rfl⟩|exact .inr rfl) (by simp [go_sem]) ?_; intro args ha; simp [go_sem] at ha; subst ha; refine ⟨_, _, H, (by simp [go_sem]), ?_⟩; rintro ps r hps ⟨rfl, rfl⟩; simp [go_sem]; ((repeat' (first|(refine ag_x ?_;simp [go_sem])|intro _|apply And.intro|(apply Yh;clear Yh Y)));all_goals first|apply Hold.mk|omega|with_reducible assumption|skip))
 (refine awp_r fun Y Yh => ?_; simp [go_sem]; ((repeat' (first|(refine ag_x ?_;simp [go_sem])|intro _|apply And.intro|(apply Yh;clear Yh Y)));all_goals first|apply Hold.mk|omega|with_reducible assumption|skip))
 unfold retA
 simp [go_sem, notFroz]
end Go.Proofs.YtkgmecjaejaehaaGreatDoor
namespace Go.Proofs.YtkgmecjaejaehaaGreatDoor
set_option maxRecDepth 100000
theorem rdisable (w : World) : (callFunc 236 #[]).run Tryz.prog w = .ok (.value (.tuple #[])) w := run_call_mark0 Tryz.func236 (by kernel_rfl) (by kernel_rfl) (by kernel_rfl) .disable (by kernel_rfl) w
theorem renable (w : World) : (callFunc 238 #[]).run Tryz.prog w = .ok (.value (.tuple #[])) w := run_call_mark0 Tryz.func238 (by kernel_rfl) (by kernel_rfl) (by kernel_rfl) .enable (by kernel_rfl) w
theorem racquire (a : Addr) (w : World) : (callFunc 239 #[.pointer (some a)]).run Tryz.prog w = .ok (.value (.tuple #[])) w := run_call_marked Tryz.func239 (by kernel_rfl) (by kernel_rfl) (by kernel_rfl) .acquire (by kernel_rfl) a w
theorem rrelease (a : Addr) (w : World) : (callFunc 241 #[.pointer (some a)]).run Tryz.prog w = .ok (.value (.tuple #[])) w := run_call_marked Tryz.func241 (by kernel_rfl) (by kernel_rfl) (by kernel_rfl) .releaseMerge (by kernel_rfl) a w
theorem store_deferred (a : Addr) (x : Value) (u : FrameMode) (w : World) (hc : w.cell? a = some x) (hz : w.frozen? a = false) :
  CallsD Tryz.prog 186 #[.pointer (some a), .bool true] u w fun e u' w' => u' = u ∧ (e = .returned (.tuple #[]) ∧ w' = w.drew.setCell a (.int .u32 1)) := by
 have hc' : w.drew.cell? a = some x := by go_simp
 have hz' : w.drew.frozen? a = false := by go_simp
 have hst := run_call_store (P := Tryz.prog) Tryz.func218 (by kernel_rfl) (by kernel_rfl) (by kernel_rfl) (by kernel_rfl) (k := .u32) (y := 1) hc' hz'
 go_enter_d Tryz.func186, Tryz.ntmps186
 go_wp2
 go_region_calls
 all_goals (go_end0; exact ⟨rfl, rfl⟩)
theorem unlock_deferred (a : Addr) (u : FrameMode) (w : World) (hc : w.cell? a = some (.int .i32 1)) (hz : w.frozen? a = false) :
  CallsD Tryz.prog 185 #[.pointer (some a)] u w fun e u' w' => u' = u ∧ (e = .returned (.tuple #[]) ∧ w' = w.setCell a (.int .i32 0)) := by
 have hd := rdisable
 have he := renable
 have hr := rrelease
 have hadd := run_call_add (P := Tryz.prog) Tryz.func242 (by kernel_rfl) (by kernel_rfl) (by kernel_rfl) .i32 (by kernel_rfl) (y := -1) (s := 0) hc hz (by simp [go_sem]; rfl)
 have hcv := run_convert_to_unsafe (P := Tryz.prog) (src := 286) (dst := 223) Tryz.underlying286 Tryz.underlying223 (by kernel_rfl) hc
 go_enter_d Tryz.func185, Tryz.ntmps185
 go_wp2
 go_end0
 go_wp2
 go_end0
 exact ⟨rfl, rfl⟩
theorem lock_free (a : Addr) (w : World) (hc : w.cell? a = some (.int .i32 0)) (hz : w.frozen? a = false) :
  Calls Tryz.prog 184 #[.pointer (some a)] w fun e w' => e = .returned (.tuple #[]) ∧ w' = w.setCell a (.int .i32 1) := by
 have hd := rdisable
 have he := renable
 have ha := racquire
 have hcas := run_call_cas_hit (P := Tryz.prog) Tryz.func237 (by kernel_rfl) (by kernel_rfl) (by kernel_rfl) .i32 (by kernel_rfl) (y := 1) hc hz
 have hc' : (w.setCell a (.int .i32 1)).cell? a = some (.int .i32 1) := World.cell?_setCell_same w a _ hc
 have hcv := run_convert_to_unsafe (P := Tryz.prog) (src := 286) (dst := 223) Tryz.underlying286 Tryz.underlying223 (by kernel_rfl) hc'
 go_enter Tryz.func184, Tryz.ntmps184
 go_wp2
 first | go_end0 | (simp only [Exit.inBlock, Exit.then]; refine bodyPost_ret (results_none rfl _ _ _) rfl ?_) | refine bodyPost_ret (results_none rfl _ _ _) rfl ?_
 go_wp2
 go_end0
 exact ⟨rfl, rfl⟩
set_option maxHeartbeats 3200000 in
theorem slow_any (b : Nat) (w : World) (h0 : w.cell? ⟨b, 0, none⟩ = some (.int .u32 0)) (h1 : w.cell? ⟨b, 1, none⟩ = some (.int .i32 0)) (f0 : w.frozen? ⟨b, 0, none⟩ = false) (f1 : w.frozen? ⟨b, 1, none⟩ = false)
  (R : World → Prop) (H : Calls Tryz.prog 103 #[.pointer (some ⟨b, 0, none⟩)] (w.setCell ⟨b, 1, none⟩ (.int .i32 1)) fun e w' => e = .returned (.tuple #[]) ∧ R w')
  (HR : ∀ w', R w' → w'.cell? ⟨b, 0, none⟩ = some (.int .u32 0) ∧ w'.cell? ⟨b, 1, none⟩ = some (.int .i32 1) ∧ w'.frozen? ⟨b, 0, none⟩ = false ∧ w'.frozen? ⟨b, 1, none⟩ = false) :
  Calls Tryz.prog 149 #[.pointer (some ⟨b, 0, none⟩), .func (.func 103) #[.pointer (some ⟨b, 0, none⟩)] #[]] w fun e w' => e = .returned (.tuple #[]) ∧
   ∃ w1, R w1 ∧ w' = (w1.drew.setCell ⟨b, 0, none⟩ (.int .u32 1)).setCell ⟨b, 1, none⟩ (.int .i32 0) := by
 have hl := run_call_load (P := Tryz.prog) Tryz.func183 (by kernel_rfl) (by kernel_rfl) (by kernel_rfl) .u32 (by kernel_rfl) (w := w.setCell ⟨b, 1, none⟩ (.int .i32 1)) (a := ⟨b, 0, none⟩) (x := 0) ((World.cell?_setCell_other _ ⟨b, 1, none⟩ ⟨b, 0, none⟩ _ (by simp)).trans h0)
 have hnot : ∀ (x : Bool) (w : World), (Op.unary .not (.bool x)).run Tryz.prog w = .ok (.bool (!x)) w := fun _ _ => rfl
 go_enter_defers Tryz.func149, Tryz.ntmps149
 go_wp2_with (go_at_call 184; refine (lock_free ⟨b, 1, none⟩ _ (by go_simp) (by go_simp)).mono ?_; rintro e w' ⟨rfl, rfl⟩)
 go_wp2_with (first | (go_at_call 103; refine H.mono ?_; rintro e w' ⟨rfl, hR⟩) | (go_at_call 148; go_in))
 obtain ⟨r0, r1, z0, z1⟩ := HR _ hR
 refine leaves_cons (f := 186) (args := #[.pointer (some ⟨b, 0, none⟩), .bool true]) (by simp) (by simp [go_sem]) ?_
 refine (store_deferred ⟨b, 0, none⟩ (.int .u32 0) .returning _ r0 z0).mono ?_
 rintro e u' w'' ⟨rfl, rfl, rfl⟩
 refine leaves_cons (f := 185) (args := #[.pointer (some ⟨b, 1, none⟩)]) (by simp [settle]) (by simp [go_sem]) ?_
 refine (unlock_deferred ⟨b, 1, none⟩ _ _ ?_ (by simp [z1])).mono ?_
 ·refine (World.cell?_setCell_other _ ⟨b, 0, none⟩ ⟨b, 1, none⟩ _ (by simp)).trans ?_
  rw [World.cell?_drew]
  exact r1
 rintro e u' w'' ⟨rfl, rfl, rfl⟩
 simp [Leaves, settle, results, Tryz.results149]
 exact ⟨_, hR, rfl⟩
set_option maxHeartbeats 3200000 in
theorem do_first (b : Nat) (w : World) (h0 : w.cell? ⟨b, 0, none⟩ = some (.int .u32 0)) (h1 : w.cell? ⟨b, 1, none⟩ = some (.int .i32 0)) (f0 : w.frozen? ⟨b, 0, none⟩ = false) (f1 : w.frozen? ⟨b, 1, none⟩ = false)
  (R : World → Prop) (H : Calls Tryz.prog 103 #[.pointer (some ⟨b, 0, none⟩)] (w.setCell ⟨b, 1, none⟩ (.int .i32 1)) fun e w' => e = .returned (.tuple #[]) ∧ R w')
  (HR : ∀ w', R w' → w'.cell? ⟨b, 0, none⟩ = some (.int .u32 0) ∧ w'.cell? ⟨b, 1, none⟩ = some (.int .i32 1) ∧ w'.frozen? ⟨b, 0, none⟩ = false ∧ w'.frozen? ⟨b, 1, none⟩ = false) :
  Calls Tryz.prog 102 #[.pointer (some ⟨b, 0, none⟩), .func (.func 103) #[.pointer (some ⟨b, 0, none⟩)] #[]] w fun e w' => e = .returned (.tuple #[]) ∧
   ∃ w1, R w1 ∧ w' = (w1.drew.setCell ⟨b, 0, none⟩ (.int .u32 1)).setCell ⟨b, 1, none⟩ (.int .i32 0) := by
 have hl := run_call_load (P := Tryz.prog) Tryz.func183 (by kernel_rfl) (by kernel_rfl) (by kernel_rfl) .u32 (by kernel_rfl) h0
 have hnot : ∀ (x : Bool) (w : World), (Op.unary .not (.bool x)).run Tryz.prog w = .ok (.bool (!x)) w := fun _ _ => rfl
 go_enter Tryz.func102, Tryz.ntmps102
 go_wp2_with (first | (go_at_call 149; refine (slow_any b _ h0 h1 f0 f1 R H HR).mono ?_; rintro e w' ⟨rfl, hR⟩) | (go_at_call 148; go_in))
 go_end0
 exact ⟨rfl, hR⟩
end Go.Proofs.YtkgmecjaejaehaaGreatDoor
namespace Go.Proofs.YtkgmecjaejaehaaGreatDoor
open Go.Eng Go.Js
set_option maxRecDepth 20000
abbrev bxR (d s : Int) (c2 : Value) (r o : D) : Blk := .box [.v (.int .u32 d), .v (.int .i32 s), .v c2, r, o]
set_option maxHeartbeats 3200000 in
theorem once_spec (g : Nat) (c2 : Value) (a b : UInt8) (va vb : Bs) (i j : Nat) (hab : abOk a b i j) : ACall Tryz.prog 102 [.ptr 900010 g 0, .mfn 103 (.ptr 900010 g 0)] [(900010, (g, bxR 0 0 c2 (.v .nilIface) (onD a b va vb)))] [900010] fun ps r =>
  ps = [(g, bxR 1 0 c2 (.ifc 235 (gRd i j va vb)) nS)] ∧ r = .tup [] := by
 have hB := bonce_spec g (.int .u32 0) (.int .i32 1) c2 a b va vb i j hab
 simp only [gRd] at hB ⊢
 generalize gC i j va vb = G at *
 have hes : ∀ p ∈ [((900010, (g, bxR 0 0 c2 (.v .nilIface) (onD a b va vb))) : Nat × (Nat × Blk))], 900000 ≤ p.1 ∧ notFroz p.2.2 = true ∧ p.1 ∈ [900010] := by simp [notFroz]
 refine ⟨⟨_, Tryz.func102, rfl, rfl⟩, hes, fun C w us hc hg hr hent => ?_⟩
 have E := Env.start hg hent fun p hp => (hes p hp).2.1
 have I := Inv.start hc hent fun p hp => (hes p hp).1
 
 obtain ⟨bk, hv, hus⟩ : ∃ bk, C.val 900010 g = some (.pointer (some ⟨bk, 0, none⟩)) ∧ us = [.pointer (some ⟨bk, 0, none⟩), .func (.func 103) #[.pointer (some ⟨bk, 0, none⟩)] #[]] := by
  obtain ⟨hl, hh⟩ := hr
  match us, hl with
  | [u1, u2], _ =>
   have r1 := hh 0 _ _ rfl rfl
   have r2 := hh 1 _ _ rfl rfl
   cases r1 with
   | ptr _ _ _ bk hb =>
    refine ⟨bk, hb, ?_⟩
    cases r2 with
    | mfn _ _ u0 h0 =>
     cases h0 with
     | ptr _ _ _ b' hb' =>
      rw [hb] at hb'
      simp only [Option.some.injEq, Value.pointer.injEq, Addr.mk.injEq, and_true] at hb'
      subst hb'
      rfl
 subst hus
 have hx0 : Eng.look (⟨[], [(900010, (g, bxR 0 0 c2 (.v .nilIface) (onD a b va vb)))]⟩ : St).heap 900010 = some (g, bxR 0 0 c2 (.v .nilIface) (onD a b va vb)) := rfl
 obtain ⟨a0, f0⟩ := I.boxCell (j := 0) hx0 rfl hv
 obtain ⟨a1, f1⟩ := I.boxCell (j := 1) hx0 rfl hv
 have I1 := I.cellSet (j := 1) (v := .int .i32 1) hx0 hv rfl
 have H := hB.2.2 C _ [.pointer (some ⟨bk, 0, none⟩)] I1.ctxOk (E.now I1) ⟨rfl, fun k d u hd hu => by
   match k, hd, hu with
   | 0, hd, hu => simp at hd hu; subst hd hu; exact .ptr _ _ _ _ hv
   | k + 1, hd, _ => simp at hd⟩
  (fun s g' x hx => by
   have : Eng.look (St.hput ⟨[], [(900010, (g, bxR 0 0 c2 (.v .nilIface) (onD a b va vb)))]⟩ 900010 g (.box ([.v (.int .u32 0), .v (.int .i32 0), .v c2, .v .nilIface, (onD a b va vb)].set 1 (.v (.int .i32 1))))).heap s = some (g', x) := by
    simp only [Eng.look] at hx
    split at hx
    ·rename_i e; subst e; simp at hx; obtain ⟨rfl, rfl⟩ := hx; rfl
    ·cases hx
   exact I1.heap s g' x this)
 refine (do_first bk w a0 a1 f0 f1 (fun w' => ∃ C' S', Inv w (LentB [(900010, (g, bxR 0 0 c2 (.v .nilIface) (onD a b va vb)))]) C 0 S' C' act0 w' ∧ C'.val 900010 g = some (.pointer (some ⟨bk, 0, none⟩)) ∧
   Eng.look S'.heap 900010 = some (g, bxR 0 1 c2 (.ifc 235 (.rd G)) nS)) (H.mono ?_) ?_).mono ?_
 ·rintro e w' ⟨u, r, ps, C', rfl, ⟨rfl, rfl⟩, hru, hok, ext, hp, hm, he, hl, hd, hfrm⟩
  have I2 := I1.afterL (ss := [900010]) (es := [(900010, (g, bxR 0 1 c2 (.v .nilIface) (onD a b va vb)))]) (fun s g' x hx => by
   simp only [Eng.look] at hx
   split at hx
   ·rename_i e; subst e; simp at hx; obtain ⟨rfl, rfl⟩ := hx; exact ⟨rfl, by decide, rfl, by simp⟩
   ·cases hx) ext hok hp hm he hl hd hfrm
  refine ⟨?_, C', _, I2, ext.val _ _ _ hv, rfl⟩
  cases hru with
  | tup _ vs hn _ =>
   have : vs = #[] := Array.eq_empty_of_size_eq_zero hn
   rw [this]
 ·rintro w' ⟨C', S', I', hv', q1⟩
  obtain ⟨b0, z0⟩ := I'.boxCell (j := 0) q1 rfl hv'
  obtain ⟨b1, z1⟩ := I'.boxCell (j := 1) q1 rfl hv'
  exact ⟨b0, b1, z0, z1⟩
 ·rintro e w' ⟨rfl, w1, ⟨C', S', I', hv', q1⟩, rfl⟩
  have I4 := (I'.drew).cellSet (j := 0) (v := .int .u32 1) q1 hv' rfl
  have I5 := I4.cellSet (s := 900010) (g := g) (j := 1) (v := .int .i32 0) (cs := [.v (.int .u32 1), .v (.int .i32 1), .v c2, .ifc 235 (.rd G), nS]) rfl hv' rfl
  refine ⟨.tuple #[], .tup [], [(g, bxR 1 0 c2 (.ifc 235 (.rd G)) nS)], C', rfl, ⟨rfl, rfl⟩, .tup _ _ rfl (fun k c u hj => by simp at hj), ?_⟩
  refine Inv.finish (ss := [900010]) hc hent (fun p hp => (hes p hp).2.1) I5 rfl (fun k s p h1 h2 => ?_)
  match k, h1, h2 with
  | 0, h1, h2 => simp at h1 h2; subst h1 h2; exact ⟨rfl, rfl⟩
  | k + 1, h1, _ => simp at h1
end Go.Proofs.YtkgmecjaejaehaaGreatDoor
namespace Go.Eng
set_option linter.unusedSectionVars false
variable {P : Program} [HasGlob P] [HasPan P]
section
variable {n : Nat} {S : St}
theorem ag_assert {ops : List Oper} {dst : Option Nat} {x : Operand} {xT t ty : TypeId} {pos : String} {after : Array Edge} {K : St → Prop} (t0 : TypeId) (hd : dstOk n dst)
  (hm : ∀ (v : Value) (w : World), (Instr.typeAssert (.iface t0 v) xT t true).run P w = .ok (.tuple #[.iface t0 v, .bool true]) w)
  (h : evK true S x fun d => ∃ d0, d = .ifc t0 d0 ∧ K (S.set dst (.tup [.ifc t0 d0, .v (.bool true)]))) : AG P n ops ⟨dst, .typeAssert x xT t true, ty, pos, after, none⟩ S K := by
 intro w0 B C0 C a w E I N Q hN _
 have hw : Region.wanted (⟨dst, .typeAssert x xT t true, ty, pos, after, none⟩ : Oper) (yielded ops.toArray a.tmps) = true := by simp [Region.wanted]
 rw [if_pos hw]
 obtain ⟨d, ⟨d0, rfl, hk⟩, hr⟩ := evK_ok I h
 have hr := hr rfl
 generalize hX : a.eval x = ux at hr
 cases hr with
 | ifc _ _ u hu =>
  refine wp_val (u := .tuple #[.iface t0 u, .bool true]) (w' := w) ?_ (hN _ _ ⟨_, C, hk, I.set (dstOk_spec hd) (.tup _ _ rfl fun j c v hc hv => ?_)⟩)
  ·simp [execOp, hX, hm]
  ·match j, hc, hv with
   | 0, hc, hv => simp at hc hv; subst hc hv; exact .ifc _ _ _ hu
   | 1, hc, hv => simp at hc hv; subst hc hv; exact .v _
   | j + 2, hc, _ => simp at hc
theorem ag_mkimeth {ops : List Oper} {dst : Option Nat} {name : String} {ty : TypeId} {x : Operand} {pos : String} {after : Array Edge} {K : St → Prop} (hd : dstOk n dst)
  (h : evK true S x fun d => ∃ t d0, d = .ifc t d0 ∧ ∀ u0, K (S.set dst (.v (.func (.method name) #[.iface t u0] #[])))) : AG P n ops ⟨dst, .makeFunc (.method name) #[x] #[], ty, pos, after, none⟩ S K := by
 intro w0 B C0 C a w E I N Q hN _
 by_cases hw : Region.wanted (⟨dst, .makeFunc (.method name) #[x] #[], ty, pos, after, none⟩ : Oper) (yielded ops.toArray a.tmps) = true
 ·rw [if_pos hw]
  obtain ⟨d, ⟨t, d0, rfl, hk⟩, hr⟩ := evK_ok I h
  have hr := hr rfl
  generalize hX : a.eval x = ux at hr
  cases hr with
  | ifc _ _ u hu =>
   refine wp_val (u := .func (.method name) #[.iface t u] #[]) (w' := w) ?_ (hN _ _ ⟨_, C, hk u, I.set (dstOk_spec hd) (.v _)⟩)
   simp [execOp, Instr.makeFunc, hX]
 ·exact absurd (by simp [Region.wanted]) hw
theorem ag_nilmeth {ops : List Oper} {dst : Option Nat} {name : String} {ty t : TypeId} {x : Operand} {pos : String} {after : Array Edge} {K : St → Prop} (hd : dstOk n dst)
  (hn : ∀ (v : Value) (w : World), (nilAhead (P.types.size + Made.depth) t v name).run P w = .ok (some false) w)
  (h : evK true S x fun d => ∃ u0, d = .v (.func (.method name) #[.iface t u0] #[]) ∧ K (S.set dst d)) : AG P n ops ⟨dst, .nilCheck x, ty, pos, after, none⟩ S K := by
 intro w0 B C0 C a w E I N Q hN _
 have hw : Region.wanted (⟨dst, .nilCheck x, ty, pos, after, none⟩ : Oper) (yielded ops.toArray a.tmps) = true := by simp [Region.wanted]
 rw [if_pos hw]
 obtain ⟨d, ⟨u0, rfl, hk⟩, hr⟩ := evK_ok I h
 have hv := (hr rfl).v_inv
 refine wp_val (u := .func (.method name) #[.iface t u0] #[]) (w' := w) ?_ (hN _ _ ⟨_, C, hk, I.set (dstOk_spec hd) (.v _)⟩)
 have hp : (program : Sem Program).run P w = .ok P w := run_program ..
 simp [execOp, hv, hp, hn]
end
theorem bytesR_app (a b : List UInt8) : bytesR (a ++ b) = bytesR a ++ bytesR b := by simp [bytesR]
theorem bytesR_len (a : List UInt8) : (bytesR a).length = a.length := by simp [bytesR]
end Go.Eng
namespace Go.Js
/-! what two keys of a byte behind '~' become; the tokens of a pointer -/
def repV (a b : UInt8) (va vb : List UInt8) : List UInt8 → List UInt8
 | [] => []
 | [c] => [c]
 | c :: d :: s =>
  if c = 126 then
   if d = a then va ++ repV a b va vb s else if d = b then vb ++ repV a b va vb s else c :: repV a b va vb (d :: s)
  else c :: repV a b va vb (d :: s)
def lookV (a b : UInt8) (va vb : List UInt8) : List UInt8 → Option (List UInt8)
 | c :: d :: _ => if c = 126 then if d = a then some va else if d = b then some vb else none else none
 | _ => none
theorem repV_some {a b : UInt8} {va vb s v : List UInt8} (h : lookV a b va vb s = some v) : repV a b va vb s = v ++ repV a b va vb (s.drop 2) := by
 match s, h with
 | c :: d :: s, h =>
  simp only [lookV] at h
  simp only [repV, List.drop_succ_cons, List.drop_zero]
  by_cases h1 : c = 126
  ·rw [if_pos h1] at h ⊢
   by_cases h2 : d = a
   ·rw [if_pos h2] at h ⊢
    cases h; rfl
   ·rw [if_neg h2] at h ⊢
    by_cases h3 : d = b
    ·rw [if_pos h3] at h ⊢
     cases h; rfl
    ·rw [if_neg h3] at h; cases h
  ·rw [if_neg h1] at h; cases h
theorem lookV_len {a b : UInt8} {va vb s v : List UInt8} (h : lookV a b va vb s = some v) : 2 ≤ s.length := by
 match s, h with
 | c :: d :: s, h => simp
theorem repV_none {a b : UInt8} {va vb s : List UInt8} {c : UInt8} (h : lookV a b va vb (c :: s) = none) : repV a b va vb (c :: s) = c :: repV a b va vb s := by
 match s, h with
 | [], _ => simp [repV]
 | d :: s, h =>
  simp only [lookV] at h
  simp only [repV]
  by_cases h1 : c = 126
  ·rw [if_pos h1] at h ⊢
   by_cases h2 : d = a
   ·rw [if_pos h2] at h; cases h
   ·rw [if_neg h2] at h ⊢
    by_cases h3 : d = b
    ·rw [if_pos h3] at h; cases h
    ·rw [if_neg h3]
  ·rw [if_neg h1]
theorem lookV_not {a b : UInt8} {va vb s : List UInt8} {c : UInt8} (h : c ≠ 126) : lookV a b va vb (c :: s) = none := by
 match s with
 | [] => rfl
 | d :: s => simp [lookV, h]
theorem repV_len (a b : UInt8) (va vb : List UInt8) (ha : va.length ≤ 2) (hb : vb.length ≤ 2) : ∀ (n : Nat) (s : List UInt8), s.length ≤ n → (repV a b va vb s).length ≤ s.length := by
 intro n
 induction n with
 | zero => intro s h0; obtain rfl := List.eq_nil_of_length_eq_zero (Nat.le_zero.1 h0); simp [repV]
 | succ n ih =>
  intro s h
  match s, h with
  | [], _ => simp [repV]
  | c :: s, h =>
   cases hl : lookV a b va vb (c :: s) with
   | none =>
    rw [repV_none hl]
    have := ih s (by simp at h; omega)
    simp; omega
   | some v =>
    rw [repV_some hl]
    have h2 := lookV_len hl
    have := ih ((c :: s).drop 2) (by simp at h ⊢; omega)
    have hv : v.length ≤ 2 := by
     match s, hl with
     | d :: s, hl =>
      simp only [lookV] at hl
      repeat' split at hl
      all_goals first | cases hl; assumption | cases hl
    simp at this h2 ⊢
    omega
theorem repV_swap (a b : UInt8) (va vb : List UInt8) (h : a ≠ b) : ∀ (n : Nat) (s : List UInt8), s.length ≤ n → repV a b va vb s = repV b a vb va s := by
 intro n
 induction n with
 | zero => intro s h0; obtain rfl := List.eq_nil_of_length_eq_zero (Nat.le_zero.1 h0); simp [repV]
 | succ n ih =>
  intro s hs
  match s, hs with
  | [], _ => simp [repV]
  | [c], _ => simp [repV]
  | c :: d :: s, hs =>
   have i1 := ih (d :: s) (by simp at hs ⊢; omega)
   have i2 := ih s (by simp at hs ⊢; omega)
   simp only [repV]
   rw [i1, i2]
   by_cases h1 : c = 126
   ·rw [if_pos h1, if_pos h1]
    by_cases h2 : d = a
    ·rw [if_pos h2, if_neg (by rw [h2]; exact h), if_pos h2]
    ·rw [if_neg h2]
     by_cases h3 : d = b
     ·rw [if_pos h3, if_pos h3]
     ·rw [if_neg h3, if_neg h3, if_neg h2]
   ·rw [if_neg h1, if_neg h1]
def okTok (s : List UInt8) : Bool := !(repV 48 49 [] [] s).contains 126
def tokT (s : List UInt8) : List UInt8 := repV 49 48 [47] [126] s
def cutH (b : UInt8) : List (List UInt8) → List (List UInt8)
 | [] => [[b]]
 | h :: t => (b :: h) :: t
def cutV : List UInt8 → List (List UInt8)
 | [] => [[]]
 | b :: l => if b = 47 then [] :: cutV l else cutH b (cutV l)
def toksV : List UInt8 → Option (List (List UInt8))
 | [] => some []
 | c :: s => if c ≠ 47 then none else if (cutV s).all okTok then some ((cutV s).map tokT) else none
def goV : JV → List (List UInt8) → Option JV
 | v, [] => some v
 | v, t :: l => if idxT v t < 0 then none else goV (v.items.getD (idxT v t).toNat default) l
def atV (v : JV) (p : List UInt8) : JV × Int :=
 if (vldV v 2000 1).1 = false then (.mk 0 [] [] [], 1) else
 match toksV p with
 | none => (.mk 0 [] [] [], 4)
 | some l => match goV v l with
  | none => (.mk 0 [] [] [], 3)
  | some x => (x, 0)
theorem cutH_ne (b : UInt8) (l : List (List UInt8)) : cutH b l ≠ [] := by cases l <;> simp [cutH]
theorem cutV_ne (l : List UInt8) : cutV l ≠ [] := by
 cases l with
 | nil => simp [cutV]
 | cons b l =>
  unfold cutV
  split
  ·simp
  ·exact cutH_ne _ _
theorem cutV_len : ∀ s : List UInt8, (cutV s).length ≤ s.length + 1
 | [] => by simp [cutV]
 | b :: l => by
  have := cutV_len l
  unfold cutV
  split
  ·simp; omega
  ·have hn := cutV_ne l
   match cutV l, hn, this with
   | h :: t, _, this => simp [cutH] at this ⊢; omega
theorem cutV_each : ∀ (s t : List UInt8), t ∈ cutV s → t.length ≤ s.length
 | [], t, h => by simp [cutV] at h; subst h; simp
 | b :: l, t, h => by
  unfold cutV at h
  split at h
  ·rcases List.mem_cons.1 h with rfl | h
   ·simp
   ·have := cutV_each l t h; simp; omega
  ·have hn := cutV_ne l
   have hr := cutV_each l
   match cutV l, hn, hr, h with
   | g :: r, _, hr, h =>
    simp only [cutH, List.mem_cons] at h
    rcases h with rfl | h
    ·have := hr g (by simp); simp; omega
    ·have := hr t (by simp [h]); simp; omega
open Go.Lib
theorem split_miss {s sep : List UInt8} (h : index s sep = -1) : split s sep = [s] := by
 unfold split; rw [count_miss h]; rfl
theorem split_hit {s sep : List UInt8} {i : Nat} (hs : sep ≠ []) (h : index s sep = i) : split s sep = s.take i :: split (s.drop (i + sep.length)) sep := by
 unfold split
 rw [count_hit hs h, Nat.add_comm 1]
 conv => lhs; unfold splitK
 rw [h, if_neg (by simp)]
 simp
theorem split_at {b : UInt8} {l sep : List UInt8} (hs : sep ≠ []) (h : sep.isPrefixOf (b :: l) = true) : split (b :: l) sep = [] :: split ((b :: l).drop sep.length) sep := by
 have e : index (b :: l) sep = (0 : Nat) := by unfold index; rw [if_pos h]; rfl
 rw [split_hit hs e]; simp
theorem split_step {b : UInt8} {l sep : List UInt8} (hs : sep ≠ []) (h : sep.isPrefixOf (b :: l) = false) : split (b :: l) sep = cutH b (split l sep) := by
 have e : index (b :: l) sep = if index l sep == -1 then -1 else index l sep + 1 := by
  conv => lhs; unfold index
  simp [h]
 by_cases h1 : index l sep = -1
 ·rw [split_miss h1, split_miss (by rw [e, h1]; rfl)]; rfl
 ·have hge := index_ge l sep
  obtain ⟨i, hi⟩ : ∃ i : Nat, index l sep = i := ⟨(index l sep).toNat, by omega⟩
  have e2 : index (b :: l) sep = ((i + 1 : Nat) : Int) := by rw [e, hi, if_neg (by simp)]; rfl
  rw [split_hit hs e2, split_hit hs hi]
  have : (i + 1 + sep.length) = (i + sep.length) + 1 := by omega
  rw [this]; rfl
theorem split_nil {sep : List UInt8} (hs : sep ≠ []) : split [] sep = [[]] := by
 apply split_miss
 unfold index
 cases sep with
 | nil => exact absurd rfl hs
 | cons => rfl
theorem split_cut : ∀ s, split s [47] = cutV s
 | [] => by rw [split_nil (by simp)]; rfl
 | b :: l => by
  unfold cutV
  by_cases h : b = 47
  ·rw [if_pos h, split_at (by simp) (by simp [h]), ← split_cut l]; rfl
  ·rw [if_neg h, split_step (by simp) (by rw [Bool.eq_false_iff]; intro q; simp at q; exact h q.symm), split_cut l]
end Go.Js
namespace Go.Proofs.YtkgmecjaejaehaaGreatDoor
open Go.Eng Go.Js
set_option maxRecDepth 20000
attribute [local irreducible] AG CallA CallT AWp PCall ACall XCall AgC
theorem aswrite_spec (gb g : Nat) (o s : Bs) (hl : o.length + s.length ≤ 140737488355328) : ACall Tryz.prog 287 [.ptr 900060 gb 0, dS s] [(900060, (gb, .box [.own 900061 g])), (900061, (g, .row 5 1 (bytesR o)))] [900060, 900061] fun ps r => ∃ g', ps = [(gb, .box [.own 900061 g']), (g', .row 5 1 (bytesR (o ++ s)))] ∧ r = .tup [dI s.length, .v .nilIface] := by
 refine acall_of Tryz.func287 rfl rfl Tryz.ntmps287 (rs := [.tmp 4, .tmp 5]) (tys := [3, 134]) rfl rfl (by simp) (by simp [notFroz]) ?_
 (refine awp_sr fun Y Yh => ?_; simp [go_sem]; ((repeat' (first|(refine ag_x ?_;simp [go_sem])|intro _|apply And.intro|(apply Yh;clear Yh Y)));all_goals first|apply Hold.mk|omega|with_reducible assumption|skip))
 (refine awp_seq ?_; refine awp_ags ?_; simp only [AGs])
 (refine ag_true rfl ?_; simp [go_sem])
 (refine ag_true rfl ?_; simp [go_sem])
 (refine ag_true rfl ?_; simp [go_sem])
 (refine ag_true rfl ?_; simp [go_sem])
 (refine ag_true rfl ?_; simp [go_sem])
 refine ag_appstr (t := 316) (u := 9) (e := 5) (s := 900061) (g := g) (es := bytesR o) (bs := s) (by decide) (by kernel_rfl) (by kernel_rfl) Tryz.underlying9 (by simp [go_sem]) (by simp [go_sem]) (by simp [go_sem]) (by rw [bytesR_len]; omega) fun g' => ?_
 rw [← bytesR_app]
 simp [go_sem]
 (refine ag_true rfl ?_; simp [go_sem])
 (refine ag_true rfl ?_; simp [go_sem])
 (refine awp_sr fun Y Yh => ?_; simp [go_sem]; ((repeat' (first|(refine ag_x ?_;simp [go_sem])|intro _|apply And.intro|(apply Yh;clear Yh Y)));all_goals first|apply Hold.mk|omega|with_reducible assumption|skip))
 (refine awp_ret ?_; simp [go_sem, retA])
theorem gsw_spec (gb g : Nat) (es : List (List D)) : ACall Tryz.prog 279 [.ifc 317 (.ptr 900060 gb 0)] [(900060, (gb, .box [.own 900061 g])), (900061, (g, .row 5 1 es))] [900060, 900061] fun ps r => ps = [(gb, .box [.own 900061 g]), (g, .row 5 1 es)] ∧ r = .ifc 317 (.ptr 900060 gb 0) := by
 refine acall_of Tryz.func279 rfl rfl Tryz.ntmps279 (rs := [.tmp 2]) (tys := [321]) rfl rfl (by simp) (by simp [notFroz]) ?_
 (refine awp_sr fun Y Yh => ?_; simp [go_sem]; ((repeat' (first|(refine ag_x ?_;simp [go_sem])|intro _|apply And.intro|(apply Yh;clear Yh Y)));all_goals first|apply Hold.mk|omega|with_reducible assumption|skip))
 (refine awp_seq ?_; refine awp_ags ?_; simp only [AGs])
 (refine ag_true rfl ?_; simp [go_sem])
 refine ag_assert 317 (by simp [dstOk]) (fun _ _ => by kernel_rfl) ?_
 simp [go_sem]
 (refine ag_true rfl ?_; simp [go_sem])
 (refine ag_true rfl ?_; simp [go_sem])
 (refine ag_true rfl ?_; simp [go_sem])
 (refine ag_true rfl ?_; simp [go_sem])
 (refine ag_true rfl ?_; simp [go_sem])
 refine awp_seq_k fun K1 hK1 => ?_
 (refine awp_sr fun Y Yh => ?_; simp [go_sem]; ((repeat' (first|(refine ag_x ?_;simp [go_sem])|intro _|apply And.intro|(apply Yh;clear Yh Y)));all_goals first|apply Hold.mk|omega|with_reducible assumption|skip))
 (refine awp_if fun T F hT hF => ?_; simp [go_sem]; refine hF ?_; clear hT hF T F)
 refine awp_skip ?_
 refine hK1 _ ?_; clear hK1
 (refine awp_sr fun Y Yh => ?_; simp [go_sem]; ((repeat' (first|(refine ag_x ?_;simp [go_sem])|intro _|apply And.intro|(apply Yh;clear Yh Y)));all_goals first|apply Hold.mk|omega|with_reducible assumption|skip))
 (refine awp_ret ?_; simp [go_sem, retA])
end Go.Proofs.YtkgmecjaejaehaaGreatDoor
