/- Part of a proof: see the last text. -/
import Derived.Test.YtchnagdaljblnaaGreatDoorG05
import Derived.Test.YtchnagdaljblnaaGreatDoorG03
import Derived.Lib.IndexMore
import Derived.Lib.IndexLaws
import Derived.Laws.RangeAny
import Derived.Shelf.GgClosure.StringsIndexFuncTop
set_option linter.unusedVariables false
set_option linter.unusedSimpArgs false
namespace Go.Proofs.YtchnagdaljblnaaGreatDoor
open Go.Eng Go.Wh Go.Ver
set_option maxRecDepth 20000
attribute [local irreducible] AG CallA CallT AWp PCall ACall AgC
theorem rsign_spec (a b : Bool) : PCall Tryz.prog 213 [dB a, dB b] fun r => r = dI (sgV a b) := by 
 refine pcall_of Tryz.func213 rfl rfl Tryz.ntmps213 (rs := [.tmp 4]) (tys := [3]) rfl rfl (by simp) ?_
 unfold sgV
 (refine awp_sr fun Y hY => ?_; simp [go_sem]; ((repeat' (first|(refine ag_x ?_;simp [go_sem])|intro _|apply And.intro|(apply hY;clear hY Y)));all_goals first|apply Hold.mk|omega|with_reducible assumption|skip))
 refine awp_seq_k fun K1 hK1 => ?_
 (refine awp_sr fun Y hY => ?_; simp [go_sem]; ((repeat' (first|(refine ag_x ?_;simp [go_sem])|intro _|apply And.intro|(apply hY;clear hY Y)));all_goals first|apply Hold.mk|omega|with_reducible assumption|skip))
 (refine awp_if fun T F hT hF => ?_; simp [go_sem]; refine BR.intro (fun h2 => hT ?_) (fun h2 => hF ?_); all_goals clear hT hF T F; try simp at h2) 
 ·(refine awp_sr fun Y hY => ?_; simp [go_sem]; ((repeat' (first|(refine ag_x ?_;simp [go_sem])|intro _|apply And.intro|(apply hY;clear hY Y)));all_goals first|apply Hold.mk|omega|with_reducible assumption|skip))
  (refine awp_ret ?_; simp [go_sem, h2])
 ·refine awp_skip ?_
  refine hK1 _ ?_; clear hK1
  refine awp_seq_k fun K3 hK3 => ?_
  (refine awp_sr fun Y hY => ?_; simp [go_sem]; ((repeat' (first|(refine ag_x ?_;simp [go_sem])|intro _|apply And.intro|(apply hY;clear hY Y)));all_goals first|apply Hold.mk|omega|with_reducible assumption|skip))
  (refine awp_if fun T F hT hF => ?_; simp [go_sem]; refine BR.intro (fun h4 => hT ?_) (fun h4 => hF ?_); all_goals clear hT hF T F; try simp at h4) 
  ·(refine awp_sr fun Y hY => ?_; simp [go_sem]; ((repeat' (first|(refine ag_x ?_;simp [go_sem])|intro _|apply And.intro|(apply hY;clear hY Y)));all_goals first|apply Hold.mk|omega|with_reducible assumption|skip))
   (refine awp_ret ?_; simp [go_sem, h2, h4])
  ·refine awp_skip ?_
   refine hK3 _ ?_; clear hK3
   (refine awp_sr fun Y hY => ?_; simp [go_sem]; ((repeat' (first|(refine ag_x ?_;simp [go_sem])|intro _|apply And.intro|(apply hY;clear hY Y)));all_goals first|apply Hold.mk|omega|with_reducible assumption|skip))
   (refine awp_ret ?_; simp [go_sem, h2, h4])
def wz (x : Seg) : Prop := x.1 ≠ [] → x.2 = 0
theorem rtwo_spec (x y : Seg) (hx : wz x) (hy : wz y) : PCall Tryz.prog 182 [dG x, dG y] fun r => r = dI (seg2 x y) := by 
 refine pcall_of Tryz.func182 rfl rfl Tryz.ntmps182 (rs := [.tmp 4]) (tys := [3]) rfl rfl (by simp) ?_
 have t1 := @two_mixed x y
 have t2 := fun h h2 => @two_word x y h h2 hx hy
 have t3 := @two_num x y
 generalize seg2 x y = res at *
 (refine awp_sr fun Y hY => ?_; simp [go_sem]; ((repeat' (first|(refine ag_x ?_;simp [go_sem])|intro _|apply And.intro|(apply hY;clear hY Y)));all_goals first|apply Hold.mk|omega|with_reducible assumption|skip))
 refine awp_seq_k fun K1 hK1 => ?_
 (refine awp_sr fun Y hY => ?_; simp [go_sem]; ((repeat' (first|(refine ag_x ?_;simp [go_sem])|intro _|apply And.intro|(apply hY;clear hY Y)));all_goals first|apply Hold.mk|omega|with_reducible assumption|skip))
 (refine awp_if fun T F hT hF => ?_; simp [go_sem]; refine BR.intro (fun h2 => hT ?_) (fun h2 => hF ?_); all_goals clear hT hF T F; try simp at h2) 
 ·(refine awp_sr fun Y hY => ?_; simp [go_sem]; ((repeat' (first|(refine ag_x ?_;simp [go_sem])|intro _|apply And.intro|(apply hY;clear hY Y)));all_goals first|apply Hold.mk|omega|with_reducible assumption|skip))
  ((try refine CallT.toA ?_); refine callT_m (.inl ⟨rfl,rfl⟩) (by simp [go_sem]) ?_; intro args ha; simp [go_sem] at ha; subst ha; refine ⟨_, (rsign_spec _ _), ?_⟩; rintro _ rfl; simp [go_sem]; ((repeat' (first|(refine ag_x ?_;simp [go_sem])|intro _|apply And.intro|(apply hY;clear hY Y)));all_goals first|apply Hold.mk|omega|with_reducible assumption|skip))
  (refine awp_ret ?_; simp [go_sem])
  have e1 : x.1.isEmpty = decide (x.1 = []) := by cases x.1 <;> simp
  have e2 : y.1.isEmpty = decide (y.1 = []) := by cases y.1 <;> simp
  rw [e1, e2] at h2 ⊢
  simpa using t1 (by simpa using h2)
 ·refine awp_skip ?_
  refine hK1 _ ?_; clear hK1
  refine awp_seq_k fun K3 hK3 => ?_
  (refine awp_sr fun Y hY => ?_; simp [go_sem]; ((repeat' (first|(refine ag_x ?_;simp [go_sem])|intro _|apply And.intro|(apply hY;clear hY Y)));all_goals first|apply Hold.mk|omega|with_reducible assumption|skip))
  (refine awp_if fun T F hT hF => ?_; simp [go_sem]; refine BR.intro (fun h4 => hT ?_) (fun h4 => hF ?_); all_goals clear hT hF T F; try simp at h4) 
  ·(refine awp_sr fun Y hY => ?_; simp [go_sem]; ((repeat' (first|(refine ag_x ?_;simp [go_sem])|intro _|apply And.intro|(apply hY;clear hY Y)));all_goals first|apply Hold.mk|omega|with_reducible assumption|skip))
   ((try refine CallT.toA ?_); refine callT_m (.inl ⟨rfl,rfl⟩) (by simp [go_sem]) ?_; intro args ha; simp [go_sem] at ha; subst ha; refine ⟨_, (rsign_spec _ _), ?_⟩; rintro _ rfl; simp [go_sem]; ((repeat' (first|(refine ag_x ?_;simp [go_sem])|intro _|apply And.intro|(apply hY;clear hY Y)));all_goals first|apply Hold.mk|omega|with_reducible assumption|skip))
   (refine awp_ret ?_; simp [go_sem])
   refine t2 h4 (fun q => h4 ?_)
   rw [q] at h2
   simpa using h2
  ·refine awp_skip ?_
   refine hK3 _ ?_; clear hK3
   (refine awp_sr fun Y hY => ?_; simp [go_sem]; ((repeat' (first|(refine ag_x ?_;simp [go_sem])|intro _|apply And.intro|(apply hY;clear hY Y)));all_goals first|apply Hold.mk|omega|with_reducible assumption|skip))
   ((try refine CallT.toA ?_); refine callT_m (.inl ⟨rfl,rfl⟩) (by simp [go_sem]) ?_; intro args ha; simp [go_sem] at ha; subst ha; refine ⟨_, (rsign_spec _ _), ?_⟩; rintro _ rfl; simp [go_sem]; ((repeat' (first|(refine ag_x ?_;simp [go_sem])|intro _|apply And.intro|(apply hY;clear hY Y)));all_goals first|apply Hold.mk|omega|with_reducible assumption|skip))
   (refine awp_ret ?_; simp [go_sem])
   refine t3 h4 ?_
   rw [h4] at h2
   simpa using h2.symm
theorem wz_at {a : List Seg} (h : ∀ x ∈ a, wz x) (i : Nat) : wz (atV a i) := by
 unfold atV
 cases e : a[i]? with
 | none => intro q; exact absurd rfl q
 | some x => exact h x (List.mem_of_getElem? e)
theorem wz_ok {l : List Seg} (h : VOk l) : ∀ x ∈ l, wz x := fun x hx q => by
 rcases h.2.2 x hx with ⟨_, _, _, q⟩ | ⟨q1, _⟩
 ·exact q
 ·exact absurd q1 q
set_option maxHeartbeats 8000000 in
theorem rorder_spec (a b : List Seg) (ha : a.length ≤ 1000000) (hb : b.length ≤ 1000000) (wa : ∀ x ∈ a, wz x) (wb : ∀ x ∈ b, wz x) : PCall Tryz.prog 132 [dGs a, dGs b] fun r => r = dI (cmpV a b) := by 
 refine pcall_of Tryz.func132 rfl rfl Tryz.ntmps132 (rs := [.tmp 4]) (tys := [3]) rfl rfl (by simp) ?_
 have hN : cmpN (max a.length b.length - 0) (a.drop 0) (b.drop 0) = cmpV a b := rfl
 have hna : ∀ i, ¬ i < a.length → atV a i = z0s := fun i h => at_past (by omega)
 have hnb : ∀ i, ¬ i < b.length → atV b i = z0s := fun i h => at_past (by omega)
 have hwa := wz_at wa
 have hwb := wz_at wb
 have hstep := fun i => @cmpN_drop a b (max a.length b.length) i
 have hle1 : a.length ≤ max a.length b.length := by omega
 have hle2 : b.length ≤ max a.length b.length := by omega
 have hle4 : max a.length b.length ≤ a.length ∨ max a.length b.length ≤ b.length := by omega
 have hle3 : max a.length b.length ≤ 1000000 := by omega
 have hz : ∀ i, max a.length b.length ≤ i → cmpN (max a.length b.length - i) (a.drop i) (b.drop i) = 0 := fun i h => by
  rw [Nat.sub_eq_zero_of_le h]; rfl
 generalize cmpV a b = res at *
 generalize max a.length b.length = n at *
 (refine awp_sr fun Y hY => ?_; simp [go_sem]; ((repeat' (first|(refine ag_x ?_;simp [go_sem])|intro _|apply And.intro|(apply hY;clear hY Y)));all_goals first|apply Hold.mk|omega|with_reducible assumption|skip))
 refine awp_seq_k fun K1 hK1 => ?_
 (refine awp_sr fun Y hY => ?_; simp [go_sem]; ((repeat' (first|(refine ag_x ?_;simp [go_sem])|intro _|apply And.intro|(apply hY;clear hY Y)));all_goals first|apply Hold.mk|omega|with_reducible assumption|skip))
 refine awp_block ?_
 refine awp_loop (σ := Nat) (fun i => ⟨[(0, dGs a), (1, dGs b), (5, dI i)], []⟩) (fun i => i ≤ n ∧ cmpN (n - i) (a.drop i) (b.drop i) = res) (fun i => n - i) 0 ?_ ?_ ?_
 ·(refine cov_of ?_ ?_ <;> simp [go_sem])
 ·exact ⟨by omega, hN⟩
 rintro i ⟨hi, hc⟩
 refine awp_seq_k fun K2 hK2 => ?_
 have body : (i < a.length ∨ i < b.length) → ∀ S', Cov S' ⟨[(0, dGs a), (1, dGs b), (5, dI i)], []⟩ → K2 S' := fun hor S' hS => by
  refine hK2 _ ?_
  refine awp_cov hS ?_; clear hS
  have hst := hstep i hc (by omega)
  refine awp_seq_k fun K4 hK4 => ?_
  refine awp_block ?_
  (refine awp_sr fun Y hY => ?_; simp [go_sem]; ((repeat' (first|(refine ag_x ?_;simp [go_sem])|intro _|apply And.intro|(apply hY;clear hY Y)));all_goals first|apply Hold.mk|omega|with_reducible assumption|skip))
  rename_i g6 g7
  refine awp_seq_k fun K5 hK5 => ?_
  have tl5 : ∀ S', Cov S' ⟨[(0, dGs a), (1, dGs b), (5, dI i), (6, .ptr 6 g6 0), (7, .ptr 7 g7 0)], [(6, g6, .box (cG (atV a i))), (7, g7, .box [dS [], dI 0])]⟩ → K5 S' := fun S' hS => by
   refine hK5 _ ?_; clear hK5
   refine awp_cov hS ?_; clear hS
   refine awp_seq_k fun K6 hK6 => ?_
   have tl6 : ∀ S', Cov S' ⟨[(0, dGs a), (1, dGs b), (5, dI i), (6, .ptr 6 g6 0), (7, .ptr 7 g7 0)], [(6, g6, .box (cG (atV a i))), (7, g7, .box (cG (atV b i)))]⟩ → K6 S' := fun S' hS => by
    refine hK6 _ ?_
    refine awp_cov hS ?_; clear hS
    have W1 := hwa i
    have W2 := hwb i
    generalize atV a i = x at *
    generalize atV b i = y at *
    (refine awp_sr fun Y hY => ?_; simp [go_sem]; ((repeat' (first|(refine ag_x ?_;simp [go_sem])|intro _|apply And.intro|(apply hY;clear hY Y)));all_goals first|apply Hold.mk|omega|with_reducible assumption|skip))
    ((try refine CallT.toA ?_); refine callT_m (.inl ⟨rfl,rfl⟩) (by simp [go_sem]) ?_; intro args ha; simp [go_sem] at ha; subst ha; refine ⟨_, (rtwo_spec x y W1 W2), ?_⟩; rintro _ rfl; simp [go_sem]; ((repeat' (first|(refine ag_x ?_;simp [go_sem])|intro _|apply And.intro|(apply hY;clear hY Y)));all_goals first|apply Hold.mk|omega|with_reducible assumption|skip))
    (refine awp_sr fun Y hY => ?_; simp [go_sem]; ((repeat' (first|(refine ag_x ?_;simp [go_sem])|intro _|apply And.intro|(apply hY;clear hY Y)));all_goals first|apply Hold.mk|omega|with_reducible assumption|skip))
    generalize seg2 x y = u at *
    (refine awp_if fun T F hT hF => ?_; simp [go_sem]; refine BR.intro (fun h7 => hT ?_) (fun h7 => hF ?_); all_goals clear hT hF T F; try simp at h7) 
    ·(refine awp_sr fun Y hY => ?_; simp [go_sem]; ((repeat' (first|(refine ag_x ?_;simp [go_sem])|intro _|apply And.intro|(apply hY;clear hY Y)));all_goals first|apply Hold.mk|omega|with_reducible assumption|skip))
     (refine awp_ret ?_; simp [go_sem])
     exact hst.1 (by simpa using h7)
    ·refine awp_skip ?_
     refine hK4 _ ?_; clear hK4
     (refine awp_r fun Y hY => ?_; simp [go_sem]; ((repeat' (first|(refine ag_x ?_;simp [go_sem])|intro _|apply And.intro|(apply hY;clear hY Y)));all_goals first|apply Hold.mk|omega|with_reducible assumption|skip))
     refine ⟨i + 1, ?_, ⟨by omega, hst.2 (by simpa using h7)⟩, by omega⟩
     (refine cov_of ?_ ?_ <;> simp [go_sem])
   (refine awp_sr fun Y hY => ?_; simp [go_sem]; ((repeat' (first|(refine ag_x ?_;simp [go_sem])|intro _|apply And.intro|(apply hY;clear hY Y)));all_goals first|apply Hold.mk|omega|with_reducible assumption|skip))
   (refine awp_if fun T F hT hF => ?_; simp [go_sem]; refine BR.intro (fun h8 => hT ?_) (fun h8 => hF ?_); all_goals clear hT hF T F; try simp at h8) 
   ·obtain ⟨y, hy⟩ : ∃ y, b[i]? = some y := ⟨_, List.getElem?_eq_getElem (by omega)⟩
    have ey : atV b i = y := by unfold atV; rw [hy]; rfl
    (refine awp_r fun Y hY => ?_; simp [go_sem, hy]; ((repeat' (first|(refine ag_x ?_;simp [go_sem, hy])|intro _|apply And.intro|(apply hY;clear hY Y)));all_goals first|apply Hold.mk|omega|with_reducible assumption|skip))
    refine tl6 _ ?_
    rw [ey]
    (refine cov_of ?_ ?_ <;> simp [go_sem])
   ·refine awp_skip ?_
    refine tl6 _ ?_
    rw [hnb i (by omega)]
    (refine cov_of ?_ ?_ <;> simp [go_sem])
  clear hK5
  (refine awp_sr fun Y hY => ?_; simp [go_sem]; ((repeat' (first|(refine ag_x ?_;simp [go_sem])|intro _|apply And.intro|(apply hY;clear hY Y)));all_goals first|apply Hold.mk|omega|with_reducible assumption|skip))
  (refine awp_if fun T F hT hF => ?_; simp [go_sem]; refine BR.intro (fun h9 => hT ?_) (fun h9 => hF ?_); all_goals clear hT hF T F; try simp at h9) 
  ·obtain ⟨x, hx⟩ : ∃ x, a[i]? = some x := ⟨_, List.getElem?_eq_getElem (by omega)⟩
   have ex : atV a i = x := by unfold atV; rw [hx]; rfl
   (refine awp_r fun Y hY => ?_; simp [go_sem, hx]; ((repeat' (first|(refine ag_x ?_;simp [go_sem, hx])|intro _|apply And.intro|(apply hY;clear hY Y)));all_goals first|apply Hold.mk|omega|with_reducible assumption|skip))
   refine tl5 _ ?_
   rw [ex]
   (refine cov_of ?_ ?_ <;> simp [go_sem])
  ·refine awp_skip ?_
   refine tl5 _ ?_
   rw [hna i (by omega)]
   (refine cov_of ?_ ?_ <;> simp [go_sem])
 by_cases h1 : i < a.length
 ·have h1' : (i : Int) < a.length := by omega
  (refine awp_sr fun Y hY => ?_; simp [go_sem, h1']; ((repeat' (first|(refine ag_false (by simp [go_sem, undef, h1']) (by simp [go_sem]) ?_;simp [go_sem, h1'])|intro _|apply And.intro|(apply hY;clear hY Y)));all_goals first|apply Hold.mk|omega|with_reducible assumption|skip))
  (refine awp_if fun T F hT hF => ?_; simp [go_sem]; refine hT ?_; clear hT hF T F)
  refine awp_skip ?_
  refine body (.inl h1) _ ?_
  (refine cov_of ?_ ?_ <;> simp [go_sem])
 ·have h1' : ¬ (i : Int) < a.length := by omega
  (refine awp_sr fun Y hY => ?_; simp [go_sem, h1']; ((repeat' (first|(refine ag_x ?_;simp [go_sem, h1'])|intro _|apply And.intro|(apply hY;clear hY Y)));all_goals first|apply Hold.mk|omega|with_reducible assumption|skip))
  (refine awp_if fun T F hT hF => ?_; simp [go_sem]; refine BR.intro (fun h3 => hT ?_) (fun h3 => hF ?_); all_goals clear hT hF T F; try simp at h3)
  ·refine awp_skip ?_
   refine body (.inr (by omega)) _ ?_
   (refine cov_of ?_ ?_ <;> simp [go_sem])
  ·refine awp_exit ?_
   simp only [go_sem]
   refine hK1 _ ?_; clear hK1
   (refine awp_sr fun Y hY => ?_; simp [go_sem]; ((repeat' (first|(refine ag_x ?_;simp [go_sem])|intro _|apply And.intro|(apply hY;clear hY Y)));all_goals first|apply Hold.mk|omega|with_reducible assumption|skip))
   (refine awp_ret ?_; simp [go_sem])
   rw [← hc, hz i (by omega)]
end Go.Proofs.YtchnagdaljblnaaGreatDoor
namespace Go.Ver
open Go.Lib Go.Wh
theorem cut_miss {p o v : List UInt8} (h : cut p [32] = (o, v, false)) : v = [] ∧ cndV p = none := by
 refine ⟨?_, by rw [cut_cnd h]; simp⟩
 have := cut_cutS p
 rw [h] at this
 cases hc : cutS p with
 | none => rw [hc] at this; simp at this; exact this.2
 | some q => rw [hc] at this; simp at this
theorem readV_nil : readV [] = none := by decide
theorem words_eq (l : List Seg) : decide (wordsV l = l.length) = !preV l := by
 have h1 := wordsV_lt l
 have h2 := wordsV_le l
 rw [← h1]
 by_cases h : wordsV l < l.length
 ·have : ¬ wordsV l = l.length := by omega
  simp [h, this]
 ·have : wordsV l = l.length := by omega
  simp [h, this]
theorem any_take {α : Type} {p : α → Bool} {l : List α} {i : Nat} {x : α} (h : l[i]? = some x) : (l.take (i + 1)).any p = ((l.take i).any p || p x) := by
 rw [List.take_add_one, h, List.any_append]; simp
end Go.Ver
namespace Go.Proofs.YtchnagdaljblnaaGreatDoor
open Go.Eng Go.Wh Go.Ver
set_option maxRecDepth 20000
attribute [local irreducible] AG CallA CallT AWp PCall ACall AgC
theorem rbump_spec (l : List Seg) (hl : l.length ≤ 1000) (h1 : 1 ≤ wordsV l) (hn : ∀ x ∈ l, 0 ≤ x.2 ∧ x.2 ≤ 1000000000) : PCall Tryz.prog 273 [dGs l] fun r => r = dGs (bumpV l) := by 
 refine pcall_of Tryz.func273 rfl rfl Tryz.ntmps273 (rs := [.tmp 2]) (tys := [190]) rfl rfl (by simp) ?_
 have W := rwords_spec l (by omega)
 have hwl := wordsV_le l
 have hbl := bumpN_le l
 obtain ⟨x, hx, hml, hm1, hxm, hb⟩ := bump_last h1
 have hxn := hn x hxm
 rw [hb]
 have hdrop : 1 < wordsV l → (l.take (wordsV l)).take (wordsV l - 1) = l.take (bumpN l) := by
  intro h; unfold bumpN; rw [if_pos h, List.take_take]; congr 1; omega
 have hsame : ¬ 1 < wordsV l → l.take (wordsV l) = l.take (bumpN l) := by
  intro h; unfold bumpN; rw [if_neg h]
 have hlen : (l.take (wordsV l)).length = wordsV l := by simp; omega
 have hlen' : min (wordsV l) l.length = wordsV l := by omega
 generalize hm : l.take (bumpN l) = m at *
 (refine awp_sr fun Y hY => ?_; simp [go_sem]; ((repeat' (first|(refine ag_x ?_;simp [go_sem])|intro _|apply And.intro|(apply hY;clear hY Y)));all_goals first|apply Hold.mk|omega|with_reducible assumption|skip))
 (refine awp_sr fun Y hY => ?_; simp [go_sem]; ((repeat' (first|(refine ag_x ?_;simp [go_sem])|intro _|apply And.intro|(apply hY;clear hY Y)));all_goals first|apply Hold.mk|omega|with_reducible assumption|skip))
 ((try refine CallT.toA ?_); refine callT_m (.inl ⟨rfl,rfl⟩) (by simp [go_sem]) ?_; intro args ha; simp [go_sem] at ha; subst ha; refine ⟨_, W, ?_⟩; rintro _ rfl; simp [go_sem]; ((repeat' (first|(refine ag_x ?_;simp [go_sem])|intro _|apply And.intro|(apply hY;clear hY Y)));all_goals first|apply Hold.mk|omega|with_reducible assumption|skip))
 rename_i g4 gw
 refine awp_seq_k fun K1 hK1 => ?_
 have tl1 : ∀ S' g, Cov S' ⟨[(3, .own 4 g)], [(4, g, .row 248 2 (m.map cG))]⟩ → K1 S' := fun S' g hS => by
  refine hK1 _ ?_
  refine awp_cov hS ?_; clear hS
  have hidx : ((m.length : Int) - 1).toNat = m.length - 1 := by omega
  (refine awp_sr fun Y hY => ?_; simp [go_sem, hx, hidx]; ((repeat' (first|(refine ag_x ?_;simp [go_sem, hx, hidx])|intro _|apply And.intro|(apply hY;clear hY Y)));all_goals first|apply Hold.mk|omega|with_reducible assumption|skip))
  (refine awp_sr fun Y hY => ?_; simp [go_sem]; ((repeat' (first|(refine ag_x ?_;simp [go_sem])|intro _|apply And.intro|(apply hY;clear hY Y)));all_goals first|apply Hold.mk|omega|with_reducible assumption|skip))
  (refine awp_ret ?_; simp [go_sem, hx, hidx])
 (refine awp_sr fun Y hY => ?_; simp [go_sem, hlen']; ((repeat' (first|(refine ag_x ?_;simp [go_sem, hlen'])|intro _|apply And.intro|(apply hY;clear hY Y)));all_goals first|apply Hold.mk|omega|with_reducible assumption|skip))
 (refine awp_if fun T F hT hF => ?_; simp [go_sem]; refine BR.intro (fun h2 => hT ?_) (fun h2 => hF ?_); all_goals clear hT hF T F; try simp at h2) 
 ·(refine awp_r fun Y hY => ?_; simp [go_sem, hlen']; ((repeat' (first|(refine ag_x ?_;simp [go_sem, hlen'])|intro _|apply And.intro|(apply hY;clear hY Y)));all_goals first|apply Hold.mk|omega|with_reducible assumption|skip))
  rename_i g'
  refine tl1 _ g' ?_
  rw [← hdrop (by omega)]
  (refine cov_of ?_ ?_ <;> simp [go_sem, hlen'])
  all_goals omega
 ·refine awp_skip ?_
  refine tl1 _ gw ?_
  rw [← hsame (by omega)]
  (refine cov_of ?_ ?_ <;> simp [go_sem])
theorem rValid_spec (v : List UInt8) (hl : v.length ≤ 1000000000) : PCall Tryz.prog 77 [dS v] fun r => r = dB (readV v).isSome := by 
 refine pcall_of Tryz.func77 rfl rfl Tryz.ntmps77 (rs := [.tmp 2]) (tys := [4]) rfl rfl (by simp) ?_
 have R1 := rread_spec v hl
 (refine awp_sr fun Y hY => ?_; simp [go_sem]; ((repeat' (first|(refine ag_x ?_;simp [go_sem])|intro _|apply And.intro|(apply hY;clear hY Y)));all_goals first|apply Hold.mk|omega|with_reducible assumption|skip))
 (refine awp_sr fun Y hY => ?_; simp [go_sem]; ((repeat' (first|(refine ag_x ?_;simp [go_sem])|intro _|apply And.intro|(apply hY;clear hY Y)));all_goals first|apply Hold.mk|omega|with_reducible assumption|skip))
 ((try refine CallT.toA ?_); refine callT_m (.inl ⟨rfl,rfl⟩) (by simp [go_sem]) ?_; intro args ha; simp [go_sem] at ha; subst ha; refine ⟨_, R1, ?_⟩; rintro _ rfl; simp [go_sem]; ((repeat' (first|(refine ag_x ?_;simp [go_sem])|intro _|apply And.intro|(apply hY;clear hY Y)));all_goals first|apply Hold.mk|omega|with_reducible assumption|skip))
 (refine awp_sr fun Y hY => ?_; simp [go_sem]; ((repeat' (first|(refine ag_x ?_;simp [go_sem])|intro _|apply And.intro|(apply hY;clear hY Y)));all_goals first|apply Hold.mk|omega|with_reducible assumption|skip))
 (refine awp_ret ?_; simp [go_sem])
theorem Valid_spec (v : List UInt8) (hl : v.length ≤ 1000000000) : PCall Tryz.prog 81 [dS v] fun r => r = dB (readV v).isSome := by 
 refine pcall_of Tryz.func81 rfl rfl Tryz.ntmps81 (rs := [.tmp 2]) (tys := [4]) rfl rfl (by simp) ?_
 have R1 := read_spec v hl
 (refine awp_sr fun Y hY => ?_; simp [go_sem]; ((repeat' (first|(refine ag_x ?_;simp [go_sem])|intro _|apply And.intro|(apply hY;clear hY Y)));all_goals first|apply Hold.mk|omega|with_reducible assumption|skip))
 (refine awp_sr fun Y hY => ?_; simp [go_sem]; ((repeat' (first|(refine ag_x ?_;simp [go_sem])|intro _|apply And.intro|(apply hY;clear hY Y)));all_goals first|apply Hold.mk|omega|with_reducible assumption|skip))
 ((try refine CallT.toA ?_); refine callT_m (.inl ⟨rfl,rfl⟩) (by simp [go_sem]) ?_; intro args ha; simp [go_sem] at ha; subst ha; refine ⟨_, R1, ?_⟩; rintro _ rfl; simp [go_sem]; ((repeat' (first|(refine ag_x ?_;simp [go_sem])|intro _|apply And.intro|(apply hY;clear hY Y)));all_goals first|apply Hold.mk|omega|with_reducible assumption|skip))
 (refine awp_sr fun Y hY => ?_; simp [go_sem]; ((repeat' (first|(refine ag_x ?_;simp [go_sem])|intro _|apply And.intro|(apply hY;clear hY Y)));all_goals first|apply Hold.mk|omega|with_reducible assumption|skip))
 (refine awp_ret ?_; simp [go_sem])
@[go_sem] abbrev cRC (c : Cnd) : List D := [dS c.1, dS (textV c.2)]
@[go_sem] abbrev dRC (c : Cnd) : D := .agg [dS c.1, dS (textV c.2)]
@[go_sem] abbrev dRCs (l : List Cnd) : D := .sl 2 (l.map cRC)
set_option maxHeartbeats 8000000 in
theorem rconditions_spec (r : List UInt8) (hl : r.length ≤ 1000000) : PCall Tryz.prog 168 [dS r] fun x => x = .tup [dRCs (condsP r), dB (condsV r).isSome] := by 
 refine pcall_of Tryz.func168 rfl rfl Tryz.ntmps168 (rs := [.tmp 2, .tmp 3]) (tys := [244, 4]) rfl rfl (by simp) ?_
 have S1 := split_spec r [44, 32] (by omega) (by simp)
 rw [split_csv] at S1
 have hdl := csv_len 44 32 r
 have hdp := csv_part 44 32 r
 have hdn := csv_ne 44 32 r
 unfold condsP condsV
 (refine awp_sr fun Y hY => ?_; simp [go_sem]; ((repeat' (first|(refine ag_x ?_;simp [go_sem])|intro _|apply And.intro|(apply hY;clear hY Y)));all_goals first|apply Hold.mk|omega|with_reducible assumption|skip))
 refine awp_seq_k fun K1 hK1 => ?_
 (refine awp_sr fun Y hY => ?_; simp [go_sem]; ((repeat' (first|(refine ag_x ?_;simp [go_sem])|intro _|apply And.intro|(apply hY;clear hY Y)));all_goals first|apply Hold.mk|omega|with_reducible assumption|skip))
 (refine awp_if fun T F hT hF => ?_; simp [go_sem]; refine BR.intro (fun h2 => hT ?_) (fun h2 => hF ?_); all_goals clear hT hF T F; try simp at h2) 
 ·(refine awp_sr fun Y hY => ?_; simp [go_sem]; ((repeat' (first|(refine ag_x ?_;simp [go_sem])|intro _|apply And.intro|(apply hY;clear hY Y)));all_goals first|apply Hold.mk|omega|with_reducible assumption|skip))
  (refine awp_ret ?_; simp [go_sem, h2])
 ·refine awp_skip ?_
  refine hK1 _ ?_; clear hK1
  simp only [h2, if_false]
  generalize hps : csv 44 32 r = ps at *
  (refine awp_sr fun Y hY => ?_; simp [go_sem]; ((repeat' (first|(refine ag_x ?_;simp [go_sem])|intro _|apply And.intro|(apply hY;clear hY Y)));all_goals first|apply Hold.mk|omega|with_reducible assumption|skip))
  ((try refine CallT.toA ?_); refine callT_m (.inl ⟨rfl,rfl⟩) (by simp [go_sem]) ?_; intro args ha; simp [go_sem] at ha; subst ha; refine ⟨_, S1, ?_⟩; rintro _ rfl; simp [go_sem]; ((repeat' (first|(refine ag_x ?_;simp [go_sem])|intro _|apply And.intro|(apply hY;clear hY Y)));all_goals first|apply Hold.mk|omega|with_reducible assumption|skip))
  (refine awp_sr fun Y hY => ?_; simp [go_sem]; ((repeat' (first|(refine ag_x ?_;simp [go_sem])|intro _|apply And.intro|(apply hY;clear hY Y)));all_goals first|apply Hold.mk|omega|with_reducible assumption|skip))
  refine awp_nilslot 5 5 284 2 rfl fun g5 => ?_
  simp only [go_sem]
  refine awp_seq_k fun K3 hK3 => ?_
  (refine awp_sr fun Y hY => ?_; simp [go_sem]; ((repeat' (first|(refine ag_x ?_;simp [go_sem])|intro _|apply And.intro|(apply hY;clear hY Y)));all_goals first|apply Hold.mk|omega|with_reducible assumption|skip))
  refine awp_block ?_
  refine awp_loop (σ := Nat × List Cnd × Nat) (fun x => ⟨[(4, dSs ps), (5, .own 5 x.2.2), (6, dI x.1)], [(5, x.2.2, .row 284 2 (x.2.1.map cRC))]⟩) (fun x => x.1 ≤ ps.length ∧ x.2.1.length = x.1 ∧ cndsV (ps.take x.1) = some x.2.1) (fun x => ps.length - x.1) (0, [], g5) ?_ ?_ ?_
  ·(refine cov_of ?_ ?_ <;> simp [go_sem])
  ·exact ⟨by omega, rfl, rfl⟩
  rintro ⟨i, out, g⟩ ⟨hi, ho, hs⟩
  simp only at hi ho hs
  refine awp_seq_k fun K4 hK4 => ?_
  (refine awp_sr fun Y hY => ?_; simp [go_sem]; ((repeat' (first|(refine ag_x ?_;simp [go_sem])|intro _|apply And.intro|(apply hY;clear hY Y)));all_goals first|apply Hold.mk|omega|with_reducible assumption|skip))
  (refine awp_if fun T F hT hF => ?_; simp [go_sem]; refine BR.intro (fun h5 => hT ?_) (fun h5 => hF ?_); all_goals clear hT hF T F; try simp at h5) 
  ·refine awp_skip ?_
   refine hK4 _ ?_; clear hK4
   have hi' : i < ps.length := by omega
   obtain ⟨p, hp⟩ : ∃ p, ps[i]? = some p := ⟨_, List.getElem?_eq_getElem hi'⟩
   have hpm : p ∈ ps := List.mem_of_getElem? hp
   have hpl := hdp p hpm
   have R1 := cut_spec p [32] (by omega)
   have hbad := cndsV_bad hpm
   have hsn := fun (x : Cnd) (h : cndV p = some x) => cndsV_snoc hs h
   obtain ⟨o, v, is, hcut⟩ : ∃ o v is, Lib.cut p [32] = (o, v, is) := ⟨_, _, _, rfl⟩
   rw [hcut] at R1
   simp only at R1
   have hcc := cut_cnd hcut
   have hcl := cut_len hcut
   have hms := fun (h : is = false) => cut_miss (p := p) (o := o) (v := v) (by rw [← h]; exact hcut)
   have R2 := rValid_spec v (by omega)
   have hrk := @readV_ok v
   refine awp_seq_k fun K6 hK6 => ?_
   refine awp_block ?_
   (refine awp_sr fun Y hY => ?_; simp [go_sem, hp]; ((repeat' (first|(refine ag_x ?_;simp [go_sem, hp])|intro _|apply And.intro|(apply hY;clear hY Y)));all_goals first|apply Hold.mk|omega|with_reducible assumption|skip))
   ((try refine CallT.toA ?_); refine callT_m (.inl ⟨rfl,rfl⟩) (by simp [go_sem]) ?_; intro args ha; simp [go_sem] at ha; subst ha; refine ⟨_, R1, ?_⟩; rintro _ rfl; simp [go_sem]; ((repeat' (first|(refine ag_x ?_;simp [go_sem])|intro _|apply And.intro|(apply hY;clear hY Y)));all_goals first|apply Hold.mk|omega|with_reducible assumption|skip))
   refine awp_seq_k fun K7 hK7 => ?_
   (refine awp_sr fun Y hY => ?_; simp [go_sem]; ((repeat' (first|(refine ag_x ?_;simp [go_sem])|intro _|apply And.intro|(apply hY;clear hY Y)));all_goals first|apply Hold.mk|omega|with_reducible assumption|skip))
   refine awp_block ?_
   refine awp_seq_k fun K8 hK8 => ?_
   have tl8 : ∀ S', Cov S' ⟨[(4, dSs ps), (5, .own 5 g), (6, dI i), (7, dS o), (8, dS v), (30, dB (decide (o ∈ opsV)))], [(5, g, .row 284 2 (out.map cRC))]⟩ → K8 S' := fun S' hS => by
    refine hK8 _ ?_; clear hK8
    refine awp_cov hS ?_; clear hS
    (refine awp_if fun T F hT hF => ?_; simp [go_sem]; refine BR.intro (fun h9 => hT ?_) (fun h9 => hF ?_); all_goals clear hT hF T F; try simp at h9) 
    ·refine awp_skip ?_
     refine hK7 _ ?_; clear hK7
     refine awp_seq_k fun K10 hK10 => ?_
     generalize hsv : readV v = sv at *
     (refine awp_sr fun Y hY => ?_; simp [go_sem]; ((repeat' (first|(refine ag_x ?_;simp [go_sem])|intro _|apply And.intro|(apply hY;clear hY Y)));all_goals first|apply Hold.mk|omega|with_reducible assumption|skip))
     ((try refine CallT.toA ?_); refine callT_m (.inl ⟨rfl,rfl⟩) (by simp [go_sem]) ?_; intro args ha; simp [go_sem] at ha; subst ha; refine ⟨_, R2, ?_⟩; rintro _ rfl; simp [go_sem]; ((repeat' (first|(refine ag_x ?_;simp [go_sem])|intro _|apply And.intro|(apply hY;clear hY Y)));all_goals first|apply Hold.mk|omega|with_reducible assumption|skip))
     cases sv with
     | none =>
      (refine awp_if fun T F hT hF => ?_; simp [go_sem]; refine hT ?_; clear hT hF T F)
      (refine awp_sr fun Y hY => ?_; simp [go_sem]; ((repeat' (first|(refine ag_x ?_;simp [go_sem])|intro _|apply And.intro|(apply hY;clear hY Y)));all_goals first|apply Hold.mk|omega|with_reducible assumption|skip))
      (refine awp_ret ?_; simp [go_sem, hbad (by rw [hcc]; simp)])
     | some l =>
      obtain ⟨hvo, hvt, hvl⟩ := hrk rfl
      have his : is = true := by
       cases is with
       | true => rfl
       | false =>
        have := (hms rfl).1
        subst this
        rw [readV_nil] at hsv
        cases hsv
      subst his
      simp only [h9, true_and, if_true, Option.map_some] at hcc
      (refine awp_if fun T F hT hF => ?_; simp [go_sem]; refine hF ?_; clear hT hF T F)
      refine awp_skip ?_
      refine hK10 _ ?_; clear hK10
      (refine awp_r fun Y hY => ?_; simp [go_sem]; ((repeat' (first|(refine ag_x ?_;simp [go_sem])|intro _|apply And.intro|(apply hY;clear hY Y)));all_goals first|apply Hold.mk|omega|with_reducible assumption|skip))
      refine hK6 _ ?_; clear hK6
      (refine awp_r fun Y hY => ?_; simp [go_sem]; ((repeat' (first|(refine ag_x ?_;simp [go_sem])|intro _|apply And.intro|(apply hY;clear hY Y)));all_goals first|apply Hold.mk|omega|with_reducible assumption|skip))
      rename_i g28 g'
      have e : ps.take (i + 1) = ps.take i ++ [p] := by rw [List.take_add_one, hp]; rfl
      refine ⟨(i + 1, out ++ [(o, l)], g'), ?_, ⟨by simp only; omega, by simp [ho], ?_⟩, by simp only; omega⟩
      ·(refine cov_of ?_ ?_ <;> simp [go_sem, hvt])
      ·simp only [e]
       exact hsn _ hcc
    ·(refine awp_sr fun Y hY => ?_; simp [go_sem]; ((repeat' (first|(refine ag_x ?_;simp [go_sem])|intro _|apply And.intro|(apply hY;clear hY Y)));all_goals first|apply Hold.mk|omega|with_reducible assumption|skip))
     (refine awp_ret ?_; simp [go_sem, hbad (by rw [hcc]; simp [h9])])
   clear hK8
   (refine awp_sr fun Y hY => ?_; simp [go_sem]; ((repeat' (first|(refine ag_x ?_;simp [go_sem])|intro _|apply And.intro|(apply hY;clear hY Y)));all_goals first|apply Hold.mk|omega|with_reducible assumption|skip))
   (refine awp_if fun T F hT hF => ?_; simp [go_sem]; refine BR.intro (fun h12 => hT ?_) (fun h12 => hF ?_); all_goals clear hT hF T F; try simp at h12) 
   ·refine awp_skip ?_
    refine tl8 _ ?_
    (refine cov_of ?_ ?_ <;> simp [go_sem, h12, opsV])
   ·(refine awp_sr fun Y hY => ?_; simp [go_sem]; ((repeat' (first|(refine ag_x ?_;simp [go_sem])|intro _|apply And.intro|(apply hY;clear hY Y)));all_goals first|apply Hold.mk|omega|with_reducible assumption|skip))
    (refine awp_if fun T F hT hF => ?_; simp [go_sem]; refine BR.intro (fun h13 => hT ?_) (fun h13 => hF ?_); all_goals clear hT hF T F; try simp at h13) 
    ·refine awp_skip ?_
     refine tl8 _ ?_
     (refine cov_of ?_ ?_ <;> simp [go_sem, h13, opsV])
    ·(refine awp_sr fun Y hY => ?_; simp [go_sem]; ((repeat' (first|(refine ag_x ?_;simp [go_sem])|intro _|apply And.intro|(apply hY;clear hY Y)));all_goals first|apply Hold.mk|omega|with_reducible assumption|skip))
     (refine awp_if fun T F hT hF => ?_; simp [go_sem]; refine BR.intro (fun h14 => hT ?_) (fun h14 => hF ?_); all_goals clear hT hF T F; try simp at h14) 
     ·refine awp_skip ?_
      refine tl8 _ ?_
      (refine cov_of ?_ ?_ <;> simp [go_sem, h14, opsV])
     ·(refine awp_sr fun Y hY => ?_; simp [go_sem]; ((repeat' (first|(refine ag_x ?_;simp [go_sem])|intro _|apply And.intro|(apply hY;clear hY Y)));all_goals first|apply Hold.mk|omega|with_reducible assumption|skip))
      (refine awp_if fun T F hT hF => ?_; simp [go_sem]; refine BR.intro (fun h15 => hT ?_) (fun h15 => hF ?_); all_goals clear hT hF T F; try simp at h15) 
      ·refine awp_skip ?_
       refine tl8 _ ?_
       (refine cov_of ?_ ?_ <;> simp [go_sem, h15, opsV])
      ·(refine awp_sr fun Y hY => ?_; simp [go_sem]; ((repeat' (first|(refine ag_x ?_;simp [go_sem])|intro _|apply And.intro|(apply hY;clear hY Y)));all_goals first|apply Hold.mk|omega|with_reducible assumption|skip))
       (refine awp_if fun T F hT hF => ?_; simp [go_sem]; refine BR.intro (fun h16 => hT ?_) (fun h16 => hF ?_); all_goals clear hT hF T F; try simp at h16) 
       ·refine awp_skip ?_
        refine tl8 _ ?_
        (refine cov_of ?_ ?_ <;> simp [go_sem, h16, opsV])
       ·(refine awp_sr fun Y hY => ?_; simp [go_sem]; ((repeat' (first|(refine ag_x ?_;simp [go_sem])|intro _|apply And.intro|(apply hY;clear hY Y)));all_goals first|apply Hold.mk|omega|with_reducible assumption|skip))
        (refine awp_if fun T F hT hF => ?_; simp [go_sem]; refine BR.intro (fun h17 => hT ?_) (fun h17 => hF ?_); all_goals clear hT hF T F; try simp at h17) 
        ·refine awp_skip ?_
         refine tl8 _ ?_
         (refine cov_of ?_ ?_ <;> simp [go_sem, h17, opsV])
        ·(refine awp_r fun Y hY => ?_; simp [go_sem]; ((repeat' (first|(refine ag_x ?_;simp [go_sem])|intro _|apply And.intro|(apply hY;clear hY Y)));all_goals first|apply Hold.mk|omega|with_reducible assumption|skip))
         refine tl8 _ ?_
         (refine cov_of ?_ ?_ <;> simp [go_sem, h12, h13, h14, h15, h16, h17, opsV])
         rw [Bool.eq_iff_iff]; simp
  ·refine awp_exit ?_
   simp only [go_sem]
   refine hK3 _ ?_; clear hK3
   have hie : i = ps.length := by omega
   subst hie
   rw [List.take_length] at hs
   (refine awp_sr fun Y hY => ?_; simp [go_sem]; ((repeat' (first|(refine ag_x ?_;simp [go_sem])|intro _|apply And.intro|(apply hY;clear hY Y)));all_goals first|apply Hold.mk|omega|with_reducible assumption|skip))
   (refine awp_ret ?_; simp [go_sem, hs])
   split
   ·rename_i hq
    simp; omega
   ·rename_i hq
    simp; omega
theorem rmet_spec (l : List Seg) (c : Cnd) (hc : COk c) (hl : l.length ≤ 1000) (wl : ∀ x ∈ l, wz x) : PCall Tryz.prog 256 [dGs l, dRC c] fun r => r = dB (metV l c) := by 
 refine pcall_of Tryz.func256 rfl rfl Tryz.ntmps256 (rs := [.tmp 4]) (tys := [4]) rfl rfl (by simp) ?_
 have hcl := hc.2.1.1
 have R1 := rread_spec (textV c.2) (by have := hc.2.2; omega)
 have er := readV_text hc.2.1 hc.2.2
 rw [readR_of er, er] at R1
 simp only [Option.isSome_some] at R1
 have C1 := rorder_spec l c.2 (by omega) (by omega) wl (wz_ok hc.2.1)
 have B1 := rbump_spec c.2 (by omega) (wordsV_pos hc.2.1) (VOk.num hc.2.1)
 have hbl : (bumpV c.2).length ≤ 1000 := by rw [bumpV_len]; have := bumpN_le c.2; have := wordsV_le c.2; omega
 have C2 := rorder_spec l (bumpV c.2) (by omega) (by omega) wl (fun x hx q => absurd (bumpV_mem hc.2.1 hx).1 q)
 unfold metV
 generalize cmpV l c.2 = n at *
 generalize cmpV l (bumpV c.2) = k at *
 generalize bumpV c.2 = bu at *
 (refine awp_sr fun Y hY => ?_; simp [go_sem]; ((repeat' (first|(refine ag_x ?_;simp [go_sem])|intro _|apply And.intro|(apply hY;clear hY Y)));all_goals first|apply Hold.mk|omega|with_reducible assumption|skip))
 (refine awp_sr fun Y hY => ?_; simp [go_sem]; ((repeat' (first|(refine ag_x ?_;simp [go_sem])|intro _|apply And.intro|(apply hY;clear hY Y)));all_goals first|apply Hold.mk|omega|with_reducible assumption|skip))
 ((try refine CallT.toA ?_); refine callT_m (.inl ⟨rfl,rfl⟩) (by simp [go_sem]) ?_; intro args ha; simp [go_sem] at ha; subst ha; refine ⟨_, R1, ?_⟩; rintro _ rfl; simp [go_sem]; ((repeat' (first|(refine ag_x ?_;simp [go_sem])|intro _|apply And.intro|(apply hY;clear hY Y)));all_goals first|apply Hold.mk|omega|with_reducible assumption|skip))
 (refine awp_sr fun Y hY => ?_; simp [go_sem]; ((repeat' (first|(refine ag_x ?_;simp [go_sem])|intro _|apply And.intro|(apply hY;clear hY Y)));all_goals first|apply Hold.mk|omega|with_reducible assumption|skip))
 ((try refine CallT.toA ?_); refine callT_m (.inl ⟨rfl,rfl⟩) (by simp [go_sem]) ?_; intro args ha; simp [go_sem] at ha; subst ha; refine ⟨_, C1, ?_⟩; rintro _ rfl; simp [go_sem]; ((repeat' (first|(refine ag_x ?_;simp [go_sem])|intro _|apply And.intro|(apply hY;clear hY Y)));all_goals first|apply Hold.mk|omega|with_reducible assumption|skip))
 refine awp_seq_k fun K1 hK1 => ?_
 (refine awp_sr fun Y hY => ?_; simp [go_sem]; ((repeat' (first|(refine ag_x ?_;simp [go_sem])|intro _|apply And.intro|(apply hY;clear hY Y)));all_goals first|apply Hold.mk|omega|with_reducible assumption|skip))
 refine awp_block ?_
 (refine awp_sr fun Y hY => ?_; simp [go_sem]; ((repeat' (first|(refine ag_x ?_;simp [go_sem])|intro _|apply And.intro|(apply hY;clear hY Y)));all_goals first|apply Hold.mk|omega|with_reducible assumption|skip))
 (refine awp_if fun T F hT hF => ?_; simp [go_sem]; refine BR.intro (fun h2 => hT ?_) (fun h2 => hF ?_); all_goals clear hT hF T F; try simp at h2) 
 ·(refine awp_sr fun Y hY => ?_; simp [go_sem]; ((repeat' (first|(refine ag_x ?_;simp [go_sem])|intro _|apply And.intro|(apply hY;clear hY Y)));all_goals first|apply Hold.mk|omega|with_reducible assumption|skip))
  (refine awp_ret ?_; simp [go_sem, h2])
 ·(refine awp_sr fun Y hY => ?_; simp [go_sem]; ((repeat' (first|(refine ag_x ?_;simp [go_sem])|intro _|apply And.intro|(apply hY;clear hY Y)));all_goals first|apply Hold.mk|omega|with_reducible assumption|skip))
  (refine awp_if fun T F hT hF => ?_; simp [go_sem]; refine BR.intro (fun h3 => hT ?_) (fun h3 => hF ?_); all_goals clear hT hF T F; try simp at h3) 
  ·(refine awp_sr fun Y hY => ?_; simp [go_sem]; ((repeat' (first|(refine ag_x ?_;simp [go_sem])|intro _|apply And.intro|(apply hY;clear hY Y)));all_goals first|apply Hold.mk|omega|with_reducible assumption|skip))
   (refine awp_ret ?_; simp [go_sem, h2, h3])
  ·(refine awp_sr fun Y hY => ?_; simp [go_sem]; ((repeat' (first|(refine ag_x ?_;simp [go_sem])|intro _|apply And.intro|(apply hY;clear hY Y)));all_goals first|apply Hold.mk|omega|with_reducible assumption|skip))
   (refine awp_if fun T F hT hF => ?_; simp [go_sem]; refine BR.intro (fun h4 => hT ?_) (fun h4 => hF ?_); all_goals clear hT hF T F; try simp at h4) 
   ·(refine awp_sr fun Y hY => ?_; simp [go_sem]; ((repeat' (first|(refine ag_x ?_;simp [go_sem])|intro _|apply And.intro|(apply hY;clear hY Y)));all_goals first|apply Hold.mk|omega|with_reducible assumption|skip))
    (refine awp_ret ?_; simp [go_sem, h2, h3, h4])
   ·(refine awp_sr fun Y hY => ?_; simp [go_sem]; ((repeat' (first|(refine ag_x ?_;simp [go_sem])|intro _|apply And.intro|(apply hY;clear hY Y)));all_goals first|apply Hold.mk|omega|with_reducible assumption|skip))
    (refine awp_if fun T F hT hF => ?_; simp [go_sem]; refine BR.intro (fun h5 => hT ?_) (fun h5 => hF ?_); all_goals clear hT hF T F; try simp at h5) 
    ·(refine awp_sr fun Y hY => ?_; simp [go_sem]; ((repeat' (first|(refine ag_x ?_;simp [go_sem])|intro _|apply And.intro|(apply hY;clear hY Y)));all_goals first|apply Hold.mk|omega|with_reducible assumption|skip))
     (refine awp_ret ?_; simp [go_sem, h2, h3, h4, h5])
    ·(refine awp_sr fun Y hY => ?_; simp [go_sem]; ((repeat' (first|(refine ag_x ?_;simp [go_sem])|intro _|apply And.intro|(apply hY;clear hY Y)));all_goals first|apply Hold.mk|omega|with_reducible assumption|skip))
     (refine awp_if fun T F hT hF => ?_; simp [go_sem]; refine BR.intro (fun h6 => hT ?_) (fun h6 => hF ?_); all_goals clear hT hF T F; try simp at h6) 
     ·(refine awp_sr fun Y hY => ?_; simp [go_sem]; ((repeat' (first|(refine ag_x ?_;simp [go_sem])|intro _|apply And.intro|(apply hY;clear hY Y)));all_goals first|apply Hold.mk|omega|with_reducible assumption|skip))
      (refine awp_ret ?_; simp [go_sem, h2, h3, h4, h5, h6])
     ·(refine awp_sr fun Y hY => ?_; simp [go_sem]; ((repeat' (first|(refine ag_x ?_;simp [go_sem])|intro _|apply And.intro|(apply hY;clear hY Y)));all_goals first|apply Hold.mk|omega|with_reducible assumption|skip))
      (refine awp_if fun T F hT hF => ?_; simp [go_sem]; refine BR.intro (fun h7 => hT ?_) (fun h7 => hF ?_); all_goals clear hT hF T F; try simp at h7) 
      ·(refine awp_sr fun Y hY => ?_; simp [go_sem]; ((repeat' (first|(refine ag_x ?_;simp [go_sem])|intro _|apply And.intro|(apply hY;clear hY Y)));all_goals first|apply Hold.mk|omega|with_reducible assumption|skip))
       (refine awp_ret ?_; simp [go_sem, h2, h3, h4, h5, h6, h7])
      ·refine awp_skip ?_
       refine hK1 _ ?_; clear hK1
       simp only [h2, h3, h4, h5, h6, h7, if_false]
       by_cases h8 : 0 ≤ n
       ·(refine awp_sr fun Y hY => ?_; simp [go_sem, h8]; ((repeat' (first|(refine ag_x ?_;simp [go_sem, h8])|intro _|apply And.intro|(apply hY;clear hY Y)));all_goals first|apply Hold.mk|omega|with_reducible assumption|skip))
        (refine agc_m (dGs bu) (.inl ⟨rfl,rfl⟩) (by simp [go_sem]) ?_ ?_; (intro hc args ha; simp [go_sem] at ha; subst ha; exact B1); simp [go_sem]; ((repeat' (first|(refine ag_x ?_;simp [go_sem])|intro _|apply And.intro|(apply hY;clear hY Y)));all_goals first|apply Hold.mk|omega|with_reducible assumption|skip))
        (refine agc_f (dI k) (.inl ⟨rfl,rfl⟩) ?_ rfl ?_; (intro hc args ha; simp [go_sem] at ha; subst ha; exact C2); simp [go_sem]; ((repeat' (first|(refine ag_x ?_;simp [go_sem])|intro _|apply And.intro|(apply hY;clear hY Y)));all_goals first|apply Hold.mk|omega|with_reducible assumption|skip))
        (refine awp_ret ?_; simp [go_sem, h8])
       ·(refine awp_sr fun Y hY => ?_; simp [go_sem, h8]; ((repeat' (first|(refine ag_false (by simp [go_sem, undef, h8]) (by simp [go_sem]) ?_;simp [go_sem, h8])|intro _|apply And.intro|(apply hY;clear hY Y)));all_goals first|apply Hold.mk|omega|with_reducible assumption|skip))
        (refine awp_ret ?_; simp [go_sem, h8])
def anyPre (cs : List Cnd) (i : Nat) : Bool := (cs.take i).any fun c => preV c.2
theorem anyPre_zero (cs : List Cnd) : anyPre cs 0 = false := rfl
theorem anyPre_all (cs : List Cnd) : anyPre cs cs.length = cs.any fun c => preV c.2 := by unfold anyPre; rw [List.take_length]
set_option maxHeartbeats 8000000 in
theorem rall_spec (l : List Seg) (cs : List Cnd) (hl : l.length ≤ 1000) (wl : ∀ x ∈ l, wz x) (hcs : cs.length ≤ 1000) (hc : ∀ c ∈ cs, COk c) : PCall Tryz.prog 229 [dGs l, dRCs cs] fun r => r = dB (meetsV l cs) := by 
 refine pcall_of Tryz.func229 rfl rfl Tryz.ntmps229 (rs := [.tmp 4]) (tys := [4]) rfl rfl (by simp) ?_
 have W := rwords_spec l (by omega)
 have e := words_eq l
 have M := fun c h => rmet_spec l c (hc c h) hl wl
 have RW := fun c h => rwords_spec (c : Cnd).2 (by have := (hc c h).2.1.1; omega)
 have RE := fun (c : Cnd) => wordsV_lt c.2
 have RR := fun c h => rread_spec (textV (c : Cnd).2) (by have := (hc c h).2.2; omega)
 have ER := fun c h => readV_text (hc c h).2.1 (hc c h).2.2
 have EP := fun c h => readR_of (ER c h)
 have hbad : ∀ c ∈ cs, metV l c = false → meetsV l cs = false := by
  intro c h hm
  unfold meetsV
  have : cs.all (metV l) = false := by
   rw [List.all_eq_false]; exact ⟨c, h, by simp [hm]⟩
  rw [this]; rfl
 have hok : cs.all (metV l) = true → meetsV l cs = (!preV l || cs.any fun c => preV c.2) := by
  intro h; unfold meetsV; rw [h]; rfl
 have hall : ∀ i c, cs[i]? = some c → (cs.take i).all (metV l) = true → metV l c = true → (cs.take (i + 1)).all (metV l) = true := by
  intro i c h h1 h2
  rw [List.take_add_one, h, List.all_append, h1]; simpa using h2
 have hany : ∀ i c, cs[i]? = some c → anyPre cs (i + 1) = (anyPre cs i || preV c.2) := fun i c h => any_take h
 generalize meetsV l cs = res at *
 generalize preV l = pr at *
 generalize wordsV l = wl at *
 (refine awp_sr fun Y hY => ?_; simp [go_sem]; ((repeat' (first|(refine ag_x ?_;simp [go_sem])|intro _|apply And.intro|(apply hY;clear hY Y)));all_goals first|apply Hold.mk|omega|with_reducible assumption|skip))
 (refine awp_sr fun Y hY => ?_; simp [go_sem]; ((repeat' (first|(refine ag_x ?_;simp [go_sem])|intro _|apply And.intro|(apply hY;clear hY Y)));all_goals first|apply Hold.mk|omega|with_reducible assumption|skip))
 ((try refine CallT.toA ?_); refine callT_m (.inl ⟨rfl,rfl⟩) (by simp [go_sem]) ?_; intro args ha; simp [go_sem] at ha; subst ha; refine ⟨_, W, ?_⟩; rintro _ rfl; simp [go_sem]; ((repeat' (first|(refine ag_x ?_;simp [go_sem])|intro _|apply And.intro|(apply hY;clear hY Y)));all_goals first|apply Hold.mk|omega|with_reducible assumption|skip))
 refine awp_seq_k fun K1 hK1 => ?_
 (refine awp_sr fun Y hY => ?_; simp [go_sem]; ((repeat' (first|(refine ag_x ?_;simp [go_sem])|intro _|apply And.intro|(apply hY;clear hY Y)));all_goals first|apply Hold.mk|omega|with_reducible assumption|skip))
 refine awp_block ?_
 refine awp_loop (σ := Nat) (fun i => ⟨[(0, dGs l), (1, dRCs cs), (5, dB (!pr || anyPre cs i)), (6, dI i)], []⟩) (fun i => i ≤ cs.length ∧ (cs.take i).all (metV l) = true) (fun i => cs.length - i) 0 ?_ ?_ ?_
 ·(refine cov_of ?_ ?_ <;> simp [go_sem, e, anyPre_zero])
 ·exact ⟨by omega, by simp⟩
 rintro i ⟨hi, ha⟩
 refine awp_seq_k fun K2 hK2 => ?_
 (refine awp_sr fun Y hY => ?_; simp [go_sem]; ((repeat' (first|(refine ag_x ?_;simp [go_sem])|intro _|apply And.intro|(apply hY;clear hY Y)));all_goals first|apply Hold.mk|omega|with_reducible assumption|skip))
 (refine awp_if fun T F hT hF => ?_; simp [go_sem]; refine BR.intro (fun h3 => hT ?_) (fun h3 => hF ?_); all_goals clear hT hF T F; try simp at h3) 
 ·refine awp_skip ?_
  refine hK2 _ ?_; clear hK2
  obtain ⟨c, hx⟩ : ∃ c, cs[i]? = some c := ⟨_, List.getElem?_eq_getElem (by omega)⟩
  have hm := List.mem_of_getElem? hx
  have M1 := M c hm
  have hb := hbad c hm
  have ha2 := hall i c hx ha
  have W2 := RW c hm
  have E2 := RE c
  have R2 := RR c hm
  rw [ER c hm, EP c hm] at R2
  simp only [Option.isSome_some] at R2
  have A2 := hany i c hx
  have hE3 : decide ((wordsV c.2 : Int) < (c.2.length : Int)) = preV c.2 := by rw [← E2]; congr 1; apply propext; omega
  generalize hmv : metV l c = mc at *
  generalize hq : anyPre cs i = q at *
  generalize hpc : preV c.2 = pc at *
  generalize wordsV c.2 = wc at *
  refine awp_seq_k fun K4 hK4 => ?_
  refine awp_block ?_
  (refine awp_sr fun Y hY => ?_; simp [go_sem, hx]; ((repeat' (first|(refine ag_x ?_;simp [go_sem, hx])|intro _|apply And.intro|(apply hY;clear hY Y)));all_goals first|apply Hold.mk|omega|with_reducible assumption|skip))
  ((try refine CallT.toA ?_); refine callT_m (.inl ⟨rfl,rfl⟩) (by simp [go_sem]) ?_; intro args ha; simp [go_sem] at ha; subst ha; refine ⟨_, R2, ?_⟩; rintro _ rfl; simp [go_sem]; ((repeat' (first|(refine ag_x ?_;simp [go_sem])|intro _|apply And.intro|(apply hY;clear hY Y)));all_goals first|apply Hold.mk|omega|with_reducible assumption|skip))
  cases hm2 : (!pr || q) with
  | true =>
   have hm3 : (!pr || (q || pc)) = true := by rw [← Bool.or_assoc, hm2]; rfl
   (refine awp_sr fun Y hY => ?_; simp [go_sem, hm2]; ((repeat' (first|(refine ag_false (by simp [go_sem, undef, hm2]) (by simp [go_sem]) ?_;simp [go_sem, hm2])|intro _|apply And.intro|(apply hY;clear hY Y)));all_goals first|apply Hold.mk|omega|with_reducible assumption|skip))
   (refine awp_sr fun Y hY => ?_; simp [go_sem, hx]; ((repeat' (first|(refine ag_x ?_;simp [go_sem, hx])|intro _|apply And.intro|(apply hY;clear hY Y)));all_goals first|apply Hold.mk|omega|with_reducible assumption|skip))
   ((try refine CallT.toA ?_); refine callT_m (.inl ⟨rfl,rfl⟩) (by simp [go_sem]) ?_; intro args ha; simp [go_sem] at ha; subst ha; refine ⟨_, M1, ?_⟩; rintro _ rfl; simp [go_sem]; ((repeat' (first|(refine ag_x ?_;simp [go_sem])|intro _|apply And.intro|(apply hY;clear hY Y)));all_goals first|apply Hold.mk|omega|with_reducible assumption|skip))
   (refine awp_if fun T F hT hF => ?_; simp [go_sem]; refine BR.intro (fun h5 => hT ?_) (fun h5 => hF ?_); all_goals clear hT hF T F; try simp at h5)
   ·(refine awp_sr fun Y hY => ?_; simp [go_sem]; ((repeat' (first|(refine ag_x ?_;simp [go_sem])|intro _|apply And.intro|(apply hY;clear hY Y)));all_goals first|apply Hold.mk|omega|with_reducible assumption|skip))
    (refine awp_ret ?_; simp [go_sem, hb h5])
   ·refine awp_skip ?_
    refine hK4 _ ?_; clear hK4
    (refine awp_r fun Y hY => ?_; simp [go_sem]; ((repeat' (first|(refine ag_x ?_;simp [go_sem])|intro _|apply And.intro|(apply hY;clear hY Y)));all_goals first|apply Hold.mk|omega|with_reducible assumption|skip))
    refine ⟨i + 1, ?_, ⟨by omega, ha2 h5⟩, by omega⟩
    rw [A2, hm3]
    (refine cov_of ?_ ?_ <;> simp [go_sem])
  | false =>
   have hm3 : (!pr || (q || pc)) = pc := by rw [← Bool.or_assoc, hm2]; rfl
   (refine awp_sr fun Y hY => ?_; simp [go_sem, hm2]; ((repeat' (first|(refine ag_x ?_;simp [go_sem, hm2])|intro _|apply And.intro|(apply hY;clear hY Y)));all_goals first|apply Hold.mk|omega|with_reducible assumption|skip))
   (refine agc_f (dI wc) (.inl ⟨rfl,rfl⟩) ?_ rfl ?_; (intro hc args ha; simp [go_sem] at ha; subst ha; exact W2); simp [go_sem]; ((repeat' (first|(refine ag_x ?_;simp [go_sem])|intro _|apply And.intro|(apply hY;clear hY Y)));all_goals first|apply Hold.mk|omega|with_reducible assumption|skip))
   (refine awp_sr fun Y hY => ?_; simp [go_sem, hx]; ((repeat' (first|(refine ag_x ?_;simp [go_sem, hx])|intro _|apply And.intro|(apply hY;clear hY Y)));all_goals first|apply Hold.mk|omega|with_reducible assumption|skip))
   ((try refine CallT.toA ?_); refine callT_m (.inl ⟨rfl,rfl⟩) (by simp [go_sem]) ?_; intro args ha; simp [go_sem] at ha; subst ha; refine ⟨_, M1, ?_⟩; rintro _ rfl; simp [go_sem]; ((repeat' (first|(refine ag_x ?_;simp [go_sem])|intro _|apply And.intro|(apply hY;clear hY Y)));all_goals first|apply Hold.mk|omega|with_reducible assumption|skip))
   (refine awp_if fun T F hT hF => ?_; simp [go_sem]; refine BR.intro (fun h5 => hT ?_) (fun h5 => hF ?_); all_goals clear hT hF T F; try simp at h5)
   ·(refine awp_sr fun Y hY => ?_; simp [go_sem]; ((repeat' (first|(refine ag_x ?_;simp [go_sem])|intro _|apply And.intro|(apply hY;clear hY Y)));all_goals first|apply Hold.mk|omega|with_reducible assumption|skip))
    (refine awp_ret ?_; simp [go_sem, hb h5])
   ·refine awp_skip ?_
    refine hK4 _ ?_; clear hK4
    (refine awp_r fun Y hY => ?_; simp [go_sem]; ((repeat' (first|(refine ag_x ?_;simp [go_sem])|intro _|apply And.intro|(apply hY;clear hY Y)));all_goals first|apply Hold.mk|omega|with_reducible assumption|skip))
    refine ⟨i + 1, ?_, ⟨by omega, ha2 h5⟩, by omega⟩
    rw [A2, hm3]
    (refine cov_of ?_ ?_ <;> simp [go_sem, E2])
 ·refine awp_exit ?_
  simp only [go_sem]
  refine hK1 _ ?_; clear hK1
  have : i = cs.length := by omega
  subst this
  rw [List.take_length] at ha
  rw [hok ha, ← anyPre_all]
  (refine awp_sr fun Y hY => ?_; simp [go_sem]; ((repeat' (first|(refine ag_x ?_;simp [go_sem])|intro _|apply And.intro|(apply hY;clear hY Y)));all_goals first|apply Hold.mk|omega|with_reducible assumption|skip))
  (refine awp_ret ?_; simp [go_sem])
theorem rCompare_spec (v w : List UInt8) (hv : v.length ≤ 1000000) (hw : w.length ≤ 1000000) : PCall Tryz.prog 85 [dS v, dS w] fun r => r = .tup [dI (compareP v w), dI (codeP ((readV v).isSome && (readV w).isSome))] := by 
 refine pcall_of Tryz.func85 rfl rfl Tryz.ntmps85 (rs := [.tmp 4, .tmp 5]) (tys := [3, 27]) rfl rfl (by simp) ?_
 have R1 := rread_spec v (by omega)
 have R2 := rread_spec w (by omega)
 have h1 := @read_ok v
 have h2 := @read_ok w
 unfold compareP codeP
 unfold readR at R1 R2
 generalize readP v = a at *
 generalize readP w = b at *
 have C := fun (p : (readV v).isSome = true) (q : (readV w).isSome = true) => rorder_spec a b (by have := (h1 p).2.1.1; omega) (by have := (h2 q).2.1.1; omega) (wz_ok (h1 p).2.1) (wz_ok (h2 q).2.1)
 generalize (readV v).isSome = x at *
 generalize (readV w).isSome = y at *
 (refine awp_sr fun Y hY => ?_; simp [go_sem]; ((repeat' (first|(refine ag_x ?_;simp [go_sem])|intro _|apply And.intro|(apply hY;clear hY Y)));all_goals first|apply Hold.mk|omega|with_reducible assumption|skip))
 (refine awp_sr fun Y hY => ?_; simp [go_sem]; ((repeat' (first|(refine ag_x ?_;simp [go_sem])|intro _|apply And.intro|(apply hY;clear hY Y)));all_goals first|apply Hold.mk|omega|with_reducible assumption|skip))
 ((try refine CallT.toA ?_); refine callT_m (.inl ⟨rfl,rfl⟩) (by simp [go_sem]) ?_; intro args ha; simp [go_sem] at ha; subst ha; refine ⟨_, R1, ?_⟩; rintro _ rfl; simp [go_sem]; ((repeat' (first|(refine ag_x ?_;simp [go_sem])|intro _|apply And.intro|(apply hY;clear hY Y)));all_goals first|apply Hold.mk|omega|with_reducible assumption|skip))
 (refine awp_sr fun Y hY => ?_; simp [go_sem]; ((repeat' (first|(refine ag_x ?_;simp [go_sem])|intro _|apply And.intro|(apply hY;clear hY Y)));all_goals first|apply Hold.mk|omega|with_reducible assumption|skip))
 ((try refine CallT.toA ?_); refine callT_m (.inl ⟨rfl,rfl⟩) (by simp [go_sem]) ?_; intro args ha; simp [go_sem] at ha; subst ha; refine ⟨_, R2, ?_⟩; rintro _ rfl; simp [go_sem]; ((repeat' (first|(refine ag_x ?_;simp [go_sem])|intro _|apply And.intro|(apply hY;clear hY Y)));all_goals first|apply Hold.mk|omega|with_reducible assumption|skip))
 refine awp_seq_k fun K1 hK1 => ?_
 cases x with
 | false =>
  (refine awp_sr fun Y hY => ?_; simp [go_sem]; ((repeat' (first|(refine ag_false (by simp [go_sem, undef]) (by simp [go_sem]) ?_;simp [go_sem])|intro _|apply And.intro|(apply hY;clear hY Y)));all_goals first|apply Hold.mk|omega|with_reducible assumption|skip))
  (refine awp_if fun T F hT hF => ?_; simp [go_sem]; refine hT ?_; clear hT hF T F)
  (refine awp_sr fun Y hY => ?_; simp [go_sem]; ((repeat' (first|(refine ag_x ?_;simp [go_sem])|intro _|apply And.intro|(apply hY;clear hY Y)));all_goals first|apply Hold.mk|omega|with_reducible assumption|skip))
  (refine awp_ret ?_; simp [go_sem])
 | true =>
  cases y with
  | false =>
   (refine awp_sr fun Y hY => ?_; simp [go_sem]; ((repeat' (first|(refine ag_x ?_;simp [go_sem])|intro _|apply And.intro|(apply hY;clear hY Y)));all_goals first|apply Hold.mk|omega|with_reducible assumption|skip))
   (refine awp_if fun T F hT hF => ?_; simp [go_sem]; refine hT ?_; clear hT hF T F)
   (refine awp_sr fun Y hY => ?_; simp [go_sem]; ((repeat' (first|(refine ag_x ?_;simp [go_sem])|intro _|apply And.intro|(apply hY;clear hY Y)));all_goals first|apply Hold.mk|omega|with_reducible assumption|skip))
   (refine awp_ret ?_; simp [go_sem])
  | true =>
   simp only [if_true] at R1 R2
   (refine awp_sr fun Y hY => ?_; simp [go_sem]; ((repeat' (first|(refine ag_x ?_;simp [go_sem])|intro _|apply And.intro|(apply hY;clear hY Y)));all_goals first|apply Hold.mk|omega|with_reducible assumption|skip))
   (refine awp_if fun T F hT hF => ?_; simp [go_sem]; refine hF ?_; clear hT hF T F)
   refine awp_skip ?_
   refine hK1 _ ?_; clear hK1
   (refine awp_sr fun Y hY => ?_; simp [go_sem]; ((repeat' (first|(refine ag_x ?_;simp [go_sem])|intro _|apply And.intro|(apply hY;clear hY Y)));all_goals first|apply Hold.mk|omega|with_reducible assumption|skip))
   ((try refine CallT.toA ?_); refine callT_m (.inl ⟨rfl,rfl⟩) (by simp [go_sem]) ?_; intro args ha; simp [go_sem] at ha; subst ha; refine ⟨_, (C rfl rfl), ?_⟩; rintro _ rfl; simp [go_sem]; ((repeat' (first|(refine ag_x ?_;simp [go_sem])|intro _|apply And.intro|(apply hY;clear hY Y)));all_goals first|apply Hold.mk|omega|with_reducible assumption|skip))
   (refine awp_ret ?_; simp [go_sem])
theorem rMeets_spec (v w : List UInt8) (hv : v.length ≤ 1000000) (hw : w.length ≤ 1000000) : PCall Tryz.prog 194 [dS v, dS w] fun r => r = .tup [dB (meetsP v w), dI (codeP ((readV v).isSome && (condsV w).isSome))] := by 
 refine pcall_of Tryz.func194 rfl rfl Tryz.ntmps194 (rs := [.tmp 4, .tmp 5]) (tys := [4, 27]) rfl rfl (by simp) ?_
 have R1 := rread_spec v (by omega)
 have R2 := rconditions_spec w (by omega)
 have h1 := @read_ok v
 have h2 := @conds_ok w
 unfold meetsP codeP
 unfold readR at R1
 generalize readP v = a at *
 generalize condsP w = b at *
 have C := fun (p : (readV v).isSome = true) (q : (condsV w).isSome = true) => rall_spec a b (by have := (h1 p).2.1.1; omega) (wz_ok (h1 p).2.1) (by have := (h2 q).2.2; omega) (h2 q).2.1
 generalize (readV v).isSome = x at *
 generalize (condsV w).isSome = y at *
 (refine awp_sr fun Y hY => ?_; simp [go_sem]; ((repeat' (first|(refine ag_x ?_;simp [go_sem])|intro _|apply And.intro|(apply hY;clear hY Y)));all_goals first|apply Hold.mk|omega|with_reducible assumption|skip))
 (refine awp_sr fun Y hY => ?_; simp [go_sem]; ((repeat' (first|(refine ag_x ?_;simp [go_sem])|intro _|apply And.intro|(apply hY;clear hY Y)));all_goals first|apply Hold.mk|omega|with_reducible assumption|skip))
 ((try refine CallT.toA ?_); refine callT_m (.inl ⟨rfl,rfl⟩) (by simp [go_sem]) ?_; intro args ha; simp [go_sem] at ha; subst ha; refine ⟨_, R1, ?_⟩; rintro _ rfl; simp [go_sem]; ((repeat' (first|(refine ag_x ?_;simp [go_sem])|intro _|apply And.intro|(apply hY;clear hY Y)));all_goals first|apply Hold.mk|omega|with_reducible assumption|skip))
 (refine awp_sr fun Y hY => ?_; simp [go_sem]; ((repeat' (first|(refine ag_x ?_;simp [go_sem])|intro _|apply And.intro|(apply hY;clear hY Y)));all_goals first|apply Hold.mk|omega|with_reducible assumption|skip))
 ((try refine CallT.toA ?_); refine callT_m (.inl ⟨rfl,rfl⟩) (by simp [go_sem]) ?_; intro args ha; simp [go_sem] at ha; subst ha; refine ⟨_, R2, ?_⟩; rintro _ rfl; simp [go_sem]; ((repeat' (first|(refine ag_x ?_;simp [go_sem])|intro _|apply And.intro|(apply hY;clear hY Y)));all_goals first|apply Hold.mk|omega|with_reducible assumption|skip))
 refine awp_seq_k fun K1 hK1 => ?_
 cases x with
 | false =>
  (refine awp_sr fun Y hY => ?_; simp [go_sem]; ((repeat' (first|(refine ag_false (by simp [go_sem, undef]) (by simp [go_sem]) ?_;simp [go_sem])|intro _|apply And.intro|(apply hY;clear hY Y)));all_goals first|apply Hold.mk|omega|with_reducible assumption|skip))
  (refine awp_if fun T F hT hF => ?_; simp [go_sem]; refine hT ?_; clear hT hF T F)
  (refine awp_sr fun Y hY => ?_; simp [go_sem]; ((repeat' (first|(refine ag_x ?_;simp [go_sem])|intro _|apply And.intro|(apply hY;clear hY Y)));all_goals first|apply Hold.mk|omega|with_reducible assumption|skip))
  (refine awp_ret ?_; simp [go_sem])
 | true =>
  cases y with
  | false =>
   (refine awp_sr fun Y hY => ?_; simp [go_sem]; ((repeat' (first|(refine ag_x ?_;simp [go_sem])|intro _|apply And.intro|(apply hY;clear hY Y)));all_goals first|apply Hold.mk|omega|with_reducible assumption|skip))
   (refine awp_if fun T F hT hF => ?_; simp [go_sem]; refine hT ?_; clear hT hF T F)
   (refine awp_sr fun Y hY => ?_; simp [go_sem]; ((repeat' (first|(refine ag_x ?_;simp [go_sem])|intro _|apply And.intro|(apply hY;clear hY Y)));all_goals first|apply Hold.mk|omega|with_reducible assumption|skip))
   (refine awp_ret ?_; simp [go_sem])
  | true =>
   simp only [if_true] at R1
   (refine awp_sr fun Y hY => ?_; simp [go_sem]; ((repeat' (first|(refine ag_x ?_;simp [go_sem])|intro _|apply And.intro|(apply hY;clear hY Y)));all_goals first|apply Hold.mk|omega|with_reducible assumption|skip))
   (refine awp_if fun T F hT hF => ?_; simp [go_sem]; refine hF ?_; clear hT hF T F)
   refine awp_skip ?_
   refine hK1 _ ?_; clear hK1
   (refine awp_sr fun Y hY => ?_; simp [go_sem]; ((repeat' (first|(refine ag_x ?_;simp [go_sem])|intro _|apply And.intro|(apply hY;clear hY Y)));all_goals first|apply Hold.mk|omega|with_reducible assumption|skip))
   ((try refine CallT.toA ?_); refine callT_m (.inl ⟨rfl,rfl⟩) (by simp [go_sem]) ?_; intro args ha; simp [go_sem] at ha; subst ha; refine ⟨_, (C rfl rfl), ?_⟩; rintro _ rfl; simp [go_sem]; ((repeat' (first|(refine ag_x ?_;simp [go_sem])|intro _|apply And.intro|(apply hY;clear hY Y)));all_goals first|apply Hold.mk|omega|with_reducible assumption|skip))
   (refine awp_ret ?_; simp [go_sem])
theorem Check_spec (r : List UInt8) (hl : r.length ≤ 1000000) : PCall Tryz.prog 119 [dS r] fun y => y = dI (codeP (condsV r).isSome) := by 
 refine pcall_of Tryz.func119 rfl rfl Tryz.ntmps119 (rs := [.tmp 2]) (tys := [27]) rfl rfl (by simp) ?_
 have R1 := conditions_spec r (by omega)
 unfold codeP
 generalize (condsV r).isSome = x at *
 (refine awp_sr fun Y hY => ?_; simp [go_sem]; ((repeat' (first|(refine ag_x ?_;simp [go_sem])|intro _|apply And.intro|(apply hY;clear hY Y)));all_goals first|apply Hold.mk|omega|with_reducible assumption|skip))
 refine awp_seq_k fun K1 hK1 => ?_
 (refine awp_sr fun Y hY => ?_; simp [go_sem]; ((repeat' (first|(refine ag_x ?_;simp [go_sem])|intro _|apply And.intro|(apply hY;clear hY Y)));all_goals first|apply Hold.mk|omega|with_reducible assumption|skip))
 ((try refine CallT.toA ?_); refine callT_m (.inl ⟨rfl,rfl⟩) (by simp [go_sem]) ?_; intro args ha; simp [go_sem] at ha; subst ha; refine ⟨_, R1, ?_⟩; rintro _ rfl; simp [go_sem]; ((repeat' (first|(refine ag_x ?_;simp [go_sem])|intro _|apply And.intro|(apply hY;clear hY Y)));all_goals first|apply Hold.mk|omega|with_reducible assumption|skip))
 (refine awp_sr fun Y hY => ?_; simp [go_sem]; ((repeat' (first|(refine ag_x ?_;simp [go_sem])|intro _|apply And.intro|(apply hY;clear hY Y)));all_goals first|apply Hold.mk|omega|with_reducible assumption|skip))
 (refine awp_if fun T F hT hF => ?_; simp [go_sem]; refine BR.intro (fun h2 => hT ?_) (fun h2 => hF ?_); all_goals clear hT hF T F; try simp at h2) 
 ·(refine awp_sr fun Y hY => ?_; simp [go_sem]; ((repeat' (first|(refine ag_x ?_;simp [go_sem])|intro _|apply And.intro|(apply hY;clear hY Y)));all_goals first|apply Hold.mk|omega|with_reducible assumption|skip))
  (refine awp_ret ?_; simp [go_sem, h2])
 ·refine awp_skip ?_
  refine hK1 _ ?_; clear hK1
  (refine awp_sr fun Y hY => ?_; simp [go_sem]; ((repeat' (first|(refine ag_x ?_;simp [go_sem])|intro _|apply And.intro|(apply hY;clear hY Y)));all_goals first|apply Hold.mk|omega|with_reducible assumption|skip))
  (refine awp_ret ?_; simp [go_sem, h2])
theorem rCheck_spec (r : List UInt8) (hl : r.length ≤ 1000000) : PCall Tryz.prog 115 [dS r] fun y => y = dI (codeP (condsV r).isSome) := by 
 refine pcall_of Tryz.func115 rfl rfl Tryz.ntmps115 (rs := [.tmp 2]) (tys := [27]) rfl rfl (by simp) ?_
 have R1 := rconditions_spec r (by omega)
 unfold codeP
 generalize (condsV r).isSome = x at *
 (refine awp_sr fun Y hY => ?_; simp [go_sem]; ((repeat' (first|(refine ag_x ?_;simp [go_sem])|intro _|apply And.intro|(apply hY;clear hY Y)));all_goals first|apply Hold.mk|omega|with_reducible assumption|skip))
 refine awp_seq_k fun K1 hK1 => ?_
 (refine awp_sr fun Y hY => ?_; simp [go_sem]; ((repeat' (first|(refine ag_x ?_;simp [go_sem])|intro _|apply And.intro|(apply hY;clear hY Y)));all_goals first|apply Hold.mk|omega|with_reducible assumption|skip))
 ((try refine CallT.toA ?_); refine callT_m (.inl ⟨rfl,rfl⟩) (by simp [go_sem]) ?_; intro args ha; simp [go_sem] at ha; subst ha; refine ⟨_, R1, ?_⟩; rintro _ rfl; simp [go_sem]; ((repeat' (first|(refine ag_x ?_;simp [go_sem])|intro _|apply And.intro|(apply hY;clear hY Y)));all_goals first|apply Hold.mk|omega|with_reducible assumption|skip))
 (refine awp_sr fun Y hY => ?_; simp [go_sem]; ((repeat' (first|(refine ag_x ?_;simp [go_sem])|intro _|apply And.intro|(apply hY;clear hY Y)));all_goals first|apply Hold.mk|omega|with_reducible assumption|skip))
 (refine awp_if fun T F hT hF => ?_; simp [go_sem]; refine BR.intro (fun h2 => hT ?_) (fun h2 => hF ?_); all_goals clear hT hF T F; try simp at h2) 
 ·(refine awp_sr fun Y hY => ?_; simp [go_sem]; ((repeat' (first|(refine ag_x ?_;simp [go_sem])|intro _|apply And.intro|(apply hY;clear hY Y)));all_goals first|apply Hold.mk|omega|with_reducible assumption|skip))
  (refine awp_ret ?_; simp [go_sem, h2])
 ·refine awp_skip ?_
  refine hK1 _ ?_; clear hK1
  (refine awp_sr fun Y hY => ?_; simp [go_sem]; ((repeat' (first|(refine ag_x ?_;simp [go_sem])|intro _|apply And.intro|(apply hY;clear hY Y)));all_goals first|apply Hold.mk|omega|with_reducible assumption|skip))
  (refine awp_ret ?_; simp [go_sem, h2])
end Go.Proofs.YtchnagdaljblnaaGreatDoor
namespace Go.Ver
open Go.Lib Go.Wh
end Go.Ver
namespace Go.Ver
/-! what the code of stable sorting does with lists -/
variable {α : Type} {lt : α → α → Bool}
/-! blocks that are sorted each -/
variable {α : Type} {lt : α → α → Bool}
end Go.Ver
namespace Go.Ver
open Go.Lib Go.Wh
/-! lists of versions -/
/-! made versions in lists -/
end Go.Ver
namespace Go.Lk
open Go.Lib Go.Wh Go.Ver
/-! locks: names, needs, sums -/
abbrev Bs := List UInt8
abbrev Prs := Bs × Bs
def nmC (c : UInt8) : Bool := isL c || isD c || decide (c.toNat = 95) || decide (c.toNat = 45)
def nameV (s : Bs) : Bool := match s with
 | [] => false
 | c :: r => isL c && r.all nmC && decide (r.length < 20)
def nmAt (i : Nat) (c : UInt8) : Bool := isL c || (decide (i ≠ 0) && nmC c)
def nmTo (s : Bs) : Nat → Bool
 | 0 => true
 | n + 1 => nmTo s n && (match s[n]? with | some c => nmAt n c | none => true)
theorem nmTo_step {s : Bs} {n : Nat} {c : UInt8} (h : s[n]? = some c) : nmTo s (n + 1) = (nmTo s n && nmAt n c) := by
 simp only [nmTo, h]
theorem nmTo_all : ∀ (s : Bs) (c : UInt8) (n : Nat), nmTo (c :: s) (n + 1) = (isL c && (s.take n).all nmC)
 | s, c, 0 => by simp [nmTo, nmAt]
 | s, c, n + 1 => by
  rw [nmTo, nmTo_all s c n]
  simp only [List.getElem?_cons_succ]
  rw [List.take_add_one, List.all_append, Bool.and_assoc]
  congr 2
  cases h : s[n]? with
  | none => simp
  | some d => simp [nmAt, nmC]; cases isL d <;> simp
theorem nameV_nm (s : Bs) : nameV s = (nmTo s s.length && (decide (s ≠ []) && decide (s.length ≤ 20))) := by
 cases s with
 | nil => simp [nameV, nmTo]
 | cons c r =>
  rw [List.length_cons, nmTo_all, List.take_length]
  simp [nameV]
  congr 1
  cases h : decide (r.length < 20) <;> simp at h <;> simp <;> omega
theorem nmTo_bad {s : Bs} {n : Nat} (h : nmTo s n = false) : ∀ m, n ≤ m → nmTo s m = false
 | 0, hm => by
  have : n = 0 := by omega
  subst this; exact h
 | m + 1, hm => by
  by_cases e : n = m + 1
  ·subst e; exact h
  ·rw [nmTo, nmTo_bad h m (by omega)]; rfl
/-! needs in a list: each named and asked rightly, ascending -/
def needAt (l : List Prs) (i : Nat) : Bool := match l[i]? with
 | some x => nameV x.1 && (condsV x.2).isSome && (decide (i = 0) || (match l[i - 1]? with | some y => Op.bytesLess y.1 x.1 | none => true))
 | none => true
def needTo (l : List Prs) : Nat → Bool
 | 0 => true
 | n + 1 => needTo l n && needAt l n
theorem needTo_bad {l : List Prs} {n : Nat} (h : needTo l n = false) : ∀ m, n ≤ m → needTo l m = false
 | 0, hm => by
  have : n = 0 := by omega
  subst this; exact h
 | m + 1, hm => by
  by_cases e : n = m + 1
  ·subst e; exact h
  ·rw [needTo, needTo_bad h m (by omega)]; rfl
def needsV (most : Nat) (l : List Prs) : Bool := needTo l l.length && decide (l.length ≤ most)
abbrev Lck := List Prs × List (List Prs) × List Prs
def pickAt (L : Lck) (i : Nat) : Bool := match L.1[i]? with
 | some x => nameV x.1 && (readV x.2).isSome && (decide (i = 0) || (match L.1[i - 1]? with | some y => Op.bytesLess y.1 x.1 | none => true)) && needsV 6 (L.2.1.getD i [])
 | none => true
def pickTo (L : Lck) : Nat → Bool
 | 0 => true
 | n + 1 => pickTo L n && pickAt L n
theorem pickTo_bad {L : Lck} {n : Nat} (h : pickTo L n = false) : ∀ m, n ≤ m → pickTo L m = false
 | 0, hm => by
  have : n = 0 := by omega
  subst this; exact h
 | m + 1, hm => by
  by_cases e : n = m + 1
  ·subst e; exact h
  ·rw [pickTo, pickTo_bad h m (by omega)]; rfl
def lockV (L : Lck) : Bool := decide (L.1.length ≤ 60) && decide (L.2.1.length = L.1.length) && needsV 8 L.2.2 && pickTo L L.1.length
/-! the sum -/
def sumV (s : Bs) : Nat → Nat
 | 0 => 0
 | n + 1 => (sumV s n + (s.getD n 0).toNat * ((n + 1) % 1000003)) % 1000003
theorem sumV_lt (s : Bs) : ∀ n, sumV s n < 1000003
 | 0 => by simp [sumV]
 | n + 1 => by unfold sumV; exact Nat.mod_lt _ (by omega)
theorem sumV_ref (s : Bs) (n : Nat) : sumV s (n + 1) = (sumV s n + (s.getD n 0).toNat * (n + 1)) % 1000003 := by
 show (sumV s n + (s.getD n 0).toNat * ((n + 1) % 1000003)) % 1000003 = _
 generalize (s.getD n 0).toNat = c
 generalize sumV s n = a
 rw [Nat.add_mod, Nat.mul_mod, Nat.mod_mod, ← Nat.mul_mod, ← Nat.add_mod]
/-! a line: a name, and what stands in brackets behind it -/
def nmdV (s : Bs) : Option (Bs × Bs × Bool) :=
 let c := cut s [32, 40]
 if c.1 = [] ∨ c.1.all nmC = false then none
 else if c.2.2 = false then some (c.1, [], false)
 else
  let d := cut c.2.1 [41]
  if d.2.2 = true ∧ d.2.1 = [] ∧ d.1 ≠ [] then some (c.1, d.1, true) else none
structure PS where
 part : Nat
 picks : List Prs
 needs : List (List Prs)
 wish : List Prs
 sum : Bs
def pre4 : Bs := [32, 32, 32, 32]
def pre2 : Bs := [32, 32]
def preSum : Bs := [83, 85, 77, 32]
def entryV (p : PS) (s : Bs) : Option PS :=
 if pre4.isPrefixOf s = true then
  match nmdV (s.drop 4) with
  | some (n, i, _) => if p.part = 3 ∨ p.picks = [] then none
   else some { p with needs := p.needs.set (p.picks.length - 1) (p.needs.getD (p.picks.length - 1) [] ++ [(n, i)]) }
  | none => none
 else if pre2.isPrefixOf s = true then
  match nmdV (s.drop 2) with
  | some (n, i, b) => if p.part = 1 ∧ b = false then none
   else if p.part = 3 then some { p with wish := p.wish ++ [(n, i)] }
   else some { p with picks := p.picks ++ [(n, i)], needs := p.needs ++ [[]] }
  | none => none
 else none
def digV (d : Bs) : Bool := decide (d ≠ []) && d.all isD && (decide (d = [48]) || decide (d.head? ≠ some 48))
def gemsT : Bs := [71, 69, 77, 83]
def wishT : Bs := [87, 73, 83, 72]
def lineV (p : PS) (s : Bs) : Option PS :=
 match p.part with
 | 0 => if s = gemsT then some { p with part := 1 } else none
 | 1 => if s = [] then some { p with part := 2 } else entryV p s
 | 2 => if s = wishT then some { p with part := 3 } else none
 | 3 => if s = [] then some { p with part := 4 } else entryV p s
 | 4 => if preSum.isPrefixOf s = true ∧ digV (s.drop 4) = true then some { p with part := 5, sum := s.drop 4 } else none
 | _ => none
def ps0 : PS := ⟨0, [], [], [], []⟩
def linesV (ls : List Bs) : Nat → Option PS
 | 0 => some ps0
 | n + 1 => match linesV ls n, ls[n]? with
  | some p, some s => lineV p s
  | _, _ => none
theorem cut_cases (s sep : Bs) : (∃ a r, cut s sep = (a, r, true) ∧ s = a ++ (sep ++ r)) ∨ (cut s sep = (s, [], false) ∧ ∀ j, j ≤ s.length → occAt s sep j = false) := by
 rcases index_spec s sep with ⟨h1, h2⟩ | ⟨i, h1, h2, h3, _⟩
 ·right
  refine ⟨?_, h2⟩
  unfold cut; rw [h1]; simp
 ·left
  refine ⟨s.take i, s.drop (i + sep.length), ?_, ?_⟩
  ·unfold cut; rw [h1, if_pos (by omega)]; simp
  ·unfold occAt at h3
   obtain ⟨t, ht⟩ := List.isPrefixOf_iff_prefix.1 h3
   have e : s.drop (i + sep.length) = t := by rw [← List.drop_drop, ← ht]; simp
   rw [e, ht, List.take_append_drop]
theorem cut_at {a r t : Bs} {c : UInt8} (h : c ∉ a) : cut (a ++ (c :: t ++ r)) (c :: t) = (a, r, true) := by
 have hi : index (a ++ (c :: t ++ r)) (c :: t) = (a.length : Int) := by
  refine index_first (by simp) ?_ (fun j hj => ?_)
  ·unfold occAt; rw [List.drop_left]; exact List.isPrefixOf_iff_prefix.2 ⟨r, by simp⟩
  ·rw [Bool.eq_false_iff]; intro q
   have := occAt_head rfl q
   rw [List.getElem?_append_left hj] at this
   exact h (List.mem_of_getElem? this)
 unfold cut; rw [hi, if_pos (by omega)]
 simp
theorem cut_no {s t : Bs} {c : UInt8} (h : c ∉ s) : cut s (c :: t) = (s, [], false) := by
 rcases cut_cases s (c :: t) with ⟨a, r, _, h2⟩ | ⟨h1, _⟩
 ·exact absurd (by rw [h2]; simp) h
 ·exact h1
theorem nm_no {s : Bs} {c : UInt8} (h : s.all nmC = true) (hc : nmC c = false) : c ∉ s := fun q => by
 have := List.all_eq_true.1 h c q
 rw [hc] at this; cases this
def splV (s : Bs) (br : Bool) : Bs × Bs × Bool :=
 let c := cut s [32]
 if c.1 = [] ∨ c.1.all nmC = false then ([], [], false)
 else if c.2.2 = false then (c.1, [], !br)
 else if c.2.1.length < 3 ∨ c.2.1.head? ≠ some 40 ∨ indexByte c.2.1 41 ≠ (c.2.1.length : Int) - 1 then ([], [], false)
 else (c.1, (c.2.1.take (c.2.1.length - 1)).drop 1, true)
theorem ib_last {r : Bs} (h : indexByte r 41 = (r.length : Int) - 1) (h0 : r ≠ []) : ∃ i, r = i ++ [41] ∧ 41 ∉ i := by
 have hl : 0 < r.length := List.length_pos_iff.2 h0
 have h' : indexByte r 41 = ((r.length - 1 : Nat) : Int) := by omega
 obtain ⟨h1, h2⟩ := indexByte_some h'
 refine ⟨r.take (r.length - 1), ?_, fun q => ?_⟩
 ·conv => lhs; rw [← List.take_append_drop (r.length - 1) r]
  congr 1
  rw [List.drop_eq_getElem_cons (by omega)]
  rw [List.getElem?_eq_getElem (by omega)] at h1
  rw [Option.some.inj h1, List.drop_of_length_le (by omega)]
 ·obtain ⟨k, hk⟩ := List.getElem?_of_mem q
  rw [List.getElem?_take] at hk
  split at hk
  ·exact h2 k (by omega) hk
  ·cases hk
theorem ib_app {i : Bs} (h : 41 ∉ i) : indexByte (i ++ [41]) 41 = ((i ++ [41]).length : Int) - 1 := by
 rcases Int.lt_or_le (indexByte (i ++ [41]) 41) 0 with hn | hp
 ·have := index_ge (i ++ [41]) [41]
  rw [index_one] at this
  have e : indexByte (i ++ [41]) 41 = -1 := by omega
  exact absurd (by simp) (indexByte_none e i.length)
 ·obtain ⟨k, hk⟩ : ∃ k : Nat, indexByte (i ++ [41]) 41 = k := ⟨_, (Int.toNat_of_nonneg hp).symm⟩
  obtain ⟨h1, h2⟩ := indexByte_some hk
  have hk1 : ¬ k < i.length := fun q => by
   rw [List.getElem?_append_left q] at h1
   exact h (List.mem_of_getElem? h1)
  have hk2 : k < (i ++ [41]).length := (List.getElem?_eq_some_iff.1 h1).1
  simp at hk2 ⊢
  rw [hk]; omega
theorem spl_eq {s a r : Bs} {t : Bool} (br : Bool) (h : cut s [32] = (a, r, t)) : splV s br = if a = [] ∨ a.all nmC = false then ([], [], false)
 else if t = false then (a, [], !br)
 else if r.length < 3 ∨ r.head? ≠ some 40 ∨ indexByte r 41 ≠ (r.length : Int) - 1 then ([], [], false)
 else (a, (r.take (r.length - 1)).drop 1, true) := by unfold splV; rw [h]
theorem nmd_eq {s a r : Bs} {t : Bool} (h : cut s [32, 40] = (a, r, t)) : nmdV s = if a = [] ∨ a.all nmC = false then none else if t = false then some (a, [], false)
 else if (cut r [41]).2.2 = true ∧ (cut r [41]).2.1 = [] ∧ (cut r [41]).1 ≠ [] then some (a, (cut r [41]).1, true) else none := by unfold nmdV; rw [h]
theorem first41 : ∀ {i : Bs}, 41 ∈ i → ∃ u v, i = u ++ 41 :: v ∧ 41 ∉ u
 | [], h => by cases h
 | b :: l, h => by
  by_cases hb : b = 41
  ·exact ⟨[], l, by simp [hb], by simp⟩
  ·rcases List.mem_cons.1 h with h | h
   ·exact absurd h.symm hb
   ·obtain ⟨u, v, h1, h2⟩ := first41 h
    exact ⟨b :: u, v, by rw [h1]; rfl, by simp [h2]; exact fun q => hb q.symm⟩
theorem nmd_bad {s a r : Bs} (h1 : cut s [32] = (a, r, true)) (hr : r.head? ≠ some 40) : nmdV s = none := by
 have h32 : nmC 32 = false := by decide
 have h2 : s = a ++ ([32] ++ r) := by
  rcases cut_cases s [32] with ⟨a', r', g1, g2⟩ | ⟨g1, _⟩
  ·rw [h1] at g1; simp at g1; rw [g1.1, g1.2]; exact g2
  ·rw [h1] at g1; simp at g1
 rcases cut_cases s [32, 40] with ⟨a', r', h1', h2'⟩ | ⟨h1', _⟩
 ·rw [nmd_eq h1', if_pos]
  right
  rw [Bool.eq_false_iff]; intro q
  have e : cut s [32] = (a', 40 :: r', true) := by rw [h2']; exact cut_at (t := []) (nm_no q h32)
  rw [h1] at e; simp at e
  rw [e.2] at hr
  exact hr rfl
 ·rw [nmd_eq h1', if_pos]
  right
  rw [Bool.eq_false_iff]; intro q
  exact nm_no q h32 (by rw [h2]; simp)
theorem nmd_name {s a r : Bs} (h1 : cut s [32] = (a, r, true)) (ha : a = [] ∨ a.all nmC = false) : nmdV s = none := by
 have h32 : nmC 32 = false := by decide
 have h2 : s = a ++ ([32] ++ r) := by
  rcases cut_cases s [32] with ⟨a', r', g1, g2⟩ | ⟨g1, _⟩
  ·rw [h1] at g1; simp at g1; rw [g1.1, g1.2]; exact g2
  ·rw [h1] at g1; simp at g1
 rcases cut_cases s [32, 40] with ⟨a', r', h1', h2'⟩ | ⟨h1', _⟩
 ·rw [nmd_eq h1', if_pos]
  cases hh : a'.all nmC with
  | false => exact .inr rfl
  | true =>
   have e : cut s [32] = (a', 40 :: r', true) := by rw [h2']; exact cut_at (t := []) (nm_no hh h32)
   rw [h1] at e
   simp only [Prod.mk.injEq] at e
   rw [← e.1, ← hh, ← e.1]
   rcases ha with h | h
   ·exact .inl h
   ·rw [← e.1] at hh; rw [h] at hh; cases hh
 ·rw [nmd_eq h1', if_pos]
  right
  rw [Bool.eq_false_iff]; intro q
  exact nm_no q h32 (by rw [h2]; simp)
theorem inner_eq (r : Bs) : (((cut r [41]).2.2 = true ∧ (cut r [41]).2.1 = [] ∧ (cut r [41]).1 ≠ []) ↔ ¬ ((40 :: r : Bs).length < 3 ∨ (40 :: r : Bs).head? ≠ some 40 ∨ indexByte (40 :: r) 41 ≠ ((40 :: r : Bs).length : Int) - 1)) ∧
  ((cut r [41]).2.2 = true ∧ (cut r [41]).2.1 = [] → (((40 :: r : Bs).take ((40 :: r : Bs).length - 1)).drop 1) = (cut r [41]).1) := by
 have back : indexByte (40 :: r) 41 = ((40 :: r : Bs).length : Int) - 1 → ∃ i, r = i ++ [41] ∧ cut r [41] = (i, [], true) := fun c3 => by
  obtain ⟨i', e1, e2⟩ := ib_last c3 (by simp)
  cases i' with
  | nil => simp at e1
  | cons y i' =>
   simp at e1
   have := cut_at (a := i') (c := 41) (t := []) (r := []) (by simp at e2; exact e2.2)
   exact ⟨i', e1.2, by rw [e1.2]; simpa using this⟩
 rcases cut_cases r [41] with ⟨i, q, g1, g2⟩ | ⟨g1, g2⟩
 ·rw [g1]
  simp only [true_and]
  refine ⟨⟨fun ⟨hq, hi⟩ => ?_, fun hc => ?_⟩, fun hq => ?_⟩
  ·subst hq
   have hi2 : 41 ∉ i := fun m => by
    obtain ⟨u, v, hv, hn⟩ := first41 m
    have : cut r [41] = (u, v ++ [41], true) := by
     rw [g2, hv]
     have := cut_at (a := u) (c := 41) (t := []) (r := v ++ [41]) hn
     simpa using this
    rw [g1] at this
    simp at this
   have hib := ib_app (i := 40 :: i) (by simp [hi2])
   have er : (40 :: r : Bs) = (40 :: i) ++ [41] := by rw [g2]; simp
   have hlen : 1 ≤ i.length := List.length_pos_iff.2 hi
   rw [er]
   rintro (q | q | q)
   ·simp at q; omega
   ·simp at q
   ·exact q hib
  ·have c1 : ¬ (40 :: r : Bs).length < 3 := fun h => hc (.inl h)
   have c3 : indexByte (40 :: r) 41 = ((40 :: r : Bs).length : Int) - 1 := Decidable.byContradiction fun h => hc (.inr (.inr h))
   obtain ⟨i', e1, e2⟩ := back c3
   rw [g1] at e2
   simp only [Prod.mk.injEq] at e2
   refine ⟨e2.2.1, fun hi => ?_⟩
   rw [← e2.1, hi] at e1
   rw [e1] at c1
   simp at c1
  ·subst hq; rw [g2]; simp
 ·rw [g1]
  simp only [Bool.false_eq_true, false_and, false_iff, Decidable.not_not, and_true, false_implies]
  refine .inr (.inr fun c3 => ?_)
  obtain ⟨i', e1, e2⟩ := back c3
  rw [g1] at e2
  simp at e2
theorem spl_nmd (s : Bs) (br : Bool) : (match nmdV s with | some (n, i, b) => if br = true ∧ b = false then (splV s br).2.2 = false else splV s br = (n, i, true) | none => (splV s br).2.2 = false) := by
 have h32 : nmC 32 = false := by decide
 rcases cut_cases s [32] with ⟨a, r, h1, h2⟩ | ⟨h1, h2⟩
 ·by_cases ha : a = [] ∨ a.all nmC = false
  ·rw [nmd_name h1 ha, spl_eq br h1, if_pos ha]
  ·by_cases hr : r.head? = some 40
   ·obtain ⟨r, rfl⟩ : ∃ r', r = 40 :: r' := by
     cases r with
     | nil => simp at hr
     | cons x r => simp at hr; exact ⟨r, by rw [hr]⟩
    have ha2 : a.all nmC = true := by cases h : a.all nmC <;> simp [h] at ha ⊢
    have e : cut s [32, 40] = (a, r, true) := by rw [h2]; exact cut_at (t := [40]) (nm_no ha2 h32)
    obtain ⟨i1, i2⟩ := inner_eq r
    have hN := nmd_eq e
    have hS := spl_eq br h1
    rw [if_neg ha, if_neg (by simp)] at hN hS
    by_cases hc : (cut r [41]).2.2 = true ∧ (cut r [41]).2.1 = [] ∧ (cut r [41]).1 ≠ []
    ·rw [if_pos hc] at hN
     rw [if_neg (i1.1 hc), i2 ⟨hc.1, hc.2.1⟩] at hS
     rw [hN, hS]
     simp
    ·rw [if_neg hc] at hN
     rw [if_pos (Decidable.byContradiction fun q => hc (i1.2 q))] at hS
     rw [hN, hS]
   ·rw [nmd_bad h1 hr, spl_eq br h1, if_neg ha, if_neg (by simp), if_pos (.inr (.inl hr))]
 ·have hno : 32 ∉ s := fun q => by
   obtain ⟨k, hk⟩ := List.getElem?_of_mem q
   have hlt : k < s.length := (List.getElem?_eq_some_iff.1 hk).1
   have := h2 k (by omega)
   unfold occAt at this
   rw [List.drop_eq_getElem_cons hlt] at this
   rw [List.getElem?_eq_getElem hlt] at hk
   rw [Option.some.inj hk] at this
   simp at this
  have hN := nmd_eq (cut_no (t := [40]) hno)
  have hS := spl_eq br h1
  by_cases ha : s = [] ∨ s.all nmC = false
  ·rw [if_pos ha] at hN hS
   rw [hN, hS]
  ·rw [if_neg ha, if_pos rfl] at hN hS
   rw [hN, hS]
   cases br <;> simp
end Go.Lk
namespace Go.Proofs.YtchnagdaljblnaaGreatDoor
open Go.Eng Go.Wh Go.Ver Go.Lk
set_option maxRecDepth 20000
attribute [local irreducible] AG CallA CallT AWp PCall ACall AgC
@[go_sem] abbrev cB (b : UInt8) : List D := [.v (.int .u8 b.toNat)]
@[go_sem] abbrev cP (x : Prs) : List D := [dS x.1, dS x.2]
@[go_sem] abbrev dP (x : Prs) : D := .agg [dS x.1, dS x.2]
@[go_sem] abbrev dPs (l : List Prs) : D := .sl 2 (l.map cP)
@[go_sem] abbrev dNs (l : List (List Prs)) : D := .sl 1 (l.map fun n => [dPs n])
@[go_sem] abbrev dLk (L : Lck) : D := .agg [dPs L.1, dNs L.2.1, dPs L.2.2]
theorem ba_drop (s : List UInt8) (n : Nat) : ({ data := s.toArray } : ByteArray).extract n s.length = { data := (s.drop n).toArray } := by
 apply ByteArray.ext
 simp
 rw [List.take_of_length_le (by simp)]
theorem hasPre1 (s p : List UInt8) (hs : s.length ≤ 9223372036854775807) (hp : p.length ≤ 9223372036854775807) : PCall Tryz.prog 157 [dS s, dS p] fun r => r = dB (p.isPrefixOf s) := by 
 refine pcall_of Tryz.func157 rfl rfl Tryz.ntmps157 (rs := [.tmp 4]) (tys := [4]) rfl rfl (by simp) ?_
 have h1 : p.length ≤ s.length → (s.take p.length = p ↔ p.isPrefixOf s = true) := fun h => by
  rw [List.isPrefixOf_iff_prefix, List.prefix_iff_eq_take]; exact eq_comm
 have h2 : ¬ p.length ≤ s.length → p.isPrefixOf s = false := fun h => by
  rw [Bool.eq_false_iff]; intro q
  exact h (List.isPrefixOf_iff_prefix.1 q).length_le
 generalize p.isPrefixOf s = b at *
 (refine awp_sr fun Y hY => ?_; simp [go_sem]; ((repeat' (first|(refine ag_x ?_;simp [go_sem])|intro _|apply And.intro|(apply hY;clear hY Y)));all_goals first|apply Hold.mk|omega|with_reducible assumption|skip))
 by_cases h : p.length ≤ s.length
 ·have h' : (p.length : Int) ≤ s.length := by omega
  have h1 := h1 h
  (refine awp_sr fun Y hY => ?_; simp [go_sem, h']; ((repeat' (first|(refine ag_x ?_;simp [go_sem, h'])|intro _|apply And.intro|(apply hY;clear hY Y)));all_goals first|apply Hold.mk|omega|with_reducible assumption|skip))
  (refine awp_ret ?_; simp [go_sem])
  rw [Bool.eq_iff_iff, ← h1]
  simp
 ·have h' : ¬ (p.length : Int) ≤ s.length := by omega
  (refine awp_sr fun Y hY => ?_; simp [go_sem, h']; ((repeat' (first|(refine ag_false (by simp [go_sem, undef, h']) (by simp [go_sem]) ?_;simp [go_sem, h'])|intro _|apply And.intro|(apply hY;clear hY Y)));all_goals first|apply Hold.mk|omega|with_reducible assumption|skip))
  (refine awp_ret ?_; simp [go_sem, h2 h])
theorem hasPre_spec (s p : List UInt8) (hs : s.length ≤ 9223372036854775807) (hp : p.length ≤ 9223372036854775807) : PCall Tryz.prog 110 [dS s, dS p] fun r => r = dB (p.isPrefixOf s) := by
 refine pcall_of Tryz.func110 rfl rfl Tryz.ntmps110 (rs := [.tmp 4]) (tys := [4]) rfl rfl (by simp) ?_
 (refine awp_sr fun Y hY => ?_; simp [go_sem]; ((repeat' (first|(refine ag_x ?_;simp [go_sem])|intro _|apply And.intro|(apply hY;clear hY Y)));all_goals first|apply Hold.mk|omega|with_reducible assumption|skip))
 (refine awp_sr fun Y hY => ?_; simp [go_sem]; ((repeat' (first|(refine ag_x ?_;simp [go_sem])|intro _|apply And.intro|(apply hY;clear hY Y)));all_goals first|apply Hold.mk|omega|with_reducible assumption|skip))
 ((try refine CallT.toA ?_); refine callT_m (.inl ⟨rfl,rfl⟩) (by simp [go_sem]) ?_; intro args ha; simp [go_sem] at ha; subst ha; refine ⟨_, (hasPre1 s p hs hp), ?_⟩; rintro _ rfl; simp [go_sem]; ((repeat' (first|(refine ag_x ?_;simp [go_sem])|intro _|apply And.intro|(apply hY;clear hY Y)));all_goals first|apply Hold.mk|omega|with_reducible assumption|skip))
 (refine awp_ret ?_; simp [go_sem])
theorem cutPre1 (s p : List UInt8) (hs : s.length ≤ 9223372036854775807) (hp : p.length ≤ 9223372036854775807) : PCall Tryz.prog 153 [dS s, dS p] fun r => r = .tup [dS (if p.isPrefixOf s = true then s.drop p.length else s), dB (p.isPrefixOf s)] := by 
 refine pcall_of Tryz.func153 rfl rfl Tryz.ntmps153 (rs := [.tmp 4, .tmp 5]) (tys := [9, 4]) rfl rfl (by simp) ?_
 have H := hasPre1 s p hs hp
 have hle : p.isPrefixOf s = true → p.length ≤ s.length := fun q => (List.isPrefixOf_iff_prefix.1 q).length_le
 generalize p.isPrefixOf s = b at *
 (refine awp_sr fun Y hY => ?_; simp [go_sem]; ((repeat' (first|(refine ag_x ?_;simp [go_sem])|intro _|apply And.intro|(apply hY;clear hY Y)));all_goals first|apply Hold.mk|omega|with_reducible assumption|skip))
 refine awp_seq_k fun K1 hK1 => ?_
 (refine awp_sr fun Y hY => ?_; simp [go_sem]; ((repeat' (first|(refine ag_x ?_;simp [go_sem])|intro _|apply And.intro|(apply hY;clear hY Y)));all_goals first|apply Hold.mk|omega|with_reducible assumption|skip))
 ((try refine CallT.toA ?_); refine callT_m (.inl ⟨rfl,rfl⟩) (by simp [go_sem]) ?_; intro args ha; simp [go_sem] at ha; subst ha; refine ⟨_, H, ?_⟩; rintro _ rfl; simp [go_sem]; ((repeat' (first|(refine ag_x ?_;simp [go_sem])|intro _|apply And.intro|(apply hY;clear hY Y)));all_goals first|apply Hold.mk|omega|with_reducible assumption|skip))
 (refine awp_if fun T F hT hF => ?_; simp [go_sem]; refine BR.intro (fun h2 => hT ?_) (fun h2 => hF ?_); all_goals clear hT hF T F; try simp at h2)
 ·(refine awp_sr fun Y hY => ?_; simp [go_sem]; ((repeat' (first|(refine ag_x ?_;simp [go_sem])|intro _|apply And.intro|(apply hY;clear hY Y)));all_goals first|apply Hold.mk|omega|with_reducible assumption|skip))
  (refine awp_ret ?_; simp [go_sem, h2])
 ·have := hle h2
  refine awp_skip ?_
  refine hK1 _ ?_; clear hK1
  (refine awp_sr fun Y hY => ?_; simp [go_sem]; ((repeat' (first|(refine ag_x ?_;simp [go_sem])|intro _|apply And.intro|(apply hY;clear hY Y)));all_goals first|apply Hold.mk|omega|with_reducible assumption|skip))
  (refine awp_ret ?_; simp [go_sem, h2, ba_drop])
theorem cutPre_spec (s p : List UInt8) (hs : s.length ≤ 9223372036854775807) (hp : p.length ≤ 9223372036854775807) : PCall Tryz.prog 104 [dS s, dS p] fun r => r = .tup [dS (if p.isPrefixOf s = true then s.drop p.length else s), dB (p.isPrefixOf s)] := by
 refine pcall_of Tryz.func104 rfl rfl Tryz.ntmps104 (rs := [.tmp 4, .tmp 5]) (tys := [9, 4]) rfl rfl (by simp) ?_
 (refine awp_sr fun Y hY => ?_; simp [go_sem]; ((repeat' (first|(refine ag_x ?_;simp [go_sem])|intro _|apply And.intro|(apply hY;clear hY Y)));all_goals first|apply Hold.mk|omega|with_reducible assumption|skip))
 (refine awp_sr fun Y hY => ?_; simp [go_sem]; ((repeat' (first|(refine ag_x ?_;simp [go_sem])|intro _|apply And.intro|(apply hY;clear hY Y)));all_goals first|apply Hold.mk|omega|with_reducible assumption|skip))
 ((try refine CallT.toA ?_); refine callT_m (.inl ⟨rfl,rfl⟩) (by simp [go_sem]) ?_; intro args ha; simp [go_sem] at ha; subst ha; refine ⟨_, (cutPre1 s p hs hp), ?_⟩; rintro _ rfl; simp [go_sem]; ((repeat' (first|(refine ag_x ?_;simp [go_sem])|intro _|apply And.intro|(apply hY;clear hY Y)));all_goals first|apply Hold.mk|omega|with_reducible assumption|skip))
 (refine awp_ret ?_; simp [go_sem])
theorem trimPre1 (s p : List UInt8) (hs : s.length ≤ 9223372036854775807) (hp : p.length ≤ 9223372036854775807) : PCall Tryz.prog 159 [dS s, dS p] fun r => r = dS (if p.isPrefixOf s = true then s.drop p.length else s) := by 
 refine pcall_of Tryz.func159 rfl rfl Tryz.ntmps159 (rs := [.tmp 4]) (tys := [9]) rfl rfl (by simp) ?_
 have H := hasPre1 s p hs hp
 have hle : p.isPrefixOf s = true → p.length ≤ s.length := fun q => (List.isPrefixOf_iff_prefix.1 q).length_le
 generalize p.isPrefixOf s = b at *
 (refine awp_sr fun Y hY => ?_; simp [go_sem]; ((repeat' (first|(refine ag_x ?_;simp [go_sem])|intro _|apply And.intro|(apply hY;clear hY Y)));all_goals first|apply Hold.mk|omega|with_reducible assumption|skip))
 refine awp_seq_k fun K1 hK1 => ?_
 (refine awp_sr fun Y hY => ?_; simp [go_sem]; ((repeat' (first|(refine ag_x ?_;simp [go_sem])|intro _|apply And.intro|(apply hY;clear hY Y)));all_goals first|apply Hold.mk|omega|with_reducible assumption|skip))
 ((try refine CallT.toA ?_); refine callT_m (.inl ⟨rfl,rfl⟩) (by simp [go_sem]) ?_; intro args ha; simp [go_sem] at ha; subst ha; refine ⟨_, H, ?_⟩; rintro _ rfl; simp [go_sem]; ((repeat' (first|(refine ag_x ?_;simp [go_sem])|intro _|apply And.intro|(apply hY;clear hY Y)));all_goals first|apply Hold.mk|omega|with_reducible assumption|skip))
 (refine awp_if fun T F hT hF => ?_; simp [go_sem]; refine BR.intro (fun h2 => hT ?_) (fun h2 => hF ?_); all_goals clear hT hF T F; try simp at h2)
 ·have := hle h2
  (refine awp_sr fun Y hY => ?_; simp [go_sem]; ((repeat' (first|(refine ag_x ?_;simp [go_sem])|intro _|apply And.intro|(apply hY;clear hY Y)));all_goals first|apply Hold.mk|omega|with_reducible assumption|skip))
  (refine awp_ret ?_; simp [go_sem, h2, ba_drop])
 ·refine awp_skip ?_
  refine hK1 _ ?_; clear hK1
  (refine awp_sr fun Y hY => ?_; simp [go_sem]; ((repeat' (first|(refine ag_x ?_;simp [go_sem])|intro _|apply And.intro|(apply hY;clear hY Y)));all_goals first|apply Hold.mk|omega|with_reducible assumption|skip))
  (refine awp_ret ?_; simp [go_sem, h2])
theorem trimPre_spec (s p : List UInt8) (hs : s.length ≤ 9223372036854775807) (hp : p.length ≤ 9223372036854775807) : PCall Tryz.prog 112 [dS s, dS p] fun r => r = dS (if p.isPrefixOf s = true then s.drop p.length else s) := by
 refine pcall_of Tryz.func112 rfl rfl Tryz.ntmps112 (rs := [.tmp 4]) (tys := [9]) rfl rfl (by simp) ?_
 (refine awp_sr fun Y hY => ?_; simp [go_sem]; ((repeat' (first|(refine ag_x ?_;simp [go_sem])|intro _|apply And.intro|(apply hY;clear hY Y)));all_goals first|apply Hold.mk|omega|with_reducible assumption|skip))
 (refine awp_sr fun Y hY => ?_; simp [go_sem]; ((repeat' (first|(refine ag_x ?_;simp [go_sem])|intro _|apply And.intro|(apply hY;clear hY Y)));all_goals first|apply Hold.mk|omega|with_reducible assumption|skip))
 ((try refine CallT.toA ?_); refine callT_m (.inl ⟨rfl,rfl⟩) (by simp [go_sem]) ?_; intro args ha; simp [go_sem] at ha; subst ha; refine ⟨_, (trimPre1 s p hs hp), ?_⟩; rintro _ rfl; simp [go_sem]; ((repeat' (first|(refine ag_x ?_;simp [go_sem])|intro _|apply And.intro|(apply hY;clear hY Y)));all_goals first|apply Hold.mk|omega|with_reducible assumption|skip))
 (refine awp_ret ?_; simp [go_sem])
theorem isName_spec (s : List UInt8) (hl : s.length ≤ 1000000000) : PCall Tryz.prog 80 [dS s] fun r => r = dB (nameV s) := by 
 refine pcall_of Tryz.func80 rfl rfl Tryz.ntmps80 (rs := [.tmp 2]) (tys := [4]) rfl rfl (by simp) ?_
 have hst := fun n c => @nmTo_step s n c
 have hbad := fun n (h : nmTo s n = false) (hn : n ≤ s.length) => nmTo_bad h s.length hn
 have hz : nmTo s 0 = true := rfl
 rw [nameV_nm]
 (refine awp_sr fun Y hY => ?_; simp [go_sem]; ((repeat' (first|(refine ag_x ?_;simp [go_sem])|intro _|apply And.intro|(apply hY;clear hY Y)));all_goals first|apply Hold.mk|omega|with_reducible assumption|skip))
 refine awp_seq_k fun K1 hK1 => ?_
 (refine awp_sr fun Y hY => ?_; simp [go_sem]; ((repeat' (first|(refine ag_x ?_;simp [go_sem])|intro _|apply And.intro|(apply hY;clear hY Y)));all_goals first|apply Hold.mk|omega|with_reducible assumption|skip))
 refine awp_block ?_
 refine awp_loop (σ := Nat) (fun i => ⟨[(0, dS s), (7, .sl 1 (s.map cB)), (8, dI s.length), (9, dI i)], []⟩) (fun i => i ≤ s.length ∧ nmTo s i = true) (fun i => s.length - i) 0 ?_ ?_ ?_
 ·(refine cov_of ?_ ?_ <;> simp [go_sem])
 ·exact ⟨by omega, hz⟩
 rintro i ⟨hi, hn⟩
 (refine awp_sr fun Y hY => ?_; simp [go_sem]; ((repeat' (first|(refine ag_x ?_;simp [go_sem])|intro _|apply And.intro|(apply hY;clear hY Y)));all_goals first|apply Hold.mk|omega|with_reducible assumption|skip))
 refine awp_seq_k fun K2 hK2 => ?_
 (refine awp_if fun T F hT hF => ?_; simp [go_sem]; refine BR.intro (fun h3 => hT ?_) (fun h3 => hF ?_); all_goals clear hT hF T F; try simp at h3)
 ·refine awp_skip ?_
  refine hK2 _ ?_; clear hK2
  obtain ⟨c, hx⟩ : ∃ c, s[i]? = some c := ⟨_, List.getElem?_eq_getElem (by omega)⟩
  have hst1 := hst i c hx
  rw [hn] at hst1
  refine awp_seq_k fun K4 hK4 => ?_
  refine awp_block ?_
  (refine awp_sr fun Y hY => ?_; simp [go_sem, hx]; ((repeat' (first|(refine ag_x ?_;simp [go_sem, hx])|intro _|apply And.intro|(apply hY;clear hY Y)));all_goals first|apply Hold.mk|omega|with_reducible assumption|skip))
  (refine awp_sr fun Y hY => ?_; simp [go_sem]; ((repeat' (first|(refine ag_x ?_;simp [go_sem])|intro _|apply And.intro|(apply hY;clear hY Y)));all_goals first|apply Hold.mk|omega|with_reducible assumption|skip))
  (refine awp_sr fun Y hY => ?_; simp [go_sem]; ((repeat' (first|(refine ag_x ?_;simp [go_sem])|intro _|apply And.intro|(apply hY;clear hY Y)));all_goals first|apply Hold.mk|omega|with_reducible assumption|skip))
  (refine awp_if fun T F hT hF => ?_; simp [go_sem]; refine BR.intro (fun h5 => hT ?_) (fun h5 => hF ?_); all_goals clear hT hF T F; try simp at h5)
  ·have hna : nmAt i c = false := by
    simp [nmAt, nmC, isL, isD]
    omega
   rw [hna] at hst1
   (refine awp_sr fun Y hY => ?_; simp [go_sem]; ((repeat' (first|(refine ag_x ?_;simp [go_sem])|intro _|apply And.intro|(apply hY;clear hY Y)));all_goals first|apply Hold.mk|omega|with_reducible assumption|skip))
   (refine awp_ret ?_; simp [go_sem, hbad (i + 1) hst1 (by omega)])
  ·have hna : nmAt i c = true := by
    simp [nmAt, nmC, isL, isD]
    omega
   rw [hna] at hst1
   refine awp_skip ?_
   refine hK4 _ ?_; clear hK4
   (refine awp_r fun Y hY => ?_; simp [go_sem]; ((repeat' (first|(refine ag_x ?_;simp [go_sem])|intro _|apply And.intro|(apply hY;clear hY Y)));all_goals first|apply Hold.mk|omega|with_reducible assumption|skip))
   refine ⟨i + 1, ?_, ⟨by omega, hst1⟩, by omega⟩
   (refine cov_of ?_ ?_ <;> simp [go_sem])
 ·refine awp_exit ?_
  simp only [go_sem]
  refine hK1 _ ?_; clear hK1
  have : i = s.length := by omega
  subst this
  rw [hn]
  by_cases h : s = []
  ·(refine awp_sr fun Y hY => ?_; simp [go_sem, h]; ((repeat' (first|(refine ag_false (by simp [go_sem, undef, h]) (by simp [go_sem]) ?_;simp [go_sem, h])|intro _|apply And.intro|(apply hY;clear hY Y)));all_goals first|apply Hold.mk|omega|with_reducible assumption|skip))
   (refine awp_ret ?_; simp [go_sem, h])
  ·(refine awp_sr fun Y hY => ?_; simp [go_sem, h]; ((repeat' (first|(refine ag_x ?_;simp [go_sem, h])|intro _|apply And.intro|(apply hY;clear hY Y)));all_goals first|apply Hold.mk|omega|with_reducible assumption|skip))
   (refine awp_ret ?_; simp [go_sem])
   rw [Bool.eq_iff_iff]
   simp [h]
   omega
theorem sum_spec (s : List UInt8) (hl : s.length ≤ 1000000000) : PCall Tryz.prog 35 [dS s] fun r => r = dI (sumV s s.length) := by 
 refine pcall_of Tryz.func35 rfl rfl Tryz.ntmps35 (rs := [.tmp 2]) (tys := [3]) rfl rfl (by simp) ?_
 have hlt := sumV_lt s
 have hst : ∀ (n : Nat) (c : UInt8), s[n]? = some c → ((sumV s (n + 1) : Nat) : Int) = ((sumV s n : Int) + (c.toNat : Int) * (((n : Int) + 1).tmod 1000003)).tmod 1000003 := fun n c h => by
  show (((sumV s n + (s.getD n 0).toNat * ((n + 1) % 1000003)) % 1000003 : Nat) : Int) = _
  have e : s.getD n 0 = c := by simp [List.getD, h]
  have h1 : ((n : Int) + 1).tmod 1000003 = ((n : Int) + 1) % 1000003 := Int.tmod_eq_emod_of_nonneg (by omega)
  rw [e, h1, Int.tmod_eq_emod_of_nonneg (by
   have : 0 ≤ ((n : Int) + 1) % 1000003 := Int.emod_nonneg _ (by omega)
   have := Int.mul_nonneg (Int.natCast_nonneg c.toNat) this
   omega)]
  have e2 : ((c.toNat * ((n + 1) % 1000003) : Nat) : Int) = (c.toNat : Int) * (((n : Int) + 1) % 1000003) := by
   rw [Int.natCast_mul]
   have : (((n + 1) % 1000003 : Nat) : Int) = ((n : Int) + 1) % 1000003 := by omega
   rw [this]
  rw [← e2]
  omega
 have z : sumV s 0 = 0 := rfl
 generalize sumV s = sm at *
 (refine awp_sr fun Y hY => ?_; simp [go_sem]; ((repeat' (first|(refine ag_x ?_;simp [go_sem])|intro _|apply And.intro|(apply hY;clear hY Y)));all_goals first|apply Hold.mk|omega|with_reducible assumption|skip))
 (refine awp_sr fun Y hY => ?_; simp [go_sem]; ((repeat' (first|(refine ag_x ?_;simp [go_sem])|intro _|apply And.intro|(apply hY;clear hY Y)));all_goals first|apply Hold.mk|omega|with_reducible assumption|skip))
 refine awp_seq_k fun K1 hK1 => ?_
 (refine awp_sr fun Y hY => ?_; simp [go_sem]; ((repeat' (first|(refine ag_x ?_;simp [go_sem])|intro _|apply And.intro|(apply hY;clear hY Y)));all_goals first|apply Hold.mk|omega|with_reducible assumption|skip))
 refine awp_block ?_
 refine awp_loop (σ := Nat) (fun i => ⟨[(3, dI (sm i)), (7, .sl 1 (s.map cB)), (8, dI s.length), (9, dI i)], []⟩) (fun i => i ≤ s.length) (fun i => s.length - i) 0 ?_ ?_ ?_
 ·(refine cov_of ?_ ?_ <;> simp [go_sem, z])
 ·omega
 intro i hi
 (refine awp_sr fun Y hY => ?_; simp [go_sem]; ((repeat' (first|(refine ag_x ?_;simp [go_sem])|intro _|apply And.intro|(apply hY;clear hY Y)));all_goals first|apply Hold.mk|omega|with_reducible assumption|skip))
 refine awp_seq_k fun K2 hK2 => ?_
 (refine awp_if fun T F hT hF => ?_; simp [go_sem]; refine BR.intro (fun h3 => hT ?_) (fun h3 => hF ?_); all_goals clear hT hF T F; try simp at h3)
 ·refine awp_skip ?_
  refine hK2 _ ?_; clear hK2
  obtain ⟨c, hx⟩ : ∃ c, s[i]? = some c := ⟨_, List.getElem?_eq_getElem (by omega)⟩
  have hst1 := hst i c hx
  have hlt1 := hlt i
  have hc : c.toNat < 256 := c.toNat_lt
  have hm1 : 0 ≤ ((i : Int) + 1).tmod 1000003 ∧ ((i : Int) + 1).tmod 1000003 < 1000003 := by
   rw [Int.tmod_eq_emod_of_nonneg (by omega)]
   exact ⟨Int.emod_nonneg _ (by omega), Int.emod_lt_of_pos _ (by omega)⟩
  have hm2 : (c.toNat : Int) * (((i : Int) + 1).tmod 1000003) ≤ 255 * 1000003 := Int.mul_le_mul (by omega) (by omega) (by omega) (by omega)
  have hm3 : 0 ≤ (c.toNat : Int) * (((i : Int) + 1).tmod 1000003) := Int.mul_nonneg (by omega) (by omega)
  generalize sm i = n at *
  refine awp_seq_k fun K4 hK4 => ?_
  refine awp_block ?_
  (refine awp_sr fun Y hY => ?_; simp [go_sem, hx]; ((repeat' (first|(refine ag_x ?_;simp [go_sem, hx])|intro _|apply And.intro|(apply hY;clear hY Y)));all_goals first|apply Hold.mk|omega|with_reducible assumption|skip))
  (refine awp_r fun Y hY => ?_; simp [go_sem]; ((repeat' (first|(refine ag_x ?_;simp [go_sem])|intro _|apply And.intro|(apply hY;clear hY Y)));all_goals first|apply Hold.mk|omega|with_reducible assumption|skip))
  refine hK4 _ ?_; clear hK4
  (refine awp_r fun Y hY => ?_; simp [go_sem]; ((repeat' (first|(refine ag_x ?_;simp [go_sem])|intro _|apply And.intro|(apply hY;clear hY Y)));all_goals first|apply Hold.mk|omega|with_reducible assumption|skip))
  refine ⟨i + 1, ?_, by omega, by omega⟩
  rw [hst1]
  (refine cov_of ?_ ?_ <;> simp [go_sem])
 ·refine awp_exit ?_
  simp only [go_sem]
  refine hK1 _ ?_; clear hK1
  have : i = s.length := by omega
  subst this
  (refine awp_sr fun Y hY => ?_; simp [go_sem]; ((repeat' (first|(refine ag_x ?_;simp [go_sem])|intro _|apply And.intro|(apply hY;clear hY Y)));all_goals first|apply Hold.mk|omega|with_reducible assumption|skip))
  (refine awp_ret ?_; simp [go_sem])
theorem rsum_spec (s : List UInt8) (hl : s.length ≤ 1000000000) : PCall Tryz.prog 14 [dS s] fun r => r = dI (sumV s s.length) := by 
 refine pcall_of Tryz.func14 rfl rfl Tryz.ntmps14 (rs := [.tmp 2]) (tys := [3]) rfl rfl (by simp) ?_
 have hlt := sumV_lt s
 have hst : ∀ (n : Nat) (c : UInt8), s[n]? = some c → ((sumV s (n + 1) : Nat) : Int) = ((sumV s n : Int) + (c.toNat : Int) * ((n : Int) + 1)).tmod 1000003 := fun n c h => by
  rw [sumV_ref]
  have e : s.getD n 0 = c := by simp [List.getD, h]
  rw [e, Int.tmod_eq_emod_of_nonneg (by
   have := Int.mul_nonneg (Int.natCast_nonneg c.toNat) (show (0 : Int) ≤ (n : Int) + 1 by omega)
   omega)]
  have e2 : ((c.toNat * (n + 1) : Nat) : Int) = (c.toNat : Int) * ((n : Int) + 1) := by
   rw [Int.natCast_mul]; rfl
  rw [← e2]
  omega
 have z : sumV s 0 = 0 := rfl
 generalize sumV s = sm at *
 (refine awp_sr fun Y hY => ?_; simp [go_sem]; ((repeat' (first|(refine ag_x ?_;simp [go_sem])|intro _|apply And.intro|(apply hY;clear hY Y)));all_goals first|apply Hold.mk|omega|with_reducible assumption|skip))
 (refine awp_sr fun Y hY => ?_; simp [go_sem]; ((repeat' (first|(refine ag_x ?_;simp [go_sem])|intro _|apply And.intro|(apply hY;clear hY Y)));all_goals first|apply Hold.mk|omega|with_reducible assumption|skip))
 refine awp_seq_k fun K1 hK1 => ?_
 (refine awp_sr fun Y hY => ?_; simp [go_sem]; ((repeat' (first|(refine ag_x ?_;simp [go_sem])|intro _|apply And.intro|(apply hY;clear hY Y)));all_goals first|apply Hold.mk|omega|with_reducible assumption|skip))
 refine awp_block ?_
 refine awp_loop (σ := Nat) (fun i => ⟨[(0, dS s), (3, dI (sm i)), (4, dI i)], []⟩) (fun i => i ≤ s.length) (fun i => s.length - i) 0 ?_ ?_ ?_
 ·(refine cov_of ?_ ?_ <;> simp [go_sem, z])
 ·omega
 intro i hi
 refine awp_seq_k fun K2 hK2 => ?_
 (refine awp_sr fun Y hY => ?_; simp [go_sem]; ((repeat' (first|(refine ag_x ?_;simp [go_sem])|intro _|apply And.intro|(apply hY;clear hY Y)));all_goals first|apply Hold.mk|omega|with_reducible assumption|skip))
 (refine awp_if fun T F hT hF => ?_; simp [go_sem]; refine BR.intro (fun h3 => hT ?_) (fun h3 => hF ?_); all_goals clear hT hF T F; try simp at h3)
 ·refine awp_skip ?_
  refine hK2 _ ?_; clear hK2
  obtain ⟨c, hx⟩ : ∃ c, s[i]? = some c := ⟨_, List.getElem?_eq_getElem (by omega)⟩
  have hst1 := hst i c hx
  have hlt1 := hlt i
  have hc : c.toNat < 256 := c.toNat_lt
  have hm2 : (c.toNat : Int) * ((i : Int) + 1) ≤ 255 * 1000000001 := Int.mul_le_mul (by omega) (by omega) (by omega) (by omega)
  have hm3 : 0 ≤ (c.toNat : Int) * ((i : Int) + 1) := Int.mul_nonneg (by omega) (by omega)
  generalize sm i = n at *
  refine awp_seq_k fun K4 hK4 => ?_
  refine awp_block ?_
  (refine awp_r fun Y hY => ?_; simp [go_sem, hx]; ((repeat' (first|(refine ag_x ?_;simp [go_sem, hx])|intro _|apply And.intro|(apply hY;clear hY Y)));all_goals first|apply Hold.mk|omega|with_reducible assumption|skip))
  refine hK4 _ ?_; clear hK4
  (refine awp_r fun Y hY => ?_; simp [go_sem]; ((repeat' (first|(refine ag_x ?_;simp [go_sem])|intro _|apply And.intro|(apply hY;clear hY Y)));all_goals first|apply Hold.mk|omega|with_reducible assumption|skip))
  refine ⟨i + 1, ?_, by omega, by omega⟩
  rw [hst1]
  (refine cov_of ?_ ?_ <;> simp [go_sem])
 ·refine awp_exit ?_
  simp only [go_sem]
  refine hK1 _ ?_; clear hK1
  have : i = s.length := by omega
  subst this
  (refine awp_sr fun Y hY => ?_; simp [go_sem]; ((repeat' (first|(refine ag_x ?_;simp [go_sem])|intro _|apply And.intro|(apply hY;clear hY Y)));all_goals first|apply Hold.mk|omega|with_reducible assumption|skip))
  (refine awp_ret ?_; simp [go_sem])
end Go.Proofs.YtchnagdaljblnaaGreatDoor
namespace Go.Proofs.YtchnagdaljblnaaGreatDoor
open Go.Eng Go.Wh Go.Ver Go.RowKit Go.Lk
set_option maxRecDepth 20000
attribute [local irreducible] AG CallA CallT AWp PCall ACall AgC
def Tryz.laysGw17_ren : Go.Shelf.Ren := ⟨fun | 15 => 154 | 17 => 105 | 20 => 201 | n => n, fun | 23 => 183 | n => n, fun | n => n⟩
theorem Tryz.laysGw17 : Go.Proofs.LaysGw.n17 Tryz.prog Tryz.laysGw17_ren := {
 mixed := by kernel_rfl
 f15 := Tryz.func154.trans (congrArg some (by kernel_rfl))
 f17 := Tryz.func105.trans (congrArg some (by kernel_rfl))
 f20 := Tryz.func201.trans (congrArg some (by kernel_rfl))
 t0 := Tryz.underlying0
 a0 := Tryz.isAgg0
 z0 := Tryz.sizeOf0
 v0 := Tryz.zeroValue0
 i0 := by kernel_rfl
 t3 := Tryz.underlying3
 a3 := Tryz.isAgg3
 z3 := Tryz.sizeOf3
 v3 := Tryz.zeroValue3
 i3 := by kernel_rfl
 t4 := Tryz.underlying4
 a4 := Tryz.isAgg4
 z4 := Tryz.sizeOf4
 v4 := Tryz.zeroValue4
 i4 := by kernel_rfl
 t9 := Tryz.underlying9
 a9 := Tryz.isAgg9
 z9 := Tryz.sizeOf9
 v9 := Tryz.zeroValue9
 i9 := by kernel_rfl
 t21 := Tryz.underlying21
 a21 := Tryz.isAgg21
 z21 := Tryz.sizeOf21
 v21 := Tryz.zeroValue21
 i21 := by kernel_rfl
 t23 := Tryz.underlying183
 a23 := Tryz.isAgg183
 z23 := Tryz.sizeOf183
 v23 := Tryz.zeroValue183
 i23 := by kernel_rfl }
theorem idxF_neg (p : Nat → Bool) (hp : ∀ r, 128 ≤ r → p r = true) (s : ByteArray) : ∀ (f pos : Nat), s.size ≤ pos + f → (decide (0 ≤ Lib.idxFuncFrom p true s f pos) = (s.data.toList.drop pos).any fun c => p c.toNat)
 | 0, pos, h => by
  have hl : s.data.toList.length = s.size := Array.length_toList
  rw [List.drop_eq_nil_of_le (by omega)]
  simp [Lib.idxFuncFrom]
 | f + 1, pos, h => by
  have hl : s.data.toList.length = s.size := Array.length_toList
  unfold Lib.idxFuncFrom
  by_cases hs : pos < s.size
  ·rw [if_pos hs]
   have hs' : pos < s.data.toList.length := by omega
   rw [List.drop_eq_getElem_cons hs', List.any_cons]
   have e : s.data.toList[pos] = s[pos]'hs := by first | rfl | (rw [Array.getElem_toList]; rfl)
   rw [e]
   by_cases h1 : (s[pos]'hs).toNat < 128
   ·rw [decode_ascii s pos hs h1]
    cases hq : p (s[pos]'hs).toNat with
    | true => simp
    | false =>
     simp only [Bool.false_eq_true, if_false, Bool.false_or]
     exact idxF_neg p hp s f (pos + 1) (by omega)
   ·have h2 := (decode_high s pos hs (by omega)).1
    rw [hp _ h2, hp _ (show 128 ≤ (s[pos]'hs).toNat by omega), if_pos rfl, Bool.true_or, decide_eq_true_eq]
    omega
  ·rw [if_neg hs, List.drop_eq_nil_of_le (by omega)]
   simp
theorem containsF_spec (s : List UInt8) (g : Nat) (eg : ∀ args w, (callFunc g args).run Tryz.prog w = .ok (.enter g args) w) (p : Nat → Bool) (hp : ∀ r, 128 ≤ r → p r = true) (hg : ∀ w, PredAt Tryz.prog g #[] encR p w) : PCall Tryz.prog 105 [dS s, .v (.func (.func g) #[] #[])] fun r => r = dB (s.any fun c => p c.toNat) := by
 refine pcall_below ⟨_, Tryz.func105, rfl, rfl⟩ fun C w us hc' hg' hr => ?_
 obtain rfl := repL_v (us := [.string ⟨s.toArray⟩, .func (.func g) #[] #[]]) hr
 refine (Any.strings_ContainsFunc Tryz.laysGw17 g #[] eg p ⟨s.toArray⟩ w (hg w)).mono ?_
 rintro e w' ⟨rfl, hb⟩
 have h := idxF_neg p hp ⟨s.toArray⟩ (ByteArray.size ⟨s.toArray⟩) 0 (by omega)
 refine ⟨_, _, rfl, ?_, .v _, hb⟩
 unfold Lib.idxFunc
 rw [h, List.drop_zero]
theorem digit_at (w : World) : PredAt Tryz.prog 106 #[] encR (fun r => decide (r < 48) || decide (57 < r)) w := fun W r _ => by
 unfold FnGives
 by_cases h1 : r < 48 <;> by_cases h2 : 57 < r
 all_goals
  have z1 : (r : Int) < 48 ↔ r < 48 := by omega
  have z2 : (57 : Int) < (r : Int) ↔ 57 < r := by omega
  go_enter Tryz.func106, Tryz.ntmps106
  go_wp2
  all_goals first | (exfalso; omega) | (go_ret; exact ⟨by simp [h1, h2], 0, rfl⟩)
def ltR (r : Nat) : Bool := (decide (97 ≤ r) && decide (r ≤ 122)) || (decide (48 ≤ r) && decide (r ≤ 57)) || decide (r = 95) || decide (r = 45)
theorem letter_gives (W : World) (r : Nat) : FnGives Tryz.prog 200 #[] #[encR r] (.bool (ltR r)) W := by
 unfold FnGives
 have z1 : (97 : Int) ≤ (r : Int) ↔ 97 ≤ r := by omega
 have z2 : (r : Int) ≤ 122 ↔ r ≤ 122 := by omega
 have z3 : (48 : Int) ≤ (r : Int) ↔ 48 ≤ r := by omega
 have z4 : (r : Int) ≤ 57 ↔ r ≤ 57 := by omega
 have z5 : (r : Int) = 95 ↔ r = 95 := by omega
 have z6 : (r : Int) = 45 ↔ r = 45 := by omega
 rcases (by omega : r < 45 ∨ r = 45 ∨ (45 < r ∧ r < 48) ∨ (48 ≤ r ∧ r ≤ 57) ∨ (57 < r ∧ r < 95) ∨ r = 95 ∨ r = 96 ∨ (97 ≤ r ∧ r ≤ 122) ∨ 122 < r) with h | h | h | h | h | h | h | h | h
 all_goals
  go_enter Tryz.func200, Tryz.ntmps200
  go_wp2
  all_goals first | (exfalso; omega) | (go_ret; exact ⟨congrArg (fun b => Ending.returned (Value.bool b)) (show (_ : Bool) = ltR r by (try subst h); unfold ltR; rw [Bool.eq_iff_iff]; simp only [Bool.or_eq_true, Bool.and_eq_true, decide_eq_true_eq, beq_iff_eq, z5, z6, reduceCtorEq, true_iff, false_iff, iff_true, iff_false, Int.reduceEq, or_true, true_or]; (try omega)), 0, rfl⟩)
theorem notLetter_at (w : World) : PredAt Tryz.prog 199 #[] encR (fun r => !ltR r) w := fun W r _ => by
 have hC := letter_gives W r
 unfold FnGives at hC
 unfold FnGives
 go_enter Tryz.func199, Tryz.ntmps199
 go_wp2_with (go_at_call 200; refine hC.mono ?_; rintro e w' ⟨rfl, q, rfl⟩)
 go_ret
 exact ⟨rfl, q, rfl⟩
theorem ltR_nm (c : UInt8) : ltR c.toNat = nmC c := by
 unfold ltR nmC isL isD
 rfl
theorem notName_spec (s : List UInt8) : PCall Tryz.prog 105 [dS s, .v (.func (.func 199) #[] #[])] fun r => r = dB (!s.all nmC) := by
 have h := containsF_spec s 199 (enters_of Tryz.func199 (by kernel_rfl) rfl) (fun r => !ltR r) (fun r hr => by
  have e : ltR r = false := by
   rw [← Bool.not_eq_true]; simp only [ltR, Bool.or_eq_true, Bool.and_eq_true, decide_eq_true_eq]; omega
  simp only [e]; rfl) notLetter_at
 simp only [ltR_nm] at h
 rw [show (!s.all nmC) = s.any fun c => !nmC c by rw [List.not_all_eq_any_not]]
 exact h
theorem notDigit_spec (s : List UInt8) : PCall Tryz.prog 105 [dS s, .v (.func (.func 106) #[] #[])] fun r => r = dB (!s.all isD) := by
 have h := containsF_spec s 106 (enters_of Tryz.func106 (by kernel_rfl) rfl) (fun r => decide (r < 48) || decide (57 < r)) (fun r hr => by
  simp only [Bool.or_eq_true, decide_eq_true_eq]; omega) digit_at
 rw [show (!s.all isD) = s.any fun c => decide (c.toNat < 48) || decide (57 < c.toNat) by
  rw [List.not_all_eq_any_not]
  congr 1
  funext c
  rw [Bool.eq_iff_iff]
  simp only [isD, Bool.not_eq_true', Bool.and_eq_false_iff, decide_eq_false_iff_not, Bool.or_eq_true, decide_eq_true_eq]
  omega]
 exact h
theorem scontains_spec (s p : List UInt8) (hl : s.length < 4294967281) : PCall Tryz.prog 116 [dS s, dS p] fun r => r = dB (Lib.contains s p) := by
 refine pcall_below ⟨_, Tryz.func116, rfl, rfl⟩ fun C w us hc hg hr => ?_
 have hg : glOk w := hg
 obtain rfl := repL_v (us := [.string ⟨s.toArray⟩, .string ⟨p.toArray⟩]) hr
 obtain ⟨m, hm⟩ := hg.2
 refine (Tryz.strings_Contains ⟨s.toArray⟩ ⟨p.toArray⟩ m w (by simpa [ByteArray.size] using hl) hm).mono ?_
 rintro e w' ⟨rfl, rfl⟩
 exact ⟨_, _, rfl, rfl, .v _, Below.refl _ _⟩
def nmL : List UInt8 := [97, 98, 99, 100, 101, 102, 103, 104, 105, 106, 107, 108, 109, 110, 111, 112, 113, 114, 115, 116, 117, 118, 119, 120, 121, 122, 48, 49, 50, 51, 52, 53, 54, 55, 56, 57, 95, 45]
theorem nmL_nm (c : UInt8) : nmL.contains c = nmC c := by
 have h := UInt8.toNat_lt c
 unfold nmC isL isD nmL
 refine Bool.eq_iff_iff.2 ?_
 simp only [List.contains_iff_mem, List.mem_cons, List.mem_nil_iff, or_false, Bool.and_eq_true, Bool.or_eq_true, decide_eq_true_eq, ← UInt8.toNat_inj]
 simp
 omega
theorem trim_nm (l : List UInt8) : (Lib.trimS l nmL = []) ↔ l.all nmC = true := by
 rw [trimS_nil]
 simp only [nmL_nm]
theorem contains_L (c : UInt8) : Lib.contains abcL [c] = isL c := by
 unfold Lib.contains
 rw [Lib.index_one, ← abcL_isL, Lib.contains_iff_indexByte]
theorem risName_spec (s : List UInt8) (hl : s.length ≤ 1000000000) : PCall Tryz.prog 76 [dS s] fun r => r = dB (nameV s) := by 
 refine pcall_of Tryz.func76 rfl rfl Tryz.ntmps76 (rs := [.tmp 2]) (tys := [4]) rfl rfl (by simp) ?_
 have T1 := trimS_spec s nmL (by omega) (by decide) (by decide)
 have ht := trim_nm s
 cases s with
 | nil =>
  (refine awp_sr fun Y hY => ?_; simp [go_sem]; ((repeat' (first|(refine ag_x ?_;simp [go_sem])|intro _|apply And.intro|(apply hY;clear hY Y)));all_goals first|apply Hold.mk|omega|with_reducible assumption|skip))
  (refine awp_sr fun Y hY => ?_; simp [go_sem]; ((repeat' (first|(refine ag_false (by simp [go_sem, undef]) (by simp [go_sem]) ?_;simp [go_sem])|intro _|apply And.intro|(apply hY;clear hY Y)));all_goals first|apply Hold.mk|omega|with_reducible assumption|skip))
  (refine awp_ret ?_; simp [go_sem, nameV])
 | cons c r =>
  have C1 := scontains_spec abcL [c] (by decide)
  rw [contains_L] at C1
  have e1 : ({ data := (c :: r).toArray } : ByteArray).extract 0 1 = { data := [c].toArray } := by apply ByteArray.ext; simp
  have h1 : (1 : Int) ≤ (r.length : Int) + 1 := by omega
  by_cases h2 : r.length < 20
  ·have h2' : ((r.length : Int) + 1 ≤ 20) := by omega
   generalize Lib.trimS (c :: r) nmL = a at *
   by_cases h3 : a = []
   ·subst h3
    have h4 := ht.1 rfl
    (refine awp_sr fun Y hY => ?_; simp [go_sem]; ((repeat' (first|(refine ag_x ?_;simp [go_sem])|intro _|apply And.intro|(apply hY;clear hY Y)));all_goals first|apply Hold.mk|omega|with_reducible assumption|skip))
    (refine awp_sr fun Y hY => ?_; simp [go_sem, h1, h2']; ((repeat' (first|(refine ag_x ?_;simp [go_sem, h1, h2'])|intro _|apply And.intro|(apply hY;clear hY Y)));all_goals first|apply Hold.mk|omega|with_reducible assumption|skip))
    (refine agc_f (dS []) (.inl ⟨rfl,rfl⟩) ?_ rfl ?_; (intro hc args ha; simp [go_sem] at ha; subst ha; exact T1); simp [go_sem, h1, h2']; ((repeat' (first|(refine ag_x ?_;simp [go_sem, h1, h2'])|intro _|apply And.intro|(apply hY;clear hY Y)));all_goals first|apply Hold.mk|omega|with_reducible assumption|skip))
    (refine agc_f (dB (isL c)) (.inl ⟨rfl,rfl⟩) ?_ rfl ?_; (intro hc args ha; simp [go_sem] at ha; subst ha; exact (by rw [e1]; exact C1)); simp [go_sem, h1, h2']; ((repeat' (first|(refine ag_x ?_;simp [go_sem, h1, h2'])|intro _|apply And.intro|(apply hY;clear hY Y)));all_goals first|apply Hold.mk|omega|with_reducible assumption|skip))
    (refine awp_ret ?_; simp [go_sem])
    simp only [List.all_cons, Bool.and_eq_true] at h4
    simp [nameV, h4.2, h2]
   ·have h4 : ¬ ((c :: r).all nmC = true) := fun q => h3 (ht.2 q)
    have h5 : nameV (c :: r) = false := by
     rw [← Bool.not_eq_true]
     intro q
     simp only [nameV, Bool.and_eq_true] at q
     exact h4 (by rw [List.all_cons, q.1.2]; simp [nmC, q.1.1])
    (refine awp_sr fun Y hY => ?_; simp [go_sem]; ((repeat' (first|(refine ag_x ?_;simp [go_sem])|intro _|apply And.intro|(apply hY;clear hY Y)));all_goals first|apply Hold.mk|omega|with_reducible assumption|skip))
    (refine awp_sr fun Y hY => ?_; simp [go_sem, h1, h2']; ((repeat' (first|(refine ag_x ?_;simp [go_sem, h1, h2'])|intro _|apply And.intro|(apply hY;clear hY Y)));all_goals first|apply Hold.mk|omega|with_reducible assumption|skip))
    (refine agc_f (dS a) (.inl ⟨rfl,rfl⟩) ?_ rfl ?_; (intro hc args ha; simp [go_sem] at ha; subst ha; exact T1); simp [go_sem, h1, h2', h3]; ((repeat' (first|(refine ag_false ?_ ?_ ?_;(focus (simp [go_sem, undef, h1, h2', h3];done));(focus (simp [go_sem];done));simp [go_sem, h1, h2', h3])|(refine ag_x ?_;simp [go_sem, undef, h1, h2', h3])|intro _|apply And.intro|(apply hY;clear hY Y)));all_goals first|apply Hold.mk|omega|with_reducible assumption|skip))
    (refine awp_ret ?_; simp [go_sem, h5])
  ·have h2' : ¬ ((r.length : Int) + 1 ≤ 20) := by omega
   have h5 : nameV (c :: r) = false := by simp [nameV, h2]
   (refine awp_sr fun Y hY => ?_; simp [go_sem]; ((repeat' (first|(refine ag_x ?_;simp [go_sem])|intro _|apply And.intro|(apply hY;clear hY Y)));all_goals first|apply Hold.mk|omega|with_reducible assumption|skip))
   (refine awp_sr fun Y hY => ?_; simp [go_sem, h1, h2']; ((repeat' (first|(refine ag_false ?_ ?_ ?_;(focus (simp [go_sem, undef, h1, h2'];done));(focus (simp [go_sem];done));simp [go_sem, h1, h2'])|(refine ag_x ?_;simp [go_sem, undef, h1, h2'])|intro _|apply And.intro|(apply hY;clear hY Y)));all_goals first|apply Hold.mk|omega|with_reducible assumption|skip))
   (refine awp_ret ?_; simp [go_sem, h5])
end Go.Proofs.YtchnagdaljblnaaGreatDoor
