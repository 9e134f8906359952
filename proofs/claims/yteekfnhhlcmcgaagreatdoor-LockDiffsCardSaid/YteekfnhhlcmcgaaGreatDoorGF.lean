/- Part of a proof: see the last text. -/
import Derived.Test.YteekfnhhlcmcgaaGreatDoorGA
set_option linter.unusedVariables false
set_option linter.unusedSimpArgs false
namespace Go.Proofs.YteekfnhhlcmcgaaGreatDoor
open Go.Eng Go.Wh Go.Ver Go.RowKit Go.Lk
set_option maxRecDepth 20000
attribute [local irreducible] AG CallA CallT AWp PCall ACall AgC
abbrev mP (l : List Prs) : List (List D) := l.map cP
@[go_sem] abbrev rdH (p : PS) (gb gp gn gw : Nat) (rs : List (Nat × List Prs)) : List (Nat × (Nat × Blk)) :=
 (900002, (gb, .box [dI p.part, .own 900003 gp, .own 900004 gn, .own 900005 gw, dS p.sum])) :: (900003, (gp, .row 41 2 (p.picks.map cP))) :: (900004, (gn, .row 38 1 (famO 1 0 rs))) :: (900005, (gw, .row 114 2 (p.wish.map cP))) :: fam 1 114 2 mP 0 rs
theorem rdH_ok (p : PS) (gb gp gn gw : Nat) (rs : List (Nat × List Prs)) (m : Nat) (hm : rs.length ≤ m) : ∀ q ∈ rdH p gb gp gn gw rs, 900000 ≤ q.1 ∧ notFroz q.2.2 = true ∧ q.1 ∈ 900002 :: 900003 :: 900004 :: 900005 :: famS 1 0 m := by
 intro q hq
 simp only [rdH, List.mem_cons] at hq
 rcases hq with rfl | rfl | rfl | rfl | hq
 ·simp [notFroz]
 ·simp [notFroz]
 ·simp [notFroz]
 ·simp [notFroz]
 ·obtain ⟨h1, h2, h3⟩ := mem_fam hq
  refine ⟨h2, h3, ?_⟩
  obtain ⟨j, a, b, c⟩ := famS_mem.1 h1
  have : q.1 ∈ famS 1 0 m := famS_mem.2 ⟨j, a, by omega, c⟩
  simp only [List.mem_cons]
  exact .inr (.inr (.inr (.inr this)))
structure PsOk (p : PS) (rs : List (Nat × List Prs)) : Prop where
 en : rs.map (fun x => x.2) = p.needs
 nl : p.needs.length = p.picks.length
 pl : p.picks.length ≤ 100000
 wl : p.wish.length ≤ 100000
 rl : ∀ r ∈ rs, r.2.length ≤ 100000
theorem entry_len {p p' : PS} {s : Bs} (he : entryV p s = some p') : p.needs.length ≤ p'.needs.length := by
 unfold entryV at he
 split at he
 ·split at he
  ·split at he
   ·cases he
   ·simp only [Option.some.injEq] at he
    subst he
    simp
  ·cases he
 ·split at he
  ·split at he
   ·split at he
    ·cases he
    ·split at he
     ·simp only [Option.some.injEq] at he
      subst he
      simp
     ·simp only [Option.some.injEq] at he
      subst he
      simp
   ·cases he
  ·cases he
set_option maxHeartbeats 8000000 in
theorem entry_ok (p p' : PS) (s : Bs) (gb gp gn gw : Nat) (rs : List (Nat × List Prs)) (hp : PsOk p rs) (hl : s.length ≤ 1000000) (h13 : p.part = 1 ∨ p.part = 3) (he : entryV p s = some p') :
  ACall Tryz.prog 157 [.ptr 900002 gb 0, dS s] (rdH p gb gp gn gw rs) (900002 :: 900003 :: 900004 :: 900005 :: famS 1 0 p'.needs.length)
   fun ps r => ∃ gp' gn' gw' rs', rs'.map (·.2) = p'.needs ∧ ps = (gb, .box [dI p'.part, .own 900003 gp', .own 900004 gn', .own 900005 gw', dS p'.sum]) :: (gp', .row 41 2 (p'.picks.map cP)) :: (gn', .row 38 1 (famO 1 0 rs')) :: (gw', .row 114 2 (p'.wish.map cP)) :: famP 114 2 mP rs' ∧ r = dB true := by 
 refine acall_of Tryz.func157 rfl rfl Tryz.ntmps157 (rs := [.tmp 4]) (tys := [4]) rfl rfl (by simp) ?_ ?_
 ·exact rdH_ok p gb gp gn gw rs _ (by have := entry_len he; have := congrArg List.length hp.en; simp only [List.length_map] at this; omega)
 have C4 := cutPre_spec s pre4 (by omega) (by decide)
 have C2 := cutPre_spec s pre2 (by omega) (by decide)
 obtain ⟨part, P, N, W, sum⟩ := p
 obtain ⟨hrs, hnl, hpl, hwl, hrl⟩ := hp
 simp only at hrs hnl hpl hwl hrl h13
 unfold entryV at he
 simp only at he
 (refine awp_sr fun Y Yh => ?_; simp [go_sem]; ((repeat' (first|(refine ag_x ?_;simp [go_sem])|intro _|apply And.intro|(apply Yh;clear Yh Y)));all_goals first|apply Hold.mk|omega|assumption|skip))
 (refine awp_sr fun Y Yh => ?_; simp [go_sem]; ((repeat' (first|(refine ag_x ?_;simp [go_sem])|intro _|apply And.intro|(apply Yh;clear Yh Y)));all_goals first|apply Hold.mk|omega|assumption|skip))
 refine awp_seq_k fun K1 hK1 => ?_
 (refine awp_sr fun Y Yh => ?_; simp [go_sem]; ((repeat' (first|(refine ag_x ?_;simp [go_sem])|intro _|apply And.intro|(apply Yh;clear Yh Y)));all_goals first|apply Hold.mk|omega|assumption|skip))
 by_cases h4 : pre4.isPrefixOf s = true
 ·rw [if_pos h4] at he
  rw [if_pos h4, h4] at C4
  have D1 := named_spec (s.drop pre4.length) (by rw [List.length_drop]; omega)
  cases hn : nmdV (s.drop pre4.length) with
  | none =>
   rw [show s.drop 4 = s.drop pre4.length from rfl, hn] at he
   cases he
  | some x =>
   obtain ⟨n, i, b⟩ := x
   rw [show s.drop 4 = s.drop pre4.length from rfl, hn] at he
   simp only at he
   rw [named_some hn] at D1
   simp only at D1
   generalize s.drop pre4.length = s4 at *
   split at he
   ·cases he
   ·rename_i h5
    simp only [Option.some.injEq] at he
    subst he
    have h5a : ¬ part = 3 := fun q => h5 (.inl q)
    have h5b : ¬ (part : Int) = 3 := by omega
    have h5c : 0 < P.length := List.length_pos_iff.2 fun q => h5 (.inr q)
    have h5d : ¬ P = [] := fun q => h5 (.inr q)
    obtain ⟨k, hk⟩ : ∃ k, P.length = k + 1 := ⟨P.length - 1, by omega⟩
    have hrl2 := congrArg List.length hrs
    simp only [List.length_map] at hrl2
    obtain ⟨⟨gk, R⟩, hrk⟩ : ∃ x, rs[k]? = some x := ⟨_, List.getElem?_eq_getElem (by omega)⟩
    have hRl := hrl _ (List.mem_of_getElem? hrk)
    simp only at hRl
    have ek : ((k : Int) + 1 - 1).toNat = k := by omega
    have ek2 : (k : Int) + 1 - 1 = k := by omega
    ((try refine CallT.toA ?_); refine callT_m (.inl ⟨rfl,rfl⟩) (by simp [go_sem]) ?_; intro args ha; simp [go_sem] at ha; subst ha; refine ⟨_, C4, ?_⟩; rintro _ rfl; simp [go_sem]; ((repeat' (first|(refine ag_x ?_;simp [go_sem])|intro _|apply And.intro|(apply Yh;clear Yh Y)));all_goals first|apply Hold.mk|omega|assumption|skip))
    (refine awp_sr fun Y Yh => ?_; simp [go_sem]; ((repeat' (first|(refine ag_x ?_;simp [go_sem])|intro _|apply And.intro|(apply Yh;clear Yh Y)));all_goals first|apply Hold.mk|omega|assumption|skip))
    (refine awp_if fun T F hT hF => ?_; simp [go_sem]; refine hT ?_; clear hT hF T F)
    (refine awp_sr fun Y Yh => ?_; simp [go_sem]; ((repeat' (first|(refine ag_x ?_;simp [go_sem])|intro _|apply And.intro|(apply Yh;clear Yh Y)));all_goals first|apply Hold.mk|omega|assumption|skip))
    ((try refine CallT.toA ?_); refine callT_m (.inl ⟨rfl,rfl⟩) (by simp [go_sem]) ?_; intro args ha; simp [go_sem] at ha; subst ha; refine ⟨_, D1, ?_⟩; rintro _ rfl; simp [go_sem]; ((repeat' (first|(refine ag_x ?_;simp [go_sem])|intro _|apply And.intro|(apply Yh;clear Yh Y)));all_goals first|apply Hold.mk|omega|assumption|skip))
    refine awp_seq_k fun K3 hK3 => ?_
    (refine awp_sr fun Y Yh => ?_; simp [go_sem, h5a, h5b, h5d]; ((repeat' (first|(refine ag_x ?_;simp [go_sem, h5a, h5b, h5d])|intro _|apply And.intro|(apply Yh;clear Yh Y)));all_goals first|apply Hold.mk|omega|assumption|skip))
    (refine awp_if fun T F hT hF => ?_; simp [go_sem, h5a, h5b, h5d]; refine hF ?_; clear hT hF T F)
    refine awp_skip ?_
    refine hK3 _ ?_; clear hK3
    refine awp_seq_k fun K5 hK5 => ?_
    have tl5 : ∀ S' g', Cov S' ⟨[(0, .ptr 900002 gb 0)], (900002, (gb, .box [dI part, .own 900003 gp, .own 900004 gn, .own 900005 gw, dS sum])) :: (900003, (gp, .row 41 2 (P.map cP))) :: (900004, (gn, .row 38 1 (famO 1 0 (rs.set k (g', R ++ [(n, i)]))))) :: (900005, (gw, .row 114 2 (W.map cP))) :: fam 1 114 2 mP 0 (rs.set k (g', R ++ [(n, i)]))⟩ → K5 S' := fun S' g' hS => by
     refine hK5 _ ?_; clear hK5
     refine awp_cov hS ?_; clear hS
     (refine awp_sr fun Y Yh => ?_; simp [go_sem]; ((repeat' (first|(refine ag_x ?_;simp [go_sem])|intro _|apply And.intro|(apply Yh;clear Yh Y)));all_goals first|apply Hold.mk|omega|assumption|skip))
     (refine awp_ret ?_; simp [go_sem])
     have hsl : (rs.set k (g', R ++ [(n, i)])).length = N.length := by rw [List.length_set]; omega
     refine postK_fam (b := 1) (e := 114) (k := 2) (f := mP) (rs.set k (g', R ++ [(n, i)])) 0 N.length _ hsl (by simp [go_sem]) ?_
     refine ⟨gp, gn, gw, rs.set k (g', R ++ [(n, i)]), ?_, by simp⟩
     have hNk : N[k]? = some R := by rw [← hrs, List.getElem?_map, hrk]; rfl
     rw [hk, Nat.add_sub_cancel, hNk, List.map_set, hrs]
     rfl
    clear hK5
    ((refine awp_d (.qs [0, 1, 2, 3, 5, 6, 7, 8, 9, 10, 12, 13, 16, 17, 18] (.three 4 (.qs [11, 14, 15] (.kp 19 (.one 20 (.qs [21] (.one 22 (.nil)))))) 11 (.qs [14] (.three 4 (.qs [15] (.kp 19 (.one 20 (.qs [21] (.one 22 (.nil)))))) 15 (.two 4 (.kp 19 (.one 20 (.qs [21] (.one 22 (.nil))))) 19 (.kq 4 (.one 20 (.qs [21] (.one 22 (.nil)))) 20 (.qs [4, 21] (.one 22 (.nil))))) 19 (.qs [15] (.kq 4 (.one 20 (.qs [21] (.one 22 (.nil)))) 20 (.qs [4, 21] (.one 22 (.nil))))))) 19 (.qs [11, 14, 15] (.kq 4 (.one 20 (.qs [21] (.one 22 (.nil)))) 20 (.qs [4, 21] (.one 22 (.nil))))))) (by kernel_rfl) ?_ ?_ ?_ ?_); (kernel_rfl); (exact (by decide +kernel)); (kernel_rfl); intro Y Yh; ((repeat' (first|(refine ag_x ?_;simp [go_sem, hk, hrk, ek, ek2])|refine adr_nil ?_|refine adr_two ?_ ?_|refine adr_kq ?_ ?_|refine adr_three ?_ ?_ ?_|((first|refine adr_qs fun Y Yh=>?_|refine adr_y fun Y Yh=>?_);simp [go_sem, hk, hrk, ek, ek2])|intro _|apply And.intro|(apply Yh;clear Yh Y)));all_goals first|apply Hold.mk|omega|assumption|skip))
    all_goals
     rename_i g'
     refine tl5 _ g' ?_
     have hfo := famO_setg (b := 1) rs k g' (R ++ [(n, i)])
     (refine cov_of ?_ ?_ <;> simp [go_sem, hfo])
     refine FamIn.set (by simp [go_sem]) (by simp)
 ·rw [if_neg h4] at he
  have h4' : pre4.isPrefixOf s = false := by
   cases h : pre4.isPrefixOf s with
   | false => rfl
   | true => exact absurd h h4
  rw [if_neg h4, h4'] at C4
  have hrl2 := congrArg List.length hrs
  simp only [List.length_map] at hrl2
  split at he
  ·rename_i h2
   rw [if_pos h2, h2] at C2
   have D1 := named_spec (s.drop pre2.length) (by rw [List.length_drop]; omega)
   cases hn : nmdV (s.drop pre2.length) with
   | none =>
    rw [show s.drop 2 = s.drop pre2.length from rfl, hn] at he
    cases he
   | some x =>
    obtain ⟨n, i, b⟩ := x
    rw [show s.drop 2 = s.drop pre2.length from rfl, hn] at he
    simp only at he
    rw [named_some hn] at D1
    simp only at D1
    generalize s.drop pre2.length = s2 at *
    ((try refine CallT.toA ?_); refine callT_m (.inl ⟨rfl,rfl⟩) (by simp [go_sem]) ?_; intro args ha; simp [go_sem] at ha; subst ha; refine ⟨_, C4, ?_⟩; rintro _ rfl; simp [go_sem]; ((repeat' (first|(refine ag_x ?_;simp [go_sem])|refine adr_nil ?_|refine adr_two ?_ ?_|refine adr_kq ?_ ?_|refine adr_three ?_ ?_ ?_|((first|refine adr_qs fun Y Yh=>?_|refine adr_y fun Y Yh=>?_);simp [go_sem])|intro _|apply And.intro|(apply Yh;clear Yh Y)));all_goals first|apply Hold.mk|omega|assumption|skip))
    (refine awp_sr fun Y Yh => ?_; simp [go_sem]; ((repeat' (first|(refine ag_x ?_;simp [go_sem])|intro _|apply And.intro|(apply Yh;clear Yh Y)));all_goals first|apply Hold.mk|omega|assumption|skip))
    (refine awp_if fun T F hT hF => ?_; simp [go_sem]; refine hF ?_; clear hT hF T F)
    refine awp_skip ?_
    refine hK1 _ ?_; clear hK1
    (refine awp_sr fun Y Yh => ?_; simp [go_sem]; ((repeat' (first|(refine ag_x ?_;simp [go_sem])|intro _|apply And.intro|(apply Yh;clear Yh Y)));all_goals first|apply Hold.mk|omega|assumption|skip))
    ((try refine CallT.toA ?_); refine callT_m (.inl ⟨rfl,rfl⟩) (by simp [go_sem]) ?_; intro args ha; simp [go_sem] at ha; subst ha; refine ⟨_, C2, ?_⟩; rintro _ rfl; simp [go_sem]; ((repeat' (first|(refine ag_x ?_;simp [go_sem])|intro _|apply And.intro|(apply Yh;clear Yh Y)));all_goals first|apply Hold.mk|omega|assumption|skip))
    (refine awp_sr fun Y Yh => ?_; simp [go_sem]; ((repeat' (first|(refine ag_x ?_;simp [go_sem])|intro _|apply And.intro|(apply Yh;clear Yh Y)));all_goals first|apply Hold.mk|omega|assumption|skip))
    ((try refine CallT.toA ?_); refine callT_m (.inl ⟨rfl,rfl⟩) (by simp [go_sem]) ?_; intro args ha; simp [go_sem] at ha; subst ha; refine ⟨_, D1, ?_⟩; rintro _ rfl; simp [go_sem]; ((repeat' (first|(refine ag_x ?_;simp [go_sem])|intro _|apply And.intro|(apply Yh;clear Yh Y)));all_goals first|apply Hold.mk|omega|assumption|skip))
    refine awp_seq_k fun K5 hK5 => ?_
    rcases h13 with rfl | rfl
    ·cases b with
     | false => simp at he
     | true =>
      simp at he
      subst he
      have tl5 : ∀ S' gp' gn', Cov S' ⟨[(0, .ptr 900002 gb 0)], (900002, (gb, .box [dI 1, .own 900003 gp', .own 900004 gn', .own 900005 gw, dS sum])) :: (900003, (gp', .row 41 2 ((P ++ [(n, i)]).map cP))) :: (900004, (gn', .row 38 1 (famO 1 0 rs ++ [[.v (.slice none 0 0)]]))) :: (900005, (gw, .row 114 2 (W.map cP))) :: fam 1 114 2 mP 0 rs⟩ → K5 S' := fun S' gp' gn' hS => by
       refine hK5 _ ?_; clear hK5
       refine awp_cov hS ?_; clear hS
       refine awp_nilin (go := gn') (eo := 38) (ces := famO 1 0 rs ++ [[.v (.slice none 0 0)]]) (fs 1 rs.length) 900004 rs.length 114 2 (by simp [go_sem]) (fs_nlit (by decide)) (famO_open (m := 1) rs (by decide)) fun g => ?_
       have hfo : famO 1 0 rs ++ [[.own (fs 1 rs.length) g]] = famO 1 0 (rs ++ [(g, ([] : List Prs))]) := by rw [famO_snoc]; simp
       (refine awp_sr fun Y Yh => ?_; simp [go_sem]; ((repeat' (first|(refine ag_x ?_;simp [go_sem])|intro _|apply And.intro|(apply Yh;clear Yh Y)));all_goals first|apply Hold.mk|omega|assumption|skip))
       (refine awp_ret ?_; simp [go_sem])
       rw [hfo]
       have hsl : (rs ++ [(g, ([] : List Prs))]).length = N.length + 1 := by simp; omega
       refine postK_fam (b := 1) (e := 114) (k := 2) (f := mP) (rs ++ [(g, [])]) 0 (N.length + 1) _ hsl (FamIn.lt (FamIn.snoc (by simp [go_sem]) rfl rfl) (by decide)) ?_
       refine ⟨gp', gn', gw, rs ++ [(g, [])], ?_, by simp⟩
       rw [List.map_append, hrs]
       rfl
      clear hK5
      refine awp_block ?_
      (refine awp_sr fun Y Yh => ?_; simp [go_sem]; ((repeat' (first|(refine ag_x ?_;simp [go_sem])|intro _|apply And.intro|(apply Yh;clear Yh Y)));all_goals first|apply Hold.mk|omega|assumption|skip))
      (refine awp_if fun T F hT hF => ?_; simp [go_sem]; refine hF ?_; clear hT hF T F)
      (refine awp_sr fun Y Yh => ?_; simp [go_sem]; ((repeat' (first|(refine ag_x ?_;simp [go_sem])|intro _|apply And.intro|(apply Yh;clear Yh Y)));all_goals first|apply Hold.mk|omega|assumption|skip))
      (refine awp_if fun T F hT hF => ?_; simp [go_sem]; refine hF ?_; clear hT hF T F)
      (refine awp_sr fun Y Yh => ?_; simp [go_sem]; ((repeat' (first|(refine ag_x ?_;simp [go_sem])|intro _|apply And.intro|(apply Yh;clear Yh Y)));all_goals first|apply Hold.mk|omega|assumption|skip))
      (refine awp_r fun Y Yh => ?_; simp [go_sem]; ((repeat' (first|(refine ag_x ?_;simp [go_sem])|intro _|apply And.intro|(apply Yh;clear Yh Y)));all_goals first|apply Hold.mk|omega|assumption|skip))
      rename_i ga gp' gc gn'
      refine tl5 _ gp' gn' ?_
      (refine cov_of ?_ ?_ <;> simp [go_sem])
    ·simp at he
     subst he
     have tl5 : ∀ S' gw', Cov S' ⟨[(0, .ptr 900002 gb 0)], (900002, (gb, .box [dI 3, .own 900003 gp, .own 900004 gn, .own 900005 gw', dS sum])) :: (900003, (gp, .row 41 2 (P.map cP))) :: (900004, (gn, .row 38 1 (famO 1 0 rs))) :: (900005, (gw', .row 114 2 ((W ++ [(n, i)]).map cP))) :: fam 1 114 2 mP 0 rs⟩ → K5 S' := fun S' gw' hS => by
      refine hK5 _ ?_; clear hK5
      refine awp_cov hS ?_; clear hS
      (refine awp_sr fun Y Yh => ?_; simp [go_sem]; ((repeat' (first|(refine ag_x ?_;simp [go_sem])|intro _|apply And.intro|(apply Yh;clear Yh Y)));all_goals first|apply Hold.mk|omega|assumption|skip))
      (refine awp_ret ?_; simp [go_sem])
      refine postK_fam (b := 1) (e := 114) (k := 2) (f := mP) rs 0 N.length _ hrl2 (by simp [go_sem]) ?_
      exact ⟨gp, gn, gw', rs, hrs, by simp⟩
     clear hK5
     refine awp_block ?_
     (refine awp_sr fun Y Yh => ?_; simp [go_sem]; ((repeat' (first|(refine ag_false ?_ ?_ ?_;(focus (simp [go_sem, undef];done));(focus (simp [go_sem];done));simp [go_sem])|(refine ag_x ?_;simp [go_sem, undef])|intro _|apply And.intro|(apply Yh;clear Yh Y)));all_goals first|apply Hold.mk|omega|assumption|skip))
     (refine awp_if fun T F hT hF => ?_; simp [go_sem]; refine hF ?_; clear hT hF T F)
     (refine awp_sr fun Y Yh => ?_; simp [go_sem]; ((repeat' (first|(refine ag_x ?_;simp [go_sem])|intro _|apply And.intro|(apply Yh;clear Yh Y)));all_goals first|apply Hold.mk|omega|assumption|skip))
     (refine awp_if fun T F hT hF => ?_; simp [go_sem]; refine hT ?_; clear hT hF T F)
     (refine awp_r fun Y Yh => ?_; simp [go_sem]; ((repeat' (first|(refine ag_x ?_;simp [go_sem])|intro _|apply And.intro|(apply Yh;clear Yh Y)));all_goals first|apply Hold.mk|omega|assumption|skip))
     rename_i ga gw'
     refine tl5 _ gw' ?_
     (refine cov_of ?_ ?_ <;> simp [go_sem])
  ·cases he
set_option maxHeartbeats 8000000 in
theorem entry_bad (p : PS) (s : Bs) (gb gp gn gw : Nat) (rs : List (Nat × List Prs)) (hp : PsOk p rs) (hl : s.length ≤ 1000000) (h13 : p.part = 1 ∨ p.part = 3) (he : entryV p s = none) :
  ACall Tryz.prog 157 [.ptr 900002 gb 0, dS s] (rdH p gb gp gn gw rs) (900002 :: 900003 :: 900004 :: 900005 :: famS 1 0 p.needs.length)
   fun ps r => ps = (gb, .box [dI p.part, .own 900003 gp, .own 900004 gn, .own 900005 gw, dS p.sum]) :: (gp, .row 41 2 (p.picks.map cP)) :: (gn, .row 38 1 (famO 1 0 rs)) :: (gw, .row 114 2 (p.wish.map cP)) :: famP 114 2 mP rs ∧ r = dB false := by 
 refine acall_of Tryz.func157 rfl rfl Tryz.ntmps157 (rs := [.tmp 4]) (tys := [4]) rfl rfl (by simp) ?_ ?_
 ·exact rdH_ok p gb gp gn gw rs _ (by have := congrArg List.length hp.en; simp only [List.length_map] at this; omega)
 have C4 := cutPre_spec s pre4 (by omega) (by decide)
 have C2 := cutPre_spec s pre2 (by omega) (by decide)
 obtain ⟨part, P, N, W, sum⟩ := p
 obtain ⟨hrs, hnl, hpl, hwl, hrl⟩ := hp
 simp only at hrs hnl hpl hwl hrl h13
 have hrl2 := congrArg List.length hrs
 simp only [List.length_map] at hrl2
 unfold entryV at he
 simp only at he
 (refine awp_sr fun Y Yh => ?_; simp [go_sem]; ((repeat' (first|(refine ag_x ?_;simp [go_sem])|intro _|apply And.intro|(apply Yh;clear Yh Y)));all_goals first|apply Hold.mk|omega|assumption|skip))
 (refine awp_sr fun Y Yh => ?_; simp [go_sem]; ((repeat' (first|(refine ag_x ?_;simp [go_sem])|intro _|apply And.intro|(apply Yh;clear Yh Y)));all_goals first|apply Hold.mk|omega|assumption|skip))
 refine awp_seq_k fun K1 hK1 => ?_
 (refine awp_sr fun Y Yh => ?_; simp [go_sem]; ((repeat' (first|(refine ag_x ?_;simp [go_sem])|intro _|apply And.intro|(apply Yh;clear Yh Y)));all_goals first|apply Hold.mk|omega|assumption|skip))
 by_cases h4 : pre4.isPrefixOf s = true
 ·rw [if_pos h4] at he
  rw [if_pos h4, h4] at C4
  have D1 := named_spec (s.drop pre4.length) (by rw [List.length_drop]; omega)
  have hnn := @named_none (s.drop pre4.length)
  have hns := fun n i b => @named_some (s.drop pre4.length) n i b
  rw [show s.drop 4 = s.drop pre4.length from rfl] at he
  generalize s.drop pre4.length = s4 at *
  generalize namedP s4 = q at *
  obtain ⟨q1, q2, q3, q4⟩ := q
  simp only at D1 hnn hns
  ((try refine CallT.toA ?_); refine callT_m (.inl ⟨rfl,rfl⟩) (by simp [go_sem]) ?_; intro args ha; simp [go_sem] at ha; subst ha; refine ⟨_, C4, ?_⟩; rintro _ rfl; simp [go_sem]; ((repeat' (first|(refine ag_x ?_;simp [go_sem])|intro _|apply And.intro|(apply Yh;clear Yh Y)));all_goals first|apply Hold.mk|omega|assumption|skip))
  (refine awp_sr fun Y Yh => ?_; simp [go_sem]; ((repeat' (first|(refine ag_x ?_;simp [go_sem])|intro _|apply And.intro|(apply Yh;clear Yh Y)));all_goals first|apply Hold.mk|omega|assumption|skip))
  (refine awp_if fun T F hT hF => ?_; simp [go_sem]; refine hT ?_; clear hT hF T F)
  (refine awp_sr fun Y Yh => ?_; simp [go_sem]; ((repeat' (first|(refine ag_x ?_;simp [go_sem])|intro _|apply And.intro|(apply Yh;clear Yh Y)));all_goals first|apply Hold.mk|omega|assumption|skip))
  ((try refine CallT.toA ?_); refine callT_m (.inl ⟨rfl,rfl⟩) (by simp [go_sem]) ?_; intro args ha; simp [go_sem] at ha; subst ha; refine ⟨_, D1, ?_⟩; rintro _ rfl; simp [go_sem]; ((repeat' (first|(refine ag_x ?_;simp [go_sem])|intro _|apply And.intro|(apply Yh;clear Yh Y)));all_goals first|apply Hold.mk|omega|assumption|skip))
  refine awp_seq_k fun K3 hK3 => ?_
  cases hn : nmdV s4 with
  | none =>
   have := hnn hn
   subst this
   (refine awp_sr fun Y Yh => ?_; simp [go_sem]; ((repeat' (first|(refine ag_false ?_ ?_ ?_;(focus (simp [go_sem, undef];done));(focus (simp [go_sem];done));simp [go_sem])|(refine ag_x ?_;simp [go_sem, undef])|intro _|apply And.intro|(apply Yh;clear Yh Y)));all_goals first|apply Hold.mk|omega|assumption|skip))
   (refine awp_if fun T F hT hF => ?_; simp [go_sem]; refine hT ?_; clear hT hF T F)
   (refine awp_sr fun Y Yh => ?_; simp [go_sem]; ((repeat' (first|(refine ag_x ?_;simp [go_sem])|intro _|apply And.intro|(apply Yh;clear Yh Y)));all_goals first|apply Hold.mk|omega|assumption|skip))
   (refine awp_ret ?_; simp [go_sem])
   exact postK_fam (b := 1) (e := 114) (k := 2) (f := mP) rs 0 N.length _ hrl2 (by simp [go_sem]) (by simp)
  | some x =>
   obtain ⟨n, i, b⟩ := x
   have := hns n i b hn
   simp only [Prod.mk.injEq] at this
   obtain ⟨rfl, rfl, rfl, rfl⟩ := this
   rw [hn] at he
   simp only at he
   split at he
   ·rename_i h5
    rcases h13 with rfl | rfl
    ·have h5b : P = [] := by
      rcases h5 with h | h
      ·cases h
      ·exact h
     subst h5b
     (refine awp_sr fun Y Yh => ?_; simp [go_sem]; ((repeat' (first|(refine ag_x ?_;simp [go_sem])|intro _|apply And.intro|(apply Yh;clear Yh Y)));all_goals first|apply Hold.mk|omega|assumption|skip))
     (refine awp_if fun T F hT hF => ?_; simp [go_sem]; refine hT ?_; clear hT hF T F)
     (refine awp_sr fun Y Yh => ?_; simp [go_sem]; ((repeat' (first|(refine ag_x ?_;simp [go_sem])|intro _|apply And.intro|(apply Yh;clear Yh Y)));all_goals first|apply Hold.mk|omega|assumption|skip))
     (refine awp_ret ?_; simp [go_sem])
     exact postK_fam (b := 1) (e := 114) (k := 2) (f := mP) rs 0 N.length _ hrl2 (by simp [go_sem]) (by simp)
    ·(refine awp_sr fun Y Yh => ?_; simp [go_sem]; ((repeat' (first|(refine ag_false ?_ ?_ ?_;(focus (simp [go_sem, undef];done));(focus (simp [go_sem];done));simp [go_sem])|(refine ag_x ?_;simp [go_sem, undef])|intro _|apply And.intro|(apply Yh;clear Yh Y)));all_goals first|apply Hold.mk|omega|assumption|skip))
     (refine awp_if fun T F hT hF => ?_; simp [go_sem]; refine hT ?_; clear hT hF T F)
     (refine awp_sr fun Y Yh => ?_; simp [go_sem]; ((repeat' (first|(refine ag_x ?_;simp [go_sem])|intro _|apply And.intro|(apply Yh;clear Yh Y)));all_goals first|apply Hold.mk|omega|assumption|skip))
     (refine awp_ret ?_; simp [go_sem])
     exact postK_fam (b := 1) (e := 114) (k := 2) (f := mP) rs 0 N.length _ hrl2 (by simp [go_sem]) (by simp)
   ·cases he
 ·rw [if_neg h4] at he
  have h4' : pre4.isPrefixOf s = false := by
   cases h : pre4.isPrefixOf s with
   | false => rfl
   | true => exact absurd h h4
  rw [if_neg h4, h4'] at C4
  by_cases h2 : pre2.isPrefixOf s = true
  ·rw [if_pos h2] at he
   rw [if_pos h2, h2] at C2
   have D1 := named_spec (s.drop pre2.length) (by rw [List.length_drop]; omega)
   have hnn := @named_none (s.drop pre2.length)
   have hns := fun n i b => @named_some (s.drop pre2.length) n i b
   rw [show s.drop 2 = s.drop pre2.length from rfl] at he
   generalize s.drop pre2.length = s2 at *
   generalize namedP s2 = q at *
   obtain ⟨q1, q2, q3, q4⟩ := q
   simp only at D1 hnn hns
   ((try refine CallT.toA ?_); refine callT_m (.inl ⟨rfl,rfl⟩) (by simp [go_sem]) ?_; intro args ha; simp [go_sem] at ha; subst ha; refine ⟨_, C4, ?_⟩; rintro _ rfl; simp [go_sem]; ((repeat' (first|(refine ag_x ?_;simp [go_sem])|intro _|apply And.intro|(apply Yh;clear Yh Y)));all_goals first|apply Hold.mk|omega|assumption|skip))
   (refine awp_sr fun Y Yh => ?_; simp [go_sem]; ((repeat' (first|(refine ag_x ?_;simp [go_sem])|intro _|apply And.intro|(apply Yh;clear Yh Y)));all_goals first|apply Hold.mk|omega|assumption|skip))
   (refine awp_if fun T F hT hF => ?_; simp [go_sem]; refine hF ?_; clear hT hF T F)
   refine awp_skip ?_
   refine hK1 _ ?_; clear hK1
   (refine awp_sr fun Y Yh => ?_; simp [go_sem]; ((repeat' (first|(refine ag_x ?_;simp [go_sem])|intro _|apply And.intro|(apply Yh;clear Yh Y)));all_goals first|apply Hold.mk|omega|assumption|skip))
   ((try refine CallT.toA ?_); refine callT_m (.inl ⟨rfl,rfl⟩) (by simp [go_sem]) ?_; intro args ha; simp [go_sem] at ha; subst ha; refine ⟨_, C2, ?_⟩; rintro _ rfl; simp [go_sem]; ((repeat' (first|(refine ag_x ?_;simp [go_sem])|intro _|apply And.intro|(apply Yh;clear Yh Y)));all_goals first|apply Hold.mk|omega|assumption|skip))
   (refine awp_sr fun Y Yh => ?_; simp [go_sem]; ((repeat' (first|(refine ag_x ?_;simp [go_sem])|intro _|apply And.intro|(apply Yh;clear Yh Y)));all_goals first|apply Hold.mk|omega|assumption|skip))
   ((try refine CallT.toA ?_); refine callT_m (.inl ⟨rfl,rfl⟩) (by simp [go_sem]) ?_; intro args ha; simp [go_sem] at ha; subst ha; refine ⟨_, D1, ?_⟩; rintro _ rfl; simp [go_sem]; ((repeat' (first|(refine ag_x ?_;simp [go_sem])|intro _|apply And.intro|(apply Yh;clear Yh Y)));all_goals first|apply Hold.mk|omega|assumption|skip))
   refine awp_seq_k fun K5 hK5 => ?_
   cases hn : nmdV s2 with
   | none =>
    have := hnn hn
    subst this
    refine awp_block ?_
    (refine awp_sr fun Y Yh => ?_; simp [go_sem, undef]; ((repeat' (first|(refine ag_false ?_ ?_ ?_;(focus (simp [go_sem, undef, undef];done));(focus (simp [go_sem];done));simp [go_sem, undef])|(refine ag_x ?_;simp [go_sem, undef, undef])|intro _|apply And.intro|(apply Yh;clear Yh Y)));all_goals first|apply Hold.mk|omega|assumption|skip))
    (refine awp_if fun T F hT hF => ?_; simp [go_sem]; refine hT ?_; clear hT hF T F)
    (refine awp_sr fun Y Yh => ?_; simp [go_sem]; ((repeat' (first|(refine ag_x ?_;simp [go_sem])|intro _|apply And.intro|(apply Yh;clear Yh Y)));all_goals first|apply Hold.mk|omega|assumption|skip))
    (refine awp_ret ?_; simp [go_sem])
    exact postK_fam (b := 1) (e := 114) (k := 2) (f := mP) rs 0 N.length _ hrl2 (by simp [go_sem]) (by simp)
   | some x =>
    obtain ⟨n, i, b⟩ := x
    have := hns n i b hn
    simp only [Prod.mk.injEq] at this
    obtain ⟨rfl, rfl, rfl, rfl⟩ := this
    rw [hn] at he
    rcases h13 with rfl | rfl
    ·cases q3 with
     | true => simp at he
     | false =>
      refine awp_block ?_
      (refine awp_sr fun Y Yh => ?_; simp [go_sem]; ((repeat' (first|(refine ag_x ?_;simp [go_sem])|intro _|apply And.intro|(apply Yh;clear Yh Y)));all_goals first|apply Hold.mk|omega|assumption|skip))
      (refine awp_if fun T F hT hF => ?_; simp [go_sem]; refine hT ?_; clear hT hF T F)
      (refine awp_sr fun Y Yh => ?_; simp [go_sem]; ((repeat' (first|(refine ag_x ?_;simp [go_sem])|intro _|apply And.intro|(apply Yh;clear Yh Y)));all_goals first|apply Hold.mk|omega|assumption|skip))
      (refine awp_ret ?_; simp [go_sem])
      exact postK_fam (b := 1) (e := 114) (k := 2) (f := mP) rs 0 N.length _ hrl2 (by simp [go_sem]) (by simp)
    ·simp at he
  ·have h2' : pre2.isPrefixOf s = false := by
    cases h : pre2.isPrefixOf s with
    | false => rfl
    | true => exact absurd h h2
   rw [if_neg h2, h2'] at C2
   have D1 := named_spec s (by omega)
   generalize namedP s = q at *
   obtain ⟨q1, q2, q3, q4⟩ := q
   ((try refine CallT.toA ?_); refine callT_m (.inl ⟨rfl,rfl⟩) (by simp [go_sem]) ?_; intro args ha; simp [go_sem] at ha; subst ha; refine ⟨_, C4, ?_⟩; rintro _ rfl; simp [go_sem]; ((repeat' (first|(refine ag_x ?_;simp [go_sem])|intro _|apply And.intro|(apply Yh;clear Yh Y)));all_goals first|apply Hold.mk|omega|assumption|skip))
   (refine awp_sr fun Y Yh => ?_; simp [go_sem]; ((repeat' (first|(refine ag_x ?_;simp [go_sem])|intro _|apply And.intro|(apply Yh;clear Yh Y)));all_goals first|apply Hold.mk|omega|assumption|skip))
   (refine awp_if fun T F hT hF => ?_; simp [go_sem]; refine hF ?_; clear hT hF T F)
   refine awp_skip ?_
   refine hK1 _ ?_; clear hK1
   (refine awp_sr fun Y Yh => ?_; simp [go_sem]; ((repeat' (first|(refine ag_x ?_;simp [go_sem])|intro _|apply And.intro|(apply Yh;clear Yh Y)));all_goals first|apply Hold.mk|omega|assumption|skip))
   ((try refine CallT.toA ?_); refine callT_m (.inl ⟨rfl,rfl⟩) (by simp [go_sem]) ?_; intro args ha; simp [go_sem] at ha; subst ha; refine ⟨_, C2, ?_⟩; rintro _ rfl; simp [go_sem]; ((repeat' (first|(refine ag_x ?_;simp [go_sem])|intro _|apply And.intro|(apply Yh;clear Yh Y)));all_goals first|apply Hold.mk|omega|assumption|skip))
   (refine awp_sr fun Y Yh => ?_; simp [go_sem]; ((repeat' (first|(refine ag_x ?_;simp [go_sem])|intro _|apply And.intro|(apply Yh;clear Yh Y)));all_goals first|apply Hold.mk|omega|assumption|skip))
   ((try refine CallT.toA ?_); refine callT_m (.inl ⟨rfl,rfl⟩) (by simp [go_sem]) ?_; intro args ha; simp [go_sem] at ha; subst ha; refine ⟨_, D1, ?_⟩; rintro _ rfl; simp [go_sem]; ((repeat' (first|(refine ag_x ?_;simp [go_sem])|intro _|apply And.intro|(apply Yh;clear Yh Y)));all_goals first|apply Hold.mk|omega|assumption|skip))
   refine awp_seq_k fun K5 hK5 => ?_
   refine awp_block ?_
   (refine awp_sr fun Y Yh => ?_; simp [go_sem, undef]; ((repeat' (first|(refine ag_false ?_ ?_ ?_;(focus (simp [go_sem, undef, undef];done));(focus (simp [go_sem];done));simp [go_sem, undef])|(refine ag_x ?_;simp [go_sem, undef, undef])|intro _|apply And.intro|(apply Yh;clear Yh Y)));all_goals first|apply Hold.mk|omega|assumption|skip))
   (refine awp_if fun T F hT hF => ?_; simp [go_sem]; refine hT ?_; clear hT hF T F)
   (refine awp_sr fun Y Yh => ?_; simp [go_sem]; ((repeat' (first|(refine ag_x ?_;simp [go_sem])|intro _|apply And.intro|(apply Yh;clear Yh Y)));all_goals first|apply Hold.mk|omega|assumption|skip))
   (refine awp_ret ?_; simp [go_sem])
   exact postK_fam (b := 1) (e := 114) (k := 2) (f := mP) rs 0 N.length _ hrl2 (by simp [go_sem]) (by simp)
theorem line_len {p p' : PS} {s : Bs} (he : lineV p s = some p') : p.needs.length ≤ p'.needs.length := by
 unfold lineV at he
 split at he
 ·split at he
  ·simp only [Option.some.injEq] at he; subst he; exact Nat.le_refl _
  ·cases he
 ·split at he
  ·simp only [Option.some.injEq] at he; subst he; exact Nat.le_refl _
  ·exact entry_len he
 ·split at he
  ·simp only [Option.some.injEq] at he; subst he; exact Nat.le_refl _
  ·cases he
 ·split at he
  ·simp only [Option.some.injEq] at he; subst he; exact Nat.le_refl _
  ·exact entry_len he
 ·split at he
  ·simp only [Option.some.injEq] at he; subst he; exact Nat.le_refl _
  ·cases he
 ·cases he
set_option maxHeartbeats 8000000 in
theorem line1_ok (P W : List Prs) (N : List (List Prs)) (sum : Bs) (p' : PS) (s : Bs) (gb gp gn gw : Nat) (rs : List (Nat × List Prs)) (hp : PsOk ⟨1, P, N, W, sum⟩ rs) (hl : s.length ≤ 1000000) (he : lineV ⟨1, P, N, W, sum⟩ s = some p') :
  ACall Tryz.prog 118 [.ptr 900002 gb 0, dS s] (rdH ⟨1, P, N, W, sum⟩ gb gp gn gw rs) (900002 :: 900003 :: 900004 :: 900005 :: famS 1 0 p'.needs.length)
   fun ps r => ∃ gp' gn' gw' rs', rs'.map (·.2) = p'.needs ∧ ps = (gb, .box [dI p'.part, .own 900003 gp', .own 900004 gn', .own 900005 gw', dS p'.sum]) :: (gp', .row 41 2 (p'.picks.map cP)) :: (gn', .row 38 1 (famO 1 0 rs')) :: (gw', .row 114 2 (p'.wish.map cP)) :: famP 114 2 mP rs' ∧ r = dB true := by 
 refine acall_of Tryz.func118 rfl rfl Tryz.ntmps118 (rs := [.tmp 4]) (tys := [4]) rfl rfl (by simp) ?_ ?_
 ·exact rdH_ok _ gb gp gn gw rs _ (by have h1 := line_len he; have h2 := congrArg List.length hp.en; simp only [List.length_map] at h1 h2; omega)
 have hq := hp
 obtain ⟨hrs, hnl, hpl, hwl, hrl⟩ := hp
 simp only at hrs hnl hpl hwl hrl
 have hrl2 := congrArg List.length hrs
 simp only [List.length_map] at hrl2
 simp only [lineV] at he
 (refine awp_sr fun Y Yh => ?_; simp [go_sem]; ((repeat' (first|(refine ag_x ?_;simp [go_sem])|intro _|apply And.intro|(apply Yh;clear Yh Y)));all_goals first|apply Hold.mk|omega|assumption|skip))
 refine awp_seq_k fun K1 hK1 => ?_
 (refine awp_sr fun Y Yh => ?_; simp [go_sem]; ((repeat' (first|(refine ag_x ?_;simp [go_sem])|intro _|apply And.intro|(apply Yh;clear Yh Y)));all_goals first|apply Hold.mk|omega|assumption|skip))
 refine awp_block ?_
 refine awp_seq_k fun K2 hK2 => ?_
 (refine awp_sr fun Y Yh => ?_; simp [go_sem]; ((repeat' (first|(refine ag_x ?_;simp [go_sem])|intro _|apply And.intro|(apply Yh;clear Yh Y)));all_goals first|apply Hold.mk|omega|assumption|skip))
 (refine awp_if fun T F hT hF => ?_; simp [go_sem]; refine hF ?_; clear hT hF T F)
 (refine awp_r fun Y Yh => ?_; simp [go_sem]; ((repeat' (first|(refine ag_x ?_;simp [go_sem])|intro _|apply And.intro|(apply Yh;clear Yh Y)));all_goals first|apply Hold.mk|omega|assumption|skip))
 refine hK2 _ ?_; clear hK2
 (refine awp_if fun T F hT hF => ?_; simp [go_sem]; refine hF ?_; clear hT hF T F)
 refine awp_seq_k fun K4 hK4 => ?_
 (refine awp_sr fun Y Yh => ?_; simp [go_sem]; ((repeat' (first|(refine ag_x ?_;simp [go_sem])|intro _|apply And.intro|(apply Yh;clear Yh Y)));all_goals first|apply Hold.mk|omega|assumption|skip))
 (refine awp_if fun T F hT hF => ?_; simp [go_sem]; refine hT ?_; clear hT hF T F)
 refine awp_skip ?_
 refine hK4 _ ?_; clear hK4
 (refine awp_if fun T F hT hF => ?_; simp [go_sem]; refine hT ?_; clear hT hF T F)
 refine awp_seq_k fun K6 hK6 => ?_
 split at he
 ·rename_i h1
  subst h1
  simp only [Option.some.injEq] at he
  subst he
  (refine awp_sr fun Y Yh => ?_; simp [go_sem]; ((repeat' (first|(refine ag_x ?_;simp [go_sem])|intro _|apply And.intro|(apply Yh;clear Yh Y)));all_goals first|apply Hold.mk|omega|assumption|skip))
  (refine awp_if fun T F hT hF => ?_; simp [go_sem]; refine hT ?_; clear hT hF T F)
  (refine awp_sr fun Y Yh => ?_; simp [go_sem]; ((repeat' (first|(refine ag_x ?_;simp [go_sem])|intro _|apply And.intro|(apply Yh;clear Yh Y)));all_goals first|apply Hold.mk|omega|assumption|skip))
  (refine awp_sr fun Y Yh => ?_; simp [go_sem]; ((repeat' (first|(refine ag_x ?_;simp [go_sem])|intro _|apply And.intro|(apply Yh;clear Yh Y)));all_goals first|apply Hold.mk|omega|assumption|skip))
  (refine awp_ret ?_; simp [go_sem])
  refine postK_fam (b := 1) (e := 114) (k := 2) (f := mP) rs 0 N.length _ hrl2 (by simp [go_sem]) ?_
  exact ⟨gp, gn, gw, rs, hrs, by simp⟩
 ·rename_i h1
  have h1' : s.isEmpty = false := by cases s with
   | nil => exact absurd rfl h1
   | cons => rfl
  (refine awp_sr fun Y Yh => ?_; simp [go_sem]; ((repeat' (first|(refine ag_x ?_;simp [go_sem])|intro _|apply And.intro|(apply Yh;clear Yh Y)));all_goals first|apply Hold.mk|omega|assumption|skip))
  (refine awp_if fun T F hT hF => ?_; simp [go_sem, h1, h1']; refine hF ?_; clear hT hF T F)
  refine awp_skip ?_
  refine hK6 _ ?_; clear hK6
  (refine awp_sr fun Y Yh => ?_; simp [go_sem]; ((repeat' (first|(refine ag_x ?_;simp [go_sem])|intro _|apply And.intro|(apply Yh;clear Yh Y)));all_goals first|apply Hold.mk|omega|assumption|skip))
  (refine callA_l (900002 :: 900003 :: 900004 :: 900005 :: famS 1 0 p'.needs.length) (.inl ⟨rfl,rfl⟩) (by simp [go_sem]) ?_; intro args ha; simp [go_sem] at ha; subst ha; refine ⟨_, _, (entry_ok _ _ s gb gp gn gw rs hq hl (.inl rfl) he), (by simp [go_sem]), ?_⟩; rintro ps r hps ⟨gp', gn', gw', rs', hrs', rfl, rfl⟩; simp [go_sem]; ((repeat' (first|(refine ag_x ?_;simp [go_sem])|intro _|apply And.intro|(apply Yh;clear Yh Y)));all_goals first|apply Hold.mk|omega|assumption|skip))
  have hsl := congrArg List.length hrs'
  simp only [List.length_map] at hsl
  rw [putPs_fam (b := 1) (e := 114) (k := 2) (f := mP) rs' 0 _ hsl]
  (refine awp_ret ?_; simp [go_sem])
  refine postK_fam (b := 1) (e := 114) (k := 2) (f := mP) rs' 0 _ _ hsl (by simp [go_sem]; exact FamIn.app _ _) ?_
  exact ⟨gp', gn', gw', rs', hrs', by simp⟩
set_option maxHeartbeats 8000000 in
theorem line3_ok (P W : List Prs) (N : List (List Prs)) (sum : Bs) (p' : PS) (s : Bs) (gb gp gn gw : Nat) (rs : List (Nat × List Prs)) (hp : PsOk ⟨3, P, N, W, sum⟩ rs) (hl : s.length ≤ 1000000) (he : lineV ⟨3, P, N, W, sum⟩ s = some p') :
  ACall Tryz.prog 118 [.ptr 900002 gb 0, dS s] (rdH ⟨3, P, N, W, sum⟩ gb gp gn gw rs) (900002 :: 900003 :: 900004 :: 900005 :: famS 1 0 p'.needs.length)
   fun ps r => ∃ gp' gn' gw' rs', rs'.map (·.2) = p'.needs ∧ ps = (gb, .box [dI p'.part, .own 900003 gp', .own 900004 gn', .own 900005 gw', dS p'.sum]) :: (gp', .row 41 2 (p'.picks.map cP)) :: (gn', .row 38 1 (famO 1 0 rs')) :: (gw', .row 114 2 (p'.wish.map cP)) :: famP 114 2 mP rs' ∧ r = dB true := by 
 refine acall_of Tryz.func118 rfl rfl Tryz.ntmps118 (rs := [.tmp 4]) (tys := [4]) rfl rfl (by simp) ?_ ?_
 ·exact rdH_ok _ gb gp gn gw rs _ (by have h1 := line_len he; have h2 := congrArg List.length hp.en; simp only [List.length_map] at h1 h2; omega)
 have hq := hp
 obtain ⟨hrs, hnl, hpl, hwl, hrl⟩ := hp
 simp only at hrs hnl hpl hwl hrl
 have hrl2 := congrArg List.length hrs
 simp only [List.length_map] at hrl2
 simp only [lineV] at he
 (refine awp_sr fun Y Yh => ?_; simp [go_sem]; ((repeat' (first|(refine ag_x ?_;simp [go_sem])|intro _|apply And.intro|(apply Yh;clear Yh Y)));all_goals first|apply Hold.mk|omega|assumption|skip))
 refine awp_seq_k fun K1 hK1 => ?_
 (refine awp_sr fun Y Yh => ?_; simp [go_sem]; ((repeat' (first|(refine ag_x ?_;simp [go_sem])|intro _|apply And.intro|(apply Yh;clear Yh Y)));all_goals first|apply Hold.mk|omega|assumption|skip))
 refine awp_block ?_
 refine awp_seq_k fun K2 hK2 => ?_
 (refine awp_sr fun Y Yh => ?_; simp [go_sem]; ((repeat' (first|(refine ag_x ?_;simp [go_sem])|intro _|apply And.intro|(apply Yh;clear Yh Y)));all_goals first|apply Hold.mk|omega|assumption|skip))
 (refine awp_if fun T F hT hF => ?_; simp [go_sem]; refine hF ?_; clear hT hF T F)
 (refine awp_r fun Y Yh => ?_; simp [go_sem]; ((repeat' (first|(refine ag_x ?_;simp [go_sem])|intro _|apply And.intro|(apply Yh;clear Yh Y)));all_goals first|apply Hold.mk|omega|assumption|skip))
 refine hK2 _ ?_; clear hK2
 (refine awp_if fun T F hT hF => ?_; simp [go_sem]; refine hF ?_; clear hT hF T F)
 refine awp_seq_k fun K4 hK4 => ?_
 (refine awp_sr fun Y Yh => ?_; simp [go_sem]; ((repeat' (first|(refine ag_x ?_;simp [go_sem])|intro _|apply And.intro|(apply Yh;clear Yh Y)));all_goals first|apply Hold.mk|omega|assumption|skip))
 (refine awp_if fun T F hT hF => ?_; simp [go_sem]; refine hF ?_; clear hT hF T F)
 (refine awp_r fun Y Yh => ?_; simp [go_sem]; ((repeat' (first|(refine ag_x ?_;simp [go_sem])|intro _|apply And.intro|(apply Yh;clear Yh Y)));all_goals first|apply Hold.mk|omega|assumption|skip))
 refine hK4 _ ?_; clear hK4
 (refine awp_if fun T F hT hF => ?_; simp [go_sem]; refine hT ?_; clear hT hF T F)
 refine awp_seq_k fun K6 hK6 => ?_
 split at he
 ·rename_i h1
  subst h1
  simp only [Option.some.injEq] at he
  subst he
  (refine awp_sr fun Y Yh => ?_; simp [go_sem]; ((repeat' (first|(refine ag_x ?_;simp [go_sem])|intro _|apply And.intro|(apply Yh;clear Yh Y)));all_goals first|apply Hold.mk|omega|assumption|skip))
  (refine awp_if fun T F hT hF => ?_; simp [go_sem]; refine hT ?_; clear hT hF T F)
  (refine awp_sr fun Y Yh => ?_; simp [go_sem]; ((repeat' (first|(refine ag_x ?_;simp [go_sem])|intro _|apply And.intro|(apply Yh;clear Yh Y)));all_goals first|apply Hold.mk|omega|assumption|skip))
  (refine awp_sr fun Y Yh => ?_; simp [go_sem]; ((repeat' (first|(refine ag_x ?_;simp [go_sem])|intro _|apply And.intro|(apply Yh;clear Yh Y)));all_goals first|apply Hold.mk|omega|assumption|skip))
  (refine awp_ret ?_; simp [go_sem])
  refine postK_fam (b := 1) (e := 114) (k := 2) (f := mP) rs 0 N.length _ hrl2 (by simp [go_sem]) ?_
  exact ⟨gp, gn, gw, rs, hrs, by simp⟩
 ·rename_i h1
  have h1' : s.isEmpty = false := by cases s with
   | nil => exact absurd rfl h1
   | cons => rfl
  (refine awp_sr fun Y Yh => ?_; simp [go_sem]; ((repeat' (first|(refine ag_x ?_;simp [go_sem])|intro _|apply And.intro|(apply Yh;clear Yh Y)));all_goals first|apply Hold.mk|omega|assumption|skip))
  (refine awp_if fun T F hT hF => ?_; simp [go_sem, h1, h1']; refine hF ?_; clear hT hF T F)
  refine awp_skip ?_
  refine hK6 _ ?_; clear hK6
  (refine awp_sr fun Y Yh => ?_; simp [go_sem]; ((repeat' (first|(refine ag_x ?_;simp [go_sem])|intro _|apply And.intro|(apply Yh;clear Yh Y)));all_goals first|apply Hold.mk|omega|assumption|skip))
  (refine callA_l (900002 :: 900003 :: 900004 :: 900005 :: famS 1 0 p'.needs.length) (.inl ⟨rfl,rfl⟩) (by simp [go_sem]) ?_; intro args ha; simp [go_sem] at ha; subst ha; refine ⟨_, _, (entry_ok _ _ s gb gp gn gw rs hq hl (.inr rfl) he), (by simp [go_sem]), ?_⟩; rintro ps r hps ⟨gp', gn', gw', rs', hrs', rfl, rfl⟩; simp [go_sem]; ((repeat' (first|(refine ag_x ?_;simp [go_sem])|intro _|apply And.intro|(apply Yh;clear Yh Y)));all_goals first|apply Hold.mk|omega|assumption|skip))
  have hsl := congrArg List.length hrs'
  simp only [List.length_map] at hsl
  rw [putPs_fam (b := 1) (e := 114) (k := 2) (f := mP) rs' 0 _ hsl]
  (refine awp_ret ?_; simp [go_sem])
  refine postK_fam (b := 1) (e := 114) (k := 2) (f := mP) rs' 0 _ _ hsl (by simp [go_sem]; exact FamIn.app _ _) ?_
  exact ⟨gp', gn', gw', rs', hrs', by simp⟩
end Go.Proofs.YteekfnhhlcmcgaaGreatDoor
