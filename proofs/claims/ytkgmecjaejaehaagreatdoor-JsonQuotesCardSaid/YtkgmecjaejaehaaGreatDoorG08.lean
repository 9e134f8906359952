/- Part of a proof: see the last text. -/
import Derived.Test.YtkgmecjaejaehaaGreatDoorG06
import Derived.Test.YtkgmecjaejaehaaGreatDoorG07
import Derived.Test.YtkgmecjaejaehaaGreatDoorG05
import Derived.Shelf.Unicode.ValidAny
import Derived.Lib.SlicesCompact
import Derived.Shelf.SlGeneric
import Derived.Shelf.SlIter.Nil
import Derived.Shelf.SortM.Plain
import Derived.Shelf.SortM.SortNone
import Derived.Test.YtkgmecjaejaehaaGreatDoorProg
import Derived.Lib.ConvBytes
import Derived.Shelf.Abstract
import Derived.Shelf.SlIter.Sorted
set_option linter.unusedVariables false
set_option linter.unusedSimpArgs false
namespace Go.Proofs.YtkgmecjaejaehaaGreatDoor
open Go.Eng Go.Js
set_option maxRecDepth 20000
attribute [local irreducible] AG CallA CallT AWp ACall XCall AgC AWpD
def parO (s : Bs) : JV × Nat × Nat :=
 match parV s (numR s) with
 | .ok v _ _ => (v, 0, 0)
 | .bad p e => (.mk 0 [] [] [], p, e)
theorem parse_long (s : Bs) (h : 100000 < s.length) (hl : s.length ≤ 9223372036854775807) : PCall Tryz.prog 14 [dS s] fun r => r = .tup [dJ (parO s).1, dI (parO s).2.1, dI (parO s).2.2] := by
 refine pcall_of Tryz.func14 rfl rfl Tryz.ntmps14 (rs := [.cell 2 26, .cell 3 3, .cell 4 27]) (tys := [26, 3, 27]) rfl rfl (by simp) ?_
 have e : parO s = (.mk 0 [] [] [], 0, 2) := by unfold parO parV; rw [if_pos h]
 rw [e]
 have h1 : (100000 : Int) < s.length := by omega
 (refine awp_sr fun Y Yh => ?_; simp [go_sem]; ((repeat' (first|(refine ag_x ?_;simp [go_sem])|intro _|apply And.intro|(apply Yh;clear Yh Y)));all_goals first|apply Hold.mk|omega|with_reducible assumption|skip))
 refine awp_seq_k fun K1 hK1 => ?_
 (refine awp_sr fun Y Yh => ?_; simp [go_sem]; ((repeat' (first|(refine ag_x ?_;simp [go_sem])|intro _|apply And.intro|(apply Yh;clear Yh Y)));all_goals first|apply Hold.mk|omega|with_reducible assumption|skip))
 (refine awp_if fun T F hT hF => ?_; simp [go_sem, h1]; refine hT ?_; clear hT hF T F)
 (refine awp_sr fun Y Yh => ?_; simp [go_sem]; ((repeat' (first|(refine ag_x ?_;simp [go_sem])|intro _|apply And.intro|(apply Yh;clear Yh Y)));all_goals first|apply Hold.mk|omega|with_reducible assumption|skip))
 (refine awp_ret ?_; simp [go_sem])
 simp [dJ_mk]
abbrev esP (g2 g3 g4 : Nat) (c : List D) (x y : D) : List (Nat × (Nat × Blk)) := [(900010, (g2, .box c)), (900011, (g3, .box [x])), (900012, (g4, .box [y]))]
def endP (s : Bs) (g2 g3 g4 : Nat) : Exit → St → Prop
 | .ret, S => ∃ v m, parV s (numR s) = .ok v 0 m ∧ Cov S ⟨[(2, .ptr 900010 g2 0), (3, .ptr 900011 g3 0), (4, .ptr 900012 g4 0)], esP g2 g3 g4 (cJ v) (dI 0) (dI 0)⟩
 | .panic ch, S => XR (parV s (numR s)) ch ∧ ∃ c, c.length = 4 ∧ Cov S ⟨[(2, .ptr 900010 g2 0), (3, .ptr 900011 g3 0), (4, .ptr 900012 g4 0)], esP g2 g3 g4 c (dI 0) (dI 0)⟩
 | _, _ => False
set_option maxHeartbeats 16000000 in
theorem parse_short (s : Bs) (h : s.length ≤ 100000) : PCall Tryz.prog 14 [dS s] fun r => r = .tup [dJ (parO s).1, dI (parO s).2.1, dI (parO s).2.2] := by
 refine ⟨⟨_, Tryz.func14, rfl, rfl⟩, fun C w us hc hg hr => ?_⟩
 obtain rfl := repL_v (us := [.string ⟨s.toArray⟩]) hr
 refine calls_of_wp_defers Tryz.func14 rfl ?_
 have I : Inv w (fun _ _ => False) C 32 ⟨[(0, dS s)], []⟩ C { tmps := #[.string ⟨s.toArray⟩] ++ Array.replicate (Tryz.f14.ntmps - #[Value.string ⟨s.toArray⟩].size) undef, defers := [] } w := by
  refine ⟨by simp [Tryz.ntmps14], rfl, fun k d hk => ?_, fun s g b hb => by simp [Eng.look] at hb, fun s g b x u hx => by simp [Eng.look] at hx, hc.apart, hc.bound, hc.fresh, Frm.refl _ _, fun _ _ _ h => h, fun _ _ h => h, fun _ _ _ _ h _ => h,
   fun s g x y hx => by simp [Eng.look] at hx, fun _ _ _ _ h => h, fun s g u b h1 h2 h3 => hc.bound s g u b h1 h2 h3⟩
  simp only [Eng.look] at hk
  split at hk
  ·rename_i e
   subst e
   simp only [Option.some.injEq] at hk
   subst hk
   exact ⟨_, by simp, .v _⟩
  ·cases hk
 have E : Env Tryz.prog w (fun _ _ => False) C := ⟨hg, fun _ _ h => h.elim⟩
 have eqa : ∀ (b : Act), b.defers = [] → apD b [] = b := fun b hb => by cases b; simp_all [apD]
 generalize ha0 : ({ tmps := #[.string ⟨s.toArray⟩] ++ Array.replicate (Tryz.f14.ntmps - #[Value.string ⟨s.toArray⟩].size) undef, defers := [] } : Act) = a0 at I ⊢
 clear ha0
 rw [← eqa a0 I.defers]
 
 refine awpd_go (K := fun S' => ∃ g2 g3 g4, Cov S' ⟨[(0, dS s), (2, .ptr 2 g2 0), (3, .ptr 3 g3 0), (4, .ptr 4 g4 0)], [(2, (g2, .box [dI 0, dS [], .v (.slice none 0 0), .v (.slice none 0 0)])), (3, (g3, .box [dI 0])), (4, (g4, .box [dI 0]))]⟩) E I ?_ ?_
 ·refine awpd_r fun Y Yh => ?_
  simp [go_sem]
  intro g2 g3 g4
  apply Yh
  refine Hold.mk ⟨rfl, g2, g3, g4, ?_⟩
  (refine cov_of ?_ ?_ <;> simp [go_sem])
 rintro S1 C1 a1 w1 ⟨g2, g3, g4, hS⟩ I1
 replace I1 := I1.cov hS
 clear hS I
 
 refine awpd_go (K := fun S' => Cov S' ⟨[(0, dS s), (2, .ptr 2 g2 0), (3, .ptr 3 g3 0), (4, .ptr 4 g4 0)], [(2, (g2, .box [dI 0, dS [], .v (.slice none 0 0), .v (.slice none 0 0)])), (3, (g3, .box [dI 0])), (4, (g4, .box [dI 0]))]⟩) E I1 ?_ ?_
 ·have h1 : ¬ (100000 : Int) < s.length := by omega
  refine awpd_sr fun Y Yh => ?_
  simp [go_sem]
  apply Yh
  refine Hold.mk ?_
  refine awpd_cond ?_
  simp [go_sem, h1]
  refine awpd_skip ⟨rfl, ?_⟩
  (refine cov_of ?_ ?_ <;> simp [go_sem])
 rintro S2 C2 a2 w2 hS I2
 replace I2 := I2.cov hS
 clear hS I1
 obtain ⟨h2, C3, I3⟩ := I2.renbox 2 900010 rfl rfl (by decide)
 obtain ⟨h3, C4, I4⟩ := I3.renbox 3 900011 rfl rfl (by decide)
 obtain ⟨h4, C5, I5⟩ := I4.renbox 4 900012 rfl rfl (by decide)
 have I6 := I5.cov (S' := ⟨[(0, dS s), (2, .ptr 900010 h2 0), (3, .ptr 900011 h3 0), (4, .ptr 900012 h4 0)], esP h2 h3 h4 [dI 0, dS [], .v (.slice none 0 0), .v (.slice none 0 0)] (dI 0) (dI 0)⟩) (by (refine cov_of ?_ ?_ <;> simp [go_sem, St.drop]))
 clear I2 I3 I4 I5
 
 obtain ⟨u2, t2, r2⟩ := I6.slots 2 _ rfl
 obtain ⟨u3, t3, r3⟩ := I6.slots 3 _ rfl
 obtain ⟨u4, t4, r4⟩ := I6.slots 4 _ rfl
 cases r2 with
 | ptr _ _ _ b2 v2 =>
 cases r3 with
 | ptr _ _ _ b3 v3 =>
 cases r4 with
 | ptr _ _ _ b4 v4 =>
 rw [eqa a2 I6.defers]
 have hsz := I6.size
 refine wp_seq ?_
 refine wp_region_lit (l := [_, _]) ?_
 refine wpList_step fun K' hK' => ?_
 rw [if_pos (by simp [Region.wanted])]
 refine wp_val (u := .func (.func 37) #[] #[.pointer (some ⟨b2, 0, none⟩), .pointer (some ⟨b3, 0, none⟩), .pointer (some ⟨b4, 0, none⟩)]) (w' := w2) (by simp [execOp, Act.eval, t2, t3, t4]; rfl) ?_
 refine hK' _ _ ?_
 clear hK' K'
 refine wpList_step fun K' hK' => ?_
 rw [if_pos (by simp [Region.wanted])]
 unfold Oper.wp
 have hrun : (execOp (a2.put (some 10) (.func (.func 37) #[] #[.pointer (some ⟨b2, 0, none⟩), .pointer (some ⟨b3, 0, none⟩), .pointer (some ⟨b4, 0, none⟩)])).eval ⟨none, .defer { callee := .value (.tmp 10), args := #[], argTypes := #[] }, 0, "parse.go:254", #[{ on := 0, ground := Ground.data }], none⟩).run Tryz.prog w2 =
   .ok (.defer { target := .fn (.func 37) #[.pointer (some ⟨b2, 0, none⟩), .pointer (some ⟨b3, 0, none⟩), .pointer (some ⟨b4, 0, none⟩)], args := #[] }) w2 := by
  simp [execOp, resolve, Act.eval, Act.put, hsz, Deferred.ofValue]
 rw [hrun]
 refine hK' _ _ ?_
 clear hK' K' hrun
 refine wpList_nil ?_
 have I7 := (I6.put (t := 10) (d := .v (.func (.func 37) #[] #[.pointer (some ⟨b2, 0, none⟩), .pointer (some ⟨b3, 0, none⟩), .pointer (some ⟨b4, 0, none⟩)])) (by decide) (.v _)).cov (S' := ⟨[(0, dS s), (2, .ptr 900010 h2 0), (3, .ptr 900011 h3 0), (4, .ptr 900012 h4 0)], esP h2 h3 h4 [dI 0, dS [], .v (.slice none 0 0), .v (.slice none 0 0)] (dI 0) (dI 0)⟩) (by (refine cov_of ?_ ?_ <;> simp [go_sem]))
 clear I6
 have ed : a2.defers = [] := I7.defers
 generalize hdd : ({ target := .fn (.func 37) #[.pointer (some ⟨b2, 0, none⟩), .pointer (some ⟨b3, 0, none⟩), .pointer (some ⟨b4, 0, none⟩)], args := #[] } : Deferred) = dd
 generalize hb3 : a2.put (some 10) (.func (.func 37) #[] #[.pointer (some ⟨b2, 0, none⟩), .pointer (some ⟨b3, 0, none⟩), .pointer (some ⟨b4, 0, none⟩)]) = a3 at I7 ⊢
 have e3 : (({ a3 with defers := dd :: a3.defers } : Act).put none undef) = apD a3 [dd] := by
  have := I7.defers
  cases a3; simp_all [apD, Act.put]
 show Code.wp _ _ _ (({ a3 with defers := dd :: a3.defers } : Act).put none undef) w2
 rw [e3]
 clear e3
 have hok1 := I7.ctxOk
 have hg1 := E.now I7
 have hent1 : ∀ s g b, Eng.look (esP h2 h3 h4 [dI 0, dS [], .v (.slice none 0 0), .v (.slice none 0 0)] (dI 0) (dI 0)) s = some (g, b) → HRep C5 w2 s g b := fun s g b h => I7.heap s g b h
 have hes9 : ∀ p ∈ esP h2 h3 h4 [dI 0, dS [], .v (.slice none 0 0), .v (.slice none 0 0)] (dI 0) (dI 0), 900000 ≤ p.1 := by simp
 have hnf : ∀ p ∈ esP h2 h3 h4 [dI 0, dS [], .v (.slice none 0 0), .v (.slice none 0 0)] (dI 0) (dI 0), notFroz p.2.2 = true := by simp [notFroz]
 have E1 := Env.start (P := Tryz.prog) hg1 hent1 hnf
 have I8 : Inv w2 (LentB (esP h2 h3 h4 [dI 0, dS [], .v (.slice none 0 0), .v (.slice none 0 0)] (dI 0) (dI 0))) C5 32 ⟨[(0, dS s), (2, .ptr 900010 h2 0), (3, .ptr 900011 h3 0), (4, .ptr 900012 h4 0)], esP h2 h3 h4 [dI 0, dS [], .v (.slice none 0 0), .v (.slice none 0 0)] (dI 0) (dI 0)⟩ C5 a3 w2 :=
  ⟨I7.size, I7.defers, I7.slots, fun s g b hb => hent1 s g b hb, fun s g b x u hx _ hv hbk => .inr ⟨⟨s, g, u, ⟨x, hx⟩, hv, hbk⟩, hes9 _ (look_mem hx)⟩, hok1.apart, hok1.bound, hok1.fresh, Frm.refl _ _, fun _ _ _ h => h, fun _ _ h => h, fun _ _ _ _ h _ => h,
   fun s g x y hx _ => ⟨x, hx⟩, fun _ _ _ _ h => h, fun s g u b h1 h2 h3 => hok1.bound s g u b h1 h2 h3⟩
 refine awpd_use E1 I8 (Q := endP s h2 h3 h4) ?_ ?_
 ·clear I8 E1 hes9 hnf hent1 hg1 hok1 I7 hb3 hdd ed hsz t2 t3 t4 v2 v3 v4 E hr hg hc
  refine awpd_sr fun Y Yh => ?_
  simp [go_sem]
  intro gr
  apply Yh; clear Yh Y
  refine Hold.mk ?_
  refine awpd_renbox 5 900002 rfl rfl (by decide) fun gr => ?_
  simp only [go_sem]
  have HV := value_all s (by omega) (2 * s.length + 1) gr 1 0 0 (by omega) (by omega) (by omega) (by omega)
  have hpe : ∀ p e, valV s (numR s) (2 * s.length + 1) 1 0 0 = .bad p e → parV s (numR s) = .bad p e := fun p e hv => by unfold parV; rw [if_neg (by omega), hv]
  refine awpd_seq ?_
  refine awpd_regy (pre := [_]) (suf := [_]) (by simp [dstOk]) fun Y Yh => ?_
  simp [go_sem]
  apply Yh; clear Yh Y
  intro Y Yh
  simp [go_sem]
  apply Yh; clear Yh Y
  refine callX_l [900002] (.inl ⟨rfl, rfl⟩) (by simp [go_sem]) ?_
  intro args ha
  simp [go_sem] at ha
  subst ha
  refine ⟨_, _, _, HV, (by simp [go_sem]), ?_, ?_⟩
  ·rintro ch ⟨p, e, hv, rfl⟩
   show endP s h2 h3 h4 (.panic _) _
   refine ⟨⟨p, e, hpe p e hv, rfl⟩, [dI 0, dS [], .v (.slice none 0 0), .v (.slice none 0 0)], rfl, ?_⟩
   (refine cov_of ?_ ?_ <;> simp [go_sem, minusH])
  rintro ps r hps ⟨⟨k, t, ns, xs⟩, b, m, hv, rfl, rfl⟩
  have hvl := valV_le (fun _ _ => numR_le) hv
  have hp1 := blV_ge s b
  have hp2 := blV_le (s := s) (a := b) (by omega)
  refine aops_k fun Y Yh => ?_
  simp [go_sem, dJ_mk]
  apply Yh; clear Yh Y
  refine Hold.mk ?_
  show AWpD _ _ _ _ _ _
  refine awpd_sr fun Y Yh => ?_
  simp [go_sem]
  refine callA_l [900002] (.inl ⟨rfl, rfl⟩) (by simp [go_sem]) ?_
  intro args ha
  simp [go_sem] at ha
  subst ha
  refine ⟨_, _, blanks_spec gr s b m (by omega) (by omega), (by simp [go_sem]), ?_⟩
  rintro ps r hps rfl
  simp [go_sem]
  apply Yh; clear Yh Y
  refine Hold.mk ?_
  refine awpd_seq ?_
  refine awpd_sr fun Y Yh => ?_
  simp [go_sem]
  apply Yh; clear Yh Y
  refine Hold.mk ?_
  refine awpd_cond ?_
  simp [go_sem]
  refine ⟨fun hb => ?_, fun hb => ?_⟩
  ·have hpb : parV s (numR s) = .bad (failP s (blV s b)) (failE s (blV s b)) := by unfold parV; rw [if_neg (by omega), hv]; simp only; rw [if_pos hb]
   refine awpd_regy (pre := [_, _, _, _, _]) (suf := []) (by simp [dstOk]) fun Y Yh => ?_
   simp [go_sem]
   apply Yh; clear Yh Y
   intro Y Yh
   simp [go_sem]
   apply Yh; clear Yh Y
   refine callX_l [900002] (.inl ⟨rfl, rfl⟩) (by simp [go_sem]) ?_
   intro args ha
   simp [go_sem] at ha
   subst ha
   refine ⟨_, _, _, fail_spec gr s (blV s b) m (blV s b) (by omega), (by simp [go_sem]), ?_, fun _ _ _ h => h.elim⟩
   rintro ch rfl
   show endP s h2 h3 h4 (.panic _) _
   refine ⟨⟨_, _, hpb, rfl⟩, [dI k, dS t, dSs ns, .sl 4 (xs.map cJ)], rfl, ?_⟩
   (refine cov_of ?_ ?_ <;> simp [go_sem, minusH])
  ·have hpo : parV s (numR s) = .ok (.mk k t ns xs) 0 m := by unfold parV; rw [if_neg (by omega), hv]; simp only; rw [if_neg (by omega)]
   refine awpd_skip ?_
   show AWpD _ _ _ _ _ _
   refine awpd_sr fun Y Yh => ?_
   simp [go_sem]
   apply Yh; clear Yh Y
   refine Hold.mk ?_
   refine awpd_ret ?_
   refine ⟨_, _, hpo, ?_⟩
   (refine cov_of ?_ ?_ <;> simp [go_sem, cJ_mk])
 ·
  have fin : ∀ (v : JV) (n e : Nat) (b0 : Act) (S3 : St) (C3 : Ctx) (w3 : World), Inv w2 (LentB (esP h2 h3 h4 [dI 0, dS [], .v (.slice none 0 0), .v (.slice none 0 0)] (dI 0) (dI 0))) C5 32 S3 C3 b0 w3 →
    Cov S3 ⟨[(2, .ptr 900010 h2 0), (3, .ptr 900011 h3 0), (4, .ptr 900012 h4 0)], esP h2 h3 h4 (cJ v) (dI n) (dI e)⟩ → parO s = (v, n, e) →
    ∃ val, (results Tryz.f14 b0.tmps).run Tryz.prog w3 = .ok val w3 ∧ ∃ u r C', Ending.returned val = Ending.returned u ∧ r = .tup [dJ (parO s).1, dI (parO s).2.1, dI (parO s).2.2] ∧ Rep C' w3 r u ∧ CtxOk C' w3 ∧ Ext C w C' w3 ∧ (∀ s g x, C.val s g = some x → C'.live s g = C.live s g) ∧ Frm w (fun _ => False) w3 := by
   intro v n e b0 S3 C3 w3 J3 hcov hpo
   rw [hpo]
   replace J3 := J3.cov hcov
   obtain ⟨k, t, ns, xs⟩ := v
   have hq : resL Tryz.prog ⟨[(2, .ptr 900010 h2 0), (3, .ptr 900011 h3 0), (4, .ptr 900012 h4 0)], esP h2 h3 h4 (cJ (.mk k t ns xs)) (dI n) (dI e)⟩ [.cell 2 26, .cell 3 3, .cell 4 27] (fun ds => ds = [dJ (.mk k t ns xs), dI n, dI e]) := by
    simp [go_sem, cJ_mk, dJ_mk]
   obtain ⟨ds, us, rfl, hrs, hlen, hrun⟩ := resL_ok J3 hq
   refine ⟨.tuple us.toArray, ?_, ?_⟩
   ·have hfun : (fun r : ResultVar => match r with | .tmp t => (pure (b0.tmps.getD t undef) : Sem Value) | .cell p ty => do loadVar ty (← asAddr (b0.tmps.getD p undef))) = rvSem b0.tmps := by
     funext r; cases r <;> rfl
    have hres : results Tryz.f14 b0.tmps = (do let vs ← Tryz.f14.results.mapM (rvSem b0.tmps); pure (if h : vs.size = 1 then vs[0] else .tuple vs)) := by
     rw [← hfun]; rfl
    have hl3 : Tryz.f14.results.toList = [.cell 2 26, .cell 3 3, .cell 4 27] := rfl
    rw [hres, Array.mapM_eq_mapM_toList, hl3]
    simp only [Sem.run_bind, Sem.run_map, hrun, Result.andThen_ok, Sem.run_pure]
    have h3 : us.length = 3 := by simpa using hlen
    rw [dif_neg (by simp [h3])]
   ·have hF := Inv.finish (ss := [900010, 900011, 900012]) (ps := [(h2, .box (cJ (.mk k t ns xs))), (h3, .box [dI n]), (h4, .box [dI e])]) hok1 hent1 hnf J3 rfl (fun j s p q1 q2 => by
     match j, q1, q2 with
     | 0, q1, q2 => simp at q1 q2; subst q1 q2; exact ⟨rfl, rfl⟩
     | 1, q1, q2 => simp at q1 q2; subst q1 q2; exact ⟨rfl, rfl⟩
     | 2, q1, q2 => simp at q1 q2; subst q1 q2; exact ⟨rfl, rfl⟩
     | j + 3, q1, _ => simp at q1)
    obtain ⟨f1, f2, f3, f4, f5, f6, f7, f8⟩ := hF
    have J := I7.afterL (ss := [900010, 900011, 900012]) (es := esP h2 h3 h4 [dI 0, dS [], .v (.slice none 0 0), .v (.slice none 0 0)] (dI 0) (dI 0)) (fun s g x hx => ⟨hx, hes9 _ (look_mem hx), hnf _ (look_mem hx), by
      have := look_mem hx
      simp at this
      rcases this with ⟨rfl, _⟩ | ⟨rfl, _⟩ | ⟨rfl, _⟩ <;> simp⟩) f2 f1 f3 f4 f5 f6 f7 f8
    have noB : ∀ b, ¬ bB C (fun _ _ => False) b := fun b ⟨_, _, _, q, _⟩ => q.elim
    refine ⟨_, _, C3, rfl, rfl, ?_, f1, ⟨J.old, J.owned, fun b hb _ => J.frame.block b hb (noB b), J.frame.size⟩, fun s g x hx => ?_, ⟨J.frame.os, J.frame.tape, J.frame.output, J.frame.size, fun b hb _ => J.frame.block b hb (noB b)⟩⟩
    ·refine .tup _ _ (by simpa using hrs.1) fun j c u hc hu => hrs.2 j c u hc (by simpa using hu)
    ·cases h0 : C.live s g with
     | true => exact J.kept s g x hx h0 id
     | false =>
      cases h1 : C3.live s g with
      | false => rfl
      | true => rw [J.dead0 s g x hx h1] at h0; cases h0
  intro e b0 S C' w' hq I9
  have ed9 : (apD b0 [dd]).defers = [dd] := by have := I9.defers; cases b0; simp_all [apD]
  have et9 : (apD b0 [dd]).tmps = b0.tmps := rfl
  have hlv : ∀ s g, LentB (esP h2 h3 h4 [dI 0, dS [], .v (.slice none 0 0), .v (.slice none 0 0)] (dI 0) (dI 0)) s g → True := fun _ _ _ => trivial
  cases e with
  | normal => exact hq.elim
  | exit id => exact hq.elim
  | goto l => exact hq.elim
  | outgrown => exact hq.elim
  | ret =>
   obtain ⟨v, m, hv, hcov⟩ := hq
   have hpo : parO s = (v, 0, 0) := by unfold parO; rw [hv]
   show Leaves _ _ _ _ _ _ _
   rw [ed9, et9]
   subst hdd
   refine leaves_cons (f := 37) (args := #[.pointer (some ⟨b2, 0, none⟩), .pointer (some ⟨b3, 0, none⟩), .pointer (some ⟨b4, 0, none⟩)]) (by simp) (by simp [go_sem]) ?_
   refine (clo_ret ⟨b2, 0, none⟩ ⟨b3, 0, none⟩ ⟨b4, 0, none⟩ w').mono ?_
   rintro en u' w3 ⟨rfl, rfl, q1, q2, q3, q4, q5⟩
   have hc9 := I9.ctxOk
   have J := I9.after (C' := C') (w' := w3) ⟨fun _ _ _ h => h, fun _ _ h => h, fun b hb _ => q5 b hb, q4⟩ ⟨hc9.apart, fun s g u b h1 h2 h3 => Nat.lt_of_lt_of_le (hc9.bound s g u b h1 h2 h3) q4, hc9.fresh⟩ (fun _ _ _ _ => rfl) ⟨q1, q2, q3, q4, fun b hb _ => q5 b hb⟩
   exact fin v 0 0 b0 S C' w3 J hcov hpo
  | panic ch =>
   obtain ⟨⟨p, e, hpb, rfl⟩, c, hcl, hcov⟩ := hq
   have hpo : parO s = (.mk 0 [] [] [], p, e) := by unfold parO; rw [hpb]
   replace I9 := I9.cov hcov
   show Leaves _ _ _ _ _ _ _
   rw [ed9, et9]
   subst hdd
   have w2v : C'.val 900010 h2 = some (.pointer (some ⟨b2, 0, none⟩)) := I9.old _ _ _ v2
   have w3v : C'.val 900011 h3 = some (.pointer (some ⟨b3, 0, none⟩)) := I9.old _ _ _ v3
   have w4v : C'.val 900012 h4 = some (.pointer (some ⟨b4, 0, none⟩)) := I9.old _ _ _ v4
   have H2 := I9.heap 900010 h2 (.box c) rfl
   have H3 := I9.heap 900011 h3 (.box [dI 0]) rfl
   have H4 := I9.heap 900012 h4 (.box [dI 0]) rfl
   have L2 := (H2.liveOf rfl).1
   have L3 := (H3.liveOf rfl).1
   have L4 := (H4.liveOf rfl).1
   have n23 : b2 ≠ b3 := fun q => by subst q; have := I9.apart _ _ _ _ _ _ b2 w2v L2 w3v L3 rfl rfl; omega
   have n24 : b2 ≠ b4 := fun q => by subst q; have := I9.apart _ _ _ _ _ _ b2 w2v L2 w4v L4 rfl rfl; omega
   have n34 : b3 ≠ b4 := fun q => by subst q; have := I9.apart _ _ _ _ _ _ b3 w3v L3 w4v L4 rfl rfl; omega
   obtain ⟨bb2, arr2, T2, z1, z2, z3, z4, z5⟩ := H2
   obtain ⟨bb3, arr3, T3, y1, y2, y3, y4, y5⟩ := H3
   obtain ⟨bb4, arr4, T4, x1, x2, x3, x4, x5⟩ := H4
   rw [w2v] at z1
   rw [w3v] at y1
   rw [w4v] at x1
   simp only [Option.some.injEq, Value.pointer.injEq, Addr.mk.injEq, and_true] at z1 y1 x1
   subst z1 y1 x1
   obtain ⟨d0, d1, d2, d3, rfl⟩ : ∃ d0 d1 d2 d3, arr2 = #[d0, d1, d2, d3] := by
    rw [hcl] at z4
    refine ⟨arr2[0], arr2[1], arr2[2], arr2[3], ?_⟩
    apply Array.ext (by simpa using z4)
    intro i h1 h2
    match i, h1, h2 with
    | 0, _, _ => rfl
    | 1, _, _ => rfl
    | 2, _, _ => rfl
    | 3, _, _ => rfl
    | i + 4, h1, _ => omega
   obtain ⟨d4, rfl⟩ : ∃ d4, arr3 = #[d4] := by
    have z : arr3.size = 1 := y4
    refine ⟨arr3[0], ?_⟩
    apply Array.ext (by simpa using z)
    intro i h1 h2
    match i, h1, h2 with
    | 0, _, _ => rfl
    | i + 1, h1, _ => omega
   obtain ⟨d5, rfl⟩ : ∃ d5, arr4 = #[d5] := by
    have z : arr4.size = 1 := x4
    refine ⟨arr4[0], ?_⟩
    apply Array.ext (by simpa using z)
    intro i h1 h2
    match i, h1, h2 with
    | 0, _, _ => rfl
    | i + 1, h1, _ => omega
   refine leaves_cons (f := 37) (args := #[.pointer (some ⟨b2, 0, none⟩), .pointer (some ⟨b3, 0, none⟩), .pointer (some ⟨b4, 0, none⟩)]) (by simp) (by simp [go_sem]) ?_
   refine (clo_pan b2 b3 b4 T2 T3 T4 p e d0 d1 d2 d3 d4 d5 w' z3 y3 x3 n23 n24 n34).mono ?_
   rintro en u' w3 ⟨rfl, hset, k2, k3, k4, q1, q2, q3, q4, q5⟩
   simp only [hset]
   have hc9 := I9.ctxOk
   have hne : ∀ s g, LentB (esP h2 h3 h4 c (dI 0) (dI 0)) s g → (s = 900010 ∧ g = h2) ∨ (s = 900011 ∧ g = h3) ∨ (s = 900012 ∧ g = h4) := fun s g ⟨x, hx⟩ => by
    have := look_mem hx
    simp at this
    omega
   have inB : ∀ b, b = b2 ∨ b = b3 ∨ b = b4 → bB C' (LentB (esP h2 h3 h4 c (dI 0) (dI 0))) b := fun b hb => by
    rcases hb with rfl | rfl | rfl
    ·exact ⟨900010, h2, _, ⟨.box c, rfl⟩, w2v, rfl⟩
    ·exact ⟨900011, h3, _, ⟨.box [dI 0], rfl⟩, w3v, rfl⟩
    ·exact ⟨900012, h4, _, ⟨.box [dI 0], rfl⟩, w4v, rfl⟩
   have J := I9.afterL (C' := C') (w' := w3) (ss := [900010, 900011, 900012]) (ps := [(h2, .box (cJ (.mk 0 [] [] []))), (h3, .box [dI p]), (h4, .box [dI e])]) (es := esP h2 h3 h4 c (dI 0) (dI 0))
    (fun s g x hx => ⟨hx, by have := look_mem hx; simp at this; omega, by
      have := look_mem hx
      simp at this
      rcases this with ⟨_, _, rfl⟩ | ⟨_, _, rfl⟩ | ⟨_, _, rfl⟩ <;> rfl, by
      have := look_mem hx
      simp at this
      rcases this with ⟨rfl, _⟩ | ⟨rfl, _⟩ | ⟨rfl, _⟩ <;> simp⟩)
    ⟨fun _ _ _ h => h, fun _ _ h => h, fun b hb hn => q5 b hb (fun q => ?_) (fun q => ?_) (fun q => ?_), q4⟩
    ⟨hc9.apart, fun s g u b h1 h2 h3 => Nat.lt_of_lt_of_le (hc9.bound s g u b h1 h2 h3) q4, hc9.fresh⟩ ?_ ?_ ?_ (fun _ _ _ _ _ => rfl) (fun _ _ _ _ h => h)
    ⟨q1, q2, q3, q4, fun b hb hn => q5 b hb (fun q => hn (inB b (.inl q))) (fun q => hn (inB b (.inr (.inl q)))) (fun q => hn (inB b (.inr (.inr q))))⟩
   ·exact fin (.mk 0 [] [] []) p e b0 _ C' w3 J (by (refine cov_of ?_ ?_ <;> simp [go_sem, putPs])) hpo
   ·subst q; exact hn ⟨900010, h2, _, w2v, L2, rfl⟩
   ·subst q; exact hn ⟨900011, h3, _, w3v, L3, rfl⟩
   ·subst q; exact hn ⟨900012, h4, _, w4v, L4, rfl⟩
   ·refine ⟨rfl, fun j s p q1 q2 => ?_⟩
    match j, q1, q2 with
    | 0, q1, q2 =>
     simp at q1 q2; subst q1 q2
     refine ⟨⟨b2, _, T2, w2v, L2, k2, by simp [cJ_mk], fun j c u hc hu => ?_⟩, rfl⟩
     rw [cJ_mk] at hc
     match j, hc, hu with
     | 0, hc, hu => simp at hc hu; subst hc hu; exact ⟨.v _, rfl⟩
     | 1, hc, hu => simp at hc hu; subst hc hu; exact ⟨.v _, rfl⟩
     | 2, hc, hu => simp at hc hu; subst hc hu; exact ⟨.slE _ _ _ (Nat.zero_le _), rfl⟩
     | 3, hc, hu => simp at hc hu; subst hc hu; exact ⟨.slE _ _ _ (Nat.zero_le _), rfl⟩
     | j + 4, hc, _ => simp at hc
    | 1, q1, q2 =>
     simp at q1 q2; subst q1 q2
     refine ⟨⟨b3, _, T3, w3v, L3, k3, by simp, fun j c u hc hu => ?_⟩, rfl⟩
     match j, hc, hu with
     | 0, hc, hu => simp at hc hu; subst hc hu; exact ⟨.v _, rfl⟩
     | j + 1, hc, _ => simp at hc
    | 2, q1, q2 =>
     simp at q1 q2; subst q1 q2
     refine ⟨⟨b4, _, T4, w4v, L4, k4, by simp, fun j c u hc hu => ?_⟩, rfl⟩
     match j, hc, hu with
     | 0, hc, hu => simp at hc hu; subst hc hu; exact ⟨.v _, rfl⟩
     | j + 1, hc, _ => simp at hc
    | j + 3, q1, _ => simp at q1
   ·intro j s p u b q1 q2 q3 q4
    refine .inr ⟨⟨s, p.1, u, ?_, q3, q4⟩, ?_⟩
    ·match j, q1, q2 with
     | 0, q1, q2 => simp at q1 q2; subst q1 q2; exact ⟨.box c, rfl⟩
     | 1, q1, q2 => simp at q1 q2; subst q1 q2; exact ⟨.box [dI 0], rfl⟩
     | 2, q1, q2 => simp at q1 q2; subst q1 q2; exact ⟨.box [dI 0], rfl⟩
     | j + 3, q1, _ => simp at q1
    ·match j, q1 with
     | 0, q1 => simp at q1; omega
     | 1, q1 => simp at q1; omega
     | 2, q1 => simp at q1; omega
     | j + 3, q1 => simp at q1
   ·intro j s p y q1 q2 _
    match j, q1, q2 with
    | 0, q1, q2 => simp at q1 q2; subst q1 q2; exact ⟨.box c, rfl⟩
    | 1, q1, q2 => simp at q1 q2; subst q1 q2; exact ⟨.box [dI 0], rfl⟩
    | 2, q1, q2 => simp at q1 q2; subst q1 q2; exact ⟨.box [dI 0], rfl⟩
    | j + 3, q1, _ => simp at q1
theorem parse_spec (s : Bs) (hl : s.length ≤ 9223372036854775807) : PCall Tryz.prog 14 [dS s] fun r => r = .tup [dJ (parO s).1, dI (parO s).2.1, dI (parO s).2.2] := by
 rcases Nat.lt_or_ge 100000 s.length with h | h
 ·exact parse_long s h hl
 ·exact parse_short s h
end Go.Proofs.YtkgmecjaejaehaaGreatDoor
namespace Go.Proofs
open Go.Shelf Go.RowKit
def Tryz.lays196_ren : Go.Shelf.Ren := ⟨fun | 196 => 44 | 259 => 88 | n => n, fun | 0 => 0 | 3 => 3 | 4 => 4 | 5 => 5 | 9 => 9 | 12 => 12 | 46 => 38 | 53 => 196 | 119 => 125 | 138 => 127 | 139 => 128 | n => n, fun | 3 => 0 | 4 => 1 | n => n⟩
theorem Tryz.lays196 : Go.Proofs.Lays.n196 Tryz.prog Tryz.lays196_ren := {
 mixed := by kernel_rfl
 f196 := Tryz.func44.trans (congrArg some (by kernel_rfl))
 f259 := Tryz.func88.trans (congrArg some (by kernel_rfl))
 t0 := Tryz.underlying0
 a0 := Tryz.isAgg0
 z0 := Tryz.sizeOf0
 v0 := Tryz.zeroValue0
 t3 := Tryz.underlying3
 a3 := Tryz.isAgg3
 z3 := Tryz.sizeOf3
 v3 := Tryz.zeroValue3
 t4 := Tryz.underlying4
 a4 := Tryz.isAgg4
 z4 := Tryz.sizeOf4
 v4 := Tryz.zeroValue4
 t5 := Tryz.underlying5
 a5 := Tryz.isAgg5
 z5 := Tryz.sizeOf5
 v5 := Tryz.zeroValue5
 t9 := Tryz.underlying9
 a9 := Tryz.isAgg9
 z9 := Tryz.sizeOf9
 v9 := Tryz.zeroValue9
 t12 := Tryz.underlying12
 a12 := Tryz.isAgg12
 z12 := Tryz.sizeOf12
 v12 := Tryz.zeroValue12
 t46 := Tryz.underlying38
 a46 := Tryz.isAgg38
 z46 := Tryz.sizeOf38
 v46 := Tryz.zeroValue38
 t53 := Tryz.underlying196
 a53 := Tryz.isAgg196
 z53 := Tryz.sizeOf196
 v53 := Tryz.zeroValue196
 t119 := Tryz.underlying125
 a119 := Tryz.isAgg125
 z119 := Tryz.sizeOf125
 t138 := Tryz.underlying127
 a138 := Tryz.isAgg127
 z138 := Tryz.sizeOf127
 v138 := Tryz.zeroValue127
 t139 := Tryz.underlying128
 a139 := Tryz.isAgg128
 z139 := Tryz.sizeOf128
 v139 := Tryz.zeroValue128
 g3 := by kernel_rfl
 g4 := by kernel_rfl }
theorem Tryz.utf8_ValidString (s : ByteArray) (w : World) (hs : s.size ≤ 9223372036854775807) (hT : Lib.Utf8Tabs 0 1 w) :
  Calls Tryz.prog 44 #[.string s] w fun e w' => e = .returned (.bool (Lib.validD s.data.toList)) ∧ Below w.heap.size w w' := Any.utf8_ValidString Tryz.lays196 s w hs hT
end Go.Proofs
namespace Go.Proofs.YtkgmecjaejaehaaGreatDoor
open Go.Eng Go.Js
set_option maxRecDepth 20000
attribute [local irreducible] AG CallA CallT AWp PCall ACall XCall AgC
@[go_sem] theorem cJ_len (v : JV) : (cJ v).length = 4 := by cases v; simp [cJ]
@[go_sem] theorem cJ_all (v : JV) : (cJ v).all oneD = true := by
 cases v
 simp [cJ, oneD, Value.oneCell']
@[go_sem] theorem cJ_take (v : JV) : (cJ v).take 4 = cJ v := List.take_of_length_le (by rw [cJ_len]; omega)
@[go_sem] theorem cJ_drop (v : JV) : (cJ v).drop 4 = [] := List.drop_eq_nil_of_le (by rw [cJ_len]; omega)
theorem cJ_one (v : JV) : ∀ c ∈ cJ v, oneD c = true := by
 cases v
 simp [cJ, oneD, Value.oneCell']
theorem vstr_spec (s : Bs) (hl : s.length ≤ 9223372036854775807) : PCall Tryz.prog 44 [dS s] fun r => r = dB (Lib.validD s) := by
 refine pcall_below ⟨_, Tryz.func44, rfl, rfl⟩ fun C w us hc hg hr => ?_
 have hg : glOk w := hg
 obtain rfl := repL_v (us := [.string ⟨s.toArray⟩]) hr
 refine (Tryz.utf8_ValidString ⟨s.toArray⟩ w (by simpa [ByteArray.size] using hl) hg.1).mono ?_
 rintro e w' ⟨rfl, hb⟩
 exact ⟨_, _, rfl, by simp, .v _, hb⟩
theorem nclone_spec (l : List Bs) (hl : l.length ≤ 100000000) : PCall Tryz.prog 105 [dSs l] fun r => r = dSs l := by
 refine pcall_of Tryz.func105 rfl rfl Tryz.ntmps105 (rs := [.tmp 2]) (tys := [23]) rfl rfl (by simp) ?_
 cases l with
 | nil =>
  (refine awp_sr fun Y Yh => ?_; simp [go_sem]; ((repeat' (first|(refine ag_x ?_;simp [go_sem])|intro _|apply And.intro|(apply Yh;clear Yh Y)));all_goals first|apply Hold.mk|omega|with_reducible assumption|skip))
  refine awp_seq_k fun K1 hK1 => ?_
  (refine awp_sr fun Y Yh => ?_; simp [go_sem]; ((repeat' (first|(refine ag_x ?_;simp [go_sem])|intro _|apply And.intro|(apply Yh;clear Yh Y)));all_goals first|apply Hold.mk|omega|with_reducible assumption|skip))
  ·(refine awp_if fun T F hT hF => ?_; simp [go_sem]; refine hF ?_; clear hT hF T F)
   refine awp_skip ?_
   refine hK1 _ ?_; clear hK1
   (refine awp_sr fun Y Yh => ?_; simp [go_sem]; ((repeat' (first|(refine ag_x ?_;simp [go_sem])|intro _|apply And.intro|(apply Yh;clear Yh Y)));all_goals first|apply Hold.mk|omega|with_reducible assumption|skip))
   (refine awp_ret ?_; simp [go_sem])
  ·(refine awp_if fun T F hT hF => ?_; simp [go_sem]; refine hT ?_; clear hT hF T F)
   (refine awp_sr fun Y Yh => ?_; simp [go_sem]; ((repeat' (first|(refine ag_x ?_;simp [go_sem])|intro _|apply And.intro|(apply Yh;clear Yh Y)));all_goals first|apply Hold.mk|omega|with_reducible assumption|skip))
   (refine awp_ret ?_; simp [go_sem])
 | cons x r =>
  simp only [List.length_cons] at hl
  (refine awp_sr fun Y Yh => ?_; simp [go_sem]; ((repeat' (first|(refine ag_x ?_;simp [go_sem])|intro _|apply And.intro|(apply Yh;clear Yh Y)));all_goals first|apply Hold.mk|omega|with_reducible assumption|skip))
  refine awp_seq_k fun K1 hK1 => ?_
  (refine awp_sr fun Y Yh => ?_; simp [go_sem]; ((repeat' (first|(refine ag_x ?_;simp [go_sem])|intro _|apply And.intro|(apply Yh;clear Yh Y)));all_goals first|apply Hold.mk|omega|with_reducible assumption|skip))
  (refine awp_if fun T F hT hF => ?_; simp [go_sem]; refine hF ?_; clear hT hF T F)
  refine awp_skip ?_
  refine hK1 _ ?_; clear hK1
  (refine awp_sr fun Y Yh => ?_; simp [go_sem]; ((repeat' (first|(refine ag_x ?_;simp [go_sem])|intro _|apply And.intro|(apply Yh;clear Yh Y)));all_goals first|apply Hold.mk|omega|with_reducible assumption|skip))
  (refine awp_ret ?_; simp [go_sem])
theorem vclone_spec (nm : Nat) (l : List JV) (hl : l.length ≤ 100000000) (h9 : 900000 ≤ nm) : ACall Tryz.prog 106 [.sl 4 (l.map cJ)] [] [nm] fun ps r => ∃ g, ps = [(g, .row 26 4 (l.map cJ))] ∧ r = .own nm g := by
 refine acall_of Tryz.func106 rfl rfl Tryz.ntmps106 (rs := [.tmp 2]) (tys := [24]) rfl rfl (by simp) (by simp) ?_
 cases l with
 | nil =>
  (refine awp_sr fun Y Yh => ?_; simp [go_sem]; ((repeat' (first|(refine ag_x ?_;simp [go_sem])|intro _|apply And.intro|(apply Yh;clear Yh Y)));all_goals first|apply Hold.mk|omega|with_reducible assumption|skip))
  refine awp_seq_k fun K1 hK1 => ?_
  (refine awp_sr fun Y Yh => ?_; simp [go_sem]; ((repeat' (first|(refine ag_x ?_;simp [go_sem])|intro _|apply And.intro|(apply Yh;clear Yh Y)));all_goals first|apply Hold.mk|omega|with_reducible assumption|skip))
  ·(refine awp_if fun T F hT hF => ?_; simp [go_sem]; refine hF ?_; clear hT hF T F)
   refine awp_skip ?_
   refine hK1 _ ?_; clear hK1
   (refine awp_sr fun Y Yh => ?_; simp [go_sem]; ((repeat' (first|(refine ag_x ?_;simp [go_sem])|intro _|apply And.intro|(apply Yh;clear Yh Y)));all_goals first|apply Hold.mk|omega|with_reducible assumption|skip))
   refine awp_renrow 2 nm rfl rfl (by omega) fun g => ?_
   simp only [go_sem]
   refine awp_ret ?_
   simp [go_sem, retA]
  ·(refine awp_if fun T F hT hF => ?_; simp [go_sem]; refine hT ?_; clear hT hF T F)
   (refine awp_sr fun Y Yh => ?_; simp [go_sem]; ((repeat' (first|(refine ag_x ?_;simp [go_sem])|intro _|apply And.intro|(apply Yh;clear Yh Y)));all_goals first|apply Hold.mk|omega|with_reducible assumption|skip))
   refine awp_nilslot 2 nm 26 4 rfl fun g => ?_
   simp only [go_sem]
   refine awp_ret ?_
   simp [go_sem, retA]
 | cons x r =>
  simp only [List.length_cons] at hl
  (refine awp_sr fun Y Yh => ?_; simp [go_sem]; ((repeat' (first|(refine ag_x ?_;simp [go_sem])|intro _|apply And.intro|(apply Yh;clear Yh Y)));all_goals first|apply Hold.mk|omega|with_reducible assumption|skip))
  refine awp_seq_k fun K1 hK1 => ?_
  (refine awp_sr fun Y Yh => ?_; simp [go_sem]; ((repeat' (first|(refine ag_x ?_;simp [go_sem])|intro _|apply And.intro|(apply Yh;clear Yh Y)));all_goals first|apply Hold.mk|omega|with_reducible assumption|skip))
  (refine awp_if fun T F hT hF => ?_; simp [go_sem]; refine hF ?_; clear hT hF T F)
  refine awp_skip ?_
  refine hK1 _ ?_; clear hK1
  (refine awp_sr fun Y Yh => ?_; simp [go_sem, cJ_one]; ((repeat' (first|(refine ag_x ?_;simp [go_sem, cJ_one])|intro _|apply And.intro|(apply Yh;clear Yh Y)));all_goals first|apply Hold.mk|omega|with_reducible assumption|skip))
  refine awp_renrow 2 nm rfl rfl (by omega) fun g => ?_
  simp only [go_sem]
  refine awp_ret ?_
  simp [go_sem, retA]
end Go.Proofs.YtkgmecjaejaehaaGreatDoor
namespace Go.Js
/-! how much there is within a value -/
mutual
def sizeJ : JV → Nat
 | .mk _ _ ns xs => 1 + ns.length + sizeJs xs
def sizeJs : List JV → Nat
 | [] => 0
 | x :: xs => sizeJ x + sizeJs xs
end
theorem sizeJ_pos : ∀ v : JV, 1 ≤ sizeJ v
 | .mk k t ns xs => by simp [sizeJ]; omega
theorem sizeJs_mem : ∀ {xs : List JV} {x : JV}, x ∈ xs → sizeJ x ≤ sizeJs xs
 | [], x, h => by simp at h
 | y :: ys, x, h => by
  simp only [sizeJs]
  rcases List.mem_cons.1 h with rfl | h
  ·omega
  ·have := sizeJs_mem h; omega
theorem sizeJs_len : ∀ xs : List JV, xs.length ≤ sizeJs xs
 | [] => by simp
 | x :: xs => by
  have := sizeJ_pos x
  have := sizeJs_len xs
  simp only [sizeJs, List.length_cons]; omega
theorem sizeJ_item {k : Int} {t : List UInt8} {ns : List (List UInt8)} {xs : List JV} {x : JV} (h : x ∈ xs) : sizeJ x < sizeJ (.mk k t ns xs) := by
 have := sizeJs_mem h
 simp only [sizeJ]; omega
theorem sizeJ_names (k : Int) (t : List UInt8) (ns : List (List UInt8)) (xs : List JV) : ns.length + xs.length < sizeJ (.mk k t ns xs) := by
 have := sizeJs_len xs
 simp only [sizeJ]; omega
def decV (t : List UInt8) : Nat := t.foldl (fun n c => n * 10 + (c.toNat - 48)) 0
def idxT (v : JV) (t : List UInt8) : Int :=
 if v.kind = 6 then ixV v.names t
 else if v.kind ≠ 5 ∨ t = [] ∨ 4 < t.length ∨ (t[0]? = some 48 ∧ 1 < t.length) ∨ t.all isDg = false then -1
 else if v.items.length ≤ decV t then -1 else decV t
theorem decV_lt : ∀ (t : List UInt8) (n : Nat), t.all isDg = true → t.foldl (fun n c => n * 10 + (c.toNat - 48)) n < (n + 1) * 10 ^ t.length
 | [], n, _ => by simp
 | c :: t, n, h => by
  simp only [List.all_cons, Bool.and_eq_true] at h
  have := decV_lt t (n * 10 + (c.toNat - 48)) h.2
  have hc := h.1
  unfold isDg at hc
  simp only [Bool.and_eq_true, decide_eq_true_eq, UInt8.le_iff_toNat_le] at hc
  have e1 : (48 : UInt8).toNat = 48 := rfl
  have e2 : (57 : UInt8).toNat = 57 := rfl
  simp only [List.foldl_cons, List.length_cons, Nat.pow_succ]
  have h3 : (n * 10 + (c.toNat - 48) + 1) * 10 ^ t.length ≤ ((n + 1) * 10) * 10 ^ t.length := Nat.mul_le_mul_right _ (by omega)
  rw [Nat.mul_comm (10 ^ t.length) 10, ← Nat.mul_assoc]
  omega
end Go.Js
namespace Go.Proofs.YtkgmecjaejaehaaGreatDoor
open Go.Eng Go.Js
set_option maxRecDepth 20000
attribute [local irreducible] AG CallA CallT AWp PCall ACall XCall AgC
set_option maxHeartbeats 4000000 in
theorem own_spec : ∀ (N : Nat) (v : JV), sizeJ v ≤ N → N ≤ 10000000 → PCall Tryz.prog 57 [dJ v] fun r => r = dJ v := by
 intro N
 induction N using Nat.strongRecOn with
 | _ N ih =>
 intro v hv hN
 obtain ⟨k, t, ns, xs⟩ := v
 have hlen := sizeJ_names k t ns xs
 have HI : ∀ x ∈ xs, PCall Tryz.prog 57 [dJ x] fun r => r = dJ x := fun x hx => ih (sizeJ x) (by have := sizeJ_item (k := k) (t := t) (ns := ns) hx; omega) x (Nat.le_refl _) (by have := sizeJ_item (k := k) (t := t) (ns := ns) hx; omega)
 rw [dJ_mk]
 refine pcall_of Tryz.func57 rfl rfl Tryz.ntmps57 (rs := [.cell 2 26]) (tys := [26]) rfl rfl (by simp) ?_
 refine awp_seq ?_
 refine awp_r fun Y Yh => ?_
 simp [go_sem]
 intro g1 g2
 apply Yh; clear Yh Y
 refine Hold.mk ?_
 (refine awp_sr fun Y Yh => ?_; simp [go_sem]; ((repeat' (first|(refine ag_x ?_;simp [go_sem])|intro _|apply And.intro|(apply Yh;clear Yh Y)));all_goals first|apply Hold.mk|omega|with_reducible assumption|skip))
 ((try refine CallT.toA ?_); refine callT_m (by first|exact .inl ⟨rfl,rfl⟩|exact .inr rfl) (by simp [go_sem]) ?_; intro args ha; simp [go_sem] at ha; subst ha; refine ⟨_, (nclone_spec ns (by omega)), ?_⟩; rintro _ rfl; simp [go_sem]; ((repeat' (first|(refine ag_x ?_;simp [go_sem])|intro _|apply And.intro|(apply Yh;clear Yh Y)));all_goals first|apply Hold.mk|omega|with_reducible assumption|skip))
 (refine awp_sr fun Y Yh => ?_; simp [go_sem]; ((repeat' (first|(refine ag_x ?_;simp [go_sem])|intro _|apply And.intro|(apply Yh;clear Yh Y)));all_goals first|apply Hold.mk|omega|with_reducible assumption|skip))
 (refine callA_l [900010] (by first|exact .inl ⟨rfl,rfl⟩|exact .inr rfl) (by simp [go_sem]) ?_; intro args ha; simp [go_sem] at ha; subst ha; refine ⟨_, _, (vclone_spec 900010 xs (by omega) (by omega)), (by simp [go_sem]), ?_⟩; rintro ps r hps ⟨gr, rfl, rfl⟩; simp [go_sem]; ((repeat' (first|(refine ag_x ?_;simp [go_sem])|intro _|apply And.intro|(apply Yh;clear Yh Y)));all_goals first|apply Hold.mk|omega|with_reducible assumption|skip))
 refine awp_seq_k fun K1 hK1 => ?_
 (refine awp_sr fun Y Yh => ?_; simp [go_sem]; ((repeat' (first|(refine ag_x ?_;simp [go_sem])|intro _|apply And.intro|(apply Yh;clear Yh Y)));all_goals first|apply Hold.mk|omega|with_reducible assumption|skip))
 refine awp_block ?_
 refine awp_loop (σ := Nat × Nat) (fun x => ⟨[(1, .ptr 1 g1 0), (2, .ptr 2 g2 0), (14, dI xs.length), (15, dI x.1)], [(1, (g1, .box [dI k, dS t, dSs ns, .own 900010 x.2])), (2, (g2, .box [dI 0, dS [], .v (.slice none 0 0), .v (.slice none 0 0)])), (900010, (x.2, .row 26 4 (xs.map cJ)))]⟩) (fun x => x.1 ≤ xs.length) (fun x => xs.length - x.1) (0, gr) ?_ (by simp) ?_
 ·(refine cov_of ?_ ?_ <;> simp [go_sem])
 rintro ⟨i, gr⟩ hi
 simp only at hi ⊢
 (refine awp_sr fun Y Yh => ?_; simp [go_sem]; ((repeat' (first|(refine ag_x ?_;simp [go_sem])|intro _|apply And.intro|(apply Yh;clear Yh Y)));all_goals first|apply Hold.mk|omega|with_reducible assumption|skip))
 refine awp_seq_k fun K2 hK2 => ?_
 (refine awp_if fun T F hT hF => ?_; simp [go_sem]; refine BR.intro (fun h3 => hT ?_) (fun h3 => hF ?_); all_goals clear hT hF T F; try simp at h3)
 ·have hlt : i < xs.length := by omega
  have hset : (xs.map cJ).set i (cJ xs[i]) = xs.map cJ := by
   apply List.ext_getElem?
   intro j
   rw [List.getElem?_set]
   split
   ·rename_i e; subst e; simp [hlt]
   ·rfl
  have H := HI xs[i] (List.getElem_mem hlt)
  obtain ⟨k', t', ns', xs', hx⟩ : ∃ k' t' ns' xs', xs[i] = .mk k' t' ns' xs' := by
   cases h : xs[i] with
   | mk k' t' ns' xs' => exact ⟨_, _, _, _, rfl⟩
  rw [hx, dJ_mk] at H
  rw [hx, cJ_mk] at hset
  refine awp_skip ?_
  refine hK2 _ ?_; clear hK2
  refine awp_seq_k fun K4 hK4 => ?_
  refine awp_block ?_
  (refine awp_sr fun Y Yh => ?_; simp [go_sem]; ((repeat' (first|(refine ag_x ?_;simp [go_sem])|intro _|apply And.intro|(apply Yh;clear Yh Y)));all_goals first|apply Hold.mk|omega|with_reducible assumption|skip))
  ((refine awp_d (.qs [0, 2, 3, 5, 1, 4, 6, 7] (.kp 8 (.qs [9] (.one 10 (.nil))))) (by kernel_rfl) ?_ ?_ ?_ ?_); (kernel_rfl); (exact (by decide +kernel)); (kernel_rfl); intro Y Yh; ((repeat' (first|(refine ag_x ?_;simp [go_sem, hlt, hx, cJ_mk])|refine adr_nil ?_|((first|refine adr_qs fun Y Yh=>?_|refine adr_y fun Y Yh=>?_);simp [go_sem, hlt, hx, cJ_mk])|intro _|apply And.intro|(apply Yh;clear Yh Y)));all_goals first|apply Hold.mk|omega|with_reducible assumption|skip))
  ((try refine CallT.toA ?_); refine callT_m (by first|exact .inl ⟨rfl,rfl⟩|exact .inr rfl) (by simp [go_sem]) ?_; intro args ha; simp [go_sem] at ha; subst ha; refine ⟨_, H, ?_⟩; rintro _ rfl; simp [go_sem, hset, hlt]; ((repeat' (first|(refine ag_x ?_;simp [go_sem, hset, hlt])|refine adr_nil ?_|((first|refine adr_qs fun Y Yh=>?_|refine adr_y fun Y Yh=>?_);simp [go_sem, hset, hlt])|intro _|apply And.intro|(apply Yh;clear Yh Y)));all_goals first|apply Hold.mk|omega|with_reducible assumption|skip))
  show K4 _
  refine hK4 _ ?_; clear hK4
  (refine awp_r fun Y Yh => ?_; simp [go_sem]; ((repeat' (first|(refine ag_x ?_;simp [go_sem])|intro _|apply And.intro|(apply Yh;clear Yh Y)));all_goals first|apply Hold.mk|omega|with_reducible assumption|skip))
  refine ⟨(i + 1, gr), ?_, by simp only; omega, by simp only; omega⟩
  (refine cov_of ?_ ?_ <;> simp [go_sem, hset])
 ·refine awp_exit ?_
  simp only [go_sem]
  refine hK1 _ ?_; clear hK1
  (refine awp_sr fun Y Yh => ?_; simp [go_sem]; ((repeat' (first|(refine ag_x ?_;simp [go_sem])|intro _|apply And.intro|(apply Yh;clear Yh Y)));all_goals first|apply Hold.mk|omega|with_reducible assumption|skip))
  (refine awp_ret ?_; simp [go_sem])
theorem dg_sub {c : UInt8} (h : isDg c = true) : IntKind.u8.wrap ((c.toNat : Int) - 48) = ((c.toNat - 48 : Nat) : Int) := by
 have := (dg_iff c).1 h
 rw [IntKind.wrap_u8]; omega
set_option maxHeartbeats 8000000 in
theorem idx_spec (v : JV) (t : Bs) (hn : v.names.length ≤ 1000000) (hi : v.items.length ≤ 100000000) (ht : t.length ≤ 9223372036854775807) : PCall Tryz.prog 60 [dJ v, dS t] fun r => r = dI (idxT v t) := by
 obtain ⟨k, tx, ns, xs⟩ := v
 simp only [JV.names, JV.items] at hn hi
 rw [dJ_mk]
 refine pcall_of Tryz.func60 rfl rfl Tryz.ntmps60 (rs := [.tmp 4]) (tys := [3]) rfl rfl (by simp) ?_
 have e : idxT (.mk k tx ns xs) t = if k = 6 then ixV ns t else if k ≠ 5 ∨ t = [] ∨ 4 < t.length ∨ (t[0]? = some 48 ∧ 1 < t.length) ∨ t.all isDg = false then -1 else if xs.length ≤ decV t then -1 else decV t := rfl
 rw [e]
 clear e
 refine awp_seq ?_
 refine awp_r fun Y Yh => ?_
 simp [go_sem]
 intro gv
 apply Yh; clear Yh Y
 refine Hold.mk ?_
 refine awp_seq_k fun K1 hK1 => ?_
 (refine awp_sr fun Y Yh => ?_; simp [go_sem]; ((repeat' (first|(refine ag_x ?_;simp [go_sem])|intro _|apply And.intro|(apply Yh;clear Yh Y)));all_goals first|apply Hold.mk|omega|with_reducible assumption|skip))
 (refine awp_if fun T F hT hF => ?_; simp [go_sem]; refine BR.intro (fun h2 => hT ?_) (fun h2 => hF ?_); all_goals clear hT hF T F; try simp at h2)
 ·rw [if_pos h2]
  (refine awp_sr fun Y Yh => ?_; simp [go_sem]; ((repeat' (first|(refine ag_x ?_;simp [go_sem])|intro _|apply And.intro|(apply Yh;clear Yh Y)));all_goals first|apply Hold.mk|omega|with_reducible assumption|skip))
  ((try refine CallT.toA ?_); refine callT_m (by first|exact .inl ⟨rfl,rfl⟩|exact .inr rfl) (by simp [go_sem]) ?_; intro args ha; simp [go_sem] at ha; subst ha; refine ⟨_, (index_spec ns t hn), ?_⟩; rintro _ rfl; simp [go_sem]; ((repeat' (first|(refine ag_x ?_;simp [go_sem])|intro _|apply And.intro|(apply Yh;clear Yh Y)));all_goals first|apply Hold.mk|omega|with_reducible assumption|skip))
  (refine awp_ret ?_; simp [go_sem])
 ·rw [if_neg h2]
  rw [if_neg h2] at hK1
  refine awp_skip ?_
  refine hK1 _ ?_; clear hK1
  refine awp_seq_k fun K3 hK3 => ?_
  by_cases c1 : k = 5
  ·by_cases c2 : t = []
   ·subst c2
    (refine awp_sr fun Y Yh => ?_; simp [go_sem, c1]; ((repeat' (first|(refine ag_false ?_ ?_ ?_;(focus (simp [go_sem, undef, c1];done));(focus (simp [go_sem];done));simp [go_sem, c1])|(refine ag_x ?_;simp [go_sem, undef, c1])|intro _|apply And.intro|(apply Yh;clear Yh Y)));all_goals first|apply Hold.mk|omega|with_reducible assumption|skip))
    (refine awp_if fun T F hT hF => ?_; simp [go_sem]; refine hT ?_; clear hT hF T F)
    (refine awp_sr fun Y Yh => ?_; simp [go_sem]; ((repeat' (first|(refine ag_x ?_;simp [go_sem])|intro _|apply And.intro|(apply Yh;clear Yh Y)));all_goals first|apply Hold.mk|omega|with_reducible assumption|skip))
    (refine awp_ret ?_; simp [go_sem])
   ·obtain ⟨c0, t', ht0⟩ := List.exists_cons_of_ne_nil c2
    have hl0 : 0 < t.length := by rw [ht0]; simp
    have hg0 : t[0]? = some t[0] := List.getElem?_eq_getElem hl0
    by_cases c3 : 4 < t.length
    ·have c3' : (4 : Int) < t.length := by omega
     (refine awp_sr fun Y Yh => ?_; simp [go_sem, c1, c2, c3, c3']; ((repeat' (first|(refine ag_false ?_ ?_ ?_;(focus (simp [go_sem, undef, c1, c2, c3, c3'];done));(focus (simp [go_sem];done));simp [go_sem, c1, c2, c3, c3'])|(refine ag_x ?_;simp [go_sem, undef, c1, c2, c3, c3'])|intro _|apply And.intro|(apply Yh;clear Yh Y)));all_goals first|apply Hold.mk|omega|with_reducible assumption|skip))
     (refine awp_if fun T F hT hF => ?_; simp [go_sem]; refine hT ?_; clear hT hF T F)
     (refine awp_sr fun Y Yh => ?_; simp [go_sem]; ((repeat' (first|(refine ag_x ?_;simp [go_sem])|intro _|apply And.intro|(apply Yh;clear Yh Y)));all_goals first|apply Hold.mk|omega|with_reducible assumption|skip))
     (refine awp_ret ?_; simp [go_sem])
     simp [c1, c2, c3]
     try (intros; omega)
    ·have c3' : ¬ (4 : Int) < t.length := by omega
     by_cases c4 : t[0] = 48 ∧ 1 < t.length
     ·have c4a : (t[0].toNat : Int) = 48 := by rw [c4.1]; rfl
      have c4b : (1 : Int) < t.length := by omega
      (refine awp_sr fun Y Yh => ?_; simp [go_sem, c1, c2, c3, c3', hl0, hg0, c4a, c4b]; ((repeat' (first|(refine ag_false ?_ ?_ ?_;(focus (simp [go_sem, undef, c1, c2, c3, c3', hl0, hg0, c4a, c4b];done));(focus (simp [go_sem];done));simp [go_sem, c1, c2, c3, c3', hl0, hg0, c4a, c4b])|(refine ag_x ?_;simp [go_sem, undef, c1, c2, c3, c3', hl0, hg0, c4a, c4b])|intro _|apply And.intro|(apply Yh;clear Yh Y)));all_goals first|apply Hold.mk|omega|with_reducible assumption|skip))
      (refine awp_if fun T F hT hF => ?_; simp [go_sem]; refine hT ?_; clear hT hF T F)
      (refine awp_sr fun Y Yh => ?_; simp [go_sem]; ((repeat' (first|(refine ag_x ?_;simp [go_sem])|intro _|apply And.intro|(apply Yh;clear Yh Y)));all_goals first|apply Hold.mk|omega|with_reducible assumption|skip))
      (refine awp_ret ?_; simp [go_sem])
      simp [c1, c2, c3, hg0, c4]
      try (intros; omega)
     ·have c4' : ¬ ((t[0].toNat : Int) = 48 ∧ (1 : Int) < t.length) := fun ⟨q1, q2⟩ => c4 ⟨(u8i _ 48).1 (q1.trans rfl), by omega⟩
      have T := trimS_spec t [48, 49, 50, 51, 52, 53, 54, 55, 56, 57] ht (by simp) (by decide)
      have hT := trimS_nil t [48, 49, 50, 51, 52, 53, 54, 55, 56, 57]
      rw [tenD_dg] at hT
      have rest : ∀ b : Bool, t.all isDg = b → (b = true → ∀ S', Cov S' ⟨[(1, dS t), (2, .ptr 2 gv 0)], [(2, (gv, .box [dI k, dS tx, dSs ns, .sl 4 (xs.map cJ)]))]⟩ → K3 S') → True := fun _ _ _ => trivial
      clear rest
      have tl : t.all isDg = true → ∀ S', Cov S' ⟨[(1, dS t), (2, .ptr 2 gv 0)], [(2, (gv, .box [dI k, dS tx, dSs ns, .sl 4 (xs.map cJ)]))]⟩ → K3 S' := fun hd S' hS => by
       refine hK3 _ ?_; clear hK3
       refine awp_cov hS ?_; clear hS
       have hcond : ¬ (k ≠ 5 ∨ t = [] ∨ 4 < t.length ∨ (t[0]? = some 48 ∧ 1 < t.length) ∨ t.all isDg = false) := by
        rintro (h | h | h | ⟨h, h'⟩ | h)
        ·exact h c1
        ·exact c2 h
        ·exact c3 h
        ·rw [hg0] at h; exact c4 ⟨by simpa using h, h'⟩
        ·rw [hd] at h; cases h
       rw [if_neg hcond]
       (refine awp_sr fun Y Yh => ?_; simp [go_sem]; ((repeat' (first|(refine ag_x ?_;simp [go_sem])|intro _|apply And.intro|(apply Yh;clear Yh Y)));all_goals first|apply Hold.mk|omega|with_reducible assumption|skip))
       refine awp_seq_k fun K6 hK6 => ?_
       (refine awp_sr fun Y Yh => ?_; simp [go_sem]; ((repeat' (first|(refine ag_x ?_;simp [go_sem])|intro _|apply And.intro|(apply Yh;clear Yh Y)));all_goals first|apply Hold.mk|omega|with_reducible assumption|skip))
       refine awp_block ?_
       have hdec := decV_lt t 0 hd
       have hpow : 10 ^ t.length ≤ 10 ^ 4 := Nat.pow_le_pow_right (by omega) (by omega)
       have hpre : ∀ i, i ≤ t.length → decV (t.take i) < 10000 := fun i hi => by
        have h1 := decV_lt (t.take i) 0 (by
         rw [List.all_eq_true] at hd ⊢
         exact fun x hx => hd x (List.mem_of_mem_take hx))
        have h2 : 10 ^ (t.take i).length ≤ 10 ^ 4 := Nat.pow_le_pow_right (by omega) (by rw [List.length_take]; omega)
        unfold decV
        omega
       refine awp_loop (σ := Nat) (fun i => ⟨[(2, .ptr 2 gv 0), (5, dI (decV (t.take i))), (43, .sl 1 (t.map fun c => [dU c])), (44, dI t.length), (45, dI i)], [(2, (gv, .box [dI k, dS tx, dSs ns, .sl 4 (xs.map cJ)]))]⟩) (fun i => i ≤ t.length) (fun i => t.length - i) 0 ?_ (by simp) ?_
       ·(refine cov_of ?_ ?_ <;> simp [go_sem])
        rfl
       intro i hi
       (refine awp_sr fun Y Yh => ?_; simp [go_sem]; ((repeat' (first|(refine ag_x ?_;simp [go_sem])|intro _|apply And.intro|(apply Yh;clear Yh Y)));all_goals first|apply Hold.mk|omega|with_reducible assumption|skip))
       refine awp_seq_k fun K8 hK8 => ?_
       (refine awp_if fun T F hT hF => ?_; simp [go_sem]; refine BR.intro (fun h7 => hT ?_) (fun h7 => hF ?_); all_goals clear hT hF T F; try simp at h7)
       ·have hlt : i < t.length := by omega
        have hgi : t[i]? = some t[i] := List.getElem?_eq_getElem hlt
        have hdi : isDg t[i] = true := List.all_eq_true.1 hd _ (List.getElem_mem hlt)
        have hstep : decV (t.take (i + 1)) = decV (t.take i) * 10 + (t[i].toNat - 48) := by
         unfold decV
         rw [List.take_add_one, hgi, List.foldl_append]
         rfl
        have hb := hpre i hi
        have hb' := hpre (i + 1) hlt
        refine awp_skip ?_
        refine hK8 _ ?_; clear hK8
        refine awp_seq_k fun K9 hK9 => ?_
        refine awp_block ?_
        (refine awp_sr fun Y Yh => ?_; simp [go_sem, hgi, hlt]; ((repeat' (first|(refine ag_x ?_;simp [go_sem, hgi, hlt])|intro _|apply And.intro|(apply Yh;clear Yh Y)));all_goals first|apply Hold.mk|omega|with_reducible assumption|skip))
        (refine awp_r fun Y Yh => ?_; simp [go_sem, dg_sub hdi]; ((repeat' (first|(refine ag_x ?_;simp [go_sem, dg_sub hdi])|intro _|apply And.intro|(apply Yh;clear Yh Y)));all_goals first|apply Hold.mk|omega|with_reducible assumption|skip))
        refine hK9 _ ?_; clear hK9
        (refine awp_r fun Y Yh => ?_; simp [go_sem]; ((repeat' (first|(refine ag_x ?_;simp [go_sem])|intro _|apply And.intro|(apply Yh;clear Yh Y)));all_goals first|apply Hold.mk|omega|with_reducible assumption|skip))
        refine ⟨i + 1, ?_, hlt, by omega⟩
        (refine cov_of ?_ ?_ <;> simp [go_sem, hstep])
       ·refine awp_exit ?_
        simp only [go_sem]
        refine hK6 _ ?_; clear hK6
        have e : i = t.length := by omega
        subst e
        rw [List.take_length]
        clear hdec hpow hpre T hT
        refine awp_seq_k fun K10 hK10 => ?_
        (refine awp_sr fun Y Yh => ?_; simp [go_sem]; ((repeat' (first|(refine ag_x ?_;simp [go_sem])|intro _|apply And.intro|(apply Yh;clear Yh Y)));all_goals first|apply Hold.mk|omega|with_reducible assumption|skip))
        (refine awp_if fun T F hT hF => ?_; simp [go_sem]; refine BR.intro (fun h8 => hT ?_) (fun h8 => hF ?_); all_goals clear hT hF T F; try simp at h8)
        ·(refine awp_sr fun Y Yh => ?_; simp [go_sem]; ((repeat' (first|(refine ag_x ?_;simp [go_sem])|intro _|apply And.intro|(apply Yh;clear Yh Y)));all_goals first|apply Hold.mk|omega|with_reducible assumption|skip))
         (refine awp_ret ?_; simp [go_sem])
         all_goals omega
        ·refine awp_skip ?_
         refine hK10 _ ?_; clear hK10
         (refine awp_sr fun Y Yh => ?_; simp [go_sem]; ((repeat' (first|(refine ag_x ?_;simp [go_sem])|intro _|apply And.intro|(apply Yh;clear Yh Y)));all_goals first|apply Hold.mk|omega|with_reducible assumption|skip))
         (refine awp_ret ?_; simp [go_sem])
         all_goals omega
      by_cases q : (t[0].toNat : Int) = 48
      ·have q2 : ¬ (1 : Int) < t.length := fun h => c4' ⟨q, h⟩
       (refine awp_sr fun Y Yh => ?_; simp [go_sem, c1, c2, c3, c3', hl0, hg0, q, q2]; ((repeat' (first|(refine ag_false ?_ ?_ ?_;(focus (simp [go_sem, undef, c1, c2, c3, c3', hl0, hg0, q, q2];done));(focus (simp [go_sem];done));simp [go_sem, c1, c2, c3, c3', hl0, hg0, q, q2])|(refine ag_true ?_ ?_;(focus (simp [go_sem, undef, c1, c2, c3, c3', hl0, hg0, q, q2];done));simp [go_sem, c1, c2, c3, c3', hl0, hg0, q, q2])|(refine ag_x ?_;simp [go_sem, undef, c1, c2, c3, c3', hl0, hg0, q, q2])|intro _|apply And.intro|(apply Yh;clear Yh Y)));all_goals first|apply Hold.mk|omega|with_reducible assumption|skip))
       ((try refine CallT.toA ?_); refine callT_m (by first|exact .inl ⟨rfl,rfl⟩|exact .inr rfl) (by simp [go_sem]) ?_; intro args ha; simp [go_sem] at ha; subst ha; refine ⟨_, T, ?_⟩; rintro _ rfl; simp [go_sem, c1, c2]; ((repeat' (first|(refine ag_false ?_ ?_ ?_;(focus (simp [go_sem, undef, c1, c2];done));(focus (simp [go_sem];done));simp [go_sem, c1, c2])|(refine ag_true ?_ ?_;(focus (simp [go_sem, undef, c1, c2];done));simp [go_sem, c1, c2])|(refine ag_x ?_;simp [go_sem, undef, c1, c2])|intro _|apply And.intro|(apply Yh;clear Yh Y)));all_goals first|apply Hold.mk|omega|with_reducible assumption|skip))
       (refine awp_if fun T F hT hF => ?_; simp [go_sem]; refine BR.intro (fun h5 => hT ?_) (fun h5 => hF ?_); all_goals clear hT hF T F; try simp at h5)
       ·have hd : t.all isDg = false := by
         cases hx : t.all isDg with
         | false => rfl
         | true =>
          have h6 := hT.2 hx
          simp [c2, h6] at h5
        (refine awp_sr fun Y Yh => ?_; simp [go_sem]; ((repeat' (first|(refine ag_x ?_;simp [go_sem])|intro _|apply And.intro|(apply Yh;clear Yh Y)));all_goals first|apply Hold.mk|omega|with_reducible assumption|skip))
        (refine awp_ret ?_; simp [go_sem])
        intro _ _ _ _ hall
        exact absurd (List.all_eq_true.2 hall) (by rw [hd]; simp)
       ·have hd : t.all isDg = true := hT.1 h5.2
        refine awp_skip ?_
        refine tl hd _ ?_
        (refine cov_of ?_ ?_ <;> simp [go_sem])
        exact c1.symm
      ·(refine awp_sr fun Y Yh => ?_; simp [go_sem, c1, c2, c3, c3', hl0, hg0, q]; ((repeat' (first|(refine ag_false ?_ ?_ ?_;(focus (simp [go_sem, undef, c1, c2, c3, c3', hl0, hg0, q];done));(focus (simp [go_sem];done));simp [go_sem, c1, c2, c3, c3', hl0, hg0, q])|(refine ag_true ?_ ?_;(focus (simp [go_sem, undef, c1, c2, c3, c3', hl0, hg0, q];done));simp [go_sem, c1, c2, c3, c3', hl0, hg0, q])|(refine ag_x ?_;simp [go_sem, undef, c1, c2, c3, c3', hl0, hg0, q])|intro _|apply And.intro|(apply Yh;clear Yh Y)));all_goals first|apply Hold.mk|omega|with_reducible assumption|skip))
       ((try refine CallT.toA ?_); refine callT_m (by first|exact .inl ⟨rfl,rfl⟩|exact .inr rfl) (by simp [go_sem]) ?_; intro args ha; simp [go_sem] at ha; subst ha; refine ⟨_, T, ?_⟩; rintro _ rfl; simp [go_sem, c1, c2]; ((repeat' (first|(refine ag_false ?_ ?_ ?_;(focus (simp [go_sem, undef, c1, c2];done));(focus (simp [go_sem];done));simp [go_sem, c1, c2])|(refine ag_true ?_ ?_;(focus (simp [go_sem, undef, c1, c2];done));simp [go_sem, c1, c2])|(refine ag_x ?_;simp [go_sem, undef, c1, c2])|intro _|apply And.intro|(apply Yh;clear Yh Y)));all_goals first|apply Hold.mk|omega|with_reducible assumption|skip))
       (refine awp_if fun T F hT hF => ?_; simp [go_sem]; refine BR.intro (fun h5 => hT ?_) (fun h5 => hF ?_); all_goals clear hT hF T F; try simp at h5)
       ·have hd : t.all isDg = false := by
         cases hx : t.all isDg with
         | false => rfl
         | true =>
          have h6 := hT.2 hx
          simp [c2, h6] at h5
        (refine awp_sr fun Y Yh => ?_; simp [go_sem]; ((repeat' (first|(refine ag_x ?_;simp [go_sem])|intro _|apply And.intro|(apply Yh;clear Yh Y)));all_goals first|apply Hold.mk|omega|with_reducible assumption|skip))
        (refine awp_ret ?_; simp [go_sem])
        intro _ _ _ _ hall
        exact absurd (List.all_eq_true.2 hall) (by rw [hd]; simp)
       ·have hd : t.all isDg = true := hT.1 h5.2
        refine awp_skip ?_
        refine tl hd _ ?_
        (refine cov_of ?_ ?_ <;> simp [go_sem])
        exact c1.symm
  ·(refine awp_sr fun Y Yh => ?_; simp [go_sem, c1]; ((repeat' (first|(refine ag_false ?_ ?_ ?_;(focus (simp [go_sem, undef, c1];done));(focus (simp [go_sem];done));simp [go_sem, c1])|(refine ag_x ?_;simp [go_sem, undef, c1])|intro _|apply And.intro|(apply Yh;clear Yh Y)));all_goals first|apply Hold.mk|omega|with_reducible assumption|skip))
   (refine awp_if fun T F hT hF => ?_; simp [go_sem]; refine hT ?_; clear hT hF T F)
   (refine awp_sr fun Y Yh => ?_; simp [go_sem]; ((repeat' (first|(refine ag_x ?_;simp [go_sem])|intro _|apply And.intro|(apply Yh;clear Yh Y)));all_goals first|apply Hold.mk|omega|with_reducible assumption|skip))
   (refine awp_ret ?_; simp [go_sem])
   intro h; exact absurd h c1
end Go.Proofs.YtkgmecjaejaehaaGreatDoor
namespace Go.Js
/-! whether a value is valid; the values are counted -/
def isNumV (t : List UInt8) : Bool := (numV t).2.isNone && decide ((numV t).1 = t.length) && decide (t.length ≤ 60)
def okNames (ns : List (List UInt8)) (m : Nat) : Bool := decide (ns.length = m) && decide ((Lib.compact (ns.mergeSort fun x y => decide (x ≤ y))).length = ns.length) && ns.all Lib.validD
def leafV (k : Int) (t : List UInt8) : Bool :=
 if k = 0 ∨ k = 1 ∨ k = 2 then decide (t = []) else if k = 3 then isNumV t else if k = 4 then Lib.validD t else false
mutual
def vldV : JV → Int → Int → Bool × Int
 | .mk k t ns xs, left, deep =>
  if left - 1 < 0 ∨ 50 < deep then (false, left - 1)
  else if k = 0 ∨ k = 1 ∨ k = 2 ∨ k = 3 ∨ k = 4 then (decide (ns = []) && decide (xs = []) && leafV k t, left - 1)
  else if k = 5 then
   if ns ≠ [] then (false, left - 1) else if t ≠ [] then (false, left - 1) else vldL xs (left - 1) (deep + 1)
  else if k = 6 then
   if okNames ns xs.length = false then (false, left - 1) else if t ≠ [] then (false, left - 1) else vldL xs (left - 1) (deep + 1)
  else (false, left - 1)
def vldL : List JV → Int → Int → Bool × Int
 | [], left, _ => (true, left)
 | x :: xs, left, deep => if (vldV x left deep).1 = true then vldL xs (vldV x left deep).2 deep else (false, (vldV x left deep).2)
end
theorem vldL_bounds : ∀ (xs : List JV) (left deep : Int), (∀ x ∈ xs, ∀ l d, 0 ≤ l → -1 ≤ (vldV x l d).2 ∧ (vldV x l d).2 ≤ l ∧ ((vldV x l d).1 = true → 0 ≤ (vldV x l d).2)) → 0 ≤ left →
  -1 ≤ (vldL xs left deep).2 ∧ (vldL xs left deep).2 ≤ left ∧ ((vldL xs left deep).1 = true → 0 ≤ (vldL xs left deep).2)
 | [], left, deep, _, h0 => by simp only [vldL]; exact ⟨by omega, by omega, fun _ => h0⟩
 | x :: xs, left, deep, H, h0 => by
  have h1 := H x (List.mem_cons_self ..) left deep h0
  simp only [vldL]
  split
  ·rename_i q
   have h2 := vldL_bounds xs (vldV x left deep).2 deep (fun y hy => H y (List.mem_cons_of_mem _ hy)) (h1.2.2 q)
   exact ⟨h2.1, by omega, h2.2.2⟩
  ·rename_i q
   exact ⟨h1.1, h1.2.1, fun h => by simp at h⟩
theorem vldV_bounds : ∀ (N : Nat) (v : JV), sizeJ v ≤ N → ∀ (left deep : Int), 0 ≤ left → -1 ≤ (vldV v left deep).2 ∧ (vldV v left deep).2 ≤ left ∧ ((vldV v left deep).1 = true → 0 ≤ (vldV v left deep).2) := by
 intro N
 induction N using Nat.strongRecOn with
 | _ N ih =>
 rintro ⟨k, t, ns, xs⟩ hv left deep h0
 have HI : ∀ x ∈ xs, ∀ l d, 0 ≤ l → -1 ≤ (vldV x l d).2 ∧ (vldV x l d).2 ≤ l ∧ ((vldV x l d).1 = true → 0 ≤ (vldV x l d).2) := fun x hx l d hl =>
  ih (sizeJ x) (by have := sizeJ_item (k := k) (t := t) (ns := ns) hx; omega) x (Nat.le_refl _) l d hl
 simp only [vldV]
 by_cases c1 : left - 1 < 0 ∨ 50 < deep
 ·rw [if_pos c1]
  exact ⟨by simp only; omega, by simp only; omega, fun h => by simp at h⟩
 rw [if_neg c1]
 have h1 : 0 ≤ left - 1 := by omega
 have hL := vldL_bounds xs (left - 1) (deep + 1) HI h1
 repeat' split
 all_goals first
  | exact ⟨by simp only; omega, by simp only; omega, fun _ => h1⟩
  | exact ⟨hL.1, by omega, hL.2.2⟩
end Go.Js
namespace Go.Proofs
open Go.Shelf
def Tryz.sorted97_ren : Go.Shelf.Ren := ⟨fun | 6 => 97 | 8 => 145 | 9 => 146 | 11 => 180 | 13 => 182 | 12 => 181 | 23 => 214 | 24 => 215 | 14 => 205 | 15 => 206 | 16 => 207 | 17 => 208 | 18 => 209 | 19 => 210 | 20 => 211 | 21 => 212 | 22 => 213 | 25 => 230 | 26 => 231 | 27 => 232 | 28 => 233 | 29 => 234 | 30 => 235 | 31 => 249 | n => n, fun | 26 => 9 | 28 => 146 | 24 => 23 | 0 => 0 | 3 => 3 | 37 => 38 | 48 => 153 | 50 => 196 | 4 => 4 | 40 => 256 | 39 => 255 | 45 => 194 | 5 => 5 | 9 => 9 | 51 => 281 | 55 => 100 | 57 => 296 | 58 => 189 | 33 => 37 | n => n, fun | n => n⟩
theorem Tryz.sorted97 : Go.Proofs.SlLaysZ.n6 Tryz.prog Tryz.sorted97_ren := {
 mixed := by kernel_rfl
 f6 := ⟨Tryz.f97.name, by decide, Tryz.func97.trans (congrArg some (by kernel_rfl))⟩
 f8 := ⟨Tryz.f145.name, by decide, Tryz.func145.trans (congrArg some (by kernel_rfl))⟩
 f11 := ⟨Tryz.f180.name, by decide, Tryz.func180.trans (congrArg some (by kernel_rfl))⟩
 t0 := Tryz.underlying0
 a0 := Tryz.isAgg0
 z0 := Tryz.sizeOf0
 v0 := Tryz.zeroValue0
 t24 := Tryz.underlying23
 a24 := Tryz.isAgg23
 z24 := Tryz.sizeOf23
 v24 := Tryz.zeroValue23
 t26 := Tryz.underlying9
 a26 := Tryz.isAgg9
 z26 := Tryz.sizeOf9
 v26 := Tryz.zeroValue9
 t28 := Tryz.underlying146
 a28 := Tryz.isAgg146
 z28 := Tryz.sizeOf146
 v28 := Tryz.zeroValue146
 i26 := by kernel_rfl }
def Tryz.sort146_ren : Go.Shelf.Ren := ⟨fun | 6 => 146 | 8 => 182 | 9 => 181 | 19 => 214 | 20 => 215 | 21 => 205 | 22 => 206 | 23 => 207 | 24 => 208 | 25 => 209 | 26 => 210 | 27 => 211 | 28 => 212 | 29 => 213 | 36 => 230 | 31 => 231 | 32 => 232 | 37 => 233 | 38 => 234 | 39 => 235 | 41 => 249 | n => n, fun | 27 => 23 | 29 => 9 | 3 => 3 | 32 => 38 | 26 => 23 | 0 => 0 | 44 => 153 | 46 => 196 | 4 => 4 | 36 => 256 | 35 => 255 | 41 => 194 | 5 => 5 | 9 => 9 | 53 => 281 | 57 => 100 | 63 => 296 | 64 => 189 | n => n, fun | n => n⟩
theorem Tryz.sort146 : Go.Proofs.SlLaysM.n6 Tryz.prog Tryz.sort146_ren := {
 mixed := by kernel_rfl
 f6 := ⟨Tryz.f146.name, by decide, Tryz.func146.trans (congrArg some (by kernel_rfl))⟩
 f8 := Tryz.func182.trans (congrArg some (by kernel_rfl))
 f9 := ⟨Tryz.f181.name, by decide, Tryz.func181.trans (congrArg some (by kernel_rfl))⟩
 f19 := Tryz.func214.trans (congrArg some (by kernel_rfl))
 f20 := Tryz.func215.trans (congrArg some (by kernel_rfl))
 f21 := ⟨Tryz.f205.name, by decide, Tryz.func205.trans (congrArg some (by kernel_rfl))⟩
 f22 := ⟨Tryz.f206.name, by decide, Tryz.func206.trans (congrArg some (by kernel_rfl))⟩
 f23 := ⟨Tryz.f207.name, by decide, Tryz.func207.trans (congrArg some (by kernel_rfl))⟩
 f24 := ⟨Tryz.f208.name, by decide, Tryz.func208.trans (congrArg some (by kernel_rfl))⟩
 f25 := ⟨Tryz.f209.name, by decide, Tryz.func209.trans (congrArg some (by kernel_rfl))⟩
 f26 := ⟨Tryz.f210.name, by decide, Tryz.func210.trans (congrArg some (by kernel_rfl))⟩
 f27 := ⟨Tryz.f211.name, by decide, Tryz.func211.trans (congrArg some (by kernel_rfl))⟩
 f28 := ⟨Tryz.f212.name, by decide, Tryz.func212.trans (congrArg some (by kernel_rfl))⟩
 f29 := ⟨Tryz.f213.name, by decide, Tryz.func213.trans (congrArg some (by kernel_rfl))⟩
 f31 := Tryz.func231.trans (congrArg some (by kernel_rfl))
 f32 := Tryz.func232.trans (congrArg some (by kernel_rfl))
 f36 := ⟨Tryz.f230.name, by decide, Tryz.func230.trans (congrArg some (by kernel_rfl))⟩
 f37 := ⟨Tryz.f233.name, by decide, Tryz.func233.trans (congrArg some (by kernel_rfl))⟩
 f38 := ⟨Tryz.f234.name, by decide, Tryz.func234.trans (congrArg some (by kernel_rfl))⟩
 f39 := ⟨Tryz.f235.name, by decide, Tryz.func235.trans (congrArg some (by kernel_rfl))⟩
 f41 := ⟨Tryz.f249.name, by decide, Tryz.func249.trans (congrArg some (by kernel_rfl))⟩
 t0 := Tryz.underlying0
 a0 := Tryz.isAgg0
 z0 := Tryz.sizeOf0
 v0 := Tryz.zeroValue0
 t3 := Tryz.underlying3
 a3 := Tryz.isAgg3
 z3 := Tryz.sizeOf3
 v3 := Tryz.zeroValue3
 t4 := Tryz.underlying4
 a4 := Tryz.isAgg4
 z4 := Tryz.sizeOf4
 v4 := Tryz.zeroValue4
 t5 := Tryz.underlying5
 a5 := Tryz.isAgg5
 z5 := Tryz.sizeOf5
 v5 := Tryz.zeroValue5
 t9 := Tryz.underlying9
 a9 := Tryz.isAgg9
 z9 := Tryz.sizeOf9
 v9 := Tryz.zeroValue9
 t26 := Tryz.underlying23
 a26 := Tryz.isAgg23
 z26 := Tryz.sizeOf23
 v26 := Tryz.zeroValue23
 t27 := Tryz.underlying23
 a27 := Tryz.isAgg23
 z27 := Tryz.sizeOf23
 v27 := Tryz.zeroValue23
 t29 := Tryz.underlying9
 a29 := Tryz.isAgg9
 z29 := Tryz.sizeOf9
 v29 := Tryz.zeroValue9
 t32 := Tryz.underlying38
 a32 := Tryz.isAgg38
 z32 := Tryz.sizeOf38
 v32 := Tryz.zeroValue38
 t35 := Tryz.underlying255
 a35 := Tryz.isAgg255
 z35 := Tryz.sizeOf255
 v35 := Tryz.zeroValue255
 t36 := Tryz.underlying256
 a36 := Tryz.isAgg256
 z36 := Tryz.sizeOf256
 v36 := Tryz.zeroValue256
 t41 := Tryz.underlying194
 a41 := Tryz.isAgg194
 z41 := Tryz.sizeOf194
 v41 := Tryz.zeroValue194
 t44 := Tryz.underlying153
 a44 := Tryz.isAgg153
 z44 := Tryz.sizeOf153
 v44 := Tryz.zeroValue153
 t46 := Tryz.underlying196
 a46 := Tryz.isAgg196
 z46 := Tryz.sizeOf196
 v46 := Tryz.zeroValue196
 t53 := Tryz.underlying281
 a53 := Tryz.isAgg281
 z53 := Tryz.sizeOf281
 v53 := Tryz.zeroValue281
 t57 := Tryz.underlying100
 a57 := Tryz.isAgg100
 z57 := Tryz.sizeOf100
 v57 := Tryz.zeroValue100
 t63 := Tryz.underlying296
 a63 := Tryz.isAgg296
 z63 := Tryz.sizeOf296
 v63 := Tryz.zeroValue296
 t64 := Tryz.underlying189
 a64 := Tryz.isAgg189
 z64 := Tryz.sizeOf189
 v64 := Tryz.zeroValue189 }
end Go.Proofs
namespace Go.Eng
open Go.RowKit
set_option linter.unusedSectionVars false
variable {P : Program} [HasGlob P]
theorem ownsRow_zero {W : World} {base : Nat} {e : TypeId} {size : Nat} {v : Value} {k : Nat} {xs : List Value} (h : W.ownsRow base e size v k xs) : W.ownsRow 0 e size v k xs := by
 refine ⟨h.1, ?_⟩
 rcases h.2 with hn | ⟨g, cap, cur, hv, hbg, rest⟩
 ·exact .inl hn
 ·exact .inr ⟨g, cap, cur, hv, Nat.zero_le _, rest⟩
theorem acall_new {f : FuncId} {args : List D} {T nm : Nat} {ys : List Value} (hf : FnOk P f) (h9 : 900000 ≤ nm) (ho : ∀ y ∈ ys, y.oneCell' = true)
  (h : ∀ (C : Ctx) (w : World) (us : List Value), CtxOk C w → HasGlob.ok P w → RepL C w args us → Calls P f us.toArray w fun e w' => ∃ v, e = .returned v ∧ v.oneCell' = true ∧ w'.ownsRow w.heap.size T 1 v ys.length ys ∧ Below w.heap.size w w') :
  ACall P f args [] [nm] fun ps r => ∃ g, ps = [(g, .row T 1 (ys.map fun x => [.v x]))] ∧ r = .own nm g := by
 refine ⟨hf, fun p hp => by simp at hp, fun C w us hc hg hr he => ?_⟩
 refine (h C w us hc hg.1 hr).mono fun en w' ⟨v', he', ho', s1, hb⟩ => ?_
 obtain ⟨N, hN⟩ := hc.fresh nm
 have hge : ∀ k, v'.ownBlock = some k → w.heap.size ≤ k := fun k q => (s1.lt k q).1
 have hs0 : w'.ownsRow 0 T 1 v' ys.length ys := ownsRow_zero s1
 obtain ⟨m1, m2⟩ := blk_own' hs0
 let C' : Ctx := C.add nm N v'
 have hval : ∀ s g y, C.val s g = some y → C'.val s g = some y := fun s g y hy => by
  show (if s = nm ∧ g = N then some v' else C.val s g) = some y
  rw [if_neg]
  ·exact hy
  ·rintro ⟨rfl, rfl⟩
   rw [hN _ (Nat.le_refl _)] at hy
   cases hy
 have cases' : ∀ s g x, C'.val s g = some x → C'.live s g = true → (s = nm ∧ g = N ∧ x = v') ∨ (C.val s g = some x ∧ C.live s g = true) := fun s g x q1 q2 => by
  change (if s = nm ∧ g = N then some v' else C.val s g) = some x at q1
  change (if s = nm ∧ g = N then true else C.live s g) = true at q2
  by_cases q : s = nm ∧ g = N
  ·rw [if_pos q] at q1
   exact .inl ⟨q.1, q.2, by simpa using q1.symm⟩
  ·rw [if_neg q] at q1 q2
   exact .inr ⟨q1, q2⟩
 have hvN : C'.val nm N = some v' := by show (if nm = nm ∧ N = N then some v' else C.val nm N) = some v'; simp
 have hlN : C'.live nm N = true := by show (if nm = nm ∧ N = N then true else _) = true; simp
 have hlo : ∀ s g, ¬ (s = nm ∧ g = N) → C'.live s g = C.live s g := fun s g q1 => by
  show (if s = nm ∧ g = N then true else C.live s g) = C.live s g
  rw [if_neg q1]
 have hext : Ext C w C' w' := by
  refine ⟨hval, fun k hk ⟨s, g, x, q1, q2, q3⟩ => ?_, fun k hk hno => hb.block k hk, hb.size⟩
  rcases cases' s g x q1 q2 with ⟨_, _, e3⟩ | ⟨q4, q5⟩
  ·rw [e3, m1] at q3
   have := hge k q3
   omega
  ·exact ⟨s, g, x, q4, q5, q3⟩
 refine ⟨v', .own nm N, [(N, .row T 1 (ys.map fun x => [.v x]))], C', he', ⟨N, rfl, rfl⟩, .own nm N v' hvN ho', ⟨?_, ?_, ?_⟩, hext, ⟨rfl, ?_⟩, ?_, ?_, ?_, ?_, ⟨hb.os, hb.tape, hb.output, hb.size, fun k hk _ => hb.block k hk⟩⟩
 ·intro s g x s' g' x' k q1 q2 q3 q4 q5 q6
  rcases cases' s g x q1 q2 with ⟨rfl, rfl, rfl⟩ | ⟨p2, p3⟩ <;> rcases cases' s' g' x' q3 q4 with ⟨rfl, rfl, rfl⟩ | ⟨t2, t3⟩
  ·exact ⟨rfl, rfl⟩
  ·have := hc.bound _ _ _ _ t2 t3 q6
   have := hge k (m1 ▸ q5)
   omega
  ·have := hc.bound _ _ _ _ p2 p3 q5
   have := hge k (m1 ▸ q6)
   omega
  ·exact hc.apart s g x s' g' x' k p2 p3 t2 t3 q5 q6
 ·intro s g x k q1 q2 q3
  rcases cases' s g x q1 q2 with ⟨rfl, rfl, rfl⟩ | ⟨p2, p3⟩
  ·exact m2 k (m1 ▸ q3)
  ·exact Nat.lt_of_lt_of_le (hc.bound s g x k p2 p3 q3) hb.size
 ·intro s
  obtain ⟨M, hM⟩ := hc.fresh s
  refine ⟨max M (N + 1), fun g hg' => ?_⟩
  show (if s = nm ∧ g = N then some v' else C.val s g) = none
  rw [if_neg (by omega)]
  exact hM g (by omega)
 ·intro j s p hj hp
  match j, hj, hp with
  | 0, hj, hp =>
   simp only [List.getElem?_cons_zero, Option.some.injEq] at hj hp
   subst hj hp
   exact ⟨data_row hvN hlN hs0 ho, rfl⟩
  | j + 1, hj, hp => simp at hj
 ·intro j s p x k hj hp hv hk
  match j, hj, hp with
  | 0, hj, hp =>
   simp only [List.getElem?_cons_zero, Option.some.injEq] at hj hp
   subst hj hp
   have : x = v' := by rw [hvN] at hv; exact (Option.some.inj hv).symm
   subst this
   exact .inl (hge k (m1 ▸ hk))
  | j + 1, hj, hp => simp at hj
 ·intro j s p y hj hp hy
  match j, hj, hp with
  | 0, hj, hp =>
   simp only [List.getElem?_cons_zero, Option.some.injEq] at hj hp
   subst hj hp
   rw [hN _ (Nat.le_refl _)] at hy
   cases hy
  | j + 1, hj, hp => simp at hj
 ·intro s g y hy hnl
  refine hlo s g (fun q => ?_)
  rw [q.1, q.2, hN _ (Nat.le_refl _)] at hy
  cases hy
 ·intro s g y hy hl
  by_cases q : s = nm ∧ g = N
  ·rw [q.1, q.2, hN _ (Nat.le_refl _)] at hy; cases hy
  ·rw [hlo s g q] at hl; exact hl
end Go.Eng
namespace Go.Proofs.YtkgmecjaejaehaaGreatDoor
open Go.Eng Go.Js Go.RowKit Go.Maps Go.Sort Go.Shelf
set_option maxRecDepth 20000
theorem sorts97 (m : Nat) : AnyZ.SortsIn Tryz.prog Tryz.sorted97_ren Fence.wide m :=
 ⟨fun blk off cap ss W hH hblk hsz => callsIn_wide.2 (AnyM.slices_Sort_string Tryz.sort146 blk off cap ss W hH hblk hsz),
  fun p cap W => callsIn_wide.2 (AnyM.slices_Sort_string_none Tryz.sort146 p cap W)⟩
attribute [local go_sem] Oper.semAt_some
set_option maxRecDepth 100000 in
set_option maxHeartbeats 2000000 in
theorem values_in (F : Fence) (n : Nat) (h7 : F.fn 147) (hro : F.round = none) (hn : 1 ≤ n) (l Bs ob cap : Nat) (ao : Option Addr) (zs : List (List UInt8)) (hreach : zs.length ≤ 1000000) (J : List (List UInt8) → World → Prop)
  (hJc : ∀ pre W, J pre W → ∀ j, j < zs.length → ∃ b off, ao = some ⟨b, off, none⟩ ∧ W.cell? ⟨b, off + j, none⟩ = some (encStr (zs[j]?.getD [])))
  (hY : ∀ pre x W, J pre W → pre.length < zs.length → YieldAt F (n - 1) Tryz.prog l #[encStr x] W fun e W' => e = .returned (.bool true) ∧ J (pre ++ [x]) W' ∧ KeepsWalks W W')
  (W : World) (hBs : W.cell? ⟨Bs, ob, none⟩ = some (.slice ao zs.length cap)) (h0 : J [] W) :
  CallsIn F n Tryz.prog 147 #[.func (.yield l) #[] #[], .pointer (some ⟨Bs, ob, none⟩)] W fun e W' => (∃ v, e = .returned v) ∧ J zs W' := by
 refine callsIn_of_wp Tryz.func147 rfl h7 ?_ hro
 simp only [Tryz.ntmps147, List.size_toArray, List.length_cons, List.length_nil, Nat.reduceAdd, Nat.reduceSub, Array.replicate_succ, Array.replicate_zero, List.push_toArray, List.append_toArray, List.nil_append, List.cons_append]
 gi_wp2
 gi_loopw [7] (fun i wr => ∃ k : Nat, k ≤ zs.length ∧ i = .int .i64 k ∧ J (zs.take k) wr)
  (fun i _ => zs.length - (intOf i).toNat)
 case atStart => exact ⟨0, Nat.zero_le _, rfl, by simpa using h0⟩
 case round =>
  obtain ⟨k, hk, rfl, hJs⟩ := hrel
  by_cases hlt : k < zs.length
  ·obtain ⟨fn, tmps, assign, body, hy, hR⟩ := hY _ zs[k] wr hJs (by rw [List.length_take]; omega)
   obtain ⟨b, off, hao, hcx'⟩ := hJc _ _ hJs k hlt
   subst hao
   rw [List.getElem?_eq_getElem hlt] at hcx'
   dsimp only [encStr, Option.getD] at hy hcx'
   gi_wp2
   refine hR.mono ?_
   rintro e W3 ⟨rfl, hJ3, hk3⟩
   gi_wp2
   go_roundw
   case rel => exact ⟨k + 1, by omega, by simp, by
    rw [List.take_add_one, List.getElem?_eq_getElem hlt]
    exact hJ3⟩
   case measure => simp [intOf]; omega
  ·obtain rfl : k = zs.length := by omega
   rw [List.take_length] at hJs
   gi_wp2
   go_end0
   exact ⟨⟨_, rfl⟩, hJs⟩
end Go.Proofs.YtkgmecjaejaehaaGreatDoor
namespace Go.Proofs
open Go.RowKit Go.Maps Go.Sort Go.Shelf
variable {P : Program} {ρ : Ren}
def SeqFor (F : Fence) (n : Nat) (P : Program) (ρ : Ren) (g : Nat) (lb : Array Value) (zs : List (List UInt8)) (w : World) : Prop :=
 ∀ (l Bs D fn : Nat) (W : World),
  (∀ pre x W1, AnyZ.ApAt ρ w fn (.func (.func g) #[] lb) Bs l D pre W1 → pre.length < zs.length → YieldAt F (n - 1) P l #[encStr x] W1 fun e W' => e = .returned (.bool true) ∧ AnyZ.ApAt ρ w fn (.func (.func g) #[] lb) Bs l D (pre ++ [x]) W' ∧ KeepsWalks W1 W') →
  AnyZ.ApAt ρ w fn (.func (.func g) #[] lb) Bs l D [] W →
  CallsIn F n P g (#[.func (.yield l) #[] #[]] ++ lb) W fun e W' => (∃ v, e = .returned v) ∧ AnyZ.ApAt ρ w fn (.func (.func g) #[] lb) Bs l D zs W'
set_option maxRecDepth 100000 in
set_option maxHeartbeats 2000000 in
theorem appendFor_in (L : SlLaysZ.n11 P ρ) (F : Fence) (n : Nat) (h11 : F.fn (ρ.f 11)) (hro : F.round = none) (hn : 2 ≤ n) (g : Nat) (lb : Array Value) (hFg : F.fn g) (eg : ∀ args w, (callFunc g args).run P w = .ok (.enter g args) w)
  (zs : List (List UInt8)) (hN : zs.length ≤ maxLen) (hNb : zs.length * 16 ≤ 140737488355328) (w : World) (hseq : SeqFor F (n - 1) P ρ g lb zs w) :
  CallsIn F n P (ρ.f 11) #[.slice none 0 0, .func (.func g) #[] lb] w fun e w' => ∃ (v : Value), e = .returned v ∧ w'.ownsRow w.heap.size (ρ.t 26) 1 v zs.length (zs.map encStr) ∧ (v = .slice none 0 0 ↔ zs = []) ∧ Below w.heap.size w w' := by
 have h1 : 1 ≤ n := by omega
 have mixed := L.mixed; have t0 := L.t0; have a0 := L.a0; have z0 := L.z0; have v0 := L.v0; have t24 := L.t24; have a24 := L.a24; have z24 := L.z24; have v24 := L.v24; have t26 := L.t26; have a26 := L.a26; have z26 := L.z26; have v26 := L.v26; have t28 := L.t28; have a28 := L.a28; have z28 := L.z28; have v28 := L.v28
 have hne : ρ.t 24 ≠ ρ.t 26 := fun e => by have h := L.t24; rw [e, L.t26] at h; cases h
 have u0 := run_underlying L.t0; have u24 := run_underlying L.t24; have u26 := run_underlying L.t26; have u28 := run_underlying L.t28
 obtain ⟨_, _, FG⟩ := L.f11
 refine callsIn_of_wp_marks FG rfl h11 ?_ hro
 simp only [SlBodyZ.n11_ntmps ρ, List.size_toArray, List.length_cons, List.length_nil, Nat.reduceAdd, Nat.reduceSub, Array.replicate_succ, Array.replicate_zero, List.push_toArray, List.append_toArray, List.nil_append, List.cons_append]
 gi_wp2
 refine wpIn_rangeFunc ?_
 intro fn hfn
 rw [hro]
 obtain ⟨W0, hW0⟩ : ∃ W0, w.alloc (.cells #[.slice none 0 0] (ρ.t 24)) = W0 := ⟨_, rfl⟩
 have hs0 : W0.heap.size = w.heap.size + 1 := by rw [← hW0]; simp
 have hv0 : W0.heap[w.heap.size]? = some (.cells #[.slice none 0 0] (ρ.t 24) (0, 0)) := by rw [← hW0]; exact World.alloc_heap_new w _
 have hb0 : Below w.heap.size w W0 := by rw [← hW0]; exact (Below.refl _ w).alloc (Nat.le_refl _) _
 rw [hW0]
 obtain ⟨W1, hW1⟩ : ∃ W1, (W0.alloc (.deferred (some []))).alloc (.loop (AnyZ.apRec ρ fn (.func (.func g) #[] lb) w.heap.size W0.heap.size .ready none)) = W1 := ⟨_, rfl⟩
 have hold : ∀ k, k < W0.heap.size → W1.heap[k]? = W0.heap[k]? := fun k hk => by
  rw [← hW1]; exact (Below.heap_alloc _ _ k (by simp; omega)).trans (Below.heap_alloc _ _ k hk)
 have hb1 : Below w.heap.size w W1 := by rw [← hW1]; exact (hb0.alloc hb0.size _).alloc (by have := hb0.size; simp; omega) _
 have hs1 : W1.heap.size = W0.heap.size + 2 := by rw [← hW1]; simp
 have hM : AnyZ.ApAt ρ w fn (.func (.func g) #[] lb) w.heap.size (W0.heap.size + 1) W0.heap.size [] W1 :=
  ⟨⟨_, (hold w.heap.size (by omega)).trans hv0, ⟨rfl, .inl ⟨rfl, rfl⟩⟩, by simp⟩,
   by rw [← hW1]; have := World.alloc_heap_new (W0.alloc (.deferred (some []))) (.loop (AnyZ.apRec ρ fn (.func (.func g) #[] lb) w.heap.size W0.heap.size .ready none)); rwa [World.size_alloc] at this,
   by rw [← hW1]; exact (Below.heap_alloc _ _ _ (by simp)).trans (World.alloc_heap_new W0 _), hb1⟩
 refine ⟨W0.heap.size + 1, [{ target := .collected W0.heap.size, args := #[] }], W1, { target := .fn (.func g) lb, args := #[.func (.yield (W0.heap.size + 1)) #[] #[]] }, W1, g,
  #[.func (.yield (W0.heap.size + 1)) #[] #[]] ++ lb, W1, ?_, ?_, ?_, ?_, fun _ => h1, ?_⟩
 ·rw [← hW1]; exact run_enterLoop_outer _ _ _ _ _
 ·simp [resolve, go_sem]
 ·intro f' hf'; simp [Target.leads] at hf'; subst hf'; exact hFg
 ·simp [invoke, go_sem, eg]
 ·refine (hseq (W0.heap.size + 1) w.heap.size W0.heap.size fn W1
   (fun pre x W hJ hl => AnyZ.apYield { L with } F (n - 1 - 1) w fn hfn _ w.heap.size (W0.heap.size + 1) W0.heap.size (by omega) (by omega) (by omega) (Nat.le_refl _) (by omega) zs.length hN hNb pre x W hJ hl) hM).mono ?_
  rintro e W2 ⟨⟨v0, rfl⟩, h2⟩
  obtain ⟨v, hv, hrow, hnil⟩ := h2.box
  have hend := run_endLoop (P := P) h2.L (by simp [AnyZ.apRec])
  obtain ⟨W3, hW3⟩ : ∃ W3, W2.putObj (W0.heap.size + 1) (.loop { AnyZ.apRec ρ fn (.func (.func g) #[] lb) w.heap.size W0.heap.size .ready none with state := .exhausted }) = W3 := ⟨_, rfl⟩
  rw [hW3] at hend
  have hg3 : W2.grownBy W3 (some (W0.heap.size + 1)) := by rw [← hW3]; exact grownBy_putObj_a _ _ _
  have hv3 : W3.heap[w.heap.size]? = some (.cells #[v] (ρ.t 24) (0, 0)) := by rw [← hW3]; exact (World.putObj_heap_other (by omega)).trans hv
  have hK3 : W3.heap[W0.heap.size]? = some (.deferred (some [])) := by rw [← hW3]; exact (World.putObj_heap_other (by omega)).trans h2.K
  have hrow3 := hrow.kept hg3 (ownsRow_ne_a hrow h2.L (fun cur e => by first | cases e | exact hne (Obj.cells.inj e).2.1))
  have hb3 : Below w.heap.size w W3 := h2.below.grown hg3 h2.below.size (fun k e => by cases e; omega)
  obtain ⟨hc3, hf3⟩ := cell_of_box_a hv3
  clear hW3
  refine ⟨none, W3, hend, ?_⟩
  gi_wp2
  rw [← hs0]
  refine ⟨by simp, .inl ⟨_, _, rfl, run_takeDeferred hK3, ?_⟩⟩
  exact ⟨_, results_tmp rfl _ _ _, v, rfl, hrow3.kept (grownBy_putObj_a _ _ _) (ownsRow_ne_a hrow3 hK3 (fun cur e => by first | cases e | exact hne (Obj.cells.inj e).2.1)), hnil, hb3.grown (grownBy_putObj_a _ _ _) hb3.size (fun k e => by cases e; omega)⟩
set_option maxRecDepth 100000 in
set_option maxHeartbeats 2000000 in
theorem collectFor_in (L : SlLaysZ.n8 P ρ) (F : Fence) (n : Nat) (h8 : F.fn (ρ.f 8)) (h11 : F.fn (ρ.f 11)) (hro : F.round = none) (hn : 3 ≤ n) (g : Nat) (lb : Array Value) (hFg : F.fn g) (eg : ∀ args w, (callFunc g args).run P w = .ok (.enter g args) w)
  (zs : List (List UInt8)) (hN : zs.length ≤ maxLen) (hNb : zs.length * 16 ≤ 140737488355328) (w : World) (hseq : SeqFor F (n - 1 - 1) P ρ g lb zs w) :
  CallsIn F n P (ρ.f 8) #[.func (.func g) #[] lb] w fun e w' => ∃ (v : Value), e = .returned v ∧ w'.ownsRow w.heap.size (ρ.t 26) 1 v zs.length (zs.map encStr) ∧ (v = .slice none 0 0 ↔ zs = []) ∧ Below w.heap.size w w' := by
 have h1 : 1 ≤ n := by omega
 have e11 : ∀ args w, (callFunc (ρ.f 11) args).run P w = .ok (.enter (ρ.f 11) args) w := L.f11.enters rfl
 have mixed := L.mixed; have t0 := L.t0; have a0 := L.a0; have z0 := L.z0; have v0 := L.v0; have t24 := L.t24; have a24 := L.a24; have z24 := L.z24; have v24 := L.v24; have t26 := L.t26; have a26 := L.a26; have z26 := L.z26; have v26 := L.v26; have t28 := L.t28; have a28 := L.a28; have z28 := L.z28; have v28 := L.v28
 have u0 := run_underlying L.t0; have u24 := run_underlying L.t24; have u26 := run_underlying L.t26; have u28 := run_underlying L.t28
 obtain ⟨_, _, FG⟩ := L.f8
 refine callsIn_of_wp FG rfl h8 ?_ hro
 simp only [SlBodyZ.n8_ntmps ρ, List.size_toArray, List.length_cons, List.length_nil, Nat.reduceAdd, Nat.reduceSub, Array.replicate_succ, Array.replicate_zero, List.push_toArray, List.append_toArray, List.nil_append, List.cons_append]
 gi_wp2_with (gi_at_fn (ρ.f 11); refine (appendFor_in { L with } F (n - 1) h11 hro (by omega) g lb hFg eg zs hN hNb _ hseq).mono ?_; rintro e w' ⟨v, rfl, hrow, hnil, hb⟩)
 go_ret
 exact ⟨v, rfl, hrow, hnil, hb⟩
set_option maxRecDepth 100000 in
set_option maxHeartbeats 2000000 in
theorem sortedFor_in (L : SlLaysZ.n6 P ρ) (F : Fence) (n : Nat) (h6 : F.fn (ρ.f 6)) (h8 : F.fn (ρ.f 8)) (h9 : F.fn (ρ.f 9)) (h11 : F.fn (ρ.f 11)) (hro : F.round = none) (hn : 4 ≤ n) (hsort : AnyZ.SortsIn P ρ F (n - 1)) (e9 : ∀ args w, (callFunc (ρ.f 9) args).run P w = .ok (.enter (ρ.f 9) args) w) (g : Nat) (lb : Array Value) (hFg : F.fn g) (eg : ∀ args w, (callFunc g args).run P w = .ok (.enter g args) w)
  (zs : List (List UInt8)) (hN : zs.length ≤ maxLen) (hNb : zs.length * 16 ≤ 140737488355328) (w : World) (hseq : SeqFor F (n - 1 - 1 - 1) P ρ g lb zs w) :
  CallsIn F n P (ρ.f 6) #[.func (.func g) #[] lb] w fun e w' => ∃ (v : Value), e = .returned v ∧
   w'.ownsRow w.heap.size (ρ.t 26) 1 v zs.length ((zs.mergeSort (fun x y => decide (x ≤ y))).map encStr) ∧ (v = .slice none 0 0 ↔ zs = []) ∧ Below w.heap.size w w' := by
 have h1 : 1 ≤ n := by omega
 have e8 : ∀ args w, (callFunc (ρ.f 8) args).run P w = .ok (.enter (ρ.f 8) args) w := L.f8.enters rfl
 have mixed := L.mixed; have t0 := L.t0; have a0 := L.a0; have z0 := L.z0; have v0 := L.v0; have t24 := L.t24; have a24 := L.a24; have z24 := L.z24; have v24 := L.v24; have t26 := L.t26; have a26 := L.a26; have z26 := L.z26; have v26 := L.v26; have t28 := L.t28; have a28 := L.a28; have z28 := L.z28; have v28 := L.v28
 have u0 := run_underlying L.t0; have u24 := run_underlying L.t24; have u26 := run_underlying L.t26; have u28 := run_underlying L.t28
 obtain ⟨_, _, FG⟩ := L.f6
 refine callsIn_of_wp FG rfl h6 ?_ hro
 simp only [SlBodyZ.n6_ntmps ρ, List.size_toArray, List.length_cons, List.length_nil, Nat.reduceAdd, Nat.reduceSub, Array.replicate_succ, Array.replicate_zero, List.push_toArray, List.append_toArray, List.nil_append, List.cons_append]
 gi_wp2_with (gi_at_fn (ρ.f 8); refine (collectFor_in { L with } F (n - 1) h8 h11 hro (by omega) g lb hFg eg zs hN hNb _ hseq).mono ?_; rintro e W ⟨v, rfl, hrow, hnil, hb⟩)
 rcases hrow.2 with ⟨rfl, hz⟩ | ⟨gb, cap, cur, rfl, hbase, hgb, r1, r2, r3, r4⟩
 ·
  have hss : zs = [] := List.eq_nil_of_length_eq_zero hz
  subst hss
  gi_wp2_with (gi_at_fn (ρ.f 9); refine (hsort.2 none 0 W).mono ?_; rintro e w' ⟨rfl, rfl⟩)
  go_ret
  exact ⟨.slice none 0 0, rfl, by simpa using hrow, by simp, hb⟩
 ·have hH : Holds encStr W gb 0 zs.toArray := holds_of_block hgb (by simpa using r4)
  have hgl : gb < W.heap.size := (Array.getElem?_eq_some_iff.1 hgb).1
  have hsz : zs.length < 4611686018427387904 := by omega
  have cS := hsort.1 gb 0 cap zs W hH hgl hsz
  gi_wp2_with (gi_at_fn (ρ.f 9); refine cS.mono ?_; rintro e w' ⟨rfl, nn, os, rfl⟩)
  go_ret
  exact ⟨_, rfl, ownsRow_sorted (by simp) hbase hgb r1 r2 r3, hnil, hb.grown (grownBy_sorted _) hb.size (fun j hj => by cases hj; exact hbase)⟩
end Go.Proofs
namespace Go.Proofs.YtkgmecjaejaehaaGreatDoor
open Go.Eng Go.Js Go.RowKit Go.Maps Go.Sort Go.Shelf
set_option maxRecDepth 20000
attribute [local irreducible] AG CallA CallT AWp PCall ACall XCall AgC
def srtS (l : List (List UInt8)) : List (List UInt8) := l.mergeSort fun x y => decide (x ≤ y)
@[go_sem] abbrev rS (l : List (List UInt8)) : Blk := .row 9 1 (l.map cS)
theorem encS (s : List UInt8) : encStr s = Value.string ⟨s.toArray⟩ := rfl
theorem enc_one (l : List (List UInt8)) : ∀ y ∈ l.map encStr, y.oneCell' = true := by
 intro y hy
 simp only [List.mem_map] at hy
 obtain ⟨s, _, rfl⟩ := hy
 rfl
theorem sorted_calls (Bs ob cap : Nat) (ao : Option Addr) (zs : List (List UInt8)) (hl : zs.length ≤ 1000000) (w : World) (hlt : Bs < w.heap.size) (hBs : w.cell? ⟨Bs, ob, none⟩ = some (.slice ao zs.length cap))
  (hc : ∀ j, j < zs.length → ∃ b off, ao = some ⟨b, off, none⟩ ∧ b < w.heap.size ∧ w.cell? ⟨b, off + j, none⟩ = some (encStr (zs[j]?.getD []))) :
  Calls Tryz.prog 97 #[.func (.func 147) #[] #[.pointer (some ⟨Bs, ob, none⟩)]] w fun e w' => ∃ v, e = .returned v ∧ w'.ownsRow w.heap.size 9 1 v zs.length ((srtS zs).map encStr) ∧ Below w.heap.size w w' := by
 have hseq : SeqFor Fence.wide 2 Tryz.prog Tryz.sorted97_ren 147 #[.pointer (some ⟨Bs, ob, none⟩)] zs w := by
  intro l B D fn W hY h0
  have hb := h0.below
  refine values_in Fence.wide 2 trivial rfl (by omega) l Bs ob cap ao zs hl _ (fun pre W1 hJ j hj => ?_) hY W ((hb.cell (p := ⟨Bs, ob, none⟩) hlt).trans hBs) h0
  obtain ⟨b, off, h1, h2, h3⟩ := hc j hj
  exact ⟨b, off, h1, (hJ.below.cell (p := ⟨b, off + j, none⟩) h2).trans h3⟩
 refine (callsIn_wide.1 (sortedFor_in Tryz.sorted97 Fence.wide 5 trivial trivial trivial trivial rfl (by omega) (sorts97 _) (enters_of Tryz.func146 (by kernel_rfl) rfl) 147 _ trivial (enters_of Tryz.func147 (by kernel_rfl) rfl) zs (by unfold maxLen; omega) (by omega) w hseq)).mono ?_
 rintro e w' ⟨v, rfl, h1, _, h2⟩
 exact ⟨v, rfl, h1, h2⟩
theorem sortedV_spec (nm : Nat) (l : List (List UInt8)) (h9 : 900000 ≤ nm) (hl : l.length ≤ 1000000) :
  ACall Tryz.prog 97 [.fn 147 [.rd [dSs l]]] [] [nm] fun ps r => ∃ g, ps = [(g, rS (srtS l))] ∧ r = .own nm g := by
 rw [show rS (srtS l) = .row 9 1 (((srtS l).map encStr).map fun x => [D.v x]) from by simp [encS]]
 refine acall_new ⟨_, Tryz.func97, rfl, rfl⟩ h9 (enc_one _) fun C w us hc hk hr => ?_
 have hus : ∃ b o cap ao, us = [.func (.func 147) #[] #[.pointer (some ⟨b, o, none⟩)]] ∧ w.cell? ⟨b, o, none⟩ = some (.slice ao l.length cap) ∧
   ∀ j, j < l.length → ∃ b off, ao = some ⟨b, off, none⟩ ∧ b < w.heap.size ∧ w.cell? ⟨b, off + j, none⟩ = some (encStr (l[j]?.getD [])) := by
  obtain ⟨hl', hh⟩ := hr
  match us, hl' with
  | [u1], _ =>
   have r1 := hh 0 _ _ rfl rfl
   cases r1 with
   | fn _ _ us hn h =>
    obtain ⟨lu⟩ := us
    match lu, hn, h with
    | [u0], _, h =>
     have h0 := h 0 _ u0 rfl rfl
     cases h0 with
     | rd _ b o vs hvc hv =>
      obtain ⟨q1, q2⟩ := hvc 0 _ rfl
      have q3 := hv 0 _ rfl
      generalize vs 0 = u at q2 q3
      change Rep C w (.sl 1 (l.map cS)) u at q3
      generalize hes : l.map cS = es at q3
      cases q3 with
      | slE _ a cap hm =>
       have h0 : l = [] := by simpa using hes
       subst h0
       exact ⟨b, o, cap, a, rfl, by simpa using q2, fun j hj => absurd hj (Nat.not_lt_zero _)⟩
      | sl _ _ b2 o2 cap us2 hl2 hm hk2 hc2 h2 =>
       subst hes
       refine ⟨b, o, cap, some ⟨b2, o2, none⟩, rfl, by simpa using q2, fun j hj => ?_⟩
       have e1 : (l.map cS)[j]? = some (cS l[j]) := by simp [hj]
       have p1 := (hc2 j 0 _ (.v (.string ⟨l[j].toArray⟩)) e1 rfl).2
       have p2 := (h2 j 0 _ (.v (.string ⟨l[j].toArray⟩)) e1 rfl).v_inv
       rw [p2] at p1
       refine ⟨b2, o2, rfl, cell_lt p1, ?_⟩
       rw [List.getElem?_eq_getElem hj]
       simpa [encS] using p1
 obtain ⟨b, o, cap, ao, rfl, h1, h2⟩ := hus
 refine (sorted_calls b o cap ao l hl w (cell_lt h1) h1 h2).mono ?_
 rintro e w' ⟨v, rfl, q1, q2⟩
 have hlen : ((srtS l).map encStr).length = l.length := by simp [srtS]
 rw [hlen]
 refine ⟨v, rfl, ?_, q1, q2⟩
 rcases q1.2 with ⟨rfl, _⟩ | ⟨g, cap, cur, rfl, _⟩ <;> rfl
open Go.Sort Go.RowKit in
theorem compact_spec (nr gr : Nat) (l : List (List UInt8)) (hn : 900000 ≤ nr) :
  ACall Tryz.prog 141 [.own nr gr] [(nr, (gr, rS l))] [nr] fun ps r' => ∃ gr', ps = [(gr', rS (Lib.compact l))] ∧ r' = .own nr gr' := by
 rw [show rS l = .row 9 1 ((l.map encStr).map fun x => [D.v x]) from by simp [encS], show rS (Lib.compact l) = .row 9 1 (((Lib.compact l).map encStr).map fun x => [D.v x]) from by simp [encS]]
 refine acall_cut ⟨_, Tryz.func141, by decide +kernel, rfl⟩ hn (enc_one _) fun v w hk ho => ?_
 simp only [List.length_map] at ho ⊢
 by_cases hv : v = .slice none 0 0
 ·subst hv
  have h0 : l = [] := by
   rcases ho.2 with ⟨_, h⟩ | ⟨g, cap, cur, h, _⟩
   ·simpa using h
   ·cases h
  subst h0
  refine (Tryz.slices_Compact_string_empty none 0 w).mono fun e w' ⟨h1, h2⟩ => ?_
  subst h2
  exact ⟨_, h1, rfl, rfl, by simpa [show Lib.compact [] = [] from rfl] using ho, rfl, rfl, rfl, Nat.le_refl _, fun _ _ _ => rfl⟩
 ·obtain ⟨g, cap, rfl, hb, hg, hc, hm, _, hH⟩ := Lib.holds_of_ownsRow ho hv
  have hle := Lib.compact_length_le l
  refine (Tryz.slices_Compact_string g 0 cap l w hH (by have : maxLen ≤ 9223372036854775807 := (by decide); omega) hc).mono fun e w' ⟨h1, q, h2⟩ => ?_
  subst h2
  refine ⟨_, h1, rfl, rfl, ?_, ?_⟩
  ·have := Lib.ownsRow_putRow (q := q) (k := (Lib.compact l).length) (ys := Lib.compact l ++ List.replicate (l.length - (Lib.compact l).length) []) ho (by simp; omega) hle
   rw [List.take_left] at this
   exact this
  ·have hbw := Lib.below_putRow (enc := encStr) (q := q) (d := (Lib.compact l ++ List.replicate (l.length - (Lib.compact l).length) []).toArray) (Below.refl w.heap.size w) (Nat.le_refl _) (g := w.heap.size)
   refine ⟨rfl, rfl, rfl, by simp [putRow, mapBlock, Sort.ahead], fun k hk hne => ?_⟩
   have : g ≠ k := fun q => hne (by simp [Value.ownBlock, q])
   simp [putRow, mapBlock, Sort.ahead, Array.getElem?_modify, this]
theorem seqV_spec (l : List (List UInt8)) : PCall Tryz.prog 98 [dSs l] fun r => r = .fn 147 [.rd [dSs l]] := by
 refine pcall_of Tryz.func98 rfl rfl Tryz.ntmps98 (rs := [.tmp 2]) (tys := [146]) rfl rfl (by simp) ?_
 refine awp_seq ?_
 refine awp_r fun Y Yh => ?_
 simp [go_sem]
 intro g1
 apply Yh; clear Yh Y
 refine Hold.mk ?_
 refine awp_frzbox 1 rfl rfl ?_
 simp only [go_sem]
 (refine awp_sr fun Y Yh => ?_; simp [go_sem]; ((repeat' (first|(refine ag_x ?_;simp [go_sem])|intro _|apply And.intro|(apply Yh;clear Yh Y)));all_goals first|apply Hold.mk|omega|with_reducible assumption|skip))
 (refine awp_ret ?_; simp [go_sem])
end Go.Proofs.YtkgmecjaejaehaaGreatDoor
namespace Go.Proofs.YtkgmecjaejaehaaGreatDoor
open Go.Eng Go.Js
set_option maxRecDepth 20000
attribute [local irreducible] AG CallA CallT AWp PCall ACall XCall AgC
theorem isNum_spec (t : Bs) (hl : t.length ≤ 4611686018427387904) : PCall Tryz.prog 140 [dS t] fun r => r = dB (isNumV t) := by
 refine pcall_of Tryz.func140 rfl rfl Tryz.ntmps140 (rs := [.tmp 2]) (tys := [4]) rfl rfl (by simp) ?_
 unfold isNumV
 (refine awp_sr fun Y Yh => ?_; simp [go_sem]; ((repeat' (first|(refine ag_x ?_;simp [go_sem])|intro _|apply And.intro|(apply Yh;clear Yh Y)));all_goals first|apply Hold.mk|omega|with_reducible assumption|skip))
 (refine awp_sr fun Y Yh => ?_; simp [go_sem]; ((repeat' (first|(refine ag_x ?_;simp [go_sem])|intro _|apply And.intro|(apply Yh;clear Yh Y)));all_goals first|apply Hold.mk|omega|with_reducible assumption|skip))
 ((try refine CallT.toA ?_); refine callT_m (by first|exact .inl ⟨rfl,rfl⟩|exact .inr rfl) (by simp [go_sem]) ?_; intro args ha; simp [go_sem] at ha; subst ha; refine ⟨_, (numEnd_spec t hl), ?_⟩; rintro _ rfl; simp [go_sem]; ((repeat' (first|(refine ag_x ?_;simp [go_sem])|intro _|apply And.intro|(apply Yh;clear Yh Y)));all_goals first|apply Hold.mk|omega|with_reducible assumption|skip))
 cases h : (numV t).2 with
 | some n =>
  have h1 : ¬ (n : Int) < 0 := by omega
  (refine awp_sr fun Y Yh => ?_; simp [go_sem, h, stkI, h1]; ((repeat' (first|(refine ag_false ?_ ?_ ?_;(focus (simp [go_sem, undef, h, stkI, h1];done));(focus (simp [go_sem];done));simp [go_sem, h, stkI, h1])|(refine ag_x ?_;simp [go_sem, undef, h, stkI, h1])|intro _|apply And.intro|(apply Yh;clear Yh Y)));all_goals first|apply Hold.mk|omega|with_reducible assumption|skip))
  (refine awp_ret ?_; simp [go_sem, h])
 | none =>
  by_cases h2 : (numV t).1 = t.length
  ·by_cases h3 : t.length ≤ 60
   ·(refine awp_sr fun Y Yh => ?_; simp [go_sem, h, stkI, h2, h3]; ((repeat' (first|(refine ag_false ?_ ?_ ?_;(focus (simp [go_sem, undef, h, stkI, h2, h3];done));(focus (simp [go_sem];done));simp [go_sem, h, stkI, h2, h3])|(refine ag_x ?_;simp [go_sem, undef, h, stkI, h2, h3])|intro _|apply And.intro|(apply Yh;clear Yh Y)));all_goals first|apply Hold.mk|omega|with_reducible assumption|skip))
    (refine awp_ret ?_; simp [go_sem, h, h2, h3])
    omega
   ·(refine awp_sr fun Y Yh => ?_; simp [go_sem, h, stkI, h2, h3]; ((repeat' (first|(refine ag_false ?_ ?_ ?_;(focus (simp [go_sem, undef, h, stkI, h2, h3];done));(focus (simp [go_sem];done));simp [go_sem, h, stkI, h2, h3])|(refine ag_x ?_;simp [go_sem, undef, h, stkI, h2, h3])|intro _|apply And.intro|(apply Yh;clear Yh Y)));all_goals first|apply Hold.mk|omega|with_reducible assumption|skip))
    (refine awp_ret ?_; simp [go_sem, h, h2, h3])
    omega
  ·(refine awp_sr fun Y Yh => ?_; simp [go_sem, h, stkI, h2]; ((repeat' (first|(refine ag_false ?_ ?_ ?_;(focus (simp [go_sem, undef, h, stkI, h2];done));(focus (simp [go_sem];done));simp [go_sem, h, stkI, h2])|(refine ag_x ?_;simp [go_sem, undef, h, stkI, h2])|intro _|apply And.intro|(apply Yh;clear Yh Y)));all_goals first|apply Hold.mk|omega|with_reducible assumption|skip))
   (refine awp_ret ?_; simp [go_sem, h, h2])
theorem indexS_spec (l : List Bs) (f : Nat) (p : Bs → Bool) (hp : ∀ x ∈ l, PCall Tryz.prog f [dS x] fun r => r = dB (p x)) (hl : l.length ≤ 1000000) : PCall Tryz.prog 179 [dSs l, .v (.func (.func f) #[] #[])] fun r => r = dI (fIx p l) := by
 refine pcall_of Tryz.func179 rfl rfl Tryz.ntmps179 (rs := [.tmp 4]) (tys := [3]) rfl rfl (by simp) ?_
 (refine awp_sr fun Y Yh => ?_; simp [go_sem]; ((repeat' (first|(refine ag_x ?_;simp [go_sem])|intro _|apply And.intro|(apply Yh;clear Yh Y)));all_goals first|apply Hold.mk|omega|with_reducible assumption|skip))
 refine awp_seq_k fun K1 hK1 => ?_
 (refine awp_sr fun Y Yh => ?_; simp [go_sem]; ((repeat' (first|(refine ag_x ?_;simp [go_sem])|intro _|apply And.intro|(apply Yh;clear Yh Y)));all_goals first|apply Hold.mk|omega|with_reducible assumption|skip))
 refine awp_block ?_
 refine awp_loop (σ := Nat) (fun i => ⟨[(0, dSs l), (1, .v (.func (.func f) #[] #[])), (7, dI l.length), (8, dI i)], []⟩) (fun i => i ≤ l.length ∧ (l.take i).any p = false) (fun i => l.length - i) 0 (by (refine cov_of ?_ ?_ <;> simp [go_sem])) (by simp) ?_
 rintro i ⟨hi, hany⟩
 (refine awp_sr fun Y Yh => ?_; simp [go_sem]; ((repeat' (first|(refine ag_x ?_;simp [go_sem])|intro _|apply And.intro|(apply Yh;clear Yh Y)));all_goals first|apply Hold.mk|omega|with_reducible assumption|skip))
 refine awp_seq_k fun K2 hK2 => ?_
 (refine awp_if fun T F hT hF => ?_; simp [go_sem]; refine BR.intro (fun h3 => hT ?_) (fun h3 => hF ?_); all_goals clear hT hF T F; try simp at h3)
 ·refine awp_skip ?_
  refine hK2 _ ?_; clear hK2
  obtain ⟨x, hx⟩ : ∃ x, l[i]? = some x := ⟨_, List.getElem?_eq_getElem (by omega)⟩
  refine awp_seq_k fun K4 hK4 => ?_
  refine awp_block ?_
  (refine awp_sr fun Y Yh => ?_; simp [go_sem]; ((repeat' (first|(refine ag_x ?_;simp [go_sem])|intro _|apply And.intro|(apply Yh;clear Yh Y)));all_goals first|apply Hold.mk|omega|with_reducible assumption|skip))
  (refine awp_sr fun Y Yh => ?_; simp [go_sem, hx]; ((repeat' (first|(refine ag_x ?_;simp [go_sem, hx])|intro _|apply And.intro|(apply Yh;clear Yh Y)));all_goals first|apply Hold.mk|omega|with_reducible assumption|skip))
  ((try refine CallT.toA ?_); refine callT_m (by first|exact .inl ⟨rfl,rfl⟩|exact .inr rfl) (by simp [go_sem]) ?_; intro args ha; simp [go_sem] at ha; subst ha; refine ⟨_, (hp x (List.mem_of_getElem? hx)), ?_⟩; rintro _ rfl; simp [go_sem, hx]; ((repeat' (first|(refine ag_x ?_;simp [go_sem, hx])|intro _|apply And.intro|(apply Yh;clear Yh Y)));all_goals first|apply Hold.mk|omega|with_reducible assumption|skip))
  cases hpx : p x with
  | true =>
   (refine awp_if fun T F hT hF => ?_; simp [go_sem]; refine hT ?_; clear hT hF T F)
   (refine awp_sr fun Y Yh => ?_; simp [go_sem]; ((repeat' (first|(refine ag_x ?_;simp [go_sem])|intro _|apply And.intro|(apply Yh;clear Yh Y)));all_goals first|apply Hold.mk|omega|with_reducible assumption|skip))
   (refine awp_ret ?_; simp [go_sem])
   rw [fIx_at hany hx hpx]
  | false =>
   (refine awp_if fun T F hT hF => ?_; simp [go_sem]; refine hF ?_; clear hT hF T F)
   refine awp_skip ?_
   refine hK4 _ ?_; clear hK4
   (refine awp_r fun Y Yh => ?_; simp [go_sem]; ((repeat' (first|(refine ag_x ?_;simp [go_sem])|intro _|apply And.intro|(apply Yh;clear Yh Y)));all_goals first|apply Hold.mk|omega|with_reducible assumption|skip))
   refine ⟨i + 1, ?_, ⟨by omega, take_anyG hany hx hpx⟩, by omega⟩
   (refine cov_of ?_ ?_ <;> simp [go_sem])
 ·refine awp_exit ?_
  simp only [go_sem]
  refine hK1 _ ?_; clear hK1
  (refine awp_sr fun Y Yh => ?_; simp [go_sem]; ((repeat' (first|(refine ag_x ?_;simp [go_sem])|intro _|apply And.intro|(apply Yh;clear Yh Y)));all_goals first|apply Hold.mk|omega|with_reducible assumption|skip))
  (refine awp_ret ?_; simp [go_sem])
  have : i = l.length := by omega
  subst this
  rw [List.take_length] at hany
  rw [fIx_none hany]
theorem containsS_spec (l : List Bs) (f : Nat) (p : Bs → Bool) (hp : ∀ x ∈ l, PCall Tryz.prog f [dS x] fun r => r = dB (p x)) (hl : l.length ≤ 1000000) : PCall Tryz.prog 142 [dSs l, .v (.func (.func f) #[] #[])] fun r => r = dB (l.any p) := by
 refine pcall_of Tryz.func142 rfl rfl Tryz.ntmps142 (rs := [.tmp 4]) (tys := [4]) rfl rfl (by simp) ?_
 (refine awp_sr fun Y Yh => ?_; simp [go_sem]; ((repeat' (first|(refine ag_x ?_;simp [go_sem])|intro _|apply And.intro|(apply Yh;clear Yh Y)));all_goals first|apply Hold.mk|omega|with_reducible assumption|skip))
 (refine awp_sr fun Y Yh => ?_; simp [go_sem]; ((repeat' (first|(refine ag_x ?_;simp [go_sem])|intro _|apply And.intro|(apply Yh;clear Yh Y)));all_goals first|apply Hold.mk|omega|with_reducible assumption|skip))
 ((try refine CallT.toA ?_); refine callT_m (by first|exact .inl ⟨rfl,rfl⟩|exact .inr rfl) (by simp [go_sem]) ?_; intro args ha; simp [go_sem] at ha; subst ha; refine ⟨_, (indexS_spec l f p hp hl), ?_⟩; rintro _ rfl; simp [go_sem]; ((repeat' (first|(refine ag_x ?_;simp [go_sem])|intro _|apply And.intro|(apply Yh;clear Yh Y)));all_goals first|apply Hold.mk|omega|with_reducible assumption|skip))
 (refine awp_ret ?_; simp [go_sem])
 have := fIx_any p l
 by_cases h : 0 ≤ fIx p l
 ·simp [h, this.1 h]
 ·cases q : l.any p with
  | true => exact absurd (this.2 q) h
  | false => simp [h]
theorem badName_spec (s : Bs) (hl : s.length ≤ 9223372036854775807) : PCall Tryz.prog 143 [dS s] fun r => r = dB (!Lib.validD s) := by
 refine pcall_of Tryz.func143 rfl rfl Tryz.ntmps143 (rs := [.tmp 2]) (tys := [4]) rfl rfl (by simp) ?_
 (refine awp_sr fun Y Yh => ?_; simp [go_sem]; ((repeat' (first|(refine ag_x ?_;simp [go_sem])|intro _|apply And.intro|(apply Yh;clear Yh Y)));all_goals first|apply Hold.mk|omega|with_reducible assumption|skip))
 (refine awp_sr fun Y Yh => ?_; simp [go_sem]; ((repeat' (first|(refine ag_x ?_;simp [go_sem])|intro _|apply And.intro|(apply Yh;clear Yh Y)));all_goals first|apply Hold.mk|omega|with_reducible assumption|skip))
 ((try refine CallT.toA ?_); refine callT_m (by first|exact .inl ⟨rfl,rfl⟩|exact .inr rfl) (by simp [go_sem]) ?_; intro args ha; simp [go_sem] at ha; subst ha; refine ⟨_, (vstr_spec s hl), ?_⟩; rintro _ rfl; simp [go_sem]; ((repeat' (first|(refine ag_x ?_;simp [go_sem])|intro _|apply And.intro|(apply Yh;clear Yh Y)));all_goals first|apply Hold.mk|omega|with_reducible assumption|skip))
 (refine awp_ret ?_; simp [go_sem])
end Go.Proofs.YtkgmecjaejaehaaGreatDoor
namespace Go.Js
theorem vldL_append : ∀ (xs ys : List JV) (l d : Int), vldL (xs ++ ys) l d = if (vldL xs l d).1 = true then vldL ys (vldL xs l d).2 d else (false, (vldL xs l d).2)
 | [], ys, l, d => by simp [vldL]
 | x :: xs, ys, l, d => by
  simp only [List.cons_append, vldL]
  split
  ·exact vldL_append xs ys _ d
  ·simp
theorem vldL_take {xs : List JV} {i : Nat} (hlt : i < xs.length) (l d : Int) (h : (vldL (xs.take i) l d).1 = true) :
  vldL (xs.take (i + 1)) l d = ((vldV xs[i] (vldL (xs.take i) l d).2 d)) := by
 rw [List.take_add_one, List.getElem?_eq_getElem hlt, vldL_append, if_pos h]
 simp only [Option.toList, vldL]
 split
 ·rename_i q; rw [← q]
 ·rename_i q
  rw [Bool.not_eq_true] at q
  rw [← q]
theorem vldL_stop {xs : List JV} {i : Nat} (l d : Int) (h : (vldL (xs.take i) l d).1 = false) : vldL xs l d = (false, (vldL (xs.take i) l d).2) := by
 conv => lhs; rw [← List.take_append_drop i xs]
 rw [vldL_append, if_neg (by simp [h])]
end Go.Js
namespace Go.Proofs.YtkgmecjaejaehaaGreatDoor
open Go.Eng Go.Js
set_option maxRecDepth 20000
attribute [local irreducible] AG CallA CallT AWp PCall ACall XCall AgC
abbrev bL (g : Nat) (n : Int) : Nat × Blk := (g, .box [dI n])
theorem bad_spec (gl : Nat) (x : JV) (left deep : Int) (hd : 0 ≤ deep ∧ deep ≤ 50)
  (H : ACall Tryz.prog 96 [dJ x, .ptr 900006 gl 0, dI (deep + 1)] [(900006, bL gl left)] [900006] fun ps r => r = dB (vldV x left (deep + 1)).1 ∧ ps = [bL gl (vldV x left (deep + 1)).2]) :
  ACall Tryz.prog 144 [dJ x, .rd [.ptr 900006 gl 0], .rd [dI deep]] [(900006, bL gl left)] [900006] fun ps r => r = dB (!(vldV x left (deep + 1)).1) ∧ ps = [bL gl (vldV x left (deep + 1)).2] := by
 refine acall_of Tryz.func144 rfl rfl Tryz.ntmps144 (rs := [.tmp 4]) (tys := [4]) rfl rfl (by simp) (by simp [notFroz]) ?_
 generalize vldV x left (deep + 1) = q at H ⊢
 obtain ⟨k, t, ns, xs⟩ := x
 rw [dJ_mk] at H ⊢
 (refine awp_sr fun Y Yh => ?_; simp [go_sem]; ((repeat' (first|(refine ag_x ?_;simp [go_sem])|intro _|apply And.intro|(apply Yh;clear Yh Y)));all_goals first|apply Hold.mk|omega|with_reducible assumption|skip))
 (refine awp_sr fun Y Yh => ?_; simp [go_sem]; ((repeat' (first|(refine ag_x ?_;simp [go_sem])|intro _|apply And.intro|(apply Yh;clear Yh Y)));all_goals first|apply Hold.mk|omega|with_reducible assumption|skip))
 (refine callA_l [900006] (by first|exact .inl ⟨rfl,rfl⟩|exact .inr rfl) (by simp [go_sem]) ?_; intro args ha; simp [go_sem] at ha; subst ha; refine ⟨_, _, H, (by simp [go_sem]), ?_⟩; rintro ps r hps ⟨rfl, rfl⟩; simp [go_sem]; ((repeat' (first|(refine ag_x ?_;simp [go_sem])|intro _|apply And.intro|(apply Yh;clear Yh Y)));all_goals first|apply Hold.mk|omega|with_reducible assumption|skip))
 (refine awp_ret ?_; simp [go_sem, retA])
theorem index2_spec (gl : Nat) (xs : List JV) (left deep : Int) (hd : 0 ≤ deep ∧ deep ≤ 50) (h0 : 0 ≤ left) (hl : xs.length ≤ 10000000)
  (H : ∀ x ∈ xs, ∀ lf, 0 ≤ lf → lf ≤ left → ACall Tryz.prog 96 [dJ x, .ptr 900006 gl 0, dI (deep + 1)] [(900006, bL gl lf)] [900006] fun ps r => r = dB (vldV x lf (deep + 1)).1 ∧ ps = [bL gl (vldV x lf (deep + 1)).2]) :
  ACall Tryz.prog 153 [.sl 4 (xs.map cJ), .fn 144 [.rd [.ptr 900006 gl 0], .rd [dI deep]]] [(900006, bL gl left)] [900006] fun ps r => ∃ j : Int, r = dI j ∧ (0 ≤ j ↔ (vldL xs left (deep + 1)).1 = false) ∧ ps = [bL gl (vldL xs left (deep + 1)).2] := by
 refine acall_of Tryz.func153 rfl rfl Tryz.ntmps153 (rs := [.tmp 4]) (tys := [3]) rfl rfl (by simp) (by simp [notFroz]) ?_
 (refine awp_sr fun Y Yh => ?_; simp [go_sem]; ((repeat' (first|(refine ag_x ?_;simp [go_sem])|intro _|apply And.intro|(apply Yh;clear Yh Y)));all_goals first|apply Hold.mk|omega|with_reducible assumption|skip))
 refine awp_seq_k fun K1 hK1 => ?_
 (refine awp_sr fun Y Yh => ?_; simp [go_sem]; ((repeat' (first|(refine ag_x ?_;simp [go_sem])|intro _|apply And.intro|(apply Yh;clear Yh Y)));all_goals first|apply Hold.mk|omega|with_reducible assumption|skip))
 refine awp_block ?_
 refine awp_loop (σ := Nat) (fun i => ⟨[(0, .sl 4 (xs.map cJ)), (1, .fn 144 [.rd [.ptr 900006 gl 0], .rd [dI deep]]), (7, dI xs.length), (8, dI i)], [(900006, bL gl (vldL (xs.take i) left (deep + 1)).2)]⟩) (fun i => i ≤ xs.length ∧ (vldL (xs.take i) left (deep + 1)).1 = true) (fun i => xs.length - i) 0 ?_ (by simp [vldL]) ?_
 ·(refine cov_of ?_ ?_ <;> simp [go_sem])
  simp [vldL]
 rintro i ⟨hi, hok⟩
 (refine awp_sr fun Y Yh => ?_; simp [go_sem]; ((repeat' (first|(refine ag_x ?_;simp [go_sem])|intro _|apply And.intro|(apply Yh;clear Yh Y)));all_goals first|apply Hold.mk|omega|with_reducible assumption|skip))
 refine awp_seq_k fun K2 hK2 => ?_
 have hb := vldL_bounds (xs.take i) left (deep + 1) (fun x hx => vldV_bounds _ x (Nat.le_refl _) ) h0
 (refine awp_if fun T F hT hF => ?_; simp [go_sem]; refine BR.intro (fun h3 => hT ?_) (fun h3 => hF ?_); all_goals clear hT hF T F; try simp at h3)
 ·have hlt : i < xs.length := by omega
  have hx : xs[i]? = some xs[i] := List.getElem?_eq_getElem hlt
  have hst := vldL_take hlt left (deep + 1) hok
  have HX := bad_spec gl xs[i] _ deep hd (H xs[i] (List.getElem_mem hlt) _ (hb.2.2 hok) hb.2.1)
  rw [← hst] at HX
  obtain ⟨k', t', ns', xs', hx'⟩ : ∃ k' t' ns' xs', xs[i] = .mk k' t' ns' xs' := by
   cases h : xs[i] with
   | mk k' t' ns' xs' => exact ⟨_, _, _, _, rfl⟩
  rw [hx', dJ_mk] at HX
  refine awp_skip ?_
  refine hK2 _ ?_; clear hK2
  refine awp_seq_k fun K4 hK4 => ?_
  refine awp_block ?_
  (refine awp_sr fun Y Yh => ?_; simp [go_sem]; ((repeat' (first|(refine ag_x ?_;simp [go_sem])|intro _|apply And.intro|(apply Yh;clear Yh Y)));all_goals first|apply Hold.mk|omega|with_reducible assumption|skip))
  (refine awp_sr fun Y Yh => ?_; simp [go_sem, hlt, hx', cJ_mk]; ((repeat' (first|(refine ag_x ?_;simp [go_sem, hlt, hx', cJ_mk])|intro _|apply And.intro|(apply Yh;clear Yh Y)));all_goals first|apply Hold.mk|omega|with_reducible assumption|skip))
  (refine callA_l [900006] (by first|exact .inl ⟨rfl,rfl⟩|exact .inr rfl) (by simp [go_sem]) ?_; intro args ha; simp [go_sem] at ha; subst ha; refine ⟨_, _, HX, (by simp [go_sem, hlt, hx', cJ_mk]), ?_⟩; rintro ps r hps ⟨rfl, rfl⟩; simp [go_sem, hlt, hx', cJ_mk]; ((repeat' (first|(refine ag_x ?_;simp [go_sem, hlt, hx', cJ_mk])|intro _|apply And.intro|(apply Yh;clear Yh Y)));all_goals first|apply Hold.mk|omega|with_reducible assumption|skip))
  cases hpx : (vldL (xs.take (i + 1)) left (deep + 1)).1 with
  | false =>
   (refine awp_if fun T F hT hF => ?_; simp [go_sem]; refine hT ?_; clear hT hF T F)
   (refine awp_sr fun Y Yh => ?_; simp [go_sem]; ((repeat' (first|(refine ag_x ?_;simp [go_sem])|intro _|apply And.intro|(apply Yh;clear Yh Y)));all_goals first|apply Hold.mk|omega|with_reducible assumption|skip))
   (refine awp_ret ?_; simp [go_sem, retA])
   have := vldL_stop left (deep + 1) hpx
   rw [this]
   simp
  | true =>
   (refine awp_if fun T F hT hF => ?_; simp [go_sem]; refine hF ?_; clear hT hF T F)
   refine awp_skip ?_
   refine hK4 _ ?_; clear hK4
   (refine awp_r fun Y Yh => ?_; simp [go_sem]; ((repeat' (first|(refine ag_x ?_;simp [go_sem])|intro _|apply And.intro|(apply Yh;clear Yh Y)));all_goals first|apply Hold.mk|omega|with_reducible assumption|skip))
   refine ⟨i + 1, ?_, ⟨by omega, hpx⟩, by omega⟩
   (refine cov_of ?_ ?_ <;> simp [go_sem])
 ·refine awp_exit ?_
  simp only [go_sem]
  refine hK1 _ ?_; clear hK1
  (refine awp_sr fun Y Yh => ?_; simp [go_sem]; ((repeat' (first|(refine ag_x ?_;simp [go_sem])|intro _|apply And.intro|(apply Yh;clear Yh Y)));all_goals first|apply Hold.mk|omega|with_reducible assumption|skip))
  (refine awp_ret ?_; simp [go_sem, retA])
  have : i = xs.length := by omega
  subst this
  rw [List.take_length] at hok ⊢
  simp [hok]
end Go.Proofs.YtkgmecjaejaehaaGreatDoor
namespace Go.Eng
theorem agc_n {P : Program} [HasGlob P] {S : St} {df : D} {ds : List D} {tys : List TypeId} {k : D → Prop} (r0 : D) (hk : k r0) : AgC P false df ds tys S k := ⟨r0, fun h => by simp at h, hk⟩
end Go.Eng
namespace Go.Js
/-! how long the texts within a value are -/
def longB : List (List UInt8) → Nat
 | [] => 0
 | t :: ts => t.length + longB ts
mutual
def longJ : JV → Nat
 | .mk _ t ns xs => t.length + longB ns + longJs xs
def longJs : List JV → Nat
 | [] => 0
 | x :: xs => longJ x + longJs xs
end
theorem longB_mem : ∀ {ts : List (List UInt8)} {t : List UInt8}, t ∈ ts → t.length ≤ longB ts
 | [], t, h => by simp at h
 | y :: ys, t, h => by
  simp only [longB]
  rcases List.mem_cons.1 h with rfl | h
  ·omega
  ·have := longB_mem h; omega
theorem longJs_mem : ∀ {xs : List JV} {x : JV}, x ∈ xs → longJ x ≤ longJs xs
 | [], x, h => by simp at h
 | y :: ys, x, h => by
  simp only [longJs]
  rcases List.mem_cons.1 h with rfl | h
  ·omega
  ·have := longJs_mem h; omega
theorem longJ_item {k : Int} {t : List UInt8} {ns : List (List UInt8)} {xs : List JV} {x : JV} (h : x ∈ xs) : longJ x ≤ longJ (.mk k t ns xs) := by
 have := longJs_mem h
 simp only [longJ]; omega
theorem longJ_text (k : Int) (t : List UInt8) (ns : List (List UInt8)) (xs : List JV) : t.length ≤ longJ (.mk k t ns xs) := by
 simp only [longJ]; omega
theorem longJ_name {k : Int} {t : List UInt8} {ns : List (List UInt8)} {xs : List JV} {s : List UInt8} (h : s ∈ ns) : s.length ≤ longJ (.mk k t ns xs) := by
 have := longB_mem h
 simp only [longJ]; omega
end Go.Js
