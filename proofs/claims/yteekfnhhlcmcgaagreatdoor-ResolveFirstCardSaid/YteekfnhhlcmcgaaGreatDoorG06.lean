/- Part of a proof: see the last text. -/
import Derived.Test.YteekfnhhlcmcgaaGreatDoorG05
import Derived.Test.YteekfnhhlcmcgaaGreatDoorG00
import Derived.Test.YteekfnhhlcmcgaaGreatDoorG03
import Derived.Lib.IndexMore
import Derived.Lib.IndexLaws
import Derived.Laws.RangeAny
import Derived.Shelf.GgClosure.StringsIndexFuncTop
set_option linter.unusedVariables false
set_option linter.unusedSimpArgs false
namespace Go.Proofs.YteekfnhhlcmcgaaGreatDoor
open Go.Eng Go.Wh Go.Ver
set_option maxRecDepth 20000
attribute [local irreducible] AG CallA CallT AWp PCall ACall AgC
set_option maxHeartbeats 8000000 in
theorem rsegment_spec (s : List UInt8) (hl : s.length ≤ 1000000000) : PCall Tryz.prog 152 [dS s] fun r => r = .tup [dG (rsP s), dB (segV s).isSome] := by 
 refine pcall_of Tryz.func152 rfl rfl Tryz.ntmps152 (rs := [.cell 2 229, .tmp 3]) (tys := [229, 4]) rfl rfl (by simp) ?_
 have T1 := trimS_spec s abcL (by omega) (by decide) (by decide)
 have e1 := trim_letters s
 generalize Lib.trimS s abcL = a at *
 have hN := @rs_none s
 have hL := @rs_L s
 have hB := @rs_bad s
 have hM := @rs_num s
 have hI := fun (h : s.length ≤ 10) (h1 : s.all isD = true) => decVal_lt (s := s) (by simpa using h1)
 have hd := fun i c (h : s[i]? = some c) => decVal_take h
 have hda := fun i c (h : s[i]? = some c) => @all_snoc _ isD s i c
 have hdn := fun i c (h : s[i]? = some c) => @all_not _ isD s i c
 have hdt := fun i (h : (s.take i).all isD = true) => decVal_lt (s := s.take i) (by simpa using h)
 have hfull := List.take_length (l := s)
 have hit := itoa_spec (decVal s : Int)
 generalize hP : rsP s = p at *
 generalize hV : (segV s).isSome = v at *
 generalize hiL : s.all isL = iL at *
 (refine awp_sr fun Y Yh => ?_; simp [go_sem]; ((repeat' (first|(refine ag_x ?_;simp [go_sem])|intro _|apply And.intro|(apply Yh;clear Yh Y)));all_goals first|apply Hold.mk|omega|assumption|skip))
 rename_i g2
 refine awp_seq_k fun K1 hK1 => ?_
 (refine awp_sr fun Y Yh => ?_; simp [go_sem]; ((repeat' (first|(refine ag_x ?_;simp [go_sem])|intro _|apply And.intro|(apply Yh;clear Yh Y)));all_goals first|apply Hold.mk|omega|assumption|skip))
 (refine awp_if fun T F hT hF => ?_; simp [go_sem]; refine BR.intro (fun h2 => hT ?_) (fun h2 => hF ?_); all_goals clear hT hF T F; try simp at h2) 
 ·obtain ⟨q1, q2⟩ := hN (by
   rcases h2 with h | h
   ·exact .inl h
   ·exact .inr (by omega))
  subst q1 q2
  (refine awp_sr fun Y Yh => ?_; simp [go_sem]; ((repeat' (first|(refine ag_x ?_;simp [go_sem])|intro _|apply And.intro|(apply Yh;clear Yh Y)));all_goals first|apply Hold.mk|omega|assumption|skip))
  (refine awp_ret ?_; simp [go_sem])
 ·have h2' : ¬ (s = [] ∨ 10 < s.length) := by
   rintro (h | h)
   ·exact h2.1 h
   ·have := h2.2; omega
  have hlen : s.length ≤ 10 := by have := h2.2; omega
  refine awp_skip ?_
  refine hK1 _ ?_; clear hK1
  refine awp_seq_k fun K3 hK3 => ?_
  (refine awp_sr fun Y Yh => ?_; simp [go_sem]; ((repeat' (first|(refine ag_x ?_;simp [go_sem])|intro _|apply And.intro|(apply Yh;clear Yh Y)));all_goals first|apply Hold.mk|omega|assumption|skip))
  ((try refine CallT.toA ?_); refine callT_m (.inl ⟨rfl,rfl⟩) (by simp [go_sem]) ?_; intro args ha; simp [go_sem] at ha; subst ha; refine ⟨_, T1, ?_⟩; rintro _ rfl; simp [go_sem]; ((repeat' (first|(refine ag_x ?_;simp [go_sem])|intro _|apply And.intro|(apply Yh;clear Yh Y)));all_goals first|apply Hold.mk|omega|assumption|skip))
  (refine awp_if fun T F hT hF => ?_; simp [go_sem]; refine BR.intro (fun h4 => hT ?_) (fun h4 => hF ?_); all_goals clear hT hF T F; try simp at h4) 
  ·obtain ⟨q1, q2⟩ := hL h2' (e1.1 h4)
   subst q1 q2
   (refine awp_sr fun Y Yh => ?_; simp [go_sem]; ((repeat' (first|(refine ag_x ?_;simp [go_sem])|intro _|apply And.intro|(apply Yh;clear Yh Y)));all_goals first|apply Hold.mk|omega|assumption|skip))
   (refine awp_ret ?_; simp [go_sem])
  ·have hnL : ¬ iL = true := fun q => h4 (e1.2 q)
   refine awp_skip ?_
   refine hK3 _ ?_; clear hK3
   (refine awp_sr fun Y Yh => ?_; simp [go_sem]; ((repeat' (first|(refine ag_x ?_;simp [go_sem])|intro _|apply And.intro|(apply Yh;clear Yh Y)));all_goals first|apply Hold.mk|omega|assumption|skip))
   refine awp_seq_k fun K5 hK5 => ?_
   (refine awp_sr fun Y Yh => ?_; simp [go_sem]; ((repeat' (first|(refine ag_x ?_;simp [go_sem])|intro _|apply And.intro|(apply Yh;clear Yh Y)));all_goals first|apply Hold.mk|omega|assumption|skip))
   refine awp_block ?_
   refine awp_loop (σ := Nat) (fun i => ⟨[(0, dS s), (2, .ptr 2 g2 0), (4, dI (decVal (s.take i))), (5, dI i)], [(2, g2, .box [dS [], dI 0])]⟩) (fun i => i ≤ s.length ∧ (s.take i).all isD = true) (fun i => s.length - i) 0 ?_ ?_ ?_
   ·(refine cov_of ?_ ?_ <;> simp [go_sem, decVal])
   ·exact ⟨by omega, by simp⟩
   rintro i ⟨hi, had⟩
   have hub : decVal (s.take i) < 10 ^ 10 := by
    have h1 := hdt i had
    have h2 : 10 ^ (s.take i).length ≤ 10 ^ 10 := Nat.pow_le_pow_right (by decide) (by simp; omega)
    omega
   refine awp_seq_k fun K6 hK6 => ?_
   (refine awp_sr fun Y Yh => ?_; simp [go_sem]; ((repeat' (first|(refine ag_x ?_;simp [go_sem])|intro _|apply And.intro|(apply Yh;clear Yh Y)));all_goals first|apply Hold.mk|omega|assumption|skip))
   (refine awp_if fun T F hT hF => ?_; simp [go_sem]; refine BR.intro (fun h7 => hT ?_) (fun h7 => hF ?_); all_goals clear hT hF T F; try simp at h7) 
   ·refine awp_skip ?_
    refine hK6 _ ?_; clear hK6
    obtain ⟨c, hc⟩ : ∃ c, s[i]? = some c := ⟨_, List.getElem?_eq_getElem (by omega)⟩
    have hd1 := hd i c hc
    have hda1 := hda i c hc had hc
    have hdn1 := hdn i c hc hc
    have hcb : c.toNat < 256 := c.toNat_lt
    refine awp_seq_k fun K8 hK8 => ?_
    refine awp_block ?_
    refine awp_seq_k fun K9 hK9 => ?_
    (refine awp_sr fun Y Yh => ?_; simp [go_sem, hc]; ((repeat' (first|(refine ag_x ?_;simp [go_sem, hc])|intro _|apply And.intro|(apply Yh;clear Yh Y)));all_goals first|apply Hold.mk|omega|assumption|skip))
    (refine awp_if fun T F hT hF => ?_; simp [go_sem]; refine BR.intro (fun h10 => hT ?_) (fun h10 => hF ?_); all_goals clear hT hF T F; try simp at h10) 
    ·obtain ⟨q1, q2⟩ := hB h2' hnL (hdn1 (by simp [isD]; omega))
     subst q1 q2
     (refine awp_sr fun Y Yh => ?_; simp [go_sem]; ((repeat' (first|(refine ag_x ?_;simp [go_sem])|intro _|apply And.intro|(apply Yh;clear Yh Y)));all_goals first|apply Hold.mk|omega|assumption|skip))
     (refine awp_ret ?_; simp [go_sem])
    ·have hw : IntKind.u8.wrap ((c.toNat : Int) - 48) = (dgt c : Int) := by
      rw [show IntKind.u8.wrap ((c.toNat : Int) - 48) = ((c.toNat : Int) - 48) % 256 by simp [IntKind.wrap, IntKind.bits, IntKind.signed]]
      unfold dgt; omega
     have hdg : dgt c ≤ 9 := by unfold dgt; omega
     refine awp_skip ?_
     refine hK9 _ ?_; clear hK9
     generalize decVal (s.take i) = dv at *
     generalize dgt c = dc at *
     (refine awp_r fun Y Yh => ?_; simp [go_sem, hc, hw]; ((repeat' (first|(refine ag_x ?_;simp [go_sem, hc, hw])|intro _|apply And.intro|(apply Yh;clear Yh Y)));all_goals first|apply Hold.mk|omega|assumption|skip))
     refine hK8 _ ?_; clear hK8
     (refine awp_r fun Y Yh => ?_; simp [go_sem]; ((repeat' (first|(refine ag_x ?_;simp [go_sem])|intro _|apply And.intro|(apply Yh;clear Yh Y)));all_goals first|apply Hold.mk|omega|assumption|skip))
     refine ⟨i + 1, ?_, ⟨by omega, hda1 (by simp [isD]; omega)⟩, by omega⟩
     rw [hd1]
     (refine cov_of ?_ ?_ <;> simp [go_sem])
     omega
   ·refine awp_exit ?_
    simp only [go_sem]
    refine hK5 _ ?_; clear hK5
    have hie : i = s.length := by omega
    subst hie
    rw [hfull] at had hub ⊢
    obtain ⟨q1, q2⟩ := hM h2' hnL had
    have I1 := hit (by omega) (by omega)
    generalize Lib.itoa (decVal s : Int) = t at *
    generalize decVal s = dv at *
    subst q1 q2
    by_cases hle : (dv : Int) ≤ 1000000000
    ·(refine awp_sr fun Y Yh => ?_; simp [go_sem, hle]; ((repeat' (first|(refine ag_x ?_;simp [go_sem, hle])|intro _|apply And.intro|(apply Yh;clear Yh Y)));all_goals first|apply Hold.mk|omega|assumption|skip))
     (refine agc_f (dS t) (.inl ⟨rfl,rfl⟩) ?_ rfl ?_; (intro hc args ha; simp [go_sem] at ha; subst ha; exact I1); simp [go_sem]; ((repeat' (first|(refine ag_x ?_;simp [go_sem])|intro _|apply And.intro|(apply Yh;clear Yh Y)));all_goals first|apply Hold.mk|omega|assumption|skip))
     (refine awp_ret ?_; simp [go_sem])
     have hle' : dv ≤ 1000000000 := by omega
     by_cases hq : t = s
     ·simp [hle', hq]
     ·simp [hle', hq]
    ·(refine awp_sr fun Y Yh => ?_; simp [go_sem, hle]; ((repeat' (first|(refine ag_false (by simp [go_sem, undef, hle]) (by simp [go_sem]) ?_;simp [go_sem, hle])|intro _|apply And.intro|(apply Yh;clear Yh Y)));all_goals first|apply Hold.mk|omega|assumption|skip))
     (refine awp_ret ?_; simp [go_sem])
     intro q; omega
set_option maxHeartbeats 8000000 in
theorem rread_spec (v : List UInt8) (hl : v.length ≤ 1000000000) : PCall Tryz.prog 110 [dS v] fun r => r = .tup [dGs (readR v), dB (readV v).isSome] := by 
 refine pcall_of Tryz.func110 rfl rfl Tryz.ntmps110 (rs := [.tmp 2, .tmp 3]) (tys := [183, 4]) rfl rfl (by simp) ?_
 have S1 := split_spec v [46] (by omega) (by simp)
 rw [split_dots] at S1
 have hdl := dots_len 46 v
 have hdp := dots_part 46 v
 have hdn := dots_ne 46 v
 have hbig := @readV_big v
 have hpart := fun p => @readV_part v p
 have hword := fun p x => @readV_word v p x
 have hgood := fun l => @readV_good v l
 have hof := fun l => @readR_of v l
 have hnone : readV v = none → readR v = [] ∧ (readV v).isSome = false := fun h => by unfold readR; rw [h]; exact ⟨rfl, rfl⟩
 have hsome : ∀ l, readV v = some l → (readV v).isSome = true := fun l h => by rw [h]; rfl
 generalize hps : dots 46 v = ps at *
 generalize hR : readR v = R at *
 generalize hS : (readV v).isSome = B at *
 (refine awp_sr fun Y Yh => ?_; simp [go_sem]; ((repeat' (first|(refine ag_x ?_;simp [go_sem])|intro _|apply And.intro|(apply Yh;clear Yh Y)));all_goals first|apply Hold.mk|omega|assumption|skip))
 (refine awp_sr fun Y Yh => ?_; simp [go_sem]; ((repeat' (first|(refine ag_x ?_;simp [go_sem])|intro _|apply And.intro|(apply Yh;clear Yh Y)));all_goals first|apply Hold.mk|omega|assumption|skip))
 ((try refine CallT.toA ?_); refine callT_m (.inl ⟨rfl,rfl⟩) (by simp [go_sem]) ?_; intro args ha; simp [go_sem] at ha; subst ha; refine ⟨_, S1, ?_⟩; rintro _ rfl; simp [go_sem]; ((repeat' (first|(refine ag_x ?_;simp [go_sem])|intro _|apply And.intro|(apply Yh;clear Yh Y)));all_goals first|apply Hold.mk|omega|assumption|skip))
 refine awp_seq_k fun K1 hK1 => ?_
 (refine awp_sr fun Y Yh => ?_; simp [go_sem]; ((repeat' (first|(refine ag_x ?_;simp [go_sem])|intro _|apply And.intro|(apply Yh;clear Yh Y)));all_goals first|apply Hold.mk|omega|assumption|skip))
 (refine awp_if fun T F hT hF => ?_; simp [go_sem]; refine BR.intro (fun h2 => hT ?_) (fun h2 => hF ?_); all_goals clear hT hF T F; try simp at h2) 
 ·obtain ⟨q1, q2⟩ := hnone (hbig (by omega))
  subst q1 q2
  (refine awp_sr fun Y Yh => ?_; simp [go_sem]; ((repeat' (first|(refine ag_x ?_;simp [go_sem])|intro _|apply And.intro|(apply Yh;clear Yh Y)));all_goals first|apply Hold.mk|omega|assumption|skip))
  (refine awp_ret ?_; simp [go_sem])
 ·refine awp_skip ?_
  refine hK1 _ ?_; clear hK1
  have h2' : ¬ (60 < v.length ∨ 8 < ps.length) := by omega
  (refine awp_sr fun Y Yh => ?_; simp [go_sem]; ((repeat' (first|(refine ag_x ?_;simp [go_sem])|intro _|apply And.intro|(apply Yh;clear Yh Y)));all_goals first|apply Hold.mk|omega|assumption|skip))
  refine awp_nilslot 5 5 229 2 rfl fun g5 => ?_
  simp only [go_sem]
  refine awp_seq_k fun K3 hK3 => ?_
  (refine awp_sr fun Y Yh => ?_; simp [go_sem]; ((repeat' (first|(refine ag_x ?_;simp [go_sem])|intro _|apply And.intro|(apply Yh;clear Yh Y)));all_goals first|apply Hold.mk|omega|assumption|skip))
  refine awp_block ?_
  refine awp_loop (σ := Nat × List Seg × Nat) (fun x => ⟨[(4, dSs ps), (5, .own 5 x.2.2), (6, dI x.1)], [(5, x.2.2, .row 229 2 (x.2.1.map cG))]⟩) (fun x => x.1 ≤ ps.length ∧ x.2.1.length = x.1 ∧ segsV (ps.take x.1) = some x.2.1 ∧ (0 < x.1 → x.2.1.head?.map (·.1) = some [])) (fun x => ps.length - x.1) (0, [], g5) ?_ ?_ ?_
  ·(refine cov_of ?_ ?_ <;> simp [go_sem])
  ·exact ⟨by omega, rfl, rfl, fun h => absurd h (by simp)⟩
  rintro ⟨i, out, g⟩ ⟨hi, ho, hs, hh⟩
  simp only at hi ho hs hh
  refine awp_seq_k fun K4 hK4 => ?_
  (refine awp_sr fun Y Yh => ?_; simp [go_sem]; ((repeat' (first|(refine ag_x ?_;simp [go_sem])|intro _|apply And.intro|(apply Yh;clear Yh Y)));all_goals first|apply Hold.mk|omega|assumption|skip))
  (refine awp_if fun T F hT hF => ?_; simp [go_sem]; refine BR.intro (fun h5 => hT ?_) (fun h5 => hF ?_); all_goals clear hT hF T F; try simp at h5) 
  ·refine awp_skip ?_
   refine hK4 _ ?_; clear hK4
   have hi' : i < ps.length := by omega
   obtain ⟨p, hp⟩ : ∃ p, ps[i]? = some p := ⟨_, List.getElem?_eq_getElem hi'⟩
   have hpm : p ∈ ps := List.mem_of_getElem? hp
   have R1 := rsegment_spec p (by have := hdp p hpm; omega)
   have hbad := hpart p hpm
   have hsb : segV p = none → segsV ps = none := fun h => segsV_bad hpm h
   have hsn := fun (x : Seg) (h : segV p = some x) => segsV_snoc hs h
   have hsp := @rsP_of p
   have hwd := fun x (h : i = 0) => hword p x (by rw [← h]; exact hp)
   refine awp_seq_k fun K6 hK6 => ?_
   refine awp_block ?_
   generalize rsP p = q at *
   generalize hsv : segV p = sv at *
   (refine awp_sr fun Y Yh => ?_; simp [go_sem, hp]; ((repeat' (first|(refine ag_x ?_;simp [go_sem, hp])|intro _|apply And.intro|(apply Yh;clear Yh Y)));all_goals first|apply Hold.mk|omega|assumption|skip))
   ((try refine CallT.toA ?_); refine callT_m (.inl ⟨rfl,rfl⟩) (by simp [go_sem]) ?_; intro args ha; simp [go_sem] at ha; subst ha; refine ⟨_, R1, ?_⟩; rintro _ rfl; simp [go_sem]; ((repeat' (first|(refine ag_x ?_;simp [go_sem])|intro _|apply And.intro|(apply Yh;clear Yh Y)));all_goals first|apply Hold.mk|omega|assumption|skip))
   rename_i g7
   refine awp_seq_k fun K7 hK7 => ?_
   cases sv with
   | none =>
    obtain ⟨q1, q2⟩ := hnone (hbad (hsb rfl))
    subst q1 q2
    simp only [Option.isSome_none]
    (refine awp_sr fun Y Yh => ?_; simp [go_sem]; ((repeat' (first|(refine ag_false (by simp [go_sem, undef]) (by simp [go_sem]) ?_;simp [go_sem])|intro _|apply And.intro|(apply Yh;clear Yh Y)));all_goals first|apply Hold.mk|omega|assumption|skip))
    (refine awp_if fun T F hT hF => ?_; simp [go_sem]; refine hT ?_; clear hT hF T F)
    (refine awp_sr fun Y Yh => ?_; simp [go_sem]; ((repeat' (first|(refine ag_x ?_;simp [go_sem])|intro _|apply And.intro|(apply Yh;clear Yh Y)));all_goals first|apply Hold.mk|omega|assumption|skip))
    (refine awp_ret ?_; simp [go_sem])
   | some x =>
    obtain rfl := hsp rfl
    simp only [Option.isSome_some]
    have e : ps.take (i + 1) = ps.take i ++ [p] := by rw [List.take_add_one, hp]; rfl
    by_cases h0 : i = 0
    ·have h0' : (i : Int) = 0 := by omega
     by_cases hw : q.1 = []
     ·(refine awp_sr fun Y Yh => ?_; simp [go_sem, h0']; ((repeat' (first|(refine ag_x ?_;simp [go_sem, h0'])|intro _|apply And.intro|(apply Yh;clear Yh Y)));all_goals first|apply Hold.mk|omega|assumption|skip))
      (refine awp_if fun T F hT hF => ?_; simp [go_sem, hw]; refine hF ?_; clear hT hF T F)
      refine awp_skip ?_
      refine hK7 _ ?_; clear hK7
      (refine awp_r fun Y Yh => ?_; simp [go_sem]; ((repeat' (first|(refine ag_x ?_;simp [go_sem])|intro _|apply And.intro|(apply Yh;clear Yh Y)));all_goals first|apply Hold.mk|omega|assumption|skip))
      refine hK6 _ ?_; clear hK6
      (refine awp_r fun Y Yh => ?_; simp [go_sem]; ((repeat' (first|(refine ag_x ?_;simp [go_sem])|intro _|apply And.intro|(apply Yh;clear Yh Y)));all_goals first|apply Hold.mk|omega|assumption|skip))
      rename_i g28 g'
      refine ⟨(i + 1, out ++ [q], g'), ?_, ⟨by simp only; omega, by simp [ho], ?_, ?_⟩, by simp only; omega⟩
      ·(refine cov_of ?_ ?_ <;> simp [go_sem])
       all_goals omega
      ·simp only [e]
       exact hsn q rfl
      ·intro _
       subst h0
       cases out with
       | nil => simp [hw]
       | cons a b => simp at ho
     ·have hwe : q.1.isEmpty = false := by cases hqq : q.1 with
       | nil => exact absurd hqq hw
       | cons => rfl
      obtain ⟨q1, q2⟩ := hnone (hwd q h0 rfl hw)
      subst q1 q2
      (refine awp_sr fun Y Yh => ?_; simp [go_sem, h0']; ((repeat' (first|(refine ag_x ?_;simp [go_sem, h0'])|intro _|apply And.intro|(apply Yh;clear Yh Y)));all_goals first|apply Hold.mk|omega|assumption|skip))
      (refine awp_if fun T F hT hF => ?_; simp [go_sem, hwe]; refine hT ?_; clear hT hF T F)
      (refine awp_sr fun Y Yh => ?_; simp [go_sem]; ((repeat' (first|(refine ag_x ?_;simp [go_sem])|intro _|apply And.intro|(apply Yh;clear Yh Y)));all_goals first|apply Hold.mk|omega|assumption|skip))
      (refine awp_ret ?_; simp [go_sem])
    ·have h0' : ¬ (i : Int) = 0 := by omega
     (refine awp_sr fun Y Yh => ?_; simp [go_sem, h0']; ((repeat' (first|(refine ag_x ?_;simp [go_sem, h0'])|intro _|apply And.intro|(apply Yh;clear Yh Y)));all_goals first|apply Hold.mk|omega|assumption|skip))
     (refine awp_if fun T F hT hF => ?_; simp [go_sem, h0]; refine hF ?_; clear hT hF T F)
     refine awp_skip ?_
     refine hK7 _ ?_; clear hK7
     (refine awp_r fun Y Yh => ?_; simp [go_sem]; ((repeat' (first|(refine ag_x ?_;simp [go_sem])|intro _|apply And.intro|(apply Yh;clear Yh Y)));all_goals first|apply Hold.mk|omega|assumption|skip))
     refine hK6 _ ?_; clear hK6
     (refine awp_r fun Y Yh => ?_; simp [go_sem]; ((repeat' (first|(refine ag_x ?_;simp [go_sem])|intro _|apply And.intro|(apply Yh;clear Yh Y)));all_goals first|apply Hold.mk|omega|assumption|skip))
     rename_i g28 g'
     refine ⟨(i + 1, out ++ [q], g'), ?_, ⟨by simp only; omega, by simp [ho], ?_, ?_⟩, by simp only; omega⟩
     ·(refine cov_of ?_ ?_ <;> simp [go_sem])
     ·simp only [e]
      exact hsn q rfl
     ·intro _
      have hh' := hh (by omega)
      cases out with
      | nil => simp at ho; omega
      | cons a b => simpa using hh'
  ·refine awp_exit ?_
   simp only [go_sem]
   refine hK3 _ ?_; clear hK3
   have hie : i = ps.length := by omega
   subst hie
   rw [List.take_length] at hs
   have hpl : 0 < ps.length := List.length_pos_iff.2 hdn
   have hg := hgood out h2' hs (hh hpl)
   have e1 := hof out hg
   have e2 := hsome out hg
   subst e1 e2
   (refine awp_sr fun Y Yh => ?_; simp [go_sem]; ((repeat' (first|(refine ag_x ?_;simp [go_sem])|intro _|apply And.intro|(apply Yh;clear Yh Y)));all_goals first|apply Hold.mk|omega|assumption|skip))
   (refine awp_ret ?_; simp [go_sem])
theorem words_take {l : List Seg} {i : Nat} {x : Seg} (h : (l.take i).any (fun s => decide (s.1 ≠ [])) = false) (hx : l[i]? = some x) :
  (x.1 ≠ [] → wordsV l = i) ∧ (x.1 = [] → (l.take (i + 1)).any (fun s => decide (s.1 ≠ [])) = false) := by
 refine ⟨fun q => ?_, fun q => take_anyG h hx (by simp [q])⟩
 have e := fIx_at h hx (p := fun s => decide (s.1 ≠ [])) (by simp [q])
 have := (words_ix l).1 (by omega)
 omega
theorem words_all {l : List Seg} (h : l.any (fun s => decide (s.1 ≠ [])) = false) : wordsV l = l.length := by
 have e := fIx_none (p := fun s : Seg => decide (s.1 ≠ [])) h
 exact (words_ix l).2 (by omega)
theorem rwords_spec (l : List Seg) (hl : l.length ≤ 1000000) : PCall Tryz.prog 285 [dGs l] fun r => r = dI (wordsV l) := by 
 refine pcall_of Tryz.func285 rfl rfl Tryz.ntmps285 (rs := [.tmp 2]) (tys := [3]) rfl rfl (by simp) ?_
 have hw := fun i x => @words_take l i x
 have ha := @words_all l
 generalize wordsV l = w at *
 (refine awp_sr fun Y Yh => ?_; simp [go_sem]; ((repeat' (first|(refine ag_x ?_;simp [go_sem])|intro _|apply And.intro|(apply Yh;clear Yh Y)));all_goals first|apply Hold.mk|omega|assumption|skip))
 refine awp_seq_k fun K1 hK1 => ?_
 (refine awp_sr fun Y Yh => ?_; simp [go_sem]; ((repeat' (first|(refine ag_x ?_;simp [go_sem])|intro _|apply And.intro|(apply Yh;clear Yh Y)));all_goals first|apply Hold.mk|omega|assumption|skip))
 refine awp_block ?_
 refine awp_loop (σ := Nat) (fun i => ⟨[(0, dGs l), (3, dI i)], []⟩) (fun i => i ≤ l.length ∧ (l.take i).any (fun s => decide (s.1 ≠ [])) = false) (fun i => l.length - i) 0 ?_ ?_ ?_
 ·(refine cov_of ?_ ?_ <;> simp [go_sem])
 ·exact ⟨by omega, by simp⟩
 rintro i ⟨hi, hany⟩
 refine awp_seq_k fun K2 hK2 => ?_
 (refine awp_sr fun Y Yh => ?_; simp [go_sem]; ((repeat' (first|(refine ag_x ?_;simp [go_sem])|intro _|apply And.intro|(apply Yh;clear Yh Y)));all_goals first|apply Hold.mk|omega|assumption|skip))
 (refine awp_if fun T F hT hF => ?_; simp [go_sem]; refine BR.intro (fun h3 => hT ?_) (fun h3 => hF ?_); all_goals clear hT hF T F; try simp at h3) 
 ·refine awp_skip ?_
  refine hK2 _ ?_; clear hK2
  obtain ⟨x, hx⟩ : ∃ x, l[i]? = some x := ⟨_, List.getElem?_eq_getElem (by omega)⟩
  have hw1 := hw i x hany hx
  refine awp_seq_k fun K4 hK4 => ?_
  refine awp_block ?_
  (refine awp_sr fun Y Yh => ?_; simp [go_sem, hx]; ((repeat' (first|(refine ag_x ?_;simp [go_sem, hx])|intro _|apply And.intro|(apply Yh;clear Yh Y)));all_goals first|apply Hold.mk|omega|assumption|skip))
  (refine awp_if fun T F hT hF => ?_; simp [go_sem]; refine BR.intro (fun h5 => hT ?_) (fun h5 => hF ?_); all_goals clear hT hF T F; try simp at h5) 
  ·(refine awp_sr fun Y Yh => ?_; simp [go_sem]; ((repeat' (first|(refine ag_x ?_;simp [go_sem])|intro _|apply And.intro|(apply Yh;clear Yh Y)));all_goals first|apply Hold.mk|omega|assumption|skip))
   (refine awp_ret ?_; simp [go_sem])
   rw [hw1.1 h5]
  ·refine awp_skip ?_
   refine hK4 _ ?_; clear hK4
   (refine awp_r fun Y Yh => ?_; simp [go_sem]; ((repeat' (first|(refine ag_x ?_;simp [go_sem])|intro _|apply And.intro|(apply Yh;clear Yh Y)));all_goals first|apply Hold.mk|omega|assumption|skip))
   refine ⟨i + 1, ?_, ⟨by omega, hw1.2 h5⟩, by omega⟩
   (refine cov_of ?_ ?_ <;> simp [go_sem])
 ·refine awp_exit ?_
  simp only [go_sem]
  refine hK1 _ ?_; clear hK1
  have hie : i = l.length := by omega
  subst hie
  rw [List.take_length] at hany
  rw [ha hany]
  (refine awp_sr fun Y Yh => ?_; simp [go_sem]; ((repeat' (first|(refine ag_x ?_;simp [go_sem])|intro _|apply And.intro|(apply Yh;clear Yh Y)));all_goals first|apply Hold.mk|omega|assumption|skip))
  (refine awp_ret ?_; simp [go_sem])
end Go.Proofs.YteekfnhhlcmcgaaGreatDoor
namespace Go.Ver
open Go.Lib Go.Wh
/-! ref's two -/
def sgV (a b : Bool) : Int := if a = true then -1 else if b = true then 1 else 0
theorem bl_lt : ∀ x y : List UInt8, Op.bytesLess x y = decide (compareBytes x y < 0)
 | [], [] => by simp [Op.bytesLess, compareBytes]
 | [], _ :: _ => by simp [Op.bytesLess, compareBytes]
 | _ :: _, [] => by simp [Op.bytesLess, compareBytes]
 | a :: x, b :: y => by
  have ih := bl_lt x y
  unfold Op.bytesLess compareBytes
  by_cases h : a < b
  ·simp [h]
  ·by_cases h2 : b < a
   ·have h3 : ¬ a = b := fun e => by subst e; exact absurd h2 h
    simp [h, h2, h3]
   ·have h3 : a = b := by
     apply UInt8.toNat_inj.1
     rw [UInt8.lt_iff_toNat_lt] at *; omega
    simp [h3, ih]
theorem bl_gt (x y : List UInt8) : Op.bytesLess y x = decide (0 < compareBytes x y) := by
 rw [bl_lt, cb_neg y x]; congr 1; apply propext; omega
theorem two_mixed {x y : Seg} (h : ¬ (x.1 = [] ↔ y.1 = [])) : sgV (decide (x.1 ≠ [])) (decide (y.1 ≠ [])) = seg2 x y := by
 unfold sgV seg2
 by_cases h1 : x.1 = [] <;> by_cases h2 : y.1 = [] <;> simp [h1, h2] at h ⊢
theorem two_word {x y : Seg} (h : x.1 ≠ []) (h2 : y.1 ≠ []) (hx : x.1 ≠ [] → x.2 = 0) (hy : y.1 ≠ [] → y.2 = 0) : sgV (Op.bytesLess x.1 y.1) (Op.bytesLess y.1 x.1) = seg2 x y := by
 unfold sgV seg2
 rw [bl_lt, bl_gt, hx h, hy h2]
 simp only [h, h2, and_false, false_and, if_false, ne_eq, not_false_eq_true, not_true_eq_false]
 rcases cb_val x.1 y.1 with e | e | e <;> simp [e, compareInt]
theorem two_num {x y : Seg} (h : x.1 = []) (h2 : y.1 = []) : sgV (decide (x.2 < y.2)) (decide (y.2 < x.2)) = seg2 x y := by
 unfold sgV seg2
 rw [h, h2]
 simp only [ne_eq, not_true_eq_false, false_and, and_false, if_false, compareBytes, compareInt]
 by_cases h3 : x.2 < y.2
 ·simp [h3]
 ·by_cases h4 : y.2 < x.2 <;> simp [h3, h4]
end Go.Ver
namespace Go.Proofs.YteekfnhhlcmcgaaGreatDoor
open Go.Eng Go.Wh Go.Ver
set_option maxRecDepth 20000
attribute [local irreducible] AG CallA CallT AWp PCall ACall AgC
theorem rsign_spec (a b : Bool) : PCall Tryz.prog 190 [dB a, dB b] fun r => r = dI (sgV a b) := by 
 refine pcall_of Tryz.func190 rfl rfl Tryz.ntmps190 (rs := [.tmp 4]) (tys := [3]) rfl rfl (by simp) ?_
 unfold sgV
 (refine awp_sr fun Y Yh => ?_; simp [go_sem]; ((repeat' (first|(refine ag_x ?_;simp [go_sem])|intro _|apply And.intro|(apply Yh;clear Yh Y)));all_goals first|apply Hold.mk|omega|assumption|skip))
 refine awp_seq_k fun K1 hK1 => ?_
 (refine awp_sr fun Y Yh => ?_; simp [go_sem]; ((repeat' (first|(refine ag_x ?_;simp [go_sem])|intro _|apply And.intro|(apply Yh;clear Yh Y)));all_goals first|apply Hold.mk|omega|assumption|skip))
 (refine awp_if fun T F hT hF => ?_; simp [go_sem]; refine BR.intro (fun h2 => hT ?_) (fun h2 => hF ?_); all_goals clear hT hF T F; try simp at h2) 
 ·(refine awp_sr fun Y Yh => ?_; simp [go_sem]; ((repeat' (first|(refine ag_x ?_;simp [go_sem])|intro _|apply And.intro|(apply Yh;clear Yh Y)));all_goals first|apply Hold.mk|omega|assumption|skip))
  (refine awp_ret ?_; simp [go_sem, h2])
 ·refine awp_skip ?_
  refine hK1 _ ?_; clear hK1
  refine awp_seq_k fun K3 hK3 => ?_
  (refine awp_sr fun Y Yh => ?_; simp [go_sem]; ((repeat' (first|(refine ag_x ?_;simp [go_sem])|intro _|apply And.intro|(apply Yh;clear Yh Y)));all_goals first|apply Hold.mk|omega|assumption|skip))
  (refine awp_if fun T F hT hF => ?_; simp [go_sem]; refine BR.intro (fun h4 => hT ?_) (fun h4 => hF ?_); all_goals clear hT hF T F; try simp at h4) 
  ·(refine awp_sr fun Y Yh => ?_; simp [go_sem]; ((repeat' (first|(refine ag_x ?_;simp [go_sem])|intro _|apply And.intro|(apply Yh;clear Yh Y)));all_goals first|apply Hold.mk|omega|assumption|skip))
   (refine awp_ret ?_; simp [go_sem, h2, h4])
  ·refine awp_skip ?_
   refine hK3 _ ?_; clear hK3
   (refine awp_sr fun Y Yh => ?_; simp [go_sem]; ((repeat' (first|(refine ag_x ?_;simp [go_sem])|intro _|apply And.intro|(apply Yh;clear Yh Y)));all_goals first|apply Hold.mk|omega|assumption|skip))
   (refine awp_ret ?_; simp [go_sem, h2, h4])
def wz (x : Seg) : Prop := x.1 ≠ [] → x.2 = 0
theorem rtwo_spec (x y : Seg) (hx : wz x) (hy : wz y) : PCall Tryz.prog 153 [dG x, dG y] fun r => r = dI (seg2 x y) := by 
 refine pcall_of Tryz.func153 rfl rfl Tryz.ntmps153 (rs := [.tmp 4]) (tys := [3]) rfl rfl (by simp) ?_
 have t1 := @two_mixed x y
 have t2 := fun h h2 => @two_word x y h h2 hx hy
 have t3 := @two_num x y
 generalize seg2 x y = res at *
 (refine awp_sr fun Y Yh => ?_; simp [go_sem]; ((repeat' (first|(refine ag_x ?_;simp [go_sem])|intro _|apply And.intro|(apply Yh;clear Yh Y)));all_goals first|apply Hold.mk|omega|assumption|skip))
 refine awp_seq_k fun K1 hK1 => ?_
 (refine awp_sr fun Y Yh => ?_; simp [go_sem]; ((repeat' (first|(refine ag_x ?_;simp [go_sem])|intro _|apply And.intro|(apply Yh;clear Yh Y)));all_goals first|apply Hold.mk|omega|assumption|skip))
 (refine awp_if fun T F hT hF => ?_; simp [go_sem]; refine BR.intro (fun h2 => hT ?_) (fun h2 => hF ?_); all_goals clear hT hF T F; try simp at h2) 
 ·(refine awp_sr fun Y Yh => ?_; simp [go_sem]; ((repeat' (first|(refine ag_x ?_;simp [go_sem])|intro _|apply And.intro|(apply Yh;clear Yh Y)));all_goals first|apply Hold.mk|omega|assumption|skip))
  ((try refine CallT.toA ?_); refine callT_m (.inl ⟨rfl,rfl⟩) (by simp [go_sem]) ?_; intro args ha; simp [go_sem] at ha; subst ha; refine ⟨_, (rsign_spec _ _), ?_⟩; rintro _ rfl; simp [go_sem]; ((repeat' (first|(refine ag_x ?_;simp [go_sem])|intro _|apply And.intro|(apply Yh;clear Yh Y)));all_goals first|apply Hold.mk|omega|assumption|skip))
  (refine awp_ret ?_; simp [go_sem])
  have e1 : x.1.isEmpty = decide (x.1 = []) := by cases x.1 <;> simp
  have e2 : y.1.isEmpty = decide (y.1 = []) := by cases y.1 <;> simp
  rw [e1, e2] at h2 ⊢
  simpa using t1 (by simpa using h2)
 ·refine awp_skip ?_
  refine hK1 _ ?_; clear hK1
  refine awp_seq_k fun K3 hK3 => ?_
  (refine awp_sr fun Y Yh => ?_; simp [go_sem]; ((repeat' (first|(refine ag_x ?_;simp [go_sem])|intro _|apply And.intro|(apply Yh;clear Yh Y)));all_goals first|apply Hold.mk|omega|assumption|skip))
  (refine awp_if fun T F hT hF => ?_; simp [go_sem]; refine BR.intro (fun h4 => hT ?_) (fun h4 => hF ?_); all_goals clear hT hF T F; try simp at h4) 
  ·(refine awp_sr fun Y Yh => ?_; simp [go_sem]; ((repeat' (first|(refine ag_x ?_;simp [go_sem])|intro _|apply And.intro|(apply Yh;clear Yh Y)));all_goals first|apply Hold.mk|omega|assumption|skip))
   ((try refine CallT.toA ?_); refine callT_m (.inl ⟨rfl,rfl⟩) (by simp [go_sem]) ?_; intro args ha; simp [go_sem] at ha; subst ha; refine ⟨_, (rsign_spec _ _), ?_⟩; rintro _ rfl; simp [go_sem]; ((repeat' (first|(refine ag_x ?_;simp [go_sem])|intro _|apply And.intro|(apply Yh;clear Yh Y)));all_goals first|apply Hold.mk|omega|assumption|skip))
   (refine awp_ret ?_; simp [go_sem])
   refine t2 h4 (fun q => h4 ?_)
   rw [q] at h2
   simpa using h2
  ·refine awp_skip ?_
   refine hK3 _ ?_; clear hK3
   (refine awp_sr fun Y Yh => ?_; simp [go_sem]; ((repeat' (first|(refine ag_x ?_;simp [go_sem])|intro _|apply And.intro|(apply Yh;clear Yh Y)));all_goals first|apply Hold.mk|omega|assumption|skip))
   ((try refine CallT.toA ?_); refine callT_m (.inl ⟨rfl,rfl⟩) (by simp [go_sem]) ?_; intro args ha; simp [go_sem] at ha; subst ha; refine ⟨_, (rsign_spec _ _), ?_⟩; rintro _ rfl; simp [go_sem]; ((repeat' (first|(refine ag_x ?_;simp [go_sem])|intro _|apply And.intro|(apply Yh;clear Yh Y)));all_goals first|apply Hold.mk|omega|assumption|skip))
   (refine awp_ret ?_; simp [go_sem])
   refine t3 h4 ?_
   rw [h4] at h2
   simpa using h2.symm
theorem wz_at {a : List Seg} (h : ∀ x ∈ a, wz x) (i : Nat) : wz (atV a i) := by
 unfold atV
 cases e : a[i]? with
 | none => intro q; exact absurd rfl q
 | some x => exact h x (List.mem_of_getElem? e)
theorem wz_ok {l : List Seg} (h : VOk l) : ∀ x ∈ l, wz x := fun x hx q => by
 rcases h.2.2 x hx with ⟨_, _, _, q⟩ | ⟨q1, _⟩
 ·exact q
 ·exact absurd q1 q
set_option maxHeartbeats 8000000 in
theorem rorder_spec (a b : List Seg) (ha : a.length ≤ 1000000) (hb : b.length ≤ 1000000) (wa : ∀ x ∈ a, wz x) (wb : ∀ x ∈ b, wz x) : PCall Tryz.prog 111 [dGs a, dGs b] fun r => r = dI (cmpV a b) := by 
 refine pcall_of Tryz.func111 rfl rfl Tryz.ntmps111 (rs := [.tmp 4]) (tys := [3]) rfl rfl (by simp) ?_
 have hN : cmpN (max a.length b.length - 0) (a.drop 0) (b.drop 0) = cmpV a b := rfl
 have hna : ∀ i, ¬ i < a.length → atV a i = z0s := fun i h => at_past (by omega)
 have hnb : ∀ i, ¬ i < b.length → atV b i = z0s := fun i h => at_past (by omega)
 have hwa := wz_at wa
 have hwb := wz_at wb
 have hstep := fun i => @cmpN_drop a b (max a.length b.length) i
 have hle1 : a.length ≤ max a.length b.length := by omega
 have hle2 : b.length ≤ max a.length b.length := by omega
 have hle4 : max a.length b.length ≤ a.length ∨ max a.length b.length ≤ b.length := by omega
 have hle3 : max a.length b.length ≤ 1000000 := by omega
 have hz : ∀ i, max a.length b.length ≤ i → cmpN (max a.length b.length - i) (a.drop i) (b.drop i) = 0 := fun i h => by
  rw [Nat.sub_eq_zero_of_le h]; rfl
 generalize cmpV a b = res at *
 generalize max a.length b.length = n at *
 (refine awp_sr fun Y Yh => ?_; simp [go_sem]; ((repeat' (first|(refine ag_x ?_;simp [go_sem])|intro _|apply And.intro|(apply Yh;clear Yh Y)));all_goals first|apply Hold.mk|omega|assumption|skip))
 refine awp_seq_k fun K1 hK1 => ?_
 (refine awp_sr fun Y Yh => ?_; simp [go_sem]; ((repeat' (first|(refine ag_x ?_;simp [go_sem])|intro _|apply And.intro|(apply Yh;clear Yh Y)));all_goals first|apply Hold.mk|omega|assumption|skip))
 refine awp_block ?_
 refine awp_loop (σ := Nat) (fun i => ⟨[(0, dGs a), (1, dGs b), (5, dI i)], []⟩) (fun i => i ≤ n ∧ cmpN (n - i) (a.drop i) (b.drop i) = res) (fun i => n - i) 0 ?_ ?_ ?_
 ·(refine cov_of ?_ ?_ <;> simp [go_sem])
 ·exact ⟨by omega, hN⟩
 rintro i ⟨hi, hc⟩
 refine awp_seq_k fun K2 hK2 => ?_
 have body : (i < a.length ∨ i < b.length) → ∀ S', Cov S' ⟨[(0, dGs a), (1, dGs b), (5, dI i)], []⟩ → K2 S' := fun hor S' hS => by
  refine hK2 _ ?_
  refine awp_cov hS ?_; clear hS
  have hst := hstep i hc (by omega)
  refine awp_seq_k fun K4 hK4 => ?_
  refine awp_block ?_
  (refine awp_sr fun Y Yh => ?_; simp [go_sem]; ((repeat' (first|(refine ag_x ?_;simp [go_sem])|intro _|apply And.intro|(apply Yh;clear Yh Y)));all_goals first|apply Hold.mk|omega|assumption|skip))
  rename_i g6 g7
  refine awp_seq_k fun K5 hK5 => ?_
  have tl5 : ∀ S', Cov S' ⟨[(0, dGs a), (1, dGs b), (5, dI i), (6, .ptr 6 g6 0), (7, .ptr 7 g7 0)], [(6, g6, .box (cG (atV a i))), (7, g7, .box [dS [], dI 0])]⟩ → K5 S' := fun S' hS => by
   refine hK5 _ ?_; clear hK5
   refine awp_cov hS ?_; clear hS
   refine awp_seq_k fun K6 hK6 => ?_
   have tl6 : ∀ S', Cov S' ⟨[(0, dGs a), (1, dGs b), (5, dI i), (6, .ptr 6 g6 0), (7, .ptr 7 g7 0)], [(6, g6, .box (cG (atV a i))), (7, g7, .box (cG (atV b i)))]⟩ → K6 S' := fun S' hS => by
    refine hK6 _ ?_
    refine awp_cov hS ?_; clear hS
    have W1 := hwa i
    have W2 := hwb i
    generalize atV a i = x at *
    generalize atV b i = y at *
    (refine awp_sr fun Y Yh => ?_; simp [go_sem]; ((repeat' (first|(refine ag_x ?_;simp [go_sem])|intro _|apply And.intro|(apply Yh;clear Yh Y)));all_goals first|apply Hold.mk|omega|assumption|skip))
    ((try refine CallT.toA ?_); refine callT_m (.inl ⟨rfl,rfl⟩) (by simp [go_sem]) ?_; intro args ha; simp [go_sem] at ha; subst ha; refine ⟨_, (rtwo_spec x y W1 W2), ?_⟩; rintro _ rfl; simp [go_sem]; ((repeat' (first|(refine ag_x ?_;simp [go_sem])|intro _|apply And.intro|(apply Yh;clear Yh Y)));all_goals first|apply Hold.mk|omega|assumption|skip))
    (refine awp_sr fun Y Yh => ?_; simp [go_sem]; ((repeat' (first|(refine ag_x ?_;simp [go_sem])|intro _|apply And.intro|(apply Yh;clear Yh Y)));all_goals first|apply Hold.mk|omega|assumption|skip))
    generalize seg2 x y = u at *
    (refine awp_if fun T F hT hF => ?_; simp [go_sem]; refine BR.intro (fun h7 => hT ?_) (fun h7 => hF ?_); all_goals clear hT hF T F; try simp at h7) 
    ·(refine awp_sr fun Y Yh => ?_; simp [go_sem]; ((repeat' (first|(refine ag_x ?_;simp [go_sem])|intro _|apply And.intro|(apply Yh;clear Yh Y)));all_goals first|apply Hold.mk|omega|assumption|skip))
     (refine awp_ret ?_; simp [go_sem])
     exact hst.1 (by simpa using h7)
    ·refine awp_skip ?_
     refine hK4 _ ?_; clear hK4
     (refine awp_r fun Y Yh => ?_; simp [go_sem]; ((repeat' (first|(refine ag_x ?_;simp [go_sem])|intro _|apply And.intro|(apply Yh;clear Yh Y)));all_goals first|apply Hold.mk|omega|assumption|skip))
     refine ⟨i + 1, ?_, ⟨by omega, hst.2 (by simpa using h7)⟩, by omega⟩
     (refine cov_of ?_ ?_ <;> simp [go_sem])
   (refine awp_sr fun Y Yh => ?_; simp [go_sem]; ((repeat' (first|(refine ag_x ?_;simp [go_sem])|intro _|apply And.intro|(apply Yh;clear Yh Y)));all_goals first|apply Hold.mk|omega|assumption|skip))
   (refine awp_if fun T F hT hF => ?_; simp [go_sem]; refine BR.intro (fun h8 => hT ?_) (fun h8 => hF ?_); all_goals clear hT hF T F; try simp at h8) 
   ·obtain ⟨y, hy⟩ : ∃ y, b[i]? = some y := ⟨_, List.getElem?_eq_getElem (by omega)⟩
    have ey : atV b i = y := by unfold atV; rw [hy]; rfl
    (refine awp_r fun Y Yh => ?_; simp [go_sem, hy]; ((repeat' (first|(refine ag_x ?_;simp [go_sem, hy])|intro _|apply And.intro|(apply Yh;clear Yh Y)));all_goals first|apply Hold.mk|omega|assumption|skip))
    refine tl6 _ ?_
    rw [ey]
    (refine cov_of ?_ ?_ <;> simp [go_sem])
   ·refine awp_skip ?_
    refine tl6 _ ?_
    rw [hnb i (by omega)]
    (refine cov_of ?_ ?_ <;> simp [go_sem])
  clear hK5
  (refine awp_sr fun Y Yh => ?_; simp [go_sem]; ((repeat' (first|(refine ag_x ?_;simp [go_sem])|intro _|apply And.intro|(apply Yh;clear Yh Y)));all_goals first|apply Hold.mk|omega|assumption|skip))
  (refine awp_if fun T F hT hF => ?_; simp [go_sem]; refine BR.intro (fun h9 => hT ?_) (fun h9 => hF ?_); all_goals clear hT hF T F; try simp at h9) 
  ·obtain ⟨x, hx⟩ : ∃ x, a[i]? = some x := ⟨_, List.getElem?_eq_getElem (by omega)⟩
   have ex : atV a i = x := by unfold atV; rw [hx]; rfl
   (refine awp_r fun Y Yh => ?_; simp [go_sem, hx]; ((repeat' (first|(refine ag_x ?_;simp [go_sem, hx])|intro _|apply And.intro|(apply Yh;clear Yh Y)));all_goals first|apply Hold.mk|omega|assumption|skip))
   refine tl5 _ ?_
   rw [ex]
   (refine cov_of ?_ ?_ <;> simp [go_sem])
  ·refine awp_skip ?_
   refine tl5 _ ?_
   rw [hna i (by omega)]
   (refine cov_of ?_ ?_ <;> simp [go_sem])
 by_cases h1 : i < a.length
 ·have h1' : (i : Int) < a.length := by omega
  (refine awp_sr fun Y Yh => ?_; simp [go_sem, h1']; ((repeat' (first|(refine ag_false (by simp [go_sem, undef, h1']) (by simp [go_sem]) ?_;simp [go_sem, h1'])|intro _|apply And.intro|(apply Yh;clear Yh Y)));all_goals first|apply Hold.mk|omega|assumption|skip))
  (refine awp_if fun T F hT hF => ?_; simp [go_sem]; refine hT ?_; clear hT hF T F)
  refine awp_skip ?_
  refine body (.inl h1) _ ?_
  (refine cov_of ?_ ?_ <;> simp [go_sem])
 ·have h1' : ¬ (i : Int) < a.length := by omega
  (refine awp_sr fun Y Yh => ?_; simp [go_sem, h1']; ((repeat' (first|(refine ag_x ?_;simp [go_sem, h1'])|intro _|apply And.intro|(apply Yh;clear Yh Y)));all_goals first|apply Hold.mk|omega|assumption|skip))
  (refine awp_if fun T F hT hF => ?_; simp [go_sem]; refine BR.intro (fun h3 => hT ?_) (fun h3 => hF ?_); all_goals clear hT hF T F; try simp at h3)
  ·refine awp_skip ?_
   refine body (.inr (by omega)) _ ?_
   (refine cov_of ?_ ?_ <;> simp [go_sem])
  ·refine awp_exit ?_
   simp only [go_sem]
   refine hK1 _ ?_; clear hK1
   (refine awp_sr fun Y Yh => ?_; simp [go_sem]; ((repeat' (first|(refine ag_x ?_;simp [go_sem])|intro _|apply And.intro|(apply Yh;clear Yh Y)));all_goals first|apply Hold.mk|omega|assumption|skip))
   (refine awp_ret ?_; simp [go_sem])
   rw [← hc, hz i (by omega)]
end Go.Proofs.YteekfnhhlcmcgaaGreatDoor
namespace Go.Ver
open Go.Lib Go.Wh
theorem cut_miss {p o v : List UInt8} (h : cut p [32] = (o, v, false)) : v = [] ∧ cndV p = none := by
 refine ⟨?_, by rw [cut_cnd h]; simp⟩
 have := cut_cutS p
 rw [h] at this
 cases hc : cutS p with
 | none => rw [hc] at this; simp at this; exact this.2
 | some q => rw [hc] at this; simp at this
theorem readV_nil : readV [] = none := by decide
theorem words_eq (l : List Seg) : decide (wordsV l = l.length) = !preV l := by
 have h1 := wordsV_lt l
 have h2 := wordsV_le l
 rw [← h1]
 by_cases h : wordsV l < l.length
 ·have : ¬ wordsV l = l.length := by omega
  simp [h, this]
 ·have : wordsV l = l.length := by omega
  simp [h, this]
theorem any_take {α : Type} {p : α → Bool} {l : List α} {i : Nat} {x : α} (h : l[i]? = some x) : (l.take (i + 1)).any p = ((l.take i).any p || p x) := by
 rw [List.take_add_one, h, List.any_append]; simp
end Go.Ver
namespace Go.Proofs.YteekfnhhlcmcgaaGreatDoor
open Go.Eng Go.Wh Go.Ver
set_option maxRecDepth 20000
attribute [local irreducible] AG CallA CallT AWp PCall ACall AgC
theorem rbump_spec (l : List Seg) (hl : l.length ≤ 1000) (h1 : 1 ≤ wordsV l) (hn : ∀ x ∈ l, 0 ≤ x.2 ∧ x.2 ≤ 1000000000) : PCall Tryz.prog 304 [dGs l] fun r => r = dGs (bumpV l) := by 
 refine pcall_of Tryz.func304 rfl rfl Tryz.ntmps304 (rs := [.tmp 2]) (tys := [183]) rfl rfl (by simp) ?_
 have W := rwords_spec l (by omega)
 have hwl := wordsV_le l
 have hbl := bumpN_le l
 obtain ⟨x, hx, hml, hm1, hxm, hb⟩ := bump_last h1
 have hxn := hn x hxm
 rw [hb]
 have hdrop : 1 < wordsV l → (l.take (wordsV l)).take (wordsV l - 1) = l.take (bumpN l) := by
  intro h; unfold bumpN; rw [if_pos h, List.take_take]; congr 1; omega
 have hsame : ¬ 1 < wordsV l → l.take (wordsV l) = l.take (bumpN l) := by
  intro h; unfold bumpN; rw [if_neg h]
 have hlen : (l.take (wordsV l)).length = wordsV l := by simp; omega
 have hlen' : min (wordsV l) l.length = wordsV l := by omega
 generalize hm : l.take (bumpN l) = m at *
 (refine awp_sr fun Y Yh => ?_; simp [go_sem]; ((repeat' (first|(refine ag_x ?_;simp [go_sem])|intro _|apply And.intro|(apply Yh;clear Yh Y)));all_goals first|apply Hold.mk|omega|assumption|skip))
 (refine awp_sr fun Y Yh => ?_; simp [go_sem]; ((repeat' (first|(refine ag_x ?_;simp [go_sem])|intro _|apply And.intro|(apply Yh;clear Yh Y)));all_goals first|apply Hold.mk|omega|assumption|skip))
 ((try refine CallT.toA ?_); refine callT_m (.inl ⟨rfl,rfl⟩) (by simp [go_sem]) ?_; intro args ha; simp [go_sem] at ha; subst ha; refine ⟨_, W, ?_⟩; rintro _ rfl; simp [go_sem]; ((repeat' (first|(refine ag_x ?_;simp [go_sem])|intro _|apply And.intro|(apply Yh;clear Yh Y)));all_goals first|apply Hold.mk|omega|assumption|skip))
 rename_i g4 gw
 refine awp_seq_k fun K1 hK1 => ?_
 have tl1 : ∀ S' g, Cov S' ⟨[(3, .own 4 g)], [(4, g, .row 229 2 (m.map cG))]⟩ → K1 S' := fun S' g hS => by
  refine hK1 _ ?_
  refine awp_cov hS ?_; clear hS
  have hidx : ((m.length : Int) - 1).toNat = m.length - 1 := by omega
  (refine awp_sr fun Y Yh => ?_; simp [go_sem, hx, hidx]; ((repeat' (first|(refine ag_x ?_;simp [go_sem, hx, hidx])|intro _|apply And.intro|(apply Yh;clear Yh Y)));all_goals first|apply Hold.mk|omega|assumption|skip))
  (refine awp_sr fun Y Yh => ?_; simp [go_sem]; ((repeat' (first|(refine ag_x ?_;simp [go_sem])|intro _|apply And.intro|(apply Yh;clear Yh Y)));all_goals first|apply Hold.mk|omega|assumption|skip))
  (refine awp_ret ?_; simp [go_sem, hx, hidx])
 (refine awp_sr fun Y Yh => ?_; simp [go_sem, hlen']; ((repeat' (first|(refine ag_x ?_;simp [go_sem, hlen'])|intro _|apply And.intro|(apply Yh;clear Yh Y)));all_goals first|apply Hold.mk|omega|assumption|skip))
 (refine awp_if fun T F hT hF => ?_; simp [go_sem]; refine BR.intro (fun h2 => hT ?_) (fun h2 => hF ?_); all_goals clear hT hF T F; try simp at h2) 
 ·(refine awp_r fun Y Yh => ?_; simp [go_sem, hlen']; ((repeat' (first|(refine ag_x ?_;simp [go_sem, hlen'])|intro _|apply And.intro|(apply Yh;clear Yh Y)));all_goals first|apply Hold.mk|omega|assumption|skip))
  rename_i g'
  refine tl1 _ g' ?_
  rw [← hdrop (by omega)]
  (refine cov_of ?_ ?_ <;> simp [go_sem, hlen'])
  all_goals omega
 ·refine awp_skip ?_
  refine tl1 _ gw ?_
  rw [← hsame (by omega)]
  (refine cov_of ?_ ?_ <;> simp [go_sem])
theorem rValid_spec (v : List UInt8) (hl : v.length ≤ 1000000000) : PCall Tryz.prog 108 [dS v] fun r => r = dB (readV v).isSome := by 
 refine pcall_of Tryz.func108 rfl rfl Tryz.ntmps108 (rs := [.tmp 2]) (tys := [4]) rfl rfl (by simp) ?_
 have R1 := rread_spec v hl
 (refine awp_sr fun Y Yh => ?_; simp [go_sem]; ((repeat' (first|(refine ag_x ?_;simp [go_sem])|intro _|apply And.intro|(apply Yh;clear Yh Y)));all_goals first|apply Hold.mk|omega|assumption|skip))
 (refine awp_sr fun Y Yh => ?_; simp [go_sem]; ((repeat' (first|(refine ag_x ?_;simp [go_sem])|intro _|apply And.intro|(apply Yh;clear Yh Y)));all_goals first|apply Hold.mk|omega|assumption|skip))
 ((try refine CallT.toA ?_); refine callT_m (.inl ⟨rfl,rfl⟩) (by simp [go_sem]) ?_; intro args ha; simp [go_sem] at ha; subst ha; refine ⟨_, R1, ?_⟩; rintro _ rfl; simp [go_sem]; ((repeat' (first|(refine ag_x ?_;simp [go_sem])|intro _|apply And.intro|(apply Yh;clear Yh Y)));all_goals first|apply Hold.mk|omega|assumption|skip))
 (refine awp_sr fun Y Yh => ?_; simp [go_sem]; ((repeat' (first|(refine ag_x ?_;simp [go_sem])|intro _|apply And.intro|(apply Yh;clear Yh Y)));all_goals first|apply Hold.mk|omega|assumption|skip))
 (refine awp_ret ?_; simp [go_sem])
theorem Valid_spec (v : List UInt8) (hl : v.length ≤ 1000000000) : PCall Tryz.prog 124 [dS v] fun r => r = dB (readV v).isSome := by 
 refine pcall_of Tryz.func124 rfl rfl Tryz.ntmps124 (rs := [.tmp 2]) (tys := [4]) rfl rfl (by simp) ?_
 have R1 := read_spec v hl
 (refine awp_sr fun Y Yh => ?_; simp [go_sem]; ((repeat' (first|(refine ag_x ?_;simp [go_sem])|intro _|apply And.intro|(apply Yh;clear Yh Y)));all_goals first|apply Hold.mk|omega|assumption|skip))
 (refine awp_sr fun Y Yh => ?_; simp [go_sem]; ((repeat' (first|(refine ag_x ?_;simp [go_sem])|intro _|apply And.intro|(apply Yh;clear Yh Y)));all_goals first|apply Hold.mk|omega|assumption|skip))
 ((try refine CallT.toA ?_); refine callT_m (.inl ⟨rfl,rfl⟩) (by simp [go_sem]) ?_; intro args ha; simp [go_sem] at ha; subst ha; refine ⟨_, R1, ?_⟩; rintro _ rfl; simp [go_sem]; ((repeat' (first|(refine ag_x ?_;simp [go_sem])|intro _|apply And.intro|(apply Yh;clear Yh Y)));all_goals first|apply Hold.mk|omega|assumption|skip))
 (refine awp_sr fun Y Yh => ?_; simp [go_sem]; ((repeat' (first|(refine ag_x ?_;simp [go_sem])|intro _|apply And.intro|(apply Yh;clear Yh Y)));all_goals first|apply Hold.mk|omega|assumption|skip))
 (refine awp_ret ?_; simp [go_sem])
@[go_sem] abbrev cRC (c : Cnd) : List D := [dS c.1, dS (textV c.2)]
@[go_sem] abbrev dRC (c : Cnd) : D := .agg [dS c.1, dS (textV c.2)]
@[go_sem] abbrev dRCs (l : List Cnd) : D := .sl 2 (l.map cRC)
set_option maxHeartbeats 8000000 in
theorem rconditions_spec (r : List UInt8) (hl : r.length ≤ 1000000) : PCall Tryz.prog 188 [dS r] fun x => x = .tup [dRCs (condsP r), dB (condsV r).isSome] := by 
 refine pcall_of Tryz.func188 rfl rfl Tryz.ntmps188 (rs := [.tmp 2, .tmp 3]) (tys := [263, 4]) rfl rfl (by simp) ?_
 have S1 := split_spec r [44, 32] (by omega) (by simp)
 rw [split_csv] at S1
 have hdl := csv_len 44 32 r
 have hdp := csv_part 44 32 r
 have hdn := csv_ne 44 32 r
 unfold condsP condsV
 (refine awp_sr fun Y Yh => ?_; simp [go_sem]; ((repeat' (first|(refine ag_x ?_;simp [go_sem])|intro _|apply And.intro|(apply Yh;clear Yh Y)));all_goals first|apply Hold.mk|omega|assumption|skip))
 refine awp_seq_k fun K1 hK1 => ?_
 (refine awp_sr fun Y Yh => ?_; simp [go_sem]; ((repeat' (first|(refine ag_x ?_;simp [go_sem])|intro _|apply And.intro|(apply Yh;clear Yh Y)));all_goals first|apply Hold.mk|omega|assumption|skip))
 (refine awp_if fun T F hT hF => ?_; simp [go_sem]; refine BR.intro (fun h2 => hT ?_) (fun h2 => hF ?_); all_goals clear hT hF T F; try simp at h2) 
 ·(refine awp_sr fun Y Yh => ?_; simp [go_sem]; ((repeat' (first|(refine ag_x ?_;simp [go_sem])|intro _|apply And.intro|(apply Yh;clear Yh Y)));all_goals first|apply Hold.mk|omega|assumption|skip))
  (refine awp_ret ?_; simp [go_sem, h2])
 ·refine awp_skip ?_
  refine hK1 _ ?_; clear hK1
  simp only [h2, if_false]
  generalize hps : csv 44 32 r = ps at *
  (refine awp_sr fun Y Yh => ?_; simp [go_sem]; ((repeat' (first|(refine ag_x ?_;simp [go_sem])|intro _|apply And.intro|(apply Yh;clear Yh Y)));all_goals first|apply Hold.mk|omega|assumption|skip))
  ((try refine CallT.toA ?_); refine callT_m (.inl ⟨rfl,rfl⟩) (by simp [go_sem]) ?_; intro args ha; simp [go_sem] at ha; subst ha; refine ⟨_, S1, ?_⟩; rintro _ rfl; simp [go_sem]; ((repeat' (first|(refine ag_x ?_;simp [go_sem])|intro _|apply And.intro|(apply Yh;clear Yh Y)));all_goals first|apply Hold.mk|omega|assumption|skip))
  (refine awp_sr fun Y Yh => ?_; simp [go_sem]; ((repeat' (first|(refine ag_x ?_;simp [go_sem])|intro _|apply And.intro|(apply Yh;clear Yh Y)));all_goals first|apply Hold.mk|omega|assumption|skip))
  refine awp_nilslot 5 5 304 2 rfl fun g5 => ?_
  simp only [go_sem]
  refine awp_seq_k fun K3 hK3 => ?_
  (refine awp_sr fun Y Yh => ?_; simp [go_sem]; ((repeat' (first|(refine ag_x ?_;simp [go_sem])|intro _|apply And.intro|(apply Yh;clear Yh Y)));all_goals first|apply Hold.mk|omega|assumption|skip))
  refine awp_block ?_
  refine awp_loop (σ := Nat × List Cnd × Nat) (fun x => ⟨[(4, dSs ps), (5, .own 5 x.2.2), (6, dI x.1)], [(5, x.2.2, .row 304 2 (x.2.1.map cRC))]⟩) (fun x => x.1 ≤ ps.length ∧ x.2.1.length = x.1 ∧ cndsV (ps.take x.1) = some x.2.1) (fun x => ps.length - x.1) (0, [], g5) ?_ ?_ ?_
  ·(refine cov_of ?_ ?_ <;> simp [go_sem])
  ·exact ⟨by omega, rfl, rfl⟩
  rintro ⟨i, out, g⟩ ⟨hi, ho, hs⟩
  simp only at hi ho hs
  refine awp_seq_k fun K4 hK4 => ?_
  (refine awp_sr fun Y Yh => ?_; simp [go_sem]; ((repeat' (first|(refine ag_x ?_;simp [go_sem])|intro _|apply And.intro|(apply Yh;clear Yh Y)));all_goals first|apply Hold.mk|omega|assumption|skip))
  (refine awp_if fun T F hT hF => ?_; simp [go_sem]; refine BR.intro (fun h5 => hT ?_) (fun h5 => hF ?_); all_goals clear hT hF T F; try simp at h5) 
  ·refine awp_skip ?_
   refine hK4 _ ?_; clear hK4
   have hi' : i < ps.length := by omega
   obtain ⟨p, hp⟩ : ∃ p, ps[i]? = some p := ⟨_, List.getElem?_eq_getElem hi'⟩
   have hpm : p ∈ ps := List.mem_of_getElem? hp
   have hpl := hdp p hpm
   have R1 := cut_spec p [32] (by omega)
   have hbad := cndsV_bad hpm
   have hsn := fun (x : Cnd) (h : cndV p = some x) => cndsV_snoc hs h
   obtain ⟨o, v, is, hcut⟩ : ∃ o v is, Lib.cut p [32] = (o, v, is) := ⟨_, _, _, rfl⟩
   rw [hcut] at R1
   simp only at R1
   have hcc := cut_cnd hcut
   have hcl := cut_len hcut
   have hms := fun (h : is = false) => cut_miss (p := p) (o := o) (v := v) (by rw [← h]; exact hcut)
   have R2 := rValid_spec v (by omega)
   have hrk := @readV_ok v
   refine awp_seq_k fun K6 hK6 => ?_
   refine awp_block ?_
   (refine awp_sr fun Y Yh => ?_; simp [go_sem, hp]; ((repeat' (first|(refine ag_x ?_;simp [go_sem, hp])|intro _|apply And.intro|(apply Yh;clear Yh Y)));all_goals first|apply Hold.mk|omega|assumption|skip))
   ((try refine CallT.toA ?_); refine callT_m (.inl ⟨rfl,rfl⟩) (by simp [go_sem]) ?_; intro args ha; simp [go_sem] at ha; subst ha; refine ⟨_, R1, ?_⟩; rintro _ rfl; simp [go_sem]; ((repeat' (first|(refine ag_x ?_;simp [go_sem])|intro _|apply And.intro|(apply Yh;clear Yh Y)));all_goals first|apply Hold.mk|omega|assumption|skip))
   refine awp_seq_k fun K7 hK7 => ?_
   (refine awp_sr fun Y Yh => ?_; simp [go_sem]; ((repeat' (first|(refine ag_x ?_;simp [go_sem])|intro _|apply And.intro|(apply Yh;clear Yh Y)));all_goals first|apply Hold.mk|omega|assumption|skip))
   refine awp_block ?_
   refine awp_seq_k fun K8 hK8 => ?_
   have tl8 : ∀ S', Cov S' ⟨[(4, dSs ps), (5, .own 5 g), (6, dI i), (7, dS o), (8, dS v), (30, dB (decide (o ∈ opsV)))], [(5, g, .row 304 2 (out.map cRC))]⟩ → K8 S' := fun S' hS => by
    refine hK8 _ ?_; clear hK8
    refine awp_cov hS ?_; clear hS
    (refine awp_if fun T F hT hF => ?_; simp [go_sem]; refine BR.intro (fun h9 => hT ?_) (fun h9 => hF ?_); all_goals clear hT hF T F; try simp at h9) 
    ·refine awp_skip ?_
     refine hK7 _ ?_; clear hK7
     refine awp_seq_k fun K10 hK10 => ?_
     generalize hsv : readV v = sv at *
     (refine awp_sr fun Y Yh => ?_; simp [go_sem]; ((repeat' (first|(refine ag_x ?_;simp [go_sem])|intro _|apply And.intro|(apply Yh;clear Yh Y)));all_goals first|apply Hold.mk|omega|assumption|skip))
     ((try refine CallT.toA ?_); refine callT_m (.inl ⟨rfl,rfl⟩) (by simp [go_sem]) ?_; intro args ha; simp [go_sem] at ha; subst ha; refine ⟨_, R2, ?_⟩; rintro _ rfl; simp [go_sem]; ((repeat' (first|(refine ag_x ?_;simp [go_sem])|intro _|apply And.intro|(apply Yh;clear Yh Y)));all_goals first|apply Hold.mk|omega|assumption|skip))
     cases sv with
     | none =>
      (refine awp_if fun T F hT hF => ?_; simp [go_sem]; refine hT ?_; clear hT hF T F)
      (refine awp_sr fun Y Yh => ?_; simp [go_sem]; ((repeat' (first|(refine ag_x ?_;simp [go_sem])|intro _|apply And.intro|(apply Yh;clear Yh Y)));all_goals first|apply Hold.mk|omega|assumption|skip))
      (refine awp_ret ?_; simp [go_sem, hbad (by rw [hcc]; simp)])
     | some l =>
      obtain ⟨hvo, hvt, hvl⟩ := hrk rfl
      have his : is = true := by
       cases is with
       | true => rfl
       | false =>
        have := (hms rfl).1
        subst this
        rw [readV_nil] at hsv
        cases hsv
      subst his
      simp only [h9, true_and, if_true, Option.map_some] at hcc
      (refine awp_if fun T F hT hF => ?_; simp [go_sem]; refine hF ?_; clear hT hF T F)
      refine awp_skip ?_
      refine hK10 _ ?_; clear hK10
      (refine awp_r fun Y Yh => ?_; simp [go_sem]; ((repeat' (first|(refine ag_x ?_;simp [go_sem])|intro _|apply And.intro|(apply Yh;clear Yh Y)));all_goals first|apply Hold.mk|omega|assumption|skip))
      refine hK6 _ ?_; clear hK6
      (refine awp_r fun Y Yh => ?_; simp [go_sem]; ((repeat' (first|(refine ag_x ?_;simp [go_sem])|intro _|apply And.intro|(apply Yh;clear Yh Y)));all_goals first|apply Hold.mk|omega|assumption|skip))
      rename_i g28 g'
      have e : ps.take (i + 1) = ps.take i ++ [p] := by rw [List.take_add_one, hp]; rfl
      refine ⟨(i + 1, out ++ [(o, l)], g'), ?_, ⟨by simp only; omega, by simp [ho], ?_⟩, by simp only; omega⟩
      ·(refine cov_of ?_ ?_ <;> simp [go_sem, hvt])
      ·simp only [e]
       exact hsn _ hcc
    ·(refine awp_sr fun Y Yh => ?_; simp [go_sem]; ((repeat' (first|(refine ag_x ?_;simp [go_sem])|intro _|apply And.intro|(apply Yh;clear Yh Y)));all_goals first|apply Hold.mk|omega|assumption|skip))
     (refine awp_ret ?_; simp [go_sem, hbad (by rw [hcc]; simp [h9])])
   clear hK8
   (refine awp_sr fun Y Yh => ?_; simp [go_sem]; ((repeat' (first|(refine ag_x ?_;simp [go_sem])|intro _|apply And.intro|(apply Yh;clear Yh Y)));all_goals first|apply Hold.mk|omega|assumption|skip))
   (refine awp_if fun T F hT hF => ?_; simp [go_sem]; refine BR.intro (fun h12 => hT ?_) (fun h12 => hF ?_); all_goals clear hT hF T F; try simp at h12) 
   ·refine awp_skip ?_
    refine tl8 _ ?_
    (refine cov_of ?_ ?_ <;> simp [go_sem, h12, opsV])
   ·(refine awp_sr fun Y Yh => ?_; simp [go_sem]; ((repeat' (first|(refine ag_x ?_;simp [go_sem])|intro _|apply And.intro|(apply Yh;clear Yh Y)));all_goals first|apply Hold.mk|omega|assumption|skip))
    (refine awp_if fun T F hT hF => ?_; simp [go_sem]; refine BR.intro (fun h13 => hT ?_) (fun h13 => hF ?_); all_goals clear hT hF T F; try simp at h13) 
    ·refine awp_skip ?_
     refine tl8 _ ?_
     (refine cov_of ?_ ?_ <;> simp [go_sem, h13, opsV])
    ·(refine awp_sr fun Y Yh => ?_; simp [go_sem]; ((repeat' (first|(refine ag_x ?_;simp [go_sem])|intro _|apply And.intro|(apply Yh;clear Yh Y)));all_goals first|apply Hold.mk|omega|assumption|skip))
     (refine awp_if fun T F hT hF => ?_; simp [go_sem]; refine BR.intro (fun h14 => hT ?_) (fun h14 => hF ?_); all_goals clear hT hF T F; try simp at h14) 
     ·refine awp_skip ?_
      refine tl8 _ ?_
      (refine cov_of ?_ ?_ <;> simp [go_sem, h14, opsV])
     ·(refine awp_sr fun Y Yh => ?_; simp [go_sem]; ((repeat' (first|(refine ag_x ?_;simp [go_sem])|intro _|apply And.intro|(apply Yh;clear Yh Y)));all_goals first|apply Hold.mk|omega|assumption|skip))
      (refine awp_if fun T F hT hF => ?_; simp [go_sem]; refine BR.intro (fun h15 => hT ?_) (fun h15 => hF ?_); all_goals clear hT hF T F; try simp at h15) 
      ·refine awp_skip ?_
       refine tl8 _ ?_
       (refine cov_of ?_ ?_ <;> simp [go_sem, h15, opsV])
      ·(refine awp_sr fun Y Yh => ?_; simp [go_sem]; ((repeat' (first|(refine ag_x ?_;simp [go_sem])|intro _|apply And.intro|(apply Yh;clear Yh Y)));all_goals first|apply Hold.mk|omega|assumption|skip))
       (refine awp_if fun T F hT hF => ?_; simp [go_sem]; refine BR.intro (fun h16 => hT ?_) (fun h16 => hF ?_); all_goals clear hT hF T F; try simp at h16) 
       ·refine awp_skip ?_
        refine tl8 _ ?_
        (refine cov_of ?_ ?_ <;> simp [go_sem, h16, opsV])
       ·(refine awp_sr fun Y Yh => ?_; simp [go_sem]; ((repeat' (first|(refine ag_x ?_;simp [go_sem])|intro _|apply And.intro|(apply Yh;clear Yh Y)));all_goals first|apply Hold.mk|omega|assumption|skip))
        (refine awp_if fun T F hT hF => ?_; simp [go_sem]; refine BR.intro (fun h17 => hT ?_) (fun h17 => hF ?_); all_goals clear hT hF T F; try simp at h17) 
        ·refine awp_skip ?_
         refine tl8 _ ?_
         (refine cov_of ?_ ?_ <;> simp [go_sem, h17, opsV])
        ·(refine awp_r fun Y Yh => ?_; simp [go_sem]; ((repeat' (first|(refine ag_x ?_;simp [go_sem])|intro _|apply And.intro|(apply Yh;clear Yh Y)));all_goals first|apply Hold.mk|omega|assumption|skip))
         refine tl8 _ ?_
         (refine cov_of ?_ ?_ <;> simp [go_sem, h12, h13, h14, h15, h16, h17, opsV])
         rw [Bool.eq_iff_iff]; simp
  ·refine awp_exit ?_
   simp only [go_sem]
   refine hK3 _ ?_; clear hK3
   have hie : i = ps.length := by omega
   subst hie
   rw [List.take_length] at hs
   (refine awp_sr fun Y Yh => ?_; simp [go_sem]; ((repeat' (first|(refine ag_x ?_;simp [go_sem])|intro _|apply And.intro|(apply Yh;clear Yh Y)));all_goals first|apply Hold.mk|omega|assumption|skip))
   (refine awp_ret ?_; simp [go_sem, hs])
   split
   ·rename_i hq
    simp; omega
   ·rename_i hq
    simp; omega
theorem rmet_spec (l : List Seg) (c : Cnd) (hc : COk c) (hl : l.length ≤ 1000) (wl : ∀ x ∈ l, wz x) : PCall Tryz.prog 286 [dGs l, dRC c] fun r => r = dB (metV l c) := by 
 refine pcall_of Tryz.func286 rfl rfl Tryz.ntmps286 (rs := [.tmp 4]) (tys := [4]) rfl rfl (by simp) ?_
 have hcl := hc.2.1.1
 have R1 := rread_spec (textV c.2) (by have := hc.2.2; omega)
 have er := readV_text hc.2.1 hc.2.2
 rw [readR_of er, er] at R1
 simp only [Option.isSome_some] at R1
 have C1 := rorder_spec l c.2 (by omega) (by omega) wl (wz_ok hc.2.1)
 have B1 := rbump_spec c.2 (by omega) (wordsV_pos hc.2.1) (VOk.num hc.2.1)
 have hbl : (bumpV c.2).length ≤ 1000 := by rw [bumpV_len]; have := bumpN_le c.2; have := wordsV_le c.2; omega
 have C2 := rorder_spec l (bumpV c.2) (by omega) (by omega) wl (fun x hx q => absurd (bumpV_mem hc.2.1 hx).1 q)
 unfold metV
 generalize cmpV l c.2 = n at *
 generalize cmpV l (bumpV c.2) = k at *
 generalize bumpV c.2 = bu at *
 (refine awp_sr fun Y Yh => ?_; simp [go_sem]; ((repeat' (first|(refine ag_x ?_;simp [go_sem])|intro _|apply And.intro|(apply Yh;clear Yh Y)));all_goals first|apply Hold.mk|omega|assumption|skip))
 (refine awp_sr fun Y Yh => ?_; simp [go_sem]; ((repeat' (first|(refine ag_x ?_;simp [go_sem])|intro _|apply And.intro|(apply Yh;clear Yh Y)));all_goals first|apply Hold.mk|omega|assumption|skip))
 ((try refine CallT.toA ?_); refine callT_m (.inl ⟨rfl,rfl⟩) (by simp [go_sem]) ?_; intro args ha; simp [go_sem] at ha; subst ha; refine ⟨_, R1, ?_⟩; rintro _ rfl; simp [go_sem]; ((repeat' (first|(refine ag_x ?_;simp [go_sem])|intro _|apply And.intro|(apply Yh;clear Yh Y)));all_goals first|apply Hold.mk|omega|assumption|skip))
 (refine awp_sr fun Y Yh => ?_; simp [go_sem]; ((repeat' (first|(refine ag_x ?_;simp [go_sem])|intro _|apply And.intro|(apply Yh;clear Yh Y)));all_goals first|apply Hold.mk|omega|assumption|skip))
 ((try refine CallT.toA ?_); refine callT_m (.inl ⟨rfl,rfl⟩) (by simp [go_sem]) ?_; intro args ha; simp [go_sem] at ha; subst ha; refine ⟨_, C1, ?_⟩; rintro _ rfl; simp [go_sem]; ((repeat' (first|(refine ag_x ?_;simp [go_sem])|intro _|apply And.intro|(apply Yh;clear Yh Y)));all_goals first|apply Hold.mk|omega|assumption|skip))
 refine awp_seq_k fun K1 hK1 => ?_
 (refine awp_sr fun Y Yh => ?_; simp [go_sem]; ((repeat' (first|(refine ag_x ?_;simp [go_sem])|intro _|apply And.intro|(apply Yh;clear Yh Y)));all_goals first|apply Hold.mk|omega|assumption|skip))
 refine awp_block ?_
 (refine awp_sr fun Y Yh => ?_; simp [go_sem]; ((repeat' (first|(refine ag_x ?_;simp [go_sem])|intro _|apply And.intro|(apply Yh;clear Yh Y)));all_goals first|apply Hold.mk|omega|assumption|skip))
 (refine awp_if fun T F hT hF => ?_; simp [go_sem]; refine BR.intro (fun h2 => hT ?_) (fun h2 => hF ?_); all_goals clear hT hF T F; try simp at h2) 
 ·(refine awp_sr fun Y Yh => ?_; simp [go_sem]; ((repeat' (first|(refine ag_x ?_;simp [go_sem])|intro _|apply And.intro|(apply Yh;clear Yh Y)));all_goals first|apply Hold.mk|omega|assumption|skip))
  (refine awp_ret ?_; simp [go_sem, h2])
 ·(refine awp_sr fun Y Yh => ?_; simp [go_sem]; ((repeat' (first|(refine ag_x ?_;simp [go_sem])|intro _|apply And.intro|(apply Yh;clear Yh Y)));all_goals first|apply Hold.mk|omega|assumption|skip))
  (refine awp_if fun T F hT hF => ?_; simp [go_sem]; refine BR.intro (fun h3 => hT ?_) (fun h3 => hF ?_); all_goals clear hT hF T F; try simp at h3) 
  ·(refine awp_sr fun Y Yh => ?_; simp [go_sem]; ((repeat' (first|(refine ag_x ?_;simp [go_sem])|intro _|apply And.intro|(apply Yh;clear Yh Y)));all_goals first|apply Hold.mk|omega|assumption|skip))
   (refine awp_ret ?_; simp [go_sem, h2, h3])
  ·(refine awp_sr fun Y Yh => ?_; simp [go_sem]; ((repeat' (first|(refine ag_x ?_;simp [go_sem])|intro _|apply And.intro|(apply Yh;clear Yh Y)));all_goals first|apply Hold.mk|omega|assumption|skip))
   (refine awp_if fun T F hT hF => ?_; simp [go_sem]; refine BR.intro (fun h4 => hT ?_) (fun h4 => hF ?_); all_goals clear hT hF T F; try simp at h4) 
   ·(refine awp_sr fun Y Yh => ?_; simp [go_sem]; ((repeat' (first|(refine ag_x ?_;simp [go_sem])|intro _|apply And.intro|(apply Yh;clear Yh Y)));all_goals first|apply Hold.mk|omega|assumption|skip))
    (refine awp_ret ?_; simp [go_sem, h2, h3, h4])
   ·(refine awp_sr fun Y Yh => ?_; simp [go_sem]; ((repeat' (first|(refine ag_x ?_;simp [go_sem])|intro _|apply And.intro|(apply Yh;clear Yh Y)));all_goals first|apply Hold.mk|omega|assumption|skip))
    (refine awp_if fun T F hT hF => ?_; simp [go_sem]; refine BR.intro (fun h5 => hT ?_) (fun h5 => hF ?_); all_goals clear hT hF T F; try simp at h5) 
    ·(refine awp_sr fun Y Yh => ?_; simp [go_sem]; ((repeat' (first|(refine ag_x ?_;simp [go_sem])|intro _|apply And.intro|(apply Yh;clear Yh Y)));all_goals first|apply Hold.mk|omega|assumption|skip))
     (refine awp_ret ?_; simp [go_sem, h2, h3, h4, h5])
    ·(refine awp_sr fun Y Yh => ?_; simp [go_sem]; ((repeat' (first|(refine ag_x ?_;simp [go_sem])|intro _|apply And.intro|(apply Yh;clear Yh Y)));all_goals first|apply Hold.mk|omega|assumption|skip))
     (refine awp_if fun T F hT hF => ?_; simp [go_sem]; refine BR.intro (fun h6 => hT ?_) (fun h6 => hF ?_); all_goals clear hT hF T F; try simp at h6) 
     ·(refine awp_sr fun Y Yh => ?_; simp [go_sem]; ((repeat' (first|(refine ag_x ?_;simp [go_sem])|intro _|apply And.intro|(apply Yh;clear Yh Y)));all_goals first|apply Hold.mk|omega|assumption|skip))
      (refine awp_ret ?_; simp [go_sem, h2, h3, h4, h5, h6])
     ·(refine awp_sr fun Y Yh => ?_; simp [go_sem]; ((repeat' (first|(refine ag_x ?_;simp [go_sem])|intro _|apply And.intro|(apply Yh;clear Yh Y)));all_goals first|apply Hold.mk|omega|assumption|skip))
      (refine awp_if fun T F hT hF => ?_; simp [go_sem]; refine BR.intro (fun h7 => hT ?_) (fun h7 => hF ?_); all_goals clear hT hF T F; try simp at h7) 
      ·(refine awp_sr fun Y Yh => ?_; simp [go_sem]; ((repeat' (first|(refine ag_x ?_;simp [go_sem])|intro _|apply And.intro|(apply Yh;clear Yh Y)));all_goals first|apply Hold.mk|omega|assumption|skip))
       (refine awp_ret ?_; simp [go_sem, h2, h3, h4, h5, h6, h7])
      ·refine awp_skip ?_
       refine hK1 _ ?_; clear hK1
       simp only [h2, h3, h4, h5, h6, h7, if_false]
       by_cases h8 : 0 ≤ n
       ·(refine awp_sr fun Y Yh => ?_; simp [go_sem, h8]; ((repeat' (first|(refine ag_x ?_;simp [go_sem, h8])|intro _|apply And.intro|(apply Yh;clear Yh Y)));all_goals first|apply Hold.mk|omega|assumption|skip))
        (refine agc_m (dGs bu) (.inl ⟨rfl,rfl⟩) (by simp [go_sem]) ?_ ?_; (intro hc args ha; simp [go_sem] at ha; subst ha; exact B1); simp [go_sem]; ((repeat' (first|(refine ag_x ?_;simp [go_sem])|intro _|apply And.intro|(apply Yh;clear Yh Y)));all_goals first|apply Hold.mk|omega|assumption|skip))
        (refine agc_f (dI k) (.inl ⟨rfl,rfl⟩) ?_ rfl ?_; (intro hc args ha; simp [go_sem] at ha; subst ha; exact C2); simp [go_sem]; ((repeat' (first|(refine ag_x ?_;simp [go_sem])|intro _|apply And.intro|(apply Yh;clear Yh Y)));all_goals first|apply Hold.mk|omega|assumption|skip))
        (refine awp_ret ?_; simp [go_sem, h8])
       ·(refine awp_sr fun Y Yh => ?_; simp [go_sem, h8]; ((repeat' (first|(refine ag_false (by simp [go_sem, undef, h8]) (by simp [go_sem]) ?_;simp [go_sem, h8])|intro _|apply And.intro|(apply Yh;clear Yh Y)));all_goals first|apply Hold.mk|omega|assumption|skip))
        (refine awp_ret ?_; simp [go_sem, h8])
def anyPre (cs : List Cnd) (i : Nat) : Bool := (cs.take i).any fun c => preV c.2
theorem anyPre_zero (cs : List Cnd) : anyPre cs 0 = false := rfl
theorem anyPre_all (cs : List Cnd) : anyPre cs cs.length = cs.any fun c => preV c.2 := by unfold anyPre; rw [List.take_length]
set_option maxHeartbeats 8000000 in
theorem rall_spec (l : List Seg) (cs : List Cnd) (hl : l.length ≤ 1000) (wl : ∀ x ∈ l, wz x) (hcs : cs.length ≤ 1000) (hc : ∀ c ∈ cs, COk c) : PCall Tryz.prog 252 [dGs l, dRCs cs] fun r => r = dB (meetsV l cs) := by 
 refine pcall_of Tryz.func252 rfl rfl Tryz.ntmps252 (rs := [.tmp 4]) (tys := [4]) rfl rfl (by simp) ?_
 have W := rwords_spec l (by omega)
 have e := words_eq l
 have M := fun c h => rmet_spec l c (hc c h) hl wl
 have RW := fun c h => rwords_spec (c : Cnd).2 (by have := (hc c h).2.1.1; omega)
 have RE := fun (c : Cnd) => wordsV_lt c.2
 have RR := fun c h => rread_spec (textV (c : Cnd).2) (by have := (hc c h).2.2; omega)
 have ER := fun c h => readV_text (hc c h).2.1 (hc c h).2.2
 have EP := fun c h => readR_of (ER c h)
 have hbad : ∀ c ∈ cs, metV l c = false → meetsV l cs = false := by
  intro c h hm
  unfold meetsV
  have : cs.all (metV l) = false := by
   rw [List.all_eq_false]; exact ⟨c, h, by simp [hm]⟩
  rw [this]; rfl
 have hok : cs.all (metV l) = true → meetsV l cs = (!preV l || cs.any fun c => preV c.2) := by
  intro h; unfold meetsV; rw [h]; rfl
 have hall : ∀ i c, cs[i]? = some c → (cs.take i).all (metV l) = true → metV l c = true → (cs.take (i + 1)).all (metV l) = true := by
  intro i c h h1 h2
  rw [List.take_add_one, h, List.all_append, h1]; simpa using h2
 have hany : ∀ i c, cs[i]? = some c → anyPre cs (i + 1) = (anyPre cs i || preV c.2) := fun i c h => any_take h
 generalize meetsV l cs = res at *
 generalize preV l = pr at *
 generalize wordsV l = wl at *
 (refine awp_sr fun Y Yh => ?_; simp [go_sem]; ((repeat' (first|(refine ag_x ?_;simp [go_sem])|intro _|apply And.intro|(apply Yh;clear Yh Y)));all_goals first|apply Hold.mk|omega|assumption|skip))
 (refine awp_sr fun Y Yh => ?_; simp [go_sem]; ((repeat' (first|(refine ag_x ?_;simp [go_sem])|intro _|apply And.intro|(apply Yh;clear Yh Y)));all_goals first|apply Hold.mk|omega|assumption|skip))
 ((try refine CallT.toA ?_); refine callT_m (.inl ⟨rfl,rfl⟩) (by simp [go_sem]) ?_; intro args ha; simp [go_sem] at ha; subst ha; refine ⟨_, W, ?_⟩; rintro _ rfl; simp [go_sem]; ((repeat' (first|(refine ag_x ?_;simp [go_sem])|intro _|apply And.intro|(apply Yh;clear Yh Y)));all_goals first|apply Hold.mk|omega|assumption|skip))
 refine awp_seq_k fun K1 hK1 => ?_
 (refine awp_sr fun Y Yh => ?_; simp [go_sem]; ((repeat' (first|(refine ag_x ?_;simp [go_sem])|intro _|apply And.intro|(apply Yh;clear Yh Y)));all_goals first|apply Hold.mk|omega|assumption|skip))
 refine awp_block ?_
 refine awp_loop (σ := Nat) (fun i => ⟨[(0, dGs l), (1, dRCs cs), (5, dB (!pr || anyPre cs i)), (6, dI i)], []⟩) (fun i => i ≤ cs.length ∧ (cs.take i).all (metV l) = true) (fun i => cs.length - i) 0 ?_ ?_ ?_
 ·(refine cov_of ?_ ?_ <;> simp [go_sem, e, anyPre_zero])
 ·exact ⟨by omega, by simp⟩
 rintro i ⟨hi, ha⟩
 refine awp_seq_k fun K2 hK2 => ?_
 (refine awp_sr fun Y Yh => ?_; simp [go_sem]; ((repeat' (first|(refine ag_x ?_;simp [go_sem])|intro _|apply And.intro|(apply Yh;clear Yh Y)));all_goals first|apply Hold.mk|omega|assumption|skip))
 (refine awp_if fun T F hT hF => ?_; simp [go_sem]; refine BR.intro (fun h3 => hT ?_) (fun h3 => hF ?_); all_goals clear hT hF T F; try simp at h3) 
 ·refine awp_skip ?_
  refine hK2 _ ?_; clear hK2
  obtain ⟨c, hx⟩ : ∃ c, cs[i]? = some c := ⟨_, List.getElem?_eq_getElem (by omega)⟩
  have hm := List.mem_of_getElem? hx
  have M1 := M c hm
  have hb := hbad c hm
  have ha2 := hall i c hx ha
  have W2 := RW c hm
  have E2 := RE c
  have R2 := RR c hm
  rw [ER c hm, EP c hm] at R2
  simp only [Option.isSome_some] at R2
  have A2 := hany i c hx
  have hE3 : decide ((wordsV c.2 : Int) < (c.2.length : Int)) = preV c.2 := by rw [← E2]; congr 1; apply propext; omega
  generalize hmv : metV l c = mc at *
  generalize hq : anyPre cs i = q at *
  generalize hpc : preV c.2 = pc at *
  generalize wordsV c.2 = wc at *
  refine awp_seq_k fun K4 hK4 => ?_
  refine awp_block ?_
  (refine awp_sr fun Y Yh => ?_; simp [go_sem, hx]; ((repeat' (first|(refine ag_x ?_;simp [go_sem, hx])|intro _|apply And.intro|(apply Yh;clear Yh Y)));all_goals first|apply Hold.mk|omega|assumption|skip))
  ((try refine CallT.toA ?_); refine callT_m (.inl ⟨rfl,rfl⟩) (by simp [go_sem]) ?_; intro args ha; simp [go_sem] at ha; subst ha; refine ⟨_, R2, ?_⟩; rintro _ rfl; simp [go_sem]; ((repeat' (first|(refine ag_x ?_;simp [go_sem])|intro _|apply And.intro|(apply Yh;clear Yh Y)));all_goals first|apply Hold.mk|omega|assumption|skip))
  cases hm2 : (!pr || q) with
  | true =>
   have hm3 : (!pr || (q || pc)) = true := by rw [← Bool.or_assoc, hm2]; rfl
   (refine awp_sr fun Y Yh => ?_; simp [go_sem, hm2]; ((repeat' (first|(refine ag_false (by simp [go_sem, undef, hm2]) (by simp [go_sem]) ?_;simp [go_sem, hm2])|intro _|apply And.intro|(apply Yh;clear Yh Y)));all_goals first|apply Hold.mk|omega|assumption|skip))
   (refine awp_sr fun Y Yh => ?_; simp [go_sem, hx]; ((repeat' (first|(refine ag_x ?_;simp [go_sem, hx])|intro _|apply And.intro|(apply Yh;clear Yh Y)));all_goals first|apply Hold.mk|omega|assumption|skip))
   ((try refine CallT.toA ?_); refine callT_m (.inl ⟨rfl,rfl⟩) (by simp [go_sem]) ?_; intro args ha; simp [go_sem] at ha; subst ha; refine ⟨_, M1, ?_⟩; rintro _ rfl; simp [go_sem]; ((repeat' (first|(refine ag_x ?_;simp [go_sem])|intro _|apply And.intro|(apply Yh;clear Yh Y)));all_goals first|apply Hold.mk|omega|assumption|skip))
   (refine awp_if fun T F hT hF => ?_; simp [go_sem]; refine BR.intro (fun h5 => hT ?_) (fun h5 => hF ?_); all_goals clear hT hF T F; try simp at h5)
   ·(refine awp_sr fun Y Yh => ?_; simp [go_sem]; ((repeat' (first|(refine ag_x ?_;simp [go_sem])|intro _|apply And.intro|(apply Yh;clear Yh Y)));all_goals first|apply Hold.mk|omega|assumption|skip))
    (refine awp_ret ?_; simp [go_sem, hb h5])
   ·refine awp_skip ?_
    refine hK4 _ ?_; clear hK4
    (refine awp_r fun Y Yh => ?_; simp [go_sem]; ((repeat' (first|(refine ag_x ?_;simp [go_sem])|intro _|apply And.intro|(apply Yh;clear Yh Y)));all_goals first|apply Hold.mk|omega|assumption|skip))
    refine ⟨i + 1, ?_, ⟨by omega, ha2 h5⟩, by omega⟩
    rw [A2, hm3]
    (refine cov_of ?_ ?_ <;> simp [go_sem])
  | false =>
   have hm3 : (!pr || (q || pc)) = pc := by rw [← Bool.or_assoc, hm2]; rfl
   (refine awp_sr fun Y Yh => ?_; simp [go_sem, hm2]; ((repeat' (first|(refine ag_x ?_;simp [go_sem, hm2])|intro _|apply And.intro|(apply Yh;clear Yh Y)));all_goals first|apply Hold.mk|omega|assumption|skip))
   (refine agc_f (dI wc) (.inl ⟨rfl,rfl⟩) ?_ rfl ?_; (intro hc args ha; simp [go_sem] at ha; subst ha; exact W2); simp [go_sem]; ((repeat' (first|(refine ag_x ?_;simp [go_sem])|intro _|apply And.intro|(apply Yh;clear Yh Y)));all_goals first|apply Hold.mk|omega|assumption|skip))
   (refine awp_sr fun Y Yh => ?_; simp [go_sem, hx]; ((repeat' (first|(refine ag_x ?_;simp [go_sem, hx])|intro _|apply And.intro|(apply Yh;clear Yh Y)));all_goals first|apply Hold.mk|omega|assumption|skip))
   ((try refine CallT.toA ?_); refine callT_m (.inl ⟨rfl,rfl⟩) (by simp [go_sem]) ?_; intro args ha; simp [go_sem] at ha; subst ha; refine ⟨_, M1, ?_⟩; rintro _ rfl; simp [go_sem]; ((repeat' (first|(refine ag_x ?_;simp [go_sem])|intro _|apply And.intro|(apply Yh;clear Yh Y)));all_goals first|apply Hold.mk|omega|assumption|skip))
   (refine awp_if fun T F hT hF => ?_; simp [go_sem]; refine BR.intro (fun h5 => hT ?_) (fun h5 => hF ?_); all_goals clear hT hF T F; try simp at h5)
   ·(refine awp_sr fun Y Yh => ?_; simp [go_sem]; ((repeat' (first|(refine ag_x ?_;simp [go_sem])|intro _|apply And.intro|(apply Yh;clear Yh Y)));all_goals first|apply Hold.mk|omega|assumption|skip))
    (refine awp_ret ?_; simp [go_sem, hb h5])
   ·refine awp_skip ?_
    refine hK4 _ ?_; clear hK4
    (refine awp_r fun Y Yh => ?_; simp [go_sem]; ((repeat' (first|(refine ag_x ?_;simp [go_sem])|intro _|apply And.intro|(apply Yh;clear Yh Y)));all_goals first|apply Hold.mk|omega|assumption|skip))
    refine ⟨i + 1, ?_, ⟨by omega, ha2 h5⟩, by omega⟩
    rw [A2, hm3]
    (refine cov_of ?_ ?_ <;> simp [go_sem, E2])
 ·refine awp_exit ?_
  simp only [go_sem]
  refine hK1 _ ?_; clear hK1
  have : i = cs.length := by omega
  subst this
  rw [List.take_length] at ha
  rw [hok ha, ← anyPre_all]
  (refine awp_sr fun Y Yh => ?_; simp [go_sem]; ((repeat' (first|(refine ag_x ?_;simp [go_sem])|intro _|apply And.intro|(apply Yh;clear Yh Y)));all_goals first|apply Hold.mk|omega|assumption|skip))
  (refine awp_ret ?_; simp [go_sem])
theorem rCompare_spec (v w : List UInt8) (hv : v.length ≤ 1000000) (hw : w.length ≤ 1000000) : PCall Tryz.prog 55 [dS v, dS w] fun r => r = .tup [dI (compareP v w), dI (codeP ((readV v).isSome && (readV w).isSome))] := by 
 refine pcall_of Tryz.func55 rfl rfl Tryz.ntmps55 (rs := [.tmp 4, .tmp 5]) (tys := [3, 35]) rfl rfl (by simp) ?_
 have R1 := rread_spec v (by omega)
 have R2 := rread_spec w (by omega)
 have h1 := @read_ok v
 have h2 := @read_ok w
 unfold compareP codeP
 unfold readR at R1 R2
 generalize readP v = a at *
 generalize readP w = b at *
 have C := fun (p : (readV v).isSome = true) (q : (readV w).isSome = true) => rorder_spec a b (by have := (h1 p).2.1.1; omega) (by have := (h2 q).2.1.1; omega) (wz_ok (h1 p).2.1) (wz_ok (h2 q).2.1)
 generalize (readV v).isSome = x at *
 generalize (readV w).isSome = y at *
 (refine awp_sr fun Y Yh => ?_; simp [go_sem]; ((repeat' (first|(refine ag_x ?_;simp [go_sem])|intro _|apply And.intro|(apply Yh;clear Yh Y)));all_goals first|apply Hold.mk|omega|assumption|skip))
 (refine awp_sr fun Y Yh => ?_; simp [go_sem]; ((repeat' (first|(refine ag_x ?_;simp [go_sem])|intro _|apply And.intro|(apply Yh;clear Yh Y)));all_goals first|apply Hold.mk|omega|assumption|skip))
 ((try refine CallT.toA ?_); refine callT_m (.inl ⟨rfl,rfl⟩) (by simp [go_sem]) ?_; intro args ha; simp [go_sem] at ha; subst ha; refine ⟨_, R1, ?_⟩; rintro _ rfl; simp [go_sem]; ((repeat' (first|(refine ag_x ?_;simp [go_sem])|intro _|apply And.intro|(apply Yh;clear Yh Y)));all_goals first|apply Hold.mk|omega|assumption|skip))
 (refine awp_sr fun Y Yh => ?_; simp [go_sem]; ((repeat' (first|(refine ag_x ?_;simp [go_sem])|intro _|apply And.intro|(apply Yh;clear Yh Y)));all_goals first|apply Hold.mk|omega|assumption|skip))
 ((try refine CallT.toA ?_); refine callT_m (.inl ⟨rfl,rfl⟩) (by simp [go_sem]) ?_; intro args ha; simp [go_sem] at ha; subst ha; refine ⟨_, R2, ?_⟩; rintro _ rfl; simp [go_sem]; ((repeat' (first|(refine ag_x ?_;simp [go_sem])|intro _|apply And.intro|(apply Yh;clear Yh Y)));all_goals first|apply Hold.mk|omega|assumption|skip))
 refine awp_seq_k fun K1 hK1 => ?_
 cases x with
 | false =>
  (refine awp_sr fun Y Yh => ?_; simp [go_sem]; ((repeat' (first|(refine ag_false (by simp [go_sem, undef]) (by simp [go_sem]) ?_;simp [go_sem])|intro _|apply And.intro|(apply Yh;clear Yh Y)));all_goals first|apply Hold.mk|omega|assumption|skip))
  (refine awp_if fun T F hT hF => ?_; simp [go_sem]; refine hT ?_; clear hT hF T F)
  (refine awp_sr fun Y Yh => ?_; simp [go_sem]; ((repeat' (first|(refine ag_x ?_;simp [go_sem])|intro _|apply And.intro|(apply Yh;clear Yh Y)));all_goals first|apply Hold.mk|omega|assumption|skip))
  (refine awp_ret ?_; simp [go_sem])
 | true =>
  cases y with
  | false =>
   (refine awp_sr fun Y Yh => ?_; simp [go_sem]; ((repeat' (first|(refine ag_x ?_;simp [go_sem])|intro _|apply And.intro|(apply Yh;clear Yh Y)));all_goals first|apply Hold.mk|omega|assumption|skip))
   (refine awp_if fun T F hT hF => ?_; simp [go_sem]; refine hT ?_; clear hT hF T F)
   (refine awp_sr fun Y Yh => ?_; simp [go_sem]; ((repeat' (first|(refine ag_x ?_;simp [go_sem])|intro _|apply And.intro|(apply Yh;clear Yh Y)));all_goals first|apply Hold.mk|omega|assumption|skip))
   (refine awp_ret ?_; simp [go_sem])
  | true =>
   simp only [if_true] at R1 R2
   (refine awp_sr fun Y Yh => ?_; simp [go_sem]; ((repeat' (first|(refine ag_x ?_;simp [go_sem])|intro _|apply And.intro|(apply Yh;clear Yh Y)));all_goals first|apply Hold.mk|omega|assumption|skip))
   (refine awp_if fun T F hT hF => ?_; simp [go_sem]; refine hF ?_; clear hT hF T F)
   refine awp_skip ?_
   refine hK1 _ ?_; clear hK1
   (refine awp_sr fun Y Yh => ?_; simp [go_sem]; ((repeat' (first|(refine ag_x ?_;simp [go_sem])|intro _|apply And.intro|(apply Yh;clear Yh Y)));all_goals first|apply Hold.mk|omega|assumption|skip))
   ((try refine CallT.toA ?_); refine callT_m (.inl ⟨rfl,rfl⟩) (by simp [go_sem]) ?_; intro args ha; simp [go_sem] at ha; subst ha; refine ⟨_, (C rfl rfl), ?_⟩; rintro _ rfl; simp [go_sem]; ((repeat' (first|(refine ag_x ?_;simp [go_sem])|intro _|apply And.intro|(apply Yh;clear Yh Y)));all_goals first|apply Hold.mk|omega|assumption|skip))
   (refine awp_ret ?_; simp [go_sem])
theorem rMeets_spec (v w : List UInt8) (hv : v.length ≤ 1000000) (hw : w.length ≤ 1000000) : PCall Tryz.prog 216 [dS v, dS w] fun r => r = .tup [dB (meetsP v w), dI (codeP ((readV v).isSome && (condsV w).isSome))] := by 
 refine pcall_of Tryz.func216 rfl rfl Tryz.ntmps216 (rs := [.tmp 4, .tmp 5]) (tys := [4, 35]) rfl rfl (by simp) ?_
 have R1 := rread_spec v (by omega)
 have R2 := rconditions_spec w (by omega)
 have h1 := @read_ok v
 have h2 := @conds_ok w
 unfold meetsP codeP
 unfold readR at R1
 generalize readP v = a at *
 generalize condsP w = b at *
 have C := fun (p : (readV v).isSome = true) (q : (condsV w).isSome = true) => rall_spec a b (by have := (h1 p).2.1.1; omega) (wz_ok (h1 p).2.1) (by have := (h2 q).2.2; omega) (h2 q).2.1
 generalize (readV v).isSome = x at *
 generalize (condsV w).isSome = y at *
 (refine awp_sr fun Y Yh => ?_; simp [go_sem]; ((repeat' (first|(refine ag_x ?_;simp [go_sem])|intro _|apply And.intro|(apply Yh;clear Yh Y)));all_goals first|apply Hold.mk|omega|assumption|skip))
 (refine awp_sr fun Y Yh => ?_; simp [go_sem]; ((repeat' (first|(refine ag_x ?_;simp [go_sem])|intro _|apply And.intro|(apply Yh;clear Yh Y)));all_goals first|apply Hold.mk|omega|assumption|skip))
 ((try refine CallT.toA ?_); refine callT_m (.inl ⟨rfl,rfl⟩) (by simp [go_sem]) ?_; intro args ha; simp [go_sem] at ha; subst ha; refine ⟨_, R1, ?_⟩; rintro _ rfl; simp [go_sem]; ((repeat' (first|(refine ag_x ?_;simp [go_sem])|intro _|apply And.intro|(apply Yh;clear Yh Y)));all_goals first|apply Hold.mk|omega|assumption|skip))
 (refine awp_sr fun Y Yh => ?_; simp [go_sem]; ((repeat' (first|(refine ag_x ?_;simp [go_sem])|intro _|apply And.intro|(apply Yh;clear Yh Y)));all_goals first|apply Hold.mk|omega|assumption|skip))
 ((try refine CallT.toA ?_); refine callT_m (.inl ⟨rfl,rfl⟩) (by simp [go_sem]) ?_; intro args ha; simp [go_sem] at ha; subst ha; refine ⟨_, R2, ?_⟩; rintro _ rfl; simp [go_sem]; ((repeat' (first|(refine ag_x ?_;simp [go_sem])|intro _|apply And.intro|(apply Yh;clear Yh Y)));all_goals first|apply Hold.mk|omega|assumption|skip))
 refine awp_seq_k fun K1 hK1 => ?_
 cases x with
 | false =>
  (refine awp_sr fun Y Yh => ?_; simp [go_sem]; ((repeat' (first|(refine ag_false (by simp [go_sem, undef]) (by simp [go_sem]) ?_;simp [go_sem])|intro _|apply And.intro|(apply Yh;clear Yh Y)));all_goals first|apply Hold.mk|omega|assumption|skip))
  (refine awp_if fun T F hT hF => ?_; simp [go_sem]; refine hT ?_; clear hT hF T F)
  (refine awp_sr fun Y Yh => ?_; simp [go_sem]; ((repeat' (first|(refine ag_x ?_;simp [go_sem])|intro _|apply And.intro|(apply Yh;clear Yh Y)));all_goals first|apply Hold.mk|omega|assumption|skip))
  (refine awp_ret ?_; simp [go_sem])
 | true =>
  cases y with
  | false =>
   (refine awp_sr fun Y Yh => ?_; simp [go_sem]; ((repeat' (first|(refine ag_x ?_;simp [go_sem])|intro _|apply And.intro|(apply Yh;clear Yh Y)));all_goals first|apply Hold.mk|omega|assumption|skip))
   (refine awp_if fun T F hT hF => ?_; simp [go_sem]; refine hT ?_; clear hT hF T F)
   (refine awp_sr fun Y Yh => ?_; simp [go_sem]; ((repeat' (first|(refine ag_x ?_;simp [go_sem])|intro _|apply And.intro|(apply Yh;clear Yh Y)));all_goals first|apply Hold.mk|omega|assumption|skip))
   (refine awp_ret ?_; simp [go_sem])
  | true =>
   simp only [if_true] at R1
   (refine awp_sr fun Y Yh => ?_; simp [go_sem]; ((repeat' (first|(refine ag_x ?_;simp [go_sem])|intro _|apply And.intro|(apply Yh;clear Yh Y)));all_goals first|apply Hold.mk|omega|assumption|skip))
   (refine awp_if fun T F hT hF => ?_; simp [go_sem]; refine hF ?_; clear hT hF T F)
   refine awp_skip ?_
   refine hK1 _ ?_; clear hK1
   (refine awp_sr fun Y Yh => ?_; simp [go_sem]; ((repeat' (first|(refine ag_x ?_;simp [go_sem])|intro _|apply And.intro|(apply Yh;clear Yh Y)));all_goals first|apply Hold.mk|omega|assumption|skip))
   ((try refine CallT.toA ?_); refine callT_m (.inl ⟨rfl,rfl⟩) (by simp [go_sem]) ?_; intro args ha; simp [go_sem] at ha; subst ha; refine ⟨_, (C rfl rfl), ?_⟩; rintro _ rfl; simp [go_sem]; ((repeat' (first|(refine ag_x ?_;simp [go_sem])|intro _|apply And.intro|(apply Yh;clear Yh Y)));all_goals first|apply Hold.mk|omega|assumption|skip))
   (refine awp_ret ?_; simp [go_sem])
theorem Check_spec (r : List UInt8) (hl : r.length ≤ 1000000) : PCall Tryz.prog 165 [dS r] fun y => y = dI (codeP (condsV r).isSome) := by 
 refine pcall_of Tryz.func165 rfl rfl Tryz.ntmps165 (rs := [.tmp 2]) (tys := [35]) rfl rfl (by simp) ?_
 have R1 := conditions_spec r (by omega)
 unfold codeP
 generalize (condsV r).isSome = x at *
 (refine awp_sr fun Y Yh => ?_; simp [go_sem]; ((repeat' (first|(refine ag_x ?_;simp [go_sem])|intro _|apply And.intro|(apply Yh;clear Yh Y)));all_goals first|apply Hold.mk|omega|assumption|skip))
 refine awp_seq_k fun K1 hK1 => ?_
 (refine awp_sr fun Y Yh => ?_; simp [go_sem]; ((repeat' (first|(refine ag_x ?_;simp [go_sem])|intro _|apply And.intro|(apply Yh;clear Yh Y)));all_goals first|apply Hold.mk|omega|assumption|skip))
 ((try refine CallT.toA ?_); refine callT_m (.inl ⟨rfl,rfl⟩) (by simp [go_sem]) ?_; intro args ha; simp [go_sem] at ha; subst ha; refine ⟨_, R1, ?_⟩; rintro _ rfl; simp [go_sem]; ((repeat' (first|(refine ag_x ?_;simp [go_sem])|intro _|apply And.intro|(apply Yh;clear Yh Y)));all_goals first|apply Hold.mk|omega|assumption|skip))
 (refine awp_sr fun Y Yh => ?_; simp [go_sem]; ((repeat' (first|(refine ag_x ?_;simp [go_sem])|intro _|apply And.intro|(apply Yh;clear Yh Y)));all_goals first|apply Hold.mk|omega|assumption|skip))
 (refine awp_if fun T F hT hF => ?_; simp [go_sem]; refine BR.intro (fun h2 => hT ?_) (fun h2 => hF ?_); all_goals clear hT hF T F; try simp at h2) 
 ·(refine awp_sr fun Y Yh => ?_; simp [go_sem]; ((repeat' (first|(refine ag_x ?_;simp [go_sem])|intro _|apply And.intro|(apply Yh;clear Yh Y)));all_goals first|apply Hold.mk|omega|assumption|skip))
  (refine awp_ret ?_; simp [go_sem, h2])
 ·refine awp_skip ?_
  refine hK1 _ ?_; clear hK1
  (refine awp_sr fun Y Yh => ?_; simp [go_sem]; ((repeat' (first|(refine ag_x ?_;simp [go_sem])|intro _|apply And.intro|(apply Yh;clear Yh Y)));all_goals first|apply Hold.mk|omega|assumption|skip))
  (refine awp_ret ?_; simp [go_sem, h2])
theorem rCheck_spec (r : List UInt8) (hl : r.length ≤ 1000000) : PCall Tryz.prog 146 [dS r] fun y => y = dI (codeP (condsV r).isSome) := by 
 refine pcall_of Tryz.func146 rfl rfl Tryz.ntmps146 (rs := [.tmp 2]) (tys := [35]) rfl rfl (by simp) ?_
 have R1 := rconditions_spec r (by omega)
 unfold codeP
 generalize (condsV r).isSome = x at *
 (refine awp_sr fun Y Yh => ?_; simp [go_sem]; ((repeat' (first|(refine ag_x ?_;simp [go_sem])|intro _|apply And.intro|(apply Yh;clear Yh Y)));all_goals first|apply Hold.mk|omega|assumption|skip))
 refine awp_seq_k fun K1 hK1 => ?_
 (refine awp_sr fun Y Yh => ?_; simp [go_sem]; ((repeat' (first|(refine ag_x ?_;simp [go_sem])|intro _|apply And.intro|(apply Yh;clear Yh Y)));all_goals first|apply Hold.mk|omega|assumption|skip))
 ((try refine CallT.toA ?_); refine callT_m (.inl ⟨rfl,rfl⟩) (by simp [go_sem]) ?_; intro args ha; simp [go_sem] at ha; subst ha; refine ⟨_, R1, ?_⟩; rintro _ rfl; simp [go_sem]; ((repeat' (first|(refine ag_x ?_;simp [go_sem])|intro _|apply And.intro|(apply Yh;clear Yh Y)));all_goals first|apply Hold.mk|omega|assumption|skip))
 (refine awp_sr fun Y Yh => ?_; simp [go_sem]; ((repeat' (first|(refine ag_x ?_;simp [go_sem])|intro _|apply And.intro|(apply Yh;clear Yh Y)));all_goals first|apply Hold.mk|omega|assumption|skip))
 (refine awp_if fun T F hT hF => ?_; simp [go_sem]; refine BR.intro (fun h2 => hT ?_) (fun h2 => hF ?_); all_goals clear hT hF T F; try simp at h2) 
 ·(refine awp_sr fun Y Yh => ?_; simp [go_sem]; ((repeat' (first|(refine ag_x ?_;simp [go_sem])|intro _|apply And.intro|(apply Yh;clear Yh Y)));all_goals first|apply Hold.mk|omega|assumption|skip))
  (refine awp_ret ?_; simp [go_sem, h2])
 ·refine awp_skip ?_
  refine hK1 _ ?_; clear hK1
  (refine awp_sr fun Y Yh => ?_; simp [go_sem]; ((repeat' (first|(refine ag_x ?_;simp [go_sem])|intro _|apply And.intro|(apply Yh;clear Yh Y)));all_goals first|apply Hold.mk|omega|assumption|skip))
  (refine awp_ret ?_; simp [go_sem, h2])
end Go.Proofs.YteekfnhhlcmcgaaGreatDoor
namespace Go.Ver
open Go.Lib Go.Wh
end Go.Ver
namespace Go.Ver
/-! what the code of stable sorting does with lists -/
variable {α : Type} {lt : α → α → Bool}
/-! blocks that are sorted each -/
variable {α : Type} {lt : α → α → Bool}
end Go.Ver
namespace Go.Ver
open Go.Lib Go.Wh
/-! lists of versions -/
/-! made versions in lists -/
end Go.Ver
namespace Go.Lk
open Go.Lib Go.Wh Go.Ver
/-! locks: names, needs, sums -/
abbrev Bs := List UInt8
abbrev Prs := Bs × Bs
def nmC (c : UInt8) : Bool := isL c || isD c || decide (c.toNat = 95) || decide (c.toNat = 45)
def nameV (s : Bs) : Bool := match s with
 | [] => false
 | c :: r => isL c && r.all nmC && decide (r.length < 20)
def nmAt (i : Nat) (c : UInt8) : Bool := isL c || (decide (i ≠ 0) && nmC c)
def nmTo (s : Bs) : Nat → Bool
 | 0 => true
 | n + 1 => nmTo s n && (match s[n]? with | some c => nmAt n c | none => true)
theorem nmTo_step {s : Bs} {n : Nat} {c : UInt8} (h : s[n]? = some c) : nmTo s (n + 1) = (nmTo s n && nmAt n c) := by
 simp only [nmTo, h]
theorem nmTo_all : ∀ (s : Bs) (c : UInt8) (n : Nat), nmTo (c :: s) (n + 1) = (isL c && (s.take n).all nmC)
 | s, c, 0 => by simp [nmTo, nmAt]
 | s, c, n + 1 => by
  rw [nmTo, nmTo_all s c n]
  simp only [List.getElem?_cons_succ]
  rw [List.take_add_one, List.all_append, Bool.and_assoc]
  congr 2
  cases h : s[n]? with
  | none => simp
  | some d => simp [nmAt, nmC]; cases isL d <;> simp
theorem nameV_nm (s : Bs) : nameV s = (nmTo s s.length && (decide (s ≠ []) && decide (s.length ≤ 20))) := by
 cases s with
 | nil => simp [nameV, nmTo]
 | cons c r =>
  rw [List.length_cons, nmTo_all, List.take_length]
  simp [nameV]
  congr 1
  cases h : decide (r.length < 20) <;> simp at h <;> simp <;> omega
theorem nmTo_bad {s : Bs} {n : Nat} (h : nmTo s n = false) : ∀ m, n ≤ m → nmTo s m = false
 | 0, hm => by
  have : n = 0 := by omega
  subst this; exact h
 | m + 1, hm => by
  by_cases e : n = m + 1
  ·subst e; exact h
  ·rw [nmTo, nmTo_bad h m (by omega)]; rfl
/-! needs in a list: each named and asked rightly, ascending -/
def needAt (l : List Prs) (i : Nat) : Bool := match l[i]? with
 | some x => nameV x.1 && (condsV x.2).isSome && (decide (i = 0) || (match l[i - 1]? with | some y => Op.bytesLess y.1 x.1 | none => true))
 | none => true
def needTo (l : List Prs) : Nat → Bool
 | 0 => true
 | n + 1 => needTo l n && needAt l n
theorem needTo_bad {l : List Prs} {n : Nat} (h : needTo l n = false) : ∀ m, n ≤ m → needTo l m = false
 | 0, hm => by
  have : n = 0 := by omega
  subst this; exact h
 | m + 1, hm => by
  by_cases e : n = m + 1
  ·subst e; exact h
  ·rw [needTo, needTo_bad h m (by omega)]; rfl
def needsV (most : Nat) (l : List Prs) : Bool := needTo l l.length && decide (l.length ≤ most)
abbrev Lck := List Prs × List (List Prs) × List Prs
def pickAt (L : Lck) (i : Nat) : Bool := match L.1[i]? with
 | some x => nameV x.1 && (readV x.2).isSome && (decide (i = 0) || (match L.1[i - 1]? with | some y => Op.bytesLess y.1 x.1 | none => true)) && needsV 6 (L.2.1.getD i [])
 | none => true
def pickTo (L : Lck) : Nat → Bool
 | 0 => true
 | n + 1 => pickTo L n && pickAt L n
theorem pickTo_bad {L : Lck} {n : Nat} (h : pickTo L n = false) : ∀ m, n ≤ m → pickTo L m = false
 | 0, hm => by
  have : n = 0 := by omega
  subst this; exact h
 | m + 1, hm => by
  by_cases e : n = m + 1
  ·subst e; exact h
  ·rw [pickTo, pickTo_bad h m (by omega)]; rfl
def lockV (L : Lck) : Bool := decide (L.1.length ≤ 60) && decide (L.2.1.length = L.1.length) && needsV 8 L.2.2 && pickTo L L.1.length
/-! the sum -/
def sumV (s : Bs) : Nat → Nat
 | 0 => 0
 | n + 1 => (sumV s n + (s.getD n 0).toNat * ((n + 1) % 1000003)) % 1000003
theorem sumV_lt (s : Bs) : ∀ n, sumV s n < 1000003
 | 0 => by simp [sumV]
 | n + 1 => by unfold sumV; exact Nat.mod_lt _ (by omega)
/-! a line: a name, and what stands in brackets behind it -/
def nmdV (s : Bs) : Option (Bs × Bs × Bool) :=
 let c := cut s [32, 40]
 if c.1 = [] ∨ c.1.all nmC = false then none
 else if c.2.2 = false then some (c.1, [], false)
 else
  let d := cut c.2.1 [41]
  if d.2.2 = true ∧ d.2.1 = [] ∧ d.1 ≠ [] then some (c.1, d.1, true) else none
structure PS where
 part : Nat
 picks : List Prs
 needs : List (List Prs)
 wish : List Prs
 sum : Bs
def pre4 : Bs := [32, 32, 32, 32]
def pre2 : Bs := [32, 32]
def preSum : Bs := [83, 85, 77, 32]
def entryV (p : PS) (s : Bs) : Option PS :=
 if pre4.isPrefixOf s = true then
  match nmdV (s.drop 4) with
  | some (n, i, _) => if p.part = 3 ∨ p.picks = [] then none
   else some { p with needs := p.needs.set (p.picks.length - 1) (p.needs.getD (p.picks.length - 1) [] ++ [(n, i)]) }
  | none => none
 else if pre2.isPrefixOf s = true then
  match nmdV (s.drop 2) with
  | some (n, i, b) => if p.part = 1 ∧ b = false then none
   else if p.part = 3 then some { p with wish := p.wish ++ [(n, i)] }
   else some { p with picks := p.picks ++ [(n, i)], needs := p.needs ++ [[]] }
  | none => none
 else none
def digV (d : Bs) : Bool := decide (d ≠ []) && d.all isD && (decide (d = [48]) || decide (d.head? ≠ some 48))
def gemsT : Bs := [71, 69, 77, 83]
def wishT : Bs := [87, 73, 83, 72]
def lineV (p : PS) (s : Bs) : Option PS :=
 match p.part with
 | 0 => if s = gemsT then some { p with part := 1 } else none
 | 1 => if s = [] then some { p with part := 2 } else entryV p s
 | 2 => if s = wishT then some { p with part := 3 } else none
 | 3 => if s = [] then some { p with part := 4 } else entryV p s
 | 4 => if preSum.isPrefixOf s = true ∧ digV (s.drop 4) = true then some { p with part := 5, sum := s.drop 4 } else none
 | _ => none
def ps0 : PS := ⟨0, [], [], [], []⟩
def linesV (ls : List Bs) : Nat → Option PS
 | 0 => some ps0
 | n + 1 => match linesV ls n, ls[n]? with
  | some p, some s => lineV p s
  | _, _ => none
theorem cut_cases (s sep : Bs) : (∃ a r, cut s sep = (a, r, true) ∧ s = a ++ (sep ++ r)) ∨ (cut s sep = (s, [], false) ∧ ∀ j, j ≤ s.length → occAt s sep j = false) := by
 rcases index_spec s sep with ⟨h1, h2⟩ | ⟨i, h1, h2, h3, _⟩
 ·right
  refine ⟨?_, h2⟩
  unfold cut; rw [h1]; simp
 ·left
  refine ⟨s.take i, s.drop (i + sep.length), ?_, ?_⟩
  ·unfold cut; rw [h1, if_pos (by omega)]; simp
  ·unfold occAt at h3
   obtain ⟨t, ht⟩ := List.isPrefixOf_iff_prefix.1 h3
   have e : s.drop (i + sep.length) = t := by rw [← List.drop_drop, ← ht]; simp
   rw [e, ht, List.take_append_drop]
theorem cut_at {a r t : Bs} {c : UInt8} (h : c ∉ a) : cut (a ++ (c :: t ++ r)) (c :: t) = (a, r, true) := by
 have hi : index (a ++ (c :: t ++ r)) (c :: t) = (a.length : Int) := by
  refine index_first (by simp) ?_ (fun j hj => ?_)
  ·unfold occAt; rw [List.drop_left]; exact List.isPrefixOf_iff_prefix.2 ⟨r, by simp⟩
  ·rw [Bool.eq_false_iff]; intro q
   have := occAt_head rfl q
   rw [List.getElem?_append_left hj] at this
   exact h (List.mem_of_getElem? this)
 unfold cut; rw [hi, if_pos (by omega)]
 simp
theorem cut_no {s t : Bs} {c : UInt8} (h : c ∉ s) : cut s (c :: t) = (s, [], false) := by
 rcases cut_cases s (c :: t) with ⟨a, r, _, h2⟩ | ⟨h1, _⟩
 ·exact absurd (by rw [h2]; simp) h
 ·exact h1
theorem nm_no {s : Bs} {c : UInt8} (h : s.all nmC = true) (hc : nmC c = false) : c ∉ s := fun q => by
 have := List.all_eq_true.1 h c q
 rw [hc] at this; cases this
theorem nmd_eq {s a r : Bs} {t : Bool} (h : cut s [32, 40] = (a, r, t)) : nmdV s = if a = [] ∨ a.all nmC = false then none else if t = false then some (a, [], false)
 else if (cut r [41]).2.2 = true ∧ (cut r [41]).2.1 = [] ∧ (cut r [41]).1 ≠ [] then some (a, (cut r [41]).1, true) else none := by unfold nmdV; rw [h]
end Go.Lk
namespace Go.Proofs.YteekfnhhlcmcgaaGreatDoor
open Go.Eng Go.Wh Go.Ver Go.Lk
set_option maxRecDepth 20000
attribute [local irreducible] AG CallA CallT AWp PCall ACall AgC
@[go_sem] abbrev cB (b : UInt8) : List D := [.v (.int .u8 b.toNat)]
@[go_sem] abbrev cP (x : Prs) : List D := [dS x.1, dS x.2]
@[go_sem] abbrev dP (x : Prs) : D := .agg [dS x.1, dS x.2]
@[go_sem] abbrev dPs (l : List Prs) : D := .sl 2 (l.map cP)
@[go_sem] abbrev dNs (l : List (List Prs)) : D := .sl 1 (l.map fun n => [dPs n])
@[go_sem] abbrev dLk (L : Lck) : D := .agg [dPs L.1, dNs L.2.1, dPs L.2.2]
theorem ba_drop (s : List UInt8) (n : Nat) : ({ data := s.toArray } : ByteArray).extract n s.length = { data := (s.drop n).toArray } := by
 apply ByteArray.ext
 simp
 rw [List.take_of_length_le (by simp)]
theorem hasPre1 (s p : List UInt8) (hs : s.length ≤ 9223372036854775807) (hp : p.length ≤ 9223372036854775807) : PCall Tryz.prog 240 [dS s, dS p] fun r => r = dB (p.isPrefixOf s) := by 
 refine pcall_of Tryz.func240 rfl rfl Tryz.ntmps240 (rs := [.tmp 4]) (tys := [4]) rfl rfl (by simp) ?_
 have h1 : p.length ≤ s.length → (s.take p.length = p ↔ p.isPrefixOf s = true) := fun h => by
  rw [List.isPrefixOf_iff_prefix, List.prefix_iff_eq_take]; exact eq_comm
 have h2 : ¬ p.length ≤ s.length → p.isPrefixOf s = false := fun h => by
  rw [Bool.eq_false_iff]; intro q
  exact h (List.isPrefixOf_iff_prefix.1 q).length_le
 generalize p.isPrefixOf s = b at *
 (refine awp_sr fun Y Yh => ?_; simp [go_sem]; ((repeat' (first|(refine ag_x ?_;simp [go_sem])|intro _|apply And.intro|(apply Yh;clear Yh Y)));all_goals first|apply Hold.mk|omega|assumption|skip))
 by_cases h : p.length ≤ s.length
 ·have h' : (p.length : Int) ≤ s.length := by omega
  have h1 := h1 h
  (refine awp_sr fun Y Yh => ?_; simp [go_sem, h']; ((repeat' (first|(refine ag_x ?_;simp [go_sem, h'])|intro _|apply And.intro|(apply Yh;clear Yh Y)));all_goals first|apply Hold.mk|omega|assumption|skip))
  (refine awp_ret ?_; simp [go_sem])
  rw [Bool.eq_iff_iff, ← h1]
  simp
 ·have h' : ¬ (p.length : Int) ≤ s.length := by omega
  (refine awp_sr fun Y Yh => ?_; simp [go_sem, h']; ((repeat' (first|(refine ag_false (by simp [go_sem, undef, h']) (by simp [go_sem]) ?_;simp [go_sem, h'])|intro _|apply And.intro|(apply Yh;clear Yh Y)));all_goals first|apply Hold.mk|omega|assumption|skip))
  (refine awp_ret ?_; simp [go_sem, h2 h])
theorem cutPre1 (s p : List UInt8) (hs : s.length ≤ 9223372036854775807) (hp : p.length ≤ 9223372036854775807) : PCall Tryz.prog 197 [dS s, dS p] fun r => r = .tup [dS (if p.isPrefixOf s = true then s.drop p.length else s), dB (p.isPrefixOf s)] := by 
 refine pcall_of Tryz.func197 rfl rfl Tryz.ntmps197 (rs := [.tmp 4, .tmp 5]) (tys := [9, 4]) rfl rfl (by simp) ?_
 have H := hasPre1 s p hs hp
 have hle : p.isPrefixOf s = true → p.length ≤ s.length := fun q => (List.isPrefixOf_iff_prefix.1 q).length_le
 generalize p.isPrefixOf s = b at *
 (refine awp_sr fun Y Yh => ?_; simp [go_sem]; ((repeat' (first|(refine ag_x ?_;simp [go_sem])|intro _|apply And.intro|(apply Yh;clear Yh Y)));all_goals first|apply Hold.mk|omega|assumption|skip))
 refine awp_seq_k fun K1 hK1 => ?_
 (refine awp_sr fun Y Yh => ?_; simp [go_sem]; ((repeat' (first|(refine ag_x ?_;simp [go_sem])|intro _|apply And.intro|(apply Yh;clear Yh Y)));all_goals first|apply Hold.mk|omega|assumption|skip))
 ((try refine CallT.toA ?_); refine callT_m (.inl ⟨rfl,rfl⟩) (by simp [go_sem]) ?_; intro args ha; simp [go_sem] at ha; subst ha; refine ⟨_, H, ?_⟩; rintro _ rfl; simp [go_sem]; ((repeat' (first|(refine ag_x ?_;simp [go_sem])|intro _|apply And.intro|(apply Yh;clear Yh Y)));all_goals first|apply Hold.mk|omega|assumption|skip))
 (refine awp_if fun T F hT hF => ?_; simp [go_sem]; refine BR.intro (fun h2 => hT ?_) (fun h2 => hF ?_); all_goals clear hT hF T F; try simp at h2)
 ·(refine awp_sr fun Y Yh => ?_; simp [go_sem]; ((repeat' (first|(refine ag_x ?_;simp [go_sem])|intro _|apply And.intro|(apply Yh;clear Yh Y)));all_goals first|apply Hold.mk|omega|assumption|skip))
  (refine awp_ret ?_; simp [go_sem, h2])
 ·have := hle h2
  refine awp_skip ?_
  refine hK1 _ ?_; clear hK1
  (refine awp_sr fun Y Yh => ?_; simp [go_sem]; ((repeat' (first|(refine ag_x ?_;simp [go_sem])|intro _|apply And.intro|(apply Yh;clear Yh Y)));all_goals first|apply Hold.mk|omega|assumption|skip))
  (refine awp_ret ?_; simp [go_sem, h2, ba_drop])
theorem cutPre_spec (s p : List UInt8) (hs : s.length ≤ 9223372036854775807) (hp : p.length ≤ 9223372036854775807) : PCall Tryz.prog 158 [dS s, dS p] fun r => r = .tup [dS (if p.isPrefixOf s = true then s.drop p.length else s), dB (p.isPrefixOf s)] := by
 refine pcall_of Tryz.func158 rfl rfl Tryz.ntmps158 (rs := [.tmp 4, .tmp 5]) (tys := [9, 4]) rfl rfl (by simp) ?_
 (refine awp_sr fun Y Yh => ?_; simp [go_sem]; ((repeat' (first|(refine ag_x ?_;simp [go_sem])|intro _|apply And.intro|(apply Yh;clear Yh Y)));all_goals first|apply Hold.mk|omega|assumption|skip))
 (refine awp_sr fun Y Yh => ?_; simp [go_sem]; ((repeat' (first|(refine ag_x ?_;simp [go_sem])|intro _|apply And.intro|(apply Yh;clear Yh Y)));all_goals first|apply Hold.mk|omega|assumption|skip))
 ((try refine CallT.toA ?_); refine callT_m (.inl ⟨rfl,rfl⟩) (by simp [go_sem]) ?_; intro args ha; simp [go_sem] at ha; subst ha; refine ⟨_, (cutPre1 s p hs hp), ?_⟩; rintro _ rfl; simp [go_sem]; ((repeat' (first|(refine ag_x ?_;simp [go_sem])|intro _|apply And.intro|(apply Yh;clear Yh Y)));all_goals first|apply Hold.mk|omega|assumption|skip))
 (refine awp_ret ?_; simp [go_sem])
theorem isName_spec (s : List UInt8) (hl : s.length ≤ 1000000000) : PCall Tryz.prog 123 [dS s] fun r => r = dB (nameV s) := by 
 refine pcall_of Tryz.func123 rfl rfl Tryz.ntmps123 (rs := [.tmp 2]) (tys := [4]) rfl rfl (by simp) ?_
 have hst := fun n c => @nmTo_step s n c
 have hbad := fun n (h : nmTo s n = false) (hn : n ≤ s.length) => nmTo_bad h s.length hn
 have hz : nmTo s 0 = true := rfl
 rw [nameV_nm]
 (refine awp_sr fun Y Yh => ?_; simp [go_sem]; ((repeat' (first|(refine ag_x ?_;simp [go_sem])|intro _|apply And.intro|(apply Yh;clear Yh Y)));all_goals first|apply Hold.mk|omega|assumption|skip))
 refine awp_seq_k fun K1 hK1 => ?_
 (refine awp_sr fun Y Yh => ?_; simp [go_sem]; ((repeat' (first|(refine ag_x ?_;simp [go_sem])|intro _|apply And.intro|(apply Yh;clear Yh Y)));all_goals first|apply Hold.mk|omega|assumption|skip))
 refine awp_block ?_
 refine awp_loop (σ := Nat) (fun i => ⟨[(0, dS s), (7, .sl 1 (s.map cB)), (8, dI s.length), (9, dI i)], []⟩) (fun i => i ≤ s.length ∧ nmTo s i = true) (fun i => s.length - i) 0 ?_ ?_ ?_
 ·(refine cov_of ?_ ?_ <;> simp [go_sem])
 ·exact ⟨by omega, hz⟩
 rintro i ⟨hi, hn⟩
 (refine awp_sr fun Y Yh => ?_; simp [go_sem]; ((repeat' (first|(refine ag_x ?_;simp [go_sem])|intro _|apply And.intro|(apply Yh;clear Yh Y)));all_goals first|apply Hold.mk|omega|assumption|skip))
 refine awp_seq_k fun K2 hK2 => ?_
 (refine awp_if fun T F hT hF => ?_; simp [go_sem]; refine BR.intro (fun h3 => hT ?_) (fun h3 => hF ?_); all_goals clear hT hF T F; try simp at h3)
 ·refine awp_skip ?_
  refine hK2 _ ?_; clear hK2
  obtain ⟨c, hx⟩ : ∃ c, s[i]? = some c := ⟨_, List.getElem?_eq_getElem (by omega)⟩
  have hst1 := hst i c hx
  rw [hn] at hst1
  refine awp_seq_k fun K4 hK4 => ?_
  refine awp_block ?_
  (refine awp_sr fun Y Yh => ?_; simp [go_sem, hx]; ((repeat' (first|(refine ag_x ?_;simp [go_sem, hx])|intro _|apply And.intro|(apply Yh;clear Yh Y)));all_goals first|apply Hold.mk|omega|assumption|skip))
  (refine awp_sr fun Y Yh => ?_; simp [go_sem]; ((repeat' (first|(refine ag_x ?_;simp [go_sem])|intro _|apply And.intro|(apply Yh;clear Yh Y)));all_goals first|apply Hold.mk|omega|assumption|skip))
  (refine awp_sr fun Y Yh => ?_; simp [go_sem]; ((repeat' (first|(refine ag_x ?_;simp [go_sem])|intro _|apply And.intro|(apply Yh;clear Yh Y)));all_goals first|apply Hold.mk|omega|assumption|skip))
  (refine awp_if fun T F hT hF => ?_; simp [go_sem]; refine BR.intro (fun h5 => hT ?_) (fun h5 => hF ?_); all_goals clear hT hF T F; try simp at h5)
  ·have hna : nmAt i c = false := by
    simp [nmAt, nmC, isL, isD]
    omega
   rw [hna] at hst1
   (refine awp_sr fun Y Yh => ?_; simp [go_sem]; ((repeat' (first|(refine ag_x ?_;simp [go_sem])|intro _|apply And.intro|(apply Yh;clear Yh Y)));all_goals first|apply Hold.mk|omega|assumption|skip))
   (refine awp_ret ?_; simp [go_sem, hbad (i + 1) hst1 (by omega)])
  ·have hna : nmAt i c = true := by
    simp [nmAt, nmC, isL, isD]
    omega
   rw [hna] at hst1
   refine awp_skip ?_
   refine hK4 _ ?_; clear hK4
   (refine awp_r fun Y Yh => ?_; simp [go_sem]; ((repeat' (first|(refine ag_x ?_;simp [go_sem])|intro _|apply And.intro|(apply Yh;clear Yh Y)));all_goals first|apply Hold.mk|omega|assumption|skip))
   refine ⟨i + 1, ?_, ⟨by omega, hst1⟩, by omega⟩
   (refine cov_of ?_ ?_ <;> simp [go_sem])
 ·refine awp_exit ?_
  simp only [go_sem]
  refine hK1 _ ?_; clear hK1
  have : i = s.length := by omega
  subst this
  rw [hn]
  by_cases h : s = []
  ·(refine awp_sr fun Y Yh => ?_; simp [go_sem, h]; ((repeat' (first|(refine ag_false (by simp [go_sem, undef, h]) (by simp [go_sem]) ?_;simp [go_sem, h])|intro _|apply And.intro|(apply Yh;clear Yh Y)));all_goals first|apply Hold.mk|omega|assumption|skip))
   (refine awp_ret ?_; simp [go_sem, h])
  ·(refine awp_sr fun Y Yh => ?_; simp [go_sem, h]; ((repeat' (first|(refine ag_x ?_;simp [go_sem, h])|intro _|apply And.intro|(apply Yh;clear Yh Y)));all_goals first|apply Hold.mk|omega|assumption|skip))
   (refine awp_ret ?_; simp [go_sem])
   rw [Bool.eq_iff_iff]
   simp [h]
   omega
theorem sum_spec (s : List UInt8) (hl : s.length ≤ 1000000000) : PCall Tryz.prog 116 [dS s] fun r => r = dI (sumV s s.length) := by 
 refine pcall_of Tryz.func116 rfl rfl Tryz.ntmps116 (rs := [.tmp 2]) (tys := [3]) rfl rfl (by simp) ?_
 have hlt := sumV_lt s
 have hst : ∀ (n : Nat) (c : UInt8), s[n]? = some c → ((sumV s (n + 1) : Nat) : Int) = ((sumV s n : Int) + (c.toNat : Int) * (((n : Int) + 1).tmod 1000003)).tmod 1000003 := fun n c h => by
  show (((sumV s n + (s.getD n 0).toNat * ((n + 1) % 1000003)) % 1000003 : Nat) : Int) = _
  have e : s.getD n 0 = c := by simp [List.getD, h]
  have h1 : ((n : Int) + 1).tmod 1000003 = ((n : Int) + 1) % 1000003 := Int.tmod_eq_emod_of_nonneg (by omega)
  rw [e, h1, Int.tmod_eq_emod_of_nonneg (by
   have : 0 ≤ ((n : Int) + 1) % 1000003 := Int.emod_nonneg _ (by omega)
   have := Int.mul_nonneg (Int.natCast_nonneg c.toNat) this
   omega)]
  have e2 : ((c.toNat * ((n + 1) % 1000003) : Nat) : Int) = (c.toNat : Int) * (((n : Int) + 1) % 1000003) := by
   rw [Int.natCast_mul]
   have : (((n + 1) % 1000003 : Nat) : Int) = ((n : Int) + 1) % 1000003 := by omega
   rw [this]
  rw [← e2]
  omega
 have z : sumV s 0 = 0 := rfl
 generalize sumV s = sm at *
 (refine awp_sr fun Y Yh => ?_; simp [go_sem]; ((repeat' (first|(refine ag_x ?_;simp [go_sem])|intro _|apply And.intro|(apply Yh;clear Yh Y)));all_goals first|apply Hold.mk|omega|assumption|skip))
 (refine awp_sr fun Y Yh => ?_; simp [go_sem]; ((repeat' (first|(refine ag_x ?_;simp [go_sem])|intro _|apply And.intro|(apply Yh;clear Yh Y)));all_goals first|apply Hold.mk|omega|assumption|skip))
 refine awp_seq_k fun K1 hK1 => ?_
 (refine awp_sr fun Y Yh => ?_; simp [go_sem]; ((repeat' (first|(refine ag_x ?_;simp [go_sem])|intro _|apply And.intro|(apply Yh;clear Yh Y)));all_goals first|apply Hold.mk|omega|assumption|skip))
 refine awp_block ?_
 refine awp_loop (σ := Nat) (fun i => ⟨[(3, dI (sm i)), (7, .sl 1 (s.map cB)), (8, dI s.length), (9, dI i)], []⟩) (fun i => i ≤ s.length) (fun i => s.length - i) 0 ?_ ?_ ?_
 ·(refine cov_of ?_ ?_ <;> simp [go_sem, z])
 ·omega
 intro i hi
 (refine awp_sr fun Y Yh => ?_; simp [go_sem]; ((repeat' (first|(refine ag_x ?_;simp [go_sem])|intro _|apply And.intro|(apply Yh;clear Yh Y)));all_goals first|apply Hold.mk|omega|assumption|skip))
 refine awp_seq_k fun K2 hK2 => ?_
 (refine awp_if fun T F hT hF => ?_; simp [go_sem]; refine BR.intro (fun h3 => hT ?_) (fun h3 => hF ?_); all_goals clear hT hF T F; try simp at h3)
 ·refine awp_skip ?_
  refine hK2 _ ?_; clear hK2
  obtain ⟨c, hx⟩ : ∃ c, s[i]? = some c := ⟨_, List.getElem?_eq_getElem (by omega)⟩
  have hst1 := hst i c hx
  have hlt1 := hlt i
  have hc : c.toNat < 256 := c.toNat_lt
  have hm1 : 0 ≤ ((i : Int) + 1).tmod 1000003 ∧ ((i : Int) + 1).tmod 1000003 < 1000003 := by
   rw [Int.tmod_eq_emod_of_nonneg (by omega)]
   exact ⟨Int.emod_nonneg _ (by omega), Int.emod_lt_of_pos _ (by omega)⟩
  have hm2 : (c.toNat : Int) * (((i : Int) + 1).tmod 1000003) ≤ 255 * 1000003 := Int.mul_le_mul (by omega) (by omega) (by omega) (by omega)
  have hm3 : 0 ≤ (c.toNat : Int) * (((i : Int) + 1).tmod 1000003) := Int.mul_nonneg (by omega) (by omega)
  generalize sm i = n at *
  refine awp_seq_k fun K4 hK4 => ?_
  refine awp_block ?_
  (refine awp_sr fun Y Yh => ?_; simp [go_sem, hx]; ((repeat' (first|(refine ag_x ?_;simp [go_sem, hx])|intro _|apply And.intro|(apply Yh;clear Yh Y)));all_goals first|apply Hold.mk|omega|assumption|skip))
  (refine awp_r fun Y Yh => ?_; simp [go_sem]; ((repeat' (first|(refine ag_x ?_;simp [go_sem])|intro _|apply And.intro|(apply Yh;clear Yh Y)));all_goals first|apply Hold.mk|omega|assumption|skip))
  refine hK4 _ ?_; clear hK4
  (refine awp_r fun Y Yh => ?_; simp [go_sem]; ((repeat' (first|(refine ag_x ?_;simp [go_sem])|intro _|apply And.intro|(apply Yh;clear Yh Y)));all_goals first|apply Hold.mk|omega|assumption|skip))
  refine ⟨i + 1, ?_, by omega, by omega⟩
  rw [hst1]
  (refine cov_of ?_ ?_ <;> simp [go_sem])
 ·refine awp_exit ?_
  simp only [go_sem]
  refine hK1 _ ?_; clear hK1
  have : i = s.length := by omega
  subst this
  (refine awp_sr fun Y Yh => ?_; simp [go_sem]; ((repeat' (first|(refine ag_x ?_;simp [go_sem])|intro _|apply And.intro|(apply Yh;clear Yh Y)));all_goals first|apply Hold.mk|omega|assumption|skip))
  (refine awp_ret ?_; simp [go_sem])
end Go.Proofs.YteekfnhhlcmcgaaGreatDoor
namespace Go.Proofs.YteekfnhhlcmcgaaGreatDoor
open Go.Eng Go.Wh Go.Ver Go.RowKit Go.Lk
set_option maxRecDepth 20000
attribute [local irreducible] AG CallA CallT AWp PCall ACall AgC
def Tryz.laysGw17_ren : Go.Shelf.Ren := ⟨fun | 15 => 198 | 17 => 159 | 20 => 241 | n => n, fun | 23 => 237 | n => n, fun | n => n⟩
theorem Tryz.laysGw17 : Go.Proofs.LaysGw.n17 Tryz.prog Tryz.laysGw17_ren := {
 mixed := by kernel_rfl
 f15 := Tryz.func198.trans (congrArg some (by kernel_rfl))
 f17 := Tryz.func159.trans (congrArg some (by kernel_rfl))
 f20 := Tryz.func241.trans (congrArg some (by kernel_rfl))
 t0 := Tryz.underlying0
 a0 := Tryz.isAgg0
 z0 := Tryz.sizeOf0
 v0 := Tryz.zeroValue0
 i0 := by kernel_rfl
 t3 := Tryz.underlying3
 a3 := Tryz.isAgg3
 z3 := Tryz.sizeOf3
 v3 := Tryz.zeroValue3
 i3 := by kernel_rfl
 t4 := Tryz.underlying4
 a4 := Tryz.isAgg4
 z4 := Tryz.sizeOf4
 v4 := Tryz.zeroValue4
 i4 := by kernel_rfl
 t9 := Tryz.underlying9
 a9 := Tryz.isAgg9
 z9 := Tryz.sizeOf9
 v9 := Tryz.zeroValue9
 i9 := by kernel_rfl
 t21 := Tryz.underlying21
 a21 := Tryz.isAgg21
 z21 := Tryz.sizeOf21
 v21 := Tryz.zeroValue21
 i21 := by kernel_rfl
 t23 := Tryz.underlying237
 a23 := Tryz.isAgg237
 z23 := Tryz.sizeOf237
 v23 := Tryz.zeroValue237
 i23 := by kernel_rfl }
theorem idxF_neg (p : Nat → Bool) (hp : ∀ r, 128 ≤ r → p r = true) (s : ByteArray) : ∀ (f pos : Nat), s.size ≤ pos + f → (decide (0 ≤ Lib.idxFuncFrom p true s f pos) = (s.data.toList.drop pos).any fun c => p c.toNat)
 | 0, pos, h => by
  have hl : s.data.toList.length = s.size := Array.length_toList
  rw [List.drop_eq_nil_of_le (by omega)]
  simp [Lib.idxFuncFrom]
 | f + 1, pos, h => by
  have hl : s.data.toList.length = s.size := Array.length_toList
  unfold Lib.idxFuncFrom
  by_cases hs : pos < s.size
  ·rw [if_pos hs]
   have hs' : pos < s.data.toList.length := by omega
   rw [List.drop_eq_getElem_cons hs', List.any_cons]
   have e : s.data.toList[pos] = s[pos]'hs := by first | rfl | (rw [Array.getElem_toList]; rfl)
   rw [e]
   by_cases h1 : (s[pos]'hs).toNat < 128
   ·rw [decode_ascii s pos hs h1]
    cases hq : p (s[pos]'hs).toNat with
    | true => simp
    | false =>
     simp only [Bool.false_eq_true, if_false, Bool.false_or]
     exact idxF_neg p hp s f (pos + 1) (by omega)
   ·have h2 := (decode_high s pos hs (by omega)).1
    rw [hp _ h2, hp _ (show 128 ≤ (s[pos]'hs).toNat by omega), if_pos rfl, Bool.true_or, decide_eq_true_eq]
    omega
  ·rw [if_neg hs, List.drop_eq_nil_of_le (by omega)]
   simp
theorem containsF_spec (s : List UInt8) (g : Nat) (eg : ∀ args w, (callFunc g args).run Tryz.prog w = .ok (.enter g args) w) (p : Nat → Bool) (hp : ∀ r, 128 ≤ r → p r = true) (hg : ∀ w, PredAt Tryz.prog g #[] encR p w) : PCall Tryz.prog 159 [dS s, .v (.func (.func g) #[] #[])] fun r => r = dB (s.any fun c => p c.toNat) := by
 refine pcall_below ⟨_, Tryz.func159, rfl, rfl⟩ fun C w us hc' hg' hr => ?_
 obtain rfl := repL_v (us := [.string ⟨s.toArray⟩, .func (.func g) #[] #[]]) hr
 refine (Any.strings_ContainsFunc Tryz.laysGw17 g #[] eg p ⟨s.toArray⟩ w (hg w)).mono ?_
 rintro e w' ⟨rfl, hb⟩
 have h := idxF_neg p hp ⟨s.toArray⟩ (ByteArray.size ⟨s.toArray⟩) 0 (by omega)
 refine ⟨_, _, rfl, ?_, .v _, hb⟩
 unfold Lib.idxFunc
 rw [h, List.drop_zero]
theorem digit_at (w : World) : PredAt Tryz.prog 160 #[] encR (fun r => decide (r < 48) || decide (57 < r)) w := fun W r _ => by
 unfold FnGives
 by_cases h1 : r < 48 <;> by_cases h2 : 57 < r
 all_goals
  have z1 : (r : Int) < 48 ↔ r < 48 := by omega
  have z2 : (57 : Int) < (r : Int) ↔ 57 < r := by omega
  go_enter Tryz.func160, Tryz.ntmps160
  go_wp2
  all_goals first | (exfalso; omega) | (go_ret; exact ⟨by simp [h1, h2], 0, rfl⟩)
def ltR (r : Nat) : Bool := (decide (97 ≤ r) && decide (r ≤ 122)) || (decide (48 ≤ r) && decide (r ≤ 57)) || decide (r = 95) || decide (r = 45)
theorem letter_gives (W : World) (r : Nat) : FnGives Tryz.prog 239 #[] #[encR r] (.bool (ltR r)) W := by
 unfold FnGives
 have z1 : (97 : Int) ≤ (r : Int) ↔ 97 ≤ r := by omega
 have z2 : (r : Int) ≤ 122 ↔ r ≤ 122 := by omega
 have z3 : (48 : Int) ≤ (r : Int) ↔ 48 ≤ r := by omega
 have z4 : (r : Int) ≤ 57 ↔ r ≤ 57 := by omega
 have z5 : (r : Int) = 95 ↔ r = 95 := by omega
 have z6 : (r : Int) = 45 ↔ r = 45 := by omega
 rcases (by omega : r < 45 ∨ r = 45 ∨ (45 < r ∧ r < 48) ∨ (48 ≤ r ∧ r ≤ 57) ∨ (57 < r ∧ r < 95) ∨ r = 95 ∨ r = 96 ∨ (97 ≤ r ∧ r ≤ 122) ∨ 122 < r) with h | h | h | h | h | h | h | h | h
 all_goals
  go_enter Tryz.func239, Tryz.ntmps239
  go_wp2
  all_goals first | (exfalso; omega) | (go_ret; exact ⟨congrArg (fun b => Ending.returned (Value.bool b)) (show (_ : Bool) = ltR r by (try subst h); unfold ltR; rw [Bool.eq_iff_iff]; simp only [Bool.or_eq_true, Bool.and_eq_true, decide_eq_true_eq, beq_iff_eq, z5, z6, reduceCtorEq, true_iff, false_iff, iff_true, iff_false, Int.reduceEq, or_true, true_or]; (try omega)), 0, rfl⟩)
theorem notLetter_at (w : World) : PredAt Tryz.prog 238 #[] encR (fun r => !ltR r) w := fun W r _ => by
 have hC := letter_gives W r
 unfold FnGives at hC
 unfold FnGives
 go_enter Tryz.func238, Tryz.ntmps238
 go_wp2_with (go_at_call 239; refine hC.mono ?_; rintro e w' ⟨rfl, q, rfl⟩)
 go_ret
 exact ⟨rfl, q, rfl⟩
theorem ltR_nm (c : UInt8) : ltR c.toNat = nmC c := by
 unfold ltR nmC isL isD
 rfl
theorem notName_spec (s : List UInt8) : PCall Tryz.prog 159 [dS s, .v (.func (.func 238) #[] #[])] fun r => r = dB (!s.all nmC) := by
 have h := containsF_spec s 238 (enters_of Tryz.func238 (by kernel_rfl) rfl) (fun r => !ltR r) (fun r hr => by
  have e : ltR r = false := by
   rw [← Bool.not_eq_true]; simp only [ltR, Bool.or_eq_true, Bool.and_eq_true, decide_eq_true_eq]; omega
  simp only [e]; rfl) notLetter_at
 simp only [ltR_nm] at h
 rw [show (!s.all nmC) = s.any fun c => !nmC c by rw [List.not_all_eq_any_not]]
 exact h
theorem notDigit_spec (s : List UInt8) : PCall Tryz.prog 159 [dS s, .v (.func (.func 160) #[] #[])] fun r => r = dB (!s.all isD) := by
 have h := containsF_spec s 160 (enters_of Tryz.func160 (by kernel_rfl) rfl) (fun r => decide (r < 48) || decide (57 < r)) (fun r hr => by
  simp only [Bool.or_eq_true, decide_eq_true_eq]; omega) digit_at
 rw [show (!s.all isD) = s.any fun c => decide (c.toNat < 48) || decide (57 < c.toNat) by
  rw [List.not_all_eq_any_not]
  congr 1
  funext c
  rw [Bool.eq_iff_iff]
  simp only [isD, Bool.not_eq_true', Bool.and_eq_false_iff, decide_eq_false_iff_not, Bool.or_eq_true, decide_eq_true_eq]
  omega]
 exact h
end Go.Proofs.YteekfnhhlcmcgaaGreatDoor
