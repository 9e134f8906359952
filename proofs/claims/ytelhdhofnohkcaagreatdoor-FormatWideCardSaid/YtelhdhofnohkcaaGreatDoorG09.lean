/- Part of a proof: see the last text. -/
import Derived.Test.YtelhdhofnohkcaaGreatDoorG08
import Derived.Test.YtelhdhofnohkcaaGreatDoorG06
import Derived.Test.YtelhdhofnohkcaaGreatDoorG07
import Derived.Lib.AppendIntMem
import Derived.BigCall
import Derived.BigGuard
set_option linter.unusedVariables false
set_option linter.unusedSimpArgs false
namespace Go.Proofs.YtelhdhofnohkcaaGreatDoor
open Go.Eng Go.Fm
set_option maxRecDepth 20000
attribute [local irreducible] AG CallA CallT AWp PCall ACall AgC
@[go_sem] abbrev cRf (f : Rf) : List D := [dU f.lt, dS f.nm, dS f.by', dS f.fl, dI f.wd, dI f.pr]
@[go_sem] abbrev dRf (f : Rf) : D := .agg [dU f.lt, dS f.nm, dS f.by', dS f.fl, dI f.wd, dI f.pr]
@[go_sem] abbrev dRfs (l : List Rf) : D := .sl 6 (l.map cRf)
def RFldR (s : Bs) (r : D) : Prop :=
 if pk s = 37 then r = .tup [dRf (byF [37]), dS s.tail, dB true] else
 match rfieldV s with
 | some (f, t) => r = .tup [dRf f, dS t, dB true]
 | none => ∃ f, r = .tup [dRf f, dS [], dB false]
theorem isFl_con (c : UInt8) : ([45, 48, 43, 32, 35] : Bs).contains c = isFl c := by
 unfold isFl
 rw [Bool.eq_iff_iff]
 simp only [List.contains_cons, List.contains_nil, Bool.or_false, Bool.or_eq_true, beq_iff_eq, or_assoc]
theorem take_fl (s : Bs) (hl : s.length ≤ 1000000000) : PCall Tryz.prog 106 [dS s, dS [45, 48, 43, 32, 35]] fun r => r = .tup [dS (s.takeWhile isFl), dS (s.dropWhile isFl)] := by
 have h := take_spec s [45, 48, 43, 32, 35] hl
 have e : (([45, 48, 43, 32, 35] : Bs).contains ·) = isFl := funext isFl_con
 rwa [e] at h
theorem take_nm (s : Bs) (hl : s.length ≤ 1000000000) : PCall Tryz.prog 106 [dS s, dS nmL] fun r => r = .tup [dS (s.takeWhile isNm), dS (s.dropWhile isNm)] := by
 have h := take_spec s nmL hl
 have e : (nmL.contains ·) = isNm := funext nmL_isNm
 rwa [e] at h
theorem dw_le {p : UInt8 → Bool} (s : Bs) : (s.dropWhile p).length ≤ s.length := (List.dropWhile_suffix p).length_le
theorem size_len (m : Int) (s : Bs) : (sizeV m s).2.2.length ≤ s.length := by
 have := dw_le (p := isDig) s
 unfold sizeV
 split
 ·simp
 ·split
  ·exact this
  ·exact this
def restV (nm s1 : Bs) : Option (Rf × Bs) :=
  let w := sizeV (-1) (s1.dropWhile isFl)
  if w.2.1 = false then none else
  let p := if pk w.2.2 = 46 then sizeV 0 w.2.2.tail else (-1, true, w.2.2)
  if p.2.1 = false then none else
  let c := pk p.2.2
  if c ≠ 0 ∧ c ∈ lets ∧ ((w.1 = -2 ∨ p.1 = -2) → nm = []) then some (⟨c, nm, [], s1.takeWhile isFl, w.1, p.1⟩, p.2.2.tail) else none
theorem rfield_rest (s : Bs) : rfieldV s = match rnameV s with
  | none => none
  | some (nm, s1) => restV nm s1 := rfl
theorem rfldR_none {s : Bs} (h : pk s ≠ 37) (hr : rfieldV s = none) (f : Rf) : RFldR s (.tup [dRf f, dS [], dB false]) := by
 unfold RFldR; rw [if_neg h, hr]; exact ⟨f, rfl⟩
theorem rfldR_some {s t : Bs} {f : Rf} (h : pk s ≠ 37) (hr : rfieldV s = some (f, t)) : RFldR s (.tup [dRf f, dS t, dB true]) := by
 unfold RFldR; rw [if_neg h, hr]
set_option maxHeartbeats 16000000 in
theorem rfield_spec (s : Bs) (hl : s.length ≤ 100000) : PCall Tryz.prog 66 [dS s] (RFldR s) := by 
 refine pcall_of Tryz.func66 rfl rfl Tryz.ntmps66 (rs := [.cell 2 88, .tmp 3, .tmp 4]) (tys := [88, 9, 4]) rfl rfl (by simp) ?_
 have hP := hasPre_spec s [37]
 rw [pre_pk 37 s (by decide)] at hP
 (refine awp_sr fun Y Yh => ?_; simp [go_sem]; ((repeat' (first|(refine ag_x ?_;simp [go_sem])|intro _|apply And.intro|(apply Yh;clear Yh Y)));all_goals first|apply Hold.mk|omega|with_reducible assumption|skip))
 (refine awp_sr fun Y Yh => ?_; simp [go_sem]; ((repeat' (first|(refine ag_x ?_;simp [go_sem])|intro _|apply And.intro|(apply Yh;clear Yh Y)));all_goals first|apply Hold.mk|omega|with_reducible assumption|skip))
 refine awp_seq_k fun K1 hK1 => ?_
 (refine awp_sr fun Y Yh => ?_; simp [go_sem]; ((repeat' (first|(refine ag_x ?_;simp [go_sem])|intro _|apply And.intro|(apply Yh;clear Yh Y)));all_goals first|apply Hold.mk|omega|with_reducible assumption|skip))
 ((try refine CallT.toA ?_); refine callT_m (.inl ⟨rfl,rfl⟩) (by simp [go_sem]) ?_; intro args ha; simp [go_sem] at ha; subst ha; refine ⟨_, hP, ?_⟩; rintro _ rfl; simp [go_sem]; ((repeat' (first|(refine ag_x ?_;simp [go_sem])|intro _|apply And.intro|(apply Yh;clear Yh Y)));all_goals first|apply Hold.mk|omega|with_reducible assumption|skip))
 by_cases h37 : pk s = 37
 ·have hpos : 1 ≤ s.length := by
   cases s with
   | nil => exact absurd h37 (by decide)
   | cons _ _ => simp
  have hcut : ({ data := s.toArray } : ByteArray).extract 1 s.length = { data := s.tail.toArray } := by rw [ba_cut, List.take_of_length_le (Nat.le_refl _), List.drop_one]
  (refine awp_if fun T F hT hF => ?_; simp [go_sem, h37]; refine hT ?_; clear hT hF T F)
  (refine awp_sr fun Y Yh => ?_; simp [go_sem]; ((repeat' (first|(refine ag_x ?_;simp [go_sem])|intro _|apply And.intro|(apply Yh;clear Yh Y)));all_goals first|apply Hold.mk|omega|with_reducible assumption|skip))
  ((refine awp_dr (.qs [1, 2, 0] (.one 3 (.qs [4, 5] (.nil)))) (by kernel_rfl) ?_ ?_ ?_ ?_); (kernel_rfl); (exact (by decide +kernel)); (kernel_rfl); intro Y Yh; ((repeat' (first|(refine ag_x ?_;simp [go_sem, ba_size, hpos, hcut])|refine adr_nil ?_|((first|refine adr_qs fun Y Yh=>?_|refine adr_y fun Y Yh=>?_);simp [go_sem, ba_size, hpos, hcut])|intro _|apply And.intro|(apply Yh;clear Yh Y)));all_goals first|apply Hold.mk|omega|with_reducible assumption|skip))
  (refine awp_ret ?_; simp [go_sem])
  unfold RFldR
  rw [if_pos h37]
  rfl
 ·(refine awp_if fun T F hT hF => ?_; simp [go_sem, h37]; refine hF ?_; clear hT hF T F)
  refine awp_skip ?_
  refine hK1 _ ?_; clear hK1
  refine awp_seq_k fun K3 hK3 => ?_
  rename_i g2 g5
  have tl3 : ∀ nm s1 S', s1.length ≤ 100000 → rfieldV s = restV nm s1 → Cov S' ⟨[(0, dS s1), (2, .ptr 2 g2 0), (5, .ptr 5 g5 0)], [(5, (g5, .box [dU 0, dS nm, dS [], dS [], dI (-1), dI (-1)])), (2, (g2, .box [dU 0, dS [], dS [], dS [], dI 0, dI 0]))]⟩ → K3 S' := fun nm s1 S' hl1 hr hS => by
   refine hK3 _ ?_; clear hK3
   refine awp_cov hS ?_; clear hS
   have hT := take_fl s1 (by omega)
   have hdl := dw_le (p := isFl) s1
   unfold restV at hr
   have hW := size_spec (s1.dropWhile isFl) (-1) (by omega)
   have hwl := size_len (-1) (s1.dropWhile isFl)
   generalize sizeV (-1) (s1.dropWhile isFl) = w at *
   generalize s1.dropWhile isFl = s2 at *
   generalize s1.takeWhile isFl = fl at *
   obtain ⟨w1, w2, s3⟩ := w
   simp only at hr hW hwl
   (refine awp_sr fun Y Yh => ?_; simp [go_sem]; ((repeat' (first|(refine ag_x ?_;simp [go_sem])|intro _|apply And.intro|(apply Yh;clear Yh Y)));all_goals first|apply Hold.mk|omega|with_reducible assumption|skip))
   ((try refine CallT.toA ?_); refine callT_m (.inl ⟨rfl,rfl⟩) (by simp [go_sem]) ?_; intro args ha; simp [go_sem] at ha; subst ha; refine ⟨_, hT, ?_⟩; rintro _ rfl; simp [go_sem]; ((repeat' (first|(refine ag_x ?_;simp [go_sem])|intro _|apply And.intro|(apply Yh;clear Yh Y)));all_goals first|apply Hold.mk|omega|with_reducible assumption|skip))
   (refine awp_sr fun Y Yh => ?_; simp [go_sem]; ((repeat' (first|(refine ag_x ?_;simp [go_sem])|intro _|apply And.intro|(apply Yh;clear Yh Y)));all_goals first|apply Hold.mk|omega|with_reducible assumption|skip))
   (refine awp_sr fun Y Yh => ?_; simp [go_sem]; ((repeat' (first|(refine ag_x ?_;simp [go_sem])|intro _|apply And.intro|(apply Yh;clear Yh Y)));all_goals first|apply Hold.mk|omega|with_reducible assumption|skip))
   ((try refine CallT.toA ?_); refine callT_m (.inl ⟨rfl,rfl⟩) (by simp [go_sem]) ?_; intro args ha; simp [go_sem] at ha; subst ha; refine ⟨_, hW, ?_⟩; rintro _ rfl; simp [go_sem]; ((repeat' (first|(refine ag_x ?_;simp [go_sem])|intro _|apply And.intro|(apply Yh;clear Yh Y)));all_goals first|apply Hold.mk|omega|with_reducible assumption|skip))
   refine awp_seq_k fun K4 hK4 => ?_
   (refine awp_sr fun Y Yh => ?_; simp [go_sem]; ((repeat' (first|(refine ag_x ?_;simp [go_sem])|intro _|apply And.intro|(apply Yh;clear Yh Y)));all_goals first|apply Hold.mk|omega|with_reducible assumption|skip))
   cases w2 with
   | false =>
    rw [if_pos rfl] at hr
    (refine awp_if fun T F hT hF => ?_; simp [go_sem]; refine hT ?_; clear hT hF T F)
    (refine awp_sr fun Y Yh => ?_; simp [go_sem]; ((repeat' (first|(refine ag_x ?_;simp [go_sem])|intro _|apply And.intro|(apply Yh;clear Yh Y)));all_goals first|apply Hold.mk|omega|with_reducible assumption|skip))
    (refine awp_ret ?_; simp [go_sem])
    exact rfldR_none h37 hr ⟨0, nm, [], fl, w1, -1⟩
   | true =>
    rw [if_neg (by simp)] at hr
    (refine awp_if fun T F hT hF => ?_; simp [go_sem]; refine hF ?_; clear hT hF T F)
    refine awp_skip ?_
    refine hK4 _ ?_; clear hK4
    refine awp_seq_k fun K6 hK6 => ?_
    have tl6 : ∀ p1 s4 S', s4.length ≤ 100000 → rfieldV s = (if pk s4 ≠ 0 ∧ pk s4 ∈ lets ∧ ((w1 = -2 ∨ p1 = -2) → nm = []) then some (⟨pk s4, nm, [], fl, w1, p1⟩, s4.tail) else none) → Cov S' ⟨[(0, dS s4), (2, .ptr 2 g2 0), (5, .ptr 5 g5 0)], [(5, (g5, .box [dU 0, dS nm, dS [], dS fl, dI w1, dI p1])), (2, (g2, .box [dU 0, dS [], dS [], dS [], dI 0, dI 0]))]⟩ → K6 S' := fun p1 s4 S' hl4 hr hS => by
     refine hK6 _ ?_; clear hK6
     refine awp_cov hS ?_; clear hS
     refine awp_seq_k fun K7 hK7 => ?_
     cases s4 with
     | nil =>
      rw [if_neg (by simp [pk])] at hr
      (refine awp_sr fun Y Yh => ?_; simp [go_sem]; ((repeat' (first|(refine ag_false ?_ ?_ ?_;(focus (simp [go_sem, undef];done));(focus (simp [go_sem];done));simp [go_sem])|(refine ag_true ?_ ?_;(focus (simp [go_sem, undef];done));simp [go_sem])|(refine ag_x ?_;simp [go_sem, undef])|intro _|apply And.intro|(apply Yh;clear Yh Y)));all_goals first|apply Hold.mk|omega|with_reducible assumption|skip))
      (refine awp_if fun T F hT hF => ?_; simp [go_sem]; refine hT ?_; clear hT hF T F)
      (refine awp_sr fun Y Yh => ?_; simp [go_sem]; ((repeat' (first|(refine ag_x ?_;simp [go_sem])|intro _|apply And.intro|(apply Yh;clear Yh Y)));all_goals first|apply Hold.mk|omega|with_reducible assumption|skip))
      (refine awp_ret ?_; simp [go_sem])
      exact rfldR_none h37 hr ⟨0, nm, [], fl, w1, p1⟩
     | cons c r =>
      have epk : pk (c :: r) = c := rfl
      rw [epk, List.tail_cons] at hr
      have hI := idxB_spec lets c
      have hh := idx_has lets c
      generalize idxV lets c = v at *
      have hlen1 : (0 : Int) < (r.length : Int) + 1 := by omega
      by_cases hc : c ∈ lets
      ·have hv : ¬ v < 0 := by
        have := hh.2 (by simpa using hc)
        omega
       have hc0 : c ≠ 0 := by
        intro q
        subst q
        exact absurd hc (by decide)
       have fin : ((w1 = -2 ∨ p1 = -2) → nm = []) → ∀ S', Cov S' ⟨[(0, dS (c :: r)), (2, .ptr 2 g2 0), (5, .ptr 5 g5 0)], [(5, (g5, .box [dU 0, dS nm, dS [], dS fl, dI w1, dI p1])), (2, (g2, .box [dU 0, dS [], dS [], dS [], dI 0, dI 0]))]⟩ → K7 S' := fun hcond S' hS => by
        refine hK7 _ ?_; clear hK7
        refine awp_cov hS ?_; clear hS
        rw [if_pos ⟨hc0, hc, hcond⟩] at hr
        have hcut : ({ data := (c :: r).toArray } : ByteArray).extract 1 (r.length + 1) = { data := r.toArray } := by rw [ba_cut]; simp
        (refine awp_sr fun Y Yh => ?_; simp [go_sem, ba_size]; ((repeat' (first|(refine ag_x ?_;simp [go_sem, ba_size])|intro _|apply And.intro|(apply Yh;clear Yh Y)));all_goals first|apply Hold.mk|omega|with_reducible assumption|skip))
        ((refine awp_dr (.qs [1, 2, 0] (.one 3 (.qs [4, 5] (.nil)))) (by kernel_rfl) ?_ ?_ ?_ ?_); (kernel_rfl); (exact (by decide +kernel)); (kernel_rfl); intro Y Yh; ((repeat' (first|(refine ag_x ?_;simp [go_sem, ba_size, hcut])|refine adr_nil ?_|((first|refine adr_qs fun Y Yh=>?_|refine adr_y fun Y Yh=>?_);simp [go_sem, ba_size, hcut])|intro _|apply And.intro|(apply Yh;clear Yh Y)));all_goals first|apply Hold.mk|omega|with_reducible assumption|skip))
        (refine awp_ret ?_; simp [go_sem])
        exact rfldR_some h37 hr
       cases nm with
       | nil =>
        (refine awp_sr fun Y Yh => ?_; simp [go_sem, ba_size]; ((repeat' (first|(refine ag_false ?_ ?_ ?_;(focus (simp [go_sem, undef, ba_size];done));(focus (simp [go_sem];done));simp [go_sem, ba_size])|(refine ag_true ?_ ?_;(focus (simp [go_sem, undef, ba_size];done));simp [go_sem, ba_size])|(refine ag_x ?_;simp [go_sem, undef, ba_size])|intro _|apply And.intro|(apply Yh;clear Yh Y)));all_goals first|apply Hold.mk|omega|with_reducible assumption|skip))
        ((try refine CallT.toA ?_); refine callT_m (.inl ⟨rfl,rfl⟩) (by simp [go_sem]) ?_; intro args ha; simp [go_sem] at ha; subst ha; refine ⟨_, hI, ?_⟩; rintro _ rfl; simp [go_sem]; ((repeat' (first|(refine ag_false ?_ ?_ ?_;(focus (simp [go_sem, undef];done));(focus (simp [go_sem];done));simp [go_sem])|(refine ag_true ?_ ?_;(focus (simp [go_sem, undef];done));simp [go_sem])|(refine ag_x ?_;simp [go_sem, undef])|intro _|apply And.intro|(apply Yh;clear Yh Y)));all_goals first|apply Hold.mk|omega|with_reducible assumption|skip))
        (refine awp_if fun T F hT hF => ?_; simp [go_sem, hv]; refine hF ?_; clear hT hF T F)
        refine awp_skip ?_
        refine fin (fun _ => rfl) _ ?_
        (refine cov_of ?_ ?_ <;> simp [go_sem])
       | cons n0 nr =>
        by_cases hw : w1 = -2
        ·subst hw
         rw [if_neg (by simp)] at hr
         (refine awp_sr fun Y Yh => ?_; simp [go_sem, ba_size]; ((repeat' (first|(refine ag_false ?_ ?_ ?_;(focus (simp [go_sem, undef, ba_size];done));(focus (simp [go_sem];done));simp [go_sem, ba_size])|(refine ag_true ?_ ?_;(focus (simp [go_sem, undef, ba_size];done));simp [go_sem, ba_size])|(refine ag_x ?_;simp [go_sem, undef, ba_size])|intro _|apply And.intro|(apply Yh;clear Yh Y)));all_goals first|apply Hold.mk|omega|with_reducible assumption|skip))
         ((try refine CallT.toA ?_); refine callT_m (.inl ⟨rfl,rfl⟩) (by simp [go_sem]) ?_; intro args ha; simp [go_sem] at ha; subst ha; refine ⟨_, hI, ?_⟩; rintro _ rfl; simp [go_sem, hv]; ((repeat' (first|(refine ag_false ?_ ?_ ?_;(focus (simp [go_sem, undef, hv];done));(focus (simp [go_sem];done));simp [go_sem, hv])|(refine ag_true ?_ ?_;(focus (simp [go_sem, undef, hv];done));simp [go_sem, hv])|(refine ag_x ?_;simp [go_sem, undef, hv])|intro _|apply And.intro|(apply Yh;clear Yh Y)));all_goals first|apply Hold.mk|omega|with_reducible assumption|skip))
         (refine awp_if fun T F hT hF => ?_; simp [go_sem, hv]; refine hT ?_; clear hT hF T F)
         (refine awp_sr fun Y Yh => ?_; simp [go_sem]; ((repeat' (first|(refine ag_x ?_;simp [go_sem])|intro _|apply And.intro|(apply Yh;clear Yh Y)));all_goals first|apply Hold.mk|omega|with_reducible assumption|skip))
         (refine awp_ret ?_; simp [go_sem])
         exact rfldR_none h37 hr ⟨0, n0 :: nr, [], fl, -2, p1⟩
        ·by_cases hp : p1 = -2
         ·subst hp
          rw [if_neg (by simp)] at hr
          (refine awp_sr fun Y Yh => ?_; simp [go_sem, ba_size, hw]; ((repeat' (first|(refine ag_false ?_ ?_ ?_;(focus (simp [go_sem, undef, ba_size, hw];done));(focus (simp [go_sem];done));simp [go_sem, ba_size, hw])|(refine ag_true ?_ ?_;(focus (simp [go_sem, undef, ba_size, hw];done));simp [go_sem, ba_size, hw])|(refine ag_x ?_;simp [go_sem, undef, ba_size, hw])|intro _|apply And.intro|(apply Yh;clear Yh Y)));all_goals first|apply Hold.mk|omega|with_reducible assumption|skip))
          ((try refine CallT.toA ?_); refine callT_m (.inl ⟨rfl,rfl⟩) (by simp [go_sem]) ?_; intro args ha; simp [go_sem] at ha; subst ha; refine ⟨_, hI, ?_⟩; rintro _ rfl; simp [go_sem, hv, hw]; ((repeat' (first|(refine ag_false ?_ ?_ ?_;(focus (simp [go_sem, undef, hv, hw];done));(focus (simp [go_sem];done));simp [go_sem, hv, hw])|(refine ag_true ?_ ?_;(focus (simp [go_sem, undef, hv, hw];done));simp [go_sem, hv, hw])|(refine ag_x ?_;simp [go_sem, undef, hv, hw])|intro _|apply And.intro|(apply Yh;clear Yh Y)));all_goals first|apply Hold.mk|omega|with_reducible assumption|skip))
          (refine awp_if fun T F hT hF => ?_; simp [go_sem, hv, hw]; refine hT ?_; clear hT hF T F)
          (refine awp_sr fun Y Yh => ?_; simp [go_sem]; ((repeat' (first|(refine ag_x ?_;simp [go_sem])|intro _|apply And.intro|(apply Yh;clear Yh Y)));all_goals first|apply Hold.mk|omega|with_reducible assumption|skip))
          (refine awp_ret ?_; simp [go_sem])
          exact rfldR_none h37 hr ⟨0, n0 :: nr, [], fl, w1, -2⟩
         ·(refine awp_sr fun Y Yh => ?_; simp [go_sem, ba_size, hw, hp]; ((repeat' (first|(refine ag_false ?_ ?_ ?_;(focus (simp [go_sem, undef, ba_size, hw, hp];done));(focus (simp [go_sem];done));simp [go_sem, ba_size, hw, hp])|(refine ag_true ?_ ?_;(focus (simp [go_sem, undef, ba_size, hw, hp];done));simp [go_sem, ba_size, hw, hp])|(refine ag_x ?_;simp [go_sem, undef, ba_size, hw, hp])|intro _|apply And.intro|(apply Yh;clear Yh Y)));all_goals first|apply Hold.mk|omega|with_reducible assumption|skip))
          ((try refine CallT.toA ?_); refine callT_m (.inl ⟨rfl,rfl⟩) (by simp [go_sem]) ?_; intro args ha; simp [go_sem] at ha; subst ha; refine ⟨_, hI, ?_⟩; rintro _ rfl; simp [go_sem, hv, hw, hp]; ((repeat' (first|(refine ag_false ?_ ?_ ?_;(focus (simp [go_sem, undef, hv, hw, hp];done));(focus (simp [go_sem];done));simp [go_sem, hv, hw, hp])|(refine ag_true ?_ ?_;(focus (simp [go_sem, undef, hv, hw, hp];done));simp [go_sem, hv, hw, hp])|(refine ag_x ?_;simp [go_sem, undef, hv, hw, hp])|intro _|apply And.intro|(apply Yh;clear Yh Y)));all_goals first|apply Hold.mk|omega|with_reducible assumption|skip))
          (refine awp_if fun T F hT hF => ?_; simp [go_sem, hv, hw, hp]; refine hF ?_; clear hT hF T F)
          refine awp_skip ?_
          refine fin (fun q => absurd q (by simp [hw, hp])) _ ?_
          (refine cov_of ?_ ?_ <;> simp [go_sem])
      ·have hv : v < 0 := by
        rcases Int.lt_or_le v 0 with q | q
        ·exact q
        ·exact absurd (by simpa using hh.1 q) hc
       rw [if_neg (fun q => hc q.2.1)] at hr
       (refine awp_sr fun Y Yh => ?_; simp [go_sem, ba_size]; ((repeat' (first|(refine ag_false ?_ ?_ ?_;(focus (simp [go_sem, undef, ba_size];done));(focus (simp [go_sem];done));simp [go_sem, ba_size])|(refine ag_true ?_ ?_;(focus (simp [go_sem, undef, ba_size];done));simp [go_sem, ba_size])|(refine ag_x ?_;simp [go_sem, undef, ba_size])|intro _|apply And.intro|(apply Yh;clear Yh Y)));all_goals first|apply Hold.mk|omega|with_reducible assumption|skip))
       ((try refine CallT.toA ?_); refine callT_m (.inl ⟨rfl,rfl⟩) (by simp [go_sem]) ?_; intro args ha; simp [go_sem] at ha; subst ha; refine ⟨_, hI, ?_⟩; rintro _ rfl; simp [go_sem, hv]; ((repeat' (first|(refine ag_false ?_ ?_ ?_;(focus (simp [go_sem, undef, hv];done));(focus (simp [go_sem];done));simp [go_sem, hv])|(refine ag_true ?_ ?_;(focus (simp [go_sem, undef, hv];done));simp [go_sem, hv])|(refine ag_x ?_;simp [go_sem, undef, hv])|intro _|apply And.intro|(apply Yh;clear Yh Y)));all_goals first|apply Hold.mk|omega|with_reducible assumption|skip))
       (refine awp_if fun T F hT hF => ?_; simp [go_sem, hv]; refine hT ?_; clear hT hF T F)
       (refine awp_sr fun Y Yh => ?_; simp [go_sem]; ((repeat' (first|(refine ag_x ?_;simp [go_sem])|intro _|apply And.intro|(apply Yh;clear Yh Y)));all_goals first|apply Hold.mk|omega|with_reducible assumption|skip))
       (refine awp_ret ?_; simp [go_sem])
       exact rfldR_none h37 hr ⟨0, nm, [], fl, w1, p1⟩
    clear hK6
    have hP46 := hasPre_spec s3 [46]
    rw [pre_pk 46 s3 (by decide)] at hP46
    (refine awp_sr fun Y Yh => ?_; simp [go_sem]; ((repeat' (first|(refine ag_x ?_;simp [go_sem])|intro _|apply And.intro|(apply Yh;clear Yh Y)));all_goals first|apply Hold.mk|omega|with_reducible assumption|skip))
    ((try refine CallT.toA ?_); refine callT_m (.inl ⟨rfl,rfl⟩) (by simp [go_sem]) ?_; intro args ha; simp [go_sem] at ha; subst ha; refine ⟨_, hP46, ?_⟩; rintro _ rfl; simp [go_sem]; ((repeat' (first|(refine ag_x ?_;simp [go_sem])|intro _|apply And.intro|(apply Yh;clear Yh Y)));all_goals first|apply Hold.mk|omega|with_reducible assumption|skip))
    by_cases h46 : pk s3 = 46
    ·rw [if_pos h46] at hr
     have hpos : 1 ≤ s3.length := by
      cases s3 with
      | nil => exact absurd h46 (by decide)
      | cons _ _ => simp
     have hcut : ({ data := s3.toArray } : ByteArray).extract 1 s3.length = { data := s3.tail.toArray } := by rw [ba_cut, List.take_of_length_le (Nat.le_refl _), List.drop_one]
     have hZ := size_spec s3.tail 0 (by rw [List.length_tail]; omega)
     have hzl := size_len 0 s3.tail
     rw [List.length_tail] at hzl
     generalize sizeV 0 s3.tail = z at *
     obtain ⟨z1, z2, s4⟩ := z
     simp only at hr hZ hzl
     (refine awp_if fun T F hT hF => ?_; simp [go_sem, h46]; refine hT ?_; clear hT hF T F)
     (refine awp_sr fun Y Yh => ?_; simp [go_sem, ba_size, hpos, hcut]; ((repeat' (first|(refine ag_x ?_;simp [go_sem, ba_size, hpos, hcut])|intro _|apply And.intro|(apply Yh;clear Yh Y)));all_goals first|apply Hold.mk|omega|with_reducible assumption|skip))
     ((try refine CallT.toA ?_); refine callT_m (.inl ⟨rfl,rfl⟩) (by simp [go_sem]) ?_; intro args ha; simp [go_sem] at ha; subst ha; refine ⟨_, hZ, ?_⟩; rintro _ rfl; simp [go_sem]; ((repeat' (first|(refine ag_x ?_;simp [go_sem])|intro _|apply And.intro|(apply Yh;clear Yh Y)));all_goals first|apply Hold.mk|omega|with_reducible assumption|skip))
     (refine awp_sr fun Y Yh => ?_; simp [go_sem]; ((repeat' (first|(refine ag_x ?_;simp [go_sem])|intro _|apply And.intro|(apply Yh;clear Yh Y)));all_goals first|apply Hold.mk|omega|with_reducible assumption|skip))
     cases z2 with
     | false =>
      rw [if_pos rfl] at hr
      (refine awp_if fun T F hT hF => ?_; simp [go_sem]; refine hT ?_; clear hT hF T F)
      (refine awp_sr fun Y Yh => ?_; simp [go_sem]; ((repeat' (first|(refine ag_x ?_;simp [go_sem])|intro _|apply And.intro|(apply Yh;clear Yh Y)));all_goals first|apply Hold.mk|omega|with_reducible assumption|skip))
      (refine awp_ret ?_; simp [go_sem])
      exact rfldR_none h37 hr ⟨0, nm, [], fl, w1, z1⟩
     | true =>
      rw [if_neg (by simp)] at hr
      (refine awp_if fun T F hT hF => ?_; simp [go_sem]; refine hF ?_; clear hT hF T F)
      refine awp_skip ?_
      refine tl6 z1 s4 _ (by omega) hr ?_
      (refine cov_of ?_ ?_ <;> simp [go_sem])
    ·rw [if_neg h46] at hr
     simp only [Bool.true_eq_false, if_false] at hr
     (refine awp_if fun T F hT hF => ?_; simp [go_sem, h46]; refine hF ?_; clear hT hF T F)
     refine awp_skip ?_
     refine tl6 (-1) s3 _ (by omega) hr ?_
     (refine cov_of ?_ ?_ <;> simp [go_sem])
  clear hK3
  have hP60 := hasPre_spec s [60]
  rw [pre_pk 60 s (by decide)] at hP60
  have hN := rfield_rest s
  unfold rnameV at hN
  (refine awp_sr fun Y Yh => ?_; simp [go_sem]; ((repeat' (first|(refine ag_x ?_;simp [go_sem])|intro _|apply And.intro|(apply Yh;clear Yh Y)));all_goals first|apply Hold.mk|omega|with_reducible assumption|skip))
  ((try refine CallT.toA ?_); refine callT_m (.inl ⟨rfl,rfl⟩) (by simp [go_sem]) ?_; intro args ha; simp [go_sem] at ha; subst ha; refine ⟨_, hP60, ?_⟩; rintro _ rfl; simp [go_sem]; ((repeat' (first|(refine ag_x ?_;simp [go_sem])|intro _|apply And.intro|(apply Yh;clear Yh Y)));all_goals first|apply Hold.mk|omega|with_reducible assumption|skip))
  by_cases h60 : pk s = 60
  ·rw [if_neg (by simp [h60])] at hN
   have hpos : 1 ≤ s.length := by
    cases s with
    | nil => exact absurd h60 (by decide)
    | cons _ _ => simp
   have hcut : ({ data := s.toArray } : ByteArray).extract 1 s.length = { data := s.tail.toArray } := by rw [ba_cut, List.take_of_length_le (Nat.le_refl _), List.drop_one]
   have hT := take_nm s.tail (by rw [List.length_tail]; omega)
   have hdl := dw_le (p := isNm) s.tail
   rw [List.length_tail] at hdl
   generalize s.tail.takeWhile isNm = nm at *
   generalize s.tail.dropWhile isNm = rs at *
   have hP62 := hasPre_spec rs [62]
   rw [pre_pk 62 rs (by decide)] at hP62
   (refine awp_if fun T F hT hF => ?_; simp [go_sem, h60]; refine hT ?_; clear hT hF T F)
   (refine awp_sr fun Y Yh => ?_; simp [go_sem, ba_size, hpos, hcut]; ((repeat' (first|(refine ag_x ?_;simp [go_sem, ba_size, hpos, hcut])|intro _|apply And.intro|(apply Yh;clear Yh Y)));all_goals first|apply Hold.mk|omega|with_reducible assumption|skip))
   ((try refine CallT.toA ?_); refine callT_m (.inl ⟨rfl,rfl⟩) (by simp [go_sem]) ?_; intro args ha; simp [go_sem] at ha; subst ha; refine ⟨_, hT, ?_⟩; rintro _ rfl; simp [go_sem]; ((repeat' (first|(refine ag_x ?_;simp [go_sem])|intro _|apply And.intro|(apply Yh;clear Yh Y)));all_goals first|apply Hold.mk|omega|with_reducible assumption|skip))
   refine awp_seq_k fun K12 hK12 => ?_
   cases nm with
   | nil =>
    rw [if_pos (.inl rfl)] at hN
    (refine awp_sr fun Y Yh => ?_; simp [go_sem]; ((repeat' (first|(refine ag_false ?_ ?_ ?_;(focus (simp [go_sem, undef];done));(focus (simp [go_sem];done));simp [go_sem])|(refine ag_true ?_ ?_;(focus (simp [go_sem, undef];done));simp [go_sem])|(refine ag_x ?_;simp [go_sem, undef])|intro _|apply And.intro|(apply Yh;clear Yh Y)));all_goals first|apply Hold.mk|omega|with_reducible assumption|skip))
    (refine awp_if fun T F hT hF => ?_; simp [go_sem]; refine hT ?_; clear hT hF T F)
    (refine awp_sr fun Y Yh => ?_; simp [go_sem]; ((repeat' (first|(refine ag_x ?_;simp [go_sem])|intro _|apply And.intro|(apply Yh;clear Yh Y)));all_goals first|apply Hold.mk|omega|with_reducible assumption|skip))
    (refine awp_ret ?_; simp [go_sem])
    exact rfldR_none h37 hN ⟨0, [], [], [], -1, -1⟩
   | cons c0 r0 =>
    (refine awp_sr fun Y Yh => ?_; simp [go_sem]; ((repeat' (first|(refine ag_false ?_ ?_ ?_;(focus (simp [go_sem, undef];done));(focus (simp [go_sem];done));simp [go_sem])|(refine ag_true ?_ ?_;(focus (simp [go_sem, undef];done));simp [go_sem])|(refine ag_x ?_;simp [go_sem, undef])|intro _|apply And.intro|(apply Yh;clear Yh Y)));all_goals first|apply Hold.mk|omega|with_reducible assumption|skip))
    ((try refine CallT.toA ?_); refine callT_m (.inl ⟨rfl,rfl⟩) (by simp [go_sem]) ?_; intro args ha; simp [go_sem] at ha; subst ha; refine ⟨_, hP62, ?_⟩; rintro _ rfl; simp [go_sem]; ((repeat' (first|(refine ag_false ?_ ?_ ?_;(focus (simp [go_sem, undef];done));(focus (simp [go_sem];done));simp [go_sem])|(refine ag_true ?_ ?_;(focus (simp [go_sem, undef];done));simp [go_sem])|(refine ag_x ?_;simp [go_sem, undef])|intro _|apply And.intro|(apply Yh;clear Yh Y)));all_goals first|apply Hold.mk|omega|with_reducible assumption|skip))
    by_cases h62 : pk rs = 62
    ·rw [if_neg (by simp [h62])] at hN
     simp only at hN
     have hpos2 : 1 ≤ rs.length := by
      cases rs with
      | nil => exact absurd h62 (by decide)
      | cons _ _ => simp
     have hcut2 : ({ data := rs.toArray } : ByteArray).extract 1 rs.length = { data := rs.tail.toArray } := by rw [ba_cut, List.take_of_length_le (Nat.le_refl _), List.drop_one]
     (refine awp_if fun T F hT hF => ?_; simp [go_sem, h62]; refine hF ?_; clear hT hF T F)
     refine awp_skip ?_
     refine hK12 _ ?_; clear hK12
     (refine awp_sr fun Y Yh => ?_; simp [go_sem]; ((repeat' (first|(refine ag_x ?_;simp [go_sem])|intro _|apply And.intro|(apply Yh;clear Yh Y)));all_goals first|apply Hold.mk|omega|with_reducible assumption|skip))
     (refine awp_r fun Y Yh => ?_; simp [go_sem, ba_size, hpos2, hcut2]; ((repeat' (first|(refine ag_x ?_;simp [go_sem, ba_size, hpos2, hcut2])|intro _|apply And.intro|(apply Yh;clear Yh Y)));all_goals first|apply Hold.mk|omega|with_reducible assumption|skip))
     refine tl3 (c0 :: r0) rs.tail _ (by rw [List.length_tail]; omega) hN ?_
     (refine cov_of ?_ ?_ <;> simp [go_sem])
    ·rw [if_pos (.inr h62)] at hN
     (refine awp_if fun T F hT hF => ?_; simp [go_sem, h62]; refine hT ?_; clear hT hF T F)
     (refine awp_sr fun Y Yh => ?_; simp [go_sem]; ((repeat' (first|(refine ag_x ?_;simp [go_sem])|intro _|apply And.intro|(apply Yh;clear Yh Y)));all_goals first|apply Hold.mk|omega|with_reducible assumption|skip))
     (refine awp_ret ?_; simp [go_sem])
     exact rfldR_none h37 hN ⟨0, [], [], [], -1, -1⟩
  ·rw [if_pos h60] at hN
   simp only at hN
   (refine awp_if fun T F hT hF => ?_; simp [go_sem, h60]; refine hF ?_; clear hT hF T F)
   refine awp_skip ?_
   refine tl3 [] s _ hl hN ?_
   (refine cov_of ?_ ?_ <;> simp [go_sem])
end Go.Proofs.YtelhdhofnohkcaaGreatDoor
namespace Go.Proofs.YtelhdhofnohkcaaGreatDoor
open Go.Shelf Go.RowKit Go.Sort Go.Lib
set_option maxHeartbeats 6400000 in
set_option maxRecDepth 100000 in
theorem fmtU10_w (u : Nat) (hu64 : u < 18446744073709551616) (w : World) (htab : Lib.TabIs Tryz.prog w "internal/strconv.uint64pow10" .u64 Lib.pow10Tab) :
  Calls Tryz.prog 189 #[.int .u64 u, .int .i64 10] w fun e w' => e = .returned (.string ⟨(Lib.decDigits u).toArray⟩) ∧ ∃ k os, w' = grow (w.drewN k) os := by
 have e83 : ∀ args w, (callFunc 83 args).run Tryz.prog w = .ok (.enter 83 args) w := enters_of Tryz.func83 (by kernel_rfl) rfl
 have e84 : ∀ args w, (callFunc 84 args).run Tryz.prog w = .ok (.enter 84 args) w := enters_of Tryz.func84 (by kernel_rfl) rfl
 have e85 : ∀ args w, (callFunc 85 args).run Tryz.prog w = .ok (.enter 85 args) w := enters_of Tryz.func85 (by kernel_rfl) rfl
 by_cases hs : u < 100
 ·go_enter Tryz.func189, Tryz.ntmps189
  go_wp2_with (go_at_fn 83; refine (Tryz.internal_strconv_small u hs _).mono ?_; rintro e w' ⟨rfl, rfl⟩)
  go_ret
  refine ⟨rfl, 0, #[], by simp [World.drewN_zero]⟩
 ·have hu1 : 1 ≤ u := by omega
  have hnd20 : Lib.nDigits u ≤ 20 := by have := Lib.numDigits_eq u hu1 hu64; split at this <;> omega
  have hal : Tryz.prog.arrayLen 142 = 24 := by simp [Program.arrayLen, Tryz.underlying142]
  have hsl1 : ∀ W, (Instr.sliceAt 142 (.pointer (some ⟨w.heap.size, 0, none⟩)) none (some (.int .i64 (Lib.nDigits u : Int))) none).run Tryz.prog W = .ok (.slice (some ⟨w.heap.size, 0, none⟩) (Lib.nDigits u) 24) W := fun W => by
   rw [run_sliceAt_array_h W 142 ⟨w.heap.size, 0, none⟩ (by simp [Program.arrayLen, Program.elem, Tryz.underlying142]) .i64 (Lib.nDigits u : Int) (by omega) (by rw [hal]; omega)]
   go_simp
  have hH0 := Lib.holds_zero0 w 142 (Lib.nDigits u) (by omega)
  have hfmt := Tryz.internal_strconv_formatBase10 w.heap.size 0 24 u (Array.replicate (Lib.nDigits u) 0) (w.alloc (.cells Lib.zeros24 142)) hH0 (by rw [Array.size_replicate]; exact Lib.lt_pow_nDigits u) hu64 (by rw [Array.size_replicate]; omega)
  rw [Array.size_replicate] at hfmt
  have HH0 := Lib.hid hH0
  clear hH0 hal
  go_enter Tryz.func189, Tryz.ntmps189
  go_wp2_with (first
   | (go_at_fn 84; refine (Tryz.internal_strconv_numDigits u hu1 hu64 _ (Lib.tabIs_alloc htab _)).mono ?_; rintro e w' ⟨rfl, rfl⟩))
  refine hfmt.mono ?_
  rintro e w' ⟨rfl, k, v', dk, rfl, hF⟩
  have hcv : (convert 68 9 (.slice (some ⟨w.heap.size, 0, none⟩) (Lib.nDigits u) 24)).run Tryz.prog ((putRow (fun (b : UInt8) => Value.int .u8 (b.toNat : Int)) (w.alloc (.cells Lib.zeros24 142)) w.heap.size 0 dk).drewN k) = .ok (.string ⟨(Lib.decDigits u).toArray⟩) ((putRow (fun (b : UInt8) => Value.int .u8 (b.toNat : Int)) (w.alloc (.cells Lib.zeros24 142)) w.heap.size 0 dk).drewN k) := by
   have h := run_convert_bytes_back (P := Tryz.prog) ((putRow (fun (b : UInt8) => Value.int .u8 (b.toNat : Int)) (w.alloc (.cells Lib.zeros24 142)) w.heap.size 0 dk).drewN k) 68 9 5 ⟨w.heap.size, 0, none⟩ 24 (Lib.decDigits u) Tryz.underlying68 Tryz.underlying5 Tryz.underlying9 (fun j hj => by
    rw [Lib.row_is_numeral hF j hj, Lib.add_plain, World.cell?_drewN]
    exact cell?_putRow (fun (b : UInt8) => Value.int .u8 (b.toNat : Int)) _ w.heap.size 0 _ dk HH0.out (by rw [hF.size, Array.size_replicate]) j (by rw [hF.size]; rw [Lib.decDigits_length] at hj; exact hj))
   rw [Lib.decDigits_length] at h
   exact h
  go_wp2
  go_ret
  obtain ⟨os, eo⟩ := Lib.fin_at w (.cells Lib.zeros24 142) dk k 0
  exact ⟨rfl, k, os, eo⟩
end Go.Proofs.YtelhdhofnohkcaaGreatDoor
namespace Go.Proofs.YtelhdhofnohkcaaGreatDoor
open Go.Eng Go.Fm
set_option maxRecDepth 20000
attribute [local irreducible] AG CallA CallT AWp PCall ACall AgC
theorem dec_txt (u : Nat) : Lib.decDigits u = txtB 10 u := by
 have h := itoa_show (u : Int)
 rw [Lib.itoa_nonneg] at h
 rw [h]
 unfold showB
 rw [if_neg (by omega)]
 simp
theorem fmtU10_spec (u : Nat) (h : u < 2 ^ 64) : PCall Tryz.prog 189 [.v (.int .u64 u), dI 10] fun r => r = dS (txtB 10 u) := by
 refine pcall_below ⟨_, Tryz.func189, rfl, rfl⟩ fun C w us hc hg hr => ?_
 have hg : glOk w := hg
 obtain rfl := repL_v (us := [.int .u64 u, .int .i64 10]) hr
 refine (fmtU10_w u (by omega) w hg.1).mono ?_
 rintro e w' ⟨rfl, k, os, rfl⟩
 exact ⟨_, _, rfl, by rw [dec_txt], .v _, below_gd w k os⟩
theorem fmtUB_spec {b s k : Nat} (h : Bas b s k) (u : Nat) (hu : u < 2 ^ 64) : PCall Tryz.prog 189 [.v (.int .u64 u), dI b] fun r => r = dS (txtB b u) := by 
 refine pcall_of Tryz.func189 rfl rfl Tryz.ntmps189 (rs := [.tmp 4]) (tys := [9]) rfl rfl (by simp) ?_
 have hb : ¬ (b : Int) = 10 := by rcases h.cases with ⟨rfl, _, _⟩ | ⟨rfl, _, _⟩ | ⟨rfl, _, _⟩ <;> decide
 have B := bits_spec h (u : Int) u false rfl hu
 simp only [Bool.false_eq_true, if_false, List.nil_append] at B
 (refine awp_sr fun Y Yh => ?_; simp [go_sem]; ((repeat' (first|(refine ag_x ?_;simp [go_sem])|intro _|apply And.intro|(apply Yh;clear Yh Y)));all_goals first|apply Hold.mk|omega|with_reducible assumption|skip))
 refine awp_seq_k fun K1 hK1 => ?_
 (refine awp_sr fun Y Yh => ?_; simp [go_sem]; ((repeat' (first|(refine ag_x ?_;simp [go_sem])|intro _|apply And.intro|(apply Yh;clear Yh Y)));all_goals first|apply Hold.mk|omega|with_reducible assumption|skip))
 (refine awp_if fun T F hT hF => ?_; simp [go_sem, hb]; refine hF ?_; clear hT hF T F)
 refine awp_skip ?_
 refine hK1 _ ?_; clear hK1
 (refine awp_sr fun Y Yh => ?_; simp [go_sem]; ((repeat' (first|(refine ag_x ?_;simp [go_sem])|intro _|apply And.intro|(apply Yh;clear Yh Y)));all_goals first|apply Hold.mk|omega|with_reducible assumption|skip))
 ((try refine CallT.toA ?_); refine callT_m (.inl ⟨rfl,rfl⟩) (by simp [go_sem]) ?_; intro args ha; simp [go_sem] at ha; subst ha; refine ⟨_, B, ?_⟩; rintro _ rfl; simp [go_sem]; ((repeat' (first|(refine ag_x ?_;simp [go_sem])|intro _|apply And.intro|(apply Yh;clear Yh Y)));all_goals first|apply Hold.mk|omega|with_reducible assumption|skip))
 (refine awp_sr fun Y Yh => ?_; simp [go_sem]; ((repeat' (first|(refine ag_x ?_;simp [go_sem])|intro _|apply And.intro|(apply Yh;clear Yh Y)));all_goals first|apply Hold.mk|omega|with_reducible assumption|skip))
 (refine awp_ret ?_; simp [go_sem])
theorem fmtU_spec (b : Nat) (hb : b = 2 ∨ b = 8 ∨ b = 16 ∨ b = 10) (u : Nat) (hu : u < 2 ^ 64) : PCall Tryz.prog 166 [.v (.int .u64 u), dI b] fun r => r = dS (txtB b u) := by 
 have hP : PCall Tryz.prog 189 [.v (.int .u64 u), dI b] fun r => r = dS (txtB b u) := by
  rcases hb with rfl | rfl | rfl | rfl
  ·exact fmtUB_spec (s := 1) (k := 1) (by simp [Bas]) u hu
  ·exact fmtUB_spec (s := 3) (k := 7) (by simp [Bas]) u hu
  ·exact fmtUB_spec (s := 4) (k := 15) (by simp [Bas]) u hu
  ·exact fmtU10_spec u hu
 refine pcall_of Tryz.func166 rfl rfl Tryz.ntmps166 (rs := [.tmp 4]) (tys := [9]) rfl rfl (by simp) ?_
 (refine awp_sr fun Y Yh => ?_; simp [go_sem]; ((repeat' (first|(refine ag_x ?_;simp [go_sem])|intro _|apply And.intro|(apply Yh;clear Yh Y)));all_goals first|apply Hold.mk|omega|with_reducible assumption|skip))
 (refine awp_sr fun Y Yh => ?_; simp [go_sem]; ((repeat' (first|(refine ag_x ?_;simp [go_sem])|intro _|apply And.intro|(apply Yh;clear Yh Y)));all_goals first|apply Hold.mk|omega|with_reducible assumption|skip))
 ((try refine CallT.toA ?_); refine callT_m (.inl ⟨rfl,rfl⟩) (by simp [go_sem]) ?_; intro args ha; simp [go_sem] at ha; subst ha; refine ⟨_, hP, ?_⟩; rintro _ rfl; simp [go_sem]; ((repeat' (first|(refine ag_x ?_;simp [go_sem])|intro _|apply And.intro|(apply Yh;clear Yh Y)));all_goals first|apply Hold.mk|omega|with_reducible assumption|skip))
 (refine awp_ret ?_; simp [go_sem])
def whD (f : Rf) (n prec : Int) : Bs :=
 let d := txtB (baseV f.lt) n.natAbs
 let d := if f.lt = 88 then d.map upC else d
 let d := if prec = 0 ∧ n = 0 then [] else d
 if 0 < prec - d.length then rep 48 (prec - d.length) ++ d else d
def whS (f : Rf) (n : Int) : Bs := if n < 0 then [45] else if f.fl.contains 43 then [43] else if f.fl.contains 32 then [32] else []
def whF (f : Rf) (n prec : Int) : Bs := whS f n ++ (if f.fl.contains 35 = true ∧ n ≠ 0 then Fm.preV f.lt (whD f n prec) else [])
def wholeV (f : Rf) (n width prec : Int) (left : Bool) : Bs :=
 let m := width - (whF f n prec).length - (whD f n prec).length
 filV (whF f n prec ++ if f.fl.contains 48 = true ∧ prec = -1 ∧ left = false ∧ 0 < m then rep 48 m ++ whD f n prec else whD f n prec) width left
theorem whole_num (f : Rf) (n width prec : Int) (left : Bool) (hp : -1 ≤ prec) : wholeV f n width prec left = numV { toFd f with wd := width, pr := prec, lf := left } n := by
 have e1 : digsV { toFd f with wd := width, pr := prec, lf := left } n = whD f n prec := by
  rfl
 have e2 : signV { toFd f with wd := width, pr := prec, lf := left } n = whS f n := rfl
 have e3 : whF f n prec = whS f n ++ (if ({ toFd f with wd := width, pr := prec, lf := left } : Fld).ha ∧ n ≠ 0 ∧ ({ toFd f with wd := width, pr := prec, lf := left } : Fld).lt ≠ 100 then Fm.preV ({ toFd f with wd := width, pr := prec, lf := left } : Fld).lt (whD f n prec) else []) := by
  unfold whF
  congr 1
  simp only [toFd]
  by_cases h : f.lt = 100
  ·have : Fm.preV f.lt (whD f n prec) = [] := by rw [h]; unfold Fm.preV; simp
   rw [this]
   simp
  ·simp [h]
 unfold numV
 rw [e1, e2]
 dsimp only
 rw [← e3, filV_pad]
 unfold wholeV
 dsimp only
 have e4 : (f.fl.contains 48 = true ∧ prec = -1 ∧ left = false ∧ 0 < width - ((whF f n prec).length : Int) - ((whD f n prec).length : Int)) = ((toFd f).ze = true ∧ prec < 0 ∧ left = false ∧ 0 < width - ((whF f n prec).length : Int) - ((whD f n prec).length : Int)) := by
  simp only [toFd, eq_iff_iff]
  constructor
  ·rintro ⟨h1, h2, h3⟩; exact ⟨h1, by omega, h3⟩
  ·rintro ⟨h1, h2, h3⟩; exact ⟨h1, by omega, h3⟩
 simp only [e4]
theorem preV_len (c : UInt8) (d : Bs) : (Fm.preV c d).length ≤ 2 := by
 unfold Fm.preV
 (repeat' split) <;> simp
set_option maxHeartbeats 32000000 in
theorem whole_spec (f : Rf) (n width prec : Int) (left : Bool) (hn : InR n) (hl : NL f.lt) (hw : -1 ≤ width ∧ width ≤ 1000) (hp : -1 ≤ prec ∧ prec ≤ 1000) :
  PCall Tryz.prog 135 [dRf f, dI n, dI width, dI prec, dB left] fun r => r = dS (wholeV f n width prec left) := by 
 refine pcall_of Tryz.func135 rfl rfl Tryz.ntmps135 (rs := [.tmp 10]) (tys := [9]) rfl rfl (by simp) ?_
 obtain ⟨w1, w2⟩ := wrap_neg hn
 have hb2 : 2 ≤ baseV f.lt ∧ baseV f.lt ≤ 16 := by rcases hl.base with h | h | h | h <;> rw [h] <;> decide
 have hlen := txt_len hb2.1 w2
 have F3 := upper_spec (txtB (baseV f.lt) n.natAbs) (by omega) (txtB_ascii hb2.1 hb2.2 _)
 have FU := fmtU_spec (baseV f.lt) hl.base n.natAbs w2
 have FB := rbase_spec f.lt
 have c43 := contains_spec f.fl 43
 have c32 := contains_spec f.fl 32
 have c35 := contains_spec f.fl 35
 have c48 := contains_spec f.fl 48
 have b88 : decide ((f.lt.toNat : Int) = 88) = decide (f.lt = 88) := u8_eqb _ 88 (by decide)
 have eD : whD f n prec = (if 0 < prec - ((if prec = 0 ∧ n = 0 then [] else if f.lt = 88 then (txtB (baseV f.lt) n.natAbs).map upC else txtB (baseV f.lt) n.natAbs).length : Int) then rep 48 (prec - ((if prec = 0 ∧ n = 0 then [] else if f.lt = 88 then (txtB (baseV f.lt) n.natAbs).map upC else txtB (baseV f.lt) n.natAbs).length : Int)) ++ (if prec = 0 ∧ n = 0 then [] else if f.lt = 88 then (txtB (baseV f.lt) n.natAbs).map upC else txtB (baseV f.lt) n.natAbs) else (if prec = 0 ∧ n = 0 then [] else if f.lt = 88 then (txtB (baseV f.lt) n.natAbs).map upC else txtB (baseV f.lt) n.natAbs)) := rfl
 have hPr := rprefix_spec f.lt (whD f n prec)
 have hPl := preV_len f.lt (whD f n prec)
 have eF : whF f n prec = whS f n ++ (if f.fl.contains 35 = true ∧ n ≠ 0 then Fm.preV f.lt (whD f n prec) else []) := rfl
 have hSl : (whS f n).length ≤ 1 := by unfold whS; (repeat' split) <;> simp
 have eS : whS f n = if n < 0 then [45] else if f.fl.contains 43 then [43] else if f.fl.contains 32 then [32] else [] := rfl
 have eW : wholeV f n width prec left = filV (whF f n prec ++ if f.fl.contains 48 = true ∧ prec = -1 ∧ left = false ∧ 0 < width - (whF f n prec).length - (whD f n prec).length then rep 48 (width - (whF f n prec).length - (whD f n prec).length) ++ whD f n prec else whD f n prec) width left := rfl
 rw [eW]
 clear eW
 generalize Fm.preV f.lt (whD f n prec) = PV at *
 generalize hD0 : txtB (baseV f.lt) n.natAbs = D0 at *
 have hD1l : (if f.lt = 88 then D0.map upC else D0).length ≤ 64 := by split <;> simpa using hlen
 generalize hD1 : (if f.lt = 88 then D0.map upC else D0) = D1 at *
 have hD2l : (if prec = 0 ∧ n = 0 then [] else D1).length ≤ 64 := by
  split
  ·simp
  ·exact hD1l
 generalize hD2 : (if prec = 0 ∧ n = 0 then [] else D1) = D2 at *
 have hD3l : (whD f n prec).length ≤ 1064 := by
  rw [eD]
  split
  ·rw [List.length_append, rep_len]; omega
  ·omega
 generalize hD3 : whD f n prec = D3 at *
 have hFl : (whF f n prec).length ≤ 3 := by
  rw [eF, List.length_append]
  split
  ·omega
  ·simp; omega
 generalize hFr : whF f n prec = Fr at *
 generalize whS f n = Sg at *
 generalize hfl43 : f.fl.contains 43 = q43 at *
 generalize hfl32 : f.fl.contains 32 = q32 at *
 generalize hfl35 : f.fl.contains 35 = q35 at *
 generalize hfl48 : f.fl.contains 48 = q48 at *
 generalize hD4 : (if q48 = true ∧ prec = -1 ∧ left = false ∧ 0 < width - (Fr.length : Int) - (D3.length : Int) then rep 48 (width - (Fr.length : Int) - (D3.length : Int)) ++ D3 else D3) = D4 at *
 have hD4l : D4.length ≤ 3000 := by
  rw [← hD4]
  split
  ·rw [List.length_append, rep_len]; omega
  ·omega
 have hFil := rfilled_spec (Fr ++ D4) width left (by rw [List.length_append]; omega) (by omega) (by omega)
 generalize filV (Fr ++ D4) width left = Z at *
 (refine awp_sr fun Y Yh => ?_; simp [go_sem]; ((repeat' (first|(refine ag_x ?_;simp [go_sem])|intro _|apply And.intro|(apply Yh;clear Yh Y)));all_goals first|apply Hold.mk|omega|with_reducible assumption|skip))
 rename_i g5
 (refine awp_sr fun Y Yh => ?_; simp [go_sem]; ((repeat' (first|(refine ag_x ?_;simp [go_sem])|intro _|apply And.intro|(apply Yh;clear Yh Y)));all_goals first|apply Hold.mk|omega|with_reducible assumption|skip))
 refine awp_seq_k fun K1 hK1 => ?_
 have tl1 : ∀ S', Cov S' ⟨[(1, dI n), (2, dI width), (3, dI prec), (4, dB left), (5, .ptr 5 g5 0), (11, .v (.int .u64 (n.natAbs : Nat)))], [(5, (g5, .box (cRf f)))]⟩ → K1 S' := fun S' hS => by
  refine hK1 _ ?_; clear hK1
  refine awp_cov hS ?_; clear hS
  (refine awp_sr fun Y Yh => ?_; simp [go_sem]; ((repeat' (first|(refine ag_x ?_;simp [go_sem])|intro _|apply And.intro|(apply Yh;clear Yh Y)));all_goals first|apply Hold.mk|omega|with_reducible assumption|skip))
  ((try refine CallT.toA ?_); refine callT_m (.inl ⟨rfl,rfl⟩) (by simp [go_sem]) ?_; intro args ha; simp [go_sem] at ha; subst ha; refine ⟨_, FB, ?_⟩; rintro _ rfl; simp [go_sem]; ((repeat' (first|(refine ag_x ?_;simp [go_sem])|intro _|apply And.intro|(apply Yh;clear Yh Y)));all_goals first|apply Hold.mk|omega|with_reducible assumption|skip))
  ((try refine CallT.toA ?_); refine callT_m (.inl ⟨rfl,rfl⟩) (by simp [go_sem]) ?_; intro args ha; simp [go_sem] at ha; subst ha; refine ⟨_, FU, ?_⟩; rintro _ rfl; simp [go_sem]; ((repeat' (first|(refine ag_x ?_;simp [go_sem])|intro _|apply And.intro|(apply Yh;clear Yh Y)));all_goals first|apply Hold.mk|omega|with_reducible assumption|skip))
  refine awp_seq_k fun K2 hK2 => ?_
  have tl2 : ∀ S', Cov S' ⟨[(1, dI n), (2, dI width), (3, dI prec), (4, dB left), (5, .ptr 5 g5 0), (12, dS D1)], [(5, (g5, .box (cRf f)))]⟩ → K2 S' := fun S' hS => by
   refine hK2 _ ?_; clear hK2
   refine awp_cov hS ?_; clear hS
   refine awp_seq_k fun K3 hK3 => ?_
   have tl3 : ∀ S', Cov S' ⟨[(1, dI n), (2, dI width), (3, dI prec), (4, dB left), (5, .ptr 5 g5 0), (12, dS D2)], [(5, (g5, .box (cRf f)))]⟩ → K3 S' := fun S' hS => by
    refine hK3 _ ?_; clear hK3
    refine awp_cov hS ?_; clear hS
    refine awp_seq_k fun K4 hK4 => ?_
    have tl4 : ∀ S', Cov S' ⟨[(1, dI n), (2, dI width), (3, dI prec), (4, dB left), (5, .ptr 5 g5 0), (12, dS D3)], [(5, (g5, .box (cRf f)))]⟩ → K4 S' := fun S' hS => by
     refine hK4 _ ?_; clear hK4
     refine awp_cov hS ?_; clear hS
     (refine awp_sr fun Y Yh => ?_; simp [go_sem]; ((repeat' (first|(refine ag_x ?_;simp [go_sem])|intro _|apply And.intro|(apply Yh;clear Yh Y)));all_goals first|apply Hold.mk|omega|with_reducible assumption|skip))
     refine awp_seq_k fun K7 hK7 => ?_
     have tl7 : ∀ S', Cov S' ⟨[(1, dI n), (2, dI width), (3, dI prec), (4, dB left), (5, .ptr 5 g5 0), (12, dS D3), (13, dS Sg)], [(5, (g5, .box (cRf f)))]⟩ → K7 S' := fun S' hS => by
      refine hK7 _ ?_; clear hK7
      refine awp_cov hS ?_; clear hS
      refine awp_seq_k fun K8 hK8 => ?_
      have tl8 : ∀ S', Cov S' ⟨[(1, dI n), (2, dI width), (3, dI prec), (4, dB left), (5, .ptr 5 g5 0), (12, dS D3), (13, dS Fr)], [(5, (g5, .box (cRf f)))]⟩ → K8 S' := fun S' hS => by
       refine hK8 _ ?_; clear hK8
       refine awp_cov hS ?_; clear hS
       refine awp_seq_k fun K9 hK9 => ?_
       have tl9 : ∀ S', Cov S' ⟨[(2, dI width), (4, dB left), (12, dS D4), (13, dS Fr)], []⟩ → K9 S' := fun S' hS => by
        refine hK9 _ ?_; clear hK9
        refine awp_cov hS ?_; clear hS
        (refine awp_sr fun Y Yh => ?_; simp [go_sem, ba_app, ba_size]; ((repeat' (first|(refine ag_x ?_;simp [go_sem, ba_app, ba_size])|intro _|apply And.intro|(apply Yh;clear Yh Y)));all_goals first|apply Hold.mk|omega|with_reducible assumption|skip))
        ((try refine CallT.toA ?_); refine callT_m (.inl ⟨rfl,rfl⟩) (by simp [go_sem]) ?_; intro args ha; simp [go_sem] at ha; subst ha; refine ⟨_, hFil, ?_⟩; rintro _ rfl; simp [go_sem]; ((repeat' (first|(refine ag_x ?_;simp [go_sem])|intro _|apply And.intro|(apply Yh;clear Yh Y)));all_goals first|apply Hold.mk|omega|with_reducible assumption|skip))
        (refine awp_ret ?_; simp [go_sem])
       clear hK9
       (refine awp_sr fun Y Yh => ?_; simp [go_sem]; ((repeat' (first|(refine ag_x ?_;simp [go_sem])|intro _|apply And.intro|(apply Yh;clear Yh Y)));all_goals first|apply Hold.mk|omega|with_reducible assumption|skip))
       ((try refine CallT.toA ?_); refine callT_m (.inl ⟨rfl,rfl⟩) (by simp [go_sem]) ?_; intro args ha; simp [go_sem] at ha; subst ha; refine ⟨_, c48, ?_⟩; rintro _ rfl; simp [go_sem]; ((repeat' (first|(refine ag_x ?_;simp [go_sem])|intro _|apply And.intro|(apply Yh;clear Yh Y)));all_goals first|apply Hold.mk|omega|with_reducible assumption|skip))
       by_cases hq : q48 = true ∧ prec = -1 ∧ left = false
       ·obtain ⟨hq1, hq2, hq3⟩ := hq
        have hb : (q48 && decide (prec = -1) && !left) = true := by rw [hq1, hq3]; simp [hq2]
        have hE : ∀ x : Nat, x = (width - (Fr.length : Int) - (D3.length : Int)).toNat → List.replicate x (48 : UInt8) ++ D3 = D4 := fun x q => by
         rw [← hD4, q]
         by_cases h : 0 < width - (Fr.length : Int) - (D3.length : Int)
         ·rw [if_pos ⟨hq1, hq2, hq3, h⟩]; rfl
         ·rw [if_neg (fun q => h q.2.2.2), show (width - (Fr.length : Int) - (D3.length : Int)).toNat = 0 by omega]; rfl
        (refine awp_if fun T F hT hF => ?_; simp [go_sem, hb]; refine hT ?_; clear hT hF T F)
        refine awp_block ?_
        refine awp_loop (σ := Nat) (fun x => ⟨[(2, dI width), (4, dB left), (12, dS (List.replicate x 48 ++ D3)), (13, dS Fr)], []⟩) (fun x => x ≤ (width - (Fr.length : Int) - (D3.length : Int)).toNat) (fun x => (width - (Fr.length : Int) - (D3.length : Int)).toNat - x) 0 ?_ ?_ ?_
        ·(refine cov_of ?_ ?_ <;> simp [go_sem])
        ·simp
        intro x hx
        refine awp_seq_k fun K11 hK11 => ?_
        have hsz : (List.replicate x (48 : UInt8) ++ D3).length = x + D3.length := by simp
        have hcons : 48 :: (List.replicate x (48 : UInt8) ++ D3) = List.replicate (x + 1) (48 : UInt8) ++ D3 := rfl
        have hT0 := hE x
        have hTs : ∀ S', Cov S' ⟨[(2, dI width), (4, dB left), (12, dS (48 :: (List.replicate x (48 : UInt8) ++ D3))), (13, dS Fr)], []⟩ → Cov S' ⟨[(2, dI width), (4, dB left), (12, dS (List.replicate (x + 1) (48 : UInt8) ++ D3)), (13, dS Fr)], []⟩ := fun S' h => by rw [← hcons]; exact h
        generalize List.replicate x (48 : UInt8) ++ D3 = T0 at *
        (refine awp_sr fun Y Yh => ?_; simp [go_sem, ba_size, hsz]; ((repeat' (first|(refine ag_x ?_;simp [go_sem, ba_size, hsz])|intro _|apply And.intro|(apply Yh;clear Yh Y)));all_goals first|apply Hold.mk|omega|with_reducible assumption|skip))
        by_cases h12 : (Fr.length : Int) + ((x : Int) + D3.length) < width
        ·(refine awp_if fun T F hT hF => ?_; simp [go_sem, h12]; refine hT ?_; clear hT hF T F)
         refine awp_skip ?_
         refine hK11 _ ?_; clear hK11
         refine awp_block ?_
         (refine awp_r fun Y Yh => ?_; simp [go_sem, ba_app, ba_size, hsz]; ((repeat' (first|(refine ag_x ?_;simp [go_sem, ba_app, ba_size, hsz])|intro _|apply And.intro|(apply Yh;clear Yh Y)));all_goals first|apply Hold.mk|omega|with_reducible assumption|skip))
         refine ⟨x + 1, hTs _ ?_, by omega, by omega⟩
         (refine cov_of ?_ ?_ <;> simp [go_sem])
        ·(refine awp_if fun T F hT hF => ?_; simp [go_sem, h12]; refine hF ?_; clear hT hF T F)
         refine awp_exit ?_
         simp only [go_sem]
         rw [hT0 (by omega)]
         refine tl9 _ ?_
         (refine cov_of ?_ ?_ <;> simp [go_sem])
       ·have hb : (q48 && decide (prec = -1) && !left) = false := by
         rw [Bool.eq_false_iff]
         intro q
         simp only [Bool.and_eq_true, decide_eq_true_eq, Bool.not_eq_true'] at q
         exact hq ⟨q.1.1, q.1.2, q.2⟩
        rw [if_neg (fun q => hq ⟨q.1, q.2.1, q.2.2.1⟩)] at hD4
        subst hD4
        (refine awp_if fun T F hT hF => ?_; simp [go_sem, hb]; refine hF ?_; clear hT hF T F)
        refine awp_skip ?_
        refine tl9 _ ?_
        (refine cov_of ?_ ?_ <;> simp [go_sem])
      clear hK8
      (refine awp_sr fun Y Yh => ?_; simp [go_sem]; ((repeat' (first|(refine ag_x ?_;simp [go_sem])|intro _|apply And.intro|(apply Yh;clear Yh Y)));all_goals first|apply Hold.mk|omega|with_reducible assumption|skip))
      ((try refine CallT.toA ?_); refine callT_m (.inl ⟨rfl,rfl⟩) (by simp [go_sem]) ?_; intro args ha; simp [go_sem] at ha; subst ha; refine ⟨_, c35, ?_⟩; rintro _ rfl; simp [go_sem]; ((repeat' (first|(refine ag_x ?_;simp [go_sem])|intro _|apply And.intro|(apply Yh;clear Yh Y)));all_goals first|apply Hold.mk|omega|with_reducible assumption|skip))
      by_cases hq : q35 = true ∧ n ≠ 0
      ·have hb : (q35 && !decide (n = 0)) = true := by rw [hq.1]; simp [hq.2]
       rw [if_pos hq] at eF
       subst eF
       (refine awp_if fun T F hT hF => ?_; simp [go_sem, hb]; refine hT ?_; clear hT hF T F)
       (refine awp_r fun Y Yh => ?_; simp [go_sem]; ((repeat' (first|(refine ag_x ?_;simp [go_sem])|intro _|apply And.intro|(apply Yh;clear Yh Y)));all_goals first|apply Hold.mk|omega|with_reducible assumption|skip))
       ((try refine CallT.toA ?_); refine callT_m (.inl ⟨rfl,rfl⟩) (by simp [go_sem]) ?_; intro args ha; simp [go_sem] at ha; subst ha; refine ⟨_, hPr, ?_⟩; rintro _ rfl; simp [go_sem, ba_app, ba_size]; ((repeat' (first|(refine ag_x ?_;simp [go_sem, ba_app, ba_size])|intro _|apply And.intro|(apply Yh;clear Yh Y)));all_goals first|apply Hold.mk|omega|with_reducible assumption|skip))
       refine tl8 _ ?_
       (refine cov_of ?_ ?_ <;> simp [go_sem])
      ·have hb : (q35 && !decide (n = 0)) = false := by
        rw [Bool.eq_false_iff]
        intro q
        simp only [Bool.and_eq_true, Bool.not_eq_true', decide_eq_false_iff_not] at q
        exact hq q
       rw [if_neg hq, List.append_nil] at eF
       subst eF
       (refine awp_if fun T F hT hF => ?_; simp [go_sem, hb]; refine hF ?_; clear hT hF T F)
       refine awp_skip ?_
       refine tl8 _ ?_
       (refine cov_of ?_ ?_ <;> simp [go_sem])
     clear hK7
     refine awp_block ?_
     (refine awp_sr fun Y Yh => ?_; simp [go_sem]; ((repeat' (first|(refine ag_x ?_;simp [go_sem])|intro _|apply And.intro|(apply Yh;clear Yh Y)));all_goals first|apply Hold.mk|omega|with_reducible assumption|skip))
     by_cases h14 : n < 0
     ·rw [if_pos h14] at eS
      subst eS
      (refine awp_if fun T F hT hF => ?_; simp [go_sem, h14]; refine hT ?_; clear hT hF T F)
      (refine awp_r fun Y Yh => ?_; simp [go_sem]; ((repeat' (first|(refine ag_x ?_;simp [go_sem])|intro _|apply And.intro|(apply Yh;clear Yh Y)));all_goals first|apply Hold.mk|omega|with_reducible assumption|skip))
      refine tl7 _ ?_
      (refine cov_of ?_ ?_ <;> simp [go_sem])
     ·rw [if_neg h14] at eS
      (refine awp_if fun T F hT hF => ?_; simp [go_sem, h14]; refine hF ?_; clear hT hF T F)
      (refine awp_sr fun Y Yh => ?_; simp [go_sem]; ((repeat' (first|(refine ag_x ?_;simp [go_sem])|intro _|apply And.intro|(apply Yh;clear Yh Y)));all_goals first|apply Hold.mk|omega|with_reducible assumption|skip))
      ((try refine CallT.toA ?_); refine callT_m (.inl ⟨rfl,rfl⟩) (by simp [go_sem]) ?_; intro args ha; simp [go_sem] at ha; subst ha; refine ⟨_, c43, ?_⟩; rintro _ rfl; simp [go_sem]; ((repeat' (first|(refine ag_x ?_;simp [go_sem])|intro _|apply And.intro|(apply Yh;clear Yh Y)));all_goals first|apply Hold.mk|omega|with_reducible assumption|skip))
      cases q43 with
      | true =>
       rw [if_pos rfl] at eS
       subst eS
       (refine awp_if fun T F hT hF => ?_; simp [go_sem]; refine hT ?_; clear hT hF T F)
       (refine awp_r fun Y Yh => ?_; simp [go_sem]; ((repeat' (first|(refine ag_x ?_;simp [go_sem])|intro _|apply And.intro|(apply Yh;clear Yh Y)));all_goals first|apply Hold.mk|omega|with_reducible assumption|skip))
       refine tl7 _ ?_
       (refine cov_of ?_ ?_ <;> simp [go_sem])
      | false =>
       rw [if_neg (by simp)] at eS
       (refine awp_if fun T F hT hF => ?_; simp [go_sem]; refine hF ?_; clear hT hF T F)
       (refine awp_sr fun Y Yh => ?_; simp [go_sem]; ((repeat' (first|(refine ag_x ?_;simp [go_sem])|intro _|apply And.intro|(apply Yh;clear Yh Y)));all_goals first|apply Hold.mk|omega|with_reducible assumption|skip))
       ((try refine CallT.toA ?_); refine callT_m (.inl ⟨rfl,rfl⟩) (by simp [go_sem]) ?_; intro args ha; simp [go_sem] at ha; subst ha; refine ⟨_, c32, ?_⟩; rintro _ rfl; simp [go_sem]; ((repeat' (first|(refine ag_x ?_;simp [go_sem])|intro _|apply And.intro|(apply Yh;clear Yh Y)));all_goals first|apply Hold.mk|omega|with_reducible assumption|skip))
       cases q32 with
       | true =>
        rw [if_pos rfl] at eS
        subst eS
        (refine awp_if fun T F hT hF => ?_; simp [go_sem]; refine hT ?_; clear hT hF T F)
        (refine awp_r fun Y Yh => ?_; simp [go_sem]; ((repeat' (first|(refine ag_x ?_;simp [go_sem])|intro _|apply And.intro|(apply Yh;clear Yh Y)));all_goals first|apply Hold.mk|omega|with_reducible assumption|skip))
        refine tl7 _ ?_
        (refine cov_of ?_ ?_ <;> simp [go_sem])
       | false =>
        rw [if_neg (by simp)] at eS
        subst eS
        (refine awp_if fun T F hT hF => ?_; simp [go_sem]; refine hF ?_; clear hT hF T F)
        refine awp_skip ?_
        refine tl7 _ ?_
        (refine cov_of ?_ ?_ <;> simp [go_sem])
    clear hK4
    refine awp_block ?_
    refine awp_loop (σ := Nat) (fun x => ⟨[(1, dI n), (2, dI width), (3, dI prec), (4, dB left), (5, .ptr 5 g5 0), (12, dS (List.replicate x 48 ++ D2))], [(5, (g5, .box (cRf f)))]⟩) (fun x => x ≤ (prec - D2.length).toNat) (fun x => (prec - D2.length).toNat - x) 0 ?_ ?_ ?_
    ·(refine cov_of ?_ ?_ <;> simp [go_sem])
    ·simp
    intro x hx
    refine awp_seq_k fun K5 hK5 => ?_
    have hsz : (List.replicate x (48 : UInt8) ++ D2).length = x + D2.length := by simp
    have hcons : 48 :: (List.replicate x (48 : UInt8) ++ D2) = List.replicate (x + 1) (48 : UInt8) ++ D2 := rfl
    have hT0 : x = (prec - D2.length).toNat → List.replicate x (48 : UInt8) ++ D2 = D3 := fun q => by
     rw [eD, q]
     by_cases h : 0 < prec - (D2.length : Int)
     ·rw [if_pos h]; rfl
     ·rw [if_neg h, show (prec - (D2.length : Int)).toNat = 0 by omega]; rfl
    have hTs : ∀ S', Cov S' ⟨[(1, dI n), (2, dI width), (3, dI prec), (4, dB left), (5, .ptr 5 g5 0), (12, dS (48 :: (List.replicate x (48 : UInt8) ++ D2)))], [(5, (g5, .box (cRf f)))]⟩ → Cov S' ⟨[(1, dI n), (2, dI width), (3, dI prec), (4, dB left), (5, .ptr 5 g5 0), (12, dS (List.replicate (x + 1) 48 ++ D2))], [(5, (g5, .box (cRf f)))]⟩ := fun S' h => by rw [← hcons]; exact h
    generalize List.replicate x (48 : UInt8) ++ D2 = T0 at *
    (refine awp_sr fun Y Yh => ?_; simp [go_sem, ba_size, hsz]; ((repeat' (first|(refine ag_x ?_;simp [go_sem, ba_size, hsz])|intro _|apply And.intro|(apply Yh;clear Yh Y)));all_goals first|apply Hold.mk|omega|with_reducible assumption|skip))
    by_cases h6 : (x : Int) + D2.length < prec
    ·(refine awp_if fun T F hT hF => ?_; simp [go_sem, h6]; refine hT ?_; clear hT hF T F)
     refine awp_skip ?_
     refine hK5 _ ?_; clear hK5
     refine awp_block ?_
     (refine awp_r fun Y Yh => ?_; simp [go_sem, ba_app, ba_size, hsz]; ((repeat' (first|(refine ag_x ?_;simp [go_sem, ba_app, ba_size, hsz])|intro _|apply And.intro|(apply Yh;clear Yh Y)));all_goals first|apply Hold.mk|omega|with_reducible assumption|skip))
     refine ⟨x + 1, hTs _ ?_, by omega, by omega⟩
     (refine cov_of ?_ ?_ <;> simp [go_sem])
    ·(refine awp_if fun T F hT hF => ?_; simp [go_sem, h6]; refine hF ?_; clear hT hF T F)
     refine awp_exit ?_
     simp only [go_sem]
     rw [hT0 (by omega)]
     refine tl4 _ ?_
     (refine cov_of ?_ ?_ <;> simp [go_sem])
   clear hK3
   (refine awp_sr fun Y Yh => ?_; simp [go_sem]; ((repeat' (first|(refine ag_x ?_;simp [go_sem])|intro _|apply And.intro|(apply Yh;clear Yh Y)));all_goals first|apply Hold.mk|omega|with_reducible assumption|skip))
   by_cases hz : prec = 0 ∧ n = 0
   ·have hb : (decide (n = 0) && decide (prec = 0)) = true := by simp [hz.1, hz.2]
    rw [if_pos hz] at hD2
    subst hD2
    (refine awp_if fun T F hT hF => ?_; simp [go_sem, hb]; refine hT ?_; clear hT hF T F)
    (refine awp_r fun Y Yh => ?_; simp [go_sem]; ((repeat' (first|(refine ag_x ?_;simp [go_sem])|intro _|apply And.intro|(apply Yh;clear Yh Y)));all_goals first|apply Hold.mk|omega|with_reducible assumption|skip))
    refine tl3 _ ?_
    (refine cov_of ?_ ?_ <;> simp [go_sem])
   ·have hb : (decide (n = 0) && decide (prec = 0)) = false := by
     rw [Bool.eq_false_iff]
     intro q
     simp only [Bool.and_eq_true, decide_eq_true_eq] at q
     exact hz ⟨q.2, q.1⟩
    rw [if_neg hz] at hD2
    subst hD2
    (refine awp_if fun T F hT hF => ?_; simp [go_sem, hb]; refine hF ?_; clear hT hF T F)
    refine awp_skip ?_
    refine tl3 _ ?_
    (refine cov_of ?_ ?_ <;> simp [go_sem])
  clear hK2
  (refine awp_sr fun Y Yh => ?_; simp [go_sem, b88]; ((repeat' (first|(refine ag_x ?_;simp [go_sem, b88])|intro _|apply And.intro|(apply Yh;clear Yh Y)));all_goals first|apply Hold.mk|omega|with_reducible assumption|skip))
  by_cases h88 : f.lt = 88
  ·rw [if_pos h88] at hD1
   subst hD1
   (refine awp_if fun T F hT hF => ?_; simp [go_sem, b88, h88]; refine hT ?_; clear hT hF T F)
   (refine awp_r fun Y Yh => ?_; simp [go_sem]; ((repeat' (first|(refine ag_x ?_;simp [go_sem])|intro _|apply And.intro|(apply Yh;clear Yh Y)));all_goals first|apply Hold.mk|omega|with_reducible assumption|skip))
   ((try refine CallT.toA ?_); refine callT_m (.inl ⟨rfl,rfl⟩) (by simp [go_sem]) ?_; intro args ha; simp [go_sem] at ha; subst ha; refine ⟨_, F3, ?_⟩; rintro _ rfl; simp [go_sem]; ((repeat' (first|(refine ag_x ?_;simp [go_sem])|intro _|apply And.intro|(apply Yh;clear Yh Y)));all_goals first|apply Hold.mk|omega|with_reducible assumption|skip))
   refine tl2 _ ?_
   (refine cov_of ?_ ?_ <;> simp [go_sem])
  ·rw [if_neg h88] at hD1
   subst hD1
   (refine awp_if fun T F hT hF => ?_; simp [go_sem, b88, h88]; refine hF ?_; clear hT hF T F)
   refine awp_skip ?_
   refine tl2 _ ?_
   (refine cov_of ?_ ?_ <;> simp [go_sem])
 clear hK1
 (refine awp_sr fun Y Yh => ?_; simp [go_sem]; ((repeat' (first|(refine ag_x ?_;simp [go_sem])|intro _|apply And.intro|(apply Yh;clear Yh Y)));all_goals first|apply Hold.mk|omega|with_reducible assumption|skip))
 by_cases hneg : n < 0
 ·(refine awp_if fun T F hT hF => ?_; simp [go_sem, hneg]; refine hT ?_; clear hT hF T F)
  (refine awp_r fun Y Yh => ?_; simp [go_sem]; ((repeat' (first|(refine ag_x ?_;simp [go_sem])|intro _|apply And.intro|(apply Yh;clear Yh Y)));all_goals first|apply Hold.mk|omega|with_reducible assumption|skip))
  refine tl1 _ ?_
  (refine cov_of ?_ ?_ <;> simp [go_sem])
  simpa [hneg] using w1
 ·(refine awp_if fun T F hT hF => ?_; simp [go_sem, hneg]; refine hF ?_; clear hT hF T F)
  refine awp_skip ?_
  refine tl1 _ ?_
  (refine cov_of ?_ ?_ <;> simp [go_sem])
  simpa [hneg] using w1
def writV (f : Fld) (a : Ag) : Bs × Nat := match putV f a with
 | none => ([], 1)
 | some t => (t, 0)
set_option maxHeartbeats 32000000 in
theorem written_spec (f : Rf) (a : Ag) (width prec : Int) (left : Bool) (ha : AgOk a) (hl : f.lt ∈ lets) (hw : -1 ≤ width ∧ width ≤ 1000) (hp : -1 ≤ prec ∧ prec ≤ 1000) :
  PCall Tryz.prog 104 [dRf f, dA a, dI width, dI prec, dB left] fun r => r = .tup [dS (writV { toFd f with wd := width, pr := prec, lf := left } a).1, dI (writV { toFd f with wd := width, pr := prec, lf := left } a).2] := by 
 refine pcall_of Tryz.func104 rfl rfl Tryz.ntmps104 (rs := [.tmp 10, .tmp 11]) (tys := [9, 34]) rfl rfl (by simp) ?_
 have hT := rtext_spec a ha.1
 have htl := text_len ha
 have hQ := rquoted_spec (textV a) htl
 have hql : (quoV (textV a)).length ≤ 3000000 := by
  rw [quoV_qF]
  have h1 := qF_len (textV a)
  have h2 := cntS_le (textV a)
  simp only [List.length_append, List.length_cons, List.length_nil]
  omega
 have hNq := rnumber_spec a ha.1 ha.2
 have b115 : decide ((f.lt.toNat : Int) = 115) = decide (f.lt = 115) := u8_eqb _ 115 (by decide)
 have b112 : decide ((f.lt.toNat : Int) = 112) = decide (f.lt = 112) := u8_eqb _ 112 (by decide)
 have b99 : decide ((f.lt.toNat : Int) = 99) = decide (f.lt = 99) := u8_eqb _ 99 (by decide)
 have hFil := fun (s : Bs) (h : s.length ≤ 1000000000) => rfilled_spec s width left h (by omega) (by omega)
 have eW : writV { toFd f with wd := width, pr := prec, lf := left } a = match putV { toFd f with wd := width, pr := prec, lf := left } a with
  | none => ([], 1)
  | some t => (t, 0) := rfl
 have eP : putV { toFd f with wd := width, pr := prec, lf := left } a = if f.lt = 115 then some (filV (shortV { toFd f with wd := width, pr := prec, lf := left } (textV a)) width left)
  else if f.lt = 112 then some (filV (shortV { toFd f with wd := width, pr := prec, lf := left } (quoV (textV a))) width left)
  else if f.lt = 99 then (if a.is then (if a.tx = [] then none else some (filV (a.tx.take 1) width left)) else if a.int < 0 ∨ 255 < a.int then none else some (filV [UInt8.ofNat a.int.toNat] width left))
  else (numA a).map (numV { toFd f with wd := width, pr := prec, lf := left }) := rfl
 have hSh : ∀ s, shortV { toFd f with wd := width, pr := prec, lf := left } s = if 0 ≤ prec ∧ prec < s.length then s.take prec.toNat else s := fun _ => rfl
 rw [hSh, hSh] at eP
 clear hSh
 generalize writV { toFd f with wd := width, pr := prec, lf := left } a = W at *
 generalize putV { toFd f with wd := width, pr := prec, lf := left } a = P at *
 (refine awp_sr fun Y Yh => ?_; simp [go_sem]; ((repeat' (first|(refine ag_x ?_;simp [go_sem])|intro _|apply And.intro|(apply Yh;clear Yh Y)));all_goals first|apply Hold.mk|omega|with_reducible assumption|skip))
 rename_i g5 g6
 (refine awp_sr fun Y Yh => ?_; simp [go_sem]; ((repeat' (first|(refine ag_x ?_;simp [go_sem])|intro _|apply And.intro|(apply Yh;clear Yh Y)));all_goals first|apply Hold.mk|omega|with_reducible assumption|skip))
 ((try refine CallT.toA ?_); refine callT_m (.inl ⟨rfl,rfl⟩) (by simp [go_sem]) ?_; intro args ha; simp [go_sem] at ha; subst ha; refine ⟨_, hT, ?_⟩; rintro _ rfl; simp [go_sem]; ((repeat' (first|(refine ag_x ?_;simp [go_sem])|intro _|apply And.intro|(apply Yh;clear Yh Y)));all_goals first|apply Hold.mk|omega|with_reducible assumption|skip))
 refine awp_seq_k fun K1 hK1 => ?_
 have tl1 : ∀ s S', s.length ≤ 3000000 → P = some (filV (if 0 ≤ prec ∧ prec < s.length then s.take prec.toNat else s) width left) → Cov S' ⟨[(2, dI width), (3, dI prec), (4, dB left), (12, dS s)], []⟩ → K1 S' := fun s S' hsl eP hS => by
  refine hK1 _ ?_; clear hK1
  refine awp_cov hS ?_; clear hS
  rw [eP] at eW
  simp only at eW
  clear eP
  refine awp_seq_k fun K2 hK2 => ?_
  have hZl : (if 0 ≤ prec ∧ prec < s.length then s.take prec.toNat else s).length ≤ 3000000 := by
   split
   ·rw [List.length_take]; omega
   ·exact hsl
  have hF := hFil (if 0 ≤ prec ∧ prec < s.length then s.take prec.toNat else s) (by omega)
  generalize hZ : (if 0 ≤ prec ∧ prec < s.length then s.take prec.toNat else s) = Z at *
  have tl2 : ∀ S', Cov S' ⟨[(2, dI width), (4, dB left), (12, dS Z)], []⟩ → K2 S' := fun S' hS => by
   refine hK2 _ ?_; clear hK2
   refine awp_cov hS ?_; clear hS
   (refine awp_sr fun Y Yh => ?_; simp [go_sem]; ((repeat' (first|(refine ag_x ?_;simp [go_sem])|intro _|apply And.intro|(apply Yh;clear Yh Y)));all_goals first|apply Hold.mk|omega|with_reducible assumption|skip))
   ((try refine CallT.toA ?_); refine callT_m (.inl ⟨rfl,rfl⟩) (by simp [go_sem]) ?_; intro args ha; simp [go_sem] at ha; subst ha; refine ⟨_, hF, ?_⟩; rintro _ rfl; simp [go_sem]; ((repeat' (first|(refine ag_x ?_;simp [go_sem])|intro _|apply And.intro|(apply Yh;clear Yh Y)));all_goals first|apply Hold.mk|omega|with_reducible assumption|skip))
   (refine awp_ret ?_; simp [go_sem, eW])
  clear hK2
  by_cases h : 0 ≤ prec ∧ prec < s.length
  ·rw [if_pos h] at hZ
   have hcut : ({ data := s.toArray } : ByteArray).extract 0 prec.toNat = { data := Z.toArray } := by rw [ba_cut, List.drop_zero, hZ]
   have h1 := h.1
   have h2 := h.2
   (refine awp_sr fun Y Yh => ?_; simp [go_sem, ba_size, h1, h2]; ((repeat' (first|(refine ag_false ?_ ?_ ?_;(focus (simp [go_sem, undef, ba_size, h1, h2];done));(focus (simp [go_sem];done));simp [go_sem, ba_size, h1, h2])|(refine ag_true ?_ ?_;(focus (simp [go_sem, undef, ba_size, h1, h2];done));simp [go_sem, ba_size, h1, h2])|(refine ag_x ?_;simp [go_sem, undef, ba_size, h1, h2])|intro _|apply And.intro|(apply Yh;clear Yh Y)));all_goals first|apply Hold.mk|omega|with_reducible assumption|skip))
   (refine awp_if fun T F hT hF => ?_; simp [go_sem, h1, h2]; refine hT ?_; clear hT hF T F)
   (refine awp_r fun Y Yh => ?_; simp [go_sem, ba_size, hcut]; ((repeat' (first|(refine ag_x ?_;simp [go_sem, ba_size, hcut])|intro _|apply And.intro|(apply Yh;clear Yh Y)));all_goals first|apply Hold.mk|omega|with_reducible assumption|skip))
   refine tl2 _ ?_
   (refine cov_of ?_ ?_ <;> simp [go_sem])
  ·rw [if_neg h] at hZ
   subst hZ
   by_cases h1 : 0 ≤ prec
   ·have h2 : ¬ prec < s.length := fun q => h ⟨h1, q⟩
    (refine awp_sr fun Y Yh => ?_; simp [go_sem, ba_size, h1, h2]; ((repeat' (first|(refine ag_false ?_ ?_ ?_;(focus (simp [go_sem, undef, ba_size, h1, h2];done));(focus (simp [go_sem];done));simp [go_sem, ba_size, h1, h2])|(refine ag_true ?_ ?_;(focus (simp [go_sem, undef, ba_size, h1, h2];done));simp [go_sem, ba_size, h1, h2])|(refine ag_x ?_;simp [go_sem, undef, ba_size, h1, h2])|intro _|apply And.intro|(apply Yh;clear Yh Y)));all_goals first|apply Hold.mk|omega|with_reducible assumption|skip))
    (refine awp_if fun T F hT hF => ?_; simp [go_sem, h1, h2]; refine hF ?_; clear hT hF T F)
    refine awp_skip ?_
    refine tl2 _ ?_
    (refine cov_of ?_ ?_ <;> simp [go_sem])
   ·(refine awp_sr fun Y Yh => ?_; simp [go_sem, ba_size, h1]; ((repeat' (first|(refine ag_false ?_ ?_ ?_;(focus (simp [go_sem, undef, ba_size, h1];done));(focus (simp [go_sem];done));simp [go_sem, ba_size, h1])|(refine ag_true ?_ ?_;(focus (simp [go_sem, undef, ba_size, h1];done));simp [go_sem, ba_size, h1])|(refine ag_x ?_;simp [go_sem, undef, ba_size, h1])|intro _|apply And.intro|(apply Yh;clear Yh Y)));all_goals first|apply Hold.mk|omega|with_reducible assumption|skip))
    (refine awp_if fun T F hT hF => ?_; simp [go_sem, h1]; refine hF ?_; clear hT hF T F)
    refine awp_skip ?_
    refine tl2 _ ?_
    (refine cov_of ?_ ?_ <;> simp [go_sem])
 clear hK1
 (refine awp_sr fun Y Yh => ?_; simp [go_sem]; ((repeat' (first|(refine ag_x ?_;simp [go_sem])|intro _|apply And.intro|(apply Yh;clear Yh Y)));all_goals first|apply Hold.mk|omega|with_reducible assumption|skip))
 refine awp_block ?_
 (refine awp_sr fun Y Yh => ?_; simp [go_sem, b115]; ((repeat' (first|(refine ag_x ?_;simp [go_sem, b115])|intro _|apply And.intro|(apply Yh;clear Yh Y)));all_goals first|apply Hold.mk|omega|with_reducible assumption|skip))
 by_cases h115 : f.lt = 115
 ·rw [if_pos h115] at eP
  (refine awp_if fun T F hT hF => ?_; simp [go_sem, h115]; refine hT ?_; clear hT hF T F)
  refine awp_skip ?_
  refine tl1 _ _ (by omega) eP ?_
  (refine cov_of ?_ ?_ <;> simp [go_sem])
 ·rw [if_neg h115] at eP
  (refine awp_if fun T F hT hF => ?_; simp [go_sem, h115]; refine hF ?_; clear hT hF T F)
  (refine awp_sr fun Y Yh => ?_; simp [go_sem, b112]; ((repeat' (first|(refine ag_x ?_;simp [go_sem, b112])|intro _|apply And.intro|(apply Yh;clear Yh Y)));all_goals first|apply Hold.mk|omega|with_reducible assumption|skip))
  by_cases h112 : f.lt = 112
  ·rw [if_pos h112] at eP
   (refine awp_if fun T F hT hF => ?_; simp [go_sem, h112]; refine hT ?_; clear hT hF T F)
   (refine awp_r fun Y Yh => ?_; simp [go_sem]; ((repeat' (first|(refine ag_x ?_;simp [go_sem])|intro _|apply And.intro|(apply Yh;clear Yh Y)));all_goals first|apply Hold.mk|omega|with_reducible assumption|skip))
   ((try refine CallT.toA ?_); refine callT_m (.inl ⟨rfl,rfl⟩) (by simp [go_sem]) ?_; intro args ha; simp [go_sem] at ha; subst ha; refine ⟨_, hQ, ?_⟩; rintro _ rfl; simp [go_sem]; ((repeat' (first|(refine ag_x ?_;simp [go_sem])|intro _|apply And.intro|(apply Yh;clear Yh Y)));all_goals first|apply Hold.mk|omega|with_reducible assumption|skip))
   refine tl1 _ _ hql eP ?_
   (refine cov_of ?_ ?_ <;> simp [go_sem])
  ·rw [if_neg h112] at eP
   (refine awp_if fun T F hT hF => ?_; simp [go_sem, h112]; refine hF ?_; clear hT hF T F)
   (refine awp_sr fun Y Yh => ?_; simp [go_sem, b99]; ((repeat' (first|(refine ag_x ?_;simp [go_sem, b99])|intro _|apply And.intro|(apply Yh;clear Yh Y)));all_goals first|apply Hold.mk|omega|with_reducible assumption|skip))
   by_cases h99 : f.lt = 99
   ·rw [if_pos h99] at eP
    (refine awp_if fun T F hT hF => ?_; simp [go_sem, h99]; refine hT ?_; clear hT hF T F)
    refine awp_seq_k fun K7 hK7 => ?_
    cases his : a.is with
    | true =>
     have etx : textV a = a.tx := by unfold textV; rw [if_pos his]
     rw [if_pos his] at eP
     rw [etx] at *
     cases htx : a.tx with
     | nil =>
      rw [if_pos htx] at eP
      rw [eP] at eW
      simp only at eW
      (refine awp_sr fun Y Yh => ?_; simp [go_sem, his]; ((repeat' (first|(refine ag_false ?_ ?_ ?_;(focus (simp [go_sem, undef, his];done));(focus (simp [go_sem];done));simp [go_sem, his])|(refine ag_true ?_ ?_;(focus (simp [go_sem, undef, his];done));simp [go_sem, his])|(refine ag_x ?_;simp [go_sem, undef, his])|intro _|apply And.intro|(apply Yh;clear Yh Y)));all_goals first|apply Hold.mk|omega|with_reducible assumption|skip))
      (refine awp_if fun T F hT hF => ?_; simp [go_sem]; refine hT ?_; clear hT hF T F)
      (refine awp_sr fun Y Yh => ?_; simp [go_sem]; ((repeat' (first|(refine ag_x ?_;simp [go_sem])|intro _|apply And.intro|(apply Yh;clear Yh Y)));all_goals first|apply Hold.mk|omega|with_reducible assumption|skip))
      (refine awp_ret ?_; simp [go_sem, eW])
     | cons c r =>
      rw [if_neg (by rw [htx]; simp), htx, List.take_succ_cons, List.take_zero] at eP
      rw [eP] at eW
      simp only at eW
      have hF := hFil [c] (by simp)
      generalize filV [c] width left = Z at *
      have hcut : ({ data := (c :: r).toArray } : ByteArray).extract 0 1 = { data := [c].toArray } := by rw [ba_cut]; rfl
      (refine awp_sr fun Y Yh => ?_; simp [go_sem, his]; ((repeat' (first|(refine ag_false ?_ ?_ ?_;(focus (simp [go_sem, undef, his];done));(focus (simp [go_sem];done));simp [go_sem, his])|(refine ag_true ?_ ?_;(focus (simp [go_sem, undef, his];done));simp [go_sem, his])|(refine ag_x ?_;simp [go_sem, undef, his])|intro _|apply And.intro|(apply Yh;clear Yh Y)));all_goals first|apply Hold.mk|omega|with_reducible assumption|skip))
      (refine awp_if fun T F hT hF => ?_; simp [go_sem]; refine hF ?_; clear hT hF T F)
      refine awp_skip ?_
      refine hK7 _ ?_; clear hK7
      refine awp_seq_k fun K9 hK9 => ?_
      (refine awp_sr fun Y Yh => ?_; simp [go_sem, his]; ((repeat' (first|(refine ag_x ?_;simp [go_sem, his])|intro _|apply And.intro|(apply Yh;clear Yh Y)));all_goals first|apply Hold.mk|omega|with_reducible assumption|skip))
      (refine awp_if fun T F hT hF => ?_; simp [go_sem]; refine hT ?_; clear hT hF T F)
      (refine awp_r fun Y Yh => ?_; simp [go_sem, ba_size, hcut]; ((repeat' (first|(refine ag_x ?_;simp [go_sem, ba_size, hcut])|intro _|apply And.intro|(apply Yh;clear Yh Y)));all_goals first|apply Hold.mk|omega|with_reducible assumption|skip))
      refine hK9 _ ?_; clear hK9
      (refine awp_sr fun Y Yh => ?_; simp [go_sem]; ((repeat' (first|(refine ag_x ?_;simp [go_sem])|intro _|apply And.intro|(apply Yh;clear Yh Y)));all_goals first|apply Hold.mk|omega|with_reducible assumption|skip))
      ((try refine CallT.toA ?_); refine callT_m (.inl ⟨rfl,rfl⟩) (by simp [go_sem]) ?_; intro args ha; simp [go_sem] at ha; subst ha; refine ⟨_, hF, ?_⟩; rintro _ rfl; simp [go_sem]; ((repeat' (first|(refine ag_x ?_;simp [go_sem])|intro _|apply And.intro|(apply Yh;clear Yh Y)));all_goals first|apply Hold.mk|omega|with_reducible assumption|skip))
      (refine awp_ret ?_; simp [go_sem, eW])
    | false =>
     rw [if_neg (by simp [his])] at eP
     by_cases hr : a.int < 0 ∨ 255 < a.int
     ·rw [if_pos hr] at eP
      rw [eP] at eW
      simp only at eW
      by_cases hr1 : a.int < 0
      ·(refine awp_sr fun Y Yh => ?_; simp [go_sem, his, hr1]; ((repeat' (first|(refine ag_false ?_ ?_ ?_;(focus (simp [go_sem, undef, his, hr1];done));(focus (simp [go_sem];done));simp [go_sem, his, hr1])|(refine ag_true ?_ ?_;(focus (simp [go_sem, undef, his, hr1];done));simp [go_sem, his, hr1])|(refine ag_x ?_;simp [go_sem, undef, his, hr1])|intro _|apply And.intro|(apply Yh;clear Yh Y)));all_goals first|apply Hold.mk|omega|with_reducible assumption|skip))
       (refine awp_if fun T F hT hF => ?_; simp [go_sem]; refine hT ?_; clear hT hF T F)
       (refine awp_sr fun Y Yh => ?_; simp [go_sem]; ((repeat' (first|(refine ag_x ?_;simp [go_sem])|intro _|apply And.intro|(apply Yh;clear Yh Y)));all_goals first|apply Hold.mk|omega|with_reducible assumption|skip))
       (refine awp_ret ?_; simp [go_sem, eW])
      ·have hr2 : 255 < a.int := hr.resolve_left hr1
       (refine awp_sr fun Y Yh => ?_; simp [go_sem, his, hr1, hr2]; ((repeat' (first|(refine ag_false ?_ ?_ ?_;(focus (simp [go_sem, undef, his, hr1, hr2];done));(focus (simp [go_sem];done));simp [go_sem, his, hr1, hr2])|(refine ag_true ?_ ?_;(focus (simp [go_sem, undef, his, hr1, hr2];done));simp [go_sem, his, hr1, hr2])|(refine ag_x ?_;simp [go_sem, undef, his, hr1, hr2])|intro _|apply And.intro|(apply Yh;clear Yh Y)));all_goals first|apply Hold.mk|omega|with_reducible assumption|skip))
       (refine awp_if fun T F hT hF => ?_; simp [go_sem]; refine hT ?_; clear hT hF T F)
       (refine awp_sr fun Y Yh => ?_; simp [go_sem]; ((repeat' (first|(refine ag_x ?_;simp [go_sem])|intro _|apply And.intro|(apply Yh;clear Yh Y)));all_goals first|apply Hold.mk|omega|with_reducible assumption|skip))
       (refine awp_ret ?_; simp [go_sem, eW])
     ·rw [if_neg hr] at eP
      rw [eP] at eW
      simp only at eW
      rw [not_or] at hr
      obtain ⟨hr1, hr2⟩ := hr
      have hF := hFil [UInt8.ofNat a.int.toNat] (by simp)
      generalize filV [UInt8.ofNat a.int.toNat] width left = Z at *
      have hwr : IntKind.u8.wrap a.int = a.int := by rw [IntKind.wrap_u8]; omega
      have hbd : bytesD [[D.v (.int .u8 a.int)]] = some [UInt8.ofNat a.int.toNat] := by
       have e : ((UInt8.ofNat a.int.toNat).toNat : Int) = a.int := by simp; omega
       have := bytesD_map [UInt8.ofNat a.int.toNat]
       simp only [List.map_cons, List.map_nil, e] at this
       exact this
      (refine awp_sr fun Y Yh => ?_; simp [go_sem, his, hr1, hr2]; ((repeat' (first|(refine ag_false ?_ ?_ ?_;(focus (simp [go_sem, undef, his, hr1, hr2];done));(focus (simp [go_sem];done));simp [go_sem, his, hr1, hr2])|(refine ag_true ?_ ?_;(focus (simp [go_sem, undef, his, hr1, hr2];done));simp [go_sem, his, hr1, hr2])|(refine ag_x ?_;simp [go_sem, undef, his, hr1, hr2])|intro _|apply And.intro|(apply Yh;clear Yh Y)));all_goals first|apply Hold.mk|omega|with_reducible assumption|skip))
      (refine awp_if fun T F hT hF => ?_; simp [go_sem]; refine hF ?_; clear hT hF T F)
      refine awp_skip ?_
      refine hK7 _ ?_; clear hK7
      refine awp_seq_k fun K9 hK9 => ?_
      (refine awp_sr fun Y Yh => ?_; simp [go_sem, his]; ((repeat' (first|(refine ag_x ?_;simp [go_sem, his])|intro _|apply And.intro|(apply Yh;clear Yh Y)));all_goals first|apply Hold.mk|omega|with_reducible assumption|skip))
      (refine awp_if fun T F hT hF => ?_; simp [go_sem]; refine hF ?_; clear hT hF T F)
      (refine awp_r fun Y Yh => ?_; simp [go_sem, hwr, hbd]; ((repeat' (first|(refine ag_x ?_;simp [go_sem, hwr, hbd])|intro _|apply And.intro|(apply Yh;clear Yh Y)));all_goals first|apply Hold.mk|omega|with_reducible assumption|skip))
      refine hK9 _ ?_; clear hK9
      (refine awp_sr fun Y Yh => ?_; simp [go_sem]; ((repeat' (first|(refine ag_x ?_;simp [go_sem])|intro _|apply And.intro|(apply Yh;clear Yh Y)));all_goals first|apply Hold.mk|omega|with_reducible assumption|skip))
      ((try refine CallT.toA ?_); refine callT_m (.inl ⟨rfl,rfl⟩) (by simp [go_sem]) ?_; intro args ha; simp [go_sem] at ha; subst ha; refine ⟨_, hF, ?_⟩; rintro _ rfl; simp [go_sem]; ((repeat' (first|(refine ag_x ?_;simp [go_sem])|intro _|apply And.intro|(apply Yh;clear Yh Y)));all_goals first|apply Hold.mk|omega|with_reducible assumption|skip))
      (refine awp_ret ?_; simp [go_sem, eW])
   ·rw [if_neg h99] at eP
    have hNL : NL f.lt := by
     have h := hl
     simp only [lets, List.mem_cons, List.not_mem_nil, or_false] at h
     unfold NL
     rcases h with h | h | h | h | h | h | h | h
     ·exact .inl h
     ·exact .inr (.inl h)
     ·exact .inr (.inr (.inl h))
     ·exact .inr (.inr (.inr (.inl h)))
     ·exact .inr (.inr (.inr (.inr h)))
     ·exact absurd h h115
     ·exact absurd h h99
     ·exact absurd h h112
    (refine awp_if fun T F hT hF => ?_; simp [go_sem, h99]; refine hF ?_; clear hT hF T F)
    unfold numQ at hNq
    (refine awp_sr fun Y Yh => ?_; simp [go_sem]; ((repeat' (first|(refine ag_x ?_;simp [go_sem])|intro _|apply And.intro|(apply Yh;clear Yh Y)));all_goals first|apply Hold.mk|omega|with_reducible assumption|skip))
    cases hna : numA a with
    | none =>
     rw [hna] at eP hNq
     simp only [Option.map_none] at eP
     rw [eP] at eW
     simp only at eW hNq
     ((try refine CallT.toA ?_); refine callT_m (.inl ⟨rfl,rfl⟩) (by simp [go_sem]) ?_; intro args ha; simp [go_sem] at ha; subst ha; refine ⟨_, hNq, ?_⟩; rintro _ rfl; simp [go_sem]; ((repeat' (first|(refine ag_x ?_;simp [go_sem])|intro _|apply And.intro|(apply Yh;clear Yh Y)));all_goals first|apply Hold.mk|omega|with_reducible assumption|skip))
     refine awp_seq_k fun K11 hK11 => ?_
     (refine awp_sr fun Y Yh => ?_; simp [go_sem]; ((repeat' (first|(refine ag_x ?_;simp [go_sem])|intro _|apply And.intro|(apply Yh;clear Yh Y)));all_goals first|apply Hold.mk|omega|with_reducible assumption|skip))
     (refine awp_if fun T F hT hF => ?_; simp [go_sem]; refine hT ?_; clear hT hF T F)
     (refine awp_sr fun Y Yh => ?_; simp [go_sem]; ((repeat' (first|(refine ag_x ?_;simp [go_sem])|intro _|apply And.intro|(apply Yh;clear Yh Y)));all_goals first|apply Hold.mk|omega|with_reducible assumption|skip))
     (refine awp_ret ?_; simp [go_sem, eW])
    | some n =>
     rw [hna] at eP hNq
     simp only [Option.map_some] at eP
     rw [eP] at eW
     simp only at eW hNq
     have hWh := whole_spec f n width prec left (numA_in ha hna) hNL hw hp
     rw [whole_num f n width prec left hp.1] at hWh
     generalize numV { toFd f with wd := width, pr := prec, lf := left } n = Z at *
     ((try refine CallT.toA ?_); refine callT_m (.inl ⟨rfl,rfl⟩) (by simp [go_sem]) ?_; intro args ha; simp [go_sem] at ha; subst ha; refine ⟨_, hNq, ?_⟩; rintro _ rfl; simp [go_sem]; ((repeat' (first|(refine ag_x ?_;simp [go_sem])|intro _|apply And.intro|(apply Yh;clear Yh Y)));all_goals first|apply Hold.mk|omega|with_reducible assumption|skip))
     refine awp_seq_k fun K11 hK11 => ?_
     (refine awp_sr fun Y Yh => ?_; simp [go_sem]; ((repeat' (first|(refine ag_x ?_;simp [go_sem])|intro _|apply And.intro|(apply Yh;clear Yh Y)));all_goals first|apply Hold.mk|omega|with_reducible assumption|skip))
     (refine awp_if fun T F hT hF => ?_; simp [go_sem]; refine hF ?_; clear hT hF T F)
     refine awp_skip ?_
     refine hK11 _ ?_; clear hK11
     (refine awp_sr fun Y Yh => ?_; simp [go_sem]; ((repeat' (first|(refine ag_x ?_;simp [go_sem])|intro _|apply And.intro|(apply Yh;clear Yh Y)));all_goals first|apply Hold.mk|omega|with_reducible assumption|skip))
     ((try refine CallT.toA ?_); refine callT_m (.inl ⟨rfl,rfl⟩) (by simp [go_sem]) ?_; intro args ha; simp [go_sem] at ha; subst ha; refine ⟨_, hWh, ?_⟩; rintro _ rfl; simp [go_sem]; ((repeat' (first|(refine ag_x ?_;simp [go_sem])|intro _|apply And.intro|(apply Yh;clear Yh Y)));all_goals first|apply Hold.mk|omega|with_reducible assumption|skip))
     (refine awp_ret ?_; simp [go_sem, eW])
@[go_sem] abbrev usB (g u : Nat) : Nat × (Nat × Blk) := (900006, (g, .box [dI u]))
def srV (args : List Ag) (u : Nat) (n : Int) : Int × Nat × Nat :=
 if n ≠ -2 then (n, 0, u) else
 match args[u]? with
 | none => (0, 14, u)
 | some a => if a.is = true ∨ 1000 < a.int then (0, 1, u + 1) else (a.int, 0, u + 1)
set_option maxHeartbeats 8000000 in
theorem starred_spec (args : List Ag) (u g : Nat) (n : Int) (hu : u ≤ args.length) (hl : args.length ≤ 1000000) :
  ACall Tryz.prog 102 [dI n, dAs args, .ptr 900006 g 0] [usB g u] [900006] fun ps r => ps = [(g, .box [dI (srV args u n).2.2])] ∧ r = .tup [dI (srV args u n).1, dI (srV args u n).2.1] := by 
 refine acall_of Tryz.func102 rfl rfl Tryz.ntmps102 (rs := [.tmp 6, .tmp 7]) (tys := [3, 34]) rfl rfl (by simp) (by simp [notFroz]) ?_
 generalize hV : srV args u n = V
 unfold srV at hV
 (refine awp_sr fun Y Yh => ?_; simp [go_sem]; ((repeat' (first|(refine ag_x ?_;simp [go_sem])|intro _|apply And.intro|(apply Yh;clear Yh Y)));all_goals first|apply Hold.mk|omega|with_reducible assumption|skip))
 refine awp_seq_k fun K1 hK1 => ?_
 (refine awp_sr fun Y Yh => ?_; simp [go_sem]; ((repeat' (first|(refine ag_x ?_;simp [go_sem])|intro _|apply And.intro|(apply Yh;clear Yh Y)));all_goals first|apply Hold.mk|omega|with_reducible assumption|skip))
 by_cases h2 : n = -2
 ·rw [if_neg (by simp [h2])] at hV
  (refine awp_if fun T F hT hF => ?_; simp [go_sem, h2]; refine hF ?_; clear hT hF T F)
  refine awp_skip ?_
  refine hK1 _ ?_; clear hK1
  refine awp_seq_k fun K3 hK3 => ?_
  (refine awp_sr fun Y Yh => ?_; simp [go_sem]; ((repeat' (first|(refine ag_x ?_;simp [go_sem])|intro _|apply And.intro|(apply Yh;clear Yh Y)));all_goals first|apply Hold.mk|omega|with_reducible assumption|skip))
  by_cases h4 : u < args.length
  ·obtain ⟨a, ha⟩ : ∃ a, args[u]? = some a := ⟨_, List.getElem?_eq_getElem h4⟩
   rw [ha] at hV
   simp only at hV
   have h4q : ¬ args.length ≤ u := by omega
   (refine awp_if fun T F hT hF => ?_; simp [go_sem, h4q]; refine hF ?_; clear hT hF T F)
   refine awp_skip ?_
   refine hK3 _ ?_; clear hK3
   (refine awp_sr fun Y Yh => ?_; simp [go_sem, ha]; ((repeat' (first|(refine ag_x ?_;simp [go_sem, ha])|intro _|apply And.intro|(apply Yh;clear Yh Y)));all_goals first|apply Hold.mk|omega|with_reducible assumption|skip))
   (refine awp_sr fun Y Yh => ?_; simp [go_sem]; ((repeat' (first|(refine ag_x ?_;simp [go_sem])|intro _|apply And.intro|(apply Yh;clear Yh Y)));all_goals first|apply Hold.mk|omega|with_reducible assumption|skip))
   refine awp_seq_k fun K5 hK5 => ?_
   cases his : a.is with
   | true =>
    rw [if_pos (.inl his)] at hV
    subst hV
    (refine awp_sr fun Y Yh => ?_; simp [go_sem, his]; ((repeat' (first|(refine ag_false ?_ ?_ ?_;(focus (simp [go_sem, undef, his];done));(focus (simp [go_sem];done));simp [go_sem, his])|(refine ag_true ?_ ?_;(focus (simp [go_sem, undef, his];done));simp [go_sem, his])|(refine ag_x ?_;simp [go_sem, undef, his])|intro _|apply And.intro|(apply Yh;clear Yh Y)));all_goals first|apply Hold.mk|omega|with_reducible assumption|skip))
    (refine awp_if fun T F hT hF => ?_; simp [go_sem]; refine hT ?_; clear hT hF T F)
    (refine awp_sr fun Y Yh => ?_; simp [go_sem]; ((repeat' (first|(refine ag_x ?_;simp [go_sem])|intro _|apply And.intro|(apply Yh;clear Yh Y)));all_goals first|apply Hold.mk|omega|with_reducible assumption|skip))
    (refine awp_ret ?_; simp [go_sem])
   | false =>
    by_cases hi : 1000 < a.int
    ·rw [if_pos (.inr hi)] at hV
     subst hV
     (refine awp_sr fun Y Yh => ?_; simp [go_sem, his, hi]; ((repeat' (first|(refine ag_false ?_ ?_ ?_;(focus (simp [go_sem, undef, his, hi];done));(focus (simp [go_sem];done));simp [go_sem, his, hi])|(refine ag_true ?_ ?_;(focus (simp [go_sem, undef, his, hi];done));simp [go_sem, his, hi])|(refine ag_x ?_;simp [go_sem, undef, his, hi])|intro _|apply And.intro|(apply Yh;clear Yh Y)));all_goals first|apply Hold.mk|omega|with_reducible assumption|skip))
     (refine awp_if fun T F hT hF => ?_; simp [go_sem, hi]; refine hT ?_; clear hT hF T F)
     (refine awp_sr fun Y Yh => ?_; simp [go_sem]; ((repeat' (first|(refine ag_x ?_;simp [go_sem])|intro _|apply And.intro|(apply Yh;clear Yh Y)));all_goals first|apply Hold.mk|omega|with_reducible assumption|skip))
     (refine awp_ret ?_; simp [go_sem])
    ·rw [if_neg (by rintro (q | q); (rw [his] at q; cases q); exact hi q)] at hV
     subst hV
     (refine awp_sr fun Y Yh => ?_; simp [go_sem, his, hi]; ((repeat' (first|(refine ag_false ?_ ?_ ?_;(focus (simp [go_sem, undef, his, hi];done));(focus (simp [go_sem];done));simp [go_sem, his, hi])|(refine ag_true ?_ ?_;(focus (simp [go_sem, undef, his, hi];done));simp [go_sem, his, hi])|(refine ag_x ?_;simp [go_sem, undef, his, hi])|intro _|apply And.intro|(apply Yh;clear Yh Y)));all_goals first|apply Hold.mk|omega|with_reducible assumption|skip))
     (refine awp_if fun T F hT hF => ?_; simp [go_sem, hi]; refine hF ?_; clear hT hF T F)
     refine awp_skip ?_
     refine hK5 _ ?_; clear hK5
     (refine awp_sr fun Y Yh => ?_; simp [go_sem]; ((repeat' (first|(refine ag_x ?_;simp [go_sem])|intro _|apply And.intro|(apply Yh;clear Yh Y)));all_goals first|apply Hold.mk|omega|with_reducible assumption|skip))
     (refine awp_ret ?_; simp [go_sem])
  ·have h4q : args.length ≤ u := by omega
   rw [List.getElem?_eq_none (by omega)] at hV
   simp only at hV
   subst hV
   (refine awp_if fun T F hT hF => ?_; simp [go_sem, h4q]; refine hT ?_; clear hT hF T F)
   (refine awp_sr fun Y Yh => ?_; simp [go_sem]; ((repeat' (first|(refine ag_x ?_;simp [go_sem])|intro _|apply And.intro|(apply Yh;clear Yh Y)));all_goals first|apply Hold.mk|omega|with_reducible assumption|skip))
   (refine awp_ret ?_; simp [go_sem])
 ·rw [if_pos h2] at hV
  subst hV
  (refine awp_if fun T F hT hF => ?_; simp [go_sem, h2]; refine hT ?_; clear hT hF T F)
  (refine awp_sr fun Y Yh => ?_; simp [go_sem]; ((repeat' (first|(refine ag_x ?_;simp [go_sem])|intro _|apply And.intro|(apply Yh;clear Yh Y)));all_goals first|apply Hold.mk|omega|with_reducible assumption|skip))
  (refine awp_ret ?_; simp [go_sem])
set_option maxHeartbeats 8000000 in
theorem found_spec (f : Rf) (args : List Ag) (u g : Nat) (hu : u ≤ args.length) (hl : args.length ≤ 1000000) :
  ACall Tryz.prog 103 [dRf f, dAs args, .ptr 900006 g 0] [usB g u] [900006] fun ps r => ps = [(g, .box [dI (ofA args u f.nm).2.2])] ∧ r = .tup [dA (ofA args u f.nm).1, dI (ofA args u f.nm).2.1] := by 
 refine acall_of Tryz.func103 rfl rfl Tryz.ntmps103 (rs := [.cell 6 83, .tmp 7]) (tys := [83, 34]) rfl rfl (by simp) (by simp [notFroz]) ?_
 generalize hV : ofA args u f.nm = V
 unfold ofA at hV
 (refine awp_sr fun Y Yh => ?_; simp [go_sem]; ((repeat' (first|(refine ag_x ?_;simp [go_sem])|intro _|apply And.intro|(apply Yh;clear Yh Y)));all_goals first|apply Hold.mk|omega|with_reducible assumption|skip))
 rename_i g3 g6
 refine awp_seq_k fun K1 hK1 => ?_
 (refine awp_sr fun Y Yh => ?_; simp [go_sem]; ((repeat' (first|(refine ag_x ?_;simp [go_sem])|intro _|apply And.intro|(apply Yh;clear Yh Y)));all_goals first|apply Hold.mk|omega|with_reducible assumption|skip))
 by_cases hn : f.nm = []
 ·rw [if_pos hn] at hV
  have hb : f.nm.isEmpty = true := by rw [hn]; rfl
  (refine awp_if fun T F hT hF => ?_; simp [go_sem, hb]; refine hT ?_; clear hT hF T F)
  refine awp_seq_k fun K3 hK3 => ?_
  (refine awp_sr fun Y Yh => ?_; simp [go_sem]; ((repeat' (first|(refine ag_x ?_;simp [go_sem])|intro _|apply And.intro|(apply Yh;clear Yh Y)));all_goals first|apply Hold.mk|omega|with_reducible assumption|skip))
  by_cases h4 : u < args.length
  ·obtain ⟨a, ha⟩ : ∃ a, args[u]? = some a := ⟨_, List.getElem?_eq_getElem h4⟩
   rw [ha] at hV
   simp only at hV
   subst hV
   have h4q : ¬ args.length ≤ u := by omega
   (refine awp_if fun T F hT hF => ?_; simp [go_sem, h4q]; refine hF ?_; clear hT hF T F)
   refine awp_skip ?_
   refine hK3 _ ?_; clear hK3
   (refine awp_sr fun Y Yh => ?_; simp [go_sem]; ((repeat' (first|(refine ag_x ?_;simp [go_sem])|intro _|apply And.intro|(apply Yh;clear Yh Y)));all_goals first|apply Hold.mk|omega|with_reducible assumption|skip))
   (refine awp_sr fun Y Yh => ?_; simp [go_sem, ha]; ((repeat' (first|(refine ag_x ?_;simp [go_sem, ha])|intro _|apply And.intro|(apply Yh;clear Yh Y)));all_goals first|apply Hold.mk|omega|with_reducible assumption|skip))
   (refine awp_ret ?_; simp [go_sem])
  ·have h4q : args.length ≤ u := by omega
   rw [List.getElem?_eq_none (by omega)] at hV
   simp only at hV
   subst hV
   (refine awp_if fun T F hT hF => ?_; simp [go_sem, h4q]; refine hT ?_; clear hT hF T F)
   (refine awp_sr fun Y Yh => ?_; simp [go_sem]; ((repeat' (first|(refine ag_x ?_;simp [go_sem])|intro _|apply And.intro|(apply Yh;clear Yh Y)));all_goals first|apply Hold.mk|omega|with_reducible assumption|skip))
   (refine awp_ret ?_; simp [go_sem, ag0])
 ·rw [if_neg hn] at hV
  have hb : f.nm.isEmpty = false := by cases h : f.nm with | nil => exact absurd h hn | cons _ _ => rfl
  (refine awp_if fun T F hT hF => ?_; simp [go_sem, hb]; refine hF ?_; clear hT hF T F)
  refine awp_skip ?_
  refine hK1 _ ?_; clear hK1
  refine awp_seq_k fun K5 hK5 => ?_
  (refine awp_sr fun Y Yh => ?_; simp [go_sem]; ((repeat' (first|(refine ag_x ?_;simp [go_sem])|intro _|apply And.intro|(apply Yh;clear Yh Y)));all_goals first|apply Hold.mk|omega|with_reducible assumption|skip))
  refine awp_block ?_
  refine awp_loop (σ := Nat) (fun i => ⟨[(1, dAs args), (3, .ptr 3 g3 0), (6, .ptr 6 g6 0), (8, dI i)], [(6, (g6, .box [dS [], dB false, dI 0, dS []])), (3, (g3, .box (cRf f))), usB g u]⟩) (fun i => i ≤ args.length ∧ (args.take i).find? (fun a => a.nm == f.nm) = none) (fun i => args.length - i) 0 ?_ ?_ ?_
  ·(refine cov_of ?_ ?_ <;> simp [go_sem])
  ·simp
  rintro i ⟨hi, hfd⟩
  refine awp_seq_k fun K6 hK6 => ?_
  (refine awp_sr fun Y Yh => ?_; simp [go_sem]; ((repeat' (first|(refine ag_x ?_;simp [go_sem])|intro _|apply And.intro|(apply Yh;clear Yh Y)));all_goals first|apply Hold.mk|omega|with_reducible assumption|skip))
  by_cases h7 : i < args.length
  ·obtain ⟨a, ha⟩ : ∃ a, args[i]? = some a := ⟨_, List.getElem?_eq_getElem h7⟩
   have hta : args.take (i + 1) = args.take i ++ [a] := by rw [List.take_add_one, ha]; rfl
   (refine awp_if fun T F hT hF => ?_; simp [go_sem, h7]; refine hT ?_; clear hT hF T F)
   refine awp_skip ?_
   refine hK6 _ ?_; clear hK6
   refine awp_seq_k fun K8 hK8 => ?_
   refine awp_block ?_
   ((refine awp_dr (.qs [0, 1, 2, 3, 5, 4, 6, 7] (.nil)) (by kernel_rfl) ?_ ?_ ?_ ?_); (kernel_rfl); (exact (by decide +kernel)); (kernel_rfl); intro Y Yh; ((repeat' (first|(refine ag_x ?_;simp [go_sem, ha])|refine adr_nil ?_|((first|refine adr_qs fun Y Yh=>?_|refine adr_y fun Y Yh=>?_);simp [go_sem, ha])|intro _|apply And.intro|(apply Yh;clear Yh Y)));all_goals first|apply Hold.mk|omega|with_reducible assumption|skip))
   by_cases h9 : a.nm = f.nm
   ·have hb : (a.nm == f.nm) = true := by rw [beq_iff_eq]; exact h9
    have hfa : args.find? (fun a => a.nm == f.nm) = some a := by
     have e : args = args.take i ++ (a :: args.drop (i + 1)) := by
      have hg : args[i] = a := by rw [List.getElem?_eq_getElem h7] at ha; exact Option.some.inj ha
      rw [← hg, ← List.drop_eq_getElem_cons h7, List.take_append_drop]
     rw [e, List.find?_append, hfd]
     simp [hb]
    rw [hfa] at hV
    simp only at hV
    subst hV
    (refine awp_if fun T F hT hF => ?_; simp [go_sem, hb]; refine hT ?_; clear hT hF T F)
    (refine awp_sr fun Y Yh => ?_; simp [go_sem, ha]; ((repeat' (first|(refine ag_x ?_;simp [go_sem, ha])|intro _|apply And.intro|(apply Yh;clear Yh Y)));all_goals first|apply Hold.mk|omega|with_reducible assumption|skip))
    (refine awp_ret ?_; simp [go_sem])
   ·have hb : (a.nm == f.nm) = false := by rw [beq_eq_false_iff_ne]; exact h9
    (refine awp_if fun T F hT hF => ?_; simp [go_sem, hb]; refine hF ?_; clear hT hF T F)
    refine awp_skip ?_
    refine hK8 _ ?_; clear hK8
    (refine awp_r fun Y Yh => ?_; simp [go_sem]; ((repeat' (first|(refine ag_x ?_;simp [go_sem])|intro _|apply And.intro|(apply Yh;clear Yh Y)));all_goals first|apply Hold.mk|omega|with_reducible assumption|skip))
    refine ⟨i + 1, ?_, ⟨by omega, ?_⟩, by omega⟩
    ·(refine cov_of ?_ ?_ <;> simp [go_sem])
    ·rw [hta, List.find?_append, hfd]
     simp [hb]
  ·have : i = args.length := by omega
   subst this
   rw [List.take_length] at hfd
   rw [hfd] at hV
   simp only at hV
   subst hV
   (refine awp_if fun T F hT hF => ?_; simp [go_sem, h7]; refine hF ?_; clear hT hF T F)
   refine awp_exit ?_
   simp only [go_sem]
   refine hK5 _ ?_; clear hK5
   (refine awp_sr fun Y Yh => ?_; simp [go_sem]; ((repeat' (first|(refine ag_x ?_;simp [go_sem])|intro _|apply And.intro|(apply Yh;clear Yh Y)));all_goals first|apply Hold.mk|omega|with_reducible assumption|skip))
   (refine awp_ret ?_; simp [go_sem, ag0])
def fill2 (args : List Ag) (u : Nat) (g : Fld) : Bs × Nat × Nat :=
 let s := starP args u g
 if s.1 ≠ 0 then ([], s.1, s.2.1) else
 let o := ofA args s.2.1 g.nm
 if o.2.1 ≠ 0 then ([], o.2.1, o.2.2) else
 match putV s.2.2 o.1 with
 | none => ([], 1, o.2.2)
 | some t => (t, 0, o.2.2)
theorem starW_nm (args : List Ag) (u : Nat) (f : Fld) : (starW args u f).2.2.nm = f.nm ∧ (starW args u f).2.2.pr = f.pr := by
 unfold starW
 (repeat' split) <;> simp
theorem fill_two {args : List Ag} {u : Nat} {f : Fld} (h0 : f.lt ≠ 0) : fillV args u f = if (starW args u f).1 ≠ 0 then ([], (starW args u f).1, (starW args u f).2.1) else fill2 args (starW args u f).2.1 (starW args u f).2.2 := by
 unfold fillV
 rw [if_neg h0]
 unfold starsV fill2
 have hnm := (starW_nm args u f).1
 dsimp only
 by_cases h : (starW args u f).1 ≠ 0
 ·simp only [if_pos h]
 ·simp only [if_neg h, hnm]
  rfl
def oneV (args : List Ag) (u : Nat) (f : Rf) : Bs × Nat × Nat := if f.lt = 0 then (f.by', 0, u) else fillV args u (toFd f)
def RfOk (f : Rf) : Prop := (f.wd = -2 ∨ (-1 ≤ f.wd ∧ f.wd ≤ 1000)) ∧ (f.pr = -2 ∨ (-1 ≤ f.pr ∧ f.pr ≤ 1000)) ∧ (f.lt = 0 ∨ f.lt ∈ lets)
theorem starP_sr {args : List Ag} {u : Nat} {g : Fld} (hg : g.pr = -2 ∨ -1 ≤ g.pr) : starP args u g = ((srV args u g.pr).2.1, (srV args u g.pr).2.2, if (srV args u g.pr).2.1 = 0 then { g with pr := max (srV args u g.pr).1 (-1) } else g) := by
 unfold starP srV
 by_cases h : g.pr = -2
 ·rw [if_neg (by simp [h]), if_neg (by simp [h])]
  cases args[u]? with
  | none => rfl
  | some a =>
   simp only
   by_cases hc : a.is = true ∨ 1000 < a.int
   ·rw [if_pos hc, if_pos hc]; rfl
   ·rw [if_neg hc, if_neg hc]
    by_cases hn : a.int < 0
    ·rw [if_pos hn]
     simp only [if_true]
     rw [show max a.int (-1) = -1 by omega]
    ·rw [if_neg hn]
     simp only [if_true]
     rw [show max a.int (-1) = a.int by omega]
 ·rw [if_pos h, if_pos h]
  simp only [if_true]
  rw [show max g.pr (-1) = g.pr by omega]
theorem fill2_at {args : List Ag} {u : Nat} {g : Fld} (p : Int × Nat × Nat) (hp : srV args u g.pr = p) (hg : g.pr = -2 ∨ -1 ≤ g.pr) :
  fill2 args u g = if p.2.1 ≠ 0 then ([], p.2.1, p.2.2) else
   if (ofA args p.2.2 g.nm).2.1 ≠ 0 then ([], (ofA args p.2.2 g.nm).2.1, (ofA args p.2.2 g.nm).2.2) else
   ((writV { g with pr := max p.1 (-1) } (ofA args p.2.2 g.nm).1).1, (writV { g with pr := max p.1 (-1) } (ofA args p.2.2 g.nm).1).2, (ofA args p.2.2 g.nm).2.2) := by
 unfold fill2
 rw [starP_sr hg, hp]
 dsimp only
 by_cases h : p.2.1 = 0
 ·have hn : ¬ p.2.1 ≠ 0 := fun q => q h
  simp only [if_neg hn, if_pos h]
  unfold writV
  cases putV { g with pr := max p.1 (-1) } (ofA args p.2.2 g.nm).1 <;> rfl
 ·rw [if_pos h, if_pos h]
theorem srV_le {args : List Ag} {u : Nat} (h : u ≤ args.length) (n : Int) : (srV args u n).2.2 ≤ args.length := by
 unfold srV
 split
 ·exact h
 ·split
  ·exact h
  ·rename_i a ha; have := (List.getElem?_eq_some_iff.1 ha).1; split <;> simp <;> omega
theorem srV_ok {args : List Ag} {u : Nat} {n : Int} (hn : n = -2 ∨ (-1 ≤ n ∧ n ≤ 1000)) : (srV args u n).1 ≤ 1000 := by
 unfold srV
 split
 ·simp only; omega
 ·split
  ·simp
  ·split
   ·simp
   ·rename_i h; rw [not_or] at h; simp only; omega
theorem starW_sr (args : List Ag) (u : Nat) (F : Fld) : starW args u F = if (srV args u F.wd).2.1 ≠ 0 then ((srV args u F.wd).2.1, (srV args u F.wd).2.2, F) else
  if F.wd = -2 ∧ (srV args u F.wd).1 < 0 then (if (srV args u F.wd).1 < -1000 then (1, (srV args u F.wd).2.2, F) else (0, (srV args u F.wd).2.2, { F with wd := -(srV args u F.wd).1, lf := true }))
  else (0, (srV args u F.wd).2.2, { F with wd := (srV args u F.wd).1 }) := by
 by_cases h : F.wd = -2
 ·have hn2 : ¬ F.wd ≠ -2 := fun q => q h
  cases ha : args[u]? with
  | none =>
   have e1 : srV args u F.wd = (0, 14, u) := by unfold srV; rw [if_neg hn2, ha]
   have e2 : starW args u F = (14, u, F) := by unfold starW; rw [if_neg hn2, ha]
   rw [e1, e2]; rfl
  | some a =>
   by_cases hc : a.is = true ∨ 1000 < a.int
   ·have e1 : srV args u F.wd = (0, 1, u + 1) := by unfold srV; rw [if_neg hn2, ha]; simp only; rw [if_pos hc]
    have e2 : starW args u F = (1, u + 1, F) := by unfold starW; rw [if_neg hn2, ha]; simp only; rw [if_pos (hc.elim .inl (fun q => .inr (.inl q)))]
    rw [e1, e2]; rfl
   ·have e1 : srV args u F.wd = (a.int, 0, u + 1) := by unfold srV; rw [if_neg hn2, ha]; simp only; rw [if_neg hc]
    rw [e1]
    have z : ¬ ((0 : Nat) ≠ 0) := fun q => q rfl
    simp only [if_neg z]
    by_cases hn : a.int < 0
    ·rw [if_pos (c := F.wd = -2 ∧ a.int < 0) ⟨h, hn⟩]
     by_cases hm : a.int < -1000
     ·rw [if_pos hm]
      unfold starW; rw [if_neg hn2, ha]; simp only; rw [if_pos (.inr (.inr hm))]
     ·rw [if_neg hm]
      unfold starW; rw [if_neg hn2, ha]; simp only; rw [if_neg (by rintro (q | q | q); exact hc (.inl q); exact hc (.inr q); exact hm q), if_pos hn]
    ·rw [if_neg (c := F.wd = -2 ∧ a.int < 0) (fun q => hn q.2)]
     unfold starW; rw [if_neg hn2, ha]; simp only; rw [if_neg (by rintro (q | q | q); exact hc (.inl q); exact hc (.inr q); omega), if_neg hn]
 ·have e1 : srV args u F.wd = (F.wd, 0, u) := by unfold srV; rw [if_pos h]
  have e2 : starW args u F = (0, u, F) := by unfold starW; rw [if_pos h]
  rw [e1, e2]
  have z : ¬ ((0 : Nat) ≠ 0) := fun q => q rfl
  simp only [if_neg z]
  rw [if_neg (fun q => h q.1)]
set_option maxHeartbeats 16000000 in
theorem one_spec (args : List Ag) (u g : Nat) (f : Rf) (hA : AgsOk args) (hu : u ≤ args.length) (hf : RfOk f) :
  ACall Tryz.prog 64 [dRf f, dAs args, .ptr 900006 g 0] [usB g u] [900006] fun ps r => ps = [(g, .box [dI (oneV args u f).2.2])] ∧ r = .tup [dS (oneV args u f).1, dI (oneV args u f).2.1] := by 
 refine acall_of Tryz.func64 rfl rfl Tryz.ntmps64 (rs := [.tmp 6, .tmp 7]) (tys := [9, 34]) rfl rfl (by simp) (by simp [notFroz]) ?_
 have b0 : (f.lt.toNat = 0) = (f.lt = 0) := propext ⟨fun q => UInt8.toNat_inj.1 q, fun q => by rw [q]; rfl⟩
 have hal := hA.1
 generalize hV : oneV args u f = V
 unfold oneV at hV
 (refine awp_sr fun Y Yh => ?_; simp [go_sem]; ((repeat' (first|(refine ag_x ?_;simp [go_sem])|intro _|apply And.intro|(apply Yh;clear Yh Y)));all_goals first|apply Hold.mk|omega|with_reducible assumption|skip))
 rename_i g3
 refine awp_seq_k fun K1 hK1 => ?_
 (refine awp_sr fun Y Yh => ?_; simp [go_sem, b0]; ((repeat' (first|(refine ag_x ?_;simp [go_sem, b0])|intro _|apply And.intro|(apply Yh;clear Yh Y)));all_goals first|apply Hold.mk|omega|with_reducible assumption|skip))
 by_cases h0 : f.lt = 0
 ·rw [if_pos h0] at hV
  subst hV
  (refine awp_if fun T F hT hF => ?_; simp [go_sem, b0, h0]; refine hT ?_; clear hT hF T F)
  (refine awp_sr fun Y Yh => ?_; simp [go_sem]; ((repeat' (first|(refine ag_x ?_;simp [go_sem])|intro _|apply And.intro|(apply Yh;clear Yh Y)));all_goals first|apply Hold.mk|omega|with_reducible assumption|skip))
  (refine awp_ret ?_; simp [go_sem])
 ·rw [if_neg h0, fill_two (f := toFd f) h0] at hV
  have c45 := contains_spec f.fl 45
  have hS := starred_spec args u g f.wd hu hal
  have hle := srV_le hu f.wd
  have hwk := srV_ok (args := args) (u := u) hf.1
  have hw1 : f.wd ≠ -2 → (srV args u f.wd).1 = f.wd := fun q => by unfold srV; rw [if_pos q]
  have hW := starW_sr args u (toFd f)
  have hwd : (toFd f).wd = f.wd := rfl
  rw [hwd] at hW
  clear hwd
  generalize starW args u (toFd f) = W at *
  have z : ¬ ((0 : Nat) ≠ 0) := fun q => q rfl
  generalize hlf : f.fl.contains 45 = lf0 at *
  generalize srV args u f.wd = q at *
  obtain ⟨w, e, u1⟩ := q
  simp only at hW hS hle hwk hw1
  (refine awp_if fun T F hT hF => ?_; simp [go_sem, b0, h0]; refine hF ?_; clear hT hF T F)
  refine awp_skip ?_
  refine hK1 _ ?_; clear hK1
  (refine awp_sr fun Y Yh => ?_; simp [go_sem]; ((repeat' (first|(refine ag_x ?_;simp [go_sem])|intro _|apply And.intro|(apply Yh;clear Yh Y)));all_goals first|apply Hold.mk|omega|with_reducible assumption|skip))
  ((try refine CallT.toA ?_); refine callT_m (.inl ⟨rfl,rfl⟩) (by simp [go_sem]) ?_; intro args ha; simp [go_sem] at ha; subst ha; refine ⟨_, c45, ?_⟩; rintro _ rfl; simp [go_sem]; ((repeat' (first|(refine ag_x ?_;simp [go_sem])|intro _|apply And.intro|(apply Yh;clear Yh Y)));all_goals first|apply Hold.mk|omega|with_reducible assumption|skip))
  (refine awp_sr fun Y Yh => ?_; simp [go_sem]; ((repeat' (first|(refine ag_x ?_;simp [go_sem])|intro _|apply And.intro|(apply Yh;clear Yh Y)));all_goals first|apply Hold.mk|omega|with_reducible assumption|skip))
  (refine callA_l [900006] (.inl ⟨rfl,rfl⟩) (by simp [go_sem]) ?_; intro args ha; simp [go_sem] at ha; subst ha; refine ⟨_, _, hS, (by simp [go_sem]), ?_⟩; rintro ps r hps ⟨rfl, rfl⟩; simp [go_sem]; ((repeat' (first|(refine ag_x ?_;simp [go_sem])|intro _|apply And.intro|(apply Yh;clear Yh Y)));all_goals first|apply Hold.mk|omega|with_reducible assumption|skip))
  refine awp_seq_k fun K3 hK3 => ?_
  by_cases he : e = 0
  ·subst he
   rw [if_neg z] at hW
   (refine awp_sr fun Y Yh => ?_; simp [go_sem]; ((repeat' (first|(refine ag_x ?_;simp [go_sem])|intro _|apply And.intro|(apply Yh;clear Yh Y)));all_goals first|apply Hold.mk|omega|with_reducible assumption|skip))
   (refine awp_if fun T F hT hF => ?_; simp [go_sem]; refine hF ?_; clear hT hF T F)
   refine awp_skip ?_
   refine hK3 _ ?_; clear hK3
   refine awp_seq_k fun K5 hK5 => ?_
   have tl5 : ∀ (wd : Int) (lf : Bool) S', (-1 ≤ wd ∧ wd ≤ 1000) → fill2 args u1 { toFd f with wd := wd, lf := lf } = V → Cov S' ⟨[(1, dAs args), (2, .ptr 900006 g 0), (3, .ptr 3 g3 0), (8, dB lf), (9, dI wd)], [(3, (g3, .box (cRf f))), usB g u1]⟩ → K5 S' := fun wd lf S' hwd hV hS' => by
    refine hK5 _ ?_; clear hK5
    refine awp_cov hS' ?_; clear hS'
    have hS2 := starred_spec args u1 g f.pr hle hal
    have hle2 := srV_le hle f.pr
    have hpk := srV_ok (args := args) (u := u1) hf.2.1
    rw [fill2_at _ rfl (by have := hf.2.1; simp only [toFd]; omega)] at hV
    have hpr : ({ toFd f with wd := wd, lf := lf } : Fld).pr = f.pr := rfl
    have hnm : ({ toFd f with wd := wd, lf := lf } : Fld).nm = f.nm := rfl
    rw [hpr, hnm] at hV
    clear hpr hnm
    generalize srV args u1 f.pr = p at *
    obtain ⟨p1, pe, u2⟩ := p
    simp only at hV hS2 hle2 hpk
    (refine awp_sr fun Y Yh => ?_; simp [go_sem]; ((repeat' (first|(refine ag_x ?_;simp [go_sem])|intro _|apply And.intro|(apply Yh;clear Yh Y)));all_goals first|apply Hold.mk|omega|with_reducible assumption|skip))
    (refine callA_l [900006] (.inl ⟨rfl,rfl⟩) (by simp [go_sem]) ?_; intro args ha; simp [go_sem] at ha; subst ha; refine ⟨_, _, hS2, (by simp [go_sem]), ?_⟩; rintro ps r hps ⟨rfl, rfl⟩; simp [go_sem]; ((repeat' (first|(refine ag_x ?_;simp [go_sem])|intro _|apply And.intro|(apply Yh;clear Yh Y)));all_goals first|apply Hold.mk|omega|with_reducible assumption|skip))
    refine awp_seq_k fun K6 hK6 => ?_
    (refine awp_sr fun Y Yh => ?_; simp [go_sem]; ((repeat' (first|(refine ag_x ?_;simp [go_sem])|intro _|apply And.intro|(apply Yh;clear Yh Y)));all_goals first|apply Hold.mk|omega|with_reducible assumption|skip))
    by_cases hpe : pe = 0
    ·subst hpe
     simp only [ne_eq, not_true_eq_false, if_false] at hV
     have hFd := found_spec f args u2 g hle2 hal
     have hoa := ofA_ok hA u2 f.nm
     generalize ofA args u2 f.nm = o at *
     obtain ⟨oa, oe, u3⟩ := o
     simp only at hV hFd hoa
     (refine awp_if fun T F hT hF => ?_; simp [go_sem]; refine hF ?_; clear hT hF T F)
     refine awp_skip ?_
     refine hK6 _ ?_; clear hK6
     (refine awp_sr fun Y Yh => ?_; simp [go_sem]; ((repeat' (first|(refine ag_x ?_;simp [go_sem])|intro _|apply And.intro|(apply Yh;clear Yh Y)));all_goals first|apply Hold.mk|omega|with_reducible assumption|skip))
     (refine callA_l [900006] (.inl ⟨rfl,rfl⟩) (by simp [go_sem]) ?_; intro args ha; simp [go_sem] at ha; subst ha; refine ⟨_, _, hFd, (by simp [go_sem]), ?_⟩; rintro ps r hps ⟨rfl, rfl⟩; simp [go_sem]; ((repeat' (first|(refine ag_x ?_;simp [go_sem])|intro _|apply And.intro|(apply Yh;clear Yh Y)));all_goals first|apply Hold.mk|omega|with_reducible assumption|skip))
     refine awp_seq_k fun K8 hK8 => ?_
     (refine awp_sr fun Y Yh => ?_; simp [go_sem]; ((repeat' (first|(refine ag_x ?_;simp [go_sem])|intro _|apply And.intro|(apply Yh;clear Yh Y)));all_goals first|apply Hold.mk|omega|with_reducible assumption|skip))
     by_cases hoe : oe = 0
     ·subst hoe
      simp only [if_false] at hV
      have hWr := written_spec f oa wd (max p1 (-1)) lf hoa (hf.2.2.resolve_left h0) hwd (by omega)
      have hV2 : ((writV { toFd f with wd := wd, pr := max p1 (-1), lf := lf } oa).1, (writV { toFd f with wd := wd, pr := max p1 (-1), lf := lf } oa).2, u3) = V := hV
      clear hV
      generalize writV { toFd f with wd := wd, pr := max p1 (-1), lf := lf } oa = X at *
      subst hV2
      have hmx : max p1 (-1) = if p1 < -1 then -1 else p1 := by split <;> omega
      rw [hmx] at hWr
      (refine awp_if fun T F hT hF => ?_; simp [go_sem]; refine hF ?_; clear hT hF T F)
      refine awp_skip ?_
      refine hK8 _ ?_; clear hK8
      (refine awp_sr fun Y Yh => ?_; simp [go_sem]; ((repeat' (first|(refine ag_x ?_;simp [go_sem])|intro _|apply And.intro|(apply Yh;clear Yh Y)));all_goals first|apply Hold.mk|omega|with_reducible assumption|skip))
      ((try refine CallT.toA ?_); refine callT_m (.inl ⟨rfl,rfl⟩) (by simp [go_sem]) ?_; intro args ha; simp [go_sem] at ha; subst ha; refine ⟨_, hWr, ?_⟩; rintro _ rfl; simp [go_sem]; ((repeat' (first|(refine ag_x ?_;simp [go_sem])|intro _|apply And.intro|(apply Yh;clear Yh Y)));all_goals first|apply Hold.mk|omega|with_reducible assumption|skip))
      (refine awp_ret ?_; simp [go_sem])
     ·rw [if_pos hoe] at hV
      subst hV
      (refine awp_if fun T F hT hF => ?_; simp [go_sem, hoe]; refine hT ?_; clear hT hF T F)
      (refine awp_sr fun Y Yh => ?_; simp [go_sem]; ((repeat' (first|(refine ag_x ?_;simp [go_sem])|intro _|apply And.intro|(apply Yh;clear Yh Y)));all_goals first|apply Hold.mk|omega|with_reducible assumption|skip))
      (refine awp_ret ?_; simp [go_sem])
    ·rw [if_pos hpe] at hV
     subst hV
     (refine awp_if fun T F hT hF => ?_; simp [go_sem, hpe]; refine hT ?_; clear hT hF T F)
     (refine awp_sr fun Y Yh => ?_; simp [go_sem]; ((repeat' (first|(refine ag_x ?_;simp [go_sem])|intro _|apply And.intro|(apply Yh;clear Yh Y)));all_goals first|apply Hold.mk|omega|with_reducible assumption|skip))
     (refine awp_ret ?_; simp [go_sem])
   clear hK5
   by_cases hw2 : f.wd = -2
   ·by_cases hn : w < 0
    ·rw [if_pos ⟨hw2, hn⟩] at hW
     (refine awp_sr fun Y Yh => ?_; simp [go_sem, hw2, hn]; ((repeat' (first|(refine ag_false ?_ ?_ ?_;(focus (simp [go_sem, undef, hw2, hn];done));(focus (simp [go_sem];done));simp [go_sem, hw2, hn])|(refine ag_true ?_ ?_;(focus (simp [go_sem, undef, hw2, hn];done));simp [go_sem, hw2, hn])|(refine ag_x ?_;simp [go_sem, undef, hw2, hn])|intro _|apply And.intro|(apply Yh;clear Yh Y)));all_goals first|apply Hold.mk|omega|with_reducible assumption|skip))
     (refine awp_if fun T F hT hF => ?_; simp [go_sem, hw2, hn]; refine hT ?_; clear hT hF T F)
     (refine awp_sr fun Y Yh => ?_; simp [go_sem]; ((repeat' (first|(refine ag_x ?_;simp [go_sem])|intro _|apply And.intro|(apply Yh;clear Yh Y)));all_goals first|apply Hold.mk|omega|with_reducible assumption|skip))
     refine awp_seq_k fun K11 hK11 => ?_
     (refine awp_sr fun Y Yh => ?_; simp [go_sem]; ((repeat' (first|(refine ag_x ?_;simp [go_sem])|intro _|apply And.intro|(apply Yh;clear Yh Y)));all_goals first|apply Hold.mk|omega|with_reducible assumption|skip))
     by_cases hm : w < -1000
     ·rw [if_pos hm] at hW
      subst hW
      rw [if_pos (fun q => by cases q)] at hV
      subst hV
      (refine awp_if fun T F hT hF => ?_; simp [go_sem, hm]; refine hT ?_; clear hT hF T F)
      (refine awp_sr fun Y Yh => ?_; simp [go_sem]; ((repeat' (first|(refine ag_x ?_;simp [go_sem])|intro _|apply And.intro|(apply Yh;clear Yh Y)));all_goals first|apply Hold.mk|omega|with_reducible assumption|skip))
      (refine awp_ret ?_; simp [go_sem])
     ·rw [if_neg hm] at hW
      subst hW
      simp only [if_neg z] at hV
      (refine awp_if fun T F hT hF => ?_; simp [go_sem, hm]; refine hF ?_; clear hT hF T F)
      refine awp_skip ?_
      refine hK11 _ ?_; clear hK11
      (refine awp_r fun Y Yh => ?_; simp [go_sem]; ((repeat' (first|(refine ag_x ?_;simp [go_sem])|intro _|apply And.intro|(apply Yh;clear Yh Y)));all_goals first|apply Hold.mk|omega|with_reducible assumption|skip))
      refine tl5 (-w) true _ (by omega) hV ?_
      (refine cov_of ?_ ?_ <;> simp [go_sem, hw2])
    ·rw [if_neg (fun q => hn q.2)] at hW
     subst hW
     simp only [if_neg z] at hV
     have hV' : fill2 args u1 { toFd f with wd := w, lf := lf0 } = V := by rw [← hlf]; exact hV
     (refine awp_sr fun Y Yh => ?_; simp [go_sem, hw2, hn]; ((repeat' (first|(refine ag_false ?_ ?_ ?_;(focus (simp [go_sem, undef, hw2, hn];done));(focus (simp [go_sem];done));simp [go_sem, hw2, hn])|(refine ag_true ?_ ?_;(focus (simp [go_sem, undef, hw2, hn];done));simp [go_sem, hw2, hn])|(refine ag_x ?_;simp [go_sem, undef, hw2, hn])|intro _|apply And.intro|(apply Yh;clear Yh Y)));all_goals first|apply Hold.mk|omega|with_reducible assumption|skip))
     (refine awp_if fun T F hT hF => ?_; simp [go_sem, hw2, hn]; refine hF ?_; clear hT hF T F)
     refine awp_skip ?_
     refine tl5 w lf0 _ (by omega) hV' ?_
     (refine cov_of ?_ ?_ <;> simp [go_sem, hw2])
   ·rw [if_neg (fun q => hw2 q.1)] at hW
    subst hW
    simp only [if_neg z] at hV
    have hV' : fill2 args u1 { toFd f with wd := w, lf := lf0 } = V := by rw [← hlf]; exact hV
    have hq := hw1 hw2
    have hf1 := hf.1.resolve_left hw2
    (refine awp_sr fun Y Yh => ?_; simp [go_sem, hw2]; ((repeat' (first|(refine ag_false ?_ ?_ ?_;(focus (simp [go_sem, undef, hw2];done));(focus (simp [go_sem];done));simp [go_sem, hw2])|(refine ag_true ?_ ?_;(focus (simp [go_sem, undef, hw2];done));simp [go_sem, hw2])|(refine ag_x ?_;simp [go_sem, undef, hw2])|intro _|apply And.intro|(apply Yh;clear Yh Y)));all_goals first|apply Hold.mk|omega|with_reducible assumption|skip))
    (refine awp_if fun T F hT hF => ?_; simp [go_sem, hw2]; refine hF ?_; clear hT hF T F)
    refine awp_skip ?_
    refine tl5 w lf0 _ (by omega) hV' ?_
    (refine cov_of ?_ ?_ <;> simp [go_sem])
  ·rw [if_pos he] at hW
   subst hW
   simp only [if_pos he] at hV
   subst hV
   (refine awp_sr fun Y Yh => ?_; simp [go_sem]; ((repeat' (first|(refine ag_x ?_;simp [go_sem])|intro _|apply And.intro|(apply Yh;clear Yh Y)));all_goals first|apply Hold.mk|omega|with_reducible assumption|skip))
   (refine awp_if fun T F hT hF => ?_; simp [go_sem, he]; refine hT ?_; clear hT hF T F)
   (refine awp_sr fun Y Yh => ?_; simp [go_sem]; ((repeat' (first|(refine ag_x ?_;simp [go_sem])|intro _|apply And.intro|(apply Yh;clear Yh Y)));all_goals first|apply Hold.mk|omega|with_reducible assumption|skip))
   (refine awp_ret ?_; simp [go_sem])
end Go.Proofs.YtelhdhofnohkcaaGreatDoor
