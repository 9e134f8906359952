/- Part of a proof: see the last text. -/
import Derived.Test.YteekfnhhlcmcgaaGreatDoorGG
import Derived.Test.YteekfnhhlcmcgaaGreatDoorGH
import Derived.Test.YteekfnhhlcmcgaaGreatDoorGJ
import Derived.Test.YteekfnhhlcmcgaaGreatDoorGI
import Derived.Test.YteekfnhhlcmcgaaGreatDoorGB
import Derived.Test.YteekfnhhlcmcgaaGreatDoorGA
import Derived.Test.YteekfnhhlcmcgaaGreatDoorGE
set_option linter.unusedVariables false
set_option linter.unusedSimpArgs false
namespace Go.Proofs.YteekfnhhlcmcgaaGreatDoor
open Go.Eng Go.Wh Go.Ver Go.RowKit Go.Lk
set_option maxRecDepth 20000
attribute [local irreducible] AG CallA CallT AWp PCall ACall AgC
theorem line_ok (p p' : PS) (s : Bs) (gb gp gn gw : Nat) (rs : List (Nat × List Prs)) (hp : PsOk p rs) (hl : s.length ≤ 1000000) (he : lineV p s = some p') :
  ACall Tryz.prog 118 [.ptr 900002 gb 0, dS s] (rdH p gb gp gn gw rs) (900002 :: 900003 :: 900004 :: 900005 :: famS 1 0 p'.needs.length)
   fun ps r => ∃ gp' gn' gw' rs', rs'.map (·.2) = p'.needs ∧ ps = (gb, .box [dI p'.part, .own 900003 gp', .own 900004 gn', .own 900005 gw', dS p'.sum]) :: (gp', .row 41 2 (p'.picks.map cP)) :: (gn', .row 38 1 (famO 1 0 rs')) :: (gw', .row 114 2 (p'.wish.map cP)) :: famP 114 2 mP rs' ∧ r = dB true := by
 obtain ⟨part, P, N, W, sum⟩ := p
 match part, hp, he with
 | 0, hp, he => exact line0_ok P W N sum p' s gb gp gn gw rs hp hl he
 | 1, hp, he => exact line1_ok P W N sum p' s gb gp gn gw rs hp hl he
 | 2, hp, he => exact line2_ok P W N sum p' s gb gp gn gw rs hp hl he
 | 3, hp, he => exact line3_ok P W N sum p' s gb gp gn gw rs hp hl he
 | 4, hp, he => exact line4_ok P W N sum p' s gb gp gn gw rs hp hl he
 | n + 5, hp, he => simp [lineV] at he
theorem line_bad (p : PS) (s : Bs) (gb gp gn gw : Nat) (rs : List (Nat × List Prs)) (hp : PsOk p rs) (hl : s.length ≤ 1000000) (he : lineV p s = none) :
  ACall Tryz.prog 118 [.ptr 900002 gb 0, dS s] (rdH p gb gp gn gw rs) (900002 :: 900003 :: 900004 :: 900005 :: famS 1 0 p.needs.length)
   fun ps r => r = dB false := by
 obtain ⟨part, P, N, W, sum⟩ := p
 match part, hp, he with
 | 0, hp, he => exact line0_bad P W N sum s gb gp gn gw rs hp hl he
 | 1, hp, he => exact line1_bad P W N sum s gb gp gn gw rs hp hl he
 | 2, hp, he => exact line2_bad P W N sum s gb gp gn gw rs hp hl he
 | 3, hp, he => exact line3_bad P W N sum s gb gp gn gw rs hp hl he
 | 4, hp, he => exact line4_bad P W N sum s gb gp gn gw rs hp hl he
 | n + 5, hp, he => exact line5_bad P W N sum s gb gp gn gw rs n hp hl he
theorem psOk_sz {p : PS} {k m : Nat} {rs : List (Nat × List Prs)} (h : SzOk p k m) (hk : k ≤ 100000) (he : rs.map (fun x => x.2) = p.needs) : PsOk p rs :=
 ⟨he, h.nl, by have := h.pl; omega, by have := h.wl; omega, fun r hr => by
  have := h.rl r.2 (by rw [← he]; exact List.mem_map.2 ⟨r, hr, rfl⟩)
  omega⟩
theorem lkOk_sz {p : PS} {k m : Nat} (h : SzOk p k m) (hk : k ≤ 100000) (hm : m ≤ 1000000) : LkOk (lkOf p) := by
 refine ⟨?_, ?_, ?_, fun x hx => ?_, fun r hr => ⟨?_, fun x hx => ?_⟩, fun x hx => ?_⟩
 ·have := h.pl; simp only [lkOf]; omega
 ·have := h.pl; have := h.nl; simp only [lkOf]; omega
 ·have := h.wl; simp only [lkOf]; omega
 ·have := h.ps x hx; exact ⟨by omega, by omega⟩
 ·have := h.rl r hr; omega
 ·have := h.ns r hr x hx; exact ⟨by omega, by omega⟩
 ·have := h.ws x hx; exact ⟨by omega, by omega⟩
theorem putPs_st : ∀ (S : St) (ss : List Nat) (ps : List (Nat × Blk)), ps.length = ss.length → ∃ h, putPs S ss ps = ⟨S.slots, h⟩ ∧ ∀ k, k ∉ ss → Eng.look h k = Eng.look S.heap k
 | S, [], ps, hl => ⟨S.heap, by simp [putPs], fun _ _ => rfl⟩
 | S, s :: ss, [], hl => by simp at hl
 | S, s :: ss, p :: ps, hl => by
  obtain ⟨h, e, hh⟩ := putPs_st S ss ps (by simpa using hl)
  refine ⟨(s, p) :: h, ?_, fun k hk => ?_⟩
  ·simp only [putPs, e, St.hput]
  ·simp only [List.mem_cons, not_or] at hk
   simp only [Eng.look]
   rw [if_neg fun q => hk.1 q.symm]
   exact hh k hk.2
theorem look_fam_app {α : Type} {b e k s : Nat} {f : α → List (List D)} {l : List (Nat × (Nat × Blk))} : ∀ (rs : List (Nat × α)) (i : Nat), s < 1000000 → Eng.look (fam b e k f i rs ++ l) s = Eng.look l s
 | [], i, h => rfl
 | r :: rs, i, h => by
  rw [fam, List.cons_append, Eng.look, if_neg (fs_nlit h)]
  exact look_fam_app rs (i + 1) h
theorem lastIndex_spec (s sub : Bs) (hs : s.length < 4611686018427387904) : PCall Tryz.prog 119 [dS s, dS sub] fun r => r = dI (Lib.lastIndex s sub) := by
 refine pcall_below ⟨_, Tryz.func119, rfl, rfl⟩ fun C w us hc hg hr => ?_
 obtain rfl := repL_v (us := [.string ⟨s.toArray⟩, .string ⟨sub.toArray⟩]) hr
 refine (Tryz.strings_LastIndex ⟨s.toArray⟩ ⟨sub.toArray⟩ (by simpa [ByteArray.size] using hs) w).mono ?_
 rintro e w' ⟨rfl, rfl⟩
 exact ⟨_, _, rfl, by simp, .v _, Below.refl _ _⟩
theorem ba_take (s : List UInt8) (n : Nat) : ({ data := s.toArray } : ByteArray).extract 0 n = { data := (s.take n).toArray } := by
 apply ByteArray.ext
 simp
set_option maxHeartbeats 8000000 in
theorem lParse_spec (s : Bs) (hl : s.length ≤ 1000000) (hcount : (dots 10 s).length ≤ 100000) : PCall Tryz.prog 57 [dS s] fun r => r = .tup [dLk (parV s).1, dI (parV s).2.1, dI (parV s).2.2] := by 
 refine pcall_of Tryz.func57 rfl rfl Tryz.ntmps57 (rs := [.cell 2 53, .tmp 3, .tmp 4]) (tys := [53, 3, 35]) rfl rfl (by simp) ?_
 have SS := split_spec s [10] (by omega) (by decide)
 rw [split_dots 10 s] at SS
 have hne := List.length_pos_iff.2 (dots_ne 10 s)
 have hlen := line_le s
 have hsz := lines_sz s
 have hF := @parV_form s
 have hS := @parV_short s
 have hU := @parV_full s
 have hB := @last_beg s
 have hG0 : goL ps0 0 (dots 10 s) = goL ps0 0 ((dots 10 s).drop 0) := rfl
 have hL0 : linesV (dots 10 s) 0 = some ps0 := rfl
 generalize hls : dots 10 s = ls at *
 obtain ⟨last, hlast⟩ : ∃ k, ls.length = k + 1 := ⟨ls.length - 1, by omega⟩
 have hlast1 : (last : Int) + 1 - 1 = last := by omega
 (refine awp_sr fun Y Yh => ?_; simp [go_sem]; ((repeat' (first|(refine ag_x ?_;simp [go_sem])|intro _|apply And.intro|(apply Yh;clear Yh Y)));all_goals first|apply Hold.mk|omega|assumption|skip))
 rename_i g2
 (refine awp_sr fun Y Yh => ?_; simp [go_sem]; ((repeat' (first|(refine ag_x ?_;simp [go_sem])|intro _|apply And.intro|(apply Yh;clear Yh Y)));all_goals first|apply Hold.mk|omega|assumption|skip))
 rename_i g5
 refine awp_renbox 5 900002 rfl rfl (by decide) fun gb0 => ?_
 simp only [go_sem]
 refine awp_nilbox 900003 41 2 1 (sb := 900002) rfl rfl (by decide) fun gp0 => ?_
 refine awp_nilbox 900004 38 1 2 (sb := 900002) rfl rfl (by decide) fun gn0 => ?_
 refine awp_nilbox 900005 114 2 3 (sb := 900002) rfl rfl (by decide) fun gw0 => ?_
 simp only [List.set, go_sem]
 (refine awp_sr fun Y Yh => ?_; simp [go_sem]; ((repeat' (first|(refine ag_x ?_;simp [go_sem])|intro _|apply And.intro|(apply Yh;clear Yh Y)));all_goals first|apply Hold.mk|omega|assumption|skip))
 ((try refine CallT.toA ?_); refine callT_m (.inl ⟨rfl,rfl⟩) (by simp [go_sem]) ?_; intro args ha; simp [go_sem] at ha; subst ha; refine ⟨_, SS, ?_⟩; rintro _ rfl; simp [go_sem]; ((repeat' (first|(refine ag_x ?_;simp [go_sem])|intro _|apply And.intro|(apply Yh;clear Yh Y)));all_goals first|apply Hold.mk|omega|assumption|skip))
 (refine awp_sr fun Y Yh => ?_; simp [go_sem, hlast]; ((repeat' (first|(refine ag_x ?_;simp [go_sem, hlast])|intro _|apply And.intro|(apply Yh;clear Yh Y)));all_goals first|apply Hold.mk|omega|assumption|skip))
 refine awp_seq_k fun K1 hK1 => ?_
 have tl1 : ∀ S' p gb gp gn gw rs, PsOk p rs → goL ps0 0 ls = (some p, last) → linesV ls last = some p → ls[last]? = some [] → Cov S' ⟨[(0, dS s), (2, .ptr 2 g2 0), (5, .ptr 900002 gb 0), (7, dI last)], (2, (g2, .box [.v (.slice none 0 0), .v (.slice none 0 0), .v (.slice none 0 0)])) :: rdH p gb gp gn gw rs⟩ → K1 S' := fun S' p gb gp gn gw rs hp hg hlv hle hS' => by
  refine hK1 _ ?_; clear hK1
  refine awp_cov hS' ?_; clear hS'
  refine awp_seq_k fun K2 hK2 => ?_
  by_cases h5 : p.part = 5
  ·obtain ⟨b1, b2, b3⟩ := hB hlast.symm hle hlv h5
   have hu := hU hg h5 b3
   have hz := hsz _ _ hlv
   (refine awp_sr fun Y Yh => ?_; simp [go_sem, h5]; ((repeat' (first|(refine ag_x ?_;simp [go_sem, h5])|intro _|apply And.intro|(apply Yh;clear Yh Y)));all_goals first|apply Hold.mk|omega|assumption|skip))
   (refine awp_if fun T F hT hF => ?_; simp [go_sem, h5]; refine hF ?_; clear hT hF T F)
   refine awp_skip ?_
   refine hK2 _ ?_; clear hK2
   have LI := lastIndex_spec s preSum (by omega)
   rw [b3] at LI
   generalize begV ls last = b at *
   have SU := sum_spec (s.take b) (by rw [List.length_take]; omega)
   have hsl := sumV_lt (s.take b) (s.take b).length
   have IT := itoa_spec (sumV (s.take b) (s.take b).length : Nat) (by omega) (by omega)
   have CK := lCheck_spec (lkOf p) (lkOk_sz hz (by omega) (by omega))
   generalize sumV (s.take b) (s.take b).length = sm at *
   have hbi : (b : Int) ≤ s.length := by omega
   (refine awp_sr fun Y Yh => ?_; simp [go_sem]; ((repeat' (first|(refine ag_x ?_;simp [go_sem])|intro _|apply And.intro|(apply Yh;clear Yh Y)));all_goals first|apply Hold.mk|omega|assumption|skip))
   ((try refine CallT.toA ?_); refine callT_m (.inl ⟨rfl,rfl⟩) (by simp [go_sem]) ?_; intro args ha; simp [go_sem] at ha; subst ha; refine ⟨_, LI, ?_⟩; rintro _ rfl; simp [go_sem, hbi, b2]; ((repeat' (first|(refine ag_x ?_;simp [go_sem, hbi, b2])|intro _|apply And.intro|(apply Yh;clear Yh Y)));all_goals first|apply Hold.mk|omega|assumption|skip))
   refine awp_seq_k fun K4 hK4 => ?_
   ((refine awp_dr (.qs [0, 1, 2, 4, 3] (.kp 5 (.kp 6 (.qs [7] (.nil))))) (by kernel_rfl) ?_ ?_ ?_ ?_); (kernel_rfl); (exact (by decide +kernel)); (kernel_rfl); intro Y Yh; ((repeat' (first|(refine ag_x ?_;simp [go_sem])|refine adr_nil ?_|((first|refine adr_qs fun Y Yh=>?_|refine adr_y fun Y Yh=>?_);simp [go_sem])|intro _|apply And.intro|(apply Yh;clear Yh Y)));all_goals first|apply Hold.mk|omega|assumption|skip))
   ((try refine CallT.toA ?_); refine callT_m (.inl ⟨rfl,rfl⟩) (by simp [go_sem]) ?_; intro args ha; simp [go_sem] at ha; subst ha; refine ⟨_, (by first | exact SU | (rw [ba_take]; exact SU)), ?_⟩; rintro _ rfl; simp [go_sem]; ((repeat' (first|(refine ag_x ?_;simp [go_sem])|refine adr_nil ?_|((first|refine adr_qs fun Y Yh=>?_|refine adr_y fun Y Yh=>?_);simp [go_sem])|intro _|apply And.intro|(apply Yh;clear Yh Y)));all_goals first|apply Hold.mk|omega|assumption|skip))
   ((try refine CallT.toA ?_); refine callT_m (.inl ⟨rfl,rfl⟩) (by simp [go_sem]) ?_; intro args ha; simp [go_sem] at ha; subst ha; refine ⟨_, IT, ?_⟩; rintro _ rfl; simp [go_sem]; ((repeat' (first|(refine ag_x ?_;simp [go_sem])|refine adr_nil ?_|((first|refine adr_qs fun Y Yh=>?_|refine adr_y fun Y Yh=>?_);simp [go_sem])|intro _|apply And.intro|(apply Yh;clear Yh Y)));all_goals first|apply Hold.mk|omega|assumption|skip))
   by_cases hsum : p.sum = Lib.itoa sm
   ·rw [if_neg (by simp [hsum])] at hu
    (refine awp_if fun T F hT hF => ?_; simp [go_sem, hsum]; refine hF ?_; clear hT hF T F)
    refine awp_skip ?_
    refine hK4 _ ?_; clear hK4
    refine awp_seq_k fun K6 hK6 => ?_
    refine awp_frzin 900003 900002 1 rfl rfl (by decide) rfl ?_
    simp only [go_sem, List.set]
    refine awp_frzin 900005 900002 3 rfl rfl (by decide) rfl ?_
    simp only [go_sem, List.set]
    refine awp_frzfam (b := 1) (e := 114) (k := 2) (f := mP) (go := gn) (eo := 38) 900004 (rs := rs) (ho := [(2, (g2, .box [.v (.slice none 0 0), .v (.slice none 0 0), .v (.slice none 0 0)])), (900002, (gb, .box [dI p.part, dPs p.picks, .own 900004 gn, dPs p.wish, dS p.sum]))]) (by simp [go_sem]) (by simp [go_sem]) (by decide) (by simp [go_sem, h5]) (by simp) ?_
    refine awp_frzin 900004 900002 2 rfl rfl (by decide) rfl ?_
    simp only [go_sem, List.set]
    have hN : (rs.map fun r => [D.sl 2 (mP r.2)]) = p.needs.map fun n => [dPs n] := by rw [← hp.en, List.map_map]; rfl
    rw [hN]
    simp only [lkOf] at CK
    (refine awp_sr fun Y Yh => ?_; simp [go_sem]; ((repeat' (first|(refine ag_x ?_;simp [go_sem])|intro _|apply And.intro|(apply Yh;clear Yh Y)));all_goals first|apply Hold.mk|omega|assumption|skip))
    ((try refine CallT.toA ?_); refine callT_m (.inl ⟨rfl,rfl⟩) (by simp [go_sem]) ?_; intro args ha; simp [go_sem] at ha; subst ha; refine ⟨_, CK, ?_⟩; rintro _ rfl; simp [go_sem]; ((repeat' (first|(refine ag_x ?_;simp [go_sem])|intro _|apply And.intro|(apply Yh;clear Yh Y)));all_goals first|apply Hold.mk|omega|assumption|skip))
    (refine awp_sr fun Y Yh => ?_; simp [go_sem]; ((repeat' (first|(refine ag_x ?_;simp [go_sem])|intro _|apply And.intro|(apply Yh;clear Yh Y)));all_goals first|apply Hold.mk|omega|assumption|skip))
    by_cases hlk : lockV (lkOf p) = true
    ·have hlk' : lockV (p.picks, p.needs, p.wish) = true := hlk
     rw [if_pos hlk] at hu
     (refine awp_if fun T F hT hF => ?_; simp [go_sem, hlk']; refine hF ?_; clear hT hF T F)
     refine awp_skip ?_
     refine hK6 _ ?_; clear hK6
     (refine awp_sr fun Y Yh => ?_; simp [go_sem]; ((repeat' (first|(refine ag_x ?_;simp [go_sem])|intro _|apply And.intro|(apply Yh;clear Yh Y)));all_goals first|apply Hold.mk|omega|assumption|skip))
     (refine awp_ret ?_; simp [go_sem, hu, lkOf])
    ·have hlk' : lockV (p.picks, p.needs, p.wish) = false := by simpa [lkOf] using hlk
     rw [if_neg (by simp [hlk])] at hu
     (refine awp_if fun T F hT hF => ?_; simp [go_sem, hlk']; refine hT ?_; clear hT hF T F)
     (refine awp_sr fun Y Yh => ?_; simp [go_sem, hlk']; ((repeat' (first|(refine ag_x ?_;simp [go_sem, hlk'])|intro _|apply And.intro|(apply Yh;clear Yh Y)));all_goals first|apply Hold.mk|omega|assumption|skip))
     (refine awp_ret ?_; simp [go_sem, hu, hlk'])
   ·rw [if_pos hsum] at hu
    have hsumb : (p.sum == Lib.itoa (sm : Int)) = false := by simpa using hsum
    (refine awp_if fun T F hT hF => ?_; simp [go_sem, hsum, hsumb]; refine hT ?_; clear hT hF T F)
    (refine awp_sr fun Y Yh => ?_; simp [go_sem]; ((repeat' (first|(refine ag_x ?_;simp [go_sem])|intro _|apply And.intro|(apply Yh;clear Yh Y)));all_goals first|apply Hold.mk|omega|assumption|skip))
    (refine awp_ret ?_; simp [go_sem, hu])
  ·have e := hS hg h5
   have h5i : ¬ (p.part : Int) = 5 := by omega
   (refine awp_sr fun Y Yh => ?_; simp [go_sem, h5, h5i]; ((repeat' (first|(refine ag_x ?_;simp [go_sem, h5, h5i])|intro _|apply And.intro|(apply Yh;clear Yh Y)));all_goals first|apply Hold.mk|omega|assumption|skip))
   (refine awp_if fun T F hT hF => ?_; simp [go_sem, h5, h5i]; refine hT ?_; clear hT hF T F)
   (refine awp_sr fun Y Yh => ?_; simp [go_sem]; ((repeat' (first|(refine ag_x ?_;simp [go_sem])|intro _|apply And.intro|(apply Yh;clear Yh Y)));all_goals first|apply Hold.mk|omega|assumption|skip))
   (refine awp_ret ?_; simp [go_sem, e])
 clear hK1
 (refine awp_sr fun Y Yh => ?_; simp [go_sem]; ((repeat' (first|(refine ag_x ?_;simp [go_sem])|intro _|apply And.intro|(apply Yh;clear Yh Y)));all_goals first|apply Hold.mk|omega|assumption|skip))
 refine awp_block ?_
 refine awp_loop (σ := Nat × PS × Nat × Nat × Nat × Nat × List (Nat × List Prs)) (fun x => ⟨[(0, dS s), (2, .ptr 2 g2 0), (5, .ptr 900002 x.2.2.1 0), (7, dI last), (19, dSs ls), (20, dI ls.length), (21, dI x.1)], (2, (g2, .box [.v (.slice none 0 0), .v (.slice none 0 0), .v (.slice none 0 0)])) :: rdH x.2.1 x.2.2.1 x.2.2.2.1 x.2.2.2.2.1 x.2.2.2.2.2.1 x.2.2.2.2.2.2⟩)
  (fun x => x.1 ≤ last ∧ linesV ls x.1 = some x.2.1 ∧ goL ps0 0 ls = goL x.2.1 x.1 (ls.drop x.1) ∧ x.2.2.2.2.2.2.map (fun x => x.2) = x.2.1.needs) (fun x => ls.length - x.1) (0, ps0, gb0, gp0, gn0, gw0, []) ?_ ?_ ?_
 ·(refine cov_of ?_ ?_ <;> simp [go_sem, ps0, famO, fam, hlast])
 ·exact ⟨by omega, hL0, hG0, rfl⟩
 rintro ⟨i, p, gb, gp, gn, gw, rs⟩ ⟨hi, hlv, hg, hrs⟩
 simp only at hi hlv hg hrs
 obtain ⟨l, hx⟩ : ∃ l, ls[i]? = some l := ⟨_, List.getElem?_eq_getElem (by omega)⟩
 have hp : PsOk p rs := psOk_sz (hsz _ _ hlv) (by omega) hrs
 have hll := hlen l (List.mem_of_getElem? hx)
 (refine awp_sr fun Y Yh => ?_; simp [go_sem]; ((repeat' (first|(refine ag_x ?_;simp [go_sem])|intro _|apply And.intro|(apply Yh;clear Yh Y)));all_goals first|apply Hold.mk|omega|assumption|skip))
 refine awp_seq_k fun K8 hK8 => ?_
 (refine awp_if fun T F hT hF => ?_; simp [go_sem]; refine BR.intro (fun h9 => hT ?_) (fun h9 => hF ?_); all_goals clear hT hF T F; try simp at h9)
 ·refine awp_skip ?_
  refine hK8 _ ?_; clear hK8
  refine awp_seq_k fun K10 hK10 => ?_
  refine awp_block ?_
  (refine awp_sr fun Y Yh => ?_; simp [go_sem, hx]; ((repeat' (first|(refine ag_x ?_;simp [go_sem, hx])|intro _|apply And.intro|(apply Yh;clear Yh Y)));all_goals first|apply Hold.mk|omega|assumption|skip))
  refine awp_seq_k fun K11 hK11 => ?_
  by_cases hi2 : i = last
  ·subst hi2
   have hgl := goL_last (p := p) hx hlast.symm
   by_cases hl0 : l = []
   ·subst hl0
    rw [if_pos rfl] at hgl
    (refine awp_sr fun Y Yh => ?_; simp [go_sem]; ((repeat' (first|(refine ag_x ?_;simp [go_sem])|intro _|apply And.intro|(apply Yh;clear Yh Y)));all_goals first|apply Hold.mk|omega|assumption|skip))
    (refine awp_if fun T F hT hF => ?_; simp [go_sem]; refine hT ?_; clear hT hF T F)
    refine awp_exit ?_
    simp only [go_sem]
    refine tl1 _ p gb gp gn gw rs hp (hg.trans hgl) hlv hx ?_
    (refine cov_of ?_ ?_ <;> simp [go_sem])
   ·rw [if_neg hl0] at hgl
    have e := hF (hg.trans hgl)
    have hl0' : l.isEmpty = false := by cases l with
     | nil => exact absurd rfl hl0
     | cons => rfl
    (refine awp_sr fun Y Yh => ?_; simp [go_sem, hl0, hl0']; ((repeat' (first|(refine ag_x ?_;simp [go_sem, hl0, hl0'])|intro _|apply And.intro|(apply Yh;clear Yh Y)));all_goals first|apply Hold.mk|omega|assumption|skip))
    (refine awp_if fun T F hT hF => ?_; simp [go_sem, hl0, hl0']; refine hF ?_; clear hT hF T F)
    refine awp_skip ?_
    refine hK11 _ ?_; clear hK11
    (refine awp_sr fun Y Yh => ?_; simp [go_sem]; ((repeat' (first|(refine ag_false ?_ ?_ ?_;(focus (simp [go_sem, undef];done));(focus (simp [go_sem];done));simp [go_sem])|(refine ag_true ?_ ?_;(focus (simp [go_sem, undef];done));simp [go_sem])|(refine ag_x ?_;simp [go_sem, undef])|intro _|apply And.intro|(apply Yh;clear Yh Y)));all_goals first|apply Hold.mk|omega|assumption|skip))
    (refine awp_if fun T F hT hF => ?_; simp [go_sem]; refine hT ?_; clear hT hF T F)
    (refine awp_sr fun Y Yh => ?_; simp [go_sem]; ((repeat' (first|(refine ag_x ?_;simp [go_sem])|intro _|apply And.intro|(apply Yh;clear Yh Y)));all_goals first|apply Hold.mk|omega|assumption|skip))
    (refine awp_ret ?_; simp [go_sem, e])
  ·have hi3 : i + 1 < ls.length := by omega
   have hgl := goL_more (p := p) hx hi3
   have hne2 : ¬ (i : Int) = last := by omega
   (refine awp_sr fun Y Yh => ?_; simp [go_sem, hi2, hne2]; ((repeat' (first|(refine ag_false ?_ ?_ ?_;(focus (simp [go_sem, undef, hi2, hne2];done));(focus (simp [go_sem];done));simp [go_sem, hi2, hne2])|(refine ag_true ?_ ?_;(focus (simp [go_sem, undef, hi2, hne2];done));simp [go_sem, hi2, hne2])|(refine ag_x ?_;simp [go_sem, undef, hi2, hne2])|intro _|apply And.intro|(apply Yh;clear Yh Y)));all_goals first|apply Hold.mk|omega|assumption|skip))
   (refine awp_if fun T F hT hF => ?_; simp [go_sem, hi2, hne2]; refine hF ?_; clear hT hF T F)
   refine awp_skip ?_
   refine hK11 _ ?_; clear hK11
   cases he : lineV p l with
   | none =>
    rw [he] at hgl
    have e := hF (hg.trans hgl)
    (refine awp_sr fun Y Yh => ?_; simp [go_sem, hi2, hne2]; ((repeat' (first|(refine ag_false ?_ ?_ ?_;(focus (simp [go_sem, undef, hi2, hne2];done));(focus (simp [go_sem];done));simp [go_sem, hi2, hne2])|(refine ag_true ?_ ?_;(focus (simp [go_sem, undef, hi2, hne2];done));simp [go_sem, hi2, hne2])|(refine ag_x ?_;simp [go_sem, undef, hi2, hne2])|intro _|apply And.intro|(apply Yh;clear Yh Y)));all_goals first|apply Hold.mk|omega|assumption|skip))
    refine callA_l (900002 :: 900003 :: 900004 :: 900005 :: famS 1 0 p.needs.length) (by first | exact .inl ⟨rfl, rfl⟩ | exact .inr rfl) (by simp [go_sem]) ?_
    intro args ha; simp [go_sem] at ha; subst ha
    refine ⟨_, _, line_bad p l gb gp gn gw rs hp (by omega) he, (by simp [go_sem]), ?_⟩
    rintro ps r hps rfl
    obtain ⟨h, eh, hh⟩ := putPs_st _ _ _ hps
    rw [eh]
    have h2 := hh 2 (by
     simp only [List.mem_cons, famS_mem, not_or]
     refine ⟨by decide, by decide, by decide, by decide, ?_⟩
     rintro ⟨j, _, _, e⟩
     exact absurd e.symm (fs_nlit (by decide)))
    simp [go_sem] at h2
    simp [go_sem]
    ((repeat' (first|(refine ag_false ?_ ?_ ?_;(focus (simp [go_sem, undef];done));(focus (simp [go_sem];done));simp [go_sem])|(refine ag_true ?_ ?_;(focus (simp [go_sem, undef];done));simp [go_sem])|(refine ag_x ?_;simp [go_sem, undef])|intro _|apply And.intro|(apply Yh;clear Yh Y)));all_goals first|apply Hold.mk|omega|assumption|skip)
    (refine awp_if fun T F hT hF => ?_; simp [go_sem]; refine hT ?_; clear hT hF T F)
    (refine awp_sr fun Y Yh => ?_; simp [go_sem, h2]; ((repeat' (first|(refine ag_x ?_;simp [go_sem, h2])|intro _|apply And.intro|(apply Yh;clear Yh Y)));all_goals first|apply Hold.mk|omega|assumption|skip))
    (refine awp_ret ?_; simp [go_sem, e])
   | some q =>
    rw [he] at hgl
    (refine awp_sr fun Y Yh => ?_; simp [go_sem, hi2, hne2]; ((repeat' (first|(refine ag_false ?_ ?_ ?_;(focus (simp [go_sem, undef, hi2, hne2];done));(focus (simp [go_sem];done));simp [go_sem, hi2, hne2])|(refine ag_true ?_ ?_;(focus (simp [go_sem, undef, hi2, hne2];done));simp [go_sem, hi2, hne2])|(refine ag_x ?_;simp [go_sem, undef, hi2, hne2])|intro _|apply And.intro|(apply Yh;clear Yh Y)));all_goals first|apply Hold.mk|omega|assumption|skip))
    (refine callA_l (900002 :: 900003 :: 900004 :: 900005 :: famS 1 0 q.needs.length) (.inl ⟨rfl,rfl⟩) (by simp [go_sem]) ?_; intro args ha; simp [go_sem] at ha; subst ha; refine ⟨_, _, (line_ok p q l gb gp gn gw rs hp (by omega) he), (by simp [go_sem]), ?_⟩; rintro ps r hps ⟨gp', gn', gw', rs', hrs', rfl, rfl⟩; simp [go_sem]; ((repeat' (first|(refine ag_false ?_ ?_ ?_;(focus (simp [go_sem, undef];done));(focus (simp [go_sem];done));simp [go_sem])|(refine ag_true ?_ ?_;(focus (simp [go_sem, undef];done));simp [go_sem])|(refine ag_x ?_;simp [go_sem, undef])|intro _|apply And.intro|(apply Yh;clear Yh Y)));all_goals first|apply Hold.mk|omega|assumption|skip))
    rw [putPs_fam (b := 1) (e := 114) (k := 2) (f := mP) rs' 0 _ (by have := congrArg List.length hrs'; simpa using this)]
    simp [go_sem]
    ((repeat' (first|(refine ag_false ?_ ?_ ?_;(focus (simp [go_sem, undef];done));(focus (simp [go_sem];done));simp [go_sem])|(refine ag_true ?_ ?_;(focus (simp [go_sem, undef];done));simp [go_sem])|(refine ag_x ?_;simp [go_sem, undef])|intro _|apply And.intro|(apply Yh;clear Yh Y)));all_goals first|apply Hold.mk|omega|assumption|skip)
    (refine awp_if fun T F hT hF => ?_; simp [go_sem]; refine hF ?_; clear hT hF T F)
    refine awp_skip ?_
    refine hK10 _ ?_; clear hK10
    (refine awp_r fun Y Yh => ?_; simp [go_sem]; ((repeat' (first|(refine ag_x ?_;simp [go_sem])|intro _|apply And.intro|(apply Yh;clear Yh Y)));all_goals first|apply Hold.mk|omega|assumption|skip))
    refine ⟨(i + 1, q, gb, gp', gn', gw', rs'), ?_, ⟨by simp only; omega, (linesV_step hlv hx).trans he, hg.trans hgl, hrs'⟩, by simp only; omega⟩
    (refine cov_of ?_ ?_ <;> simp [go_sem])
    exact ⟨by rw [look_fam_app _ _ (by decide)]; simp [go_sem], FamIn.app _ _⟩
 ·refine awp_exit ?_
  omega
theorem lk0_ok : LkOk lk0 := by unfold LkOk; simp
theorem lk0_v : lockV lk0 = true := by decide
theorem lk0_text : Lk.textV lk0 = [71, 69, 77, 83, 10, 10, 87, 73, 83, 72, 10, 10, 83, 85, 77, 32, 51, 55, 55, 50, 10] := by
 have h1 : headT lk0 = [71, 69, 77, 83, 10, 10, 87, 73, 83, 72, 10, 10] := by decide
 have h2 : sumV [71, 69, 77, 83, 10, 10, 87, 73, 83, 72, 10, 10] 12 = 3772 := by decide +kernel
 unfold Lk.textV
 rw [h1]
 have h3 : ([71, 69, 77, 83, 10, 10, 87, 73, 83, 72, 10, 10] : Bs).length = 12 := rfl
 rw [h3, h2]
 have h4 : Lib.itoa (3772 : Nat) = [51, 55, 55, 50] := by
  unfold Lib.itoa
  rw [if_neg (by omega), Int.toNat_natCast]
  simp [Lib.decDigits]
 rw [h4]
 rfl
set_option maxHeartbeats 4000000 in
theorem sane_spec : PCall Tryz.prog 20 [] fun r => r = dB true := by 
 refine pcall_of Tryz.func20 rfl rfl Tryz.ntmps20 (rs := [.tmp 0]) (tys := [4]) rfl rfl (by simp) ?_
 have T0 := lText_spec lk0 lk0_ok
 rw [lk0_v, if_pos rfl, if_pos rfl, lk0_text] at T0
 have P0 := parV_text lk0_v
 rw [lk0_text] at P0
 have PS := lParse_spec [71, 69, 77, 83, 10, 10, 87, 73, 83, 72, 10, 10, 83, 85, 77, 32, 51, 55, 55, 50, 10] (by decide) (by decide)
 rw [P0] at PS
 (refine awp_sr fun Y Yh => ?_; simp [go_sem]; ((repeat' (first|(refine ag_x ?_;simp [go_sem])|intro _|apply And.intro|(apply Yh;clear Yh Y)));all_goals first|apply Hold.mk|omega|assumption|skip))
 (refine awp_sr fun Y Yh => ?_; simp [go_sem]; ((repeat' (first|(refine ag_x ?_;simp [go_sem])|intro _|apply And.intro|(apply Yh;clear Yh Y)));all_goals first|apply Hold.mk|omega|assumption|skip))
 ((try refine CallT.toA ?_); refine callT_m (.inl ⟨rfl,rfl⟩) (by simp [go_sem]) ?_; intro args ha; simp [go_sem] at ha; subst ha; refine ⟨_, T0, ?_⟩; rintro _ rfl; simp [go_sem]; ((repeat' (first|(refine ag_x ?_;simp [go_sem])|intro _|apply And.intro|(apply Yh;clear Yh Y)));all_goals first|apply Hold.mk|omega|assumption|skip))
 (refine awp_sr fun Y Yh => ?_; simp [go_sem]; ((repeat' (first|(refine ag_x ?_;simp [go_sem])|intro _|apply And.intro|(apply Yh;clear Yh Y)));all_goals first|apply Hold.mk|omega|assumption|skip))
 ((try refine CallT.toA ?_); refine callT_m (.inl ⟨rfl,rfl⟩) (by simp [go_sem]) ?_; intro args ha; simp [go_sem] at ha; subst ha; refine ⟨_, PS, ?_⟩; rintro _ rfl; simp [go_sem]; ((repeat' (first|(refine ag_x ?_;simp [go_sem])|intro _|apply And.intro|(apply Yh;clear Yh Y)));all_goals first|apply Hold.mk|omega|assumption|skip))
 (refine awp_sr fun Y Yh => ?_; simp [go_sem]; ((repeat' (first|(refine ag_x ?_;simp [go_sem])|intro _|apply And.intro|(apply Yh;clear Yh Y)));all_goals first|apply Hold.mk|omega|assumption|skip))
 (refine awp_ret ?_; simp [go_sem])
end Go.Proofs.YteekfnhhlcmcgaaGreatDoor
