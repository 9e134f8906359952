/- Part of a proof: see the last text. -/
import Derived.Test.YtjdccagkafnbfaaGreatDoorVC
import Derived.Test.YtjdccagkafnbfaaGreatDoorMB
set_option linter.unusedVariables false
set_option linter.unusedSimpArgs false
namespace Go.Proofs.YtjdccagkafnbfaaGreatDoor
open Go.Eng Go.Wh Go.Ver
set_option maxRecDepth 20000
set_option linter.unusedSimpArgs false
set_option linter.unusedVariables false
attribute [local irreducible] AG CallA CallT AWp PCall ACall AgC
set_option maxHeartbeats 8000000 in
theorem rsegment_spec (s : List UInt8) (hl : s.length ≤ 1000000000) : PCall Tryz.prog 78 [dS s] fun r => r = .tup [dG (rsP s), dB (segV s).isSome] := by 
  refine pcall_of Tryz.func78 rfl rfl Tryz.ntmps78 (rs := [.cell 2 105, .tmp 3]) (tys := [105, 4]) rfl rfl (by simp) ?_
  have T1 := trimS_spec s abcL (by omega) (by decide) (by decide)
  have e1 := trim_letters s
  generalize Lib.trimS s abcL = a at *
  have hN := @rs_none s
  have hL := @rs_L s
  have hB := @rs_bad s
  have hM := @rs_num s
  have hI := fun (h : s.length ≤ 10) (h1 : s.all isD = true) => decVal_lt (s := s) (by simpa using h1)
  have hd := fun i c (h : s[i]? = some c) => decVal_take h
  have hda := fun i c (h : s[i]? = some c) => @all_snoc _ isD s i c
  have hdn := fun i c (h : s[i]? = some c) => @all_not _ isD s i c
  have hdt := fun i (h : (s.take i).all isD = true) => decVal_lt (s := s.take i) (by simpa using h)
  have hfull := List.take_length (l := s)
  have hit := itoa_spec (decVal s : Int)
  generalize hP : rsP s = p at *
  generalize hV : (segV s).isSome = v at *
  generalize hiL : s.all isL = iL at *
  (refine awp_sr fun KK hKK => ?_; simp [go_sem]; ((repeat' (first|(refine ag_x ?_;simp [go_sem])|intro _|refine And.intro ?_ ?_|(apply hKK;clear hKK KK)));all_goals first|refine Hold.mk ?_|omega|with_reducible assumption|(simp only [InR] at *;omega)|skip))
  rename_i g2
  refine awp_seq_k fun K1 hK1 => ?_
  (refine awp_sr fun KK hKK => ?_; simp [go_sem]; ((repeat' (first|(refine ag_x ?_;simp [go_sem])|intro _|refine And.intro ?_ ?_|(apply hKK;clear hKK KK)));all_goals first|refine Hold.mk ?_|omega|with_reducible assumption|(simp only [InR] at *;omega)|skip))
  (refine awp_if fun T F hT hF => ?_; simp [go_sem]; refine BR.intro (fun h2 => hT ?_) (fun h2 => hF ?_); all_goals clear hT hF T F; try simp at h2) 
  · obtain ⟨q1, q2⟩ := hN (by
      rcases h2 with h | h
      · exact .inl h
      · exact .inr (by omega))
    subst q1 q2
    (refine awp_sr fun KK hKK => ?_; simp [go_sem]; ((repeat' (first|(refine ag_x ?_;simp [go_sem])|intro _|refine And.intro ?_ ?_|(apply hKK;clear hKK KK)));all_goals first|refine Hold.mk ?_|omega|with_reducible assumption|(simp only [InR] at *;omega)|skip))
    (refine awp_ret ?_; simp [go_sem])
  · have h2' : ¬ (s = [] ∨ 10 < s.length) := by
      rintro (h | h)
      · exact h2.1 h
      · have := h2.2; omega
    have hlen : s.length ≤ 10 := by have := h2.2; omega
    refine awp_skip ?_
    refine hK1 _ ?_; clear hK1
    refine awp_seq_k fun K3 hK3 => ?_
    (refine awp_sr fun KK hKK => ?_; simp [go_sem]; ((repeat' (first|(refine ag_x ?_;simp [go_sem])|intro _|refine And.intro ?_ ?_|(apply hKK;clear hKK KK)));all_goals first|refine Hold.mk ?_|omega|with_reducible assumption|(simp only [InR] at *;omega)|skip))
    ((try refine CallT.toA ?_); refine callT_m (by first | exact .inl ⟨rfl, rfl⟩ | exact .inr rfl) (by simp [go_sem]) ?_; intro args ha; simp [go_sem] at ha; subst ha; refine ⟨_, T1, ?_⟩; rintro _ rfl; simp [go_sem]; ((repeat' (first|(refine ag_x ?_;simp [go_sem])|intro _|refine And.intro ?_ ?_|(apply hKK;clear hKK KK)));all_goals first|refine Hold.mk ?_|omega|with_reducible assumption|(simp only [InR] at *;omega)|skip))
    (refine awp_if fun T F hT hF => ?_; simp [go_sem]; refine BR.intro (fun h4 => hT ?_) (fun h4 => hF ?_); all_goals clear hT hF T F; try simp at h4) 
    · obtain ⟨q1, q2⟩ := hL h2' (e1.1 h4)
      subst q1 q2
      (refine awp_sr fun KK hKK => ?_; simp [go_sem]; ((repeat' (first|(refine ag_x ?_;simp [go_sem])|intro _|refine And.intro ?_ ?_|(apply hKK;clear hKK KK)));all_goals first|refine Hold.mk ?_|omega|with_reducible assumption|(simp only [InR] at *;omega)|skip))
      (refine awp_ret ?_; simp [go_sem])
    · have hnL : ¬ iL = true := fun q => h4 (e1.2 q)
      refine awp_skip ?_
      refine hK3 _ ?_; clear hK3
      (refine awp_sr fun KK hKK => ?_; simp [go_sem]; ((repeat' (first|(refine ag_x ?_;simp [go_sem])|intro _|refine And.intro ?_ ?_|(apply hKK;clear hKK KK)));all_goals first|refine Hold.mk ?_|omega|with_reducible assumption|(simp only [InR] at *;omega)|skip))
      refine awp_seq_k fun K5 hK5 => ?_
      (refine awp_sr fun KK hKK => ?_; simp [go_sem]; ((repeat' (first|(refine ag_x ?_;simp [go_sem])|intro _|refine And.intro ?_ ?_|(apply hKK;clear hKK KK)));all_goals first|refine Hold.mk ?_|omega|with_reducible assumption|(simp only [InR] at *;omega)|skip))
      refine awp_block ?_
      refine awp_loop (σ := Nat) (fun i => ⟨[(0, dS s), (2, .ptr 2 g2 0), (4, dI (decVal (s.take i))), (5, dI i)], [(2, g2, .box [dS [], dI 0])]⟩) (fun i => i ≤ s.length ∧ (s.take i).all isD = true) (fun i => s.length - i) 0 ?_ ?_ ?_
      · (refine cov_of ?_ ?_ <;> simp [go_sem, decVal])
      · exact ⟨by omega, by simp⟩
      rintro i ⟨hi, had⟩
      have hub : decVal (s.take i) < 10 ^ 10 := by
        have h1 := hdt i had
        have h2 : 10 ^ (s.take i).length ≤ 10 ^ 10 := Nat.pow_le_pow_right (by decide) (by simp; omega)
        omega
      refine awp_seq_k fun K6 hK6 => ?_
      (refine awp_sr fun KK hKK => ?_; simp [go_sem]; ((repeat' (first|(refine ag_x ?_;simp [go_sem])|intro _|refine And.intro ?_ ?_|(apply hKK;clear hKK KK)));all_goals first|refine Hold.mk ?_|omega|with_reducible assumption|(simp only [InR] at *;omega)|skip))
      (refine awp_if fun T F hT hF => ?_; simp [go_sem]; refine BR.intro (fun h7 => hT ?_) (fun h7 => hF ?_); all_goals clear hT hF T F; try simp at h7) 
      · refine awp_skip ?_
        refine hK6 _ ?_; clear hK6
        obtain ⟨c, hc⟩ : ∃ c, s[i]? = some c := ⟨_, List.getElem?_eq_getElem (by omega)⟩
        have hd1 := hd i c hc
        have hda1 := hda i c hc had hc
        have hdn1 := hdn i c hc hc
        have hcb : c.toNat < 256 := c.toNat_lt
        refine awp_seq_k fun K8 hK8 => ?_
        refine awp_block ?_
        refine awp_seq_k fun K9 hK9 => ?_
        (refine awp_sr fun KK hKK => ?_; simp [go_sem, hc]; ((repeat' (first|(refine ag_x ?_;simp [go_sem, hc])|intro _|refine And.intro ?_ ?_|(apply hKK;clear hKK KK)));all_goals first|refine Hold.mk ?_|omega|with_reducible assumption|(simp only [InR] at *;omega)|skip))
        (refine awp_if fun T F hT hF => ?_; simp [go_sem]; refine BR.intro (fun h10 => hT ?_) (fun h10 => hF ?_); all_goals clear hT hF T F; try simp at h10) 
        · obtain ⟨q1, q2⟩ := hB h2' hnL (hdn1 (by simp [isD]; omega))
          subst q1 q2
          (refine awp_sr fun KK hKK => ?_; simp [go_sem]; ((repeat' (first|(refine ag_x ?_;simp [go_sem])|intro _|refine And.intro ?_ ?_|(apply hKK;clear hKK KK)));all_goals first|refine Hold.mk ?_|omega|with_reducible assumption|(simp only [InR] at *;omega)|skip))
          (refine awp_ret ?_; simp [go_sem])
        · have hw : IntKind.u8.wrap ((c.toNat : Int) - 48) = (dgt c : Int) := by
            rw [show IntKind.u8.wrap ((c.toNat : Int) - 48) = ((c.toNat : Int) - 48) % 256 by simp [IntKind.wrap, IntKind.bits, IntKind.signed]]
            unfold dgt; omega
          have hdg : dgt c ≤ 9 := by unfold dgt; omega
          refine awp_skip ?_
          refine hK9 _ ?_; clear hK9
          generalize decVal (s.take i) = dv at *
          generalize dgt c = dc at *
          (refine awp_r fun KK hKK => ?_; simp [go_sem, hc, hw]; ((repeat' (first|(refine ag_x ?_;simp [go_sem, hc, hw])|intro _|refine And.intro ?_ ?_|(apply hKK;clear hKK KK)));all_goals first|refine Hold.mk ?_|omega|with_reducible assumption|(simp only [InR] at *;omega)|skip))
          refine hK8 _ ?_; clear hK8
          (refine awp_r fun KK hKK => ?_; simp [go_sem]; ((repeat' (first|(refine ag_x ?_;simp [go_sem])|intro _|refine And.intro ?_ ?_|(apply hKK;clear hKK KK)));all_goals first|refine Hold.mk ?_|omega|with_reducible assumption|(simp only [InR] at *;omega)|skip))
          refine ⟨i + 1, ?_, ⟨by omega, hda1 (by simp [isD]; omega)⟩, by omega⟩
          rw [hd1]
          (refine cov_of ?_ ?_ <;> simp [go_sem])
          omega
      · refine awp_exit ?_
        simp only [go_sem]
        refine hK5 _ ?_; clear hK5
        have hie : i = s.length := by omega
        subst hie
        rw [hfull] at had hub ⊢
        obtain ⟨q1, q2⟩ := hM h2' hnL had
        have I1 := hit (by omega) (by omega)
        generalize Lib.itoa (decVal s : Int) = t at *
        generalize decVal s = dv at *
        subst q1 q2
        by_cases hle : (dv : Int) ≤ 1000000000
        · (refine awp_sr fun KK hKK => ?_; simp [go_sem, hle]; ((repeat' (first|(refine ag_x ?_;simp [go_sem, hle])|intro _|refine And.intro ?_ ?_|(apply hKK;clear hKK KK)));all_goals first|refine Hold.mk ?_|omega|with_reducible assumption|(simp only [InR] at *;omega)|skip))
          (refine agc_f (dS t) (by first | exact .inl ⟨rfl, rfl⟩ | exact .inr rfl) ?_ rfl ?_; (intro hc args ha; simp [go_sem] at ha; subst ha; exact I1); simp [go_sem]; ((repeat' (first|(refine ag_x ?_;simp [go_sem])|intro _|refine And.intro ?_ ?_|(apply hKK;clear hKK KK)));all_goals first|refine Hold.mk ?_|omega|with_reducible assumption|(simp only [InR] at *;omega)|skip))
          (refine awp_ret ?_; simp [go_sem])
          have hle' : dv ≤ 1000000000 := by omega
          by_cases hq : t = s
          · simp [hle', hq]
          · simp [hle', hq]
        · (refine awp_sr fun KK hKK => ?_; simp [go_sem, hle]; ((repeat' (first|(refine ag_false (by simp [go_sem, undef, hle]) (by simp [go_sem]) ?_;simp [go_sem, hle])|intro _|refine And.intro ?_ ?_|(apply hKK;clear hKK KK)));all_goals first|refine Hold.mk ?_|omega|with_reducible assumption|(simp only [InR] at *;omega)|skip))
          (refine awp_ret ?_; simp [go_sem])
          intro q; omega
end Go.Proofs.YtjdccagkafnbfaaGreatDoor

namespace Go.Proofs.YtjdccagkafnbfaaGreatDoor
open Go.Eng Go.Wh Go.Ver
set_option maxRecDepth 20000
set_option linter.unusedSimpArgs false
set_option linter.unusedVariables false
attribute [local irreducible] AG CallA CallT AWp PCall ACall AgC
set_option maxHeartbeats 8000000 in
theorem rread_spec (v : List UInt8) (hl : v.length ≤ 1000000000) : PCall Tryz.prog 53 [dS v] fun r => r = .tup [dGs (readR v), dB (readV v).isSome] := by 
  refine pcall_of Tryz.func53 rfl rfl Tryz.ntmps53 (rs := [.tmp 2, .tmp 3]) (tys := [74, 4]) rfl rfl (by simp) ?_
  have S1 := split_spec v [46] (by omega) (by simp)
  rw [split_dots] at S1
  have hdl := dots_len 46 v
  have hdp := dots_part 46 v
  have hdn := dots_ne 46 v
  have hbig := @readV_big v
  have hpart := fun p => @readV_part v p
  have hword := fun p x => @readV_word v p x
  have hgood := fun l => @readV_good v l
  have hof := fun l => @readR_of v l
  have hnone : readV v = none → readR v = [] ∧ (readV v).isSome = false := fun h => by unfold readR; rw [h]; exact ⟨rfl, rfl⟩
  have hsome : ∀ l, readV v = some l → (readV v).isSome = true := fun l h => by rw [h]; rfl
  generalize hps : dots 46 v = ps at *
  generalize hR : readR v = R at *
  generalize hS : (readV v).isSome = B at *
  (refine awp_sr fun KK hKK => ?_; simp [go_sem]; ((repeat' (first|(refine ag_x ?_;simp [go_sem])|intro _|refine And.intro ?_ ?_|(apply hKK;clear hKK KK)));all_goals first|refine Hold.mk ?_|omega|with_reducible assumption|(simp only [InR] at *;omega)|skip))
  (refine awp_sr fun KK hKK => ?_; simp [go_sem]; ((repeat' (first|(refine ag_x ?_;simp [go_sem])|intro _|refine And.intro ?_ ?_|(apply hKK;clear hKK KK)));all_goals first|refine Hold.mk ?_|omega|with_reducible assumption|(simp only [InR] at *;omega)|skip))
  ((try refine CallT.toA ?_); refine callT_m (by first | exact .inl ⟨rfl, rfl⟩ | exact .inr rfl) (by simp [go_sem]) ?_; intro args ha; simp [go_sem] at ha; subst ha; refine ⟨_, S1, ?_⟩; rintro _ rfl; simp [go_sem]; ((repeat' (first|(refine ag_x ?_;simp [go_sem])|intro _|refine And.intro ?_ ?_|(apply hKK;clear hKK KK)));all_goals first|refine Hold.mk ?_|omega|with_reducible assumption|(simp only [InR] at *;omega)|skip))
  refine awp_seq_k fun K1 hK1 => ?_
  (refine awp_sr fun KK hKK => ?_; simp [go_sem]; ((repeat' (first|(refine ag_x ?_;simp [go_sem])|intro _|refine And.intro ?_ ?_|(apply hKK;clear hKK KK)));all_goals first|refine Hold.mk ?_|omega|with_reducible assumption|(simp only [InR] at *;omega)|skip))
  (refine awp_if fun T F hT hF => ?_; simp [go_sem]; refine BR.intro (fun h2 => hT ?_) (fun h2 => hF ?_); all_goals clear hT hF T F; try simp at h2) 
  · obtain ⟨q1, q2⟩ := hnone (hbig (by omega))
    subst q1 q2
    (refine awp_sr fun KK hKK => ?_; simp [go_sem]; ((repeat' (first|(refine ag_x ?_;simp [go_sem])|intro _|refine And.intro ?_ ?_|(apply hKK;clear hKK KK)));all_goals first|refine Hold.mk ?_|omega|with_reducible assumption|(simp only [InR] at *;omega)|skip))
    (refine awp_ret ?_; simp [go_sem])
  · refine awp_skip ?_
    refine hK1 _ ?_; clear hK1
    have h2' : ¬ (60 < v.length ∨ 8 < ps.length) := by omega
    (refine awp_sr fun KK hKK => ?_; simp [go_sem]; ((repeat' (first|(refine ag_x ?_;simp [go_sem])|intro _|refine And.intro ?_ ?_|(apply hKK;clear hKK KK)));all_goals first|refine Hold.mk ?_|omega|with_reducible assumption|(simp only [InR] at *;omega)|skip))
    refine awp_nilslot 5 5 105 2 rfl fun g5 => ?_
    simp only [go_sem]
    refine awp_seq_k fun K3 hK3 => ?_
    (refine awp_sr fun KK hKK => ?_; simp [go_sem]; ((repeat' (first|(refine ag_x ?_;simp [go_sem])|intro _|refine And.intro ?_ ?_|(apply hKK;clear hKK KK)));all_goals first|refine Hold.mk ?_|omega|with_reducible assumption|(simp only [InR] at *;omega)|skip))
    refine awp_block ?_
    refine awp_loop (σ := Nat × List Seg × Nat) (fun x => ⟨[(4, dSs ps), (5, .own 5 x.2.2), (6, dI x.1)], [(5, x.2.2, .row 105 2 (x.2.1.map cG))]⟩) (fun x => x.1 ≤ ps.length ∧ x.2.1.length = x.1 ∧ segsV (ps.take x.1) = some x.2.1 ∧ (0 < x.1 → x.2.1.head?.map (·.1) = some [])) (fun x => ps.length - x.1) (0, [], g5) ?_ ?_ ?_
    · (refine cov_of ?_ ?_ <;> simp [go_sem])
    · exact ⟨by omega, rfl, rfl, fun h => absurd h (by simp)⟩
    rintro ⟨i, out, g⟩ ⟨hi, ho, hs, hh⟩
    simp only at hi ho hs hh
    refine awp_seq_k fun K4 hK4 => ?_
    (refine awp_sr fun KK hKK => ?_; simp [go_sem]; ((repeat' (first|(refine ag_x ?_;simp [go_sem])|intro _|refine And.intro ?_ ?_|(apply hKK;clear hKK KK)));all_goals first|refine Hold.mk ?_|omega|with_reducible assumption|(simp only [InR] at *;omega)|skip))
    (refine awp_if fun T F hT hF => ?_; simp [go_sem]; refine BR.intro (fun h5 => hT ?_) (fun h5 => hF ?_); all_goals clear hT hF T F; try simp at h5) 
    · refine awp_skip ?_
      refine hK4 _ ?_; clear hK4
      have hi' : i < ps.length := by omega
      obtain ⟨p, hp⟩ : ∃ p, ps[i]? = some p := ⟨_, List.getElem?_eq_getElem hi'⟩
      have hpm : p ∈ ps := List.mem_of_getElem? hp
      have R1 := rsegment_spec p (by have := hdp p hpm; omega)
      have hbad := hpart p hpm
      have hsb : segV p = none → segsV ps = none := fun h => segsV_bad hpm h
      have hsn := fun (x : Seg) (h : segV p = some x) => segsV_snoc hs h
      have hsp := @rsP_of p
      have hwd := fun x (h : i = 0) => hword p x (by rw [← h]; exact hp)
      refine awp_seq_k fun K6 hK6 => ?_
      refine awp_block ?_
      generalize rsP p = q at *
      generalize hsv : segV p = sv at *
      (refine awp_sr fun KK hKK => ?_; simp [go_sem, hp]; ((repeat' (first|(refine ag_x ?_;simp [go_sem, hp])|intro _|refine And.intro ?_ ?_|(apply hKK;clear hKK KK)));all_goals first|refine Hold.mk ?_|omega|with_reducible assumption|(simp only [InR] at *;omega)|skip))
      ((try refine CallT.toA ?_); refine callT_m (by first | exact .inl ⟨rfl, rfl⟩ | exact .inr rfl) (by simp [go_sem]) ?_; intro args ha; simp [go_sem] at ha; subst ha; refine ⟨_, R1, ?_⟩; rintro _ rfl; simp [go_sem]; ((repeat' (first|(refine ag_x ?_;simp [go_sem])|intro _|refine And.intro ?_ ?_|(apply hKK;clear hKK KK)));all_goals first|refine Hold.mk ?_|omega|with_reducible assumption|(simp only [InR] at *;omega)|skip))
      rename_i g7
      refine awp_seq_k fun K7 hK7 => ?_
      cases sv with
      | none =>
        obtain ⟨q1, q2⟩ := hnone (hbad (hsb rfl))
        subst q1 q2
        simp only [Option.isSome_none]
        (refine awp_sr fun KK hKK => ?_; simp [go_sem]; ((repeat' (first|(refine ag_false (by simp [go_sem, undef]) (by simp [go_sem]) ?_;simp [go_sem])|intro _|refine And.intro ?_ ?_|(apply hKK;clear hKK KK)));all_goals first|refine Hold.mk ?_|omega|with_reducible assumption|(simp only [InR] at *;omega)|skip))
        (refine awp_if fun T F hT hF => ?_; simp [go_sem]; refine hT ?_; clear hT hF T F)
        (refine awp_sr fun KK hKK => ?_; simp [go_sem]; ((repeat' (first|(refine ag_x ?_;simp [go_sem])|intro _|refine And.intro ?_ ?_|(apply hKK;clear hKK KK)));all_goals first|refine Hold.mk ?_|omega|with_reducible assumption|(simp only [InR] at *;omega)|skip))
        (refine awp_ret ?_; simp [go_sem])
      | some x =>
        obtain rfl := hsp rfl
        simp only [Option.isSome_some]
        have e : ps.take (i + 1) = ps.take i ++ [p] := by rw [List.take_add_one, hp]; rfl
        by_cases h0 : i = 0
        · have h0' : (i : Int) = 0 := by omega
          by_cases hw : q.1 = []
          · (refine awp_sr fun KK hKK => ?_; simp [go_sem, h0']; ((repeat' (first|(refine ag_x ?_;simp [go_sem, h0'])|intro _|refine And.intro ?_ ?_|(apply hKK;clear hKK KK)));all_goals first|refine Hold.mk ?_|omega|with_reducible assumption|(simp only [InR] at *;omega)|skip))
            (refine awp_if fun T F hT hF => ?_; simp [go_sem, hw]; refine hF ?_; clear hT hF T F)
            refine awp_skip ?_
            refine hK7 _ ?_; clear hK7
            (refine awp_r fun KK hKK => ?_; simp [go_sem]; ((repeat' (first|(refine ag_x ?_;simp [go_sem])|intro _|refine And.intro ?_ ?_|(apply hKK;clear hKK KK)));all_goals first|refine Hold.mk ?_|omega|with_reducible assumption|(simp only [InR] at *;omega)|skip))
            refine hK6 _ ?_; clear hK6
            (refine awp_r fun KK hKK => ?_; simp [go_sem]; ((repeat' (first|(refine ag_x ?_;simp [go_sem])|intro _|refine And.intro ?_ ?_|(apply hKK;clear hKK KK)));all_goals first|refine Hold.mk ?_|omega|with_reducible assumption|(simp only [InR] at *;omega)|skip))
            rename_i g28 g'
            refine ⟨(i + 1, out ++ [q], g'), ?_, ⟨by simp only; omega, by simp [ho], ?_, ?_⟩, by simp only; omega⟩
            · (refine cov_of ?_ ?_ <;> simp [go_sem])
              all_goals omega
            · simp only [e]
              exact hsn q rfl
            · intro _
              subst h0
              cases out with
              | nil => simp [hw]
              | cons a b => simp at ho
          · have hwe : q.1.isEmpty = false := by cases hqq : q.1 with
              | nil => exact absurd hqq hw
              | cons => rfl
            obtain ⟨q1, q2⟩ := hnone (hwd q h0 rfl hw)
            subst q1 q2
            (refine awp_sr fun KK hKK => ?_; simp [go_sem, h0']; ((repeat' (first|(refine ag_x ?_;simp [go_sem, h0'])|intro _|refine And.intro ?_ ?_|(apply hKK;clear hKK KK)));all_goals first|refine Hold.mk ?_|omega|with_reducible assumption|(simp only [InR] at *;omega)|skip))
            (refine awp_if fun T F hT hF => ?_; simp [go_sem, hwe]; refine hT ?_; clear hT hF T F)
            (refine awp_sr fun KK hKK => ?_; simp [go_sem]; ((repeat' (first|(refine ag_x ?_;simp [go_sem])|intro _|refine And.intro ?_ ?_|(apply hKK;clear hKK KK)));all_goals first|refine Hold.mk ?_|omega|with_reducible assumption|(simp only [InR] at *;omega)|skip))
            (refine awp_ret ?_; simp [go_sem])
        · have h0' : ¬ (i : Int) = 0 := by omega
          (refine awp_sr fun KK hKK => ?_; simp [go_sem, h0']; ((repeat' (first|(refine ag_x ?_;simp [go_sem, h0'])|intro _|refine And.intro ?_ ?_|(apply hKK;clear hKK KK)));all_goals first|refine Hold.mk ?_|omega|with_reducible assumption|(simp only [InR] at *;omega)|skip))
          (refine awp_if fun T F hT hF => ?_; simp [go_sem, h0]; refine hF ?_; clear hT hF T F)
          refine awp_skip ?_
          refine hK7 _ ?_; clear hK7
          (refine awp_r fun KK hKK => ?_; simp [go_sem]; ((repeat' (first|(refine ag_x ?_;simp [go_sem])|intro _|refine And.intro ?_ ?_|(apply hKK;clear hKK KK)));all_goals first|refine Hold.mk ?_|omega|with_reducible assumption|(simp only [InR] at *;omega)|skip))
          refine hK6 _ ?_; clear hK6
          (refine awp_r fun KK hKK => ?_; simp [go_sem]; ((repeat' (first|(refine ag_x ?_;simp [go_sem])|intro _|refine And.intro ?_ ?_|(apply hKK;clear hKK KK)));all_goals first|refine Hold.mk ?_|omega|with_reducible assumption|(simp only [InR] at *;omega)|skip))
          rename_i g28 g'
          refine ⟨(i + 1, out ++ [q], g'), ?_, ⟨by simp only; omega, by simp [ho], ?_, ?_⟩, by simp only; omega⟩
          · (refine cov_of ?_ ?_ <;> simp [go_sem])
          · simp only [e]
            exact hsn q rfl
          · intro _
            have hh' := hh (by omega)
            cases out with
            | nil => simp at ho; omega
            | cons a b => simpa using hh'
    · refine awp_exit ?_
      simp only [go_sem]
      refine hK3 _ ?_; clear hK3
      have hie : i = ps.length := by omega
      subst hie
      rw [List.take_length] at hs
      have hpl : 0 < ps.length := List.length_pos_iff.2 hdn
      have hg := hgood out h2' hs (hh hpl)
      have e1 := hof out hg
      have e2 := hsome out hg
      subst e1 e2
      (refine awp_sr fun KK hKK => ?_; simp [go_sem]; ((repeat' (first|(refine ag_x ?_;simp [go_sem])|intro _|refine And.intro ?_ ?_|(apply hKK;clear hKK KK)));all_goals first|refine Hold.mk ?_|omega|with_reducible assumption|(simp only [InR] at *;omega)|skip))
      (refine awp_ret ?_; simp [go_sem])
end Go.Proofs.YtjdccagkafnbfaaGreatDoor

namespace Go.Proofs.YtjdccagkafnbfaaGreatDoor
open Go.Eng Go.Wh Go.Ver
set_option maxRecDepth 20000
set_option linter.unusedSimpArgs false
set_option linter.unusedVariables false
attribute [local irreducible] AG CallA CallT AWp PCall ACall AgC
theorem words_take {l : List Seg} {i : Nat} {x : Seg} (h : (l.take i).any (fun s => decide (s.1 ≠ [])) = false) (hx : l[i]? = some x) :
    (x.1 ≠ [] → wordsV l = i) ∧ (x.1 = [] → (l.take (i + 1)).any (fun s => decide (s.1 ≠ [])) = false) := by
  refine ⟨fun q => ?_, fun q => take_anyG h hx (by simp [q])⟩
  have e := fIx_at h hx (p := fun s => decide (s.1 ≠ [])) (by simp [q])
  have := (words_ix l).1 (by omega)
  omega
theorem words_all {l : List Seg} (h : l.any (fun s => decide (s.1 ≠ [])) = false) : wordsV l = l.length := by
  have e := fIx_none (p := fun s : Seg => decide (s.1 ≠ [])) h
  exact (words_ix l).2 (by omega)
theorem rwords_spec (l : List Seg) (hl : l.length ≤ 1000000) : PCall Tryz.prog 75 [dGs l] fun r => r = dI (wordsV l) := by 
  refine pcall_of Tryz.func75 rfl rfl Tryz.ntmps75 (rs := [.tmp 2]) (tys := [3]) rfl rfl (by simp) ?_
  have hw := fun i x => @words_take l i x
  have ha := @words_all l
  generalize wordsV l = w at *
  (refine awp_sr fun KK hKK => ?_; simp [go_sem]; ((repeat' (first|(refine ag_x ?_;simp [go_sem])|intro _|refine And.intro ?_ ?_|(apply hKK;clear hKK KK)));all_goals first|refine Hold.mk ?_|omega|with_reducible assumption|(simp only [InR] at *;omega)|skip))
  refine awp_seq_k fun K1 hK1 => ?_
  (refine awp_sr fun KK hKK => ?_; simp [go_sem]; ((repeat' (first|(refine ag_x ?_;simp [go_sem])|intro _|refine And.intro ?_ ?_|(apply hKK;clear hKK KK)));all_goals first|refine Hold.mk ?_|omega|with_reducible assumption|(simp only [InR] at *;omega)|skip))
  refine awp_block ?_
  refine awp_loop (σ := Nat) (fun i => ⟨[(0, dGs l), (3, dI i)], []⟩) (fun i => i ≤ l.length ∧ (l.take i).any (fun s => decide (s.1 ≠ [])) = false) (fun i => l.length - i) 0 ?_ ?_ ?_
  · (refine cov_of ?_ ?_ <;> simp [go_sem])
  · exact ⟨by omega, by simp⟩
  rintro i ⟨hi, hany⟩
  refine awp_seq_k fun K2 hK2 => ?_
  (refine awp_sr fun KK hKK => ?_; simp [go_sem]; ((repeat' (first|(refine ag_x ?_;simp [go_sem])|intro _|refine And.intro ?_ ?_|(apply hKK;clear hKK KK)));all_goals first|refine Hold.mk ?_|omega|with_reducible assumption|(simp only [InR] at *;omega)|skip))
  (refine awp_if fun T F hT hF => ?_; simp [go_sem]; refine BR.intro (fun h3 => hT ?_) (fun h3 => hF ?_); all_goals clear hT hF T F; try simp at h3) 
  · refine awp_skip ?_
    refine hK2 _ ?_; clear hK2
    obtain ⟨x, hx⟩ : ∃ x, l[i]? = some x := ⟨_, List.getElem?_eq_getElem (by omega)⟩
    have hw1 := hw i x hany hx
    refine awp_seq_k fun K4 hK4 => ?_
    refine awp_block ?_
    (refine awp_sr fun KK hKK => ?_; simp [go_sem, hx]; ((repeat' (first|(refine ag_x ?_;simp [go_sem, hx])|intro _|refine And.intro ?_ ?_|(apply hKK;clear hKK KK)));all_goals first|refine Hold.mk ?_|omega|with_reducible assumption|(simp only [InR] at *;omega)|skip))
    (refine awp_if fun T F hT hF => ?_; simp [go_sem]; refine BR.intro (fun h5 => hT ?_) (fun h5 => hF ?_); all_goals clear hT hF T F; try simp at h5) 
    · (refine awp_sr fun KK hKK => ?_; simp [go_sem]; ((repeat' (first|(refine ag_x ?_;simp [go_sem])|intro _|refine And.intro ?_ ?_|(apply hKK;clear hKK KK)));all_goals first|refine Hold.mk ?_|omega|with_reducible assumption|(simp only [InR] at *;omega)|skip))
      (refine awp_ret ?_; simp [go_sem])
      rw [hw1.1 h5]
    · refine awp_skip ?_
      refine hK4 _ ?_; clear hK4
      (refine awp_r fun KK hKK => ?_; simp [go_sem]; ((repeat' (first|(refine ag_x ?_;simp [go_sem])|intro _|refine And.intro ?_ ?_|(apply hKK;clear hKK KK)));all_goals first|refine Hold.mk ?_|omega|with_reducible assumption|(simp only [InR] at *;omega)|skip))
      refine ⟨i + 1, ?_, ⟨by omega, hw1.2 h5⟩, by omega⟩
      (refine cov_of ?_ ?_ <;> simp [go_sem])
  · refine awp_exit ?_
    simp only [go_sem]
    refine hK1 _ ?_; clear hK1
    have hie : i = l.length := by omega
    subst hie
    rw [List.take_length] at hany
    rw [ha hany]
    (refine awp_sr fun KK hKK => ?_; simp [go_sem]; ((repeat' (first|(refine ag_x ?_;simp [go_sem])|intro _|refine And.intro ?_ ?_|(apply hKK;clear hKK KK)));all_goals first|refine Hold.mk ?_|omega|with_reducible assumption|(simp only [InR] at *;omega)|skip))
    (refine awp_ret ?_; simp [go_sem])
end Go.Proofs.YtjdccagkafnbfaaGreatDoor

namespace Go.Proofs.YtjdccagkafnbfaaGreatDoor
open Go.Eng Go.Wh Go.Ver
set_option maxRecDepth 20000
set_option linter.unusedSimpArgs false
set_option linter.unusedVariables false
attribute [local irreducible] AG CallA CallT AWp PCall ACall AgC
theorem rsign_spec (a b : Bool) : PCall Tryz.prog 96 [dB a, dB b] fun r => r = dI (sgV a b) := by 
  refine pcall_of Tryz.func96 rfl rfl Tryz.ntmps96 (rs := [.tmp 4]) (tys := [3]) rfl rfl (by simp) ?_
  unfold sgV
  (refine awp_sr fun KK hKK => ?_; simp [go_sem]; ((repeat' (first|(refine ag_x ?_;simp [go_sem])|intro _|refine And.intro ?_ ?_|(apply hKK;clear hKK KK)));all_goals first|refine Hold.mk ?_|omega|with_reducible assumption|(simp only [InR] at *;omega)|skip))
  refine awp_seq_k fun K1 hK1 => ?_
  (refine awp_sr fun KK hKK => ?_; simp [go_sem]; ((repeat' (first|(refine ag_x ?_;simp [go_sem])|intro _|refine And.intro ?_ ?_|(apply hKK;clear hKK KK)));all_goals first|refine Hold.mk ?_|omega|with_reducible assumption|(simp only [InR] at *;omega)|skip))
  (refine awp_if fun T F hT hF => ?_; simp [go_sem]; refine BR.intro (fun h2 => hT ?_) (fun h2 => hF ?_); all_goals clear hT hF T F; try simp at h2) 
  · (refine awp_sr fun KK hKK => ?_; simp [go_sem]; ((repeat' (first|(refine ag_x ?_;simp [go_sem])|intro _|refine And.intro ?_ ?_|(apply hKK;clear hKK KK)));all_goals first|refine Hold.mk ?_|omega|with_reducible assumption|(simp only [InR] at *;omega)|skip))
    (refine awp_ret ?_; simp [go_sem, h2])
  · refine awp_skip ?_
    refine hK1 _ ?_; clear hK1
    refine awp_seq_k fun K3 hK3 => ?_
    (refine awp_sr fun KK hKK => ?_; simp [go_sem]; ((repeat' (first|(refine ag_x ?_;simp [go_sem])|intro _|refine And.intro ?_ ?_|(apply hKK;clear hKK KK)));all_goals first|refine Hold.mk ?_|omega|with_reducible assumption|(simp only [InR] at *;omega)|skip))
    (refine awp_if fun T F hT hF => ?_; simp [go_sem]; refine BR.intro (fun h4 => hT ?_) (fun h4 => hF ?_); all_goals clear hT hF T F; try simp at h4) 
    · (refine awp_sr fun KK hKK => ?_; simp [go_sem]; ((repeat' (first|(refine ag_x ?_;simp [go_sem])|intro _|refine And.intro ?_ ?_|(apply hKK;clear hKK KK)));all_goals first|refine Hold.mk ?_|omega|with_reducible assumption|(simp only [InR] at *;omega)|skip))
      (refine awp_ret ?_; simp [go_sem, h2, h4])
    · refine awp_skip ?_
      refine hK3 _ ?_; clear hK3
      (refine awp_sr fun KK hKK => ?_; simp [go_sem]; ((repeat' (first|(refine ag_x ?_;simp [go_sem])|intro _|refine And.intro ?_ ?_|(apply hKK;clear hKK KK)));all_goals first|refine Hold.mk ?_|omega|with_reducible assumption|(simp only [InR] at *;omega)|skip))
      (refine awp_ret ?_; simp [go_sem, h2, h4])
def wz (x : Seg) : Prop := x.1 ≠ [] → x.2 = 0
theorem rtwo_spec (x y : Seg) (hx : wz x) (hy : wz y) : PCall Tryz.prog 80 [dG x, dG y] fun r => r = dI (seg2 x y) := by 
  refine pcall_of Tryz.func80 rfl rfl Tryz.ntmps80 (rs := [.tmp 4]) (tys := [3]) rfl rfl (by simp) ?_
  have t1 := @two_mixed x y
  have t2 := fun h h2 => @two_word x y h h2 hx hy
  have t3 := @two_num x y
  generalize seg2 x y = res at *
  (refine awp_sr fun KK hKK => ?_; simp [go_sem]; ((repeat' (first|(refine ag_x ?_;simp [go_sem])|intro _|refine And.intro ?_ ?_|(apply hKK;clear hKK KK)));all_goals first|refine Hold.mk ?_|omega|with_reducible assumption|(simp only [InR] at *;omega)|skip))
  refine awp_seq_k fun K1 hK1 => ?_
  (refine awp_sr fun KK hKK => ?_; simp [go_sem]; ((repeat' (first|(refine ag_x ?_;simp [go_sem])|intro _|refine And.intro ?_ ?_|(apply hKK;clear hKK KK)));all_goals first|refine Hold.mk ?_|omega|with_reducible assumption|(simp only [InR] at *;omega)|skip))
  (refine awp_if fun T F hT hF => ?_; simp [go_sem]; refine BR.intro (fun h2 => hT ?_) (fun h2 => hF ?_); all_goals clear hT hF T F; try simp at h2) 
  · (refine awp_sr fun KK hKK => ?_; simp [go_sem]; ((repeat' (first|(refine ag_x ?_;simp [go_sem])|intro _|refine And.intro ?_ ?_|(apply hKK;clear hKK KK)));all_goals first|refine Hold.mk ?_|omega|with_reducible assumption|(simp only [InR] at *;omega)|skip))
    ((try refine CallT.toA ?_); refine callT_m (by first | exact .inl ⟨rfl, rfl⟩ | exact .inr rfl) (by simp [go_sem]) ?_; intro args ha; simp [go_sem] at ha; subst ha; refine ⟨_, (rsign_spec _ _), ?_⟩; rintro _ rfl; simp [go_sem]; ((repeat' (first|(refine ag_x ?_;simp [go_sem])|intro _|refine And.intro ?_ ?_|(apply hKK;clear hKK KK)));all_goals first|refine Hold.mk ?_|omega|with_reducible assumption|(simp only [InR] at *;omega)|skip))
    (refine awp_ret ?_; simp [go_sem])
    have e1 : x.1.isEmpty = decide (x.1 = []) := by cases x.1 <;> simp
    have e2 : y.1.isEmpty = decide (y.1 = []) := by cases y.1 <;> simp
    rw [e1, e2] at h2 ⊢
    simpa using t1 (by simpa using h2)
  · refine awp_skip ?_
    refine hK1 _ ?_; clear hK1
    refine awp_seq_k fun K3 hK3 => ?_
    (refine awp_sr fun KK hKK => ?_; simp [go_sem]; ((repeat' (first|(refine ag_x ?_;simp [go_sem])|intro _|refine And.intro ?_ ?_|(apply hKK;clear hKK KK)));all_goals first|refine Hold.mk ?_|omega|with_reducible assumption|(simp only [InR] at *;omega)|skip))
    (refine awp_if fun T F hT hF => ?_; simp [go_sem]; refine BR.intro (fun h4 => hT ?_) (fun h4 => hF ?_); all_goals clear hT hF T F; try simp at h4) 
    · (refine awp_sr fun KK hKK => ?_; simp [go_sem]; ((repeat' (first|(refine ag_x ?_;simp [go_sem])|intro _|refine And.intro ?_ ?_|(apply hKK;clear hKK KK)));all_goals first|refine Hold.mk ?_|omega|with_reducible assumption|(simp only [InR] at *;omega)|skip))
      ((try refine CallT.toA ?_); refine callT_m (by first | exact .inl ⟨rfl, rfl⟩ | exact .inr rfl) (by simp [go_sem]) ?_; intro args ha; simp [go_sem] at ha; subst ha; refine ⟨_, (rsign_spec _ _), ?_⟩; rintro _ rfl; simp [go_sem]; ((repeat' (first|(refine ag_x ?_;simp [go_sem])|intro _|refine And.intro ?_ ?_|(apply hKK;clear hKK KK)));all_goals first|refine Hold.mk ?_|omega|with_reducible assumption|(simp only [InR] at *;omega)|skip))
      (refine awp_ret ?_; simp [go_sem])
      refine t2 h4 (fun q => h4 ?_)
      rw [q] at h2
      simpa using h2
    · refine awp_skip ?_
      refine hK3 _ ?_; clear hK3
      (refine awp_sr fun KK hKK => ?_; simp [go_sem]; ((repeat' (first|(refine ag_x ?_;simp [go_sem])|intro _|refine And.intro ?_ ?_|(apply hKK;clear hKK KK)));all_goals first|refine Hold.mk ?_|omega|with_reducible assumption|(simp only [InR] at *;omega)|skip))
      ((try refine CallT.toA ?_); refine callT_m (by first | exact .inl ⟨rfl, rfl⟩ | exact .inr rfl) (by simp [go_sem]) ?_; intro args ha; simp [go_sem] at ha; subst ha; refine ⟨_, (rsign_spec _ _), ?_⟩; rintro _ rfl; simp [go_sem]; ((repeat' (first|(refine ag_x ?_;simp [go_sem])|intro _|refine And.intro ?_ ?_|(apply hKK;clear hKK KK)));all_goals first|refine Hold.mk ?_|omega|with_reducible assumption|(simp only [InR] at *;omega)|skip))
      (refine awp_ret ?_; simp [go_sem])
      refine t3 h4 ?_
      rw [h4] at h2
      simpa using h2.symm
theorem wz_at {a : List Seg} (h : ∀ x ∈ a, wz x) (i : Nat) : wz (atV a i) := by
  unfold atV
  cases e : a[i]? with
  | none => intro q; exact absurd rfl q
  | some x => exact h x (List.mem_of_getElem? e)
theorem wz_ok {l : List Seg} (h : VOk l) : ∀ x ∈ l, wz x := fun x hx q => by
  rcases h.2.2 x hx with ⟨_, _, _, q⟩ | ⟨q1, _⟩
  · exact q
  · exact absurd q1 q
set_option maxHeartbeats 8000000 in
theorem rorder_spec (a b : List Seg) (ha : a.length ≤ 1000000) (hb : b.length ≤ 1000000) (wa : ∀ x ∈ a, wz x) (wb : ∀ x ∈ b, wz x) : PCall Tryz.prog 55 [dGs a, dGs b] fun r => r = dI (cmpV a b) := by 
  refine pcall_of Tryz.func55 rfl rfl Tryz.ntmps55 (rs := [.tmp 4]) (tys := [3]) rfl rfl (by simp) ?_
  have hN : cmpN (max a.length b.length - 0) (a.drop 0) (b.drop 0) = cmpV a b := rfl
  have hna : ∀ i, ¬ i < a.length → atV a i = z0s := fun i h => at_past (by omega)
  have hnb : ∀ i, ¬ i < b.length → atV b i = z0s := fun i h => at_past (by omega)
  have hwa := wz_at wa
  have hwb := wz_at wb
  have hstep := fun i => @cmpN_drop a b (max a.length b.length) i
  have hle1 : a.length ≤ max a.length b.length := by omega
  have hle2 : b.length ≤ max a.length b.length := by omega
  have hle4 : max a.length b.length ≤ a.length ∨ max a.length b.length ≤ b.length := by omega
  have hle3 : max a.length b.length ≤ 1000000 := by omega
  have hz : ∀ i, max a.length b.length ≤ i → cmpN (max a.length b.length - i) (a.drop i) (b.drop i) = 0 := fun i h => by
    rw [Nat.sub_eq_zero_of_le h]; rfl
  generalize cmpV a b = res at *
  generalize max a.length b.length = n at *
  (refine awp_sr fun KK hKK => ?_; simp [go_sem]; ((repeat' (first|(refine ag_x ?_;simp [go_sem])|intro _|refine And.intro ?_ ?_|(apply hKK;clear hKK KK)));all_goals first|refine Hold.mk ?_|omega|with_reducible assumption|(simp only [InR] at *;omega)|skip))
  refine awp_seq_k fun K1 hK1 => ?_
  (refine awp_sr fun KK hKK => ?_; simp [go_sem]; ((repeat' (first|(refine ag_x ?_;simp [go_sem])|intro _|refine And.intro ?_ ?_|(apply hKK;clear hKK KK)));all_goals first|refine Hold.mk ?_|omega|with_reducible assumption|(simp only [InR] at *;omega)|skip))
  refine awp_block ?_
  refine awp_loop (σ := Nat) (fun i => ⟨[(0, dGs a), (1, dGs b), (5, dI i)], []⟩) (fun i => i ≤ n ∧ cmpN (n - i) (a.drop i) (b.drop i) = res) (fun i => n - i) 0 ?_ ?_ ?_
  · (refine cov_of ?_ ?_ <;> simp [go_sem])
  · exact ⟨by omega, hN⟩
  rintro i ⟨hi, hc⟩
  refine awp_seq_k fun K2 hK2 => ?_
  have body : (i < a.length ∨ i < b.length) → ∀ S', Cov S' ⟨[(0, dGs a), (1, dGs b), (5, dI i)], []⟩ → K2 S' := fun hor S' hS => by
    refine hK2 _ ?_
    refine awp_cov hS ?_; clear hS
    have hst := hstep i hc (by omega)
    refine awp_seq_k fun K4 hK4 => ?_
    refine awp_block ?_
    (refine awp_sr fun KK hKK => ?_; simp [go_sem]; ((repeat' (first|(refine ag_x ?_;simp [go_sem])|intro _|refine And.intro ?_ ?_|(apply hKK;clear hKK KK)));all_goals first|refine Hold.mk ?_|omega|with_reducible assumption|(simp only [InR] at *;omega)|skip))
    rename_i g6 g7
    refine awp_seq_k fun K5 hK5 => ?_
    have tl5 : ∀ S', Cov S' ⟨[(0, dGs a), (1, dGs b), (5, dI i), (6, .ptr 6 g6 0), (7, .ptr 7 g7 0)], [(6, g6, .box (cG (atV a i))), (7, g7, .box [dS [], dI 0])]⟩ → K5 S' := fun S' hS => by
      refine hK5 _ ?_; clear hK5
      refine awp_cov hS ?_; clear hS
      refine awp_seq_k fun K6 hK6 => ?_
      have tl6 : ∀ S', Cov S' ⟨[(0, dGs a), (1, dGs b), (5, dI i), (6, .ptr 6 g6 0), (7, .ptr 7 g7 0)], [(6, g6, .box (cG (atV a i))), (7, g7, .box (cG (atV b i)))]⟩ → K6 S' := fun S' hS => by
        refine hK6 _ ?_
        refine awp_cov hS ?_; clear hS
        have W1 := hwa i
        have W2 := hwb i
        generalize atV a i = x at *
        generalize atV b i = y at *
        (refine awp_sr fun KK hKK => ?_; simp [go_sem]; ((repeat' (first|(refine ag_x ?_;simp [go_sem])|intro _|refine And.intro ?_ ?_|(apply hKK;clear hKK KK)));all_goals first|refine Hold.mk ?_|omega|with_reducible assumption|(simp only [InR] at *;omega)|skip))
        ((try refine CallT.toA ?_); refine callT_m (by first | exact .inl ⟨rfl, rfl⟩ | exact .inr rfl) (by simp [go_sem]) ?_; intro args ha; simp [go_sem] at ha; subst ha; refine ⟨_, (rtwo_spec x y W1 W2), ?_⟩; rintro _ rfl; simp [go_sem]; ((repeat' (first|(refine ag_x ?_;simp [go_sem])|intro _|refine And.intro ?_ ?_|(apply hKK;clear hKK KK)));all_goals first|refine Hold.mk ?_|omega|with_reducible assumption|(simp only [InR] at *;omega)|skip))
        (refine awp_sr fun KK hKK => ?_; simp [go_sem]; ((repeat' (first|(refine ag_x ?_;simp [go_sem])|intro _|refine And.intro ?_ ?_|(apply hKK;clear hKK KK)));all_goals first|refine Hold.mk ?_|omega|with_reducible assumption|(simp only [InR] at *;omega)|skip))
        generalize seg2 x y = u at *
        (refine awp_if fun T F hT hF => ?_; simp [go_sem]; refine BR.intro (fun h7 => hT ?_) (fun h7 => hF ?_); all_goals clear hT hF T F; try simp at h7) 
        · (refine awp_sr fun KK hKK => ?_; simp [go_sem]; ((repeat' (first|(refine ag_x ?_;simp [go_sem])|intro _|refine And.intro ?_ ?_|(apply hKK;clear hKK KK)));all_goals first|refine Hold.mk ?_|omega|with_reducible assumption|(simp only [InR] at *;omega)|skip))
          (refine awp_ret ?_; simp [go_sem])
          exact hst.1 (by simpa using h7)
        · refine awp_skip ?_
          refine hK4 _ ?_; clear hK4
          (refine awp_r fun KK hKK => ?_; simp [go_sem]; ((repeat' (first|(refine ag_x ?_;simp [go_sem])|intro _|refine And.intro ?_ ?_|(apply hKK;clear hKK KK)));all_goals first|refine Hold.mk ?_|omega|with_reducible assumption|(simp only [InR] at *;omega)|skip))
          refine ⟨i + 1, ?_, ⟨by omega, hst.2 (by simpa using h7)⟩, by omega⟩
          (refine cov_of ?_ ?_ <;> simp [go_sem])
      (refine awp_sr fun KK hKK => ?_; simp [go_sem]; ((repeat' (first|(refine ag_x ?_;simp [go_sem])|intro _|refine And.intro ?_ ?_|(apply hKK;clear hKK KK)));all_goals first|refine Hold.mk ?_|omega|with_reducible assumption|(simp only [InR] at *;omega)|skip))
      (refine awp_if fun T F hT hF => ?_; simp [go_sem]; refine BR.intro (fun h8 => hT ?_) (fun h8 => hF ?_); all_goals clear hT hF T F; try simp at h8) 
      · obtain ⟨y, hy⟩ : ∃ y, b[i]? = some y := ⟨_, List.getElem?_eq_getElem (by omega)⟩
        have ey : atV b i = y := by unfold atV; rw [hy]; rfl
        (refine awp_r fun KK hKK => ?_; simp [go_sem, hy]; ((repeat' (first|(refine ag_x ?_;simp [go_sem, hy])|intro _|refine And.intro ?_ ?_|(apply hKK;clear hKK KK)));all_goals first|refine Hold.mk ?_|omega|with_reducible assumption|(simp only [InR] at *;omega)|skip))
        refine tl6 _ ?_
        rw [ey]
        (refine cov_of ?_ ?_ <;> simp [go_sem])
      · refine awp_skip ?_
        refine tl6 _ ?_
        rw [hnb i (by omega)]
        (refine cov_of ?_ ?_ <;> simp [go_sem])
    clear hK5
    (refine awp_sr fun KK hKK => ?_; simp [go_sem]; ((repeat' (first|(refine ag_x ?_;simp [go_sem])|intro _|refine And.intro ?_ ?_|(apply hKK;clear hKK KK)));all_goals first|refine Hold.mk ?_|omega|with_reducible assumption|(simp only [InR] at *;omega)|skip))
    (refine awp_if fun T F hT hF => ?_; simp [go_sem]; refine BR.intro (fun h9 => hT ?_) (fun h9 => hF ?_); all_goals clear hT hF T F; try simp at h9) 
    · obtain ⟨x, hx⟩ : ∃ x, a[i]? = some x := ⟨_, List.getElem?_eq_getElem (by omega)⟩
      have ex : atV a i = x := by unfold atV; rw [hx]; rfl
      (refine awp_r fun KK hKK => ?_; simp [go_sem, hx]; ((repeat' (first|(refine ag_x ?_;simp [go_sem, hx])|intro _|refine And.intro ?_ ?_|(apply hKK;clear hKK KK)));all_goals first|refine Hold.mk ?_|omega|with_reducible assumption|(simp only [InR] at *;omega)|skip))
      refine tl5 _ ?_
      rw [ex]
      (refine cov_of ?_ ?_ <;> simp [go_sem])
    · refine awp_skip ?_
      refine tl5 _ ?_
      rw [hna i (by omega)]
      (refine cov_of ?_ ?_ <;> simp [go_sem])
  by_cases h1 : i < a.length
  · have h1' : (i : Int) < a.length := by omega
    (refine awp_sr fun KK hKK => ?_; simp [go_sem, h1']; ((repeat' (first|(refine ag_false (by simp [go_sem, undef, h1']) (by simp [go_sem]) ?_;simp [go_sem, h1'])|intro _|refine And.intro ?_ ?_|(apply hKK;clear hKK KK)));all_goals first|refine Hold.mk ?_|omega|with_reducible assumption|(simp only [InR] at *;omega)|skip))
    (refine awp_if fun T F hT hF => ?_; simp [go_sem]; refine hT ?_; clear hT hF T F)
    refine awp_skip ?_
    refine body (.inl h1) _ ?_
    (refine cov_of ?_ ?_ <;> simp [go_sem])
  · have h1' : ¬ (i : Int) < a.length := by omega
    (refine awp_sr fun KK hKK => ?_; simp [go_sem, h1']; ((repeat' (first|(refine ag_x ?_;simp [go_sem, h1'])|intro _|refine And.intro ?_ ?_|(apply hKK;clear hKK KK)));all_goals first|refine Hold.mk ?_|omega|with_reducible assumption|(simp only [InR] at *;omega)|skip))
    (refine awp_if fun T F hT hF => ?_; simp [go_sem]; refine BR.intro (fun h3 => hT ?_) (fun h3 => hF ?_); all_goals clear hT hF T F; try simp at h3)
    · refine awp_skip ?_
      refine body (.inr (by omega)) _ ?_
      (refine cov_of ?_ ?_ <;> simp [go_sem])
    · refine awp_exit ?_
      simp only [go_sem]
      refine hK1 _ ?_; clear hK1
      (refine awp_sr fun KK hKK => ?_; simp [go_sem]; ((repeat' (first|(refine ag_x ?_;simp [go_sem])|intro _|refine And.intro ?_ ?_|(apply hKK;clear hKK KK)));all_goals first|refine Hold.mk ?_|omega|with_reducible assumption|(simp only [InR] at *;omega)|skip))
      (refine awp_ret ?_; simp [go_sem])
      rw [← hc, hz i (by omega)]
end Go.Proofs.YtjdccagkafnbfaaGreatDoor
