/- Part of a proof: see the last text. -/
import Derived.Test.YteekfnhhlcmcgaaGreatDoorG06
import Derived.Test.YteekfnhhlcmcgaaGreatDoorG04
set_option linter.unusedVariables false
set_option linter.unusedSimpArgs false
namespace Go.Proofs.YteekfnhhlcmcgaaGreatDoor
open Go.Eng Go.Wh Go.Ver Go.RowKit Go.Lk
set_option maxRecDepth 20000
attribute [local irreducible] AG CallA CallT AWp PCall ACall AgC
theorem scontains_spec (s p : List UInt8) (hl : s.length < 4294967281) : PCall Tryz.prog 164 [dS s, dS p] fun r => r = dB (Lib.contains s p) := by
 refine pcall_below ⟨_, Tryz.func164, rfl, rfl⟩ fun C w us hc hg hr => ?_
 have hg : glOk w := hg
 obtain rfl := repL_v (us := [.string ⟨s.toArray⟩, .string ⟨p.toArray⟩]) hr
 obtain ⟨m, hm⟩ := hg.2
 refine (Tryz.strings_Contains ⟨s.toArray⟩ ⟨p.toArray⟩ m w (by simpa [ByteArray.size] using hl) hm).mono ?_
 rintro e w' ⟨rfl, rfl⟩
 exact ⟨_, _, rfl, rfl, .v _, Below.refl _ _⟩
def nmL : List UInt8 := [97, 98, 99, 100, 101, 102, 103, 104, 105, 106, 107, 108, 109, 110, 111, 112, 113, 114, 115, 116, 117, 118, 119, 120, 121, 122, 48, 49, 50, 51, 52, 53, 54, 55, 56, 57, 95, 45]
theorem nmL_nm (c : UInt8) : nmL.contains c = nmC c := by
 have h := UInt8.toNat_lt c
 unfold nmC isL isD nmL
 refine Bool.eq_iff_iff.2 ?_
 simp only [List.contains_iff_mem, List.mem_cons, List.mem_nil_iff, or_false, Bool.and_eq_true, Bool.or_eq_true, decide_eq_true_eq, ← UInt8.toNat_inj]
 simp
 omega
theorem trim_nm (l : List UInt8) : (Lib.trimS l nmL = []) ↔ l.all nmC = true := by
 rw [trimS_nil]
 simp only [nmL_nm]
theorem contains_L (c : UInt8) : Lib.contains abcL [c] = isL c := by
 unfold Lib.contains
 rw [Lib.index_one, ← abcL_isL, Lib.contains_iff_indexByte]
theorem risName_spec (s : List UInt8) (hl : s.length ≤ 1000000000) : PCall Tryz.prog 121 [dS s] fun r => r = dB (nameV s) := by 
 refine pcall_of Tryz.func121 rfl rfl Tryz.ntmps121 (rs := [.tmp 2]) (tys := [4]) rfl rfl (by simp) ?_
 have T1 := trimS_spec s nmL (by omega) (by decide) (by decide)
 have ht := trim_nm s
 cases s with
 | nil =>
  (refine awp_sr fun Y Yh => ?_; simp [go_sem]; ((repeat' (first|(refine ag_x ?_;simp [go_sem])|intro _|apply And.intro|(apply Yh;clear Yh Y)));all_goals first|apply Hold.mk|omega|assumption|skip))
  (refine awp_sr fun Y Yh => ?_; simp [go_sem]; ((repeat' (first|(refine ag_false (by simp [go_sem, undef]) (by simp [go_sem]) ?_;simp [go_sem])|intro _|apply And.intro|(apply Yh;clear Yh Y)));all_goals first|apply Hold.mk|omega|assumption|skip))
  (refine awp_ret ?_; simp [go_sem, nameV])
 | cons c r =>
  have C1 := scontains_spec abcL [c] (by decide)
  rw [contains_L] at C1
  have e1 : ({ data := (c :: r).toArray } : ByteArray).extract 0 1 = { data := [c].toArray } := by apply ByteArray.ext; simp
  have h1 : (1 : Int) ≤ (r.length : Int) + 1 := by omega
  by_cases h2 : r.length < 20
  ·have h2' : ((r.length : Int) + 1 ≤ 20) := by omega
   generalize Lib.trimS (c :: r) nmL = a at *
   by_cases h3 : a = []
   ·subst h3
    have h4 := ht.1 rfl
    (refine awp_sr fun Y Yh => ?_; simp [go_sem]; ((repeat' (first|(refine ag_x ?_;simp [go_sem])|intro _|apply And.intro|(apply Yh;clear Yh Y)));all_goals first|apply Hold.mk|omega|assumption|skip))
    (refine awp_sr fun Y Yh => ?_; simp [go_sem, h1, h2']; ((repeat' (first|(refine ag_x ?_;simp [go_sem, h1, h2'])|intro _|apply And.intro|(apply Yh;clear Yh Y)));all_goals first|apply Hold.mk|omega|assumption|skip))
    (refine agc_f (dS []) (.inl ⟨rfl,rfl⟩) ?_ rfl ?_; (intro hc args ha; simp [go_sem] at ha; subst ha; exact T1); simp [go_sem, h1, h2']; ((repeat' (first|(refine ag_x ?_;simp [go_sem, h1, h2'])|intro _|apply And.intro|(apply Yh;clear Yh Y)));all_goals first|apply Hold.mk|omega|assumption|skip))
    (refine agc_f (dB (isL c)) (.inl ⟨rfl,rfl⟩) ?_ rfl ?_; (intro hc args ha; simp [go_sem] at ha; subst ha; exact (by rw [e1]; exact C1)); simp [go_sem, h1, h2']; ((repeat' (first|(refine ag_x ?_;simp [go_sem, h1, h2'])|intro _|apply And.intro|(apply Yh;clear Yh Y)));all_goals first|apply Hold.mk|omega|assumption|skip))
    (refine awp_ret ?_; simp [go_sem])
    simp only [List.all_cons, Bool.and_eq_true] at h4
    simp [nameV, h4.2, h2]
   ·have h4 : ¬ ((c :: r).all nmC = true) := fun q => h3 (ht.2 q)
    have h5 : nameV (c :: r) = false := by
     rw [← Bool.not_eq_true]
     intro q
     simp only [nameV, Bool.and_eq_true] at q
     exact h4 (by rw [List.all_cons, q.1.2]; simp [nmC, q.1.1])
    (refine awp_sr fun Y Yh => ?_; simp [go_sem]; ((repeat' (first|(refine ag_x ?_;simp [go_sem])|intro _|apply And.intro|(apply Yh;clear Yh Y)));all_goals first|apply Hold.mk|omega|assumption|skip))
    (refine awp_sr fun Y Yh => ?_; simp [go_sem, h1, h2']; ((repeat' (first|(refine ag_x ?_;simp [go_sem, h1, h2'])|intro _|apply And.intro|(apply Yh;clear Yh Y)));all_goals first|apply Hold.mk|omega|assumption|skip))
    (refine agc_f (dS a) (.inl ⟨rfl,rfl⟩) ?_ rfl ?_; (intro hc args ha; simp [go_sem] at ha; subst ha; exact T1); simp [go_sem, h1, h2', h3]; ((repeat' (first|(refine ag_false ?_ ?_ ?_;(focus (simp [go_sem, undef, h1, h2', h3];done));(focus (simp [go_sem];done));simp [go_sem, h1, h2', h3])|(refine ag_x ?_;simp [go_sem, undef, h1, h2', h3])|intro _|apply And.intro|(apply Yh;clear Yh Y)));all_goals first|apply Hold.mk|omega|assumption|skip))
    (refine awp_ret ?_; simp [go_sem, h5])
  ·have h2' : ¬ ((r.length : Int) + 1 ≤ 20) := by omega
   have h5 : nameV (c :: r) = false := by simp [nameV, h2]
   (refine awp_sr fun Y Yh => ?_; simp [go_sem]; ((repeat' (first|(refine ag_x ?_;simp [go_sem])|intro _|apply And.intro|(apply Yh;clear Yh Y)));all_goals first|apply Hold.mk|omega|assumption|skip))
   (refine awp_sr fun Y Yh => ?_; simp [go_sem, h1, h2']; ((repeat' (first|(refine ag_false ?_ ?_ ?_;(focus (simp [go_sem, undef, h1, h2'];done));(focus (simp [go_sem];done));simp [go_sem, h1, h2'])|(refine ag_x ?_;simp [go_sem, undef, h1, h2'])|intro _|apply And.intro|(apply Yh;clear Yh Y)));all_goals first|apply Hold.mk|omega|assumption|skip))
   (refine awp_ret ?_; simp [go_sem, h5])
def namedP (s : Bs) : Bs × Bs × Bool × Bool :=
 let c := Lib.cut s [32, 40]
 if c.1 = [] ∨ c.1.all nmC = false then ([], [], false, false)
 else if c.2.2 = false then (c.1, [], false, true)
 else ((c.1, (Lib.cut c.2.1 [41]).1, true, (Lib.cut c.2.1 [41]).2.2 && (decide ((Lib.cut c.2.1 [41]).2.1 = []) && decide ((Lib.cut c.2.1 [41]).1 ≠ []))))
theorem named_none {s : Bs} (h : nmdV s = none) : (namedP s).2.2.2 = false := by
 unfold nmdV at h
 unfold namedP
 generalize Lib.cut s [32, 40] = c at *
 obtain ⟨a, r, t⟩ := c
 simp only at h ⊢
 generalize Lib.cut r [41] = d at *
 obtain ⟨i, z, u⟩ := d
 simp only at h ⊢
 by_cases h1 : a = [] ∨ a.all nmC = false
 ·rw [if_pos h1]
 ·rw [if_neg h1] at h ⊢
  cases t with
  | false => simp at h
  | true =>
   by_cases h3 : u = true ∧ z = [] ∧ i ≠ []
   ·simp [h3] at h
   ·rw [if_neg (by simp)]
    rw [Bool.eq_false_iff]
    intro q
    simp only [Bool.and_eq_true, decide_eq_true_eq] at q
    exact h3 ⟨q.1, q.2.1, q.2.2⟩
theorem named_some {s n i : Bs} {b : Bool} (h : nmdV s = some (n, i, b)) : namedP s = (n, i, b, true) := by
 unfold nmdV at h
 unfold namedP
 generalize Lib.cut s [32, 40] = c at *
 obtain ⟨a, r, t⟩ := c
 simp only at h ⊢
 generalize Lib.cut r [41] = d at *
 obtain ⟨j, z, u⟩ := d
 simp only at h ⊢
 by_cases h1 : a = [] ∨ a.all nmC = false
 ·rw [if_pos h1] at h; cases h
 ·rw [if_neg h1] at h ⊢
  cases t with
  | false =>
   simp only [if_true, Option.some.injEq, Prod.mk.injEq] at h
   obtain ⟨rfl, rfl, rfl⟩ := h
   rfl
  | true =>
   rw [if_neg (by simp)] at h ⊢
   by_cases h3 : u = true ∧ z = [] ∧ j ≠ []
   ·rw [if_pos h3] at h
    simp only [Option.some.injEq, Prod.mk.injEq] at h
    obtain ⟨rfl, rfl, rfl⟩ := h
    simp [h3.1, h3.2.1, h3.2.2]
   ·rw [if_neg h3] at h; cases h
theorem cut_len (s p : Bs) : (Lib.cut s p).1.length ≤ s.length ∧ (Lib.cut s p).2.1.length ≤ s.length := by
 rcases cut_cases s p with ⟨a, r, h, e⟩ | ⟨h, _⟩
 ·rw [h]
  have := congrArg List.length e
  simp only [List.length_append] at this
  simp only
  omega
 ·rw [h]; simp
theorem named_spec (s : List UInt8) (hl : s.length ≤ 1000000000) : PCall Tryz.prog 196 [dS s] fun r => r = .tup [dS (namedP s).1, dS (namedP s).2.1, dB (namedP s).2.2.1, dB (namedP s).2.2.2] := by 
 refine pcall_of Tryz.func196 rfl rfl Tryz.ntmps196 (rs := [.tmp 2, .tmp 3, .tmp 4, .tmp 5]) (tys := [9, 9, 4, 4]) rfl rfl (by simp) ?_
 have C1 := cut_spec s [32, 40] (by omega)
 have hcl := cut_len s [32, 40]
 unfold namedP
 generalize Lib.cut s [32, 40] = c at *
 obtain ⟨a, r, t⟩ := c
 simp only at hcl C1 ⊢
 have C2 := cut_spec r [41] (by omega)
 have N1 := notName_spec a
 generalize Lib.cut r [41] = d at *
 obtain ⟨i, z, u⟩ := d
 simp only at C2 ⊢
 generalize a.all nmC = b at *
 (refine awp_sr fun Y Yh => ?_; simp [go_sem]; ((repeat' (first|(refine ag_x ?_;simp [go_sem])|intro _|apply And.intro|(apply Yh;clear Yh Y)));all_goals first|apply Hold.mk|omega|assumption|skip))
 (refine awp_sr fun Y Yh => ?_; simp [go_sem]; ((repeat' (first|(refine ag_x ?_;simp [go_sem])|intro _|apply And.intro|(apply Yh;clear Yh Y)));all_goals first|apply Hold.mk|omega|assumption|skip))
 ((try refine CallT.toA ?_); refine callT_m (.inl ⟨rfl,rfl⟩) (by simp [go_sem]) ?_; intro args ha; simp [go_sem] at ha; subst ha; refine ⟨_, C1, ?_⟩; rintro _ rfl; simp [go_sem]; ((repeat' (first|(refine ag_x ?_;simp [go_sem])|intro _|apply And.intro|(apply Yh;clear Yh Y)));all_goals first|apply Hold.mk|omega|assumption|skip))
 refine awp_seq_k fun K1 hK1 => ?_
 by_cases h1 : a = []
 ·(refine awp_sr fun Y Yh => ?_; simp [go_sem, h1]; ((repeat' (first|(refine ag_false (by simp [go_sem, undef, h1]) (by simp [go_sem]) ?_;simp [go_sem, h1])|intro _|apply And.intro|(apply Yh;clear Yh Y)));all_goals first|apply Hold.mk|omega|assumption|skip))
  (refine awp_if fun T F hT hF => ?_; simp [go_sem]; refine hT ?_; clear hT hF T F)
  (refine awp_sr fun Y Yh => ?_; simp [go_sem]; ((repeat' (first|(refine ag_x ?_;simp [go_sem])|intro _|apply And.intro|(apply Yh;clear Yh Y)));all_goals first|apply Hold.mk|omega|assumption|skip))
  (refine awp_ret ?_; simp [go_sem, h1])
 ·have h1' : a.isEmpty = false := by cases a with
   | nil => exact absurd rfl h1
   | cons => rfl
  (refine awp_sr fun Y Yh => ?_; simp [go_sem, h1]; ((repeat' (first|(refine ag_x ?_;simp [go_sem, h1])|intro _|apply And.intro|(apply Yh;clear Yh Y)));all_goals first|apply Hold.mk|omega|assumption|skip))
  (refine agc_f (dB (!b)) (.inl ⟨rfl,rfl⟩) ?_ rfl ?_; (intro hc args ha; simp [go_sem] at ha; subst ha; exact N1); simp [go_sem, h1]; ((repeat' (first|(refine ag_x ?_;simp [go_sem, h1])|intro _|apply And.intro|(apply Yh;clear Yh Y)));all_goals first|apply Hold.mk|omega|assumption|skip))
  cases b with
  | false =>
   (refine awp_if fun T F hT hF => ?_; simp [go_sem]; refine hT ?_; clear hT hF T F)
   (refine awp_sr fun Y Yh => ?_; simp [go_sem]; ((repeat' (first|(refine ag_x ?_;simp [go_sem])|intro _|apply And.intro|(apply Yh;clear Yh Y)));all_goals first|apply Hold.mk|omega|assumption|skip))
   (refine awp_ret ?_; simp [go_sem])
  | true =>
   (refine awp_if fun T F hT hF => ?_; simp [go_sem, h1']; refine hF ?_; clear hT hF T F)
   refine awp_skip ?_
   refine hK1 _ ?_; clear hK1
   refine awp_seq_k fun K3 hK3 => ?_
   cases t with
   | false =>
    (refine awp_sr fun Y Yh => ?_; simp [go_sem]; ((repeat' (first|(refine ag_x ?_;simp [go_sem])|intro _|apply And.intro|(apply Yh;clear Yh Y)));all_goals first|apply Hold.mk|omega|assumption|skip))
    (refine awp_if fun T F hT hF => ?_; simp [go_sem]; refine hT ?_; clear hT hF T F)
    (refine awp_sr fun Y Yh => ?_; simp [go_sem]; ((repeat' (first|(refine ag_x ?_;simp [go_sem])|intro _|apply And.intro|(apply Yh;clear Yh Y)));all_goals first|apply Hold.mk|omega|assumption|skip))
    (refine awp_ret ?_; simp [go_sem, h1])
   | true =>
    (refine awp_sr fun Y Yh => ?_; simp [go_sem]; ((repeat' (first|(refine ag_x ?_;simp [go_sem])|intro _|apply And.intro|(apply Yh;clear Yh Y)));all_goals first|apply Hold.mk|omega|assumption|skip))
    (refine awp_if fun T F hT hF => ?_; simp [go_sem]; refine hF ?_; clear hT hF T F)
    refine awp_skip ?_
    refine hK3 _ ?_; clear hK3
    (refine awp_sr fun Y Yh => ?_; simp [go_sem]; ((repeat' (first|(refine ag_x ?_;simp [go_sem])|intro _|apply And.intro|(apply Yh;clear Yh Y)));all_goals first|apply Hold.mk|omega|assumption|skip))
    ((try refine CallT.toA ?_); refine callT_m (.inl ⟨rfl,rfl⟩) (by simp [go_sem]) ?_; intro args ha; simp [go_sem] at ha; subst ha; refine ⟨_, C2, ?_⟩; rintro _ rfl; simp [go_sem]; ((repeat' (first|(refine ag_x ?_;simp [go_sem])|intro _|apply And.intro|(apply Yh;clear Yh Y)));all_goals first|apply Hold.mk|omega|assumption|skip))
    cases u with
    | false =>
     (refine awp_sr fun Y Yh => ?_; simp [go_sem]; ((repeat' (first|(refine ag_false (by simp [go_sem, undef]) (by simp [go_sem]) ?_;simp [go_sem])|intro _|apply And.intro|(apply Yh;clear Yh Y)));all_goals first|apply Hold.mk|omega|assumption|skip))
     (refine awp_ret ?_; simp [go_sem, h1])
    | true =>
     by_cases h2 : z = []
     ·(refine awp_sr fun Y Yh => ?_; simp [go_sem, h2]; ((repeat' (first|(refine ag_x ?_;simp [go_sem, h2])|intro _|apply And.intro|(apply Yh;clear Yh Y)));all_goals first|apply Hold.mk|omega|assumption|skip))
      (refine awp_ret ?_; simp [go_sem, h1, h2])
      cases i <;> rfl
     ·(refine awp_sr fun Y Yh => ?_; simp [go_sem, h2]; ((repeat' (first|(refine ag_false ?_ ?_ ?_;(focus (simp [go_sem, undef, h2];done));(focus (simp [go_sem];done));simp [go_sem, h2])|(refine ag_x ?_;simp [go_sem, undef, h2])|intro _|apply And.intro|(apply Yh;clear Yh Y)));all_goals first|apply Hold.mk|omega|assumption|skip))
      (refine awp_ret ?_; simp [go_sem, h1, h2])
theorem need_step (l : List Prs) (i : Nat) (x : Prs) (h : l[i]? = some x) : needTo l (i + 1) = (needTo l i && (nameV x.1 && (condsV x.2).isSome && (decide (i = 0) || (match l[i - 1]? with | some y => Op.bytesLess y.1 x.1 | none => true)))) := by
 rw [needTo]
 unfold needAt
 rw [h]
 all_goals rfl
set_option maxHeartbeats 4000000 in
theorem needs_spec (l : List Prs) (m : Nat) (hl : l.length ≤ 1000000) (hb : ∀ x ∈ l, x.1.length ≤ 1000000 ∧ x.2.length ≤ 1000000) : PCall Tryz.prog 122 [dPs l, dI m] fun r => r = dB (needsV m l) := by 
 refine pcall_of Tryz.func122 rfl rfl Tryz.ntmps122 (rs := [.tmp 4]) (tys := [4]) rfl rfl (by simp) ?_
 have hbad := fun n (h : needTo l n = false) (hn : n ≤ l.length) => needTo_bad h l.length hn
 have hst := need_step l
 have hz : needTo l 0 = true := rfl
 unfold needsV
 generalize needTo l = nt at *
 (refine awp_sr fun Y Yh => ?_; simp [go_sem]; ((repeat' (first|(refine ag_x ?_;simp [go_sem])|intro _|apply And.intro|(apply Yh;clear Yh Y)));all_goals first|apply Hold.mk|omega|assumption|skip))
 refine awp_seq_k fun K1 hK1 => ?_
 (refine awp_sr fun Y Yh => ?_; simp [go_sem]; ((repeat' (first|(refine ag_x ?_;simp [go_sem])|intro _|apply And.intro|(apply Yh;clear Yh Y)));all_goals first|apply Hold.mk|omega|assumption|skip))
 refine awp_block ?_
 refine awp_loop (σ := Nat) (fun i => ⟨[(0, dPs l), (1, dI m), (7, dPs l), (8, dI l.length), (9, dI i)], []⟩) (fun i => i ≤ l.length ∧ nt i = true) (fun i => l.length - i) 0 ?_ ?_ ?_
 ·(refine cov_of ?_ ?_ <;> simp [go_sem])
 ·exact ⟨by omega, hz⟩
 rintro i ⟨hi, hn⟩
 (refine awp_sr fun Y Yh => ?_; simp [go_sem]; ((repeat' (first|(refine ag_x ?_;simp [go_sem])|intro _|apply And.intro|(apply Yh;clear Yh Y)));all_goals first|apply Hold.mk|omega|assumption|skip))
 refine awp_seq_k fun K2 hK2 => ?_
 (refine awp_if fun T F hT hF => ?_; simp [go_sem]; refine BR.intro (fun h3 => hT ?_) (fun h3 => hF ?_); all_goals clear hT hF T F; try simp at h3) 
 ·refine awp_skip ?_
  refine hK2 _ ?_; clear hK2
  obtain ⟨x, hx⟩ : ∃ x, l[i]? = some x := ⟨_, List.getElem?_eq_getElem (by omega)⟩
  have hb1 := hb x (List.mem_of_getElem? hx)
  have N1 := isName_spec x.1 (by omega)
  have C1 := Check_spec x.2 (by omega)
  have hst1 := hst i x hx
  rw [hn, Bool.true_and] at hst1
  have hbad1 := fun h => hbad (i + 1) h (by omega)
  generalize nameV x.1 = nb at *
  generalize (condsV x.2).isSome = cb at *
  refine awp_seq_k fun K4 hK4 => ?_
  refine awp_block ?_
  (refine awp_sr fun Y Yh => ?_; simp [go_sem, hx]; ((repeat' (first|(refine ag_x ?_;simp [go_sem, hx])|intro _|apply And.intro|(apply Yh;clear Yh Y)));all_goals first|apply Hold.mk|omega|assumption|skip))
  cases nb with
  | false =>
   have hF := hbad1 (by rw [hst1]; simp)
   ((refine awp_dr (.qs [0, 1] (.one 2 (.qs [3, 4] (.sk 5 (.sk 6 (.sk 7 (.sk 8 (.qs [9, 10] (.sk 11 (.sk 12 (.sk 13 (.sk 14 (.sk 15 (.sk 16 (.sk 17 (.sk 18 (.sk 20 (.sk 19 (.sk 21 (.sk 22 (.sk 23 (.qs [24] (.nil))))))))))))))))))))))) (by kernel_rfl) ?_ ?_ ?_ ?_); (kernel_rfl); (exact (by decide +kernel)); (kernel_rfl); intro Y Yh; ((repeat' (first|(refine ag_x ?_;simp [go_sem])|refine adr_nil ?_|((first|refine adr_qs fun Y Yh=>?_|refine adr_y fun Y Yh=>?_);simp [go_sem])|intro _|apply And.intro|(apply Yh;clear Yh Y)));all_goals first|apply Hold.mk|omega|assumption|skip))
   ((try refine CallT.toA ?_); refine callT_m (.inl ⟨rfl,rfl⟩) (by simp [go_sem]) ?_; intro args ha; simp [go_sem] at ha; subst ha; refine ⟨_, N1, ?_⟩; rintro _ rfl; simp [go_sem, undef]; ((repeat' (first|(refine ag_x ?_;simp [go_sem, undef])|refine adr_nil ?_|((first|refine adr_qs fun Y Yh=>?_|refine adr_y fun Y Yh=>?_);simp [go_sem, undef])|intro _|apply And.intro|(apply Yh;clear Yh Y)));all_goals first|apply Hold.mk|omega|assumption|skip))
   (refine awp_if fun T F hT hF => ?_; simp [go_sem]; refine hT ?_; clear hT hF T F)
   (refine awp_sr fun Y Yh => ?_; simp [go_sem]; ((repeat' (first|(refine ag_x ?_;simp [go_sem])|intro _|apply And.intro|(apply Yh;clear Yh Y)));all_goals first|apply Hold.mk|omega|assumption|skip))
   (refine awp_ret ?_; simp [go_sem, hF])
  | true =>
   cases cb with
   | false =>
    have hF := hbad1 (by rw [hst1]; simp)
    ((refine awp_dr (.qs [0, 1] (.one 2 (.qs [3, 4, 5, 6] (.one 7 (.qs [8, 9, 10] (.sk 11 (.sk 12 (.sk 13 (.sk 14 (.sk 15 (.sk 16 (.sk 17 (.sk 18 (.sk 20 (.sk 19 (.sk 21 (.sk 22 (.sk 23 (.qs [24] (.nil)))))))))))))))))))) (by kernel_rfl) ?_ ?_ ?_ ?_); (kernel_rfl); (exact (by decide +kernel)); (kernel_rfl); intro Y Yh; ((repeat' (first|(refine ag_x ?_;simp [go_sem])|refine adr_nil ?_|((first|refine adr_qs fun Y Yh=>?_|refine adr_y fun Y Yh=>?_);simp [go_sem])|intro _|apply And.intro|(apply Yh;clear Yh Y)));all_goals first|apply Hold.mk|omega|assumption|skip))
    ((try refine CallT.toA ?_); refine callT_m (.inl ⟨rfl,rfl⟩) (by simp [go_sem]) ?_; intro args ha; simp [go_sem] at ha; subst ha; refine ⟨_, N1, ?_⟩; rintro _ rfl; simp [go_sem]; ((repeat' (first|(refine ag_x ?_;simp [go_sem])|refine adr_nil ?_|((first|refine adr_qs fun Y Yh=>?_|refine adr_y fun Y Yh=>?_);simp [go_sem])|intro _|apply And.intro|(apply Yh;clear Yh Y)));all_goals first|apply Hold.mk|omega|assumption|skip))
    (refine agc_f (dI (codeP false)) (.inl ⟨rfl,rfl⟩) ?_ rfl ?_; (intro hc args ha; simp [go_sem] at ha; subst ha; exact C1); simp [go_sem, undef, codeP]; ((repeat' (first|(refine ag_x ?_;simp [go_sem, undef, codeP])|refine adr_nil ?_|((first|refine adr_qs fun Y Yh=>?_|refine adr_y fun Y Yh=>?_);simp [go_sem, undef, codeP])|intro _|apply And.intro|(apply Yh;clear Yh Y)));all_goals first|apply Hold.mk|omega|assumption|skip))
    (refine awp_if fun T F hT hF => ?_; simp [go_sem]; refine hT ?_; clear hT hF T F)
    (refine awp_sr fun Y Yh => ?_; simp [go_sem]; ((repeat' (first|(refine ag_x ?_;simp [go_sem])|intro _|apply And.intro|(apply Yh;clear Yh Y)));all_goals first|apply Hold.mk|omega|assumption|skip))
    (refine awp_ret ?_; simp [go_sem, hF])
   | true =>
    by_cases h0 : i = 0
    ·subst h0
     have hT : nt 1 = true := by rw [hst1]; simp
     ((refine awp_dr (.qs [0, 1] (.one 2 (.qs [3, 4, 5, 6] (.one 7 (.qs [8, 9, 10, 11, 12, 13] (.sk 14 (.sk 15 (.sk 16 (.sk 17 (.sk 18 (.sk 20 (.sk 19 (.sk 21 (.sk 22 (.qs [23, 24] (.nil)))))))))))))))) (by kernel_rfl) ?_ ?_ ?_ ?_); (kernel_rfl); (exact (by decide +kernel)); (kernel_rfl); intro Y Yh; ((repeat' (first|(refine ag_x ?_;simp [go_sem])|refine adr_nil ?_|((first|refine adr_qs fun Y Yh=>?_|refine adr_y fun Y Yh=>?_);simp [go_sem])|intro _|apply And.intro|(apply Yh;clear Yh Y)));all_goals first|apply Hold.mk|omega|assumption|skip))
     ((try refine CallT.toA ?_); refine callT_m (.inl ⟨rfl,rfl⟩) (by simp [go_sem]) ?_; intro args ha; simp [go_sem] at ha; subst ha; refine ⟨_, N1, ?_⟩; rintro _ rfl; simp [go_sem]; ((repeat' (first|(refine ag_x ?_;simp [go_sem])|refine adr_nil ?_|((first|refine adr_qs fun Y Yh=>?_|refine adr_y fun Y Yh=>?_);simp [go_sem])|intro _|apply And.intro|(apply Yh;clear Yh Y)));all_goals first|apply Hold.mk|omega|assumption|skip))
     (refine agc_f (dI (codeP true)) (.inl ⟨rfl,rfl⟩) ?_ rfl ?_; (intro hc args ha; simp [go_sem] at ha; subst ha; exact C1); simp [go_sem, undef, codeP]; ((repeat' (first|(refine ag_x ?_;simp [go_sem, undef, codeP])|refine adr_nil ?_|((first|refine adr_qs fun Y Yh=>?_|refine adr_y fun Y Yh=>?_);simp [go_sem, undef, codeP])|intro _|apply And.intro|(apply Yh;clear Yh Y)));all_goals first|apply Hold.mk|omega|assumption|skip))
     (refine awp_if fun T F hT hF => ?_; simp [go_sem]; refine hF ?_; clear hT hF T F)
     refine awp_skip ?_
     refine hK4 _ ?_; clear hK4
     (refine awp_r fun Y Yh => ?_; simp [go_sem]; ((repeat' (first|(refine ag_x ?_;simp [go_sem])|intro _|apply And.intro|(apply Yh;clear Yh Y)));all_goals first|apply Hold.mk|omega|assumption|skip))
     refine ⟨1, ?_, ⟨by omega, hT⟩, by omega⟩
     (refine cov_of ?_ ?_ <;> simp [go_sem])
    ·obtain ⟨j, rfl⟩ : ∃ j, i = j + 1 := ⟨i - 1, by omega⟩
     obtain ⟨y, hy⟩ : ∃ y, l[j]? = some y := ⟨_, List.getElem?_eq_getElem (by omega)⟩
     have hi1 : ((j : Int) + 1 - 1).toNat = j := by omega
     have hi2 : (j : Int) + 1 - 1 = j := by omega
     have hpos : (0 : Int) < (j : Int) + 1 := by omega
     simp only [Nat.add_sub_cancel, hy] at hst1
     have ec : codeP true = 0 := rfl
     have hm1 := hb y (List.mem_of_getElem? hy)
     ((refine awp_dr (.qs [0, 1] (.one 2 (.qs [3, 4, 5, 6] (.one 7 (.qs [8, 9, 10, 11, 12, 13, 14, 15, 16, 17, 18, 20, 19, 21, 22, 23, 24] (.nil)))))) (by kernel_rfl) ?_ ?_ ?_ ?_); (kernel_rfl); (exact (by decide +kernel)); (kernel_rfl); intro Y Yh; ((repeat' (first|(refine ag_x ?_;simp [go_sem, hy, hi1, hi2, hpos])|refine adr_nil ?_|((first|refine adr_qs fun Y Yh=>?_|refine adr_y fun Y Yh=>?_);simp [go_sem, hy, hi1, hi2, hpos])|intro _|apply And.intro|(apply Yh;clear Yh Y)));all_goals first|apply Hold.mk|omega|assumption|skip))
     ((try refine CallT.toA ?_); refine callT_m (.inl ⟨rfl,rfl⟩) (by simp [go_sem]) ?_; intro args ha; simp [go_sem] at ha; subst ha; refine ⟨_, N1, ?_⟩; rintro _ rfl; simp [go_sem, hy, hi1, hi2, hpos]; ((repeat' (first|(refine ag_x ?_;simp [go_sem, hy, hi1, hi2, hpos])|refine adr_nil ?_|((first|refine adr_qs fun Y Yh=>?_|refine adr_y fun Y Yh=>?_);simp [go_sem, hy, hi1, hi2, hpos])|intro _|apply And.intro|(apply Yh;clear Yh Y)));all_goals first|apply Hold.mk|omega|assumption|skip))
     (refine agc_f (dI (codeP true)) (.inl ⟨rfl,rfl⟩) ?_ rfl ?_; (intro hc args ha; simp [go_sem] at ha; subst ha; exact C1); simp [go_sem, hy, hi1, hi2, hpos, ec]; ((repeat' (first|(refine ag_x ?_;simp [go_sem, hy, hi1, hi2, hpos, ec])|refine adr_nil ?_|((first|refine adr_qs fun Y Yh=>?_|refine adr_y fun Y Yh=>?_);simp [go_sem, hy, hi1, hi2, hpos, ec])|intro _|apply And.intro|(apply Yh;clear Yh Y)));all_goals first|apply Hold.mk|omega|assumption|skip))
     (refine awp_if fun T F hT hF => ?_; simp [go_sem]; refine BR.intro (fun h5 => hT ?_) (fun h5 => hF ?_); all_goals clear hT hF T F; try simp at h5)
     ·have hF := hbad1 (by rw [hst1]; simp [h5])
      (refine awp_sr fun Y Yh => ?_; simp [go_sem]; ((repeat' (first|(refine ag_x ?_;simp [go_sem])|intro _|apply And.intro|(apply Yh;clear Yh Y)));all_goals first|apply Hold.mk|omega|assumption|skip))
      (refine awp_ret ?_; simp [go_sem, hF])
     ·have hT : nt (j + 1 + 1) = true := by rw [hst1]; simp [h5]
      refine awp_skip ?_
      refine hK4 _ ?_; clear hK4
      (refine awp_r fun Y Yh => ?_; simp [go_sem]; ((repeat' (first|(refine ag_x ?_;simp [go_sem])|intro _|apply And.intro|(apply Yh;clear Yh Y)));all_goals first|apply Hold.mk|omega|assumption|skip))
      refine ⟨j + 1 + 1, ?_, ⟨by omega, hT⟩, by omega⟩
      (refine cov_of ?_ ?_ <;> simp [go_sem])
 ·refine awp_exit ?_
  simp only [go_sem]
  refine hK1 _ ?_; clear hK1
  have : i = l.length := by omega
  subst this
  rw [hn]
  (refine awp_sr fun Y Yh => ?_; simp [go_sem]; ((repeat' (first|(refine ag_x ?_;simp [go_sem])|intro _|apply And.intro|(apply Yh;clear Yh Y)));all_goals first|apply Hold.mk|omega|assumption|skip))
  (refine awp_ret ?_; simp [go_sem])
set_option maxHeartbeats 4000000 in
theorem rneeds_spec (l : List Prs) (m : Nat) (hl : l.length ≤ 1000000) (hb : ∀ x ∈ l, x.1.length ≤ 1000000 ∧ x.2.length ≤ 1000000) : PCall Tryz.prog 120 [dPs l, dI m] fun r => r = dB (needsV m l) := by 
 refine pcall_of Tryz.func120 rfl rfl Tryz.ntmps120 (rs := [.tmp 4]) (tys := [4]) rfl rfl (by simp) ?_
 have hbad := fun n (h : needTo l n = false) (hn : n ≤ l.length) => needTo_bad h l.length hn
 have hst := need_step l
 have hz : needTo l 0 = true := rfl
 unfold needsV
 generalize needTo l = nt at *
 (refine awp_sr fun Y Yh => ?_; simp [go_sem]; ((repeat' (first|(refine ag_x ?_;simp [go_sem])|intro _|apply And.intro|(apply Yh;clear Yh Y)));all_goals first|apply Hold.mk|omega|assumption|skip))
 refine awp_seq_k fun K1 hK1 => ?_
 (refine awp_sr fun Y Yh => ?_; simp [go_sem]; ((repeat' (first|(refine ag_x ?_;simp [go_sem])|intro _|apply And.intro|(apply Yh;clear Yh Y)));all_goals first|apply Hold.mk|omega|assumption|skip))
 (refine awp_if fun T F hT hF => ?_; simp [go_sem]; refine BR.intro (fun h2 => hT ?_) (fun h2 => hF ?_); all_goals clear hT hF T F; try simp at h2) 
 ·have h2' : ¬ l.length ≤ m := by omega
  (refine awp_sr fun Y Yh => ?_; simp [go_sem]; ((repeat' (first|(refine ag_x ?_;simp [go_sem])|intro _|apply And.intro|(apply Yh;clear Yh Y)));all_goals first|apply Hold.mk|omega|assumption|skip))
  (refine awp_ret ?_; simp [go_sem, h2'])
 ·refine awp_skip ?_
  refine hK1 _ ?_; clear hK1
  have h2' : l.length ≤ m := by omega
  refine awp_seq_k fun K3 hK3 => ?_
  (refine awp_sr fun Y Yh => ?_; simp [go_sem]; ((repeat' (first|(refine ag_x ?_;simp [go_sem])|intro _|apply And.intro|(apply Yh;clear Yh Y)));all_goals first|apply Hold.mk|omega|assumption|skip))
  refine awp_block ?_
  refine awp_loop (σ := Nat) (fun i => ⟨[(0, dPs l), (5, dI i)], []⟩) (fun i => i ≤ l.length ∧ nt i = true) (fun i => l.length - i) 0 ?_ ?_ ?_
  ·(refine cov_of ?_ ?_ <;> simp [go_sem])
  ·exact ⟨by omega, hz⟩
  rintro i ⟨hi, hn⟩
  refine awp_seq_k fun K4 hK4 => ?_
  (refine awp_sr fun Y Yh => ?_; simp [go_sem]; ((repeat' (first|(refine ag_x ?_;simp [go_sem])|intro _|apply And.intro|(apply Yh;clear Yh Y)));all_goals first|apply Hold.mk|omega|assumption|skip))
  (refine awp_if fun T F hT hF => ?_; simp [go_sem]; refine BR.intro (fun h5 => hT ?_) (fun h5 => hF ?_); all_goals clear hT hF T F; try simp at h5) 
  ·refine awp_skip ?_
   refine hK4 _ ?_; clear hK4
   obtain ⟨x, hx⟩ : ∃ x, l[i]? = some x := ⟨_, List.getElem?_eq_getElem (by omega)⟩
   have hb1 := hb x (List.mem_of_getElem? hx)
   have N1 := risName_spec x.1 (by omega)
   have C1 := rCheck_spec x.2 (by omega)
   have hst1 := hst i x hx
   rw [hn, Bool.true_and] at hst1
   have hbad1 := fun h => hbad (i + 1) h (by omega)
   generalize nameV x.1 = nb at *
   generalize (condsV x.2).isSome = cb at *
   refine awp_seq_k fun K6 hK6 => ?_
   refine awp_block ?_
   cases nb with
   | false =>
    have hF := hbad1 (by rw [hst1]; simp)
    ((refine awp_dr (.qs [0, 1, 2, 3, 4] (.one 5 (.qs [6, 7] (.sk 8 (.sk 9 (.sk 10 (.sk 11 (.sk 12 (.sk 13 (.sk 14 (.qs [15, 16] (.sk 17 (.sk 18 (.sk 19 (.sk 20 (.sk 21 (.sk 22 (.sk 23 (.sk 25 (.sk 26 (.sk 27 (.sk 28 (.sk 29 (.sk 24 (.sk 30 (.sk 31 (.sk 32 (.qs [33] (.nil))))))))))))))))))))))))))))) (by kernel_rfl) ?_ ?_ ?_ ?_); (kernel_rfl); (exact (by decide +kernel)); (kernel_rfl); intro Y Yh; ((repeat' (first|(refine ag_x ?_;simp [go_sem, hx])|refine adr_nil ?_|((first|refine adr_qs fun Y Yh=>?_|refine adr_y fun Y Yh=>?_);simp [go_sem, hx])|intro _|apply And.intro|(apply Yh;clear Yh Y)));all_goals first|apply Hold.mk|omega|assumption|skip))
    ((try refine CallT.toA ?_); refine callT_m (.inl ⟨rfl,rfl⟩) (by simp [go_sem]) ?_; intro args ha; simp [go_sem] at ha; subst ha; refine ⟨_, N1, ?_⟩; rintro _ rfl; simp [go_sem, undef]; ((repeat' (first|(refine ag_x ?_;simp [go_sem, undef])|refine adr_nil ?_|((first|refine adr_qs fun Y Yh=>?_|refine adr_y fun Y Yh=>?_);simp [go_sem, undef])|intro _|apply And.intro|(apply Yh;clear Yh Y)));all_goals first|apply Hold.mk|omega|assumption|skip))
    (refine awp_if fun T F hT hF => ?_; simp [go_sem]; refine hT ?_; clear hT hF T F)
    (refine awp_sr fun Y Yh => ?_; simp [go_sem]; ((repeat' (first|(refine ag_x ?_;simp [go_sem])|intro _|apply And.intro|(apply Yh;clear Yh Y)));all_goals first|apply Hold.mk|omega|assumption|skip))
    (refine awp_ret ?_; simp [go_sem, hF])
   | true =>
    cases cb with
    | false =>
     have hF := hbad1 (by rw [hst1]; simp)
     ((refine awp_dr (.qs [0, 1, 2, 3, 4] (.one 5 (.qs [6, 7, 8, 9, 10, 11, 12] (.one 13 (.qs [14, 15, 16] (.sk 17 (.sk 18 (.sk 19 (.sk 20 (.sk 21 (.sk 22 (.sk 23 (.sk 25 (.sk 26 (.sk 27 (.sk 28 (.sk 29 (.sk 24 (.sk 30 (.sk 31 (.sk 32 (.qs [33] (.nil))))))))))))))))))))))) (by kernel_rfl) ?_ ?_ ?_ ?_); (kernel_rfl); (exact (by decide +kernel)); (kernel_rfl); intro Y Yh; ((repeat' (first|(refine ag_x ?_;simp [go_sem, hx])|refine adr_nil ?_|((first|refine adr_qs fun Y Yh=>?_|refine adr_y fun Y Yh=>?_);simp [go_sem, hx])|intro _|apply And.intro|(apply Yh;clear Yh Y)));all_goals first|apply Hold.mk|omega|assumption|skip))
     ((try refine CallT.toA ?_); refine callT_m (.inl ⟨rfl,rfl⟩) (by simp [go_sem]) ?_; intro args ha; simp [go_sem] at ha; subst ha; refine ⟨_, N1, ?_⟩; rintro _ rfl; simp [go_sem, hx]; ((repeat' (first|(refine ag_x ?_;simp [go_sem, hx])|refine adr_nil ?_|((first|refine adr_qs fun Y Yh=>?_|refine adr_y fun Y Yh=>?_);simp [go_sem, hx])|intro _|apply And.intro|(apply Yh;clear Yh Y)));all_goals first|apply Hold.mk|omega|assumption|skip))
     (refine agc_f (dI (codeP false)) (.inl ⟨rfl,rfl⟩) ?_ rfl ?_; (intro hc args ha; simp [go_sem] at ha; subst ha; exact C1); simp [go_sem, undef, codeP]; ((repeat' (first|(refine ag_x ?_;simp [go_sem, undef, codeP])|refine adr_nil ?_|((first|refine adr_qs fun Y Yh=>?_|refine adr_y fun Y Yh=>?_);simp [go_sem, undef, codeP])|intro _|apply And.intro|(apply Yh;clear Yh Y)));all_goals first|apply Hold.mk|omega|assumption|skip))
     (refine awp_if fun T F hT hF => ?_; simp [go_sem]; refine hT ?_; clear hT hF T F)
     (refine awp_sr fun Y Yh => ?_; simp [go_sem]; ((repeat' (first|(refine ag_x ?_;simp [go_sem])|intro _|apply And.intro|(apply Yh;clear Yh Y)));all_goals first|apply Hold.mk|omega|assumption|skip))
     (refine awp_ret ?_; simp [go_sem, hF])
    | true =>
     by_cases h0 : i = 0
     ·subst h0
      have hT : nt 1 = true := by rw [hst1]; simp
      ((refine awp_dr (.qs [0, 1, 2, 3, 4] (.one 5 (.qs [6, 7, 8, 9, 10, 11, 12] (.one 13 (.qs [14, 15, 16, 17, 18, 19] (.sk 20 (.sk 21 (.sk 22 (.sk 23 (.sk 25 (.sk 26 (.sk 27 (.sk 28 (.sk 29 (.sk 24 (.sk 30 (.sk 31 (.qs [32, 33] (.nil))))))))))))))))))) (by kernel_rfl) ?_ ?_ ?_ ?_); (kernel_rfl); (exact (by decide +kernel)); (kernel_rfl); intro Y Yh; ((repeat' (first|(refine ag_x ?_;simp [go_sem, hx])|refine adr_nil ?_|((first|refine adr_qs fun Y Yh=>?_|refine adr_y fun Y Yh=>?_);simp [go_sem, hx])|intro _|apply And.intro|(apply Yh;clear Yh Y)));all_goals first|apply Hold.mk|omega|assumption|skip))
      ((try refine CallT.toA ?_); refine callT_m (.inl ⟨rfl,rfl⟩) (by simp [go_sem]) ?_; intro args ha; simp [go_sem] at ha; subst ha; refine ⟨_, N1, ?_⟩; rintro _ rfl; simp [go_sem, hx]; ((repeat' (first|(refine ag_x ?_;simp [go_sem, hx])|refine adr_nil ?_|((first|refine adr_qs fun Y Yh=>?_|refine adr_y fun Y Yh=>?_);simp [go_sem, hx])|intro _|apply And.intro|(apply Yh;clear Yh Y)));all_goals first|apply Hold.mk|omega|assumption|skip))
      (refine agc_f (dI (codeP true)) (.inl ⟨rfl,rfl⟩) ?_ rfl ?_; (intro hc args ha; simp [go_sem] at ha; subst ha; exact C1); simp [go_sem, undef, codeP]; ((repeat' (first|(refine ag_x ?_;simp [go_sem, undef, codeP])|refine adr_nil ?_|((first|refine adr_qs fun Y Yh=>?_|refine adr_y fun Y Yh=>?_);simp [go_sem, undef, codeP])|intro _|apply And.intro|(apply Yh;clear Yh Y)));all_goals first|apply Hold.mk|omega|assumption|skip))
      (refine awp_if fun T F hT hF => ?_; simp [go_sem]; refine hF ?_; clear hT hF T F)
      refine awp_skip ?_
      refine hK6 _ ?_; clear hK6
      (refine awp_r fun Y Yh => ?_; simp [go_sem]; ((repeat' (first|(refine ag_x ?_;simp [go_sem])|intro _|apply And.intro|(apply Yh;clear Yh Y)));all_goals first|apply Hold.mk|omega|assumption|skip))
      refine ⟨1, ?_, ⟨by omega, hT⟩, by omega⟩
      (refine cov_of ?_ ?_ <;> simp [go_sem])
     ·obtain ⟨j, rfl⟩ : ∃ j, i = j + 1 := ⟨i - 1, by omega⟩
      obtain ⟨y, hy⟩ : ∃ y, l[j]? = some y := ⟨_, List.getElem?_eq_getElem (by omega)⟩
      have hi1 : ((j : Int) + 1 - 1).toNat = j := by omega
      have hi2 : (j : Int) + 1 - 1 = j := by omega
      have hpos : (0 : Int) < (j : Int) + 1 := by omega
      simp only [Nat.add_sub_cancel, hy] at hst1
      have ec : codeP true = 0 := rfl
      have hm1 := hb y (List.mem_of_getElem? hy)
      have hi3 : ((j : Int) + 1).toNat = j + 1 := by omega
      ((refine awp_dr (.qs [0, 1, 2, 3, 4] (.one 5 (.qs [6, 7, 8, 9, 10, 11, 12] (.one 13 (.qs [14, 15, 16, 17, 18, 19, 20, 21, 22, 23, 25, 26, 27, 28, 29, 24, 30, 31, 32, 33] (.nil)))))) (by kernel_rfl) ?_ ?_ ?_ ?_); (kernel_rfl); (exact (by decide +kernel)); (kernel_rfl); intro Y Yh; ((repeat' (first|(refine ag_x ?_;simp [go_sem, hx, hy, hi1, hi2, hi3, hpos])|refine adr_nil ?_|((first|refine adr_qs fun Y Yh=>?_|refine adr_y fun Y Yh=>?_);simp [go_sem, hx, hy, hi1, hi2, hi3, hpos])|intro _|apply And.intro|(apply Yh;clear Yh Y)));all_goals first|apply Hold.mk|omega|assumption|skip))
      ((try refine CallT.toA ?_); refine callT_m (.inl ⟨rfl,rfl⟩) (by simp [go_sem]) ?_; intro args ha; simp [go_sem] at ha; subst ha; refine ⟨_, N1, ?_⟩; rintro _ rfl; simp [go_sem, hx, hy, hi1, hi2, hi3, hpos]; ((repeat' (first|(refine ag_x ?_;simp [go_sem, hx, hy, hi1, hi2, hi3, hpos])|refine adr_nil ?_|((first|refine adr_qs fun Y Yh=>?_|refine adr_y fun Y Yh=>?_);simp [go_sem, hx, hy, hi1, hi2, hi3, hpos])|intro _|apply And.intro|(apply Yh;clear Yh Y)));all_goals first|apply Hold.mk|omega|assumption|skip))
      (refine agc_f (dI (codeP true)) (.inl ⟨rfl,rfl⟩) ?_ rfl ?_; (intro hc args ha; simp [go_sem] at ha; subst ha; exact C1); simp [go_sem, hx, hy, hi1, hi2, hi3, hpos, ec]; ((repeat' (first|(refine ag_x ?_;simp [go_sem, hx, hy, hi1, hi2, hi3, hpos, ec])|refine adr_nil ?_|((first|refine adr_qs fun Y Yh=>?_|refine adr_y fun Y Yh=>?_);simp [go_sem, hx, hy, hi1, hi2, hi3, hpos, ec])|intro _|apply And.intro|(apply Yh;clear Yh Y)));all_goals first|apply Hold.mk|omega|assumption|skip))
      (refine awp_if fun T F hT hF => ?_; simp [go_sem]; refine BR.intro (fun h7 => hT ?_) (fun h7 => hF ?_); all_goals clear hT hF T F; try simp at h7)
      ·have hF := hbad1 (by rw [hst1]; simp [h7])
       (refine awp_sr fun Y Yh => ?_; simp [go_sem]; ((repeat' (first|(refine ag_x ?_;simp [go_sem])|intro _|apply And.intro|(apply Yh;clear Yh Y)));all_goals first|apply Hold.mk|omega|assumption|skip))
       (refine awp_ret ?_; simp [go_sem, hF])
      ·have hT : nt (j + 1 + 1) = true := by rw [hst1]; simp [h7]
       refine awp_skip ?_
       refine hK6 _ ?_; clear hK6
       (refine awp_r fun Y Yh => ?_; simp [go_sem]; ((repeat' (first|(refine ag_x ?_;simp [go_sem])|intro _|apply And.intro|(apply Yh;clear Yh Y)));all_goals first|apply Hold.mk|omega|assumption|skip))
       refine ⟨j + 1 + 1, ?_, ⟨by omega, hT⟩, by omega⟩
       (refine cov_of ?_ ?_ <;> simp [go_sem])
  ·refine awp_exit ?_
   simp only [go_sem]
   refine hK3 _ ?_; clear hK3
   have : i = l.length := by omega
   subst this
   rw [hn]
   (refine awp_sr fun Y Yh => ?_; simp [go_sem]; ((repeat' (first|(refine ag_x ?_;simp [go_sem])|intro _|apply And.intro|(apply Yh;clear Yh Y)));all_goals first|apply Hold.mk|omega|assumption|skip))
   (refine awp_ret ?_; simp [go_sem, h2'])
abbrev PrOk (x : Prs) : Prop := x.1.length ≤ 1000000 ∧ x.2.length ≤ 1000000
def LkOk (L : Lck) : Prop := L.1.length ≤ 1000000 ∧ L.2.1.length ≤ 1000000 ∧ L.2.2.length ≤ 1000000 ∧ (∀ x ∈ L.1, PrOk x) ∧ (∀ r ∈ L.2.1, r.length ≤ 1000000 ∧ ∀ x ∈ r, PrOk x) ∧ (∀ x ∈ L.2.2, PrOk x)
theorem pick_step (L : Lck) (i : Nat) (x : Prs) (r : List Prs) (h : L.1[i]? = some x) (hr : L.2.1[i]? = some r) : pickTo L (i + 1) = (pickTo L i && (nameV x.1 && (readV x.2).isSome && (decide (i = 0) || (match L.1[i - 1]? with | some y => Op.bytesLess y.1 x.1 | none => true)) && needsV 6 r)) := by
 rw [pickTo]
 unfold pickAt
 rw [h]
 have e : L.2.1.getD i [] = r := by simp [List.getD, hr]
 rw [e]
 all_goals rfl
set_option maxHeartbeats 8000000 in
theorem lCheck_spec (L : Lck) (hL : LkOk L) : PCall Tryz.prog 59 [dLk L] fun r => r = dI (if lockV L = true then 0 else 1) := by 
 refine pcall_of Tryz.func59 rfl rfl Tryz.ntmps59 (rs := [.tmp 2]) (tys := [35]) rfl rfl (by simp) ?_
 have hbad := fun n (h : pickTo L n = false) (hn : n ≤ L.1.length) => pickTo_bad h L.1.length hn
 have hst := pick_step L
 have hz : pickTo L 0 = true := rfl
 unfold lockV
 obtain ⟨P, N, W⟩ := L
 obtain ⟨hP, hN, hW, hP1, hN1, hW1⟩ := hL
 simp only at hP hN hW hP1 hN1 hW1 hbad hst hz ⊢
 generalize pickTo (P, N, W) = nt at *
 have W1 := needs_spec W 8 hW hW1
 generalize needsV 8 W = wb at *
 (refine awp_sr fun Y Yh => ?_; simp [go_sem]; ((repeat' (first|(refine ag_x ?_;simp [go_sem])|intro _|apply And.intro|(apply Yh;clear Yh Y)));all_goals first|apply Hold.mk|omega|assumption|skip))
 rename_i g1
 refine awp_seq_k fun K1 hK1 => ?_
 by_cases h1 : P.length ≤ 60
 ·have h1' : ¬ (60 : Int) < P.length := by omega
  by_cases h2 : N.length = P.length
  ·have h2' : (N.length : Int) = P.length := by omega
   (refine awp_sr fun Y Yh => ?_; simp [go_sem, h1', h2, h2']; ((repeat' (first|(refine ag_x ?_;simp [go_sem, h1', h2, h2'])|intro _|apply And.intro|(apply Yh;clear Yh Y)));all_goals first|apply Hold.mk|omega|assumption|skip))
   (refine agc_f (dB wb) (.inl ⟨rfl,rfl⟩) ?_ rfl ?_; (intro hc args ha; simp [go_sem] at ha; subst ha; exact W1); simp [go_sem, h1', h2, h2']; ((repeat' (first|(refine ag_x ?_;simp [go_sem, h1', h2, h2'])|intro _|apply And.intro|(apply Yh;clear Yh Y)));all_goals first|apply Hold.mk|omega|assumption|skip))
   cases wb with
   | false =>
    (refine awp_if fun T F hT hF => ?_; simp [go_sem, h1', h2, h2']; refine hT ?_; clear hT hF T F)
    (refine awp_sr fun Y Yh => ?_; simp [go_sem]; ((repeat' (first|(refine ag_x ?_;simp [go_sem])|intro _|apply And.intro|(apply Yh;clear Yh Y)));all_goals first|apply Hold.mk|omega|assumption|skip))
    (refine awp_ret ?_; simp [go_sem, h1, h2])
   | true =>
    (refine awp_if fun T F hT hF => ?_; simp [go_sem, h1', h2, h2']; refine hF ?_; clear hT hF T F)
    refine awp_skip ?_
    refine hK1 _ ?_; clear hK1
    refine awp_seq_k fun K3 hK3 => ?_
    (refine awp_sr fun Y Yh => ?_; simp [go_sem]; ((repeat' (first|(refine ag_x ?_;simp [go_sem])|intro _|apply And.intro|(apply Yh;clear Yh Y)));all_goals first|apply Hold.mk|omega|assumption|skip))
    refine awp_block ?_
    refine awp_loop (σ := Nat) (fun i => ⟨[(1, .ptr 1 g1 0), (25, dPs P), (26, dI P.length), (27, dI i)], [(1, g1, .box [dPs P, dNs N, dPs W])]⟩) (fun i => i ≤ P.length ∧ nt i = true) (fun i => P.length - i) 0 ?_ ?_ ?_
    ·(refine cov_of ?_ ?_ <;> simp [go_sem])
    ·exact ⟨by omega, hz⟩
    rintro i ⟨hi, hn⟩
    (refine awp_sr fun Y Yh => ?_; simp [go_sem]; ((repeat' (first|(refine ag_x ?_;simp [go_sem])|intro _|apply And.intro|(apply Yh;clear Yh Y)));all_goals first|apply Hold.mk|omega|assumption|skip))
    refine awp_seq_k fun K4 hK4 => ?_
    (refine awp_if fun T F hT hF => ?_; simp [go_sem]; refine BR.intro (fun h5 => hT ?_) (fun h5 => hF ?_); all_goals clear hT hF T F; try simp at h5)
    ·refine awp_skip ?_
     refine hK4 _ ?_; clear hK4
     obtain ⟨x, hx⟩ : ∃ x, P[i]? = some x := ⟨_, List.getElem?_eq_getElem (by omega)⟩
     obtain ⟨r, hr⟩ : ∃ r, N[i]? = some r := ⟨_, List.getElem?_eq_getElem (by omega)⟩
     have hb1 := hP1 x (List.mem_of_getElem? hx)
     have hb2 := hN1 r (List.mem_of_getElem? hr)
     have N1 := isName_spec x.1 (by omega)
     have C1 := Valid_spec x.2 (by omega)
     have Q1 := needs_spec r 6 hb2.1 hb2.2
     have hst1 := hst i x r hx hr
     rw [hn, Bool.true_and] at hst1
     have hbad1 := fun h => hbad (i + 1) h (by omega)
     generalize nameV x.1 = nb at *
     generalize (readV x.2).isSome = cb at *
     generalize needsV 6 r = qb at *
     refine awp_seq_k fun K6 hK6 => ?_
     refine awp_block ?_
     (refine awp_sr fun Y Yh => ?_; simp [go_sem, hx]; ((repeat' (first|(refine ag_x ?_;simp [go_sem, hx])|intro _|apply And.intro|(apply Yh;clear Yh Y)));all_goals first|apply Hold.mk|omega|assumption|skip))
     cases nb with
     | false =>
      have hF := hbad1 (by rw [hst1]; simp)
      ((refine awp_dr (.qs [0, 1] (.one 2 (.qs [3, 4] (.sk 5 (.sk 6 (.sk 7 (.sk 8 (.qs [9, 10] (.sk 11 (.sk 12 (.sk 13 (.sk 14 (.sk 16 (.sk 17 (.sk 21 (.sk 15 (.sk 18 (.sk 19 (.sk 20 (.sk 22 (.sk 23 (.sk 24 (.qs [25, 26] (.sk 27 (.sk 29 (.sk 28 (.sk 30 (.sk 31 (.sk 32 (.sk 33 (.qs [34] (.nil)))))))))))))))))))))))))))))))) (by kernel_rfl) ?_ ?_ ?_ ?_); (kernel_rfl); (exact (by decide +kernel)); (kernel_rfl); intro Y Yh; ((repeat' (first|(refine ag_x ?_;simp [go_sem])|refine adr_nil ?_|((first|refine adr_qs fun Y Yh=>?_|refine adr_y fun Y Yh=>?_);simp [go_sem])|intro _|apply And.intro|(apply Yh;clear Yh Y)));all_goals first|apply Hold.mk|omega|assumption|skip))
      ((try refine CallT.toA ?_); refine callT_m (.inl ⟨rfl,rfl⟩) (by simp [go_sem]) ?_; intro args ha; simp [go_sem] at ha; subst ha; refine ⟨_, N1, ?_⟩; rintro _ rfl; simp [go_sem, undef]; ((repeat' (first|(refine ag_x ?_;simp [go_sem, undef])|refine adr_nil ?_|((first|refine adr_qs fun Y Yh=>?_|refine adr_y fun Y Yh=>?_);simp [go_sem, undef])|intro _|apply And.intro|(apply Yh;clear Yh Y)));all_goals first|apply Hold.mk|omega|assumption|skip))
      (refine awp_if fun T F hT hF => ?_; simp [go_sem]; refine hT ?_; clear hT hF T F)
      (refine awp_sr fun Y Yh => ?_; simp [go_sem]; ((repeat' (first|(refine ag_x ?_;simp [go_sem])|intro _|apply And.intro|(apply Yh;clear Yh Y)));all_goals first|apply Hold.mk|omega|assumption|skip))
      (refine awp_ret ?_; simp [go_sem, hF, h1, h2])
     | true =>
      cases cb with
      | false =>
       have hF := hbad1 (by rw [hst1]; simp)
       ((refine awp_dr (.qs [0, 1] (.one 2 (.qs [3, 4, 5, 6] (.one 7 (.qs [8, 9, 10] (.sk 11 (.sk 12 (.sk 13 (.sk 14 (.sk 16 (.sk 17 (.sk 21 (.sk 15 (.sk 18 (.sk 19 (.sk 20 (.sk 22 (.sk 23 (.sk 24 (.qs [25, 26] (.sk 27 (.sk 29 (.sk 28 (.sk 30 (.sk 31 (.sk 32 (.sk 33 (.qs [34] (.nil))))))))))))))))))))))))))))) (by kernel_rfl) ?_ ?_ ?_ ?_); (kernel_rfl); (exact (by decide +kernel)); (kernel_rfl); intro Y Yh; ((repeat' (first|(refine ag_x ?_;simp [go_sem])|refine adr_nil ?_|((first|refine adr_qs fun Y Yh=>?_|refine adr_y fun Y Yh=>?_);simp [go_sem])|intro _|apply And.intro|(apply Yh;clear Yh Y)));all_goals first|apply Hold.mk|omega|assumption|skip))
       ((try refine CallT.toA ?_); refine callT_m (.inl ⟨rfl,rfl⟩) (by simp [go_sem]) ?_; intro args ha; simp [go_sem] at ha; subst ha; refine ⟨_, N1, ?_⟩; rintro _ rfl; simp [go_sem]; ((repeat' (first|(refine ag_x ?_;simp [go_sem])|refine adr_nil ?_|((first|refine adr_qs fun Y Yh=>?_|refine adr_y fun Y Yh=>?_);simp [go_sem])|intro _|apply And.intro|(apply Yh;clear Yh Y)));all_goals first|apply Hold.mk|omega|assumption|skip))
       (refine agc_f (dB false) (.inl ⟨rfl,rfl⟩) ?_ rfl ?_; (intro hc args ha; simp [go_sem] at ha; subst ha; exact C1); simp [go_sem, undef]; ((repeat' (first|(refine ag_x ?_;simp [go_sem, undef])|refine adr_nil ?_|((first|refine adr_qs fun Y Yh=>?_|refine adr_y fun Y Yh=>?_);simp [go_sem, undef])|intro _|apply And.intro|(apply Yh;clear Yh Y)));all_goals first|apply Hold.mk|omega|assumption|skip))
       (refine awp_if fun T F hT hF => ?_; simp [go_sem]; refine hT ?_; clear hT hF T F)
       (refine awp_sr fun Y Yh => ?_; simp [go_sem]; ((repeat' (first|(refine ag_x ?_;simp [go_sem])|intro _|apply And.intro|(apply Yh;clear Yh Y)));all_goals first|apply Hold.mk|omega|assumption|skip))
       (refine awp_ret ?_; simp [go_sem, hF, h1, h2])
      | true =>
       by_cases h0 : i = 0
       ·subst h0
        ((refine awp_dr (.qs [0, 1] (.one 2 (.qs [3, 4, 5, 6] (.one 7 (.qs [8, 9, 10, 11, 12, 13] (.sk 14 (.sk 16 (.sk 17 (.sk 21 (.sk 15 (.sk 18 (.sk 19 (.sk 20 (.sk 22 (.sk 23 (.qs [24, 25, 26, 27, 29, 28, 30, 31] (.one 32 (.qs [33, 34] (.nil))))))))))))))))))) (by kernel_rfl) ?_ ?_ ?_ ?_); (kernel_rfl); (exact (by decide +kernel)); (kernel_rfl); intro Y Yh; ((repeat' (first|(refine ag_x ?_;simp [go_sem, hr])|refine adr_nil ?_|((first|refine adr_qs fun Y Yh=>?_|refine adr_y fun Y Yh=>?_);simp [go_sem, hr])|intro _|apply And.intro|(apply Yh;clear Yh Y)));all_goals first|apply Hold.mk|omega|assumption|skip))
        ((try refine CallT.toA ?_); refine callT_m (.inl ⟨rfl,rfl⟩) (by simp [go_sem]) ?_; intro args ha; simp [go_sem] at ha; subst ha; refine ⟨_, N1, ?_⟩; rintro _ rfl; simp [go_sem, hr]; ((repeat' (first|(refine ag_x ?_;simp [go_sem, hr])|refine adr_nil ?_|((first|refine adr_qs fun Y Yh=>?_|refine adr_y fun Y Yh=>?_);simp [go_sem, hr])|intro _|apply And.intro|(apply Yh;clear Yh Y)));all_goals first|apply Hold.mk|omega|assumption|skip))
        (refine agc_f (dB true) (.inl ⟨rfl,rfl⟩) ?_ rfl ?_; (intro hc args ha; simp [go_sem] at ha; subst ha; exact C1); simp [go_sem, undef, hr]; ((repeat' (first|(refine ag_x ?_;simp [go_sem, undef, hr])|refine adr_nil ?_|((first|refine adr_qs fun Y Yh=>?_|refine adr_y fun Y Yh=>?_);simp [go_sem, undef, hr])|intro _|apply And.intro|(apply Yh;clear Yh Y)));all_goals first|apply Hold.mk|omega|assumption|skip))
        (refine agc_f (dB qb) (.inl ⟨rfl,rfl⟩) ?_ rfl ?_; (intro hc args ha; simp [go_sem] at ha; subst ha; exact Q1); simp [go_sem, undef, hr]; ((repeat' (first|(refine ag_x ?_;simp [go_sem, undef, hr])|refine adr_nil ?_|((first|refine adr_qs fun Y Yh=>?_|refine adr_y fun Y Yh=>?_);simp [go_sem, undef, hr])|intro _|apply And.intro|(apply Yh;clear Yh Y)));all_goals first|apply Hold.mk|omega|assumption|skip))
        cases qb with
        | false =>
         have hF := hbad1 (by rw [hst1]; simp)
         (refine awp_if fun T F hT hF => ?_; simp [go_sem]; refine hT ?_; clear hT hF T F)
         (refine awp_sr fun Y Yh => ?_; simp [go_sem]; ((repeat' (first|(refine ag_x ?_;simp [go_sem])|intro _|apply And.intro|(apply Yh;clear Yh Y)));all_goals first|apply Hold.mk|omega|assumption|skip))
         (refine awp_ret ?_; simp [go_sem, hF, h1, h2])
        | true =>
         have hT : nt 1 = true := by rw [hst1]; simp
         (refine awp_if fun T F hT hF => ?_; simp [go_sem]; refine hF ?_; clear hT hF T F)
         refine awp_skip ?_
         refine hK6 _ ?_; clear hK6
         (refine awp_r fun Y Yh => ?_; simp [go_sem]; ((repeat' (first|(refine ag_x ?_;simp [go_sem])|intro _|apply And.intro|(apply Yh;clear Yh Y)));all_goals first|apply Hold.mk|omega|assumption|skip))
         refine ⟨1, ?_, ⟨by omega, hT⟩, by omega⟩
         (refine cov_of ?_ ?_ <;> simp [go_sem])
       ·obtain ⟨j, rfl⟩ : ∃ j, i = j + 1 := ⟨i - 1, by omega⟩
        obtain ⟨y, hy⟩ : ∃ y, P[j]? = some y := ⟨_, List.getElem?_eq_getElem (by omega)⟩
        have hi1 : ((j : Int) + 1 - 1).toNat = j := by omega
        have hi2 : (j : Int) + 1 - 1 = j := by omega
        have hi3 : ((j : Int) + 1).toNat = j + 1 := by omega
        have hpos : (0 : Int) < (j : Int) + 1 := by omega
        simp only [Nat.add_sub_cancel, hy] at hst1
        have hm1 := hP1 y (List.mem_of_getElem? hy)
        generalize hlb : Op.bytesLess y.1 x.1 = lb at *
        cases lb with
        | false =>
         have hF := hbad1 (by rw [hst1]; simp)
         ((refine awp_dr (.qs [0, 1] (.one 2 (.qs [3, 4, 5, 6] (.one 7 (.qs [8, 9, 10, 11, 12, 13, 14, 16, 17, 21, 15, 18, 19, 20, 22, 23, 24, 25, 26] (.sk 27 (.sk 29 (.sk 28 (.sk 30 (.sk 31 (.sk 32 (.sk 33 (.qs [34] (.nil)))))))))))))) (by kernel_rfl) ?_ ?_ ?_ ?_); (kernel_rfl); (exact (by decide +kernel)); (kernel_rfl); intro Y Yh; ((repeat' (first|(refine ag_x ?_;simp [go_sem, hr, hy, hi1, hi2, hi3, hpos])|refine adr_nil ?_|((first|refine adr_qs fun Y Yh=>?_|refine adr_y fun Y Yh=>?_);simp [go_sem, hr, hy, hi1, hi2, hi3, hpos])|intro _|apply And.intro|(apply Yh;clear Yh Y)));all_goals first|apply Hold.mk|omega|assumption|skip))
         ((try refine CallT.toA ?_); refine callT_m (.inl ⟨rfl,rfl⟩) (by simp [go_sem]) ?_; intro args ha; simp [go_sem] at ha; subst ha; refine ⟨_, N1, ?_⟩; rintro _ rfl; simp [go_sem, hr, hy, hi1, hi2, hi3, hpos]; ((repeat' (first|(refine ag_x ?_;simp [go_sem, hr, hy, hi1, hi2, hi3, hpos])|refine adr_nil ?_|((first|refine adr_qs fun Y Yh=>?_|refine adr_y fun Y Yh=>?_);simp [go_sem, hr, hy, hi1, hi2, hi3, hpos])|intro _|apply And.intro|(apply Yh;clear Yh Y)));all_goals first|apply Hold.mk|omega|assumption|skip))
         (refine agc_f (dB true) (.inl ⟨rfl,rfl⟩) ?_ rfl ?_; (intro hc args ha; simp [go_sem] at ha; subst ha; exact C1); simp [go_sem, undef, hr, hy, hi1, hi2, hi3, hpos, hlb]; ((repeat' (first|(refine ag_x ?_;simp [go_sem, undef, hr, hy, hi1, hi2, hi3, hpos, hlb])|refine adr_nil ?_|((first|refine adr_qs fun Y Yh=>?_|refine adr_y fun Y Yh=>?_);simp [go_sem, undef, hr, hy, hi1, hi2, hi3, hpos, hlb])|intro _|apply And.intro|(apply Yh;clear Yh Y)));all_goals first|apply Hold.mk|omega|assumption|skip))
         (refine awp_if fun T F hT hF => ?_; simp [go_sem]; refine hT ?_; clear hT hF T F)
         (refine awp_sr fun Y Yh => ?_; simp [go_sem]; ((repeat' (first|(refine ag_x ?_;simp [go_sem])|intro _|apply And.intro|(apply Yh;clear Yh Y)));all_goals first|apply Hold.mk|omega|assumption|skip))
         (refine awp_ret ?_; simp [go_sem, hF, h1, h2])
        | true =>
         ((refine awp_dr (.qs [0, 1] (.one 2 (.qs [3, 4, 5, 6] (.one 7 (.qs [8, 9, 10, 11, 12, 13, 14, 16, 17, 21, 15, 18, 19, 20, 22, 23, 24, 25, 26, 27, 29, 28, 30, 31] (.one 32 (.qs [33, 34] (.nil)))))))) (by kernel_rfl) ?_ ?_ ?_ ?_); (kernel_rfl); (exact (by decide +kernel)); (kernel_rfl); intro Y Yh; ((repeat' (first|(refine ag_x ?_;simp [go_sem, hr, hy, hi1, hi2, hi3, hpos])|refine adr_nil ?_|((first|refine adr_qs fun Y Yh=>?_|refine adr_y fun Y Yh=>?_);simp [go_sem, hr, hy, hi1, hi2, hi3, hpos])|intro _|apply And.intro|(apply Yh;clear Yh Y)));all_goals first|apply Hold.mk|omega|assumption|skip))
         ((try refine CallT.toA ?_); refine callT_m (.inl ⟨rfl,rfl⟩) (by simp [go_sem]) ?_; intro args ha; simp [go_sem] at ha; subst ha; refine ⟨_, N1, ?_⟩; rintro _ rfl; simp [go_sem, hr, hy, hi1, hi2, hi3, hpos]; ((repeat' (first|(refine ag_x ?_;simp [go_sem, hr, hy, hi1, hi2, hi3, hpos])|refine adr_nil ?_|((first|refine adr_qs fun Y Yh=>?_|refine adr_y fun Y Yh=>?_);simp [go_sem, hr, hy, hi1, hi2, hi3, hpos])|intro _|apply And.intro|(apply Yh;clear Yh Y)));all_goals first|apply Hold.mk|omega|assumption|skip))
         (refine agc_f (dB true) (.inl ⟨rfl,rfl⟩) ?_ rfl ?_; (intro hc args ha; simp [go_sem] at ha; subst ha; exact C1); simp [go_sem, hr, hy, hi1, hi2, hi3, hpos, hlb]; ((repeat' (first|(refine ag_x ?_;simp [go_sem, hr, hy, hi1, hi2, hi3, hpos, hlb])|refine adr_nil ?_|((first|refine adr_qs fun Y Yh=>?_|refine adr_y fun Y Yh=>?_);simp [go_sem, hr, hy, hi1, hi2, hi3, hpos, hlb])|intro _|apply And.intro|(apply Yh;clear Yh Y)));all_goals first|apply Hold.mk|omega|assumption|skip))
         (refine agc_f (dB qb) (.inl ⟨rfl,rfl⟩) ?_ rfl ?_; (intro hc args ha; simp [go_sem] at ha; subst ha; exact Q1); simp [go_sem, hr, hy, hi1, hi2, hi3, hpos, hlb]; ((repeat' (first|(refine ag_x ?_;simp [go_sem, hr, hy, hi1, hi2, hi3, hpos, hlb])|refine adr_nil ?_|((first|refine adr_qs fun Y Yh=>?_|refine adr_y fun Y Yh=>?_);simp [go_sem, hr, hy, hi1, hi2, hi3, hpos, hlb])|intro _|apply And.intro|(apply Yh;clear Yh Y)));all_goals first|apply Hold.mk|omega|assumption|skip))
         cases qb with
         | false =>
          have hF := hbad1 (by rw [hst1]; simp)
          (refine awp_if fun T F hT hF => ?_; simp [go_sem]; refine hT ?_; clear hT hF T F)
          (refine awp_sr fun Y Yh => ?_; simp [go_sem]; ((repeat' (first|(refine ag_x ?_;simp [go_sem])|intro _|apply And.intro|(apply Yh;clear Yh Y)));all_goals first|apply Hold.mk|omega|assumption|skip))
          (refine awp_ret ?_; simp [go_sem, hF, h1, h2])
         | true =>
          have hT : nt (j + 1 + 1) = true := by rw [hst1]; simp
          (refine awp_if fun T F hT hF => ?_; simp [go_sem]; refine hF ?_; clear hT hF T F)
          refine awp_skip ?_
          refine hK6 _ ?_; clear hK6
          (refine awp_r fun Y Yh => ?_; simp [go_sem]; ((repeat' (first|(refine ag_x ?_;simp [go_sem])|intro _|apply And.intro|(apply Yh;clear Yh Y)));all_goals first|apply Hold.mk|omega|assumption|skip))
          refine ⟨j + 1 + 1, ?_, ⟨by omega, hT⟩, by omega⟩
          (refine cov_of ?_ ?_ <;> simp [go_sem])
    ·refine awp_exit ?_
     simp only [go_sem]
     refine hK3 _ ?_; clear hK3
     have : i = P.length := by omega
     subst this
     rw [hn]
     (refine awp_sr fun Y Yh => ?_; simp [go_sem]; ((repeat' (first|(refine ag_x ?_;simp [go_sem])|intro _|apply And.intro|(apply Yh;clear Yh Y)));all_goals first|apply Hold.mk|omega|assumption|skip))
     (refine awp_ret ?_; simp [go_sem, h1, h2])
  ·have h2' : ¬ (N.length : Int) = P.length := by omega
   (refine awp_sr fun Y Yh => ?_; simp [go_sem, h1', h2, h2']; ((repeat' (first|(refine ag_false ?_ ?_ ?_;(focus (simp [go_sem, undef, h1', h2, h2'];done));(focus (simp [go_sem];done));simp [go_sem, h1', h2, h2'])|(refine ag_x ?_;simp [go_sem, undef, h1', h2, h2'])|intro _|apply And.intro|(apply Yh;clear Yh Y)));all_goals first|apply Hold.mk|omega|assumption|skip))
   (refine awp_if fun T F hT hF => ?_; simp [go_sem, h1', h2, h2']; refine hT ?_; clear hT hF T F)
   (refine awp_sr fun Y Yh => ?_; simp [go_sem]; ((repeat' (first|(refine ag_x ?_;simp [go_sem])|intro _|apply And.intro|(apply Yh;clear Yh Y)));all_goals first|apply Hold.mk|omega|assumption|skip))
   (refine awp_ret ?_; simp [go_sem, h1, h2])
 ·have h1' : (60 : Int) < P.length := by omega
  (refine awp_sr fun Y Yh => ?_; simp [go_sem, h1', undef]; ((repeat' (first|(refine ag_false ?_ ?_ ?_;(focus (simp [go_sem, undef, h1', undef];done));(focus (simp [go_sem];done));simp [go_sem, h1', undef])|(refine ag_x ?_;simp [go_sem, undef, h1', undef])|intro _|apply And.intro|(apply Yh;clear Yh Y)));all_goals first|apply Hold.mk|omega|assumption|skip))
  (refine awp_if fun T F hT hF => ?_; simp [go_sem, h1']; refine hT ?_; clear hT hF T F)
  (refine awp_sr fun Y Yh => ?_; simp [go_sem]; ((repeat' (first|(refine ag_x ?_;simp [go_sem])|intro _|apply And.intro|(apply Yh;clear Yh Y)));all_goals first|apply Hold.mk|omega|assumption|skip))
  (refine awp_ret ?_; simp [go_sem, h1])
set_option maxHeartbeats 8000000 in
theorem rLValid_spec (L : Lck) (hL : LkOk L) : PCall Tryz.prog 58 [dLk L] fun r => r = dB (lockV L) := by 
 refine pcall_of Tryz.func58 rfl rfl Tryz.ntmps58 (rs := [.tmp 2]) (tys := [4]) rfl rfl (by simp) ?_
 have hbad := fun n (h : pickTo L n = false) (hn : n ≤ L.1.length) => pickTo_bad h L.1.length hn
 have hst := pick_step L
 have hz : pickTo L 0 = true := rfl
 unfold lockV
 obtain ⟨P, N, W⟩ := L
 obtain ⟨hP, hN, hW, hP1, hN1, hW1⟩ := hL
 simp only at hP hN hW hP1 hN1 hW1 hbad hst hz ⊢
 generalize pickTo (P, N, W) = nt at *
 have W1 := rneeds_spec W 8 hW hW1
 generalize needsV 8 W = wb at *
 (refine awp_sr fun Y Yh => ?_; simp [go_sem]; ((repeat' (first|(refine ag_x ?_;simp [go_sem])|intro _|apply And.intro|(apply Yh;clear Yh Y)));all_goals first|apply Hold.mk|omega|assumption|skip))
 rename_i g1
 refine awp_seq_k fun K1 hK1 => ?_
 by_cases h1 : P.length ≤ 60
 ·have h1' : ¬ (60 : Int) < P.length := by omega
  by_cases h2 : N.length = P.length
  ·have h2' : (N.length : Int) = P.length := by omega
   (refine awp_sr fun Y Yh => ?_; simp [go_sem, h1', h2, h2']; ((repeat' (first|(refine ag_x ?_;simp [go_sem, h1', h2, h2'])|intro _|apply And.intro|(apply Yh;clear Yh Y)));all_goals first|apply Hold.mk|omega|assumption|skip))
   (refine agc_f (dB wb) (.inl ⟨rfl,rfl⟩) ?_ rfl ?_; (intro hc args ha; simp [go_sem] at ha; subst ha; exact W1); simp [go_sem, h1', h2, h2']; ((repeat' (first|(refine ag_x ?_;simp [go_sem, h1', h2, h2'])|intro _|apply And.intro|(apply Yh;clear Yh Y)));all_goals first|apply Hold.mk|omega|assumption|skip))
   cases wb with
   | false =>
    (refine awp_if fun T F hT hF => ?_; simp [go_sem, h1', h2, h2']; refine hT ?_; clear hT hF T F)
    (refine awp_sr fun Y Yh => ?_; simp [go_sem]; ((repeat' (first|(refine ag_x ?_;simp [go_sem])|intro _|apply And.intro|(apply Yh;clear Yh Y)));all_goals first|apply Hold.mk|omega|assumption|skip))
    (refine awp_ret ?_; simp [go_sem, h1, h2])
   | true =>
    (refine awp_if fun T F hT hF => ?_; simp [go_sem, h1', h2, h2']; refine hF ?_; clear hT hF T F)
    refine awp_skip ?_
    refine hK1 _ ?_; clear hK1
    refine awp_seq_k fun K3 hK3 => ?_
    (refine awp_sr fun Y Yh => ?_; simp [go_sem]; ((repeat' (first|(refine ag_x ?_;simp [go_sem])|intro _|apply And.intro|(apply Yh;clear Yh Y)));all_goals first|apply Hold.mk|omega|assumption|skip))
    refine awp_block ?_
    refine awp_loop (σ := Nat) (fun i => ⟨[(1, .ptr 1 g1 0), (3, dI i)], [(1, g1, .box [dPs P, dNs N, dPs W])]⟩) (fun i => i ≤ P.length ∧ nt i = true) (fun i => P.length - i) 0 ?_ ?_ ?_
    ·(refine cov_of ?_ ?_ <;> simp [go_sem])
    ·exact ⟨by omega, hz⟩
    rintro i ⟨hi, hn⟩
    refine awp_seq_k fun K4 hK4 => ?_
    (refine awp_sr fun Y Yh => ?_; simp [go_sem]; ((repeat' (first|(refine ag_x ?_;simp [go_sem])|intro _|apply And.intro|(apply Yh;clear Yh Y)));all_goals first|apply Hold.mk|omega|assumption|skip))
    (refine awp_if fun T F hT hF => ?_; simp [go_sem]; refine BR.intro (fun h5 => hT ?_) (fun h5 => hF ?_); all_goals clear hT hF T F; try simp at h5)
    ·refine awp_skip ?_
     refine hK4 _ ?_; clear hK4
     obtain ⟨x, hx⟩ : ∃ x, P[i]? = some x := ⟨_, List.getElem?_eq_getElem (by omega)⟩
     obtain ⟨r, hr⟩ : ∃ r, N[i]? = some r := ⟨_, List.getElem?_eq_getElem (by omega)⟩
     have hb1 := hP1 x (List.mem_of_getElem? hx)
     have hb2 := hN1 r (List.mem_of_getElem? hr)
     have N1 := risName_spec x.1 (by omega)
     have C1 := rValid_spec x.2 (by omega)
     have Q1 := rneeds_spec r 6 hb2.1 hb2.2
     have hst1 := hst i x r hx hr
     rw [hn, Bool.true_and] at hst1
     have hbad1 := fun h => hbad (i + 1) h (by omega)
     generalize nameV x.1 = nb at *
     generalize (readV x.2).isSome = cb at *
     generalize needsV 6 r = qb at *
     refine awp_seq_k fun K6 hK6 => ?_
     refine awp_block ?_
     (refine awp_sr fun Y Yh => ?_; simp [go_sem, hx]; ((repeat' (first|(refine ag_x ?_;simp [go_sem, hx])|intro _|apply And.intro|(apply Yh;clear Yh Y)));all_goals first|apply Hold.mk|omega|assumption|skip))
     cases nb with
     | false =>
      have hF := hbad1 (by rw [hst1]; simp)
      ((refine awp_dr (.qs [0, 1] (.one 2 (.qs [3, 4] (.sk 5 (.sk 6 (.sk 7 (.sk 8 (.qs [9, 10] (.sk 11 (.sk 12 (.sk 13 (.sk 14 (.sk 16 (.sk 18 (.sk 19 (.sk 15 (.sk 17 (.sk 20 (.sk 21 (.sk 22 (.sk 23 (.sk 24 (.qs [25, 26] (.sk 27 (.sk 29 (.sk 28 (.sk 30 (.sk 31 (.sk 32 (.sk 33 (.qs [34] (.nil)))))))))))))))))))))))))))))))) (by kernel_rfl) ?_ ?_ ?_ ?_); (kernel_rfl); (exact (by decide +kernel)); (kernel_rfl); intro Y Yh; ((repeat' (first|(refine ag_x ?_;simp [go_sem])|refine adr_nil ?_|((first|refine adr_qs fun Y Yh=>?_|refine adr_y fun Y Yh=>?_);simp [go_sem])|intro _|apply And.intro|(apply Yh;clear Yh Y)));all_goals first|apply Hold.mk|omega|assumption|skip))
      ((try refine CallT.toA ?_); refine callT_m (.inl ⟨rfl,rfl⟩) (by simp [go_sem]) ?_; intro args ha; simp [go_sem] at ha; subst ha; refine ⟨_, N1, ?_⟩; rintro _ rfl; simp [go_sem, undef]; ((repeat' (first|(refine ag_x ?_;simp [go_sem, undef])|refine adr_nil ?_|((first|refine adr_qs fun Y Yh=>?_|refine adr_y fun Y Yh=>?_);simp [go_sem, undef])|intro _|apply And.intro|(apply Yh;clear Yh Y)));all_goals first|apply Hold.mk|omega|assumption|skip))
      (refine awp_if fun T F hT hF => ?_; simp [go_sem]; refine hT ?_; clear hT hF T F)
      (refine awp_sr fun Y Yh => ?_; simp [go_sem]; ((repeat' (first|(refine ag_x ?_;simp [go_sem])|intro _|apply And.intro|(apply Yh;clear Yh Y)));all_goals first|apply Hold.mk|omega|assumption|skip))
      (refine awp_ret ?_; simp [go_sem, hF, h1, h2])
     | true =>
      cases cb with
      | false =>
       have hF := hbad1 (by rw [hst1]; simp)
       ((refine awp_dr (.qs [0, 1] (.one 2 (.qs [3, 4, 5, 6] (.one 7 (.qs [8, 9, 10] (.sk 11 (.sk 12 (.sk 13 (.sk 14 (.sk 16 (.sk 18 (.sk 19 (.sk 15 (.sk 17 (.sk 20 (.sk 21 (.sk 22 (.sk 23 (.sk 24 (.qs [25, 26] (.sk 27 (.sk 29 (.sk 28 (.sk 30 (.sk 31 (.sk 32 (.sk 33 (.qs [34] (.nil))))))))))))))))))))))))))))) (by kernel_rfl) ?_ ?_ ?_ ?_); (kernel_rfl); (exact (by decide +kernel)); (kernel_rfl); intro Y Yh; ((repeat' (first|(refine ag_x ?_;simp [go_sem])|refine adr_nil ?_|((first|refine adr_qs fun Y Yh=>?_|refine adr_y fun Y Yh=>?_);simp [go_sem])|intro _|apply And.intro|(apply Yh;clear Yh Y)));all_goals first|apply Hold.mk|omega|assumption|skip))
       ((try refine CallT.toA ?_); refine callT_m (.inl ⟨rfl,rfl⟩) (by simp [go_sem]) ?_; intro args ha; simp [go_sem] at ha; subst ha; refine ⟨_, N1, ?_⟩; rintro _ rfl; simp [go_sem]; ((repeat' (first|(refine ag_x ?_;simp [go_sem])|refine adr_nil ?_|((first|refine adr_qs fun Y Yh=>?_|refine adr_y fun Y Yh=>?_);simp [go_sem])|intro _|apply And.intro|(apply Yh;clear Yh Y)));all_goals first|apply Hold.mk|omega|assumption|skip))
       (refine agc_f (dB false) (.inl ⟨rfl,rfl⟩) ?_ rfl ?_; (intro hc args ha; simp [go_sem] at ha; subst ha; exact C1); simp [go_sem, undef]; ((repeat' (first|(refine ag_x ?_;simp [go_sem, undef])|refine adr_nil ?_|((first|refine adr_qs fun Y Yh=>?_|refine adr_y fun Y Yh=>?_);simp [go_sem, undef])|intro _|apply And.intro|(apply Yh;clear Yh Y)));all_goals first|apply Hold.mk|omega|assumption|skip))
       (refine awp_if fun T F hT hF => ?_; simp [go_sem]; refine hT ?_; clear hT hF T F)
       (refine awp_sr fun Y Yh => ?_; simp [go_sem]; ((repeat' (first|(refine ag_x ?_;simp [go_sem])|intro _|apply And.intro|(apply Yh;clear Yh Y)));all_goals first|apply Hold.mk|omega|assumption|skip))
       (refine awp_ret ?_; simp [go_sem, hF, h1, h2])
      | true =>
       by_cases h0 : i = 0
       ·subst h0
        ((refine awp_dr (.qs [0, 1] (.one 2 (.qs [3, 4, 5, 6] (.one 7 (.qs [8, 9, 10, 11, 12, 13] (.sk 14 (.sk 16 (.sk 18 (.sk 19 (.sk 15 (.sk 17 (.sk 20 (.sk 21 (.sk 22 (.sk 23 (.qs [24, 25, 26, 27, 29, 28, 30, 31] (.one 32 (.qs [33, 34] (.nil))))))))))))))))))) (by kernel_rfl) ?_ ?_ ?_ ?_); (kernel_rfl); (exact (by decide +kernel)); (kernel_rfl); intro Y Yh; ((repeat' (first|(refine ag_x ?_;simp [go_sem, hr])|refine adr_nil ?_|((first|refine adr_qs fun Y Yh=>?_|refine adr_y fun Y Yh=>?_);simp [go_sem, hr])|intro _|apply And.intro|(apply Yh;clear Yh Y)));all_goals first|apply Hold.mk|omega|assumption|skip))
        ((try refine CallT.toA ?_); refine callT_m (.inl ⟨rfl,rfl⟩) (by simp [go_sem]) ?_; intro args ha; simp [go_sem] at ha; subst ha; refine ⟨_, N1, ?_⟩; rintro _ rfl; simp [go_sem, hr]; ((repeat' (first|(refine ag_x ?_;simp [go_sem, hr])|refine adr_nil ?_|((first|refine adr_qs fun Y Yh=>?_|refine adr_y fun Y Yh=>?_);simp [go_sem, hr])|intro _|apply And.intro|(apply Yh;clear Yh Y)));all_goals first|apply Hold.mk|omega|assumption|skip))
        (refine agc_f (dB true) (.inl ⟨rfl,rfl⟩) ?_ rfl ?_; (intro hc args ha; simp [go_sem] at ha; subst ha; exact C1); simp [go_sem, undef, hr]; ((repeat' (first|(refine ag_x ?_;simp [go_sem, undef, hr])|refine adr_nil ?_|((first|refine adr_qs fun Y Yh=>?_|refine adr_y fun Y Yh=>?_);simp [go_sem, undef, hr])|intro _|apply And.intro|(apply Yh;clear Yh Y)));all_goals first|apply Hold.mk|omega|assumption|skip))
        (refine agc_f (dB qb) (.inl ⟨rfl,rfl⟩) ?_ rfl ?_; (intro hc args ha; simp [go_sem] at ha; subst ha; exact Q1); simp [go_sem, undef, hr]; ((repeat' (first|(refine ag_x ?_;simp [go_sem, undef, hr])|refine adr_nil ?_|((first|refine adr_qs fun Y Yh=>?_|refine adr_y fun Y Yh=>?_);simp [go_sem, undef, hr])|intro _|apply And.intro|(apply Yh;clear Yh Y)));all_goals first|apply Hold.mk|omega|assumption|skip))
        cases qb with
        | false =>
         have hF := hbad1 (by rw [hst1]; simp)
         (refine awp_if fun T F hT hF => ?_; simp [go_sem]; refine hT ?_; clear hT hF T F)
         (refine awp_sr fun Y Yh => ?_; simp [go_sem]; ((repeat' (first|(refine ag_x ?_;simp [go_sem])|intro _|apply And.intro|(apply Yh;clear Yh Y)));all_goals first|apply Hold.mk|omega|assumption|skip))
         (refine awp_ret ?_; simp [go_sem, hF, h1, h2])
        | true =>
         have hT : nt 1 = true := by rw [hst1]; simp
         (refine awp_if fun T F hT hF => ?_; simp [go_sem]; refine hF ?_; clear hT hF T F)
         refine awp_skip ?_
         refine hK6 _ ?_; clear hK6
         (refine awp_r fun Y Yh => ?_; simp [go_sem]; ((repeat' (first|(refine ag_x ?_;simp [go_sem])|intro _|apply And.intro|(apply Yh;clear Yh Y)));all_goals first|apply Hold.mk|omega|assumption|skip))
         refine ⟨1, ?_, ⟨by omega, hT⟩, by omega⟩
         (refine cov_of ?_ ?_ <;> simp [go_sem])
       ·obtain ⟨j, rfl⟩ : ∃ j, i = j + 1 := ⟨i - 1, by omega⟩
        obtain ⟨y, hy⟩ : ∃ y, P[j]? = some y := ⟨_, List.getElem?_eq_getElem (by omega)⟩
        have hi1 : ((j : Int) + 1 - 1).toNat = j := by omega
        have hi2 : (j : Int) + 1 - 1 = j := by omega
        have hi3 : ((j : Int) + 1).toNat = j + 1 := by omega
        have hpos : (0 : Int) < (j : Int) + 1 := by omega
        simp only [Nat.add_sub_cancel, hy] at hst1
        have hm1 := hP1 y (List.mem_of_getElem? hy)
        generalize hlb : Op.bytesLess y.1 x.1 = lb at *
        cases lb with
        | false =>
         have hF := hbad1 (by rw [hst1]; simp)
         ((refine awp_dr (.qs [0, 1] (.one 2 (.qs [3, 4, 5, 6] (.one 7 (.qs [8, 9, 10, 11, 12, 13, 14, 16, 18, 19, 15, 17, 20, 21, 22, 23, 24, 25, 26] (.sk 27 (.sk 29 (.sk 28 (.sk 30 (.sk 31 (.sk 32 (.sk 33 (.qs [34] (.nil)))))))))))))) (by kernel_rfl) ?_ ?_ ?_ ?_); (kernel_rfl); (exact (by decide +kernel)); (kernel_rfl); intro Y Yh; ((repeat' (first|(refine ag_x ?_;simp [go_sem, hr, hy, hi1, hi2, hi3, hpos])|refine adr_nil ?_|((first|refine adr_qs fun Y Yh=>?_|refine adr_y fun Y Yh=>?_);simp [go_sem, hr, hy, hi1, hi2, hi3, hpos])|intro _|apply And.intro|(apply Yh;clear Yh Y)));all_goals first|apply Hold.mk|omega|assumption|skip))
         ((try refine CallT.toA ?_); refine callT_m (.inl ⟨rfl,rfl⟩) (by simp [go_sem]) ?_; intro args ha; simp [go_sem] at ha; subst ha; refine ⟨_, N1, ?_⟩; rintro _ rfl; simp [go_sem, hr, hy, hi1, hi2, hi3, hpos]; ((repeat' (first|(refine ag_x ?_;simp [go_sem, hr, hy, hi1, hi2, hi3, hpos])|refine adr_nil ?_|((first|refine adr_qs fun Y Yh=>?_|refine adr_y fun Y Yh=>?_);simp [go_sem, hr, hy, hi1, hi2, hi3, hpos])|intro _|apply And.intro|(apply Yh;clear Yh Y)));all_goals first|apply Hold.mk|omega|assumption|skip))
         (refine agc_f (dB true) (.inl ⟨rfl,rfl⟩) ?_ rfl ?_; (intro hc args ha; simp [go_sem] at ha; subst ha; exact C1); simp [go_sem, undef, hr, hy, hi1, hi2, hi3, hpos, hlb]; ((repeat' (first|(refine ag_x ?_;simp [go_sem, undef, hr, hy, hi1, hi2, hi3, hpos, hlb])|refine adr_nil ?_|((first|refine adr_qs fun Y Yh=>?_|refine adr_y fun Y Yh=>?_);simp [go_sem, undef, hr, hy, hi1, hi2, hi3, hpos, hlb])|intro _|apply And.intro|(apply Yh;clear Yh Y)));all_goals first|apply Hold.mk|omega|assumption|skip))
         (refine awp_if fun T F hT hF => ?_; simp [go_sem]; refine hT ?_; clear hT hF T F)
         (refine awp_sr fun Y Yh => ?_; simp [go_sem]; ((repeat' (first|(refine ag_x ?_;simp [go_sem])|intro _|apply And.intro|(apply Yh;clear Yh Y)));all_goals first|apply Hold.mk|omega|assumption|skip))
         (refine awp_ret ?_; simp [go_sem, hF, h1, h2])
        | true =>
         ((refine awp_dr (.qs [0, 1] (.one 2 (.qs [3, 4, 5, 6] (.one 7 (.qs [8, 9, 10, 11, 12, 13, 14, 16, 18, 19, 15, 17, 20, 21, 22, 23, 24, 25, 26, 27, 29, 28, 30, 31] (.one 32 (.qs [33, 34] (.nil)))))))) (by kernel_rfl) ?_ ?_ ?_ ?_); (kernel_rfl); (exact (by decide +kernel)); (kernel_rfl); intro Y Yh; ((repeat' (first|(refine ag_x ?_;simp [go_sem, hr, hy, hi1, hi2, hi3, hpos])|refine adr_nil ?_|((first|refine adr_qs fun Y Yh=>?_|refine adr_y fun Y Yh=>?_);simp [go_sem, hr, hy, hi1, hi2, hi3, hpos])|intro _|apply And.intro|(apply Yh;clear Yh Y)));all_goals first|apply Hold.mk|omega|assumption|skip))
         ((try refine CallT.toA ?_); refine callT_m (.inl ⟨rfl,rfl⟩) (by simp [go_sem]) ?_; intro args ha; simp [go_sem] at ha; subst ha; refine ⟨_, N1, ?_⟩; rintro _ rfl; simp [go_sem, hr, hy, hi1, hi2, hi3, hpos]; ((repeat' (first|(refine ag_x ?_;simp [go_sem, hr, hy, hi1, hi2, hi3, hpos])|refine adr_nil ?_|((first|refine adr_qs fun Y Yh=>?_|refine adr_y fun Y Yh=>?_);simp [go_sem, hr, hy, hi1, hi2, hi3, hpos])|intro _|apply And.intro|(apply Yh;clear Yh Y)));all_goals first|apply Hold.mk|omega|assumption|skip))
         (refine agc_f (dB true) (.inl ⟨rfl,rfl⟩) ?_ rfl ?_; (intro hc args ha; simp [go_sem] at ha; subst ha; exact C1); simp [go_sem, hr, hy, hi1, hi2, hi3, hpos, hlb]; ((repeat' (first|(refine ag_x ?_;simp [go_sem, hr, hy, hi1, hi2, hi3, hpos, hlb])|refine adr_nil ?_|((first|refine adr_qs fun Y Yh=>?_|refine adr_y fun Y Yh=>?_);simp [go_sem, hr, hy, hi1, hi2, hi3, hpos, hlb])|intro _|apply And.intro|(apply Yh;clear Yh Y)));all_goals first|apply Hold.mk|omega|assumption|skip))
         (refine agc_f (dB qb) (.inl ⟨rfl,rfl⟩) ?_ rfl ?_; (intro hc args ha; simp [go_sem] at ha; subst ha; exact Q1); simp [go_sem, hr, hy, hi1, hi2, hi3, hpos, hlb]; ((repeat' (first|(refine ag_x ?_;simp [go_sem, hr, hy, hi1, hi2, hi3, hpos, hlb])|refine adr_nil ?_|((first|refine adr_qs fun Y Yh=>?_|refine adr_y fun Y Yh=>?_);simp [go_sem, hr, hy, hi1, hi2, hi3, hpos, hlb])|intro _|apply And.intro|(apply Yh;clear Yh Y)));all_goals first|apply Hold.mk|omega|assumption|skip))
         cases qb with
         | false =>
          have hF := hbad1 (by rw [hst1]; simp)
          (refine awp_if fun T F hT hF => ?_; simp [go_sem]; refine hT ?_; clear hT hF T F)
          (refine awp_sr fun Y Yh => ?_; simp [go_sem]; ((repeat' (first|(refine ag_x ?_;simp [go_sem])|intro _|apply And.intro|(apply Yh;clear Yh Y)));all_goals first|apply Hold.mk|omega|assumption|skip))
          (refine awp_ret ?_; simp [go_sem, hF, h1, h2])
         | true =>
          have hT : nt (j + 1 + 1) = true := by rw [hst1]; simp
          (refine awp_if fun T F hT hF => ?_; simp [go_sem]; refine hF ?_; clear hT hF T F)
          refine awp_skip ?_
          refine hK6 _ ?_; clear hK6
          (refine awp_r fun Y Yh => ?_; simp [go_sem]; ((repeat' (first|(refine ag_x ?_;simp [go_sem])|intro _|apply And.intro|(apply Yh;clear Yh Y)));all_goals first|apply Hold.mk|omega|assumption|skip))
          refine ⟨j + 1 + 1, ?_, ⟨by omega, hT⟩, by omega⟩
          (refine cov_of ?_ ?_ <;> simp [go_sem])
    ·refine awp_exit ?_
     simp only [go_sem]
     refine hK3 _ ?_; clear hK3
     have : i = P.length := by omega
     subst this
     rw [hn]
     (refine awp_sr fun Y Yh => ?_; simp [go_sem]; ((repeat' (first|(refine ag_x ?_;simp [go_sem])|intro _|apply And.intro|(apply Yh;clear Yh Y)));all_goals first|apply Hold.mk|omega|assumption|skip))
     (refine awp_ret ?_; simp [go_sem, h1, h2])
  ·have h2' : ¬ (N.length : Int) = P.length := by omega
   (refine awp_sr fun Y Yh => ?_; simp [go_sem, h1', h2, h2']; ((repeat' (first|(refine ag_false ?_ ?_ ?_;(focus (simp [go_sem, undef, h1', h2, h2'];done));(focus (simp [go_sem];done));simp [go_sem, h1', h2, h2'])|(refine ag_x ?_;simp [go_sem, undef, h1', h2, h2'])|intro _|apply And.intro|(apply Yh;clear Yh Y)));all_goals first|apply Hold.mk|omega|assumption|skip))
   (refine awp_if fun T F hT hF => ?_; simp [go_sem, h1', h2, h2']; refine hT ?_; clear hT hF T F)
   (refine awp_sr fun Y Yh => ?_; simp [go_sem]; ((repeat' (first|(refine ag_x ?_;simp [go_sem])|intro _|apply And.intro|(apply Yh;clear Yh Y)));all_goals first|apply Hold.mk|omega|assumption|skip))
   (refine awp_ret ?_; simp [go_sem, h1, h2])
 ·have h1' : (60 : Int) < P.length := by omega
  (refine awp_sr fun Y Yh => ?_; simp [go_sem, h1', undef]; ((repeat' (first|(refine ag_false ?_ ?_ ?_;(focus (simp [go_sem, undef, h1', undef];done));(focus (simp [go_sem];done));simp [go_sem, h1', undef])|(refine ag_x ?_;simp [go_sem, undef, h1', undef])|intro _|apply And.intro|(apply Yh;clear Yh Y)));all_goals first|apply Hold.mk|omega|assumption|skip))
  (refine awp_if fun T F hT hF => ?_; simp [go_sem, h1']; refine hT ?_; clear hT hF T F)
  (refine awp_sr fun Y Yh => ?_; simp [go_sem]; ((repeat' (first|(refine ag_x ?_;simp [go_sem])|intro _|apply And.intro|(apply Yh;clear Yh Y)));all_goals first|apply Hold.mk|omega|assumption|skip))
  (refine awp_ret ?_; simp [go_sem, h1])
end Go.Proofs.YteekfnhhlcmcgaaGreatDoor
namespace Go.Eng
set_option linter.unusedSectionVars false
variable {P : Program} [HasGlob P] {n : Nat} {S : St} {Q : Exit → St → Prop}
theorem awp_nilin {c : Code} (s' so j e k : Nat) {go eo : Nat} {ces : List (List D)} (ho : look S.heap so = some (go, .row eo 1 ces)) (hne' : s' ≠ so) (hj : ces[j]? = some [.v (.slice none 0 0)])
  (h : ∀ g, AWp P n c ((S.hput s' g (.row e k [])).hput so go (.row eo 1 (ces.set j [.own s' g]))) Q) : AWp P n c S Q := by
 intro w0 B C0 C a w E I
 obtain ⟨g, C', I', hv, ext⟩ := I.nameNil s' e k
 obtain ⟨_, _, _, _, _, hk, _⟩ := I.heap _ _ _ ho
 refine h g E (I'.rowSet (so := so) (go := go) (e := eo) (k := 1) (es := ces) ?_ (by simp) (fun x hx' => ?_) fun i m x x' cc cc' u h1 h2 h3 h4 hr hone => ?_)
 ·rw [look_hput, if_neg hne']
  exact ho
 ·rcases List.mem_or_eq_of_mem_set hx' with q | q
  ·exact hk x q
  ·rw [q]; rfl
 ·rw [List.getElem?_set] at h3
  split at h3
  ·rename_i e1
   subst e1
   split at h3
   ·simp only [Option.some.injEq] at h3
    subst h3
    rw [hj] at h1
    simp only [Option.some.injEq] at h1
    subst h1
    match m, h2, h4 with
    | 0, h2, h4 =>
     simp only [List.getElem?_cons_zero, Option.some.injEq] at h2 h4
     subst h2 h4
     obtain rfl := hr.v_inv
     exact .own _ _ _ hv rfl
    | m + 1, h2, _ => simp at h2
   ·cases h3
  ·rw [h1] at h3
   simp only [Option.some.injEq] at h3
   subst h3
   rw [h2] at h4
   simp only [Option.some.injEq] at h4
   subst h4
   exact hr
end Go.Eng
namespace Go.Proofs.YteekfnhhlcmcgaaGreatDoor
open Go.Eng Go.Wh Go.Ver Go.RowKit Go.Lk
set_option maxRecDepth 20000
attribute [local irreducible] AG CallA CallT AWp PCall ACall AgC
theorem take_eq_step {α : Type} {a b : List α} {i : Nat} {x y : α} (hx : a[i]? = some x) (hy : b[i]? = some y) (h : a.take i = b.take i) : a.take (i + 1) = b.take (i + 1) ↔ x = y := by
 rw [List.take_add_one, List.take_add_one, hx, hy, h]
 simp
theorem take_ne {α : Type} {a b : List α} {i : Nat} {x y : α} (hx : a[i]? = some x) (hy : b[i]? = some y) (h : ¬ x = y) : ¬ a = b := fun q => by
 subst q; rw [hx] at hy; exact h (Option.some.inj hy)
theorem take_all {α : Type} {a b : List α} (hl : a.length = b.length) (h : a.take a.length = b.take a.length) : a = b := by
 rw [List.take_length, hl, List.take_length] at h; exact h
set_option maxHeartbeats 4000000 in
theorem ralike_spec (a b : List Prs) (ha : a.length ≤ 1000000) (hb : b.length ≤ 1000000) : PCall Tryz.prog 68 [dPs a, dPs b] fun r => r = dB (decide (a = b)) := by 
 refine pcall_of Tryz.func68 rfl rfl Tryz.ntmps68 (rs := [.tmp 4]) (tys := [4]) rfl rfl (by simp) ?_
 (refine awp_sr fun Y Yh => ?_; simp [go_sem]; ((repeat' (first|(refine ag_x ?_;simp [go_sem])|intro _|apply And.intro|(apply Yh;clear Yh Y)));all_goals first|apply Hold.mk|omega|assumption|skip))
 refine awp_seq_k fun K1 hK1 => ?_
 (refine awp_sr fun Y Yh => ?_; simp [go_sem]; ((repeat' (first|(refine ag_x ?_;simp [go_sem])|intro _|apply And.intro|(apply Yh;clear Yh Y)));all_goals first|apply Hold.mk|omega|assumption|skip))
 (refine awp_if fun T F hT hF => ?_; simp [go_sem]; refine BR.intro (fun h2 => hT ?_) (fun h2 => hF ?_); all_goals clear hT hF T F; try simp at h2) 
 ·(refine awp_sr fun Y Yh => ?_; simp [go_sem]; ((repeat' (first|(refine ag_x ?_;simp [go_sem])|intro _|apply And.intro|(apply Yh;clear Yh Y)));all_goals first|apply Hold.mk|omega|assumption|skip))
  have : ¬ a = b := fun q => h2 (by rw [q])
  (refine awp_ret ?_; simp [go_sem, h2, this])
 ·have hl : a.length = b.length := by omega
  refine awp_skip ?_
  refine hK1 _ ?_; clear hK1
  refine awp_seq_k fun K3 hK3 => ?_
  (refine awp_sr fun Y Yh => ?_; simp [go_sem]; ((repeat' (first|(refine ag_x ?_;simp [go_sem])|intro _|apply And.intro|(apply Yh;clear Yh Y)));all_goals first|apply Hold.mk|omega|assumption|skip))
  refine awp_block ?_
  refine awp_loop (σ := Nat) (fun i => ⟨[(0, dPs a), (1, dPs b), (5, dI i)], []⟩) (fun i => i ≤ a.length ∧ a.take i = b.take i) (fun i => a.length - i) 0 ?_ ?_ ?_
  ·(refine cov_of ?_ ?_ <;> simp [go_sem])
  ·simp
  rintro i ⟨hi, ht⟩
  refine awp_seq_k fun K4 hK4 => ?_
  (refine awp_sr fun Y Yh => ?_; simp [go_sem]; ((repeat' (first|(refine ag_x ?_;simp [go_sem])|intro _|apply And.intro|(apply Yh;clear Yh Y)));all_goals first|apply Hold.mk|omega|assumption|skip))
  (refine awp_if fun T F hT hF => ?_; simp [go_sem]; refine BR.intro (fun h5 => hT ?_) (fun h5 => hF ?_); all_goals clear hT hF T F; try simp at h5) 
  ·refine awp_skip ?_
   refine hK4 _ ?_; clear hK4
   obtain ⟨x, hx⟩ : ∃ x, a[i]? = some x := ⟨_, List.getElem?_eq_getElem (by omega)⟩
   obtain ⟨y, hy⟩ : ∃ y, b[i]? = some y := ⟨_, List.getElem?_eq_getElem (by omega)⟩
   have hs := take_eq_step hx hy ht
   have hn := take_ne hx hy
   have hxy : (x = y) = (x.1 = y.1 ∧ x.2 = y.2) := by rw [Prod.ext_iff]
   refine awp_seq_k fun K6 hK6 => ?_
   refine awp_block ?_
   ((refine awp_dr (.qs [0, 1, 2, 4, 5, 6, 3, 7, 8] (.nil)) (by kernel_rfl) ?_ ?_ ?_ ?_); (kernel_rfl); (exact (by decide +kernel)); (kernel_rfl); intro Y Yh; ((repeat' (first|(refine ag_x ?_;simp [go_sem, hx, hy])|refine adr_nil ?_|((first|refine adr_qs fun Y Yh=>?_|refine adr_y fun Y Yh=>?_);simp [go_sem, hx, hy])|intro _|apply And.intro|(apply Yh;clear Yh Y)));all_goals first|apply Hold.mk|omega|assumption|skip))
   (refine awp_if fun T F hT hF => ?_; simp [go_sem]; refine BR.intro (fun h7 => hT ?_) (fun h7 => hF ?_); all_goals clear hT hF T F; try simp at h7) 
   ·have hne : ¬ a = b := hn (fun q => by subst q; simp at h7)
    (refine awp_sr fun Y Yh => ?_; simp [go_sem]; ((repeat' (first|(refine ag_x ?_;simp [go_sem])|intro _|apply And.intro|(apply Yh;clear Yh Y)));all_goals first|apply Hold.mk|omega|assumption|skip))
    (refine awp_ret ?_; simp [go_sem, hne])
   ·refine awp_skip ?_
    refine hK6 _ ?_; clear hK6
    (refine awp_r fun Y Yh => ?_; simp [go_sem]; ((repeat' (first|(refine ag_x ?_;simp [go_sem])|intro _|apply And.intro|(apply Yh;clear Yh Y)));all_goals first|apply Hold.mk|omega|assumption|skip))
    refine ⟨i + 1, ?_, ⟨by omega, ?_⟩, by omega⟩
    ·(refine cov_of ?_ ?_ <;> simp [go_sem])
    ·exact hs.2 (Prod.ext h7.1 h7.2)
  ·refine awp_exit ?_
   simp only [go_sem]
   refine hK3 _ ?_; clear hK3
   have : i = a.length := by omega
   subst this
   have := take_all hl ht
   (refine awp_sr fun Y Yh => ?_; simp [go_sem]; ((repeat' (first|(refine ag_x ?_;simp [go_sem])|intro _|apply And.intro|(apply Yh;clear Yh Y)));all_goals first|apply Hold.mk|omega|assumption|skip))
   (refine awp_ret ?_; simp [go_sem, h2, h5, this])
set_option maxHeartbeats 8000000 in
theorem rSame_spec (L M : Lck) (hL : LkOk L) (hM : LkOk M) : PCall Tryz.prog 28 [dLk L, dLk M] fun r => r = dB (decide (L = M)) := by 
 refine pcall_of Tryz.func28 rfl rfl Tryz.ntmps28 (rs := [.tmp 4]) (tys := [4]) rfl rfl (by simp) ?_
 obtain ⟨P, N, W⟩ := L
 obtain ⟨P', N', W'⟩ := M
 obtain ⟨hP, hN, hW, hP1, hN1, hW1⟩ := hL
 obtain ⟨kP, kN, kW, kP1, kN1, kW1⟩ := hM
 simp only at hP hN hW hP1 hN1 hW1 kP kN kW kP1 kN1 kW1
 have AW := ralike_spec W W' hW kW
 simp only [Prod.mk.injEq]
 (refine awp_sr fun Y Yh => ?_; simp [go_sem]; ((repeat' (first|(refine ag_x ?_;simp [go_sem])|intro _|apply And.intro|(apply Yh;clear Yh Y)));all_goals first|apply Hold.mk|omega|assumption|skip))
 rename_i g2 g3
 refine awp_seq_k fun K1 hK1 => ?_
 by_cases h1 : P.length = P'.length
 ·by_cases h2 : N.length = N'.length
  ·(refine awp_sr fun Y Yh => ?_; simp [go_sem, h1, h2]; ((repeat' (first|(refine ag_x ?_;simp [go_sem, h1, h2])|intro _|apply And.intro|(apply Yh;clear Yh Y)));all_goals first|apply Hold.mk|omega|assumption|skip))
   (refine agc_f (dB (decide (W = W'))) (.inl ⟨rfl,rfl⟩) ?_ rfl ?_; (intro hc args ha; simp [go_sem] at ha; subst ha; exact AW); simp [go_sem, h1, h2]; ((repeat' (first|(refine ag_x ?_;simp [go_sem, h1, h2])|intro _|apply And.intro|(apply Yh;clear Yh Y)));all_goals first|apply Hold.mk|omega|assumption|skip))
   by_cases h3 : W = W'
   ·subst h3
    (refine awp_if fun T F hT hF => ?_; simp [go_sem, h1, h2]; refine hF ?_; clear hT hF T F)
    refine awp_skip ?_
    refine hK1 _ ?_; clear hK1
    refine awp_seq_k fun K3 hK3 => ?_
    (refine awp_sr fun Y Yh => ?_; simp [go_sem]; ((repeat' (first|(refine ag_x ?_;simp [go_sem])|intro _|apply And.intro|(apply Yh;clear Yh Y)));all_goals first|apply Hold.mk|omega|assumption|skip))
    refine awp_block ?_
    refine awp_loop (σ := Nat) (fun i => ⟨[(2, .ptr 2 g2 0), (3, .ptr 3 g3 0), (5, dI i)], [(2, g2, .box [dPs P, dNs N, dPs W]), (3, g3, .box [dPs P', dNs N', dPs W])]⟩) (fun i => i ≤ P.length ∧ P.take i = P'.take i) (fun i => P.length - i) 0 ?_ ?_ ?_
    ·(refine cov_of ?_ ?_ <;> simp [go_sem])
    ·simp
    rintro i ⟨hi, ht⟩
    refine awp_seq_k fun K4 hK4 => ?_
    (refine awp_sr fun Y Yh => ?_; simp [go_sem]; ((repeat' (first|(refine ag_x ?_;simp [go_sem])|intro _|apply And.intro|(apply Yh;clear Yh Y)));all_goals first|apply Hold.mk|omega|assumption|skip))
    (refine awp_if fun T F hT hF => ?_; simp [go_sem]; refine BR.intro (fun h5 => hT ?_) (fun h5 => hF ?_); all_goals clear hT hF T F; try simp at h5) 
    ·refine awp_skip ?_
     refine hK4 _ ?_; clear hK4
     obtain ⟨x, hx⟩ : ∃ x, P[i]? = some x := ⟨_, List.getElem?_eq_getElem (by omega)⟩
     obtain ⟨y, hy⟩ : ∃ y, P'[i]? = some y := ⟨_, List.getElem?_eq_getElem (by omega)⟩
     have hs := take_eq_step hx hy ht
     have hn := take_ne hx hy
     refine awp_seq_k fun K6 hK6 => ?_
     refine awp_block ?_
     ((refine awp_dr (.qs [0, 2, 5, 7, 1, 3, 4, 6, 8, 9, 10] (.nil)) (by kernel_rfl) ?_ ?_ ?_ ?_); (kernel_rfl); (exact (by decide +kernel)); (kernel_rfl); intro Y Yh; ((repeat' (first|(refine ag_x ?_;simp [go_sem, hx, hy])|refine adr_nil ?_|((first|refine adr_qs fun Y Yh=>?_|refine adr_y fun Y Yh=>?_);simp [go_sem, hx, hy])|intro _|apply And.intro|(apply Yh;clear Yh Y)));all_goals first|apply Hold.mk|omega|assumption|skip))
     (refine awp_if fun T F hT hF => ?_; simp [go_sem]; refine BR.intro (fun h7 => hT ?_) (fun h7 => hF ?_); all_goals clear hT hF T F; try simp at h7) 
     ·have hne : ¬ P = P' := hn (fun q => by subst q; simp at h7)
      (refine awp_sr fun Y Yh => ?_; simp [go_sem]; ((repeat' (first|(refine ag_x ?_;simp [go_sem])|intro _|apply And.intro|(apply Yh;clear Yh Y)));all_goals first|apply Hold.mk|omega|assumption|skip))
      (refine awp_ret ?_; simp [go_sem, hne])
     ·refine awp_skip ?_
      refine hK6 _ ?_; clear hK6
      (refine awp_r fun Y Yh => ?_; simp [go_sem]; ((repeat' (first|(refine ag_x ?_;simp [go_sem])|intro _|apply And.intro|(apply Yh;clear Yh Y)));all_goals first|apply Hold.mk|omega|assumption|skip))
      refine ⟨i + 1, ?_, ⟨by omega, ?_⟩, by omega⟩
      ·(refine cov_of ?_ ?_ <;> simp [go_sem])
      ·exact hs.2 (Prod.ext h7.1 h7.2)
    ·refine awp_exit ?_
     simp only [go_sem]
     refine hK3 _ ?_; clear hK3
     have : i = P.length := by omega
     subst this
     have hPP := take_all h1 ht
     refine awp_seq_k fun K8 hK8 => ?_
     (refine awp_sr fun Y Yh => ?_; simp [go_sem]; ((repeat' (first|(refine ag_x ?_;simp [go_sem])|intro _|apply And.intro|(apply Yh;clear Yh Y)));all_goals first|apply Hold.mk|omega|assumption|skip))
     refine awp_block ?_
     refine awp_loop (σ := Nat) (fun i => ⟨[(2, .ptr 2 g2 0), (3, .ptr 3 g3 0), (6, dI i)], [(2, g2, .box [dPs P, dNs N, dPs W]), (3, g3, .box [dPs P', dNs N', dPs W])]⟩) (fun i => i ≤ N.length ∧ N.take i = N'.take i) (fun i => N.length - i) 0 ?_ ?_ ?_
     ·(refine cov_of ?_ ?_ <;> simp [go_sem])
     ·simp
     rintro i ⟨hi, ht⟩
     refine awp_seq_k fun K9 hK9 => ?_
     (refine awp_sr fun Y Yh => ?_; simp [go_sem]; ((repeat' (first|(refine ag_x ?_;simp [go_sem])|intro _|apply And.intro|(apply Yh;clear Yh Y)));all_goals first|apply Hold.mk|omega|assumption|skip))
     (refine awp_if fun T F hT hF => ?_; simp [go_sem]; refine BR.intro (fun h10 => hT ?_) (fun h10 => hF ?_); all_goals clear hT hF T F; try simp at h10) 
     ·refine awp_skip ?_
      refine hK9 _ ?_; clear hK9
      obtain ⟨x, hx⟩ : ∃ x, N[i]? = some x := ⟨_, List.getElem?_eq_getElem (by omega)⟩
      obtain ⟨y, hy⟩ : ∃ y, N'[i]? = some y := ⟨_, List.getElem?_eq_getElem (by omega)⟩
      have hs := take_eq_step hx hy ht
      have hn := take_ne hx hy
      have AL := ralike_spec x y (hN1 x (List.mem_of_getElem? hx)).1 (kN1 y (List.mem_of_getElem? hy)).1
      refine awp_seq_k fun K11 hK11 => ?_
      refine awp_block ?_
      ((refine awp_dr (.qs [0, 2, 5, 7, 1, 3, 4, 6, 8, 9] (.one 10 (.qs [11] (.nil)))) (by kernel_rfl) ?_ ?_ ?_ ?_); (kernel_rfl); (exact (by decide +kernel)); (kernel_rfl); intro Y Yh; ((repeat' (first|(refine ag_x ?_;simp [go_sem, hx, hy])|refine adr_nil ?_|((first|refine adr_qs fun Y Yh=>?_|refine adr_y fun Y Yh=>?_);simp [go_sem, hx, hy])|intro _|apply And.intro|(apply Yh;clear Yh Y)));all_goals first|apply Hold.mk|omega|assumption|skip))
      ((try refine CallT.toA ?_); refine callT_m (.inl ⟨rfl,rfl⟩) (by simp [go_sem]) ?_; intro args ha; simp [go_sem] at ha; subst ha; refine ⟨_, AL, ?_⟩; rintro _ rfl; simp [go_sem]; ((repeat' (first|(refine ag_x ?_;simp [go_sem])|refine adr_nil ?_|((first|refine adr_qs fun Y Yh=>?_|refine adr_y fun Y Yh=>?_);simp [go_sem])|intro _|apply And.intro|(apply Yh;clear Yh Y)));all_goals first|apply Hold.mk|omega|assumption|skip))
      (refine awp_if fun T F hT hF => ?_; simp [go_sem]; refine BR.intro (fun h12 => hT ?_) (fun h12 => hF ?_); all_goals clear hT hF T F; try simp at h12) 
      ·have hne := hn h12
       (refine awp_sr fun Y Yh => ?_; simp [go_sem]; ((repeat' (first|(refine ag_x ?_;simp [go_sem])|intro _|apply And.intro|(apply Yh;clear Yh Y)));all_goals first|apply Hold.mk|omega|assumption|skip))
       (refine awp_ret ?_; simp [go_sem, hne])
      ·refine awp_skip ?_
       refine hK11 _ ?_; clear hK11
       (refine awp_r fun Y Yh => ?_; simp [go_sem]; ((repeat' (first|(refine ag_x ?_;simp [go_sem])|intro _|apply And.intro|(apply Yh;clear Yh Y)));all_goals first|apply Hold.mk|omega|assumption|skip))
       refine ⟨i + 1, ?_, ⟨by omega, hs.2 h12⟩, by omega⟩
       (refine cov_of ?_ ?_ <;> simp [go_sem])
     ·refine awp_exit ?_
      simp only [go_sem]
      refine hK8 _ ?_; clear hK8
      have : i = N.length := by omega
      subst this
      have hNN := take_all h2 ht
      (refine awp_sr fun Y Yh => ?_; simp [go_sem]; ((repeat' (first|(refine ag_x ?_;simp [go_sem])|intro _|apply And.intro|(apply Yh;clear Yh Y)));all_goals first|apply Hold.mk|omega|assumption|skip))
      (refine awp_ret ?_; simp [go_sem, hPP, hNN])
   ·(refine awp_if fun T F hT hF => ?_; simp [go_sem, h1, h2, h3]; refine hT ?_; clear hT hF T F)
    (refine awp_sr fun Y Yh => ?_; simp [go_sem]; ((repeat' (first|(refine ag_x ?_;simp [go_sem])|intro _|apply And.intro|(apply Yh;clear Yh Y)));all_goals first|apply Hold.mk|omega|assumption|skip))
    (refine awp_ret ?_; simp [go_sem, h3])
  ·have h2' : ¬ (N.length : Int) = N'.length := by omega
   have hne : ¬ N = N' := fun q => h2 (by rw [q])
   (refine awp_sr fun Y Yh => ?_; simp [go_sem, h1, h2, h2']; ((repeat' (first|(refine ag_false ?_ ?_ ?_;(focus (simp [go_sem, undef, h1, h2, h2'];done));(focus (simp [go_sem];done));simp [go_sem, h1, h2, h2'])|(refine ag_true ?_ ?_;(focus (simp [go_sem, undef, h1, h2, h2'];done));simp [go_sem, h1, h2, h2'])|(refine ag_x ?_;simp [go_sem, undef, h1, h2, h2'])|intro _|apply And.intro|(apply Yh;clear Yh Y)));all_goals first|apply Hold.mk|omega|assumption|skip))
   (refine awp_if fun T F hT hF => ?_; simp [go_sem]; refine hT ?_; clear hT hF T F)
   (refine awp_sr fun Y Yh => ?_; simp [go_sem]; ((repeat' (first|(refine ag_x ?_;simp [go_sem])|intro _|apply And.intro|(apply Yh;clear Yh Y)));all_goals first|apply Hold.mk|omega|assumption|skip))
   (refine awp_ret ?_; simp [go_sem, hne])
 ·have h1' : ¬ (P.length : Int) = P'.length := by omega
  have hne : ¬ P = P' := fun q => h1 (by rw [q])
  (refine awp_sr fun Y Yh => ?_; simp [go_sem, h1, h1']; ((repeat' (first|(refine ag_false ?_ ?_ ?_;(focus (simp [go_sem, undef, h1, h1'];done));(focus (simp [go_sem];done));simp [go_sem, h1, h1'])|(refine ag_true ?_ ?_;(focus (simp [go_sem, undef, h1, h1'];done));simp [go_sem, h1, h1'])|(refine ag_x ?_;simp [go_sem, undef, h1, h1'])|intro _|apply And.intro|(apply Yh;clear Yh Y)));all_goals first|apply Hold.mk|omega|assumption|skip))
  (refine awp_if fun T F hT hF => ?_; simp [go_sem]; refine hT ?_; clear hT hF T F)
  (refine awp_sr fun Y Yh => ?_; simp [go_sem]; ((repeat' (first|(refine ag_x ?_;simp [go_sem])|intro _|apply And.intro|(apply Yh;clear Yh Y)));all_goals first|apply Hold.mk|omega|assumption|skip))
  (refine awp_ret ?_; simp [go_sem, hne])
set_option maxHeartbeats 4000000 in
theorem wneeds_spec (l : List Prs) (hl : l.length ≤ 1000000) : PCall Tryz.prog 63 [dPs l] fun r => r = dPs l := by 
 refine pcall_of Tryz.func63 rfl rfl Tryz.ntmps63 (rs := [.tmp 2]) (tys := [26]) rfl rfl (by simp) ?_
 (refine awp_sr fun Y Yh => ?_; simp [go_sem]; ((repeat' (first|(refine ag_x ?_;simp [go_sem])|intro _|apply And.intro|(apply Yh;clear Yh Y)));all_goals first|apply Hold.mk|omega|assumption|skip))
 (refine awp_sr fun Y Yh => ?_; simp [go_sem]; ((repeat' (first|(refine ag_x ?_;simp [go_sem])|intro _|apply And.intro|(apply Yh;clear Yh Y)));all_goals first|apply Hold.mk|omega|assumption|skip))
 refine awp_nilslot 3 3 43 2 rfl fun g3 => ?_
 simp only [go_sem]
 refine awp_seq_k fun K1 hK1 => ?_
 (refine awp_sr fun Y Yh => ?_; simp [go_sem]; ((repeat' (first|(refine ag_x ?_;simp [go_sem])|intro _|apply And.intro|(apply Yh;clear Yh Y)));all_goals first|apply Hold.mk|omega|assumption|skip))
 refine awp_block ?_
 refine awp_loop (σ := Nat × Nat) (fun x => ⟨[(0, dPs l), (3, .own 3 x.2), (4, dI x.1)], [(3, x.2, .row 43 2 ((l.take x.1).map cP))]⟩) (fun x => x.1 ≤ l.length) (fun x => l.length - x.1) (0, g3) ?_ ?_ ?_
 ·(refine cov_of ?_ ?_ <;> simp [go_sem])
 ·simp
 rintro ⟨i, g⟩ hi
 simp only at hi
 refine awp_seq_k fun K2 hK2 => ?_
 (refine awp_sr fun Y Yh => ?_; simp [go_sem]; ((repeat' (first|(refine ag_x ?_;simp [go_sem])|intro _|apply And.intro|(apply Yh;clear Yh Y)));all_goals first|apply Hold.mk|omega|assumption|skip))
 (refine awp_if fun T F hT hF => ?_; simp [go_sem]; refine BR.intro (fun h3 => hT ?_) (fun h3 => hF ?_); all_goals clear hT hF T F; try simp at h3) 
 ·refine awp_skip ?_
  refine hK2 _ ?_; clear hK2
  obtain ⟨x, hx⟩ : ∃ x, l[i]? = some x := ⟨_, List.getElem?_eq_getElem (by omega)⟩
  have htk : l.take (i + 1) = l.take i ++ [x] := by rw [List.take_add_one, hx]; rfl
  refine awp_seq_k fun K4 hK4 => ?_
  refine awp_block ?_
  ((refine awp_d (.qs [0, 1, 2, 3, 4, 6, 7, 8, 9, 5, 10, 11] (.one 12 (.one 13 (.qs [14] (.nil))))) (by kernel_rfl) ?_ ?_ ?_ ?_); (kernel_rfl); (exact (by decide +kernel)); (kernel_rfl); intro Y Yh; ((repeat' (first|(refine ag_x ?_;simp [go_sem, hx])|refine adr_nil ?_|((first|refine adr_qs fun Y Yh=>?_|refine adr_y fun Y Yh=>?_);simp [go_sem, hx])|intro _|apply And.intro|(apply Yh;clear Yh Y)));all_goals first|apply Hold.mk|omega|assumption|skip))
  refine hK4 _ ?_; clear hK4
  rename_i g' _
  refine awp_renrow 3 3 rfl rfl (by decide) fun g'' => ?_
  simp only [go_sem]
  (refine awp_r fun Y Yh => ?_; simp [go_sem]; ((repeat' (first|(refine ag_x ?_;simp [go_sem])|intro _|apply And.intro|(apply Yh;clear Yh Y)));all_goals first|apply Hold.mk|omega|assumption|skip))
  refine ⟨(i + 1, g''), ?_, by simp only; omega, by simp only; omega⟩
  simp only [htk]
  (refine cov_of ?_ ?_ <;> simp [go_sem])
 ·refine awp_exit ?_
  simp only [go_sem]
  refine hK1 _ ?_; clear hK1
  have : i = l.length := by omega
  subst this
  (refine awp_sr fun Y Yh => ?_; simp [go_sem]; ((repeat' (first|(refine ag_x ?_;simp [go_sem])|intro _|apply And.intro|(apply Yh;clear Yh Y)));all_goals first|apply Hold.mk|omega|assumption|skip))
  refine awp_frzrow 2 rfl rfl ?_
  simp only [go_sem]
  have htl : List.take l.length (l.map cP) = l.map cP := by
   conv => lhs; rw [← List.length_map (f := cP)]
   exact List.take_length
  (refine awp_ret ?_; simp [go_sem, htl])
theorem take_map_len {α β : Type} (f : α → β) (l : List α) : List.take l.length (l.map f) = l.map f := by
 conv => lhs; rw [← List.length_map (f := f)]
 exact List.take_length
theorem map_take_snoc {α β : Type} (f : α → β) {l : List α} {i : Nat} {x : α} (hx : l[i]? = some x) : (l.take (i + 1)).map f = (l.take i).map f ++ [f x] := by
 rw [List.take_add_one, hx]; simp
set_option maxHeartbeats 8000000 in
theorem as_spec (L : Lck) (hL : LkOk L) : PCall Tryz.prog 25 [dLk L] fun r => r = dLk L := by 
 refine pcall_of Tryz.func25 rfl rfl Tryz.ntmps25 (rs := [.cell 2 61]) (tys := [61]) rfl rfl (by simp) ?_
 obtain ⟨P, N, W⟩ := L
 obtain ⟨hP, hN, hW, hP1, hN1, hW1⟩ := hL
 simp only at hP hN hW hP1 hN1 hW1
 have NW := wneeds_spec W hW
 (refine awp_sr fun Y Yh => ?_; simp [go_sem]; ((repeat' (first|(refine ag_x ?_;simp [go_sem])|intro _|apply And.intro|(apply Yh;clear Yh Y)));all_goals first|apply Hold.mk|omega|assumption|skip))
 (refine awp_sr fun Y Yh => ?_; simp [go_sem]; ((repeat' (first|(refine ag_x ?_;simp [go_sem])|intro _|apply And.intro|(apply Yh;clear Yh Y)));all_goals first|apply Hold.mk|omega|assumption|skip))
 rename_i g1 g2 g3
 refine awp_nilbox 900003 95 2 0 (sb := 3) rfl rfl (by decide) fun gp0 => ?_
 refine awp_nilbox 900004 26 1 1 (sb := 3) rfl rfl (by decide) fun gn0 => ?_
 simp only [List.set, go_sem]
 refine awp_seq_k fun K1 hK1 => ?_
 (refine awp_sr fun Y Yh => ?_; simp [go_sem]; ((repeat' (first|(refine ag_x ?_;simp [go_sem])|intro _|apply And.intro|(apply Yh;clear Yh Y)));all_goals first|apply Hold.mk|omega|assumption|skip))
 refine awp_block ?_
 refine awp_loop (σ := Nat × Nat) (fun x => ⟨[(1, .ptr 1 g1 0), (2, .ptr 2 g2 0), (3, .ptr 3 g3 0), (4, dI x.1)], [(1, g1, .box [dPs P, dNs N, dPs W]), (2, g2, .box [.v (.slice none 0 0), .v (.slice none 0 0), .v (.slice none 0 0)]), (3, g3, .box [.own 900003 x.2, .own 900004 gn0, .v (.slice none 0 0)]), (900003, x.2, .row 95 2 ((P.take x.1).map cP)), (900004, gn0, .row 26 1 [])]⟩) (fun x => x.1 ≤ P.length) (fun x => P.length - x.1) (0, gp0) ?_ ?_ ?_
 ·(refine cov_of ?_ ?_ <;> simp [go_sem])
 ·simp
 rintro ⟨i, g⟩ hi
 simp only at hi
 refine awp_seq_k fun K2 hK2 => ?_
 (refine awp_sr fun Y Yh => ?_; simp [go_sem]; ((repeat' (first|(refine ag_x ?_;simp [go_sem])|intro _|apply And.intro|(apply Yh;clear Yh Y)));all_goals first|apply Hold.mk|omega|assumption|skip))
 (refine awp_if fun T F hT hF => ?_; simp [go_sem]; refine BR.intro (fun h3 => hT ?_) (fun h3 => hF ?_); all_goals clear hT hF T F; try simp at h3) 
 ·refine awp_skip ?_
  refine hK2 _ ?_; clear hK2
  obtain ⟨x, hx⟩ : ∃ x, P[i]? = some x := ⟨_, List.getElem?_eq_getElem (by omega)⟩
  have htk := map_take_snoc cP hx
  refine awp_seq_k fun K4 hK4 => ?_
  refine awp_block ?_
  ((refine awp_d (.qs [0, 2, 4, 8, 10, 1, 3, 5, 6, 7, 9, 11, 12, 13, 14] (.kp 15 (.one 16 (.qs [17] (.one 18 (.nil)))))) (by kernel_rfl) ?_ ?_ ?_ ?_); (kernel_rfl); (exact (by decide +kernel)); (kernel_rfl); intro Y Yh; ((repeat' (first|(refine ag_x ?_;simp [go_sem, hx])|refine adr_nil ?_|((first|refine adr_qs fun Y Yh=>?_|refine adr_y fun Y Yh=>?_);simp [go_sem, hx])|intro _|apply And.intro|(apply Yh;clear Yh Y)));all_goals first|apply Hold.mk|omega|assumption|skip))
  refine hK4 _ ?_; clear hK4
  (refine awp_r fun Y Yh => ?_; simp [go_sem]; ((repeat' (first|(refine ag_x ?_;simp [go_sem])|intro _|apply And.intro|(apply Yh;clear Yh Y)));all_goals first|apply Hold.mk|omega|assumption|skip))
  rename_i g' g''
  refine ⟨(i + 1, g''), ?_, by simp only; omega, by simp only; omega⟩
  simp only [htk]
  (refine cov_of ?_ ?_ <;> simp [go_sem])
 ·refine awp_exit ?_
  simp only [go_sem]
  refine hK1 _ ?_; clear hK1
  have : i = P.length := by omega
  subst this
  refine awp_seq_k fun K5 hK5 => ?_
  (refine awp_sr fun Y Yh => ?_; simp [go_sem]; ((repeat' (first|(refine ag_x ?_;simp [go_sem])|intro _|apply And.intro|(apply Yh;clear Yh Y)));all_goals first|apply Hold.mk|omega|assumption|skip))
  refine awp_block ?_
  refine awp_loop (σ := Nat × Nat) (fun x => ⟨[(1, .ptr 1 g1 0), (2, .ptr 2 g2 0), (3, .ptr 3 g3 0), (5, dI x.1)], [(1, g1, .box [dPs P, dNs N, dPs W]), (2, g2, .box [.v (.slice none 0 0), .v (.slice none 0 0), .v (.slice none 0 0)]), (3, g3, .box [.own 900003 g, .own 900004 x.2, .v (.slice none 0 0)]), (900003, g, .row 95 2 (P.map cP)), (900004, x.2, .row 26 1 ((N.take x.1).map fun n => [dPs n]))]⟩) (fun x => x.1 ≤ N.length) (fun x => N.length - x.1) (0, gn0) ?_ ?_ ?_
  ·(refine cov_of ?_ ?_ <;> simp [go_sem, take_map_len])
  ·simp
  rintro ⟨i, gn⟩ hi
  simp only at hi
  refine awp_seq_k fun K6 hK6 => ?_
  (refine awp_sr fun Y Yh => ?_; simp [go_sem]; ((repeat' (first|(refine ag_x ?_;simp [go_sem])|intro _|apply And.intro|(apply Yh;clear Yh Y)));all_goals first|apply Hold.mk|omega|assumption|skip))
  (refine awp_if fun T F hT hF => ?_; simp [go_sem]; refine BR.intro (fun h7 => hT ?_) (fun h7 => hF ?_); all_goals clear hT hF T F; try simp at h7) 
  ·refine awp_skip ?_
   refine hK6 _ ?_; clear hK6
   obtain ⟨x, hx⟩ : ∃ x, N[i]? = some x := ⟨_, List.getElem?_eq_getElem (by omega)⟩
   have htk := map_take_snoc (fun n => [dPs n]) hx
   have NX := wneeds_spec x (hN1 x (List.mem_of_getElem? hx)).1
   refine awp_seq_k fun K8 hK8 => ?_
   refine awp_block ?_
   ((refine awp_d (.qs [0, 2, 4, 1, 3, 5, 6] (.kp 7 (.kp 8 (.one 9 (.qs [10] (.one 11 (.nil))))))) (by kernel_rfl) ?_ ?_ ?_ ?_); (kernel_rfl); (exact (by decide +kernel)); (kernel_rfl); intro Y Yh; ((repeat' (first|(refine ag_x ?_;simp [go_sem, hx])|refine adr_nil ?_|((first|refine adr_qs fun Y Yh=>?_|refine adr_y fun Y Yh=>?_);simp [go_sem, hx])|intro _|apply And.intro|(apply Yh;clear Yh Y)));all_goals first|apply Hold.mk|omega|assumption|skip))
   ((try refine CallT.toA ?_); refine callT_m (.inl ⟨rfl,rfl⟩) (by simp [go_sem]) ?_; intro args ha; simp [go_sem] at ha; subst ha; refine ⟨_, NX, ?_⟩; rintro _ rfl; simp [go_sem]; ((repeat' (first|(refine ag_x ?_;simp [go_sem])|refine adr_nil ?_|((first|refine adr_qs fun Y Yh=>?_|refine adr_y fun Y Yh=>?_);simp [go_sem])|intro _|apply And.intro|(apply Yh;clear Yh Y)));all_goals first|apply Hold.mk|omega|assumption|skip))
   refine hK8 _ ?_; clear hK8
   (refine awp_r fun Y Yh => ?_; simp [go_sem]; ((repeat' (first|(refine ag_x ?_;simp [go_sem])|intro _|apply And.intro|(apply Yh;clear Yh Y)));all_goals first|apply Hold.mk|omega|assumption|skip))
   rename_i g' g''
   refine ⟨(i + 1, g''), ?_, by simp only; omega, by simp only; omega⟩
   simp only [htk]
   (refine cov_of ?_ ?_ <;> simp [go_sem])
  ·refine awp_exit ?_
   simp only [go_sem]
   refine hK5 _ ?_; clear hK5
   have : i = N.length := by omega
   subst this
   (refine awp_sr fun Y Yh => ?_; simp [go_sem]; ((repeat' (first|(refine ag_x ?_;simp [go_sem])|intro _|apply And.intro|(apply Yh;clear Yh Y)));all_goals first|apply Hold.mk|omega|assumption|skip))
   ((try refine CallT.toA ?_); refine callT_m (.inl ⟨rfl,rfl⟩) (by simp [go_sem]) ?_; intro args ha; simp [go_sem] at ha; subst ha; refine ⟨_, NW, ?_⟩; rintro _ rfl; simp [go_sem]; ((repeat' (first|(refine ag_x ?_;simp [go_sem])|intro _|apply And.intro|(apply Yh;clear Yh Y)));all_goals first|apply Hold.mk|omega|assumption|skip))
   refine awp_frzin 900003 3 0 rfl rfl (by decide) rfl ?_
   simp only [go_sem, List.set]
   refine awp_frzin 900004 3 1 rfl rfl (by decide) rfl ?_
   simp only [go_sem, List.set]
   (refine awp_sr fun Y Yh => ?_; simp [go_sem]; ((repeat' (first|(refine ag_x ?_;simp [go_sem])|intro _|apply And.intro|(apply Yh;clear Yh Y)));all_goals first|apply Hold.mk|omega|assumption|skip))
   (refine awp_ret ?_; simp [go_sem, take_map_len])
end Go.Proofs.YteekfnhhlcmcgaaGreatDoor
