/- Part of a proof: see the last text. -/
import Derived.Test.YtjdccagkafnbfaaGreatDoorVB
set_option linter.unusedVariables false
set_option linter.unusedSimpArgs false
namespace Go.Proofs.YtjdccagkafnbfaaGreatDoor
open Go.Eng Go.Wh Go.Ver
set_option maxRecDepth 20000
set_option linter.unusedSimpArgs false
set_option linter.unusedVariables false
attribute [local irreducible] AG CallA CallT AWp PCall ACall AgC
theorem Compare_spec (v w : List UInt8) (hv : v.length ≤ 1000000) (hw : w.length ≤ 1000000) : PCall Tryz.prog 11 [dS v, dS w] fun r => r = .tup [dI (compareP v w), dI (codeP ((readV v).isSome && (readV w).isSome))] := by 
  refine pcall_of Tryz.func11 rfl rfl Tryz.ntmps11 (rs := [.tmp 4, .tmp 5]) (tys := [3, 23]) rfl rfl (by simp) ?_
  have R1 := read_spec v (by omega)
  have R2 := read_spec w (by omega)
  have h1 := @read_ok v
  have h2 := @read_ok w
  unfold compareP codeP
  generalize readP v = a at *
  generalize readP w = b at *
  have C := fun (p : (readV v).isSome = true) (q : (readV w).isSome = true) => compare_spec a b (by have := (h1 p).2.1.1; omega) (by have := (h2 q).2.1.1; omega)
  generalize (readV v).isSome = x at *
  generalize (readV w).isSome = y at *
  (refine awp_sr fun KK hKK => ?_; simp [go_sem]; ((repeat' (first|(refine ag_x ?_;simp [go_sem])|intro _|refine And.intro ?_ ?_|(apply hKK;clear hKK KK)));all_goals first|refine Hold.mk ?_|omega|with_reducible assumption|(simp only [InR] at *;omega)|skip))
  (refine awp_sr fun KK hKK => ?_; simp [go_sem]; ((repeat' (first|(refine ag_x ?_;simp [go_sem])|intro _|refine And.intro ?_ ?_|(apply hKK;clear hKK KK)));all_goals first|refine Hold.mk ?_|omega|with_reducible assumption|(simp only [InR] at *;omega)|skip))
  ((try refine CallT.toA ?_); refine callT_m (by first | exact .inl ⟨rfl, rfl⟩ | exact .inr rfl) (by simp [go_sem]) ?_; intro args ha; simp [go_sem] at ha; subst ha; refine ⟨_, R1, ?_⟩; rintro _ rfl; simp [go_sem]; ((repeat' (first|(refine ag_x ?_;simp [go_sem])|intro _|refine And.intro ?_ ?_|(apply hKK;clear hKK KK)));all_goals first|refine Hold.mk ?_|omega|with_reducible assumption|(simp only [InR] at *;omega)|skip))
  (refine awp_sr fun KK hKK => ?_; simp [go_sem]; ((repeat' (first|(refine ag_x ?_;simp [go_sem])|intro _|refine And.intro ?_ ?_|(apply hKK;clear hKK KK)));all_goals first|refine Hold.mk ?_|omega|with_reducible assumption|(simp only [InR] at *;omega)|skip))
  ((try refine CallT.toA ?_); refine callT_m (by first | exact .inl ⟨rfl, rfl⟩ | exact .inr rfl) (by simp [go_sem]) ?_; intro args ha; simp [go_sem] at ha; subst ha; refine ⟨_, R2, ?_⟩; rintro _ rfl; simp [go_sem]; ((repeat' (first|(refine ag_x ?_;simp [go_sem])|intro _|refine And.intro ?_ ?_|(apply hKK;clear hKK KK)));all_goals first|refine Hold.mk ?_|omega|with_reducible assumption|(simp only [InR] at *;omega)|skip))
  refine awp_seq_k fun K1 hK1 => ?_
  cases x with
  | false =>
    (refine awp_sr fun KK hKK => ?_; simp [go_sem]; ((repeat' (first|(refine ag_false (by simp [go_sem, undef]) (by simp [go_sem]) ?_;simp [go_sem])|intro _|refine And.intro ?_ ?_|(apply hKK;clear hKK KK)));all_goals first|refine Hold.mk ?_|omega|with_reducible assumption|(simp only [InR] at *;omega)|skip))
    (refine awp_if fun T F hT hF => ?_; simp [go_sem]; refine hT ?_; clear hT hF T F)
    (refine awp_sr fun KK hKK => ?_; simp [go_sem]; ((repeat' (first|(refine ag_x ?_;simp [go_sem])|intro _|refine And.intro ?_ ?_|(apply hKK;clear hKK KK)));all_goals first|refine Hold.mk ?_|omega|with_reducible assumption|(simp only [InR] at *;omega)|skip))
    (refine awp_ret ?_; simp [go_sem])
  | true =>
    cases y with
    | false =>
      (refine awp_sr fun KK hKK => ?_; simp [go_sem]; ((repeat' (first|(refine ag_x ?_;simp [go_sem])|intro _|refine And.intro ?_ ?_|(apply hKK;clear hKK KK)));all_goals first|refine Hold.mk ?_|omega|with_reducible assumption|(simp only [InR] at *;omega)|skip))
      (refine awp_if fun T F hT hF => ?_; simp [go_sem]; refine hT ?_; clear hT hF T F)
      (refine awp_sr fun KK hKK => ?_; simp [go_sem]; ((repeat' (first|(refine ag_x ?_;simp [go_sem])|intro _|refine And.intro ?_ ?_|(apply hKK;clear hKK KK)));all_goals first|refine Hold.mk ?_|omega|with_reducible assumption|(simp only [InR] at *;omega)|skip))
      (refine awp_ret ?_; simp [go_sem])
    | true =>
      (refine awp_sr fun KK hKK => ?_; simp [go_sem]; ((repeat' (first|(refine ag_x ?_;simp [go_sem])|intro _|refine And.intro ?_ ?_|(apply hKK;clear hKK KK)));all_goals first|refine Hold.mk ?_|omega|with_reducible assumption|(simp only [InR] at *;omega)|skip))
      (refine awp_if fun T F hT hF => ?_; simp [go_sem]; refine hF ?_; clear hT hF T F)
      refine awp_skip ?_
      refine hK1 _ ?_; clear hK1
      (refine awp_sr fun KK hKK => ?_; simp [go_sem]; ((repeat' (first|(refine ag_x ?_;simp [go_sem])|intro _|refine And.intro ?_ ?_|(apply hKK;clear hKK KK)));all_goals first|refine Hold.mk ?_|omega|with_reducible assumption|(simp only [InR] at *;omega)|skip))
      ((try refine CallT.toA ?_); refine callT_m (by first | exact .inl ⟨rfl, rfl⟩ | exact .inr rfl) (by simp [go_sem]) ?_; intro args ha; simp [go_sem] at ha; subst ha; refine ⟨_, (C rfl rfl), ?_⟩; rintro _ rfl; simp [go_sem]; ((repeat' (first|(refine ag_x ?_;simp [go_sem])|intro _|refine And.intro ?_ ?_|(apply hKK;clear hKK KK)));all_goals first|refine Hold.mk ?_|omega|with_reducible assumption|(simp only [InR] at *;omega)|skip))
      (refine awp_ret ?_; simp [go_sem])
theorem Meets_spec (v r : List UInt8) (hv : v.length ≤ 1000000) (hw : r.length ≤ 1000000) : PCall Tryz.prog 12 [dS v, dS r] fun x => x = .tup [dB (meetsP v r), dI (codeP ((readV v).isSome && (condsV r).isSome))] := by 
  refine pcall_of Tryz.func12 rfl rfl Tryz.ntmps12 (rs := [.tmp 4, .tmp 5]) (tys := [4, 23]) rfl rfl (by simp) ?_
  have R1 := read_spec v (by omega)
  have R2 := conditions_spec r (by omega)
  have h1 := @read_ok v
  have h2 := @conds_ok r
  unfold meetsP codeP
  generalize readP v = a at *
  generalize condsP r = b at *
  have C := fun (p : (readV v).isSome = true) (q : (condsV r).isSome = true) => meets_spec a b (by have := (h1 p).2.1.1; omega) (by have := (h2 q).2.2; omega) (fun c hc => ((h2 q).2.1 c hc).2.1)
  generalize (readV v).isSome = x at *
  generalize (condsV r).isSome = y at *
  (refine awp_sr fun KK hKK => ?_; simp [go_sem]; ((repeat' (first|(refine ag_x ?_;simp [go_sem])|intro _|refine And.intro ?_ ?_|(apply hKK;clear hKK KK)));all_goals first|refine Hold.mk ?_|omega|with_reducible assumption|(simp only [InR] at *;omega)|skip))
  (refine awp_sr fun KK hKK => ?_; simp [go_sem]; ((repeat' (first|(refine ag_x ?_;simp [go_sem])|intro _|refine And.intro ?_ ?_|(apply hKK;clear hKK KK)));all_goals first|refine Hold.mk ?_|omega|with_reducible assumption|(simp only [InR] at *;omega)|skip))
  ((try refine CallT.toA ?_); refine callT_m (by first | exact .inl ⟨rfl, rfl⟩ | exact .inr rfl) (by simp [go_sem]) ?_; intro args ha; simp [go_sem] at ha; subst ha; refine ⟨_, R1, ?_⟩; rintro _ rfl; simp [go_sem]; ((repeat' (first|(refine ag_x ?_;simp [go_sem])|intro _|refine And.intro ?_ ?_|(apply hKK;clear hKK KK)));all_goals first|refine Hold.mk ?_|omega|with_reducible assumption|(simp only [InR] at *;omega)|skip))
  (refine awp_sr fun KK hKK => ?_; simp [go_sem]; ((repeat' (first|(refine ag_x ?_;simp [go_sem])|intro _|refine And.intro ?_ ?_|(apply hKK;clear hKK KK)));all_goals first|refine Hold.mk ?_|omega|with_reducible assumption|(simp only [InR] at *;omega)|skip))
  ((try refine CallT.toA ?_); refine callT_m (by first | exact .inl ⟨rfl, rfl⟩ | exact .inr rfl) (by simp [go_sem]) ?_; intro args ha; simp [go_sem] at ha; subst ha; refine ⟨_, R2, ?_⟩; rintro _ rfl; simp [go_sem]; ((repeat' (first|(refine ag_x ?_;simp [go_sem])|intro _|refine And.intro ?_ ?_|(apply hKK;clear hKK KK)));all_goals first|refine Hold.mk ?_|omega|with_reducible assumption|(simp only [InR] at *;omega)|skip))
  refine awp_seq_k fun K1 hK1 => ?_
  cases x with
  | false =>
    (refine awp_sr fun KK hKK => ?_; simp [go_sem]; ((repeat' (first|(refine ag_false (by simp [go_sem, undef]) (by simp [go_sem]) ?_;simp [go_sem])|intro _|refine And.intro ?_ ?_|(apply hKK;clear hKK KK)));all_goals first|refine Hold.mk ?_|omega|with_reducible assumption|(simp only [InR] at *;omega)|skip))
    (refine awp_if fun T F hT hF => ?_; simp [go_sem]; refine hT ?_; clear hT hF T F)
    (refine awp_sr fun KK hKK => ?_; simp [go_sem]; ((repeat' (first|(refine ag_x ?_;simp [go_sem])|intro _|refine And.intro ?_ ?_|(apply hKK;clear hKK KK)));all_goals first|refine Hold.mk ?_|omega|with_reducible assumption|(simp only [InR] at *;omega)|skip))
    (refine awp_ret ?_; simp [go_sem])
  | true =>
    cases y with
    | false =>
      (refine awp_sr fun KK hKK => ?_; simp [go_sem]; ((repeat' (first|(refine ag_x ?_;simp [go_sem])|intro _|refine And.intro ?_ ?_|(apply hKK;clear hKK KK)));all_goals first|refine Hold.mk ?_|omega|with_reducible assumption|(simp only [InR] at *;omega)|skip))
      (refine awp_if fun T F hT hF => ?_; simp [go_sem]; refine hT ?_; clear hT hF T F)
      (refine awp_sr fun KK hKK => ?_; simp [go_sem]; ((repeat' (first|(refine ag_x ?_;simp [go_sem])|intro _|refine And.intro ?_ ?_|(apply hKK;clear hKK KK)));all_goals first|refine Hold.mk ?_|omega|with_reducible assumption|(simp only [InR] at *;omega)|skip))
      (refine awp_ret ?_; simp [go_sem])
    | true =>
      (refine awp_sr fun KK hKK => ?_; simp [go_sem]; ((repeat' (first|(refine ag_x ?_;simp [go_sem])|intro _|refine And.intro ?_ ?_|(apply hKK;clear hKK KK)));all_goals first|refine Hold.mk ?_|omega|with_reducible assumption|(simp only [InR] at *;omega)|skip))
      (refine awp_if fun T F hT hF => ?_; simp [go_sem]; refine hF ?_; clear hT hF T F)
      refine awp_skip ?_
      refine hK1 _ ?_; clear hK1
      (refine awp_sr fun KK hKK => ?_; simp [go_sem]; ((repeat' (first|(refine ag_x ?_;simp [go_sem])|intro _|refine And.intro ?_ ?_|(apply hKK;clear hKK KK)));all_goals first|refine Hold.mk ?_|omega|with_reducible assumption|(simp only [InR] at *;omega)|skip))
      ((try refine CallT.toA ?_); refine callT_m (by first | exact .inl ⟨rfl, rfl⟩ | exact .inr rfl) (by simp [go_sem]) ?_; intro args ha; simp [go_sem] at ha; subst ha; refine ⟨_, (C rfl rfl), ?_⟩; rintro _ rfl; simp [go_sem]; ((repeat' (first|(refine ag_x ?_;simp [go_sem])|intro _|refine And.intro ?_ ?_|(apply hKK;clear hKK KK)));all_goals first|refine Hold.mk ?_|omega|with_reducible assumption|(simp only [InR] at *;omega)|skip))
      (refine awp_ret ?_; simp [go_sem])
end Go.Proofs.YtjdccagkafnbfaaGreatDoor

namespace Go.Proofs.YtjdccagkafnbfaaGreatDoor
open Go.Eng Go.Wh Go.Ver
set_option maxRecDepth 20000
set_option linter.unusedSimpArgs false
set_option linter.unusedVariables false
attribute [local irreducible] AG CallA CallT AWp PCall ACall AgC
theorem sane1 : compareP [49, 46, 48, 46, 97] [49, 46, 48] = -1 ∧ ((readV [49, 46, 48, 46, 97]).isSome && (readV [49, 46, 48]).isSome) = true := by decide +kernel
theorem saneR : condsV [126, 62, 32, 50, 46, 51, 46, 49] = some [([126, 62], [([], 2), ([], 3), ([], 1)])] := by
  have e : textR [([126, 62], [([], 2), ([], 3), ([], 1)])] = [126, 62, 32, 50, 46, 51, 46, 49] := by
    simp [textR, textC, textV, Lib.join_one, Lib.join_cons, Lib.joinTail, segT, itoa_1, itoa_2, itoa_3]
  rw [← e]
  refine condsV_text ?_ (by simp)
  intro c hc
  simp at hc
  subst hc
  refine ⟨by simp [opsV], ⟨by simp, by simp, by simp [SegOk]⟩, ?_⟩
  simp [textV, Lib.join_one, Lib.join_cons, Lib.joinTail, segT, itoa_1, itoa_2, itoa_3]
theorem sane2 : meetsP [50, 46, 51, 46, 57] [126, 62, 32, 50, 46, 51, 46, 49] = true ∧ ((readV [50, 46, 51, 46, 57]).isSome && (condsV [126, 62, 32, 50, 46, 51, 46, 49]).isSome) = true := by
  unfold meetsP
  rw [condsP_of saneR, saneR]
  decide +kernel
theorem sane3 : meetsP [50, 46, 52] [126, 62, 32, 50, 46, 51, 46, 49] = false ∧ ((readV [50, 46, 52]).isSome && (condsV [126, 62, 32, 50, 46, 51, 46, 49]).isSome) = true := by
  unfold meetsP
  rw [condsP_of saneR, saneR]
  decide +kernel
theorem sane_spec : PCall Tryz.prog 13 [] fun r => r = dB true := by 
  refine pcall_of Tryz.func13 rfl rfl Tryz.ntmps13 (rs := [.tmp 0]) (tys := [4]) rfl rfl (by simp) ?_
  have C1 := Compare_spec [49, 46, 48, 46, 97] [49, 46, 48] (by simp) (by simp)
  have M1 := Meets_spec [50, 46, 51, 46, 57] [126, 62, 32, 50, 46, 51, 46, 49] (by simp) (by simp)
  have M2 := Meets_spec [50, 46, 52] [126, 62, 32, 50, 46, 51, 46, 49] (by simp) (by simp)
  rw [sane1.1, sane1.2] at C1
  rw [sane2.1, sane2.2] at M1
  rw [sane3.1, sane3.2] at M2
  simp only [codeP, if_true] at C1 M1 M2
  (refine awp_sr fun KK hKK => ?_; simp [go_sem]; ((repeat' (first|(refine ag_x ?_;simp [go_sem])|intro _|refine And.intro ?_ ?_|(apply hKK;clear hKK KK)));all_goals first|refine Hold.mk ?_|omega|with_reducible assumption|(simp only [InR] at *;omega)|skip))
  (refine awp_sr fun KK hKK => ?_; simp [go_sem]; ((repeat' (first|(refine ag_x ?_;simp [go_sem])|intro _|refine And.intro ?_ ?_|(apply hKK;clear hKK KK)));all_goals first|refine Hold.mk ?_|omega|with_reducible assumption|(simp only [InR] at *;omega)|skip))
  ((try refine CallT.toA ?_); refine callT_m (by first | exact .inl ⟨rfl, rfl⟩ | exact .inr rfl) (by simp [go_sem]) ?_; intro args ha; simp [go_sem] at ha; subst ha; refine ⟨_, C1, ?_⟩; rintro _ rfl; simp [go_sem]; ((repeat' (first|(refine ag_x ?_;simp [go_sem])|intro _|refine And.intro ?_ ?_|(apply hKK;clear hKK KK)));all_goals first|refine Hold.mk ?_|omega|with_reducible assumption|(simp only [InR] at *;omega)|skip))
  (refine awp_sr fun KK hKK => ?_; simp [go_sem]; ((repeat' (first|(refine ag_x ?_;simp [go_sem])|intro _|refine And.intro ?_ ?_|(apply hKK;clear hKK KK)));all_goals first|refine Hold.mk ?_|omega|with_reducible assumption|(simp only [InR] at *;omega)|skip))
  ((try refine CallT.toA ?_); refine callT_m (by first | exact .inl ⟨rfl, rfl⟩ | exact .inr rfl) (by simp [go_sem]) ?_; intro args ha; simp [go_sem] at ha; subst ha; refine ⟨_, M1, ?_⟩; rintro _ rfl; simp [go_sem]; ((repeat' (first|(refine ag_x ?_;simp [go_sem])|intro _|refine And.intro ?_ ?_|(apply hKK;clear hKK KK)));all_goals first|refine Hold.mk ?_|omega|with_reducible assumption|(simp only [InR] at *;omega)|skip))
  (refine awp_sr fun KK hKK => ?_; simp [go_sem]; ((repeat' (first|(refine ag_x ?_;simp [go_sem])|intro _|refine And.intro ?_ ?_|(apply hKK;clear hKK KK)));all_goals first|refine Hold.mk ?_|omega|with_reducible assumption|(simp only [InR] at *;omega)|skip))
  ((try refine CallT.toA ?_); refine callT_m (by first | exact .inl ⟨rfl, rfl⟩ | exact .inr rfl) (by simp [go_sem]) ?_; intro args ha; simp [go_sem] at ha; subst ha; refine ⟨_, M2, ?_⟩; rintro _ rfl; simp [go_sem]; ((repeat' (first|(refine ag_x ?_;simp [go_sem])|intro _|refine And.intro ?_ ?_|(apply hKK;clear hKK KK)));all_goals first|refine Hold.mk ?_|omega|with_reducible assumption|(simp only [InR] at *;omega)|skip))
  (refine awp_sr fun KK hKK => ?_; simp [go_sem]; ((repeat' (first|(refine ag_x ?_;simp [go_sem])|intro _|refine And.intro ?_ ?_|(apply hKK;clear hKK KK)));all_goals first|refine Hold.mk ?_|omega|with_reducible assumption|(simp only [InR] at *;omega)|skip))
  (refine awp_ret ?_; simp [go_sem])
end Go.Proofs.YtjdccagkafnbfaaGreatDoor

namespace Go.Proofs.YtjdccagkafnbfaaGreatDoor
open Go.Eng Go.Wh Go.Ver
set_option maxRecDepth 20000
set_option linter.unusedSimpArgs false
set_option linter.unusedVariables false
attribute [local irreducible] AG CallA CallT AWp PCall ACall AgC
@[go_sem] abbrev dU (n : Int) : D := .v (.int .u64 n)
/-- the uint of an int -/
def un (n : Int) : Nat := (n % 18446744073709551616).toNat
theorem un_wrap (n : Int) : IntKind.u64.wrap n = (un n : Int) := by
  rw [show IntKind.u64.wrap n = n % 18446744073709551616 by simp [IntKind.wrap, IntKind.bits, IntKind.signed]]
  unfold un; omega
theorem un_lt (n : Int) : un n < 18446744073709551616 := by unfold un; omega
theorem wrapN {x : Nat} (h : x < 18446744073709551616) : IntKind.u64.wrap (x : Int) = x := by
  rw [show IntKind.u64.wrap (x : Int) = (x : Int) % 18446744073709551616 by simp [IntKind.wrap, IntKind.bits, IntKind.signed]]
  omega
theorem madeGo_step {u : Nat} {l : List Seg} (h : 0 < u % 5) : madeGo u l = if 12 < (textV (l ++ sfx (u / 5 % 7))).length then l ++ sfx (u / 5 % 7) else madeGo (u / 35) (l ++ sfx (u / 5 % 7)) := by
  conv => lhs; unfold madeGo
  rw [if_pos h]
theorem madeGo_stop {u : Nat} {l : List Seg} (h : ¬ 0 < u % 5) : madeGo u l = l := by
  unfold madeGo; rw [if_neg h]
theorem sfx_app {l : List Seg} {k : Nat} (hl : l ≠ []) (hk : k < 7) : ∃ y, sfxT[k]? = some y ∧ textV (l ++ sfx k) = textV l ++ y ∧ y.length ≤ 4 := by
  refine ⟨_, sfx_text hk, textV_app hl, (sfx_len k).2.2.2⟩
theorem ba_app (a b : List UInt8) : ({ data := a.toArray } : ByteArray) ++ { data := b.toArray } = { data := (a ++ b).toArray } := by
  apply ByteArray.ext
  simp [ByteArray.data_append]
theorem Made_spec (n : Int) (h0 : -9223372036854775808 ≤ n) (h1 : n ≤ 9223372036854775807) : PCall Tryz.prog 9 [dI n] fun r => r = dS (textV (madeV (un n))) := by 
  refine pcall_of Tryz.func9 rfl rfl Tryz.ntmps9 (rs := [.tmp 2]) (tys := [9]) rfl rfl (by simp) ?_
  have hw := un_wrap n
  have hu := un_lt n
  unfold madeV
  generalize un n = u at *
  have h4 : ((u : Int)).tmod 4 = ((u % 4 : Nat) : Int) := (Int.ofNat_tmod u 4).symm
  have h4q : ((u : Int)).tdiv 4 = ((u / 4 : Nat) : Int) := (Int.ofNat_tdiv u 4).symm
  have et : textV [([], ((u % 4 : Nat) : Int))] = Lib.itoa ((u % 4 : Nat) : Int) := by simp [textV, Lib.join_one, segT]
  have hk : u % 4 < 4 := Nat.mod_lt _ (by decide)
  have hq : u / 4 < 18446744073709551616 := by omega
  have hts : (textV [([], ((u % 4 : Nat) : Int))]).length ≤ 12 := by
    have hk' : u % 4 = 0 ∨ u % 4 = 1 ∨ u % 4 = 2 ∨ u % 4 = 3 := by omega
    rcases hk' with h | h | h | h <;> simp [h, textV, Lib.join_one, segT, itoa_0, itoa_1, itoa_2, itoa_3]
  generalize u % 4 = r4 at *
  generalize u / 4 = v0 at *
  have I1 := itoa_spec (r4 : Int) (by omega) (by omega)
  rw [← et] at I1
  generalize hl0 : ([([], (r4 : Int))] : List Seg) = l0 at *
  have hne : l0 ≠ [] := by rw [← hl0]; simp
  generalize hres : madeGo v0 l0 = res at *
  (refine awp_sr fun KK hKK => ?_; simp [go_sem]; ((repeat' (first|(refine ag_x ?_;simp [go_sem])|intro _|refine And.intro ?_ ?_|(apply hKK;clear hKK KK)));all_goals first|refine Hold.mk ?_|omega|with_reducible assumption|(simp only [InR] at *;omega)|skip))
  (refine awp_sr fun KK hKK => ?_; simp [go_sem, hw]; ((repeat' (first|(refine ag_x ?_;simp [go_sem, hw])|intro _|refine And.intro ?_ ?_|(apply hKK;clear hKK KK)));all_goals first|refine Hold.mk ?_|omega|with_reducible assumption|(simp only [InR] at *;omega)|skip))
  (refine awp_sr fun KK hKK => ?_; simp [go_sem, hw, h4]; ((repeat' (first|(refine ag_x ?_;simp [go_sem, hw, h4])|intro _|refine And.intro ?_ ?_|(apply hKK;clear hKK KK)));all_goals first|refine Hold.mk ?_|omega|with_reducible assumption|(simp only [InR] at *;omega)|skip))
  ((try refine CallT.toA ?_); refine callT_m (by first | exact .inl ⟨rfl, rfl⟩ | exact .inr rfl) (by simp [go_sem]) ?_; intro args ha; simp [go_sem] at ha; subst ha; refine ⟨_, I1, ?_⟩; rintro _ rfl; simp [go_sem]; ((repeat' (first|(refine ag_x ?_;simp [go_sem])|intro _|refine And.intro ?_ ?_|(apply hKK;clear hKK KK)));all_goals first|refine Hold.mk ?_|omega|with_reducible assumption|(simp only [InR] at *;omega)|skip))
  have hwv := wrapN hq
  (refine awp_sr fun KK hKK => ?_; simp [go_sem, h4q, hwv]; ((repeat' (first|(refine ag_x ?_;simp [go_sem, h4q, hwv])|intro _|refine And.intro ?_ ?_|(apply hKK;clear hKK KK)));all_goals first|refine Hold.mk ?_|omega|with_reducible assumption|(simp only [InR] at *;omega)|skip))
  refine awp_seq_k fun K1 hK1 => ?_
  have tl1 : ∀ S', Cov S' ⟨[(4, dS (textV res))], []⟩ → K1 S' := fun S' hS => by
    refine hK1 _ ?_
    refine awp_cov hS ?_; clear hS
    (refine awp_sr fun KK hKK => ?_; simp [go_sem]; ((repeat' (first|(refine ag_x ?_;simp [go_sem])|intro _|refine And.intro ?_ ?_|(apply hKK;clear hKK KK)));all_goals first|refine Hold.mk ?_|omega|with_reducible assumption|(simp only [InR] at *;omega)|skip))
    (refine awp_ret ?_; simp [go_sem])
  refine awp_block ?_
  refine awp_loop (σ := Nat × List Seg) (fun x => ⟨[(3, dU x.1), (4, dS (textV x.2))], []⟩) (fun x => x.1 < 18446744073709551616 ∧ x.2 ≠ [] ∧ (textV x.2).length ≤ 12 ∧ madeGo x.1 x.2 = res) (fun x => x.1) (v0, l0) ?_ ?_ ?_
  · (refine cov_of ?_ ?_ <;> simp [go_sem])
  · exact ⟨hq, hne, hts, hres⟩
  rintro ⟨w, l⟩ ⟨hwb, hln, hlt, hm⟩
  simp only at hwb hln hlt hm
  have m5 : ((w : Int)).tmod 5 = ((w % 5 : Nat) : Int) := (Int.ofNat_tmod w 5).symm
  have d5 : ((w : Int)).tdiv 5 = ((w / 5 : Nat) : Int) := (Int.ofNat_tdiv w 5).symm
  have m7 : (((w / 5 : Nat) : Int)).tmod 7 = ((w / 5 % 7 : Nat) : Int) := (Int.ofNat_tmod _ 7).symm
  have d35 : ((w : Int)).tdiv 35 = ((w / 35 : Nat) : Int) := (Int.ofNat_tdiv w 35).symm
  have hst := @madeGo_step w l
  have hsp := @madeGo_stop w l
  have hk7 : w / 5 % 7 < 7 := Nat.mod_lt _ (by decide)
  have hb35 : w / 35 < 18446744073709551616 := by omega
  have hdec : 0 < w % 5 → w / 35 < w := by omega
  have hb5 : w / 5 < 18446744073709551616 := by omega
  have hw5 : w % 5 < 5 := by omega
  obtain ⟨y, hy, hyt, hyl⟩ := sfx_app hln hk7
  generalize w % 5 = w5 at *
  generalize w / 5 % 7 = k at *
  generalize w / 35 = w35 at *
  generalize w / 5 = wq at *
  have hrow : ([[dS [46, 48]], [dS [46, 49]], [dS [46, 50]], [dS [46, 97]], [dS [46, 98]], [dS [46, 49, 48]], [dS [46, 48, 46, 48]]] : List (List D))[k]? = some [dS y] := by
    have : (sfxT.map cS)[k]? = some (cS y) := by rw [List.getElem?_map, hy]; rfl
    exact this
  refine awp_seq_k fun K2 hK2 => ?_
  (refine awp_sr fun KK hKK => ?_; simp [go_sem, m5]; ((repeat' (first|(refine ag_x ?_;simp [go_sem, m5])|intro _|refine And.intro ?_ ?_|(apply hKK;clear hKK KK)));all_goals first|refine Hold.mk ?_|omega|with_reducible assumption|(simp only [InR] at *;omega)|skip))
  (refine awp_if fun T F hT hF => ?_; simp [go_sem]; refine BR.intro (fun h3 => hT ?_) (fun h3 => hF ?_); all_goals clear hT hF T F; try simp at h3) 
  · refine awp_skip ?_
    refine hK2 _ ?_; clear hK2
    refine awp_block ?_
    have w1 := wrapN hb5
    have w2 := wrapN hb35
    (refine awp_sr fun KK hKK => ?_; simp [go_sem, d5, w1, m7, hrow]; ((repeat' (first|(refine ag_x ?_;simp [go_sem, d5, w1, m7, hrow])|intro _|refine And.intro ?_ ?_|(apply hKK;clear hKK KK)));all_goals first|refine Hold.mk ?_|omega|with_reducible assumption|(simp only [InR] at *;omega)|skip))
    (refine awp_sr fun KK hKK => ?_; simp [go_sem, d35, w2]; ((repeat' (first|(refine ag_x ?_;simp [go_sem, d35, w2])|intro _|refine And.intro ?_ ?_|(apply hKK;clear hKK KK)));all_goals first|refine Hold.mk ?_|omega|with_reducible assumption|(simp only [InR] at *;omega)|skip))
    (refine awp_sr fun KK hKK => ?_; simp [go_sem]; ((repeat' (first|(refine ag_x ?_;simp [go_sem])|intro _|refine And.intro ?_ ?_|(apply hKK;clear hKK KK)));all_goals first|refine Hold.mk ?_|omega|with_reducible assumption|(simp only [InR] at *;omega)|skip))
    (refine awp_if fun T F hT hF => ?_; simp [go_sem]; refine BR.intro (fun h4 => hT ?_) (fun h4 => hF ?_); all_goals clear hT hF T F; try simp at h4) 
    · refine awp_exit ?_
      simp only [go_sem]
      refine tl1 _ ?_
      have hm' := hst (by omega)
      rw [hm, if_pos (by rw [hyt]; simp; omega)] at hm'
      rw [hm', hyt]
      (refine cov_of ?_ ?_ <;> simp [go_sem, ba_app])
    · refine awp_skip ?_
      have hlen : (textV (l ++ sfx k)).length ≤ 12 := by rw [hyt]; simp; omega
      have hm' := hst (by omega)
      rw [hm, if_neg (by omega)] at hm'
      refine ⟨(w35, l ++ sfx k), ?_, ⟨hb35, by simp [hln], hlen, hm'.symm⟩, hdec (by omega)⟩
      simp only [hyt]
      (refine cov_of ?_ ?_ <;> simp [go_sem, ba_app])
  · refine awp_exit ?_
    simp only [go_sem]
    refine tl1 _ ?_
    rw [hsp (by omega)] at hm
    rw [← hm]
    (refine cov_of ?_ ?_ <;> simp [go_sem])
end Go.Proofs.YtjdccagkafnbfaaGreatDoor

namespace Go.Proofs.YtjdccagkafnbfaaGreatDoor
open Go.Eng Go.Wh Go.Ver
set_option maxRecDepth 20000
set_option linter.unusedSimpArgs false
set_option linter.unusedVariables false
attribute [local irreducible] AG CallA CallT AWp PCall ACall AgC
def comma (i : Nat) : List UInt8 := if 0 < i then [44, 32] else []
/-- the text of the first i conditions -/
def askT (l : List Int) (i : Nat) : List UInt8 := textR ((askV (l.map un)).take i)
theorem askT_succ {l : List Int} {i : Nat} {n : Int} (h : l[i]? = some n) (h4 : i < 4) : ∃ o, opsV[un n % 7]? = some o ∧ askT l (i + 1) = (askT l i ++ comma i ++ o ++ [32]) ++ textV (madeV (un n / 7)) := by
  have hk : un n % 7 < opsV.length := by simp [opsV]; omega
  refine ⟨opsV[un n % 7], List.getElem?_eq_getElem hk, ?_⟩
  have hi : i < l.length := (List.getElem?_eq_some_iff.1 h).1
  have e : (askV (l.map un))[i]? = some (opsV[un n % 7], madeV (un n / 7)) := by
    unfold askV
    rw [List.getElem?_map, List.getElem?_take, if_pos h4, List.getElem?_map, h]
    simp [List.getElem?_eq_getElem hk]
  unfold askT
  rw [List.take_add_one, e]
  have hlen : ((askV (l.map un)).take i).length = i := by
    have := (List.getElem?_eq_some_iff.1 e).1
    simp; omega
  generalize (askV (l.map un)).take i = a at *
  unfold comma
  by_cases h0 : 0 < i
  · rw [if_pos h0]
    have ha : a ≠ [] := by intro q; subst q; simp at hlen; omega
    show textR (a ++ [(opsV[un n % 7], madeV (un n / 7))]) = _
    rw [textR_app ha (by simp)]
    simp [textR, Lib.join_one, textC]
  · rw [if_neg h0]
    have ha : a = [] := List.eq_nil_of_length_eq_zero (by omega)
    subst ha
    simp [textR, Lib.join_one, Lib.join_nil, textC]
theorem askT_all {l : List Int} {i : Nat} (h : ¬ (i < l.length ∧ i < 4)) : askT l i = textR (askV (l.map un)) := by
  unfold askT
  rw [List.take_of_length_le]
  unfold askV
  simp; omega
theorem un_nat {x : Nat} (h : x < 18446744073709551616) : un (x : Int) = x := by unfold un; omega
theorem wrapI {x : Nat} (h : x < 9223372036854775808) : IntKind.i64.wrap (x : Int) = x := by
  simp [IntKind.wrap, IntKind.bits, IntKind.signed]
  omega
theorem Asked_spec (l : List Int) (hl : l.length ≤ 9223372036854775807) (hr : ∀ n ∈ l, -9223372036854775808 ≤ n ∧ n ≤ 9223372036854775807) : PCall Tryz.prog 15 [dIs l] fun r => r = dS (textR (askV (l.map un))) := by 
  refine pcall_of Tryz.func15 rfl rfl Tryz.ntmps15 (rs := [.tmp 2]) (tys := [9]) rfl rfl (by simp) ?_
  have hall := fun i => @askT_all l i
  have z : askT l 0 = [] := by unfold askT; simp [textR, Lib.join_nil]
  generalize textR (askV (l.map un)) = res at *
  (refine awp_sr fun KK hKK => ?_; simp [go_sem]; ((repeat' (first|(refine ag_x ?_;simp [go_sem])|intro _|refine And.intro ?_ ?_|(apply hKK;clear hKK KK)));all_goals first|refine Hold.mk ?_|omega|with_reducible assumption|(simp only [InR] at *;omega)|skip))
  (refine awp_sr fun KK hKK => ?_; simp [go_sem]; ((repeat' (first|(refine ag_x ?_;simp [go_sem])|intro _|refine And.intro ?_ ?_|(apply hKK;clear hKK KK)));all_goals first|refine Hold.mk ?_|omega|with_reducible assumption|(simp only [InR] at *;omega)|skip))
  refine awp_seq_k fun K1 hK1 => ?_
  (refine awp_sr fun KK hKK => ?_; simp [go_sem]; ((repeat' (first|(refine ag_x ?_;simp [go_sem])|intro _|refine And.intro ?_ ?_|(apply hKK;clear hKK KK)));all_goals first|refine Hold.mk ?_|omega|with_reducible assumption|(simp only [InR] at *;omega)|skip))
  refine awp_block ?_
  refine awp_loop (σ := Nat) (fun i => ⟨[(0, dIs l), (3, dS (askT l i)), (4, dI i)], []⟩) (fun i => i ≤ l.length ∧ i ≤ 4 ∧ (askT l i).length ≤ 21 * i) (fun i => l.length - i) 0 ?_ ?_ ?_
  · (refine cov_of ?_ ?_ <;> simp [go_sem, z])
  · exact ⟨by omega, by omega, by rw [z]; simp⟩
  rintro i ⟨hi, hi4, hil⟩
  refine awp_seq_k fun K2 hK2 => ?_
  (refine awp_sr fun KK hKK => ?_; simp [go_sem]; ((repeat' (first|(refine ag_x ?_;simp [go_sem])|intro _|refine And.intro ?_ ?_|(apply hKK;clear hKK KK)));all_goals first|refine Hold.mk ?_|omega|with_reducible assumption|(simp only [InR] at *;omega)|skip))
  (refine awp_if fun T F hT hF => ?_; simp [go_sem]; refine BR.intro (fun h3 => hT ?_) (fun h3 => hF ?_); all_goals clear hT hF T F; try simp at h3) 
  · refine awp_skip ?_
    refine hK2 _ ?_; clear hK2
    obtain ⟨n, hn⟩ : ∃ n, l[i]? = some n := ⟨_, List.getElem?_eq_getElem (by omega)⟩
    have hnr := hr n (List.mem_of_getElem? hn)
    obtain ⟨o, ho, hs⟩ := askT_succ hn (by omega)
    have hol : o.length ≤ 2 := by
      have := List.mem_of_getElem? ho
      simp [opsV] at this
      rcases this with h | h | h | h | h | h | h <;> rw [h] <;> simp
    have htm := (madeV_ok (un n / 7)).2.1
    have hcm : (comma i).length ≤ 2 := by unfold comma; split <;> simp
    have hsl : (askT l i ++ comma i).length ≤ 21 * i + 2 := by simp; omega
    have hul := un_lt n
    have M := Made_spec ((un n / 7 : Nat) : Int) (by omega) (by omega)
    rw [un_nat (by omega)] at M
    have hw := un_wrap n
    have hk7 : un n % 7 < 7 := Nat.mod_lt _ (by decide)
    have hd7 : un n / 7 < 9223372036854775808 := by omega
    have m7 : ((un n : Int)).tmod 7 = ((un n % 7 : Nat) : Int) := (Int.ofNat_tmod _ 7).symm
    have d7 : ((un n : Int)).tdiv 7 = ((un n / 7 : Nat) : Int) := (Int.ofNat_tdiv _ 7).symm
    generalize un n % 7 = k at *
    generalize un n / 7 = q at *
    generalize un n = u at *
    have w1 := wrapI hd7
    have w2 := wrapN (x := q) (by omega)
    have hrow : ([[dS [61]], [dS [33, 61]], [dS [62]], [dS [60]], [dS [62, 61]], [dS [60, 61]], [dS [126, 62]]] : List (List D))[k]? = some [dS o] := by
      have : (opsV.map cS)[k]? = some (cS o) := by rw [List.getElem?_map, ho]; rfl
      exact this
    refine awp_seq_k fun K4 hK4 => ?_
    refine awp_block ?_
    refine awp_seq_k fun K5 hK5 => ?_
    have tl5 : ∀ S', Cov S' ⟨[(0, dIs l), (3, dS (askT l i ++ comma i)), (4, dI i)], []⟩ → K5 S' := fun S' hS => by
      refine hK5 _ ?_
      refine awp_cov hS ?_; clear hS
      generalize askT l i ++ comma i = s at *
      generalize hs' : askT l (i + 1) = s' at *
      generalize textV (madeV q) = tm at *
      ((refine awp_d (.qs [0, 2, 3, 4, 12, 13, 14, 5, 6, 7, 15, 16, 17, 18] (.kp2 1 (.qs [8] (.nb (.qs [9, 10, 11] (.kp 19 (.qs [20, 21] (.nil)))))) 19 (.kp 1 (.qs [8] (.nb (.qs [9, 10, 11, 20, 21] (.nil))))))) (by kernel_rfl) ?_ ?_ ?_ ?_); (kernel_rfl); (exact (by decide +kernel)); (kernel_rfl); intro KK hKK; ((repeat' (first|(refine ag_x ?_;simp [go_sem, hn, hw, m7, d7, w1, w2, hrow])|refine adr_nil ?_|refine adr_two ?_ ?_|refine adr_kq ?_ ?_|refine adr_three ?_ ?_ ?_|refine adr_four ?_ ?_ ?_ ?_|refine adr_kp2 ?_ ?_|refine adr_kp3 ?_ ?_ ?_|((first|refine adr_qs fun KK hKK=>?_|refine adr_y fun KK hKK=>?_);simp [go_sem, hn, hw, m7, d7, w1, w2, hrow])|intro _|refine And.intro ?_ ?_|(apply hKK;clear hKK KK)));all_goals first|refine Hold.mk ?_|omega|with_reducible assumption|(simp only [InR] at *;omega)|skip))
      all_goals
        ((try refine CallT.toA ?_); refine callT_m (by first | exact .inl ⟨rfl, rfl⟩ | exact .inr rfl) (by simp [go_sem]) ?_; intro args ha; simp [go_sem] at ha; subst ha; refine ⟨_, M, ?_⟩; rintro _ rfl; simp [go_sem, hrow]; ((repeat' (first|(refine ag_x ?_;simp [go_sem, hrow])|refine adr_nil ?_|refine adr_two ?_ ?_|refine adr_kq ?_ ?_|refine adr_three ?_ ?_ ?_|refine adr_four ?_ ?_ ?_ ?_|refine adr_kp2 ?_ ?_|refine adr_kp3 ?_ ?_ ?_|((first|refine adr_qs fun KK hKK=>?_|refine adr_y fun KK hKK=>?_);simp [go_sem, hrow])|intro _|refine And.intro ?_ ?_|(apply hKK;clear hKK KK)));all_goals first|refine Hold.mk ?_|omega|with_reducible assumption|(simp only [InR] at *;omega)|skip))
        refine hK4 _ ?_
        (refine awp_r fun KK hKK => ?_; simp [go_sem]; ((repeat' (first|(refine ag_x ?_;simp [go_sem])|intro _|refine And.intro ?_ ?_|(apply hKK;clear hKK KK)));all_goals first|refine Hold.mk ?_|omega|with_reducible assumption|(simp only [InR] at *;omega)|skip))
        refine ⟨i + 1, ?_, ⟨by omega, by omega, by rw [hs', hs]; simp; omega⟩, by omega⟩
        rw [hs', hs]
        (refine cov_of ?_ ?_ <;> simp [go_sem, ba_app])
    clear hK5
    (refine awp_sr fun KK hKK => ?_; simp [go_sem]; ((repeat' (first|(refine ag_x ?_;simp [go_sem])|intro _|refine And.intro ?_ ?_|(apply hKK;clear hKK KK)));all_goals first|refine Hold.mk ?_|omega|with_reducible assumption|(simp only [InR] at *;omega)|skip))
    (refine awp_if fun T F hT hF => ?_; simp [go_sem]; refine BR.intro (fun h6 => hT ?_) (fun h6 => hF ?_); all_goals clear hT hF T F; try simp at h6) 
    · (refine awp_r fun KK hKK => ?_; simp [go_sem]; ((repeat' (first|(refine ag_x ?_;simp [go_sem])|intro _|refine And.intro ?_ ?_|(apply hKK;clear hKK KK)));all_goals first|refine Hold.mk ?_|omega|with_reducible assumption|(simp only [InR] at *;omega)|skip))
      refine tl5 _ ?_
      have e : comma i = [44, 32] := by unfold comma; rw [if_pos (by omega)]
      rw [e]
      (refine cov_of ?_ ?_ <;> simp [go_sem, ba_app])
    · refine awp_skip ?_
      refine tl5 _ ?_
      have e : comma i = [] := by unfold comma; rw [if_neg (by omega)]
      rw [e, List.append_nil]
      (refine cov_of ?_ ?_ <;> simp [go_sem])
  · refine awp_exit ?_
    simp only [go_sem]
    refine hK1 _ ?_; clear hK1
    (refine awp_sr fun KK hKK => ?_; simp [go_sem]; ((repeat' (first|(refine ag_x ?_;simp [go_sem])|intro _|refine And.intro ?_ ?_|(apply hKK;clear hKK KK)));all_goals first|refine Hold.mk ?_|omega|with_reducible assumption|(simp only [InR] at *;omega)|skip))
    (refine awp_ret ?_; simp [go_sem])
    rw [hall i (by omega)]
end Go.Proofs.YtjdccagkafnbfaaGreatDoor

namespace Go.Proofs.YtjdccagkafnbfaaGreatDoor
open Go.Eng Go.Wh Go.Ver
set_option maxRecDepth 20000
set_option linter.unusedSimpArgs false
set_option linter.unusedVariables false
attribute [local irreducible] AG CallA CallT AWp PCall ACall AgC
theorem compareP_of {v w : List UInt8} {a b : List Seg} (h : readV v = some a) (k : readV w = some b) : compareP v w = cmpV a b ∧ codeP ((readV v).isSome && (readV w).isSome) = 0 := by
  unfold compareP codeP; rw [readP_of h, readP_of k, h, k]; exact ⟨rfl, rfl⟩
theorem Compare_of {v w : List UInt8} {a b : List Seg} (h : readV v = some a) (k : readV w = some b) (hv : v.length ≤ 1000000) (hw : w.length ≤ 1000000) : PCall Tryz.prog 11 [dS v, dS w] fun r => r = .tup [dI (cmpV a b), dI 0] := by
  have := Compare_spec v w hv hw
  rw [(compareP_of h k).1, (compareP_of h k).2] at this
  exact this
end Go.Proofs.YtjdccagkafnbfaaGreatDoor

namespace Go.Proofs.YtjdccagkafnbfaaGreatDoor
open Go.Eng Go.Wh Go.Ver
set_option maxRecDepth 20000
set_option linter.unusedSimpArgs false
set_option linter.unusedVariables false
attribute [local irreducible] AG CallA CallT AWp PCall ACall AgC
end Go.Proofs.YtjdccagkafnbfaaGreatDoor
