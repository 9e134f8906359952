/- Part of a proof: see the last text. -/
import Derived.Test.YtglncfhcgkihbaaGreatDoorWB
import Derived.Shelf.Strings.SlTrimAscii
set_option linter.unusedVariables false
set_option linter.unusedSimpArgs false
namespace Go.Proofs.YtglncfhcgkihbaaGreatDoor
open Go.Eng Go.Wh
set_option maxRecDepth 20000
set_option linter.unusedSimpArgs false
set_option linter.unusedVariables false
attribute [local irreducible] AG CallA CallT AWp PCall ACall AgC
@[go_sem] abbrev cB (b : UInt8) : List D := [.v (.int .u8 b.toNat)]
def RevI (l : List UInt8) (i : Nat) (m : List UInt8) : Prop := m.length = l.length ∧ ∀ k, k < l.length → m[k]? = if k < i ∨ l.length - i ≤ k then l[l.length - 1 - k]? else l[k]?
theorem rev_init (l : List UInt8) : RevI l 0 l := ⟨rfl, fun k hk => by rw [if_neg (by omega)]⟩
theorem rev_step {l m : List UInt8} {i j : Nat} {x y : UInt8} (h : RevI l i m) (hij : i < j) (hj : j + 1 + i = l.length) (hx : m[i]? = some x) (hy : m[j]? = some y) : RevI l (i + 1) ((m.set i y).set j x) := by
  obtain ⟨h1, h2⟩ := h
  refine ⟨by simp [h1], fun k hk => ?_⟩
  have hi2 := h2 i (by omega)
  have hj2 := h2 j (by omega)
  rw [if_neg (by omega)] at hi2 hj2
  by_cases e1 : k = j
  · subst e1
    rw [List.getElem?_set_self (by simp; omega), if_pos (by omega), show l.length - 1 - k = i by omega, ← hi2, hx]
  · rw [List.getElem?_set_ne (by omega)]
    by_cases e2 : k = i
    · subst e2
      rw [List.getElem?_set_self (by omega), if_pos (by omega), show l.length - 1 - k = j by omega, ← hj2, hy]
    · rw [List.getElem?_set_ne (by omega), h2 k hk]
      by_cases c : k < i ∨ l.length - i ≤ k
      · rw [if_pos c, if_pos (by omega)]
      · rw [if_neg c, if_neg (by omega)]
theorem rev_done {l m : List UInt8} {i : Nat} (h : RevI l i m) (hi : l.length ≤ 2 * i + 1) : m = l.reverse := by
  obtain ⟨h1, h2⟩ := h
  refine List.ext_getElem? fun k => ?_
  by_cases hk : k < l.length
  · rw [List.getElem?_reverse hk, h2 k hk]
    split
    · rfl
    · congr 1; omega
  · rw [List.getElem?_eq_none (by omega), List.getElem?_eq_none (by simp; omega)]
theorem reverse_spec (g : Nat) (l : List UInt8) (hl : l.length ≤ 1000000) : ACall Tryz.prog 118 [.own 900000 g] [(900000, (g, .row 5 1 (l.map cB)))] [900000] fun ps r => ps = [(g, .row 5 1 (l.reverse.map cB))] ∧ r = .tup [] := by 
  refine acall_of Tryz.func118 rfl rfl Tryz.ntmps118 (rs := []) (tys := []) rfl rfl (by simp) ?_ ?_
  · intro p hp
    simp only [List.mem_cons, List.mem_nil_iff, or_false] at hp
    subst hp; simp [notFroz]
  (refine awp_sr fun KK hKK => ?_; simp [go_sem]; ((repeat' (first|(refine ag_x ?_;simp [go_sem])|intro _|refine And.intro ?_ ?_|(apply hKK;clear hKK KK)));all_goals first|refine Hold.mk ?_|omega|with_reducible assumption|(simp only [InR] at *;omega)|skip))
  refine awp_block ?_
  refine awp_loop (σ := Nat × List UInt8) (fun x => ⟨[(0, .own 900000 g), (2, dI x.1), (3, dI ((l.length : Int) - 1 - x.1))], [(900000, (g, .row 5 1 (x.2.map cB)))]⟩) (fun x => x.1 ≤ l.length ∧ RevI l x.1 x.2) (fun x => l.length - x.1) (0, l) ?_ ?_ ?_
  · (refine cov_of ?_ ?_ <;> simp [go_sem])
  · exact ⟨Nat.zero_le _, rev_init l⟩
  rintro ⟨i, m⟩ ⟨hi, hm⟩
  simp only at hi hm
  have hml := hm.1
  refine awp_seq_k fun K1 hK1 => ?_
  (refine awp_sr fun KK hKK => ?_; simp [go_sem]; ((repeat' (first|(refine ag_x ?_;simp [go_sem])|intro _|refine And.intro ?_ ?_|(apply hKK;clear hKK KK)));all_goals first|refine Hold.mk ?_|omega|with_reducible assumption|(simp only [InR] at *;omega)|skip))
  (refine awp_if fun T F hT hF => ?_; simp [go_sem]; refine BR.intro (fun h2 => hT ?_) (fun h2 => hF ?_); all_goals clear hT hF T F; try simp at h2) 
  · refine awp_skip ?_
    refine hK1 _ ?_; clear hK1
    obtain ⟨j, hj⟩ : ∃ j : Nat, (l.length : Int) - 1 - i = j := ⟨((l.length : Int) - 1 - i).toNat, by omega⟩
    rw [hj]
    obtain ⟨x, hx⟩ : ∃ x, m[i]? = some x := ⟨_, List.getElem?_eq_getElem (by omega)⟩
    obtain ⟨y, hy⟩ : ∃ y, m[j]? = some y := ⟨_, List.getElem?_eq_getElem (by omega)⟩
    have hy2 : ((m.map cB).set i (cB y))[j]? = some (cB y) := by rw [List.getElem?_set_ne (by omega)]; simp [hy]
    have hst := rev_step hm (by omega) (by omega) hx hy
    refine awp_seq_k fun K3 hK3 => ?_
    refine awp_block ?_
    ((refine awp_d (.qs [0, 1, 2, 3, 4, 5, 6, 8, 9, 10, 7, 11, 12] (.one 13 (.qs [14] (.one 15 (.nil))))) (by kernel_rfl) ?_ ?_ ?_ ?_); (kernel_rfl); (exact (by decide +kernel)); (kernel_rfl); intro KK hKK; ((repeat' (first|(refine ag_x ?_;simp [go_sem, hx, hy, hy2])|refine adr_nil ?_|refine adr_two ?_ ?_|refine adr_kq ?_ ?_|refine adr_three ?_ ?_ ?_|refine adr_four ?_ ?_ ?_ ?_|refine adr_kp2 ?_ ?_|refine adr_kp3 ?_ ?_ ?_|((first|refine adr_qs fun KK hKK=>?_|refine adr_y fun KK hKK=>?_);simp [go_sem, hx, hy, hy2])|intro _|refine And.intro ?_ ?_|(apply hKK;clear hKK KK)));all_goals first|refine Hold.mk ?_|omega|with_reducible assumption|(simp only [InR] at *;omega)|skip))
    refine hK3 _ ?_; clear hK3
    (refine awp_r fun KK hKK => ?_; simp [go_sem]; ((repeat' (first|(refine ag_x ?_;simp [go_sem])|intro _|refine And.intro ?_ ?_|(apply hKK;clear hKK KK)));all_goals first|refine Hold.mk ?_|omega|with_reducible assumption|(simp only [InR] at *;omega)|skip))
    refine ⟨(i + 1, (m.set i y).set j x), ?_, ⟨by simp only; omega, hst⟩, by simp only; omega⟩
    (refine cov_of ?_ ?_ <;> simp [go_sem, List.map_set])
    omega
  · refine awp_exit ?_
    simp only [go_sem]
    have e := rev_done hm (by omega)
    subst e
    simp [go_sem]
    trace_state
end Go.Proofs.YtglncfhcgkihbaaGreatDoor

namespace Go.Proofs.YtglncfhcgkihbaaGreatDoor
open Go.Eng Go.Wh
set_option maxRecDepth 20000
set_option linter.unusedSimpArgs false
set_option linter.unusedVariables false
attribute [local irreducible] AG CallA CallT AWp PCall ACall AgC
theorem pow_lt_9 {k n : Nat} (h : 10 ^ k ≤ n) (hn : n < 1000000000) : k < 9 := by
  refine Decidable.byContradiction fun hc => ?_
  have h1 : 10 ^ 9 ≤ 10 ^ k := Nat.pow_le_pow_right (by decide) (by omega)
  have h2 : (10 : Nat) ^ 9 = 1000000000 := by decide
  generalize 10 ^ k = p at *
  omega
theorem div_pos_pow {k n : Nat} (h : 0 < n / 10 ^ k) : 10 ^ k ≤ n := by
  refine Decidable.byContradiction fun hc => ?_
  rw [Nat.div_eq_of_lt (by omega)] at h; omega
theorem byte_int (q : Nat) (hq : q < 10) : (((UInt8.ofNat (48 + q)).toNat : Nat) : Int) = 48 + q := by
  have : (UInt8.ofNat (48 + q)).toNat = 48 + q := by simp; omega
  rw [this]; simp
theorem plain_spec (n least : Nat) (hn : n < 1000000000) (hl : least ≤ 9) : PCall Tryz.prog 86 [dI n, dI least] fun r => ∃ k, r = dS (pad k n) ∧ least ≤ k ∧ n < 10 ^ k ∧ (k ≤ least ∨ 10 ^ (k - 1) ≤ n) := by 
  refine pcall_of Tryz.func86 rfl rfl Tryz.ntmps86 (rs := [.tmp 4]) (tys := [9]) rfl rfl (by simp) ?_
  (refine awp_sr fun KK hKK => ?_; simp [go_sem]; ((repeat' (first|(refine ag_x ?_;simp [go_sem])|intro _|refine And.intro ?_ ?_|(apply hKK;clear hKK KK)));all_goals first|refine Hold.mk ?_|omega|with_reducible assumption|(simp only [InR] at *;omega)|skip))
  (refine awp_sr fun KK hKK => ?_; simp [go_sem]; ((repeat' (first|(refine ag_x ?_;simp [go_sem])|intro _|refine And.intro ?_ ?_|(apply hKK;clear hKK KK)));all_goals first|refine Hold.mk ?_|omega|with_reducible assumption|(simp only [InR] at *;omega)|skip))
  refine awp_nilslot 5 900000 5 1 rfl fun g5 => ?_
  simp only [go_sem]
  refine awp_seq_k fun K1 hK1 => ?_
  refine awp_block ?_
  refine awp_loop (σ := Nat × Nat × Nat) (fun x => ⟨[(0, dI x.2.1), (1, dI least), (5, .own 900000 x.2.2)], [(900000, x.2.2, .row 5 1 ((pad x.1 n).reverse.map cB))]⟩) (fun x => x.2.1 = n / 10 ^ x.1 ∧ x.1 ≤ 9 ∧ (x.1 ≤ least ∨ 10 ^ (x.1 - 1) ≤ n)) (fun x => x.2.1 + (least - x.1)) (0, n, g5) ?_ ?_ ?_
  · (refine cov_of ?_ ?_ <;> simp [go_sem, pad])
  · simp
  rintro ⟨k, m, g⟩ ⟨hm, hk, hd⟩
  simp only at hm hk hd
  have hpl := pad_len k n
  have hml : m ≤ n := by rw [hm]; exact Nat.div_le_self _ _
  refine awp_seq_k fun K2 hK2 => ?_
  (refine awp_sr fun KK hKK => ?_; simp [go_sem, hpl]; ((repeat' (first|(refine ag_x ?_;simp [go_sem, hpl])|intro _|refine And.intro ?_ ?_|(apply hKK;clear hKK KK)));all_goals first|refine Hold.mk ?_|omega|with_reducible assumption|(simp only [InR] at *;omega)|skip))
  (refine awp_if fun T F hT hF => ?_; simp [go_sem]; refine BR.intro (fun h3 => hT ?_) (fun h3 => hF ?_); all_goals clear hT hF T F; try simp at h3) 
  · refine awp_skip ?_
    refine hK2 _ ?_; clear hK2
    obtain ⟨m1, m2, m3, m4, m5, m6⟩ := div_mod_of (B := 10) (n := (m : Int)) (by decide) (by omega)
    have m4 : (m : Int) % 10 < 10 := m4
    refine awp_seq_k fun K4 hK4 => ?_
    refine awp_block ?_
    (refine awp_r fun KK hKK => ?_; simp [go_sem, m1]; ((repeat' (first|(refine ag_x ?_;simp [go_sem, m1])|intro _|refine And.intro ?_ ?_|(apply hKK;clear hKK KK)));all_goals first|refine Hold.mk ?_|omega|with_reducible assumption|(simp only [InR] at *;omega)|skip))
    have ew : IntKind.u8.wrap (48 + (m : Int) % 10) = ((UInt8.ofNat (48 + m % 10)).toNat : Int) := by
      rw [show IntKind.u8.wrap (48 + (m : Int) % 10) = (48 + (m : Int) % 10) % 256 by simp [IntKind.wrap, IntKind.bits, IntKind.signed], byte_int _ (Nat.mod_lt _ (by decide))]
      omega
    have ep : pad (k + 1) n = UInt8.ofNat (48 + m % 10) :: pad k n := by rw [pad_front, ← hm]
    have hd2 : n / 10 ^ (k + 1) = m / 10 := by rw [Nat.pow_succ, ← Nat.div_div_eq_div_mul, ← hm]
    rename_i g7
    refine hK4 _ ?_; clear hK4
    (refine awp_r fun KK hKK => ?_; simp [go_sem, m2]; ((repeat' (first|(refine ag_x ?_;simp [go_sem, m2])|intro _|refine And.intro ?_ ?_|(apply hKK;clear hKK KK)));all_goals first|refine Hold.mk ?_|omega|with_reducible assumption|(simp only [InR] at *;omega)|skip))
    refine ⟨(k + 1, m / 10, g7), ?_, ⟨hd2.symm, ?_, ?_⟩, ?_⟩
    · simp only [ep]
      generalize UInt8.ofNat (48 + m % 10) = bb at *
      (refine cov_of ?_ ?_ <;> simp [go_sem, ew])
    · simp only
      rcases h3 with h3 | h3
      · have := pow_lt_9 (div_pos_pow (k := k) (by omega)) hn; omega
      · omega
    · show k + 1 ≤ least ∨ 10 ^ k ≤ n
      rcases h3 with h3 | h3
      · exact .inr (div_pos_pow (by omega))
      · exact .inl h3
    · simp only; omega
  · refine awp_exit ?_
    simp only [go_sem]
    refine hK1 _ ?_; clear hK1
    have hm0 : n < 10 ^ k := by
      refine Decidable.byContradiction fun hc => ?_
      have := (Nat.le_div_iff_mul_le (x := 1) (k := 10 ^ k) (Nat.pow_pos (by decide))).2 (by omega : 1 * 10 ^ k ≤ n)
      omega
    (refine awp_sr fun KK hKK => ?_; simp [go_sem]; ((repeat' (first|(refine ag_x ?_;simp [go_sem])|intro _|refine And.intro ?_ ?_|(apply hKK;clear hKK KK)));all_goals first|refine Hold.mk ?_|omega|with_reducible assumption|(simp only [InR] at *;omega)|skip))
    (refine callA_l [900000] (by first | exact .inl ⟨rfl, rfl⟩ | exact .inr rfl) (by simp [go_sem]) ?_; intro args ha; simp [go_sem] at ha; subst ha; refine ⟨_, _, (reverse_spec g (pad k n).reverse (by simp [hpl]; omega)), (by simp [go_sem]), ?_⟩; rintro ps r hps ⟨rfl, rfl⟩; simp [go_sem]; ((repeat' (first|(refine ag_x ?_;simp [go_sem])|intro _|refine And.intro ?_ ?_|(apply hKK;clear hKK KK)));all_goals first|refine Hold.mk ?_|omega|with_reducible assumption|(simp only [InR] at *;omega)|skip))
    (refine awp_sr fun KK hKK => ?_; simp [go_sem]; ((repeat' (first|(refine ag_x ?_;simp [go_sem])|intro _|refine And.intro ?_ ?_|(apply hKK;clear hKK KK)));all_goals first|refine Hold.mk ?_|omega|with_reducible assumption|(simp only [InR] at *;omega)|skip))
    (refine awp_ret ?_; simp [go_sem])
    exact ⟨k, rfl, h3.2, hm0, hd⟩
theorem plain1 (n : Nat) (hn : n < 1000000000) : PCall Tryz.prog 86 [dI n, dI 1] fun r => r = dS (Lib.decDigits n) := by
  refine (plain_spec n 1 hn (by decide)).mono ?_
  rintro r ⟨k, rfl, h1, h2, h3⟩
  congr 4
  obtain ⟨j, rfl⟩ : ∃ j, k = j + 1 := ⟨k - 1, by omega⟩
  rcases h3 with h3 | h3
  · have : j = 0 := by omega
    subst this
    rw [Lib.decDigits, dif_pos (by simpa using h2)]
    have : n % 10 = n := Nat.mod_eq_of_lt (by simpa using h2)
    simp [pad, this]
  · exact pad_dec h3 h2
theorem plain9 (n : Nat) (hn : n < 1000000000) : PCall Tryz.prog 86 [dI n, dI 9] fun r => r = dS (pad 9 n) := by
  refine (plain_spec n 9 hn (by decide)).mono ?_
  rintro r ⟨k, rfl, h1, h2, h3⟩
  have : k = 9 := by
    rcases h3 with h3 | h3
    · omega
    · have := pow_lt_9 h3 hn; omega
  rw [this]
end Go.Proofs.YtglncfhcgkihbaaGreatDoor

namespace Go.Proofs.YtglncfhcgkihbaaGreatDoor
open Go.Eng Go.Wh
set_option maxRecDepth 20000
set_option linter.unusedSimpArgs false
set_option linter.unusedVariables false
attribute [local irreducible] AG CallA CallT AWp PCall ACall AgC
theorem dec_len9 {n : Nat} (h : n < 1000000000) : (Lib.decDigits n).length ≤ 9 := by
  by_cases h0 : n = 0
  · subst h0; have := dlen_zero; unfold dlen at this; simp at this; omega
  · have e := dlen_dg (n := (n : Int)) (by omega)
    unfold dlen at e
    rw [Int.natAbs_natCast] at e
    rw [e]
    exact dg_len_le (B := 10) (by decide) (k := 9) (by simpa using h)
theorem itoa_abs (n : Int) : Lib.itoa n = (if n < 0 then [45] else []) ++ Lib.decDigits n.natAbs := by
  unfold Lib.itoa
  split
  · rfl
  · rw [show n.toNat = n.natAbs by omega]; rfl
theorem text_spec (n : Int) (hn : sz U n ≤ 1000000) : PCall Tryz.prog 43 [dBig n] fun r => r = dS (Lib.itoa n) := by 
  refine pcall_of Tryz.func43 rfl rfl Tryz.ntmps43 (rs := [.tmp 2]) (tys := [9]) rfl rfl (by simp) ?_
  have hn : (dg U n.natAbs).length ≤ 1000000 := hn
  have eit := itoa_abs n
  by_cases hN : n.natAbs = 0
  · have : n = 0 := by omega
    subst this
    (refine awp_sr fun KK hKK => ?_; simp [go_sem]; ((repeat' (first|(refine ag_x ?_;simp [go_sem])|intro _|refine And.intro ?_ ?_|(apply hKK;clear hKK KK)));all_goals first|refine Hold.mk ?_|omega|with_reducible assumption|(simp only [InR] at *;omega)|skip))
    refine awp_seq_k fun K1 hK1 => ?_
    rw [dg_zero]
    (refine awp_sr fun KK hKK => ?_; simp [go_sem]; ((repeat' (first|(refine ag_x ?_;simp [go_sem])|intro _|refine And.intro ?_ ?_|(apply hKK;clear hKK KK)));all_goals first|refine Hold.mk ?_|omega|with_reducible assumption|(simp only [InR] at *;omega)|skip))
    (refine awp_if fun T F hT hF => ?_; simp [go_sem]; refine hT ?_; clear hT hF T F)
    (refine awp_sr fun KK hKK => ?_; simp [go_sem]; ((repeat' (first|(refine ag_x ?_;simp [go_sem])|intro _|refine And.intro ?_ ?_|(apply hKK;clear hKK KK)));all_goals first|refine Hold.mk ?_|omega|with_reducible assumption|(simp only [InR] at *;omega)|skip))
    (refine awp_ret ?_; simp [go_sem])
    rw [eit]
    simp [Lib.decDigits]
  · obtain ⟨l, d, hL, hd0, hd1⟩ := dg_top (B := U) (by decide) hN
    have hd1 : d < 1000000000 := hd1
    generalize hL' : dg U n.natAbs = L at hn hL
    have hvL : (val U L).toNat = n.natAbs := by rw [← hL', vU]; rfl
    have hll : L.length = l.length + 1 := by rw [hL]; simp
    obtain ⟨dn, hdn⟩ : ∃ k : Nat, d = k := ⟨d.toNat, by omega⟩
    have htop : L[l.length]? = some (dn : Int) := by rw [hL, ← hdn]; simp
    have htop2 : ∀ h : l.length < L.length, L[l.length]'h = (dn : Int) := fun h => by
      have := htop; rw [List.getElem?_eq_getElem h] at this; exact Option.some.inj this
    have hdrop : L.drop l.length = [d] := by rw [hL]; simp
    (refine awp_sr fun KK hKK => ?_; simp [go_sem]; ((repeat' (first|(refine ag_x ?_;simp [go_sem])|intro _|refine And.intro ?_ ?_|(apply hKK;clear hKK KK)));all_goals first|refine Hold.mk ?_|omega|with_reducible assumption|(simp only [InR] at *;omega)|skip))
    rename_i g1
    rw [hL']
    refine awp_seq_k fun K1 hK1 => ?_
    (refine awp_sr fun KK hKK => ?_; simp [go_sem]; ((repeat' (first|(refine ag_x ?_;simp [go_sem])|intro _|refine And.intro ?_ ?_|(apply hKK;clear hKK KK)));all_goals first|refine Hold.mk ?_|omega|with_reducible assumption|(simp only [InR] at *;omega)|skip))
    have hne : L ≠ [] := by rw [hL]; simp
    (refine awp_if fun T F hT hF => ?_; simp [go_sem, hne]; refine hF ?_; clear hT hF T F)
    refine awp_skip ?_
    refine hK1 _ ?_; clear hK1
    refine awp_bld 97 5 900000 900001 (by decide) (by decide) zr97 fun gb gr => ?_
    refine awp_seq_k fun K3 hK3 => ?_
    have tl3 : ∀ S' gb gr, Cov S' ⟨[(1, .ptr 1 g1 0), (3, .ptr 900000 gb 0)], [(1, g1, .box [dB (decide (n < 0)), dIs L]), (900000, (gb, .bld 97 900001 gr)), (900001, (gr, .brow 5 (if n < 0 then [45] else [])))]⟩ → K3 S' := fun S' gb gr hS => by
      refine hK3 _ ?_; clear hK3
      refine awp_cov hS ?_; clear hS
      obtain ⟨P, hP⟩ : ∃ P : List UInt8, (if n < 0 then [45] else []) = P := ⟨_, rfl⟩
      have hPl : P.length ≤ 1 := by rw [← hP]; split <;> simp
      rw [hP] at eit ⊢
      have hlen9 := dec_len9 (n := dn) (by omega)
      (refine awp_sr fun KK hKK => ?_; simp [go_sem, hll]; ((repeat' (first|(refine ag_x ?_;simp [go_sem, hll])|intro _|refine And.intro ?_ ?_|(apply hKK;clear hKK KK)));all_goals first|refine Hold.mk ?_|omega|with_reducible assumption|(simp only [InR] at *;omega)|skip))
      (refine awp_sr fun KK hKK => ?_; simp [go_sem, hll, htop2]; ((repeat' (first|(refine ag_x ?_;simp [go_sem, hll, htop2])|intro _|refine And.intro ?_ ?_|(apply hKK;clear hKK KK)));all_goals first|refine Hold.mk ?_|omega|with_reducible assumption|(simp only [InR] at *;omega)|skip))
      ((try refine CallT.toA ?_); refine callT_m (by first | exact .inl ⟨rfl, rfl⟩ | exact .inr rfl) (by simp [go_sem]) ?_; intro args ha; simp [go_sem] at ha; subst ha; refine ⟨_, (plain1 dn (by omega)), ?_⟩; rintro _ rfl; simp [go_sem]; ((repeat' (first|(refine ag_x ?_;simp [go_sem])|intro _|refine And.intro ?_ ?_|(apply hKK;clear hKK KK)));all_goals first|refine Hold.mk ?_|omega|with_reducible assumption|(simp only [InR] at *;omega)|skip))
      (refine callA_l [900000, 900001] (by first | exact .inl ⟨rfl, rfl⟩ | exact .inr rfl) (by simp [go_sem]) ?_; intro args ha; simp [go_sem] at ha; subst ha; refine ⟨_, _, (ws_spec 900000 900001 gb gr P (Lib.decDigits dn) (by decide) (by decide) (by decide) (by omega)), (by simp [go_sem]), ?_⟩; rintro ps r hps ⟨gr1, rfl, rfl⟩; simp [go_sem]; ((repeat' (first|(refine ag_x ?_;simp [go_sem])|intro _|refine And.intro ?_ ?_|(apply hKK;clear hKK KK)));all_goals first|refine Hold.mk ?_|omega|with_reducible assumption|(simp only [InR] at *;omega)|skip))
      refine awp_seq_k fun K4 hK4 => ?_
      (refine awp_sr fun KK hKK => ?_; simp [go_sem]; ((repeat' (first|(refine ag_x ?_;simp [go_sem])|intro _|refine And.intro ?_ ?_|(apply hKK;clear hKK KK)));all_goals first|refine Hold.mk ?_|omega|with_reducible assumption|(simp only [InR] at *;omega)|skip))
      refine awp_block ?_
      refine awp_loop (σ := Nat × List UInt8 × Nat) (fun x => ⟨[(1, .ptr 1 g1 0), (3, .ptr 900000 gb 0), (5, dI ((x.1 : Int) - 1))], [(1, g1, .box [dB (decide (n < 0)), dIs L]), (900000, (gb, .bld 97 900001 x.2.2)), (900001, (x.2.2, .brow 5 x.2.1))]⟩)
        (fun x => x.1 ≤ l.length ∧ 0 < val U (L.drop x.1) ∧ x.2.1 = P ++ Lib.decDigits (val U (L.drop x.1)).toNat ∧ x.2.1.length ≤ 10 + 9 * (l.length - x.1)) (fun x => x.1) (l.length, P ++ Lib.decDigits dn, gr1) ?_ ?_ ?_
      · (refine cov_of ?_ ?_ <;> simp [go_sem])
      · refine ⟨Nat.le_refl _, ?_, ?_, ?_⟩
        · simp only; rw [hdrop, val1]; exact hd0
        · simp only; rw [hdrop, val1, hdn]; rfl
        · simp only; rw [List.length_append]; omega
      rintro ⟨j, t, gr2⟩ ⟨hj, hpos, ht, htl⟩
      simp only at hj hpos ht htl
      refine awp_seq_k fun K5 hK5 => ?_
      (refine awp_sr fun KK hKK => ?_; simp [go_sem]; ((repeat' (first|(refine ag_x ?_;simp [go_sem])|intro _|refine And.intro ?_ ?_|(apply hKK;clear hKK KK)));all_goals first|refine Hold.mk ?_|omega|with_reducible assumption|(simp only [InR] at *;omega)|skip))
      (refine awp_if fun T F hT hF => ?_; simp [go_sem]; refine BR.intro (fun h6 => hT ?_) (fun h6 => hF ?_); all_goals clear hT hF T F; try simp at h6) 
      · refine awp_skip ?_
        refine hK5 _ ?_; clear hK5
        obtain ⟨i, rfl⟩ : ∃ i, j = i + 1 := ⟨j - 1, by omega⟩
        obtain ⟨e, he⟩ : ∃ e, L[i]? = some e := ⟨_, List.getElem?_eq_getElem (by omega)⟩
        have be := dU (hL' ▸ dgU n.natAbs) he
        obtain ⟨en, hen⟩ : ∃ k : Nat, e = k := ⟨e.toNat, by omega⟩
        subst hen
        have hst := write_step (n := n.natAbs) (i := i) (d := en) (by rw [hL']; exact he) (by rw [hL']; exact hpos)
        rw [hL'] at hst
        refine awp_seq_k fun K7 hK7 => ?_
        refine awp_block ?_
        (refine awp_r fun KK hKK => ?_; simp [go_sem, he]; ((repeat' (first|(refine ag_x ?_;simp [go_sem, he])|intro _|refine And.intro ?_ ?_|(apply hKK;clear hKK KK)));all_goals first|refine Hold.mk ?_|omega|with_reducible assumption|(simp only [InR] at *;omega)|skip))
        ((try refine CallT.toA ?_); refine callT_m (by first | exact .inl ⟨rfl, rfl⟩ | exact .inr rfl) (by simp [go_sem]) ?_; intro args ha; simp [go_sem] at ha; subst ha; refine ⟨_, (plain9 en (by omega)), ?_⟩; rintro _ rfl; simp [go_sem]; ((repeat' (first|(refine ag_x ?_;simp [go_sem])|intro _|refine And.intro ?_ ?_|(apply hKK;clear hKK KK)));all_goals first|refine Hold.mk ?_|omega|with_reducible assumption|(simp only [InR] at *;omega)|skip))
        (refine callA_l [900000, 900001] (by first | exact .inl ⟨rfl, rfl⟩ | exact .inr rfl) (by simp [go_sem]) ?_; intro args ha; simp [go_sem] at ha; subst ha; refine ⟨_, _, (ws_spec 900000 900001 gb gr2 t (pad 9 en) (by decide) (by decide) (by decide) (by rw [pad_len]; omega)), (by simp [go_sem]), ?_⟩; rintro ps r hps ⟨gr3, rfl, rfl⟩; simp [go_sem]; ((repeat' (first|(refine ag_x ?_;simp [go_sem])|intro _|refine And.intro ?_ ?_|(apply hKK;clear hKK KK)));all_goals first|refine Hold.mk ?_|omega|with_reducible assumption|(simp only [InR] at *;omega)|skip))
        refine hK7 _ ?_; clear hK7
        (refine awp_r fun KK hKK => ?_; simp [go_sem]; ((repeat' (first|(refine ag_x ?_;simp [go_sem])|intro _|refine And.intro ?_ ?_|(apply hKK;clear hKK KK)));all_goals first|refine Hold.mk ?_|omega|with_reducible assumption|(simp only [InR] at *;omega)|skip))
        refine ⟨(i, t ++ pad 9 en, gr3), ?_, ⟨by simp only; omega, hst.2, ?_, ?_⟩, by simp only; omega⟩
        · (refine cov_of ?_ ?_ <;> simp [go_sem])
        · simp only; rw [hst.1, ht, List.append_assoc]; rfl
        · simp only; rw [List.length_append, pad_len]; omega
      · refine awp_exit ?_
        simp only [go_sem]
        refine hK4 _ ?_; clear hK4
        have hj0 : j = 0 := by omega
        subst hj0
        rw [List.drop_zero, hvL, ← eit] at ht
        have hne2 : t ≠ [] := by
          rw [ht, eit]; have := decDigits_ne n.natAbs
          simp [this]
        (refine awp_sr fun KK hKK => ?_; simp [go_sem]; ((repeat' (first|(refine ag_x ?_;simp [go_sem])|intro _|refine And.intro ?_ ?_|(apply hKK;clear hKK KK)));all_goals first|refine Hold.mk ?_|omega|with_reducible assumption|(simp only [InR] at *;omega)|skip))
        (refine callA_l [900000, 900001] (by first | exact .inl ⟨rfl, rfl⟩ | exact .inr rfl) (by simp [go_sem]) ?_; intro args ha; simp [go_sem] at ha; subst ha; refine ⟨_, _, (str_spec 900000 900001 gb gr2 t (by decide) (by decide) (by decide) hne2), (by simp [go_sem]), ?_⟩; rintro ps r hps ⟨gr4, rfl, rfl⟩; simp [go_sem]; ((repeat' (first|(refine ag_x ?_;simp [go_sem])|intro _|refine And.intro ?_ ?_|(apply hKK;clear hKK KK)));all_goals first|refine Hold.mk ?_|omega|with_reducible assumption|(simp only [InR] at *;omega)|skip))
        (refine awp_ret ?_; simp [go_sem])
        rw [ht]
    clear hK3
    (refine awp_sr fun KK hKK => ?_; simp [go_sem]; ((repeat' (first|(refine ag_x ?_;simp [go_sem])|intro _|refine And.intro ?_ ?_|(apply hKK;clear hKK KK)));all_goals first|refine Hold.mk ?_|omega|with_reducible assumption|(simp only [InR] at *;omega)|skip))
    (refine awp_if fun T F hT hF => ?_; simp [go_sem]; refine BR.intro (fun h8 => hT ?_) (fun h8 => hF ?_); all_goals clear hT hF T F; try simp at h8) 
    · (refine awp_r fun KK hKK => ?_; simp [go_sem]; ((repeat' (first|(refine ag_x ?_;simp [go_sem])|intro _|refine And.intro ?_ ?_|(apply hKK;clear hKK KK)));all_goals first|refine Hold.mk ?_|omega|with_reducible assumption|(simp only [InR] at *;omega)|skip))
      (refine callA_l [900000, 900001] (by first | exact .inl ⟨rfl, rfl⟩ | exact .inr rfl) (by simp [go_sem]) ?_; intro args ha; simp [go_sem] at ha; subst ha; refine ⟨_, _, (wb_spec 900000 900001 gb gr [] 45 (by decide) (by decide) (by decide) (by simp)), (by simp [go_sem]), ?_⟩; rintro ps r hps ⟨gr1, rfl, rfl⟩; simp [go_sem]; ((repeat' (first|(refine ag_x ?_;simp [go_sem])|intro _|refine And.intro ?_ ?_|(apply hKK;clear hKK KK)));all_goals first|refine Hold.mk ?_|omega|with_reducible assumption|(simp only [InR] at *;omega)|skip))
      refine tl3 _ gb gr1 ?_
      rw [if_pos h8]
      (refine cov_of ?_ ?_ <;> simp [go_sem])
    · refine awp_skip ?_
      refine tl3 _ gb gr ?_
      rw [if_neg (by omega)]
      (refine cov_of ?_ ?_ <;> simp [go_sem])
end Go.Proofs.YtglncfhcgkihbaaGreatDoor

namespace Go.Proofs.YtglncfhcgkihbaaGreatDoor
open Go.Eng Go.Wh
set_option maxRecDepth 20000
set_option linter.unusedSimpArgs false
set_option linter.unusedVariables false
attribute [local irreducible] AG CallA CallT AWp PCall ACall AgC
theorem has45 (s : List UInt8) : Lib.hasPrefix s [45] = decide (s.head? = some 45) := by
  cases s with
  | nil => rfl
  | cons c s => simp [Lib.hasPrefix, List.isPrefixOf]; exact Bool.eq_iff_iff.2 (by simp; exact eq_comm)
theorem trimP_body (s : List UInt8) : Lib.trimPrefix s [45] = body s := by
  unfold Lib.trimPrefix body
  rw [has45]
  by_cases h : s.head? = some 45
  · rw [if_pos (by simpa using h), if_pos h]; simp
  · rw [if_neg (by simpa using h), if_neg h]
theorem long_spec (n : Int) (hn : sz U n ≤ 1000000) : PCall Tryz.prog 42 [dBig n] fun r => r = dB (decide (400 < dlen n)) := by 
  refine pcall_of Tryz.func42 rfl rfl Tryz.ntmps42 (rs := [.tmp 2]) (tys := [4]) rfl rfl (by simp) ?_
  (refine awp_sr fun KK hKK => ?_; simp [go_sem]; ((repeat' (first|(refine ag_x ?_;simp [go_sem])|intro _|refine And.intro ?_ ?_|(apply hKK;clear hKK KK)));all_goals first|refine Hold.mk ?_|omega|with_reducible assumption|(simp only [InR] at *;omega)|skip))
  (refine awp_sr fun KK hKK => ?_; simp [go_sem]; ((repeat' (first|(refine ag_x ?_;simp [go_sem])|intro _|refine And.intro ?_ ?_|(apply hKK;clear hKK KK)));all_goals first|refine Hold.mk ?_|omega|with_reducible assumption|(simp only [InR] at *;omega)|skip))
  ((try refine CallT.toA ?_); refine callT_m (by first | exact .inl ⟨rfl, rfl⟩ | exact .inr rfl) (by simp [go_sem]) ?_; intro args ha; simp [go_sem] at ha; subst ha; refine ⟨_, (text_spec n hn), ?_⟩; rintro _ rfl; simp [go_sem]; ((repeat' (first|(refine ag_x ?_;simp [go_sem])|intro _|refine And.intro ?_ ?_|(apply hKK;clear hKK KK)));all_goals first|refine Hold.mk ?_|omega|with_reducible assumption|(simp only [InR] at *;omega)|skip))
  ((try refine CallT.toA ?_); refine callT_m (by first | exact .inl ⟨rfl, rfl⟩ | exact .inr rfl) (by simp [go_sem]) ?_; intro args ha; simp [go_sem] at ha; subst ha; refine ⟨_, (trimP_spec (Lib.itoa n) [45]), ?_⟩; rintro _ rfl; simp [go_sem, trimP_body, body_itoa]; ((repeat' (first|(refine ag_x ?_;simp [go_sem, trimP_body, body_itoa])|intro _|refine And.intro ?_ ?_|(apply hKK;clear hKK KK)));all_goals first|refine Hold.mk ?_|omega|with_reducible assumption|(simp only [InR] at *;omega)|skip))
  (refine awp_ret ?_; simp [go_sem, dlen])
  exact decide_eq_decide.2 (by omega)
theorem told_spec (n : Int) (hn : sz U n ≤ 1000000) : PCall Tryz.prog 114 [dBig n] fun r => r = if dlen n ≤ 400 then .tup [dS (Lib.itoa n), dI 0] else .tup [dS [], dI 2] := by 
  refine pcall_of Tryz.func114 rfl rfl Tryz.ntmps114 (rs := [.tmp 2, .tmp 3]) (tys := [9, 31]) rfl rfl (by simp) ?_
  (refine awp_sr fun KK hKK => ?_; simp [go_sem]; ((repeat' (first|(refine ag_x ?_;simp [go_sem])|intro _|refine And.intro ?_ ?_|(apply hKK;clear hKK KK)));all_goals first|refine Hold.mk ?_|omega|with_reducible assumption|(simp only [InR] at *;omega)|skip))
  refine awp_seq_k fun K1 hK1 => ?_
  (refine awp_sr fun KK hKK => ?_; simp [go_sem]; ((repeat' (first|(refine ag_x ?_;simp [go_sem])|intro _|refine And.intro ?_ ?_|(apply hKK;clear hKK KK)));all_goals first|refine Hold.mk ?_|omega|with_reducible assumption|(simp only [InR] at *;omega)|skip))
  ((try refine CallT.toA ?_); refine callT_m (by first | exact .inl ⟨rfl, rfl⟩ | exact .inr rfl) (by simp [go_sem]) ?_; intro args ha; simp [go_sem] at ha; subst ha; refine ⟨_, (long_spec n hn), ?_⟩; rintro _ rfl; simp [go_sem]; ((repeat' (first|(refine ag_x ?_;simp [go_sem])|intro _|refine And.intro ?_ ?_|(apply hKK;clear hKK KK)));all_goals first|refine Hold.mk ?_|omega|with_reducible assumption|(simp only [InR] at *;omega)|skip))
  (refine awp_if fun T F hT hF => ?_; simp [go_sem]; refine BR.intro (fun h2 => hT ?_) (fun h2 => hF ?_); all_goals clear hT hF T F; try simp at h2)
  · (refine awp_sr fun KK hKK => ?_; simp [go_sem]; ((repeat' (first|(refine ag_x ?_;simp [go_sem])|intro _|refine And.intro ?_ ?_|(apply hKK;clear hKK KK)));all_goals first|refine Hold.mk ?_|omega|with_reducible assumption|(simp only [InR] at *;omega)|skip))
    (refine awp_ret ?_; simp [go_sem, h2])
  · refine awp_skip ?_
    refine hK1 _ ?_; clear hK1
    (refine awp_sr fun KK hKK => ?_; simp [go_sem]; ((repeat' (first|(refine ag_x ?_;simp [go_sem])|intro _|refine And.intro ?_ ?_|(apply hKK;clear hKK KK)));all_goals first|refine Hold.mk ?_|omega|with_reducible assumption|(simp only [InR] at *;omega)|skip))
    ((try refine CallT.toA ?_); refine callT_m (by first | exact .inl ⟨rfl, rfl⟩ | exact .inr rfl) (by simp [go_sem]) ?_; intro args ha; simp [go_sem] at ha; subst ha; refine ⟨_, (text_spec n hn), ?_⟩; rintro _ rfl; simp [go_sem]; ((repeat' (first|(refine ag_x ?_;simp [go_sem])|intro _|refine And.intro ?_ ?_|(apply hKK;clear hKK KK)));all_goals first|refine Hold.mk ?_|omega|with_reducible assumption|(simp only [InR] at *;omega)|skip))
    (refine awp_ret ?_; simp [go_sem, h2])
theorem sub48 {c : UInt8} (h : isD c = true) : IntKind.u8.wrap ((c.toNat : Int) - 48) = (dgt c : Int) := by
  have h2 := dgt_lt h
  unfold isD at h
  simp at h
  rw [show IntKind.u8.wrap ((c.toNat : Int) - 48) = ((c.toNat : Int) - 48) % 256 by simp [IntKind.wrap, IntKind.bits, IntKind.signed]]
  unfold dgt at *
  omega
theorem numV_sg (s : List UInt8) : numV s = sg (decide (s.head? = some 45)) (decVal (body s)) := by
  unfold numV sg
  by_cases h : s.head? = some 45 <;> simp [h]
set_option maxHeartbeats 4000000 in
theorem read_spec (s : List UInt8) (hs : ∀ c ∈ body s, isD c = true) (hl : (body s).length ≤ 1000000) : PCall Tryz.prog 39 [dS s] fun r => r = dBig (numV s) := by 
  refine pcall_of Tryz.func39 rfl rfl Tryz.ntmps39 (rs := [.cell 2 58]) (tys := [58]) rfl rfl (by simp) ?_
  generalize hb : body s = b at hs hl
  obtain ⟨bl, hbl⟩ : ∃ bl, decide (s.head? = some 45) = bl := ⟨_, rfl⟩
  have hnv : numV s = sg bl (decVal b) := by rw [numV_sg, hb, hbl]
  (refine awp_sr fun KK hKK => ?_; simp [go_sem]; ((repeat' (first|(refine ag_x ?_;simp [go_sem])|intro _|refine And.intro ?_ ?_|(apply hKK;clear hKK KK)));all_goals first|refine Hold.mk ?_|omega|with_reducible assumption|(simp only [InR] at *;omega)|skip))
  rename_i g2
  (refine awp_sr fun KK hKK => ?_; simp [go_sem]; ((repeat' (first|(refine ag_x ?_;simp [go_sem])|intro _|refine And.intro ?_ ?_|(apply hKK;clear hKK KK)));all_goals first|refine Hold.mk ?_|omega|with_reducible assumption|(simp only [InR] at *;omega)|skip))
  ((try refine CallT.toA ?_); refine callT_m (by first | exact .inl ⟨rfl, rfl⟩ | exact .inr rfl) (by simp [go_sem]) ?_; intro args ha; simp [go_sem] at ha; subst ha; refine ⟨_, (cutP_spec s [45]), ?_⟩; rintro _ rfl; simp [go_sem, trimP_body, has45, hb, hbl]; ((repeat' (first|(refine ag_x ?_;simp [go_sem, trimP_body, has45, hb, hbl])|intro _|refine And.intro ?_ ?_|(apply hKK;clear hKK KK)));all_goals first|refine Hold.mk ?_|omega|with_reducible assumption|(simp only [InR] at *;omega)|skip))
  (refine awp_sr fun KK hKK => ?_; simp [go_sem]; ((repeat' (first|(refine ag_x ?_;simp [go_sem])|intro _|refine And.intro ?_ ?_|(apply hKK;clear hKK KK)));all_goals first|refine Hold.mk ?_|omega|with_reducible assumption|(simp only [InR] at *;omega)|skip))
  refine awp_nilslot 5 22 3 1 rfl fun g5 => ?_
  simp only [go_sem]
  refine awp_seq_k fun K1 hK1 => ?_
  refine awp_block ?_
  refine awp_loop (σ := List UInt8 × List Int × Nat) (fun x => ⟨[(2, .ptr 2 g2 0), (3, dS x.1), (4, dB bl), (5, .own 22 x.2.2)], [(22, x.2.2, .row 3 1 (x.2.1.map cI)), (2, g2, .box [dB false, .v (.slice none 0 0)])]⟩) (fun x => ReadI b x.1 x.2.1 ∧ x.1.length ≤ 1000000 ∧ x.2.1.length + x.1.length ≤ 1000000) (fun x => x.1.length) (b, [], g5) ?_ ?_ ?_
  · (refine cov_of ?_ ?_ <;> simp [go_sem])
  · exact ⟨read_init hs, hl, by simpa using hl⟩
  rintro ⟨t, l, g⟩ ⟨hp, htl, hll⟩
  simp only at hp htl hll
  refine awp_seq_k fun K2 hK2 => ?_
  (refine awp_sr fun KK hKK => ?_; simp [go_sem]; ((repeat' (first|(refine ag_x ?_;simp [go_sem])|intro _|refine And.intro ?_ ?_|(apply hKK;clear hKK KK)));all_goals first|refine Hold.mk ?_|omega|with_reducible assumption|(simp only [InR] at *;omega)|skip))
  (refine awp_if fun T F hT hF => ?_; simp [go_sem]; refine BR.intro (fun h3 => hT ?_) (fun h3 => hF ?_); all_goals clear hT hF T F; try simp at h3) 
  · refine awp_skip ?_
    refine hK2 _ ?_; clear hK2
    have ht0 : 0 < t.length := List.length_pos_iff.2 h3
    refine awp_block ?_
    obtain ⟨a, ha⟩ : ∃ a, t.length - 9 = a := ⟨_, rfl⟩
    have eat : (if 9 < (t.length : Int) then (t.length : Int) - 9 else 0) = (a : Int) := by split <;> omega
    have hst := read_step hp
    rw [ha] at hst
    have htd : ∀ c ∈ t.drop a, isD c = true := fun c hc => hp.2.2 c (List.mem_of_mem_drop hc)
    have hal : a ≤ t.length := by omega
    (refine awp_sr fun KK hKK => ?_; simp [go_sem, eat]; ((repeat' (first|(refine ag_x ?_;simp [go_sem, eat])|intro _|refine And.intro ?_ ?_|(apply hKK;clear hKK KK)));all_goals first|refine Hold.mk ?_|omega|with_reducible assumption|(simp only [InR] at *;omega)|skip))
    (refine awp_sr fun KK hKK => ?_; simp [go_sem]; ((repeat' (first|(refine ag_x ?_;simp [go_sem])|intro _|refine And.intro ?_ ?_|(apply hKK;clear hKK KK)));all_goals first|refine Hold.mk ?_|omega|with_reducible assumption|(simp only [InR] at *;omega)|skip))
    refine awp_seq_k fun K4 hK4 => ?_
    (refine awp_sr fun KK hKK => ?_; simp [go_sem]; ((repeat' (first|(refine ag_x ?_;simp [go_sem])|intro _|refine And.intro ?_ ?_|(apply hKK;clear hKK KK)));all_goals first|refine Hold.mk ?_|omega|with_reducible assumption|(simp only [InR] at *;omega)|skip))
    obtain ⟨ch, hch⟩ : ∃ ch, t.drop a = ch := ⟨_, rfl⟩
    have hcl : ch.length ≤ 9 := by rw [← hch, List.length_drop]; omega
    rw [hch] at hst htd
    refine awp_block ?_
    refine awp_loop (σ := Nat × Nat) (fun x => ⟨[(2, .ptr 2 g2 0), (3, dS t), (4, dB bl), (5, .own 22 g), (6, dI a), (7, dI x.2), (24, .sl 1 (ch.map cB)), (25, dI ch.length), (26, dI x.1)], [(22, g, .row 3 1 (l.map cI)), (2, g2, .box [dB false, .v (.slice none 0 0)])]⟩) (fun x => x.1 ≤ ch.length ∧ x.2 = decVal (ch.take x.1)) (fun x => ch.length - x.1) (0, 0) ?_ ?_ ?_
    · rw [← hch]; (refine cov_of ?_ ?_ <;> simp [go_sem])
      exact List.take_of_length_le (by simp)
    · simp [decVal]
    rintro ⟨k, n⟩ ⟨hk, hnk⟩
    simp only at hk hnk
    (refine awp_sr fun KK hKK => ?_; simp [go_sem]; ((repeat' (first|(refine ag_x ?_;simp [go_sem])|intro _|refine And.intro ?_ ?_|(apply hKK;clear hKK KK)));all_goals first|refine Hold.mk ?_|omega|with_reducible assumption|(simp only [InR] at *;omega)|skip))
    refine awp_seq_k fun K5 hK5 => ?_
    (refine awp_if fun T F hT hF => ?_; simp [go_sem]; refine BR.intro (fun h6 => hT ?_) (fun h6 => hF ?_); all_goals clear hT hF T F; try simp at h6) 
    · refine awp_skip ?_
      refine hK5 _ ?_; clear hK5
      obtain ⟨c, hc⟩ : ∃ c, ch[k]? = some c := ⟨_, List.getElem?_eq_getElem h6⟩
      have hcd := htd c (List.mem_of_getElem? hc)
      have ew := sub48 hcd
      have hd10 := dgt_lt hcd
      have hn9 : n < 1000000000 := by
        rw [hnk]
        have q1 := decVal_lt (s := ch.take k) (fun c hc => htd c (List.mem_of_mem_take hc))
        have q2 : 10 ^ (ch.take k).length ≤ 10 ^ 9 := Nat.pow_le_pow_right (by decide) (by rw [List.length_take]; omega)
        have q3 : (10 : Nat) ^ 9 = 1000000000 := by decide
        generalize 10 ^ (ch.take k).length = p at *
        omega
      refine awp_seq_k fun K7 hK7 => ?_
      refine awp_block ?_
      (refine awp_sr fun KK hKK => ?_; simp [go_sem, hc]; ((repeat' (first|(refine ag_x ?_;simp [go_sem, hc])|intro _|refine And.intro ?_ ?_|(apply hKK;clear hKK KK)));all_goals first|refine Hold.mk ?_|omega|with_reducible assumption|(simp only [InR] at *;omega)|skip))
      (refine awp_r fun KK hKK => ?_; simp [go_sem, ew]; ((repeat' (first|(refine ag_x ?_;simp [go_sem, ew])|intro _|refine And.intro ?_ ?_|(apply hKK;clear hKK KK)));all_goals first|refine Hold.mk ?_|omega|with_reducible assumption|(simp only [InR] at *;omega)|skip))
      refine hK7 _ ?_; clear hK7
      (refine awp_r fun KK hKK => ?_; simp [go_sem]; ((repeat' (first|(refine ag_x ?_;simp [go_sem])|intro _|refine And.intro ?_ ?_|(apply hKK;clear hKK KK)));all_goals first|refine Hold.mk ?_|omega|with_reducible assumption|(simp only [InR] at *;omega)|skip))
      refine ⟨(k + 1, n * 10 + dgt c), ?_, ⟨h6, ?_⟩, by simp only; omega⟩
      · (refine cov_of ?_ ?_ <;> simp [go_sem])
      · simp only
        rw [List.take_add_one, hc, hnk]
        exact (decVal_snoc _ _).symm
    · refine awp_exit ?_
      simp only [go_sem]
      refine hK4 _ ?_; clear hK4
      have hkc : k = ch.length := by omega
      rw [hkc, List.take_length] at hnk
      (refine awp_sr fun KK hKK => ?_; simp [go_sem]; ((repeat' (first|(refine ag_x ?_;simp [go_sem])|intro _|refine And.intro ?_ ?_|(apply hKK;clear hKK KK)));all_goals first|refine Hold.mk ?_|omega|with_reducible assumption|(simp only [InR] at *;omega)|skip))
      (refine awp_r fun KK hKK => ?_; simp [go_sem]; ((repeat' (first|(refine ag_x ?_;simp [go_sem])|intro _|refine And.intro ?_ ?_|(apply hKK;clear hKK KK)));all_goals first|refine Hold.mk ?_|omega|with_reducible assumption|(simp only [InR] at *;omega)|skip))
      rename_i g7
      refine ⟨(t.take a, l ++ [(n : Int)], g7), ?_, ⟨by rw [hnk]; exact hst, ?_, ?_⟩, ?_⟩
      · (refine cov_of ?_ ?_ <;> simp [go_sem])
        rw [Lib.extract_mk]; simp
      · simp only; rw [List.length_take]; omega
      · simp only; rw [List.length_append, List.length_take]; simp; omega
      · simp only; rw [List.length_take]; omega
  · refine awp_exit ?_
    simp only [go_sem]
    refine hK1 _ ?_; clear hK1
    have ht0 : t = [] := by simpa using h3
    subst ht0
    obtain ⟨d1, d2⟩ := read_done hp
    (refine awp_sr fun KK hKK => ?_; simp [go_sem]; ((repeat' (first|(refine ag_x ?_;simp [go_sem])|intro _|refine And.intro ?_ ?_|(apply hKK;clear hKK KK)));all_goals first|refine Hold.mk ?_|omega|with_reducible assumption|(simp only [InR] at *;omega)|skip))
    ((try refine CallT.toA ?_); refine callT_z (by first | exact .inl ⟨rfl, rfl⟩ | exact .inr rfl) rfl (by simp [go_sem]) (by simp [go_sem]) ?_; intro args ha; simp [go_sem] at ha; subst ha; refine ⟨_, (fit_as bl d1 (n := numV s) (by rw [d2, hnv])), ?_⟩; rintro _ rfl; simp [go_sem]; ((repeat' (first|(refine ag_x ?_;simp [go_sem])|intro _|refine And.intro ?_ ?_|(apply hKK;clear hKK KK)));all_goals first|refine Hold.mk ?_|omega|with_reducible assumption|(simp only [InR] at *;omega)|skip))
    (refine awp_ret ?_; simp [go_sem])
end Go.Proofs.YtglncfhcgkihbaaGreatDoor

namespace Go.Proofs.YtglncfhcgkihbaaGreatDoor
open Go.Eng Go.Wh
set_option maxRecDepth 20000
set_option linter.unusedSimpArgs false
set_option linter.unusedVariables false
attribute [local irreducible] AG CallA CallT AWp PCall ACall AgC
theorem trimS_spec (s p : List UInt8) (hs : s.length ≤ 9223372036854775807) (hpl : p.length < 4294967281) (hp : p.all (fun b => decide (b.toNat < 128)) = true) : PCall Tryz.prog 79 [dS s, dS p] fun r => r = dS (Lib.trimS s p) := by
  refine pcall_below ⟨_, Tryz.func79, rfl, rfl⟩ fun C w us hc' hg hr => ?_
  obtain rfl := repL_v (us := [.string ⟨s.toArray⟩, .string ⟨p.toArray⟩]) hr
  refine (Any.strings_Trim_laid Tryz.lays160 (by kernel_rfl) ⟨s.toArray⟩ ⟨p.toArray⟩ w (by simpa [ByteArray.size] using hs) (by simpa [ByteArray.size] using hpl) (ascii_of_all (by simpa using hp))).mono ?_
  rintro e w' ⟨rfl, hb⟩
  exact ⟨_, _, rfl, rfl, .v _, hb⟩
theorem dw_nil {α : Type} {p : α → Bool} : ∀ {l : List α}, l.dropWhile p = [] ↔ l.all p = true
  | [] => by simp
  | x :: l => by
    rw [List.dropWhile_cons]
    by_cases h : p x = true
    · rw [if_pos h, List.all_cons, h, Bool.true_and]; exact dw_nil
    · rw [if_neg h]; simp [h]
theorem trimS_nil (l cs : List UInt8) : Lib.trimS l cs = [] ↔ l.all (cs.contains ·) = true := by
  unfold Lib.trimS Lib.trimLeftS Lib.trimRightS
  rw [dw_nil]
  have hr : ∀ m : List UInt8, m.reverse.all (cs.contains ·) = m.all (cs.contains ·) := fun m => by rw [List.all_reverse]
  rw [hr]
  constructor
  · intro h
    have h2 := (dw_nil (p := (cs.contains ·)) (l := l.reverse)).1 (by
      cases hd : l.reverse.dropWhile (cs.contains ·) with
      | nil => rfl
      | cons x m =>
        exfalso
        have hx := List.head_dropWhile_not (cs.contains ·) (l := l.reverse) (by rw [hd]; simp)
        rw [hd] at h
        simp only [hd, List.head_cons] at hx
        rw [List.all_cons] at h
        simp only [Bool.and_eq_true] at h
        rw [h.1] at hx; cases hx)
    rw [hr] at h2; exact h2
  · intro h
    rw [(dw_nil (p := (cs.contains ·)) (l := l.reverse)).2 (by rw [hr]; exact h)]
    rfl
def tenD : List UInt8 := [48, 49, 50, 51, 52, 53, 54, 55, 56, 57]
theorem tenD_isD (c : UInt8) : tenD.contains c = isD c := by
  have h := UInt8.toNat_lt c
  unfold isD tenD
  refine Bool.eq_iff_iff.2 ?_
  simp only [List.contains_iff_mem, List.mem_cons, List.mem_nil_iff, or_false, Bool.and_eq_true, decide_eq_true_eq, ← UInt8.toNat_inj]
  simp
  omega
theorem trim_digits (l : List UInt8) : (Lib.trimS l tenD = []) ↔ l.all isD = true := by
  rw [trimS_nil]
  simp only [tenD_isD]
theorem valid_spec (a : List UInt8) (hl : a.length ≤ 1000000000) : PCall Tryz.prog 38 [dS a] fun r => r = dB (numOk a) := by 
  refine pcall_of Tryz.func38 rfl rfl Tryz.ntmps38 (rs := [.tmp 2]) (tys := [4]) rfl rfl (by simp) ?_
  have hbl : (body a).length ≤ a.length := by unfold body; split <;> simp
  unfold numOk
  (refine awp_sr fun KK hKK => ?_; simp [go_sem]; ((repeat' (first|(refine ag_x ?_;simp [go_sem])|intro _|refine And.intro ?_ ?_|(apply hKK;clear hKK KK)));all_goals first|refine Hold.mk ?_|omega|with_reducible assumption|(simp only [InR] at *;omega)|skip))
  (refine awp_sr fun KK hKK => ?_; simp [go_sem]; ((repeat' (first|(refine ag_x ?_;simp [go_sem])|intro _|refine And.intro ?_ ?_|(apply hKK;clear hKK KK)));all_goals first|refine Hold.mk ?_|omega|with_reducible assumption|(simp only [InR] at *;omega)|skip))
  ((try refine CallT.toA ?_); refine callT_m (by first | exact .inl ⟨rfl, rfl⟩ | exact .inr rfl) (by simp [go_sem]) ?_; intro args ha; simp [go_sem] at ha; subst ha; refine ⟨_, (trimP_spec a [45]), ?_⟩; rintro _ rfl; simp [go_sem, trimP_body]; ((repeat' (first|(refine ag_x ?_;simp [go_sem, trimP_body])|intro _|refine And.intro ?_ ?_|(apply hKK;clear hKK KK)));all_goals first|refine Hold.mk ?_|omega|with_reducible assumption|(simp only [InR] at *;omega)|skip))
  generalize hb : body a = b at *
  refine awp_seq_k fun K1 hK1 => ?_
  cases b with
  | nil =>
    (refine awp_sr fun KK hKK => ?_; simp [go_sem]; ((repeat' (first|(refine ag_false (by simp [go_sem, undef]) (by simp [go_sem]) ?_;simp [go_sem])|intro _|refine And.intro ?_ ?_|(apply hKK;clear hKK KK)));all_goals first|refine Hold.mk ?_|omega|with_reducible assumption|(simp only [InR] at *;omega)|skip))
    (refine awp_if fun T F hT hF => ?_; simp [go_sem]; refine hT ?_; clear hT hF T F)
    (refine awp_sr fun KK hKK => ?_; simp [go_sem]; ((repeat' (first|(refine ag_x ?_;simp [go_sem])|intro _|refine And.intro ?_ ?_|(apply hKK;clear hKK KK)));all_goals first|refine Hold.mk ?_|omega|with_reducible assumption|(simp only [InR] at *;omega)|skip))
    (refine awp_ret ?_; simp [go_sem])
  | cons c b' =>
    have hd : decide (c.toNat = 48) = decide (c = 48) := decide_eq_decide.2 ⟨fun h => UInt8.toNat_inj.1 h, fun h => by rw [h]; rfl⟩
    (refine awp_sr fun KK hKK => ?_; simp [go_sem]; ((repeat' (first|(refine ag_x ?_;simp [go_sem])|intro _|refine And.intro ?_ ?_|(apply hKK;clear hKK KK)));all_goals first|refine Hold.mk ?_|omega|with_reducible assumption|(simp only [InR] at *;omega)|skip))
    (refine awp_if fun T F hT hF => ?_; simp [go_sem]; refine BR.intro (fun h2 => hT ?_) (fun h2 => hF ?_); all_goals clear hT hF T F; try simp at h2)
    · (refine awp_sr fun KK hKK => ?_; simp [go_sem]; ((repeat' (first|(refine ag_x ?_;simp [go_sem])|intro _|refine And.intro ?_ ?_|(apply hKK;clear hKK KK)));all_goals first|refine Hold.mk ?_|omega|with_reducible assumption|(simp only [InR] at *;omega)|skip))
      (refine awp_ret ?_; simp [go_sem])
      intro h3 h4
      exfalso
      rcases h2 with (h2 | h2) | h2
      · omega
      · omega
      · have hc : c = 48 := UInt8.toNat_inj.1 (by have := h2.1; simp; omega)
        rcases h4 with h4 | h4
        · exact h4 hc
        · exact h2.2 h4
    · refine awp_skip ?_
      refine hK1 _ ?_; clear hK1
      (refine awp_sr fun KK hKK => ?_; simp [go_sem]; ((repeat' (first|(refine ag_x ?_;simp [go_sem])|intro _|refine And.intro ?_ ?_|(apply hKK;clear hKK KK)));all_goals first|refine Hold.mk ?_|omega|with_reducible assumption|(simp only [InR] at *;omega)|skip))
      ((try refine CallT.toA ?_); refine callT_m (by first | exact .inl ⟨rfl, rfl⟩ | exact .inr rfl) (by simp [go_sem]) ?_; intro args ha; simp [go_sem] at ha; subst ha; refine ⟨_, (trimS_spec (c :: b') tenD (by simp only [List.length_cons] at *; omega) (by decide) (by decide)), ?_⟩; rintro _ rfl; simp [go_sem]; ((repeat' (first|(refine ag_x ?_;simp [go_sem])|intro _|refine And.intro ?_ ?_|(apply hKK;clear hKK KK)));all_goals first|refine Hold.mk ?_|omega|with_reducible assumption|(simp only [InR] at *;omega)|skip))
      (refine awp_ret ?_; simp [go_sem])
      have e : (Lib.trimS (c :: b') tenD).isEmpty = (c :: b').all isD := by
        refine Bool.eq_iff_iff.2 ?_
        rw [List.isEmpty_iff]
        exact trim_digits _
      have e2 : (!decide (c = 48) || decide (a = [48])) = true := by
        by_cases hc : c = 48
        · subst hc; simp; exact h2.2 (by simp)
        · simp [hc]
      have e3 : decide (b'.length ≤ 399) = true := by simp; omega
      rw [e, e2, e3, List.all_cons]
      simp
end Go.Proofs.YtglncfhcgkihbaaGreatDoor

namespace Go.Proofs.YtglncfhcgkihbaaGreatDoor
open Go.Eng Go.Wh
set_option maxRecDepth 20000
set_option linter.unusedSimpArgs false
set_option linter.unusedVariables false
attribute [local irreducible] AG CallA CallT AWp PCall ACall AgC
@[go_sem] abbrev cS (s : List UInt8) : List D := [.v (.string ⟨s.toArray⟩)]
@[go_sem] abbrev dSs (l : List (List UInt8)) : D := .sl 1 (l.map cS)
@[go_sem] abbrev dF (n : Nat) : D := .v (.func (.func n) #[] #[])
def fidx {α : Type} (p : α → Bool) : List α → Int
  | [] => -1
  | x :: l => if p x then 0 else if fidx p l = -1 then -1 else fidx p l + 1
theorem fidx_ge {α : Type} (p : α → Bool) (l : List α) : -1 ≤ fidx p l := by
  induction l with
  | nil => simp [fidx]
  | cons x l ih =>
    simp only [fidx]
    split
    · omega
    · split <;> omega
theorem fidx_at {α : Type} {p : α → Bool} : ∀ {l : List α} {i : Nat} {x : α}, (l.take i).any p = false → l[i]? = some x → p x = true → fidx p l = i
  | [], i, x, _, h, _ => by simp at h
  | y :: l, 0, x, _, h, hp => by simp at h; subst h; simp [fidx, hp]
  | y :: l, i + 1, x, h1, h, hp => by
    simp only [List.take_succ_cons, List.any_cons, Bool.or_eq_false_iff] at h1
    have ih := fidx_at h1.2 (by simpa using h) hp
    simp only [fidx, h1.1, Bool.false_eq_true, if_false, ih]
    rw [if_neg (by omega)]
    simp
theorem fidx_none {α : Type} {p : α → Bool} {l : List α} (h : l.any p = false) : fidx p l = -1 := by
  induction l with
  | nil => rfl
  | cons x l ih =>
    simp only [List.any_cons, Bool.or_eq_false_iff] at h
    simp [fidx, h.1, ih h.2]
theorem fidx_any {α : Type} (p : α → Bool) (l : List α) : decide (0 ≤ fidx p l) = l.any p := by
  induction l with
  | nil => rfl
  | cons x l ih =>
    have hg := fidx_ge p l
    simp only [List.any_cons]
    rw [← ih]
    by_cases h : p x = true
    · simp [fidx, h]
    · have h := Bool.eq_false_iff.2 h
      simp only [fidx, h, Bool.false_eq_true, if_false, Bool.false_or]
      refine decide_eq_decide.2 ?_
      split <;> omega
theorem take_any {α : Type} {p : α → Bool} {l : List α} {i : Nat} {x : α} (h : (l.take i).any p = false) (hx : l[i]? = some x) (hp : p x = false) : (l.take (i + 1)).any p = false := by
  rw [List.take_add_one, hx, List.any_append, h]
  simp [hp]

theorem vone_spec (a : List UInt8) (hl : a.length ≤ 1000000000) : PCall Tryz.prog 93 [dS a] fun r => r = dB (!numOk a) := by 
  refine pcall_of Tryz.func93 rfl rfl Tryz.ntmps93 (rs := [.tmp 2]) (tys := [4]) rfl rfl (by simp) ?_
  (refine awp_sr fun KK hKK => ?_; simp [go_sem]; ((repeat' (first|(refine ag_x ?_;simp [go_sem])|intro _|refine And.intro ?_ ?_|(apply hKK;clear hKK KK)));all_goals first|refine Hold.mk ?_|omega|with_reducible assumption|(simp only [InR] at *;omega)|skip))
  (refine awp_sr fun KK hKK => ?_; simp [go_sem]; ((repeat' (first|(refine ag_x ?_;simp [go_sem])|intro _|refine And.intro ?_ ?_|(apply hKK;clear hKK KK)));all_goals first|refine Hold.mk ?_|omega|with_reducible assumption|(simp only [InR] at *;omega)|skip))
  ((try refine CallT.toA ?_); refine callT_m (by first | exact .inl ⟨rfl, rfl⟩ | exact .inr rfl) (by simp [go_sem]) ?_; intro args ha; simp [go_sem] at ha; subst ha; refine ⟨_, (valid_spec a hl), ?_⟩; rintro _ rfl; simp [go_sem]; ((repeat' (first|(refine ag_x ?_;simp [go_sem])|intro _|refine And.intro ?_ ?_|(apply hKK;clear hKK KK)));all_goals first|refine Hold.mk ?_|omega|with_reducible assumption|(simp only [InR] at *;omega)|skip))
  (refine awp_ret ?_; simp [go_sem])
theorem idxF_spec (l : List (List UInt8)) (hs : ∀ x ∈ l, x.length ≤ 1000000000) (hl : l.length ≤ 1000000) : PCall Tryz.prog 131 [dSs l, dF 93] fun r => r = dI (fidx (fun x => !numOk x) l) := by 
  refine pcall_of Tryz.func131 rfl rfl Tryz.ntmps131 (rs := [.tmp 4]) (tys := [3]) rfl rfl (by simp) ?_
  (refine awp_sr fun KK hKK => ?_; simp [go_sem]; ((repeat' (first|(refine ag_x ?_;simp [go_sem])|intro _|refine And.intro ?_ ?_|(apply hKK;clear hKK KK)));all_goals first|refine Hold.mk ?_|omega|with_reducible assumption|(simp only [InR] at *;omega)|skip))
  refine awp_seq_k fun K1 hK1 => ?_
  (refine awp_sr fun KK hKK => ?_; simp [go_sem]; ((repeat' (first|(refine ag_x ?_;simp [go_sem])|intro _|refine And.intro ?_ ?_|(apply hKK;clear hKK KK)));all_goals first|refine Hold.mk ?_|omega|with_reducible assumption|(simp only [InR] at *;omega)|skip))
  refine awp_block ?_
  refine awp_loop (σ := Nat) (fun i => ⟨[(0, dSs l), (1, dF 93), (7, dI l.length), (8, dI i)], []⟩) (fun i => i ≤ l.length ∧ (l.take i).any (fun x => !numOk x) = false) (fun i => l.length - i) 0 ?_ ?_ ?_
  · (refine cov_of ?_ ?_ <;> simp [go_sem])
  · simp
  rintro i ⟨hi, hany⟩
  (refine awp_sr fun KK hKK => ?_; simp [go_sem]; ((repeat' (first|(refine ag_x ?_;simp [go_sem])|intro _|refine And.intro ?_ ?_|(apply hKK;clear hKK KK)));all_goals first|refine Hold.mk ?_|omega|with_reducible assumption|(simp only [InR] at *;omega)|skip))
  refine awp_seq_k fun K2 hK2 => ?_
  (refine awp_if fun T F hT hF => ?_; simp [go_sem]; refine BR.intro (fun h3 => hT ?_) (fun h3 => hF ?_); all_goals clear hT hF T F; try simp at h3) 
  · refine awp_skip ?_
    refine hK2 _ ?_; clear hK2
    obtain ⟨x, hx⟩ : ∃ x, l[i]? = some x := ⟨_, List.getElem?_eq_getElem h3⟩
    refine awp_seq_k fun K4 hK4 => ?_
    refine awp_block ?_
    (refine awp_sr fun KK hKK => ?_; simp [go_sem]; ((repeat' (first|(refine ag_x ?_;simp [go_sem])|intro _|refine And.intro ?_ ?_|(apply hKK;clear hKK KK)));all_goals first|refine Hold.mk ?_|omega|with_reducible assumption|(simp only [InR] at *;omega)|skip))
    (refine awp_sr fun KK hKK => ?_; simp [go_sem, hx]; ((repeat' (first|(refine ag_x ?_;simp [go_sem, hx])|intro _|refine And.intro ?_ ?_|(apply hKK;clear hKK KK)));all_goals first|refine Hold.mk ?_|omega|with_reducible assumption|(simp only [InR] at *;omega)|skip))
    ((try refine CallT.toA ?_); refine callT_m (by first | exact .inl ⟨rfl, rfl⟩ | exact .inr rfl) (by simp [go_sem]) ?_; intro args ha; simp [go_sem] at ha; subst ha; refine ⟨_, (vone_spec x (hs x (List.mem_of_getElem? hx))), ?_⟩; rintro _ rfl; simp [go_sem]; ((repeat' (first|(refine ag_x ?_;simp [go_sem])|intro _|refine And.intro ?_ ?_|(apply hKK;clear hKK KK)));all_goals first|refine Hold.mk ?_|omega|with_reducible assumption|(simp only [InR] at *;omega)|skip))
    (refine awp_if fun T F hT hF => ?_; simp [go_sem]; refine BR.intro (fun h5 => hT ?_) (fun h5 => hF ?_); all_goals clear hT hF T F; try simp at h5)
    · (refine awp_sr fun KK hKK => ?_; simp [go_sem]; ((repeat' (first|(refine ag_x ?_;simp [go_sem])|intro _|refine And.intro ?_ ?_|(apply hKK;clear hKK KK)));all_goals first|refine Hold.mk ?_|omega|with_reducible assumption|(simp only [InR] at *;omega)|skip))
      (refine awp_ret ?_; simp [go_sem])
      rw [fidx_at hany hx (by simp [h5])]
    · refine awp_skip ?_
      simp only [go_sem]
      refine hK4 _ ?_; clear hK4
      (refine awp_r fun KK hKK => ?_; simp [go_sem]; ((repeat' (first|(refine ag_x ?_;simp [go_sem])|intro _|refine And.intro ?_ ?_|(apply hKK;clear hKK KK)));all_goals first|refine Hold.mk ?_|omega|with_reducible assumption|(simp only [InR] at *;omega)|skip))
      refine ⟨i + 1, ?_, ⟨h3, ?_⟩, by omega⟩
      · (refine cov_of ?_ ?_ <;> simp [go_sem])
      · exact take_any hany hx (by simp [h5])
  · refine awp_exit ?_
    simp only [go_sem]
    refine hK1 _ ?_; clear hK1
    (refine awp_sr fun KK hKK => ?_; simp [go_sem]; ((repeat' (first|(refine ag_x ?_;simp [go_sem])|intro _|refine And.intro ?_ ?_|(apply hKK;clear hKK KK)));all_goals first|refine Hold.mk ?_|omega|with_reducible assumption|(simp only [InR] at *;omega)|skip))
    (refine awp_ret ?_; simp [go_sem])
    have : i = l.length := by omega
    subst this
    rw [List.take_length] at hany
    rw [fidx_none hany]
theorem valids_spec (l : List (List UInt8)) (hs : ∀ x ∈ l, x.length ≤ 1000000000) (hl : l.length ≤ 1000000) : PCall Tryz.prog 48 [dSs l] fun r => r = dB (l.all numOk) := by 
  have h38 : PCall Tryz.prog 92 [dSs l, dF 93] fun r => r = dB (l.any fun x => !numOk x) := by
    refine pcall_of Tryz.func92 rfl rfl Tryz.ntmps92 (rs := [.tmp 4]) (tys := [4]) rfl rfl (by simp) ?_
    (refine awp_sr fun KK hKK => ?_; simp [go_sem]; ((repeat' (first|(refine ag_x ?_;simp [go_sem])|intro _|refine And.intro ?_ ?_|(apply hKK;clear hKK KK)));all_goals first|refine Hold.mk ?_|omega|with_reducible assumption|(simp only [InR] at *;omega)|skip))
    (refine awp_sr fun KK hKK => ?_; simp [go_sem]; ((repeat' (first|(refine ag_x ?_;simp [go_sem])|intro _|refine And.intro ?_ ?_|(apply hKK;clear hKK KK)));all_goals first|refine Hold.mk ?_|omega|with_reducible assumption|(simp only [InR] at *;omega)|skip))
    ((try refine CallT.toA ?_); refine callT_m (by first | exact .inl ⟨rfl, rfl⟩ | exact .inr rfl) (by simp [go_sem]) ?_; intro args ha; simp [go_sem] at ha; subst ha; refine ⟨_, (idxF_spec l hs hl), ?_⟩; rintro _ rfl; simp [go_sem]; ((repeat' (first|(refine ag_x ?_;simp [go_sem])|intro _|refine And.intro ?_ ?_|(apply hKK;clear hKK KK)));all_goals first|refine Hold.mk ?_|omega|with_reducible assumption|(simp only [InR] at *;omega)|skip))
    (refine awp_ret ?_; simp [go_sem, fidx_any])
  refine pcall_of Tryz.func48 rfl rfl Tryz.ntmps48 (rs := [.tmp 2]) (tys := [4]) rfl rfl (by simp) ?_
  (refine awp_sr fun KK hKK => ?_; simp [go_sem]; ((repeat' (first|(refine ag_x ?_;simp [go_sem])|intro _|refine And.intro ?_ ?_|(apply hKK;clear hKK KK)));all_goals first|refine Hold.mk ?_|omega|with_reducible assumption|(simp only [InR] at *;omega)|skip))
  (refine awp_sr fun KK hKK => ?_; simp [go_sem]; ((repeat' (first|(refine ag_x ?_;simp [go_sem])|intro _|refine And.intro ?_ ?_|(apply hKK;clear hKK KK)));all_goals first|refine Hold.mk ?_|omega|with_reducible assumption|(simp only [InR] at *;omega)|skip))
  ((try refine CallT.toA ?_); refine callT_m (by first | exact .inl ⟨rfl, rfl⟩ | exact .inr rfl) (by simp [go_sem]) ?_; intro args ha; simp [go_sem] at ha; subst ha; refine ⟨_, h38, ?_⟩; rintro _ rfl; simp [go_sem]; ((repeat' (first|(refine ag_x ?_;simp [go_sem])|intro _|refine And.intro ?_ ?_|(apply hKK;clear hKK KK)));all_goals first|refine Hold.mk ?_|omega|with_reducible assumption|(simp only [InR] at *;omega)|skip))
  (refine awp_ret ?_; simp [go_sem])
  rw [List.all_eq_not_any_not, Bool.not_not]
theorem sz_numOk {a : List UInt8} (h : numOk a = true) : sz U (numV a) ≤ 45 := sz_of_dlen (k := 45) (by have := num_dlen h; omega)
theorem numOk_body {a : List UInt8} (h : numOk a = true) : (∀ c ∈ body a, isD c = true) ∧ (body a).length ≤ 400 := by
  unfold numOk at h
  simp only [Bool.and_eq_true, decide_eq_true_eq, List.all_eq_true] at h
  exact ⟨h.2, h.1.1.2⟩
theorem readOk_spec {a : List UInt8} (h : numOk a = true) : PCall Tryz.prog 39 [dS a] fun r => r = dBig (numV a) :=
  read_spec a (numOk_body h).1 (by have := (numOk_body h).2; omega)
theorem sz_neg (n : Int) : sz U (-n) = sz U n := by unfold sz; rw [Int.natAbs_neg]
theorem sub1_spec (m n : Int) (hm : sz U m ≤ 1000000) (hn : sz U n ≤ 1000000) : PCall Tryz.prog 101 [dBig m, dBig n] fun r => r = dBig (m - n) := by 
  refine pcall_of Tryz.func101 rfl rfl Tryz.ntmps101 (rs := [.cell 4 58]) (tys := [58]) rfl rfl (by simp) ?_
  have ha := add_spec m (-n) hm (by rw [sz_neg]; exact hn)
  have hg := neg_spec n
  generalize hnn : -n = nn at *
  rw [show m - n = m + nn by omega]
  (refine awp_sr fun KK hKK => ?_; simp [go_sem]; ((repeat' (first|(refine ag_x ?_;simp [go_sem])|intro _|refine And.intro ?_ ?_|(apply hKK;clear hKK KK)));all_goals first|refine Hold.mk ?_|omega|with_reducible assumption|(simp only [InR] at *;omega)|skip))
  ((refine awp_dr (.qs [0, 1] (.kp 2 (.kp 3 (.one 4 (.nil))))) (by kernel_rfl) ?_ ?_ ?_ ?_); (kernel_rfl); (exact (by decide +kernel)); (kernel_rfl); intro KK hKK; ((repeat' (first|(refine ag_x ?_;simp [go_sem])|refine adr_nil ?_|refine adr_two ?_ ?_|refine adr_kq ?_ ?_|refine adr_three ?_ ?_ ?_|refine adr_four ?_ ?_ ?_ ?_|refine adr_kp2 ?_ ?_|refine adr_kp3 ?_ ?_ ?_|((first|refine adr_qs fun KK hKK=>?_|refine adr_y fun KK hKK=>?_);simp [go_sem])|intro _|refine And.intro ?_ ?_|(apply hKK;clear hKK KK)));all_goals first|refine Hold.mk ?_|omega|with_reducible assumption|(simp only [InR] at *;omega)|skip))
  ((try refine CallT.toA ?_); refine callT_m (by first | exact .inl ⟨rfl, rfl⟩ | exact .inr rfl) (by simp [go_sem]) ?_; intro args ha; simp [go_sem] at ha; subst ha; refine ⟨_, hg, ?_⟩; rintro _ rfl; simp [go_sem]; ((repeat' (first|(refine ag_x ?_;simp [go_sem])|refine adr_nil ?_|refine adr_two ?_ ?_|refine adr_kq ?_ ?_|refine adr_three ?_ ?_ ?_|refine adr_four ?_ ?_ ?_ ?_|refine adr_kp2 ?_ ?_|refine adr_kp3 ?_ ?_ ?_|((first|refine adr_qs fun KK hKK=>?_|refine adr_y fun KK hKK=>?_);simp [go_sem])|intro _|refine And.intro ?_ ?_|(apply hKK;clear hKK KK)));all_goals first|refine Hold.mk ?_|omega|with_reducible assumption|(simp only [InR] at *;omega)|skip))
  ((try refine CallT.toA ?_); refine callT_m (by first | exact .inl ⟨rfl, rfl⟩ | exact .inr rfl) (by simp [go_sem]) ?_; intro args ha; simp [go_sem] at ha; subst ha; refine ⟨_, ha, ?_⟩; rintro _ rfl; simp [go_sem]; ((repeat' (first|(refine ag_x ?_;simp [go_sem])|refine adr_nil ?_|refine adr_two ?_ ?_|refine adr_kq ?_ ?_|refine adr_three ?_ ?_ ?_|refine adr_four ?_ ?_ ?_ ?_|refine adr_kp2 ?_ ?_|refine adr_kp3 ?_ ?_ ?_|((first|refine adr_qs fun KK hKK=>?_|refine adr_y fun KK hKK=>?_);simp [go_sem])|intro _|refine And.intro ?_ ?_|(apply hKK;clear hKK KK)));all_goals first|refine Hold.mk ?_|omega|with_reducible assumption|(simp only [InR] at *;omega)|skip))
  (refine awp_ret ?_; simp [go_sem])
def res2 (a b : List UInt8) (f : Int → Int → Int) : D :=
  if numOk a && numOk b then (if dlen (f (numV a) (numV b)) ≤ 400 then .tup [dS (Lib.itoa (f (numV a) (numV b))), dI 0] else .tup [dS [], dI 2]) else .tup [dS [], dI 1]
theorem two_spec (a b : List UInt8) (ha : a.length ≤ 1000000000) (hb : b.length ≤ 1000000000) (f : Nat) (F : Int → Int → Int) (hF : ∀ m n, sz U m ≤ 45 → sz U n ≤ 45 → sz U (F m n) ≤ 1000000 ∧ PCall Tryz.prog f [dBig m, dBig n] fun r => r = dBig (F m n)) :
    PCall Tryz.prog 65 [dS a, dS b, dF f] fun r => r = res2 a b F := by 
  refine pcall_of Tryz.func65 rfl rfl Tryz.ntmps65 (rs := [.tmp 6, .tmp 7]) (tys := [9, 31]) rfl rfl (by simp) ?_
  unfold res2
  have hv : PCall Tryz.prog 48 [.sl 1 [cS a, cS b]] fun r => r = dB (numOk a && numOk b) := by
    have := valids_spec [a, b] (by intro x hx; simp at hx; rcases hx with rfl | rfl <;> assumption) (by simp)
    simp only [List.all_cons, List.all_nil, Bool.and_true] at this
    exact this
  generalize hok : (numOk a && numOk b) = ok at *
  (refine awp_sr fun KK hKK => ?_; simp [go_sem]; ((repeat' (first|(refine ag_x ?_;simp [go_sem])|intro _|refine And.intro ?_ ?_|(apply hKK;clear hKK KK)));all_goals first|refine Hold.mk ?_|omega|with_reducible assumption|(simp only [InR] at *;omega)|skip))
  refine awp_seq_k fun K1 hK1 => ?_
  (refine awp_sr fun KK hKK => ?_; simp [go_sem]; ((repeat' (first|(refine ag_x ?_;simp [go_sem])|intro _|refine And.intro ?_ ?_|(apply hKK;clear hKK KK)));all_goals first|refine Hold.mk ?_|omega|with_reducible assumption|(simp only [InR] at *;omega)|skip))
  ((try refine CallT.toA ?_); refine callT_z (by first | exact .inl ⟨rfl, rfl⟩ | exact .inr rfl) rfl (by simp [go_sem]) (by simp [go_sem]) ?_; intro args ha; simp [go_sem] at ha; subst ha; refine ⟨_, hv, ?_⟩; rintro _ rfl; simp [go_sem]; ((repeat' (first|(refine ag_x ?_;simp [go_sem])|intro _|refine And.intro ?_ ?_|(apply hKK;clear hKK KK)));all_goals first|refine Hold.mk ?_|omega|with_reducible assumption|(simp only [InR] at *;omega)|skip))
  cases ok with
  | false =>
    (refine awp_if fun T F hT hF => ?_; simp [go_sem]; refine hT ?_; clear hT hF T F)
    (refine awp_sr fun KK hKK => ?_; simp [go_sem]; ((repeat' (first|(refine ag_x ?_;simp [go_sem])|intro _|refine And.intro ?_ ?_|(apply hKK;clear hKK KK)));all_goals first|refine Hold.mk ?_|omega|with_reducible assumption|(simp only [InR] at *;omega)|skip))
    (refine awp_ret ?_; simp [go_sem])
  | true =>
    (refine awp_if fun T F hT hF => ?_; simp [go_sem]; refine hF ?_; clear hT hF T F)
    refine awp_skip ?_
    refine hK1 _ ?_; clear hK1
    simp only [Bool.and_eq_true] at hok
    obtain ⟨q1, q2⟩ := hF _ _ (sz_numOk hok.1) (sz_numOk hok.2)
    have r1 := readOk_spec hok.1
    have r2 := readOk_spec hok.2
    have t3 := told_spec _ q1
    generalize numV a = m at *
    generalize numV b = n at *
    generalize F m n = k at *
    (refine awp_sr fun KK hKK => ?_; simp [go_sem]; ((repeat' (first|(refine ag_x ?_;simp [go_sem])|intro _|refine And.intro ?_ ?_|(apply hKK;clear hKK KK)));all_goals first|refine Hold.mk ?_|omega|with_reducible assumption|(simp only [InR] at *;omega)|skip))
    ((try refine CallT.toA ?_); refine callT_m (by first | exact .inl ⟨rfl, rfl⟩ | exact .inr rfl) (by simp [go_sem]) ?_; intro args ha; simp [go_sem] at ha; subst ha; refine ⟨_, r1, ?_⟩; rintro _ rfl; simp [go_sem]; ((repeat' (first|(refine ag_x ?_;simp [go_sem])|intro _|refine And.intro ?_ ?_|(apply hKK;clear hKK KK)));all_goals first|refine Hold.mk ?_|omega|with_reducible assumption|(simp only [InR] at *;omega)|skip))
    ((try refine CallT.toA ?_); refine callT_m (by first | exact .inl ⟨rfl, rfl⟩ | exact .inr rfl) (by simp [go_sem]) ?_; intro args ha; simp [go_sem] at ha; subst ha; refine ⟨_, r2, ?_⟩; rintro _ rfl; simp [go_sem]; ((repeat' (first|(refine ag_x ?_;simp [go_sem])|intro _|refine And.intro ?_ ?_|(apply hKK;clear hKK KK)));all_goals first|refine Hold.mk ?_|omega|with_reducible assumption|(simp only [InR] at *;omega)|skip))
    ((try refine CallT.toA ?_); refine callT_m (by first | exact .inl ⟨rfl, rfl⟩ | exact .inr rfl) (by simp [go_sem]) ?_; intro args ha; simp [go_sem] at ha; subst ha; refine ⟨_, q2, ?_⟩; rintro _ rfl; simp [go_sem]; ((repeat' (first|(refine ag_x ?_;simp [go_sem])|intro _|refine And.intro ?_ ?_|(apply hKK;clear hKK KK)));all_goals first|refine Hold.mk ?_|omega|with_reducible assumption|(simp only [InR] at *;omega)|skip))
    by_cases hd : dlen k ≤ 400
    · rw [if_pos hd] at t3
      ((try refine CallT.toA ?_); refine callT_m (by first | exact .inl ⟨rfl, rfl⟩ | exact .inr rfl) (by simp [go_sem]) ?_; intro args ha; simp [go_sem] at ha; subst ha; refine ⟨_, t3, ?_⟩; rintro _ rfl; simp [go_sem]; ((repeat' (first|(refine ag_x ?_;simp [go_sem])|intro _|refine And.intro ?_ ?_|(apply hKK;clear hKK KK)));all_goals first|refine Hold.mk ?_|omega|with_reducible assumption|(simp only [InR] at *;omega)|skip))
      (refine awp_ret ?_; simp [go_sem, hd])
    · rw [if_neg hd] at t3
      ((try refine CallT.toA ?_); refine callT_m (by first | exact .inl ⟨rfl, rfl⟩ | exact .inr rfl) (by simp [go_sem]) ?_; intro args ha; simp [go_sem] at ha; subst ha; refine ⟨_, t3, ?_⟩; rintro _ rfl; simp [go_sem]; ((repeat' (first|(refine ag_x ?_;simp [go_sem])|intro _|refine And.intro ?_ ?_|(apply hKK;clear hKK KK)));all_goals first|refine Hold.mk ?_|omega|with_reducible assumption|(simp only [InR] at *;omega)|skip))
      (refine awp_ret ?_; simp [go_sem, hd])
theorem sz_small {m : Int} (h : sz U m ≤ 45) : sz U m ≤ 1000000 := by omega
theorem res2_tup (a b : List UInt8) (f : Int → Int → Int) : ∃ x e, res2 a b f = .tup [dS x, dI e] := by
  unfold res2; split
  · split <;> exact ⟨_, _, rfl⟩
  · exact ⟨_, _, rfl⟩
theorem Add_spec (a b : List UInt8) (ha : a.length ≤ 1000000000) (hb : b.length ≤ 1000000000) : PCall Tryz.prog 21 [dS a, dS b] fun r => r = res2 a b (fun m n => m + n) := by 
  have h := two_spec a b ha hb 63 (fun m n => m + n) fun m n hm hn => ⟨by have := sz_add (B := U) (by decide) m n; show sz U (m + n) ≤ _; omega, add_spec m n (sz_small hm) (sz_small hn)⟩
  obtain ⟨x, e, hr⟩ := res2_tup a b (fun m n => m + n)
  rw [hr] at h ⊢
  refine pcall_of Tryz.func21 rfl rfl Tryz.ntmps21 (rs := [.tmp 4, .tmp 5]) (tys := [9, 31]) rfl rfl (by simp) ?_
  (refine awp_sr fun KK hKK => ?_; simp [go_sem]; ((repeat' (first|(refine ag_x ?_;simp [go_sem])|intro _|refine And.intro ?_ ?_|(apply hKK;clear hKK KK)));all_goals first|refine Hold.mk ?_|omega|with_reducible assumption|(simp only [InR] at *;omega)|skip))
  (refine awp_sr fun KK hKK => ?_; simp [go_sem]; ((repeat' (first|(refine ag_x ?_;simp [go_sem])|intro _|refine And.intro ?_ ?_|(apply hKK;clear hKK KK)));all_goals first|refine Hold.mk ?_|omega|with_reducible assumption|(simp only [InR] at *;omega)|skip))
  ((try refine CallT.toA ?_); refine callT_m (by first | exact .inl ⟨rfl, rfl⟩ | exact .inr rfl) (by simp [go_sem]) ?_; intro args ha; simp [go_sem] at ha; subst ha; refine ⟨_, h, ?_⟩; rintro _ rfl; simp [go_sem]; ((repeat' (first|(refine ag_x ?_;simp [go_sem])|intro _|refine And.intro ?_ ?_|(apply hKK;clear hKK KK)));all_goals first|refine Hold.mk ?_|omega|with_reducible assumption|(simp only [InR] at *;omega)|skip))
  (refine awp_ret ?_; simp [go_sem])
theorem Sub_spec (a b : List UInt8) (ha : a.length ≤ 1000000000) (hb : b.length ≤ 1000000000) : PCall Tryz.prog 52 [dS a, dS b] fun r => r = res2 a b (fun m n => m - n) := by 
  have h := two_spec a b ha hb 101 (fun m n => m - n) fun m n hm hn => ⟨by have := sz_add (B := U) (by decide) m (-n); rw [sz_neg] at this; show sz U (m - n) ≤ _; rw [Int.sub_eq_add_neg]; omega, sub1_spec m n (sz_small hm) (sz_small hn)⟩
  obtain ⟨x, e, hr⟩ := res2_tup a b (fun m n => m - n)
  rw [hr] at h ⊢
  refine pcall_of Tryz.func52 rfl rfl Tryz.ntmps52 (rs := [.tmp 4, .tmp 5]) (tys := [9, 31]) rfl rfl (by simp) ?_
  (refine awp_sr fun KK hKK => ?_; simp [go_sem]; ((repeat' (first|(refine ag_x ?_;simp [go_sem])|intro _|refine And.intro ?_ ?_|(apply hKK;clear hKK KK)));all_goals first|refine Hold.mk ?_|omega|with_reducible assumption|(simp only [InR] at *;omega)|skip))
  (refine awp_sr fun KK hKK => ?_; simp [go_sem]; ((repeat' (first|(refine ag_x ?_;simp [go_sem])|intro _|refine And.intro ?_ ?_|(apply hKK;clear hKK KK)));all_goals first|refine Hold.mk ?_|omega|with_reducible assumption|(simp only [InR] at *;omega)|skip))
  ((try refine CallT.toA ?_); refine callT_m (by first | exact .inl ⟨rfl, rfl⟩ | exact .inr rfl) (by simp [go_sem]) ?_; intro args ha; simp [go_sem] at ha; subst ha; refine ⟨_, h, ?_⟩; rintro _ rfl; simp [go_sem]; ((repeat' (first|(refine ag_x ?_;simp [go_sem])|intro _|refine And.intro ?_ ?_|(apply hKK;clear hKK KK)));all_goals first|refine Hold.mk ?_|omega|with_reducible assumption|(simp only [InR] at *;omega)|skip))
  (refine awp_ret ?_; simp [go_sem])
theorem Mul_spec (a b : List UInt8) (ha : a.length ≤ 1000000000) (hb : b.length ≤ 1000000000) : PCall Tryz.prog 20 [dS a, dS b] fun r => r = res2 a b (fun m n => m * n) := by 
  have h := two_spec a b ha hb 41 (fun m n => m * n) fun m n hm hn => ⟨by have := sz_mul (B := U) (by decide) m n; show sz U (m * n) ≤ _; omega, mul_spec m n (sz_small hm) (sz_small hn)⟩
  obtain ⟨x, e, hr⟩ := res2_tup a b (fun m n => m * n)
  rw [hr] at h ⊢
  refine pcall_of Tryz.func20 rfl rfl Tryz.ntmps20 (rs := [.tmp 4, .tmp 5]) (tys := [9, 31]) rfl rfl (by simp) ?_
  (refine awp_sr fun KK hKK => ?_; simp [go_sem]; ((repeat' (first|(refine ag_x ?_;simp [go_sem])|intro _|refine And.intro ?_ ?_|(apply hKK;clear hKK KK)));all_goals first|refine Hold.mk ?_|omega|with_reducible assumption|(simp only [InR] at *;omega)|skip))
  (refine awp_sr fun KK hKK => ?_; simp [go_sem]; ((repeat' (first|(refine ag_x ?_;simp [go_sem])|intro _|refine And.intro ?_ ?_|(apply hKK;clear hKK KK)));all_goals first|refine Hold.mk ?_|omega|with_reducible assumption|(simp only [InR] at *;omega)|skip))
  ((try refine CallT.toA ?_); refine callT_m (by first | exact .inl ⟨rfl, rfl⟩ | exact .inr rfl) (by simp [go_sem]) ?_; intro args ha; simp [go_sem] at ha; subst ha; refine ⟨_, h, ?_⟩; rintro _ rfl; simp [go_sem]; ((repeat' (first|(refine ag_x ?_;simp [go_sem])|intro _|refine And.intro ?_ ?_|(apply hKK;clear hKK KK)));all_goals first|refine Hold.mk ?_|omega|with_reducible assumption|(simp only [InR] at *;omega)|skip))
  (refine awp_ret ?_; simp [go_sem])
/-- what Compare answers -/
def cmpV (m n : Int) : Int := sgn (m - n)
theorem compare_spec (m n : Int) : PCall Tryz.prog 64 [dBig m, dBig n] fun r => r = dI (cmpV m n) := by 
  refine pcall_of Tryz.func64 rfl rfl Tryz.ntmps64 (rs := [.tmp 4]) (tys := [3]) rfl rfl (by simp) ?_
  (refine awp_sr fun KK hKK => ?_; simp [go_sem]; ((repeat' (first|(refine ag_x ?_;simp [go_sem])|intro _|refine And.intro ?_ ?_|(apply hKK;clear hKK KK)));all_goals first|refine Hold.mk ?_|omega|with_reducible assumption|(simp only [InR] at *;omega)|skip))
  refine awp_seq_k fun K1 hK1 => ?_
  (refine awp_sr fun KK hKK => ?_; simp [go_sem]; ((repeat' (first|(refine ag_x ?_;simp [go_sem])|intro _|refine And.intro ?_ ?_|(apply hKK;clear hKK KK)));all_goals first|refine Hold.mk ?_|omega|with_reducible assumption|(simp only [InR] at *;omega)|skip))
  (refine awp_if fun T F hT hF => ?_; simp [go_sem]; refine BR.intro (fun h2 => hT ?_) (fun h2 => hF ?_); all_goals clear hT hF T F; try simp at h2) 
  · refine awp_seq_k fun K3 hK3 => ?_
    (refine awp_sr fun KK hKK => ?_; simp [go_sem]; ((repeat' (first|(refine ag_x ?_;simp [go_sem])|intro _|refine And.intro ?_ ?_|(apply hKK;clear hKK KK)));all_goals first|refine Hold.mk ?_|omega|with_reducible assumption|(simp only [InR] at *;omega)|skip))
    (refine awp_if fun T F hT hF => ?_; simp [go_sem]; refine BR.intro (fun h4 => hT ?_) (fun h4 => hF ?_); all_goals clear hT hF T F; try simp at h4) 
    · (refine awp_sr fun KK hKK => ?_; simp [go_sem]; ((repeat' (first|(refine ag_x ?_;simp [go_sem])|intro _|refine And.intro ?_ ?_|(apply hKK;clear hKK KK)));all_goals first|refine Hold.mk ?_|omega|with_reducible assumption|(simp only [InR] at *;omega)|skip))
      (refine awp_ret ?_; simp [go_sem, h2, h4])
      unfold cmpV sgn
      rw [if_pos (by omega)]
    · refine awp_skip ?_
      refine hK3 _ ?_; clear hK3
      (refine awp_sr fun KK hKK => ?_; simp [go_sem]; ((repeat' (first|(refine ag_x ?_;simp [go_sem])|intro _|refine And.intro ?_ ?_|(apply hKK;clear hKK KK)));all_goals first|refine Hold.mk ?_|omega|with_reducible assumption|(simp only [InR] at *;omega)|skip))
      (refine awp_ret ?_; simp [go_sem, h2, h4])
      unfold cmpV sgn
      rw [if_neg (by omega), if_pos (by omega)]
  · refine awp_skip ?_
    refine hK1 _ ?_; clear hK1
    refine awp_seq_k fun K5 hK5 => ?_
    (refine awp_sr fun KK hKK => ?_; simp [go_sem]; ((repeat' (first|(refine ag_x ?_;simp [go_sem])|intro _|refine And.intro ?_ ?_|(apply hKK;clear hKK KK)));all_goals first|refine Hold.mk ?_|omega|with_reducible assumption|(simp only [InR] at *;omega)|skip))
    (refine awp_if fun T F hT hF => ?_; simp [go_sem]; refine BR.intro (fun h6 => hT ?_) (fun h6 => hF ?_); all_goals clear hT hF T F; try simp at h6) 
    · (refine awp_sr fun KK hKK => ?_; simp [go_sem]; ((repeat' (first|(refine ag_x ?_;simp [go_sem])|intro _|refine And.intro ?_ ?_|(apply hKK;clear hKK KK)));all_goals first|refine Hold.mk ?_|omega|with_reducible assumption|(simp only [InR] at *;omega)|skip))
      ((try refine CallT.toA ?_); refine callT_m (by first | exact .inl ⟨rfl, rfl⟩ | exact .inr rfl) (by simp [go_sem]) ?_; intro args ha; simp [go_sem] at ha; subst ha; refine ⟨_, (size_spec _ _), ?_⟩; rintro _ rfl; simp [go_sem]; ((repeat' (first|(refine ag_x ?_;simp [go_sem])|intro _|refine And.intro ?_ ?_|(apply hKK;clear hKK KK)));all_goals first|refine Hold.mk ?_|omega|with_reducible assumption|(simp only [InR] at *;omega)|skip))
      (refine awp_ret ?_; simp [go_sem, h2, h6])
      unfold cmpV
      congr 1
      omega
    · refine awp_skip ?_
      refine hK5 _ ?_; clear hK5
      (refine awp_sr fun KK hKK => ?_; simp [go_sem]; ((repeat' (first|(refine ag_x ?_;simp [go_sem])|intro _|refine And.intro ?_ ?_|(apply hKK;clear hKK KK)));all_goals first|refine Hold.mk ?_|omega|with_reducible assumption|(simp only [InR] at *;omega)|skip))
      ((try refine CallT.toA ?_); refine callT_m (by first | exact .inl ⟨rfl, rfl⟩ | exact .inr rfl) (by simp [go_sem]) ?_; intro args ha; simp [go_sem] at ha; subst ha; refine ⟨_, (size_spec _ _), ?_⟩; rintro _ rfl; simp [go_sem]; ((repeat' (first|(refine ag_x ?_;simp [go_sem])|intro _|refine And.intro ?_ ?_|(apply hKK;clear hKK KK)));all_goals first|refine Hold.mk ?_|omega|with_reducible assumption|(simp only [InR] at *;omega)|skip))
      (refine awp_ret ?_; simp [go_sem, h2, h6])
      unfold cmpV
      congr 1
      omega
def resC (a b : List UInt8) : D := if numOk a && numOk b then .tup [dI (cmpV (numV a) (numV b)), dI 0] else .tup [dI 0, dI 1]
theorem Compare_spec (a b : List UInt8) (ha : a.length ≤ 1000000000) (hb : b.length ≤ 1000000000) : PCall Tryz.prog 22 [dS a, dS b] fun r => r = resC a b := by 
  refine pcall_of Tryz.func22 rfl rfl Tryz.ntmps22 (rs := [.tmp 4, .tmp 5]) (tys := [3, 31]) rfl rfl (by simp) ?_
  unfold resC
  have hv : PCall Tryz.prog 48 [.sl 1 [cS a, cS b]] fun r => r = dB (numOk a && numOk b) := by
    have := valids_spec [a, b] (by intro x hx; simp at hx; rcases hx with rfl | rfl <;> assumption) (by simp)
    simp only [List.all_cons, List.all_nil, Bool.and_true] at this
    exact this
  generalize hok : (numOk a && numOk b) = ok at *
  (refine awp_sr fun KK hKK => ?_; simp [go_sem]; ((repeat' (first|(refine ag_x ?_;simp [go_sem])|intro _|refine And.intro ?_ ?_|(apply hKK;clear hKK KK)));all_goals first|refine Hold.mk ?_|omega|with_reducible assumption|(simp only [InR] at *;omega)|skip))
  refine awp_seq_k fun K1 hK1 => ?_
  (refine awp_sr fun KK hKK => ?_; simp [go_sem]; ((repeat' (first|(refine ag_x ?_;simp [go_sem])|intro _|refine And.intro ?_ ?_|(apply hKK;clear hKK KK)));all_goals first|refine Hold.mk ?_|omega|with_reducible assumption|(simp only [InR] at *;omega)|skip))
  ((try refine CallT.toA ?_); refine callT_z (by first | exact .inl ⟨rfl, rfl⟩ | exact .inr rfl) rfl (by simp [go_sem]) (by simp [go_sem]) ?_; intro args ha; simp [go_sem] at ha; subst ha; refine ⟨_, hv, ?_⟩; rintro _ rfl; simp [go_sem]; ((repeat' (first|(refine ag_x ?_;simp [go_sem])|intro _|refine And.intro ?_ ?_|(apply hKK;clear hKK KK)));all_goals first|refine Hold.mk ?_|omega|with_reducible assumption|(simp only [InR] at *;omega)|skip))
  cases ok with
  | false =>
    (refine awp_if fun T F hT hF => ?_; simp [go_sem]; refine hT ?_; clear hT hF T F)
    (refine awp_sr fun KK hKK => ?_; simp [go_sem]; ((repeat' (first|(refine ag_x ?_;simp [go_sem])|intro _|refine And.intro ?_ ?_|(apply hKK;clear hKK KK)));all_goals first|refine Hold.mk ?_|omega|with_reducible assumption|(simp only [InR] at *;omega)|skip))
    (refine awp_ret ?_; simp [go_sem])
  | true =>
    (refine awp_if fun T F hT hF => ?_; simp [go_sem]; refine hF ?_; clear hT hF T F)
    refine awp_skip ?_
    refine hK1 _ ?_; clear hK1
    simp only [Bool.and_eq_true] at hok
    have r1 := readOk_spec hok.1
    have r2 := readOk_spec hok.2
    generalize numV a = m at *
    generalize numV b = n at *
    (refine awp_sr fun KK hKK => ?_; simp [go_sem]; ((repeat' (first|(refine ag_x ?_;simp [go_sem])|intro _|refine And.intro ?_ ?_|(apply hKK;clear hKK KK)));all_goals first|refine Hold.mk ?_|omega|with_reducible assumption|(simp only [InR] at *;omega)|skip))
    ((try refine CallT.toA ?_); refine callT_m (by first | exact .inl ⟨rfl, rfl⟩ | exact .inr rfl) (by simp [go_sem]) ?_; intro args ha; simp [go_sem] at ha; subst ha; refine ⟨_, r1, ?_⟩; rintro _ rfl; simp [go_sem]; ((repeat' (first|(refine ag_x ?_;simp [go_sem])|intro _|refine And.intro ?_ ?_|(apply hKK;clear hKK KK)));all_goals first|refine Hold.mk ?_|omega|with_reducible assumption|(simp only [InR] at *;omega)|skip))
    ((try refine CallT.toA ?_); refine callT_m (by first | exact .inl ⟨rfl, rfl⟩ | exact .inr rfl) (by simp [go_sem]) ?_; intro args ha; simp [go_sem] at ha; subst ha; refine ⟨_, r2, ?_⟩; rintro _ rfl; simp [go_sem]; ((repeat' (first|(refine ag_x ?_;simp [go_sem])|intro _|refine And.intro ?_ ?_|(apply hKK;clear hKK KK)));all_goals first|refine Hold.mk ?_|omega|with_reducible assumption|(simp only [InR] at *;omega)|skip))
    ((try refine CallT.toA ?_); refine callT_m (by first | exact .inl ⟨rfl, rfl⟩ | exact .inr rfl) (by simp [go_sem]) ?_; intro args ha; simp [go_sem] at ha; subst ha; refine ⟨_, (compare_spec m n), ?_⟩; rintro _ rfl; simp [go_sem]; ((repeat' (first|(refine ag_x ?_;simp [go_sem])|intro _|refine And.intro ?_ ?_|(apply hKK;clear hKK KK)));all_goals first|refine Hold.mk ?_|omega|with_reducible assumption|(simp only [InR] at *;omega)|skip))
    (refine awp_ret ?_; simp [go_sem])
def res3 (a b : List UInt8) : D :=
  if numOk a && numOk b then (if numV b = 0 then .tup [dS [], dS [], dI 11] else if dlen (fq (numV a) (numV b)) ≤ 400 then .tup [dS (Lib.itoa (fq (numV a) (numV b))), dS (Lib.itoa (fr (numV a) (numV b))), dI 0] else .tup [dS [], dS [], dI 2]) else .tup [dS [], dS [], dI 1]
theorem num0 {b : List UInt8} (h : numOk b = true) : b = [48] ↔ numV b = 0 := by
  constructor
  · rintro rfl; rfl
  · intro h0
    have := itoa_num h
    rw [h0] at this
    rw [← this, itoa_abs]; simp [Lib.decDigits]
theorem Div_spec (a b : List UInt8) (ha : a.length ≤ 1000000000) (hb : b.length ≤ 1000000000) : PCall Tryz.prog 24 [dS a, dS b] fun r => r = res3 a b := by 
  refine pcall_of Tryz.func24 rfl rfl Tryz.ntmps24 (rs := [.tmp 4, .tmp 5, .tmp 6]) (tys := [9, 9, 31]) rfl rfl (by simp) ?_
  unfold res3
  have hv : PCall Tryz.prog 48 [.sl 1 [cS a, cS b]] fun r => r = dB (numOk a && numOk b) := by
    have := valids_spec [a, b] (by intro x hx; simp at hx; rcases hx with rfl | rfl <;> assumption) (by simp)
    simp only [List.all_cons, List.all_nil, Bool.and_true] at this
    exact this
  generalize hok : (numOk a && numOk b) = ok at *
  (refine awp_sr fun KK hKK => ?_; simp [go_sem]; ((repeat' (first|(refine ag_x ?_;simp [go_sem])|intro _|refine And.intro ?_ ?_|(apply hKK;clear hKK KK)));all_goals first|refine Hold.mk ?_|omega|with_reducible assumption|(simp only [InR] at *;omega)|skip))
  refine awp_seq_k fun K1 hK1 => ?_
  refine awp_block ?_
  (refine awp_sr fun KK hKK => ?_; simp [go_sem]; ((repeat' (first|(refine ag_x ?_;simp [go_sem])|intro _|refine And.intro ?_ ?_|(apply hKK;clear hKK KK)));all_goals first|refine Hold.mk ?_|omega|with_reducible assumption|(simp only [InR] at *;omega)|skip))
  ((try refine CallT.toA ?_); refine callT_z (by first | exact .inl ⟨rfl, rfl⟩ | exact .inr rfl) rfl (by simp [go_sem]) (by simp [go_sem]) ?_; intro args ha; simp [go_sem] at ha; subst ha; refine ⟨_, hv, ?_⟩; rintro _ rfl; simp [go_sem]; ((repeat' (first|(refine ag_x ?_;simp [go_sem])|intro _|refine And.intro ?_ ?_|(apply hKK;clear hKK KK)));all_goals first|refine Hold.mk ?_|omega|with_reducible assumption|(simp only [InR] at *;omega)|skip))
  cases ok with
  | false =>
    (refine awp_if fun T F hT hF => ?_; simp [go_sem]; refine hT ?_; clear hT hF T F)
    (refine awp_sr fun KK hKK => ?_; simp [go_sem]; ((repeat' (first|(refine ag_x ?_;simp [go_sem])|intro _|refine And.intro ?_ ?_|(apply hKK;clear hKK KK)));all_goals first|refine Hold.mk ?_|omega|with_reducible assumption|(simp only [InR] at *;omega)|skip))
    (refine awp_ret ?_; simp [go_sem])
  | true =>
    (refine awp_if fun T F hT hF => ?_; simp [go_sem]; refine hF ?_; clear hT hF T F)
    simp only [Bool.and_eq_true] at hok
    have r1 := readOk_spec hok.1
    have r2 := readOk_spec hok.2
    have hz := num0 hok.2
    have hsm := sz_numOk hok.1
    have hsn := sz_numOk hok.2
    generalize numV a = m at *
    generalize numV b = n at *
    (refine awp_sr fun KK hKK => ?_; simp [go_sem]; ((repeat' (first|(refine ag_x ?_;simp [go_sem])|intro _|refine And.intro ?_ ?_|(apply hKK;clear hKK KK)));all_goals first|refine Hold.mk ?_|omega|with_reducible assumption|(simp only [InR] at *;omega)|skip))
    (refine awp_if fun T F hT hF => ?_; simp [go_sem]; refine BR.intro (fun h3 => hT ?_) (fun h3 => hF ?_); all_goals clear hT hF T F; try simp at h3) 
    · (refine awp_sr fun KK hKK => ?_; simp [go_sem]; ((repeat' (first|(refine ag_x ?_;simp [go_sem])|intro _|refine And.intro ?_ ?_|(apply hKK;clear hKK KK)));all_goals first|refine Hold.mk ?_|omega|with_reducible assumption|(simp only [InR] at *;omega)|skip))
      (refine awp_ret ?_; simp [go_sem])
      exact fun h => absurd (hz.1 h3) h
    · refine awp_skip ?_
      refine hK1 _ ?_; clear hK1
      have hn0 : n ≠ 0 := fun h => h3 (hz.2 h)
      have dv := div_spec m n hn0 (by omega) (by omega)
      have sq : sz U (fq m n) ≤ 1000000 := by
        have h1 := fq_abs m n
        have h2 : sz U (fq m n) ≤ sz U ((m.natAbs : Int) + 1) := sz_abs_le (by omega)
        have h3 := sz_add (B := U) (by decide) (m.natAbs : Int) 1
        have h4 : sz U (m.natAbs : Int) = sz U m := by unfold sz; rw [Int.natAbs_natCast]
        have h5 : sz U 1 = 1 := by show (dg U 1).length = 1; rw [dg_one]; rfl
        omega
      have szr : sz U (fr m n) ≤ 1000000 := by
        have h1 := fr_abs (a := m) hn0
        have h2 : sz U (fr m n) ≤ sz U n := sz_abs_le (by omega)
        omega
      have t1 := text_spec _ sq
      have t2 := text_spec _ szr
      have t3 := long_spec _ sq
      rw [if_neg hn0]
      generalize fq m n = q at *
      generalize fr m n = r at *
      (refine awp_sr fun KK hKK => ?_; simp [go_sem]; ((repeat' (first|(refine ag_x ?_;simp [go_sem])|intro _|refine And.intro ?_ ?_|(apply hKK;clear hKK KK)));all_goals first|refine Hold.mk ?_|omega|with_reducible assumption|(simp only [InR] at *;omega)|skip))
      ((try refine CallT.toA ?_); refine callT_m (by first | exact .inl ⟨rfl, rfl⟩ | exact .inr rfl) (by simp [go_sem]) ?_; intro args ha; simp [go_sem] at ha; subst ha; refine ⟨_, r1, ?_⟩; rintro _ rfl; simp [go_sem]; ((repeat' (first|(refine ag_x ?_;simp [go_sem])|intro _|refine And.intro ?_ ?_|(apply hKK;clear hKK KK)));all_goals first|refine Hold.mk ?_|omega|with_reducible assumption|(simp only [InR] at *;omega)|skip))
      ((try refine CallT.toA ?_); refine callT_m (by first | exact .inl ⟨rfl, rfl⟩ | exact .inr rfl) (by simp [go_sem]) ?_; intro args ha; simp [go_sem] at ha; subst ha; refine ⟨_, r2, ?_⟩; rintro _ rfl; simp [go_sem]; ((repeat' (first|(refine ag_x ?_;simp [go_sem])|intro _|refine And.intro ?_ ?_|(apply hKK;clear hKK KK)));all_goals first|refine Hold.mk ?_|omega|with_reducible assumption|(simp only [InR] at *;omega)|skip))
      ((try refine CallT.toA ?_); refine callT_m (by first | exact .inl ⟨rfl, rfl⟩ | exact .inr rfl) (by simp [go_sem]) ?_; intro args ha; simp [go_sem] at ha; subst ha; refine ⟨_, dv, ?_⟩; rintro _ rfl; simp [go_sem]; ((repeat' (first|(refine ag_x ?_;simp [go_sem])|intro _|refine And.intro ?_ ?_|(apply hKK;clear hKK KK)));all_goals first|refine Hold.mk ?_|omega|with_reducible assumption|(simp only [InR] at *;omega)|skip))
      refine awp_seq_k fun K4 hK4 => ?_
      (refine awp_sr fun KK hKK => ?_; simp [go_sem]; ((repeat' (first|(refine ag_x ?_;simp [go_sem])|intro _|refine And.intro ?_ ?_|(apply hKK;clear hKK KK)));all_goals first|refine Hold.mk ?_|omega|with_reducible assumption|(simp only [InR] at *;omega)|skip))
      ((try refine CallT.toA ?_); refine callT_m (by first | exact .inl ⟨rfl, rfl⟩ | exact .inr rfl) (by simp [go_sem]) ?_; intro args ha; simp [go_sem] at ha; subst ha; refine ⟨_, t3, ?_⟩; rintro _ rfl; simp [go_sem]; ((repeat' (first|(refine ag_x ?_;simp [go_sem])|intro _|refine And.intro ?_ ?_|(apply hKK;clear hKK KK)));all_goals first|refine Hold.mk ?_|omega|with_reducible assumption|(simp only [InR] at *;omega)|skip))
      (refine awp_if fun T F hT hF => ?_; simp [go_sem]; refine BR.intro (fun h5 => hT ?_) (fun h5 => hF ?_); all_goals clear hT hF T F; try simp at h5) 
      · (refine awp_sr fun KK hKK => ?_; simp [go_sem]; ((repeat' (first|(refine ag_x ?_;simp [go_sem])|intro _|refine And.intro ?_ ?_|(apply hKK;clear hKK KK)));all_goals first|refine Hold.mk ?_|omega|with_reducible assumption|(simp only [InR] at *;omega)|skip))
        (refine awp_ret ?_; simp [go_sem])
        omega
      · refine awp_skip ?_
        refine hK4 _ ?_; clear hK4
        ((refine awp_dr (.qs [0, 2] (.kp 1 (.kp 3 (.qs [4, 5, 6] (.nil))))) (by kernel_rfl) ?_ ?_ ?_ ?_); (kernel_rfl); (exact (by decide +kernel)); (kernel_rfl); intro KK hKK; ((repeat' (first|(refine ag_x ?_;simp [go_sem])|refine adr_nil ?_|refine adr_two ?_ ?_|refine adr_kq ?_ ?_|refine adr_three ?_ ?_ ?_|refine adr_four ?_ ?_ ?_ ?_|refine adr_kp2 ?_ ?_|refine adr_kp3 ?_ ?_ ?_|((first|refine adr_qs fun KK hKK=>?_|refine adr_y fun KK hKK=>?_);simp [go_sem])|intro _|refine And.intro ?_ ?_|(apply hKK;clear hKK KK)));all_goals first|refine Hold.mk ?_|omega|with_reducible assumption|(simp only [InR] at *;omega)|skip))
        ((try refine CallT.toA ?_); refine callT_m (by first | exact .inl ⟨rfl, rfl⟩ | exact .inr rfl) (by simp [go_sem]) ?_; intro args ha; simp [go_sem] at ha; subst ha; refine ⟨_, t1, ?_⟩; rintro _ rfl; simp [go_sem]; ((repeat' (first|(refine ag_x ?_;simp [go_sem])|refine adr_nil ?_|refine adr_two ?_ ?_|refine adr_kq ?_ ?_|refine adr_three ?_ ?_ ?_|refine adr_four ?_ ?_ ?_ ?_|refine adr_kp2 ?_ ?_|refine adr_kp3 ?_ ?_ ?_|((first|refine adr_qs fun KK hKK=>?_|refine adr_y fun KK hKK=>?_);simp [go_sem])|intro _|refine And.intro ?_ ?_|(apply hKK;clear hKK KK)));all_goals first|refine Hold.mk ?_|omega|with_reducible assumption|(simp only [InR] at *;omega)|skip))
        ((try refine CallT.toA ?_); refine callT_m (by first | exact .inl ⟨rfl, rfl⟩ | exact .inr rfl) (by simp [go_sem]) ?_; intro args ha; simp [go_sem] at ha; subst ha; refine ⟨_, t2, ?_⟩; rintro _ rfl; simp [go_sem]; ((repeat' (first|(refine ag_x ?_;simp [go_sem])|refine adr_nil ?_|refine adr_two ?_ ?_|refine adr_kq ?_ ?_|refine adr_three ?_ ?_ ?_|refine adr_four ?_ ?_ ?_ ?_|refine adr_kp2 ?_ ?_|refine adr_kp3 ?_ ?_ ?_|((first|refine adr_qs fun KK hKK=>?_|refine adr_y fun KK hKK=>?_);simp [go_sem])|intro _|refine And.intro ?_ ?_|(apply hKK;clear hKK KK)));all_goals first|refine Hold.mk ?_|omega|with_reducible assumption|(simp only [InR] at *;omega)|skip))
        (refine awp_ret ?_; simp [go_sem])
        omega
end Go.Proofs.YtglncfhcgkihbaaGreatDoor
