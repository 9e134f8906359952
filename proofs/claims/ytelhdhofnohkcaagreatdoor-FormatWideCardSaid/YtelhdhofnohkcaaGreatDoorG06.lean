/- Part of a proof: see the last text. -/
import Derived.Test.YtelhdhofnohkcaaGreatDoorG05
import Derived.Sort.Grow
import Derived.Lib.ConvBytes
import Derived.Shelf.Strings.SlTrimAscii
import Derived.Laws.Bits64b
import Derived.WalkKit
set_option linter.unusedVariables false
set_option linter.unusedSimpArgs false
namespace Go.Proofs.YtelhdhofnohkcaaGreatDoor
open Go.Eng Go.RowKit Go.Sort Go.Fm
set_option maxRecDepth 20000
attribute [local irreducible] AG CallA CallT AWp PCall ACall AgC
theorem below_gd (w : World) (k : Nat) (os : Array Obj) : Below w.heap.size w (grow (w.drewN k) os) := by
 have e : (w.drewN k).heap = w.heap := rfl
 refine ⟨rfl, rfl, rfl, by simp [grow, e], fun j hj => ?_⟩
 simp only [grow, e]
 rw [Array.getElem?_append_left hj]
theorem itoa_spec (n : Int) (h : InR n) : PCall Tryz.prog 15 [dI n] fun r => r = dS (showB 10 n) := by
 refine pcall_below ⟨_, Tryz.func15, rfl, rfl⟩ fun C w us hc hg hr => ?_
 have hg : glOk w := hg
 obtain rfl := repL_v (us := [.int .i64 n]) hr
 refine (Tryz.strconv_Itoa n h.1 h.2 w hg.1).mono ?_
 rintro e w' ⟨rfl, k, os, rfl⟩
 exact ⟨_, _, rfl, by rw [itoa_show], .v _, below_gd w k os⟩
theorem fmt10_spec (n : Int) (h : InR n) : PCall Tryz.prog 119 [dI n, dI 10] fun r => r = dS (showB 10 n) := by
 refine pcall_below ⟨_, Tryz.func119, rfl, rfl⟩ fun C w us hc hg hr => ?_
 have hg : glOk w := hg
 obtain rfl := repL_v (us := [.int .i64 n, .int .i64 10]) hr
 refine (Tryz.strconv_FormatInt_10 n h.1 h.2 w hg.1).mono ?_
 rintro e w' ⟨rfl, k, os, rfl⟩
 exact ⟨_, _, rfl, by rw [itoa_show], .v _, below_gd w k os⟩
theorem rep_tup2 {C : Ctx} {w : World} {a b : D} {x y : Value} (h1 : Rep C w a x) (h2 : Rep C w b y) : Rep C w (.tup [a, b]) (.tuple #[x, y]) := by
 refine .tup _ _ rfl fun j c u hc hu => ?_
 match j, hc, hu with
 | 0, hc, hu => simp at hc hu; subst hc hu; exact h1
 | 1, hc, hu => simp at hc hu; subst hc hu; exact h2
 | j + 2, hc, hu => simp at hc
theorem rep_tup3 {C : Ctx} {w : World} {a b c : D} {x y z : Value} (h1 : Rep C w a x) (h2 : Rep C w b y) (h3 : Rep C w c z) : Rep C w (.tup [a, b, c]) (.tuple #[x, y, z]) := by
 refine .tup _ _ rfl fun j c u hc hu => ?_
 match j, hc, hu with
 | 0, hc, hu => simp at hc hu; subst hc hu; exact h1
 | 1, hc, hu => simp at hc hu; subst hc hu; exact h2
 | 2, hc, hu => simp at hc hu; subst hc hu; exact h3
 | j + 3, hc, hu => simp at hc
abbrev idxV (s : Bs) (c : UInt8) : Int := if s.findIdx (· == c) < s.length then (s.findIdx (· == c) : Int) else -1
theorem idxB_spec (s : Bs) (c : UInt8) : PCall Tryz.prog 62 [dS s, dU c] fun r => r = dI (idxV s c) := by
 refine pcall_below ⟨_, Tryz.func62, rfl, rfl⟩ fun C w us hc hg hr => ?_
 obtain rfl := repL_v (us := [.string ⟨s.toArray⟩, .int .u8 c.toNat]) hr
 refine (Tryz.strings_IndexByte ⟨s.toArray⟩ c.toNat w).mono ?_
 rintro e w' ⟨rfl, rfl⟩
 have e1 : ((c.toNat : Int).toNat.toUInt8) = c := by simp
 have e2 : (⟨s.toArray⟩ : ByteArray).data.toList = s := by simp
 exact ⟨_, _, rfl, by rw [e1, e2, indexByte_find], .v _, Below.refl _ _⟩
theorem hasPre_spec (s p : Bs) : PCall Tryz.prog 60 [dS s, dS p] fun r => r = dB (p.isPrefixOf s) := by
 refine pcall_below ⟨_, Tryz.func60, rfl, rfl⟩ fun C w us hc hg hr => ?_
 obtain rfl := repL_v (us := [.string ⟨s.toArray⟩, .string ⟨p.toArray⟩]) hr
 refine (Tryz.strings_HasPrefix ⟨s.toArray⟩ ⟨p.toArray⟩ w).mono ?_
 rintro e w' ⟨rfl, rfl⟩
 exact ⟨_, _, rfl, by simp [Lib.hasPrefix], .v _, Below.refl _ _⟩
theorem trimPre_spec (s p : Bs) : PCall Tryz.prog 116 [dS s, dS p] fun r => r = dS (Lib.trimPrefix s p) := by
 refine pcall_below ⟨_, Tryz.func116, rfl, rfl⟩ fun C w us hc hg hr => ?_
 obtain rfl := repL_v (us := [.string ⟨s.toArray⟩, .string ⟨p.toArray⟩]) hr
 refine (Tryz.strings_TrimPrefix ⟨s.toArray⟩ ⟨p.toArray⟩ w).mono ?_
 rintro e w' ⟨rfl, rfl⟩
 exact ⟨_, _, rfl, by simp, .v _, Below.refl _ _⟩
theorem ascii_of_all {p : List UInt8} (h : p.all (fun b => decide (b.toNat < 128)) = true) : ∀ (j : Nat) (b : UInt8), p[j]? = some b → b.toNat < 128 := fun j b hb => by
 have := List.all_eq_true.1 h b (List.mem_of_getElem? hb)
 simpa using this
theorem trimS_spec (s p : Bs) (hs : s.length ≤ 9223372036854775807) (hpl : p.length < 4294967281) (hp : p.all (fun b => decide (b.toNat < 128)) = true) : PCall Tryz.prog 117 [dS s, dS p] fun r => r = dS (Lib.trimS s p) := by
 refine pcall_below ⟨_, Tryz.func117, rfl, rfl⟩ fun C w us hc' hg hr => ?_
 obtain rfl := repL_v (us := [.string ⟨s.toArray⟩, .string ⟨p.toArray⟩]) hr
 refine (Any.strings_Trim_laid Tryz.lays160 (by kernel_rfl) ⟨s.toArray⟩ ⟨p.toArray⟩ w (by simpa [ByteArray.size] using hs) (by simpa [ByteArray.size] using hpl) (ascii_of_all (by simpa using hp))).mono ?_
 rintro e w' ⟨rfl, hb⟩
 exact ⟨_, _, rfl, rfl, .v _, hb⟩
theorem rep_spec (c : UInt8) (n : Int) (h0 : 0 ≤ n) (hn : n ≤ 1000000) : PCall Tryz.prog 38 [dS [c], dI n] fun r => r = dS (rep c n) := by
 refine pcall_below ⟨_, Tryz.func38, rfl, rfl⟩ fun C w us hc' hg hr => ?_
 obtain ⟨k, rfl⟩ : ∃ k : Nat, n = k := ⟨n.toNat, by omega⟩
 obtain rfl := repL_v (us := [.string ⟨[c].toArray⟩, .int .i64 k]) hr
 refine (Tryz.strings_Repeat ⟨[c].toArray⟩ k w (by omega) (by simp [ByteArray.size]; omega)).mono ?_
 rintro e w' ⟨rfl, hb⟩
 exact ⟨_, _, rfl, by simp [repeat_rep, rep], .v _, hb⟩
theorem upper_spec (s : Bs) (hl : s.length ≤ 1000000) (ha : s.all (fun b => decide (b.toNat < 128)) = true) : PCall Tryz.prog 120 [dS s] fun r => r = dS (s.map upC) := by
 refine pcall_below ⟨_, Tryz.func120, rfl, rfl⟩ fun C w us hc' hg hr => ?_
 obtain rfl := repL_v (us := [.string ⟨s.toArray⟩]) hr
 refine (Tryz.strings_ToUpper_ascii ⟨s.toArray⟩ w (by simp [ByteArray.size]; omega) (ascii_of_all (by simpa using ha))).mono ?_
 rintro e w' ⟨rfl, hb⟩
 exact ⟨_, _, rfl, by simp [upper_map], .v _, hb⟩
theorem cut_spec (s p : Bs) (hl : s.length < 4294967281) : PCall Tryz.prog 65 [dS s, dS p] fun r => r = .tup [dS (Lib.cut s p).1, dS (Lib.cut s p).2.1, dB (Lib.cut s p).2.2] := by
 refine pcall_below ⟨_, Tryz.func65, rfl, rfl⟩ fun C w us hc hg hr => ?_
 have hg : glOk w := hg
 obtain rfl := repL_v (us := [.string ⟨s.toArray⟩, .string ⟨p.toArray⟩]) hr
 obtain ⟨m, hm⟩ := hg.2.1
 refine (Tryz.strings_Cut ⟨s.toArray⟩ ⟨p.toArray⟩ m w (by simpa [ByteArray.size] using hl) hm).mono ?_
 rintro e w' ⟨rfl, n, rfl⟩
 exact ⟨_, _, rfl, rfl, rep_tup3 (.v _) (.v _) (.v _), ⟨rfl, rfl, rfl, Nat.le_refl _, fun _ _ => rfl⟩⟩
end Go.Proofs.YtelhdhofnohkcaaGreatDoor
namespace Go.Proofs.YtelhdhofnohkcaaGreatDoor
open Go.Eng Go.Fm
set_option maxRecDepth 20000
attribute [local irreducible] AG CallA CallT AWp PCall ACall AgC
@[go_sem] abbrev fdB (g : Nat) (f : Fld) : Nat × (Nat × Blk) := (900003, (g, .box (cF f)))
theorem flagR_end {s : Bs} {a : Nat} (f : Fld) (h : s.length ≤ a) : flagR f (s.drop a) = (f, s.drop a) := by
 rw [List.drop_eq_nil_of_le h]; rfl
def flag1 (f : Fld) (c : UInt8) : Option Fld :=
 if c = 45 then some { f with lf := true } else if c = 48 then some { f with ze := true } else if c = 43 then some { f with pl := true }
 else if c = 32 then some { f with bl := true } else if c = 35 then some { f with ha := true } else none
theorem flagR_step {s : Bs} {a : Nat} {f f' : Fld} (h : flag1 f (pk (s.drop a)) = some f') : a < s.length ∧ flagR f (s.drop a) = flagR f' (s.drop (a + 1)) := by
 have hlt : a < s.length := by
  refine pk_lt fun q => ?_
  rw [q] at h; cases h
 refine ⟨hlt, ?_⟩
 conv => lhs; rw [pk_cons hlt]
 rw [flagR]
 unfold flag1 at h
 generalize pk (s.drop a) = c at *
 by_cases h1 : c = 45
 ·rw [if_pos h1] at h ⊢; cases h; rfl
 rw [if_neg h1] at h ⊢
 by_cases h2 : c = 48
 ·rw [if_pos h2] at h ⊢; cases h; rfl
 rw [if_neg h2] at h ⊢
 by_cases h3 : c = 43
 ·rw [if_pos h3] at h ⊢; cases h; rfl
 rw [if_neg h3] at h ⊢
 by_cases h4 : c = 32
 ·rw [if_pos h4] at h ⊢; cases h; rfl
 rw [if_neg h4] at h ⊢
 by_cases h5 : c = 35
 ·rw [if_pos h5] at h ⊢; cases h; rfl
 rw [if_neg h5] at h; cases h
theorem flagR_stop {s : Bs} {a : Nat} {f : Fld} (h : flag1 f (pk (s.drop a)) = none) : flagR f (s.drop a) = (f, s.drop a) := by
 by_cases hlt : a < s.length
 ·have e := pk_cons hlt
  rw [e]
  rw [flagR]
  unfold flag1 at h
  generalize pk (s.drop a) = c at *
  by_cases h1 : c = 45
  ·rw [if_pos h1] at h; cases h
  rw [if_neg h1] at h ⊢
  by_cases h2 : c = 48
  ·rw [if_pos h2] at h; cases h
  rw [if_neg h2] at h ⊢
  by_cases h3 : c = 43
  ·rw [if_pos h3] at h; cases h
  rw [if_neg h3] at h ⊢
  by_cases h4 : c = 32
  ·rw [if_pos h4] at h; cases h
  rw [if_neg h4] at h ⊢
  by_cases h5 : c = 35
  ·rw [if_pos h5] at h; cases h
  rw [if_neg h5]
 ·exact flagR_end f (by omega)
theorem u8_eqb (c : UInt8) (n : Nat) (hn : n < 256) : decide ((c.toNat : Int) = n) = decide (c = UInt8.ofNat n) := by
 rw [decide_eq_decide]; exact u8_int c n hn
set_option maxHeartbeats 8000000 in
theorem flags_spec (s : Bs) (a : Nat) (f : Fld) (g gf : Nat) (ha : a ≤ s.length) (hl : s.length ≤ 100000) :
  ACall Tryz.prog 98 [.ptr 900002 g 0, .ptr 900003 gf 0] [rdB g s a, fdB gf f] [900002, 900003]
   fun ps r => ps = [(g, .box [dS s, dI (posV s (flagR f (s.drop a)).2)]), (gf, .box (cF (flagR f (s.drop a)).1))] ∧ r = .tup [] := by 
 refine acall_of Tryz.func98 rfl rfl Tryz.ntmps98 (rs := []) (tys := []) rfl rfl (by simp) (by simp [notFroz]) ?_
 generalize hq : flagR f (s.drop a) = q
 obtain ⟨q1, q2⟩ := q
 simp only
 refine awp_block ?_
 refine awp_loop (σ := Fld × Nat) (fun x => ⟨[(0, .ptr 900002 g 0), (1, .ptr 900003 gf 0)], [rdB g s x.2, fdB gf x.1]⟩)
  (fun x => flagR x.1 (s.drop x.2) = (q1, q2) ∧ x.2 ≤ s.length) (fun x => s.length - x.2) (f, a) ?_ ?_ ?_
 ·(refine cov_of ?_ ?_ <;> simp [go_sem])
 ·exact ⟨hq, ha⟩
 rintro ⟨h, i⟩ ⟨hx, hi⟩
 have hp := peek_spec s i hl
 simp only at hx hi ⊢
 refine awp_block ?_
 refine awp_seq_k fun K1 hK1 => ?_
 have hK1' : ∀ S' h', flag1 h (pk (s.drop i)) = some h' → Cov S' ⟨[(0, .ptr 900002 g 0), (1, .ptr 900003 gf 0)], [rdB g s i, fdB gf h']⟩ → K1 S' := fun S' h' hf hS => by
  obtain ⟨hlt, hst⟩ := flagR_step hf
  refine hK1 _ ?_; clear hK1
  refine awp_cov hS ?_; clear hS
  (refine awp_r fun Y Yh => ?_; simp [go_sem]; ((repeat' (first|(refine ag_x ?_;simp [go_sem])|intro _|apply And.intro|(apply Yh;clear Yh Y)));all_goals first|apply Hold.mk|omega|with_reducible assumption|skip))
  refine ⟨(h', i + 1), ?_, ?_, ?_⟩
  ·(refine cov_of ?_ ?_ <;> simp [go_sem])
  ·exact ⟨by rw [← hst, hx], by simp; omega⟩
  ·simp; omega
 clear hK1
 have eqb : ∀ n : Nat, n < 256 → decide (((pk (s.drop i)).toNat : Int) = n) = decide (pk (s.drop i) = UInt8.ofNat n) := fun n hn => u8_eqb _ n hn
 have b45 : decide (((pk (s.drop i)).toNat : Int) = 45) = decide (pk (s.drop i) = 45) := eqb 45 (by decide)
 have b48 : decide (((pk (s.drop i)).toNat : Int) = 48) = decide (pk (s.drop i) = 48) := eqb 48 (by decide)
 have b43 : decide (((pk (s.drop i)).toNat : Int) = 43) = decide (pk (s.drop i) = 43) := eqb 43 (by decide)
 have b32 : decide (((pk (s.drop i)).toNat : Int) = 32) = decide (pk (s.drop i) = 32) := eqb 32 (by decide)
 have b35 : decide (((pk (s.drop i)).toNat : Int) = 35) = decide (pk (s.drop i) = 35) := eqb 35 (by decide)
 (refine awp_sr fun Y Yh => ?_; simp [go_sem]; ((repeat' (first|(refine ag_x ?_;simp [go_sem])|intro _|apply And.intro|(apply Yh;clear Yh Y)));all_goals first|apply Hold.mk|omega|with_reducible assumption|skip))
 ((try refine CallT.toA ?_); refine callT_f (.inl ⟨rfl,rfl⟩) ?_; intro args ha; simp [go_sem] at ha; subst ha; refine ⟨_, hp, ?_⟩; rintro _ rfl; refine ⟨rfl, ?_⟩; simp [go_sem, b45, b48, b43, b32, b35]; ((repeat' (first|(refine ag_x ?_;simp [go_sem, b45, b48, b43, b32, b35])|intro _|apply And.intro|(apply Yh;clear Yh Y)));all_goals first|apply Hold.mk|omega|with_reducible assumption|skip))
 refine awp_block ?_
 (refine awp_sr fun Y Yh => ?_; simp [go_sem, b45]; ((repeat' (first|(refine ag_x ?_;simp [go_sem, b45])|intro _|apply And.intro|(apply Yh;clear Yh Y)));all_goals first|apply Hold.mk|omega|with_reducible assumption|skip))
 by_cases h1 : pk (s.drop i) = 45
 ·(refine awp_if fun T F hT hF => ?_; simp [go_sem, h1]; refine hT ?_; clear hT hF T F)
  (refine awp_r fun Y Yh => ?_; simp [go_sem]; ((repeat' (first|(refine ag_x ?_;simp [go_sem])|intro _|apply And.intro|(apply Yh;clear Yh Y)));all_goals first|apply Hold.mk|omega|with_reducible assumption|skip))
  refine hK1' _ { h with lf := true } (by unfold flag1; rw [if_pos h1]) ?_
  (refine cov_of ?_ ?_ <;> simp [go_sem])
 (refine awp_if fun T F hT hF => ?_; simp [go_sem, h1]; refine hF ?_; clear hT hF T F)
 (refine awp_sr fun Y Yh => ?_; simp [go_sem, b48]; ((repeat' (first|(refine ag_x ?_;simp [go_sem, b48])|intro _|apply And.intro|(apply Yh;clear Yh Y)));all_goals first|apply Hold.mk|omega|with_reducible assumption|skip))
 by_cases h2 : pk (s.drop i) = 48
 ·(refine awp_if fun T F hT hF => ?_; simp [go_sem, h2]; refine hT ?_; clear hT hF T F)
  (refine awp_r fun Y Yh => ?_; simp [go_sem]; ((repeat' (first|(refine ag_x ?_;simp [go_sem])|intro _|apply And.intro|(apply Yh;clear Yh Y)));all_goals first|apply Hold.mk|omega|with_reducible assumption|skip))
  refine hK1' _ { h with ze := true } (by unfold flag1; rw [if_neg h1, if_pos h2]) ?_
  (refine cov_of ?_ ?_ <;> simp [go_sem])
 (refine awp_if fun T F hT hF => ?_; simp [go_sem, h2]; refine hF ?_; clear hT hF T F)
 (refine awp_sr fun Y Yh => ?_; simp [go_sem, b43]; ((repeat' (first|(refine ag_x ?_;simp [go_sem, b43])|intro _|apply And.intro|(apply Yh;clear Yh Y)));all_goals first|apply Hold.mk|omega|with_reducible assumption|skip))
 by_cases h3 : pk (s.drop i) = 43
 ·(refine awp_if fun T F hT hF => ?_; simp [go_sem, h3]; refine hT ?_; clear hT hF T F)
  (refine awp_r fun Y Yh => ?_; simp [go_sem]; ((repeat' (first|(refine ag_x ?_;simp [go_sem])|intro _|apply And.intro|(apply Yh;clear Yh Y)));all_goals first|apply Hold.mk|omega|with_reducible assumption|skip))
  refine hK1' _ { h with pl := true } (by unfold flag1; rw [if_neg h1, if_neg h2, if_pos h3]) ?_
  (refine cov_of ?_ ?_ <;> simp [go_sem])
 (refine awp_if fun T F hT hF => ?_; simp [go_sem, h3]; refine hF ?_; clear hT hF T F)
 (refine awp_sr fun Y Yh => ?_; simp [go_sem, b32]; ((repeat' (first|(refine ag_x ?_;simp [go_sem, b32])|intro _|apply And.intro|(apply Yh;clear Yh Y)));all_goals first|apply Hold.mk|omega|with_reducible assumption|skip))
 by_cases h4 : pk (s.drop i) = 32
 ·(refine awp_if fun T F hT hF => ?_; simp [go_sem, h4]; refine hT ?_; clear hT hF T F)
  (refine awp_r fun Y Yh => ?_; simp [go_sem]; ((repeat' (first|(refine ag_x ?_;simp [go_sem])|intro _|apply And.intro|(apply Yh;clear Yh Y)));all_goals first|apply Hold.mk|omega|with_reducible assumption|skip))
  refine hK1' _ { h with bl := true } (by unfold flag1; rw [if_neg h1, if_neg h2, if_neg h3, if_pos h4]) ?_
  (refine cov_of ?_ ?_ <;> simp [go_sem])
 (refine awp_if fun T F hT hF => ?_; simp [go_sem, h4]; refine hF ?_; clear hT hF T F)
 (refine awp_sr fun Y Yh => ?_; simp [go_sem, b35]; ((repeat' (first|(refine ag_x ?_;simp [go_sem, b35])|intro _|apply And.intro|(apply Yh;clear Yh Y)));all_goals first|apply Hold.mk|omega|with_reducible assumption|skip))
 by_cases h5 : pk (s.drop i) = 35
 ·(refine awp_if fun T F hT hF => ?_; simp [go_sem, h5]; refine hT ?_; clear hT hF T F)
  (refine awp_r fun Y Yh => ?_; simp [go_sem]; ((repeat' (first|(refine ag_x ?_;simp [go_sem])|intro _|apply And.intro|(apply Yh;clear Yh Y)));all_goals first|apply Hold.mk|omega|with_reducible assumption|skip))
  refine hK1' _ { h with ha := true } (by unfold flag1; rw [if_neg h1, if_neg h2, if_neg h3, if_neg h4, if_pos h5]) ?_
  (refine cov_of ?_ ?_ <;> simp [go_sem])
 (refine awp_if fun T F hT hF => ?_; simp [go_sem, h5]; refine hF ?_; clear hT hF T F)
 rw [flagR_stop (by unfold flag1; rw [if_neg h1, if_neg h2, if_neg h3, if_neg h4, if_neg h5])] at hx
 cases hx
 have e3 : posV s (s.drop i) = i := by simp [posV]; omega
 (refine awp_ret ?_; simp [go_sem, e3])
theorem ba_cut (s : Bs) (i j : Nat) : ({ data := s.toArray } : ByteArray).extract i j = { data := ((s.take j).drop i).toArray } := by
 apply ByteArray.ext
 simp [List.extract_eq_take_drop, List.drop_take]
theorem ba_size (s : Bs) : ({ data := s.toArray } : ByteArray).size = s.length := by simp [ByteArray.size]
theorem ba_drop (s : Bs) (n : Nat) : ({ data := s.toArray } : ByteArray).extract n s.length = { data := (s.drop n).toArray } := by
 rw [ba_cut, List.take_length]
def nmQ (s : Bs) (a : Nat) : Bs × Bool × Nat := match nameV (s.drop a) with
 | none => ([], false, a)
 | some (nm, r) => (nm, true, posV s r)
theorem nm_if {C : Prop} [Decidable C] {xs R s : Bs} {a k : Nat} (e : C → posV s R = k) :
  (match (if C then some (xs, R) else none) with | none => (([] : Bs), false, a) | some (nm, r) => (nm, true, posV s r)) = if C then (xs, true, k) else ([], false, a) := by
 by_cases hc : C
 ·rw [if_pos hc, if_pos hc]; simp only [e hc]
 ·rw [if_neg hc, if_neg hc]
set_option maxHeartbeats 8000000 in
theorem name_spec (s : Bs) (a : Nat) (g : Nat) (ha : a ≤ s.length) (hl : s.length ≤ 100000) :
  ACall Tryz.prog 97 [.ptr 900002 g 0] [rdB g s a] [900002]
   fun ps r => ps = [(g, .box [dS s, dI (nmQ s a).2.2])] ∧ r = .tup [dS (nmQ s a).1, dB (nmQ s a).2.1] := by 
 refine acall_of Tryz.func97 rfl rfl Tryz.ntmps97 (rs := [.tmp 2, .tmp 3]) (tys := [9, 4]) rfl rfl (by simp) (by simp [notFroz]) ?_
 have hp := peek_spec s a hl
 have b60 : decide (((pk (s.drop a)).toNat : Int) = 60) = decide (pk (s.drop a) = 60) := u8_eqb _ 60 (by decide)
 by_cases h60 : pk (s.drop a) = 60
 ·have hlt := pk_lt (s := s) (a := a) (by rw [h60]; decide)
  have hI := idxB_spec (s.drop a) 62
  (refine awp_sr fun Y Yh => ?_; simp [go_sem]; ((repeat' (first|(refine ag_x ?_;simp [go_sem])|intro _|apply And.intro|(apply Yh;clear Yh Y)));all_goals first|apply Hold.mk|omega|with_reducible assumption|skip))
  refine awp_seq_k fun K1 hK1 => ?_
  (refine awp_sr fun Y Yh => ?_; simp [go_sem]; ((repeat' (first|(refine ag_x ?_;simp [go_sem])|intro _|apply And.intro|(apply Yh;clear Yh Y)));all_goals first|apply Hold.mk|omega|with_reducible assumption|skip))
  ((try refine CallT.toA ?_); refine callT_f (.inl ⟨rfl,rfl⟩) ?_; intro args ha; simp [go_sem] at ha; subst ha; refine ⟨_, hp, ?_⟩; rintro _ rfl; refine ⟨rfl, ?_⟩; simp [go_sem, b60]; ((repeat' (first|(refine ag_x ?_;simp [go_sem, b60])|intro _|apply And.intro|(apply Yh;clear Yh Y)));all_goals first|apply Hold.mk|omega|with_reducible assumption|skip))
  (refine awp_if fun T F hT hF => ?_; simp [go_sem, h60]; refine hF ?_; clear hT hF T F)
  refine awp_skip ?_
  refine hK1 _ ?_; clear hK1
  ((refine awp_dr (.qs [0, 1, 2, 4, 5, 6, 3, 7, 8] (.one 9 (.qs [10] (.nil)))) (by kernel_rfl) ?_ ?_ ?_ ?_); (kernel_rfl); (exact (by decide +kernel)); (kernel_rfl); intro Y Yh; ((repeat' (first|(refine ag_x ?_;simp [go_sem, ba_size, ba_drop])|refine adr_nil ?_|((first|refine adr_qs fun Y Yh=>?_|refine adr_y fun Y Yh=>?_);simp [go_sem, ba_size, ba_drop])|intro _|apply And.intro|(apply Yh;clear Yh Y)));all_goals first|apply Hold.mk|omega|with_reducible assumption|skip))
  ((try refine CallT.toA ?_); refine callT_m (.inl ⟨rfl,rfl⟩) (by simp [go_sem]) ?_; intro args ha; simp [go_sem] at ha; subst ha; refine ⟨_, hI, ?_⟩; rintro _ rfl; simp [go_sem]; ((repeat' (first|(refine ag_x ?_;simp [go_sem])|refine adr_nil ?_|((first|refine adr_qs fun Y Yh=>?_|refine adr_y fun Y Yh=>?_);simp [go_sem])|intro _|apply And.intro|(apply Yh;clear Yh Y)));all_goals first|apply Hold.mk|omega|with_reducible assumption|skip))
  refine awp_seq_k fun K3 hK3 => ?_
  have hsplit : nmQ s a = if (s.drop a).findIdx (· == 62) < (s.drop a).length ∧ 2 ≤ (s.drop a).findIdx (· == 62) ∧ (((s.drop a).take ((s.drop a).findIdx (· == 62))).drop 1).all isNm then ((((s.drop a).take ((s.drop a).findIdx (· == 62))).drop 1), true, a + ((s.drop a).findIdx (· == 62) + 1)) else ([], false, a) := by
   unfold nmQ nameV
   rw [if_neg (by simp [h60])]
   refine nm_if (k := a + ((s.drop a).findIdx (· == 62) + 1)) fun hc => ?_
   have := hc.1
   simp only [List.length_drop] at this
   simp only [posV, List.length_drop]; omega
  have hx : idxV (s.drop a) 62 = if (s.drop a).findIdx (· == 62) < (s.drop a).length then (((s.drop a).findIdx (· == 62) : Nat) : Int) else -1 := rfl
  have hdl : (s.drop a).length = s.length - a := List.length_drop
  generalize hn : (s.drop a).findIdx (· == 62) = n at *
  by_cases hc : n < (s.drop a).length ∧ 2 ≤ n
  ·rw [hx, if_pos hc.1]
   have h2 : ¬ (n : Int) < 2 := by omega
   have hX : (s.take (a + n)).drop (a + 1) = ((s.drop a).take n).drop 1 := by
    rw [List.drop_take, List.drop_take, List.drop_drop]
    congr 1; omega
   have hcut : ({ data := s.toArray } : ByteArray).extract (a + 1) ((a : Int) + (n : Int)).toNat = { data := (((s.drop a).take n).drop 1).toArray } := by rw [show ((a : Int) + (n : Int)).toNat = a + n by omega, ba_cut, hX]
   have hT := trimS_spec (((s.drop a).take n).drop 1) nmL (by simp; omega) (by decide) (by decide)
   have hTn := trim_names (((s.drop a).take n).drop 1)
   generalize ((s.drop a).take n).drop 1 = xs at *
   ((refine awp_dr (.qs [0, 1, 2, 3, 4, 5, 7, 8, 9, 12, 13, 14, 16, 6, 10, 11, 15, 17, 18] (.one 19 (.qs [20, 21] (.nil)))) (by kernel_rfl) ?_ ?_ ?_ ?_); (kernel_rfl); (exact (by decide +kernel)); (kernel_rfl); intro Y Yh; ((repeat' (first|(refine ag_x ?_;simp [go_sem, h2, ba_size, hcut])|refine adr_nil ?_|((first|refine adr_qs fun Y Yh=>?_|refine adr_y fun Y Yh=>?_);simp [go_sem, h2, ba_size, hcut])|intro _|apply And.intro|(apply Yh;clear Yh Y)));all_goals first|apply Hold.mk|omega|with_reducible assumption|skip))
   (refine agc_f (dS (Lib.trimS xs nmL)) (.inl ⟨rfl,rfl⟩) ?_ rfl ?_; (intro hc args ha; simp [go_sem] at ha; subst ha; exact hT); simp [go_sem]; ((repeat' (first|(refine ag_x ?_;simp [go_sem])|refine adr_nil ?_|((first|refine adr_qs fun Y Yh=>?_|refine adr_y fun Y Yh=>?_);simp [go_sem])|intro _|apply And.intro|(apply Yh;clear Yh Y)));all_goals first|apply Hold.mk|omega|with_reducible assumption|skip))
   by_cases hall : xs.all isNm = true
   ·rw [if_pos ⟨hc.1, hc.2, hall⟩] at hsplit
    rw [hsplit]
    (refine awp_if fun T F hT hF => ?_; simp [go_sem, hTn.2 hall]; refine hF ?_; clear hT hF T F)
    refine awp_skip ?_
    refine hK3 _ ?_; clear hK3
    ((refine awp_dr (.qs [0, 1, 2, 4, 5, 6, 9, 10, 11, 13, 3, 7, 8, 12, 14, 15, 16] (.nil)) (by kernel_rfl) ?_ ?_ ?_ ?_); (kernel_rfl); (exact (by decide +kernel)); (kernel_rfl); intro Y Yh; ((repeat' (first|(refine ag_x ?_;simp [go_sem, ba_size, hcut])|refine adr_nil ?_|((first|refine adr_qs fun Y Yh=>?_|refine adr_y fun Y Yh=>?_);simp [go_sem, ba_size, hcut])|intro _|apply And.intro|(apply Yh;clear Yh Y)));all_goals first|apply Hold.mk|omega|with_reducible assumption|skip))
    (refine awp_sr fun Y Yh => ?_; simp [go_sem]; ((repeat' (first|(refine ag_x ?_;simp [go_sem])|intro _|apply And.intro|(apply Yh;clear Yh Y)));all_goals first|apply Hold.mk|omega|with_reducible assumption|skip))
    (refine awp_sr fun Y Yh => ?_; simp [go_sem]; ((repeat' (first|(refine ag_x ?_;simp [go_sem])|intro _|apply And.intro|(apply Yh;clear Yh Y)));all_goals first|apply Hold.mk|omega|with_reducible assumption|skip))
    (refine awp_ret ?_; simp [go_sem, hsplit])
   ·rw [if_neg (fun q => hall q.2.2)] at hsplit
    rw [hsplit]
    have hne : (Lib.trimS xs nmL).isEmpty = false := by
     cases hz : Lib.trimS xs nmL with
     | nil => exact absurd (hTn.1 hz) hall
     | cons _ _ => rfl
    (refine awp_if fun T F hT hF => ?_; simp [go_sem, hne]; refine hT ?_; clear hT hF T F)
    (refine awp_sr fun Y Yh => ?_; simp [go_sem]; ((repeat' (first|(refine ag_x ?_;simp [go_sem])|intro _|apply And.intro|(apply Yh;clear Yh Y)));all_goals first|apply Hold.mk|omega|with_reducible assumption|skip))
    (refine awp_ret ?_; simp [go_sem, hsplit])
  ·rw [if_neg (fun q => hc ⟨q.1, q.2.1⟩)] at hsplit
   rw [hsplit]
   have h2 : idxV (s.drop a) 62 < 2 := by rw [hx]; split <;> omega
   generalize idxV (s.drop a) 62 = j at *
   ((refine awp_dr (.qs [0, 1, 2] (.sk 3 (.sk 4 (.sk 5 (.sk 7 (.sk 8 (.sk 9 (.sk 12 (.sk 13 (.sk 14 (.sk 16 (.sk 6 (.sk 10 (.sk 11 (.sk 15 (.sk 17 (.sk 18 (.sk 19 (.sk 20 (.qs [21] (.nil))))))))))))))))))))) (by kernel_rfl) ?_ ?_ ?_ ?_); (kernel_rfl); (exact (by decide +kernel)); (kernel_rfl); intro Y Yh; ((repeat' (first|(refine ag_x ?_;simp [go_sem, h2, undef])|refine adr_nil ?_|((first|refine adr_qs fun Y Yh=>?_|refine adr_y fun Y Yh=>?_);simp [go_sem, h2, undef])|intro _|apply And.intro|(apply Yh;clear Yh Y)));all_goals first|apply Hold.mk|omega|with_reducible assumption|skip))
   (refine awp_if fun T F hT hF => ?_; simp [go_sem]; refine hT ?_; clear hT hF T F)
   (refine awp_sr fun Y Yh => ?_; simp [go_sem]; ((repeat' (first|(refine ag_x ?_;simp [go_sem])|intro _|apply And.intro|(apply Yh;clear Yh Y)));all_goals first|apply Hold.mk|omega|with_reducible assumption|skip))
   (refine awp_ret ?_; simp [go_sem, hsplit])
 ·have e : nmQ s a = ([], true, a) := by
   have e3 : posV s (s.drop a) = a := by simp [posV]; omega
   unfold nmQ nameV; rw [if_pos h60]; simp only [e3]
  rw [e]
  (refine awp_sr fun Y Yh => ?_; simp [go_sem]; ((repeat' (first|(refine ag_x ?_;simp [go_sem])|intro _|apply And.intro|(apply Yh;clear Yh Y)));all_goals first|apply Hold.mk|omega|with_reducible assumption|skip))
  refine awp_seq_k fun K1 hK1 => ?_
  (refine awp_sr fun Y Yh => ?_; simp [go_sem]; ((repeat' (first|(refine ag_x ?_;simp [go_sem])|intro _|apply And.intro|(apply Yh;clear Yh Y)));all_goals first|apply Hold.mk|omega|with_reducible assumption|skip))
  ((try refine CallT.toA ?_); refine callT_f (.inl ⟨rfl,rfl⟩) ?_; intro args ha; simp [go_sem] at ha; subst ha; refine ⟨_, hp, ?_⟩; rintro _ rfl; refine ⟨rfl, ?_⟩; simp [go_sem, b60]; ((repeat' (first|(refine ag_x ?_;simp [go_sem, b60])|intro _|apply And.intro|(apply Yh;clear Yh Y)));all_goals first|apply Hold.mk|omega|with_reducible assumption|skip))
  (refine awp_if fun T F hT hF => ?_; simp [go_sem, h60]; refine hT ?_; clear hT hF T F)
  (refine awp_sr fun Y Yh => ?_; simp [go_sem]; ((repeat' (first|(refine ag_x ?_;simp [go_sem])|intro _|apply And.intro|(apply Yh;clear Yh Y)));all_goals first|apply Hold.mk|omega|with_reducible assumption|skip))
  (refine awp_ret ?_; simp [go_sem])
theorem digR_suf (n : Nat) (any : Bool) (s : Bs) : (digR n any s).2.2 <:+ s := by
 induction s generalizing n any with
 | nil => exact List.suffix_refl _
 | cons c r ih =>
  unfold digR
  split
  ·exact (ih _ _).trans (List.suffix_cons _ _)
  ·exact List.suffix_refl _
theorem digitsV_suf (m : Int) (s : Bs) : (digitsV m s).2.2 <:+ s := by
 unfold digitsV
 split
 ·exact List.tail_suffix s
 ·have := digR_suf 0 false s
  simp only
  split <;> exact this
theorem flagR_suf (f : Fld) (s : Bs) : (flagR f s).2 <:+ s := by
 induction s generalizing f with
 | nil => exact List.suffix_refl _
 | cons c r ih =>
  unfold flagR
  repeat' split
  all_goals first | exact (ih _).trans (List.suffix_cons _ _) | exact List.suffix_refl _
theorem nameV_suf {s nm r : Bs} (h : nameV s = some (nm, r)) : r <:+ s := by
 unfold nameV at h
 split at h
 ·cases h; exact List.suffix_refl _
 ·simp only at h
  split at h
  ·cases h; exact List.drop_suffix _ _
  ·cases h
theorem precV_suf (s : Bs) : (precV s).2.2 <:+ s := by
 unfold precV
 split
 ·exact (digitsV_suf _ _).trans (List.tail_suffix s)
 ·exact List.suffix_refl _
theorem suf_at {s r : Bs} (h : r <:+ s) : s.drop (posV s r) = r ∧ posV s r ≤ s.length := ⟨(List.suffix_iff_eq_drop.1 h).symm, Nat.sub_le _ _⟩
theorem lets_at (c : UInt8) : (0 ≤ idxV lets c) ↔ c ∈ lets := by
 unfold idxV
 by_cases h : c ∈ lets
 ·simp only [h, iff_true]
  rw [if_pos]
  ·omega
  ·rw [List.findIdx_lt_length]; exact ⟨c, h, by simp⟩
 ·simp only [h, iff_false]
  rw [if_neg]
  ·omega
  ·rw [List.findIdx_lt_length]; rintro ⟨x, hx, e⟩; simp at e; exact h (e ▸ hx)
def FieldR (s : Bs) (g : Nat) (q : Option (Fld × Bs)) (ps : List (Nat × Blk)) (r : D) : Prop :=
 match q with
 | some (f, rest) => ps = [(g, .box [dS s, dI (posV s rest)])] ∧ r = .tup [dF f, dB true]
 | none => ∃ (a' : Int) (f' : Fld), ps = [(g, .box [dS s, dI a'])] ∧ r = .tup [dF f', dB false]
theorem field_end (s : Bs) (g : Nat) (s4 : Bs) (w1 p1 : Int) (f1 : Fld) (nm : Bs) (c : UInt8) (j : Int) (hcv : pk s4 = c) (hfn : f1.nm = nm) (hle : posV s s4 ≤ s.length) (hsu : s4 <:+ s) (hli : 0 ≤ j ↔ c ∈ lets) :
  FieldR s g (if ¬c = 0 ∧ c ∈ lets ∧ (w1 = -2 ∨ p1 = -2 → nm = []) then some ({ f1 with wd := w1, pr := p1, lt := c }, s4.tail) else none)
   [(g, .box [dS s, dI (posV s s4 + 1)])] (.tup [dF { f1 with wd := w1, pr := p1, lt := c }, dB (!decide (c = 0) && decide (0 ≤ j) && (!decide (w1 = -2) && !decide (p1 = -2) || f1.nm.isEmpty))]) := by
 have hb : (!decide (c = 0) && decide (0 ≤ j) && (!decide (w1 = -2) && !decide (p1 = -2) || f1.nm.isEmpty)) = decide (¬c = 0 ∧ c ∈ lets ∧ (w1 = -2 ∨ p1 = -2 → nm = [])) := by
  subst hfn
  rw [Bool.eq_iff_iff]
  simp only [Bool.and_eq_true, Bool.or_eq_true, Bool.not_eq_true', decide_eq_true_eq, decide_eq_false_iff_not, List.isEmpty_iff, hli, and_assoc]
  refine and_congr_right fun _ => and_congr_right fun _ => ?_
  by_cases h1 : w1 = -2 <;> by_cases h2 : p1 = -2 <;> simp [h1, h2]
 rw [hb]
 by_cases hC : ¬c = 0 ∧ c ∈ lets ∧ (w1 = -2 ∨ p1 = -2 → nm = [])
 ·rw [if_pos hC, decide_eq_true hC]
  refine ⟨?_, rfl⟩
  have hne : s4 ≠ [] := by rintro rfl; exact hC.1 hcv.symm
  have hpos : 0 < s4.length := List.length_pos_iff.2 hne
  have hl4 := hsu.length_le
  have e : (posV s s4.tail : Int) = posV s s4 + 1 := by simp only [posV, List.length_tail]; omega
  rw [e]
 ·rw [if_neg hC, decide_eq_false hC]
  exact ⟨_, _, rfl, rfl⟩
set_option maxHeartbeats 16000000 in
theorem field_spec (s : Bs) (a : Nat) (g : Nat) (ha : a ≤ s.length) (hl : s.length ≤ 100000) :
  ACall Tryz.prog 63 [.ptr 900002 g 0] [rdB g s a] [900002] (FieldR s g (fieldV (s.drop a))) := by 
 refine acall_of Tryz.func63 rfl rfl Tryz.ntmps63 (rs := [.cell 2 81, .tmp 3]) (tys := [81, 4]) rfl rfl (by simp) (by simp [notFroz]) ?_
 have hN := name_spec s a g ha hl
 cases hn : nameV (s.drop a) with
 | none =>
  have e1 : nmQ s a = ([], false, a) := by unfold nmQ; rw [hn]
  have e2 : fieldV (s.drop a) = none := by unfold fieldV; rw [hn]
  rw [e1] at hN
  rw [e2]
  unfold FieldR
  (refine awp_sr fun Y Yh => ?_; simp [go_sem]; ((repeat' (first|(refine ag_x ?_;simp [go_sem])|intro _|apply And.intro|(apply Yh;clear Yh Y)));all_goals first|apply Hold.mk|omega|with_reducible assumption|skip))
  (refine awp_sr fun Y Yh => ?_; simp [go_sem]; ((repeat' (first|(refine ag_x ?_;simp [go_sem])|intro _|apply And.intro|(apply Yh;clear Yh Y)));all_goals first|apply Hold.mk|omega|with_reducible assumption|skip))
  refine awp_renbox 4 900003 rfl rfl (by decide) fun gf => ?_
  simp only [go_sem]
  (refine awp_sr fun Y Yh => ?_; simp [go_sem]; ((repeat' (first|(refine ag_x ?_;simp [go_sem])|intro _|apply And.intro|(apply Yh;clear Yh Y)));all_goals first|apply Hold.mk|omega|with_reducible assumption|skip))
  refine awp_seq_k fun K1 hK1 => ?_
  (refine awp_sr fun Y Yh => ?_; simp [go_sem]; ((repeat' (first|(refine ag_x ?_;simp [go_sem])|intro _|apply And.intro|(apply Yh;clear Yh Y)));all_goals first|apply Hold.mk|omega|with_reducible assumption|skip))
  (refine callA_l [900002] (.inl ⟨rfl,rfl⟩) (by simp [go_sem]) ?_; intro args ha; simp [go_sem] at ha; subst ha; refine ⟨_, _, hN, (by simp [go_sem]), ?_⟩; rintro ps r hps ⟨rfl, rfl⟩; simp [go_sem]; ((repeat' (first|(refine ag_x ?_;simp [go_sem])|intro _|apply And.intro|(apply Yh;clear Yh Y)));all_goals first|apply Hold.mk|omega|with_reducible assumption|skip))
  (refine awp_sr fun Y Yh => ?_; simp [go_sem]; ((repeat' (first|(refine ag_x ?_;simp [go_sem])|intro _|apply And.intro|(apply Yh;clear Yh Y)));all_goals first|apply Hold.mk|omega|with_reducible assumption|skip))
  (refine awp_if fun T F hT hF => ?_; simp [go_sem]; refine hT ?_; clear hT hF T F)
  (refine awp_sr fun Y Yh => ?_; simp [go_sem]; ((repeat' (first|(refine ag_x ?_;simp [go_sem])|intro _|apply And.intro|(apply Yh;clear Yh Y)));all_goals first|apply Hold.mk|omega|with_reducible assumption|skip))
  (refine awp_ret ?_; simp [go_sem])
  exact ⟨{ fd0 with nm := [] }, by simp [fd0]⟩
 | some x =>
  obtain ⟨nm, s1⟩ := x
  have e1 : nmQ s a = (nm, true, posV s s1) := by unfold nmQ; rw [hn]
  have hs1 := suf_at ((nameV_suf hn).trans (List.drop_suffix a s))
  rw [e1] at hN
  have hF := fun gf => flags_spec s (posV s s1) { fd0 with nm := nm } g gf hs1.2 hl
  rw [hs1.1] at hF
  have hs2 := suf_at (((flagR_suf { fd0 with nm := nm } s1).trans (nameV_suf hn)).trans (List.drop_suffix a s))
  have hs2' := (flagR_suf { fd0 with nm := nm } s1).trans ((nameV_suf hn).trans (List.drop_suffix a s))
  have ev : fieldV (s.drop a) = (let q := flagR { fd0 with nm := nm } s1
   let w := digitsV (-1) q.2
   if w.2.1 = false then none else
   let p := precV w.2.2
   if p.2.1 = false then none else
   let c := pk p.2.2
   if c ≠ 0 ∧ c ∈ lets ∧ ((w.1 = -2 ∨ p.1 = -2) → nm = []) then some ({ q.1 with wd := w.1, pr := p.1, lt := c }, p.2.2.tail) else none) := by unfold fieldV; rw [hn]
  rw [ev]
  clear ev
  have hfn : (flagR { fd0 with nm := nm } s1).1.nm = nm := by rw [flag_same]
  have hft : (flagR { fd0 with nm := nm } s1).1.tx = [] := by rw [flag_same]; rfl
  have hfp : (flagR { fd0 with nm := nm } s1).1.pr = -1 := by rw [flag_same]; rfl
  generalize flagR { fd0 with nm := nm } s1 = q at *
  obtain ⟨f1, s2⟩ := q
  simp only at hF hs2 hs2' hfn hft hfp ⊢
  have hW := digits_spec s (posV s s2) (-1) g hs2.2 hl (by simp [InR])
  rw [hs2.1] at hW
  have hs3' := (digitsV_suf (-1) s2).trans hs2'
  have hs3 := suf_at hs3'
  generalize digitsV (-1) s2 = w at *
  obtain ⟨w1, w2, s3⟩ := w
  simp only at hW hs3 hs3' ⊢
  (refine awp_sr fun Y Yh => ?_; simp [go_sem]; ((repeat' (first|(refine ag_x ?_;simp [go_sem])|intro _|apply And.intro|(apply Yh;clear Yh Y)));all_goals first|apply Hold.mk|omega|with_reducible assumption|skip))
  (refine awp_sr fun Y Yh => ?_; simp [go_sem]; ((repeat' (first|(refine ag_x ?_;simp [go_sem])|intro _|apply And.intro|(apply Yh;clear Yh Y)));all_goals first|apply Hold.mk|omega|with_reducible assumption|skip))
  refine awp_renbox 4 900003 rfl rfl (by decide) fun gf => ?_
  simp only [go_sem]
  (refine awp_sr fun Y Yh => ?_; simp [go_sem]; ((repeat' (first|(refine ag_x ?_;simp [go_sem])|intro _|apply And.intro|(apply Yh;clear Yh Y)));all_goals first|apply Hold.mk|omega|with_reducible assumption|skip))
  refine awp_seq_k fun K1 hK1 => ?_
  (refine awp_sr fun Y Yh => ?_; simp [go_sem]; ((repeat' (first|(refine ag_x ?_;simp [go_sem])|intro _|apply And.intro|(apply Yh;clear Yh Y)));all_goals first|apply Hold.mk|omega|with_reducible assumption|skip))
  (refine callA_l [900002] (.inl ⟨rfl,rfl⟩) (by simp [go_sem]) ?_; intro args ha; simp [go_sem] at ha; subst ha; refine ⟨_, _, hN, (by simp [go_sem]), ?_⟩; rintro ps r hps ⟨rfl, rfl⟩; simp [go_sem]; ((repeat' (first|(refine ag_x ?_;simp [go_sem])|intro _|apply And.intro|(apply Yh;clear Yh Y)));all_goals first|apply Hold.mk|omega|with_reducible assumption|skip))
  (refine awp_sr fun Y Yh => ?_; simp [go_sem]; ((repeat' (first|(refine ag_x ?_;simp [go_sem])|intro _|apply And.intro|(apply Yh;clear Yh Y)));all_goals first|apply Hold.mk|omega|with_reducible assumption|skip))
  (refine awp_if fun T F hT hF => ?_; simp [go_sem]; refine hF ?_; clear hT hF T F)
  refine awp_skip ?_
  refine hK1 _ ?_; clear hK1
  (refine awp_sr fun Y Yh => ?_; simp [go_sem]; ((repeat' (first|(refine ag_x ?_;simp [go_sem])|intro _|apply And.intro|(apply Yh;clear Yh Y)));all_goals first|apply Hold.mk|omega|with_reducible assumption|skip))
  (refine callA_l [900002, 900003] (.inl ⟨rfl,rfl⟩) (by simp [go_sem]) ?_; intro args ha; simp [go_sem] at ha; subst ha; refine ⟨_, _, (hF gf), (by simp [go_sem, fd0]), ?_⟩; rintro ps r hps ⟨rfl, rfl⟩; simp [go_sem, fd0]; ((repeat' (first|(refine ag_x ?_;simp [go_sem, fd0])|intro _|apply And.intro|(apply Yh;clear Yh Y)));all_goals first|apply Hold.mk|omega|with_reducible assumption|skip))
  refine awp_seq_k fun K3 hK3 => ?_
  (refine awp_sr fun Y Yh => ?_; simp [go_sem]; ((repeat' (first|(refine ag_x ?_;simp [go_sem])|intro _|apply And.intro|(apply Yh;clear Yh Y)));all_goals first|apply Hold.mk|omega|with_reducible assumption|skip))
  (refine callA_l [900002] (.inl ⟨rfl,rfl⟩) (by simp [go_sem]) ?_; intro args ha; simp [go_sem] at ha; subst ha; refine ⟨_, _, hW, (by simp [go_sem]), ?_⟩; rintro ps r hps ⟨rfl, rfl⟩; simp [go_sem]; ((repeat' (first|(refine ag_x ?_;simp [go_sem])|intro _|apply And.intro|(apply Yh;clear Yh Y)));all_goals first|apply Hold.mk|omega|with_reducible assumption|skip))
  (refine awp_sr fun Y Yh => ?_; simp [go_sem]; ((repeat' (first|(refine ag_x ?_;simp [go_sem])|intro _|apply And.intro|(apply Yh;clear Yh Y)));all_goals first|apply Hold.mk|omega|with_reducible assumption|skip))
  cases w2 with
  | false =>
   (refine awp_if fun T F hT hF => ?_; simp [go_sem]; refine hT ?_; clear hT hF T F)
   (refine awp_sr fun Y Yh => ?_; simp [go_sem]; ((repeat' (first|(refine ag_x ?_;simp [go_sem])|intro _|apply And.intro|(apply Yh;clear Yh Y)));all_goals first|apply Hold.mk|omega|with_reducible assumption|skip))
   (refine awp_ret ?_; simp [go_sem])
   exact ⟨_, { f1 with wd := w1 }, rfl, rfl⟩
  | true =>
   rename_i g2 _ _ _
   (refine awp_if fun T F hT hF => ?_; simp [go_sem]; refine hF ?_; clear hT hF T F)
   refine awp_skip ?_
   refine hK3 _ ?_; clear hK3
   refine awp_seq_k fun K5 hK5 => ?_
   have tl5 : ∀ S' p1 s4, precV s3 = (p1, true, s4) → s4 <:+ s → Cov S' ⟨[(0, .ptr 900002 g 0), (2, .ptr 2 g2 0), (4, .ptr 900003 gf 0)], [rdB g s (posV s s4), fdB gf { f1 with wd := w1, pr := p1 }, (2, (g2, .box [dS [], dS [], dB false, dB false, dB false, dB false, dB false, dI 0, dI 0, .v (.int .u8 0)]))]⟩ → K5 S' := fun S' p1 s4 hv hs4 hS => by
    refine hK5 _ ?_; clear hK5
    refine awp_cov hS ?_; clear hS
    have hs4' := suf_at hs4
    have hP := peek_spec s (posV s s4) hl
    rw [hs4'.1] at hP
    have b0 : ((pk s4).toNat = 0) = (pk s4 = 0) := propext ⟨fun q => UInt8.toNat_inj.1 q, fun q => by rw [q]; rfl⟩
    have hI := idxB_spec lets (pk s4)
    have hli := lets_at (pk s4)
    generalize hcv : pk s4 = c at *
    generalize idxV lets c = j at *
    (refine awp_sr fun Y Yh => ?_; simp [go_sem]; ((repeat' (first|(refine ag_x ?_;simp [go_sem])|intro _|apply And.intro|(apply Yh;clear Yh Y)));all_goals first|apply Hold.mk|omega|with_reducible assumption|skip))
    ((try refine CallT.toA ?_); refine callT_f (.inl ⟨rfl,rfl⟩) ?_; intro args ha; simp [go_sem] at ha; subst ha; refine ⟨_, hP, ?_⟩; rintro _ rfl; refine ⟨rfl, ?_⟩; simp [go_sem]; ((repeat' (first|(refine ag_x ?_;simp [go_sem])|intro _|apply And.intro|(apply Yh;clear Yh Y)));all_goals first|apply Hold.mk|omega|with_reducible assumption|skip))
    (refine awp_sr fun Y Yh => ?_; simp [go_sem]; ((repeat' (first|(refine ag_x ?_;simp [go_sem])|intro _|apply And.intro|(apply Yh;clear Yh Y)));all_goals first|apply Hold.mk|omega|with_reducible assumption|skip))
    (refine awp_sr fun Y Yh => ?_; simp [go_sem]; ((repeat' (first|(refine ag_x ?_;simp [go_sem])|intro _|apply And.intro|(apply Yh;clear Yh Y)));all_goals first|apply Hold.mk|omega|with_reducible assumption|skip))
    ((refine awp_dr (.qs [1, 0, 2, 3, 4, 5, 6] (.kp 7 (.qs [8, 9, 10, 11, 12, 13] (.nb (.kq 14 (.qs [15, 16, 17, 18] (.one 19 (.qs [20] (.nil)))) 19 (.qs [14, 15, 16, 17, 18, 20] (.nil))))))) (by kernel_rfl) ?_ ?_ ?_ ?_); (kernel_rfl); (exact (by decide +kernel)); (kernel_rfl); intro Y Yh; ((repeat' (first|(refine ag_x ?_;simp [go_sem, b0])|refine adr_nil ?_|refine adr_kq ?_ ?_|((first|refine adr_qs fun Y Yh=>?_|refine adr_y fun Y Yh=>?_);simp [go_sem, b0])|intro _|apply And.intro|(apply Yh;clear Yh Y)));all_goals first|apply Hold.mk|omega|with_reducible assumption|skip))
    (refine agc_f (dI j) (.inl ⟨rfl,rfl⟩) ?_ rfl ?_; (intro hc args ha; simp [go_sem] at ha; subst ha; exact hI); simp [go_sem, b0]; ((repeat' (first|(refine ag_x ?_;simp [go_sem, b0])|refine adr_nil ?_|refine adr_kq ?_ ?_|((first|refine adr_qs fun Y Yh=>?_|refine adr_y fun Y Yh=>?_);simp [go_sem, b0])|intro _|apply And.intro|(apply Yh;clear Yh Y)));all_goals first|apply Hold.mk|omega|with_reducible assumption|skip))
    all_goals (refine awp_ret ?_; simp [go_sem, hv, hcv])
    all_goals exact field_end s g s4 w1 p1 f1 nm c j hcv hfn hs4'.2 hs4 hli
   clear hK5
   have b46 : decide (((pk s3).toNat : Int) = 46) = decide (pk s3 = 46) := u8_eqb _ 46 (by decide)
   have hP := peek_spec s (posV s s3) hl
   rw [hs3.1] at hP
   (refine awp_sr fun Y Yh => ?_; simp [go_sem]; ((repeat' (first|(refine ag_x ?_;simp [go_sem])|intro _|apply And.intro|(apply Yh;clear Yh Y)));all_goals first|apply Hold.mk|omega|with_reducible assumption|skip))
   ((try refine CallT.toA ?_); refine callT_f (.inl ⟨rfl,rfl⟩) ?_; intro args ha; simp [go_sem] at ha; subst ha; refine ⟨_, hP, ?_⟩; rintro _ rfl; refine ⟨rfl, ?_⟩; simp [go_sem, b46]; ((repeat' (first|(refine ag_x ?_;simp [go_sem, b46])|intro _|apply And.intro|(apply Yh;clear Yh Y)));all_goals first|apply Hold.mk|omega|with_reducible assumption|skip))
   by_cases h46 : pk s3 = 46
   ·have hlt3 : posV s s3 < s.length := pk_lt (by rw [hs3.1, h46]; decide)
    have htl : s.drop (posV s s3 + 1) = s3.tail := by rw [← List.tail_drop, hs3.1]
    have hP2 := digits_spec s (posV s s3 + 1) 0 g (by omega) hl (by simp [InR])
    rw [htl] at hP2
    have hpv : precV s3 = digitsV 0 s3.tail := by unfold precV; rw [if_pos h46]
    have hs4' := (precV_suf s3).trans hs3'
    have hs4 := suf_at hs4'
    rw [← hpv] at hP2
    generalize hpq : precV s3 = p at *
    obtain ⟨p1, p2, s4⟩ := p
    simp only at hP2 hs4 hs4'
    (refine awp_if fun T F hT hF => ?_; simp [go_sem, h46]; refine hT ?_; clear hT hF T F)
    (refine awp_sr fun Y Yh => ?_; simp [go_sem]; ((repeat' (first|(refine ag_x ?_;simp [go_sem])|intro _|apply And.intro|(apply Yh;clear Yh Y)));all_goals first|apply Hold.mk|omega|with_reducible assumption|skip))
    (refine awp_sr fun Y Yh => ?_; simp [go_sem]; ((repeat' (first|(refine ag_x ?_;simp [go_sem])|intro _|apply And.intro|(apply Yh;clear Yh Y)));all_goals first|apply Hold.mk|omega|with_reducible assumption|skip))
    (refine callA_l [900002] (.inl ⟨rfl,rfl⟩) (by simp [go_sem]) ?_; intro args ha; simp [go_sem] at ha; subst ha; refine ⟨_, _, hP2, (by simp [go_sem]), ?_⟩; rintro ps r hps ⟨rfl, rfl⟩; simp [go_sem]; ((repeat' (first|(refine ag_x ?_;simp [go_sem])|intro _|apply And.intro|(apply Yh;clear Yh Y)));all_goals first|apply Hold.mk|omega|with_reducible assumption|skip))
    (refine awp_sr fun Y Yh => ?_; simp [go_sem]; ((repeat' (first|(refine ag_x ?_;simp [go_sem])|intro _|apply And.intro|(apply Yh;clear Yh Y)));all_goals first|apply Hold.mk|omega|with_reducible assumption|skip))
    cases p2 with
    | false =>
     (refine awp_if fun T F hT hF => ?_; simp [go_sem]; refine hT ?_; clear hT hF T F)
     (refine awp_sr fun Y Yh => ?_; simp [go_sem]; ((repeat' (first|(refine ag_x ?_;simp [go_sem])|intro _|apply And.intro|(apply Yh;clear Yh Y)));all_goals first|apply Hold.mk|omega|with_reducible assumption|skip))
     (refine awp_ret ?_; simp [go_sem])
     exact ⟨_, { f1 with wd := w1, pr := p1 }, rfl, rfl⟩
    | true =>
     (refine awp_if fun T F hT hF => ?_; simp [go_sem]; refine hF ?_; clear hT hF T F)
     refine awp_skip ?_
     refine tl5 _ p1 s4 rfl hs4' ?_
     (refine cov_of ?_ ?_ <;> simp [go_sem])
   ·have hpv : precV s3 = (-1, true, s3) := by unfold precV; rw [if_neg h46]
    (refine awp_if fun T F hT hF => ?_; simp [go_sem, h46]; refine hF ?_; clear hT hF T F)
    refine awp_skip ?_
    refine tl5 _ (-1) s3 hpv hs3' ?_
    (refine cov_of ?_ ?_ <;> simp [go_sem, hfp])
def ReadR (q : Option (List Fld)) (r : D) : Prop :=
 match q with
 | some L => r = .tup [dFs L, dB true]
 | none => ∃ L, r = .tup [dFs L, dB false]
theorem rf_end {k i : Nat} {s : Bs} {L : List Fld} {a b : Bool} (hi : s.length ≤ i) : readF (k + 1) (s.drop i) L a b = if a && b then none else some L := by
 rw [List.drop_eq_nil_of_le hi, readF, if_pos rfl]
theorem rf_last {k : Nat} {t : Bs} {L : List Fld} {a b : Bool} (h0 : t ≠ []) (h : t.length ≤ t.findIdx (· == 37)) : readF (k + 1) t L a b = if a && b then none else some (L ++ [fdT t]) := by
 rw [readF, if_neg h0]; simp only; rw [if_pos h]
theorem rf_text {k : Nat} {t : Bs} {L : List Fld} {a b : Bool} (h0 : t ≠ []) (h : t.findIdx (· == 37) < t.length) (h1 : 0 < t.findIdx (· == 37)) :
  readF (k + 1) t L a b = readF k (t.drop (t.findIdx (· == 37))) (L ++ [fdT (t.take (t.findIdx (· == 37)))]) a b := by
 rw [readF, if_neg h0]; simp only; rw [if_neg (by omega), if_pos h1]
theorem rf_pct {k : Nat} {t : Bs} {L : List Fld} {a b : Bool} (h0 : t ≠ []) (h1 : t.findIdx (· == 37) = 0) (h2 : ([37, 37] : Bs).isPrefixOf t = true) :
  readF (k + 1) t L a b = readF k (t.drop 2) (L ++ [fdT [37]]) a b ∧ 2 ≤ t.length := by
 have hl : t.length ≠ 0 := by simpa using h0
 match t, h2 with
 | [], h2 => simp at h2
 | [_], h2 => simp at h2
 | x :: y :: r, h2 =>
  simp at h2
  obtain ⟨rfl, rfl⟩ := h2
  refine ⟨?_, by simp⟩
  rw [readF, if_neg h0]; simp only; rw [if_neg (by rw [h1]; simp), if_neg (by rw [h1]; simp), if_pos (by simp)]
theorem rf_fld {k : Nat} {t : Bs} {L : List Fld} {a b : Bool} (h0 : t ≠ []) (h1 : t.findIdx (· == 37) = 0) (h2 : ([37, 37] : Bs).isPrefixOf t = false) :
  readF (k + 1) t L a b = match fieldV t.tail with
   | none => none
   | some (f, r) => readF k r (L ++ [f]) (a || f.nm != []) (b || f.nm == []) := by
 have hl : t.length ≠ 0 := by simpa using h0
 rw [readF, if_neg h0]; simp only; rw [if_neg (by rw [h1]; omega), if_neg (by omega)]
 have hq : ¬ t.tail.head? = some 37 := by
  intro q
  have h37 : t.head? = some 37 := by
   cases t with
   | nil => exact absurd rfl h0
   | cons x r =>
    rw [List.findIdx_cons] at h1
    by_cases hx : (x == 37) = true
    ·simp at hx; simp [hx]
    ·rw [Bool.not_eq_true] at hx; rw [hx] at h1; simp at h1
  cases t with
  | nil => simp at h37
  | cons x r =>
   cases r with
   | nil => simp at q
   | cons y r =>
    simp at h37 q
    subst h37 q
    simp at h2
 rw [if_neg hq]
 rfl
theorem fieldV_suf {s r : Bs} {f : Fld} (h : fieldV s = some (f, r)) : r <:+ s := by
 unfold fieldV at h
 split at h
 ·cases h
 ·rename_i nm s1 hn
  have h1 := nameV_suf hn
  simp only at h
  have h2 := flagR_suf { fd0 with nm := nm } s1
  generalize flagR { fd0 with nm := nm } s1 = q at *
  have h3 := digitsV_suf (-1) q.2
  generalize digitsV (-1) q.2 = w at *
  have h4 := precV_suf w.2.2
  generalize precV w.2.2 = p at *
  split at h
  ·cases h
  ·split at h
   ·cases h
   ·split at h
    ·cases h
     exact ((List.tail_suffix _).trans h4).trans (h3.trans (h2.trans h1))
    ·cases h
theorem readR_end (L : List Fld) (nd pn : Bool) : ReadR (if (nd && pn) = true then none else some L) (.tup [dFs L, dB (!nd || !pn)]) := by
 cases nd <;> cases pn <;> first | rfl | exact ⟨_, rfl⟩
set_option maxHeartbeats 16000000 in
theorem read_spec (s : Bs) (hl : s.length ≤ 9223372036854775807) : PCall Tryz.prog 41 [dS s] (ReadR (readV s)) := by 
 refine pcall_of Tryz.func41 rfl rfl Tryz.ntmps41 (rs := [.tmp 2, .tmp 3]) (tys := [77, 4]) rfl rfl (by simp) ?_
 have hlz : decide ((2000 : Int) < s.length) = decide (2000 < s.length) := by rw [decide_eq_decide]; omega
 by_cases hlen : 2000 < s.length
 ·have e : readV s = none := by unfold readV; rw [if_pos hlen]
  rw [e]
  (refine awp_sr fun Y Yh => ?_; simp [go_sem]; ((repeat' (first|(refine ag_x ?_;simp [go_sem])|intro _|apply And.intro|(apply Yh;clear Yh Y)));all_goals first|apply Hold.mk|omega|with_reducible assumption|skip))
  refine awp_seq_k fun K1 hK1 => ?_
  (refine awp_sr fun Y Yh => ?_; simp [go_sem, ba_size]; ((repeat' (first|(refine ag_x ?_;simp [go_sem, ba_size])|intro _|apply And.intro|(apply Yh;clear Yh Y)));all_goals first|apply Hold.mk|omega|with_reducible assumption|skip))
  (refine awp_if fun T F hT hF => ?_; simp [go_sem, hlz, hlen]; refine hT ?_; clear hT hF T F)
  (refine awp_sr fun Y Yh => ?_; simp [go_sem]; ((repeat' (first|(refine ag_x ?_;simp [go_sem])|intro _|apply And.intro|(apply Yh;clear Yh Y)));all_goals first|apply Hold.mk|omega|with_reducible assumption|skip))
  (refine awp_ret ?_; simp [go_sem])
  exact ⟨[], rfl⟩
 ·have e : readV s = readF (s.length + 1) s [] false false := by unfold readV; rw [if_neg hlen]
  rw [e]
  (refine awp_sr fun Y Yh => ?_; simp [go_sem]; ((repeat' (first|(refine ag_x ?_;simp [go_sem])|intro _|apply And.intro|(apply Yh;clear Yh Y)));all_goals first|apply Hold.mk|omega|with_reducible assumption|skip))
  refine awp_seq_k fun K1 hK1 => ?_
  (refine awp_sr fun Y Yh => ?_; simp [go_sem, ba_size]; ((repeat' (first|(refine ag_x ?_;simp [go_sem, ba_size])|intro _|apply And.intro|(apply Yh;clear Yh Y)));all_goals first|apply Hold.mk|omega|with_reducible assumption|skip))
  (refine awp_if fun T F hT hF => ?_; simp [go_sem, hlz, hlen]; refine hF ?_; clear hT hF T F)
  refine awp_skip ?_
  refine hK1 _ ?_; clear hK1
  (refine awp_sr fun Y Yh => ?_; simp [go_sem]; ((repeat' (first|(refine ag_x ?_;simp [go_sem])|intro _|apply And.intro|(apply Yh;clear Yh Y)));all_goals first|apply Hold.mk|omega|with_reducible assumption|skip))
  refine awp_nilslot 4 4 81 10 rfl fun go => ?_
  simp only [go_sem]
  (refine awp_sr fun Y Yh => ?_; simp [go_sem]; ((repeat' (first|(refine ag_x ?_;simp [go_sem])|intro _|apply And.intro|(apply Yh;clear Yh Y)));all_goals first|apply Hold.mk|omega|with_reducible assumption|skip))
  refine awp_seq_k fun K3 hK3 => ?_
  (refine awp_sr fun Y Yh => ?_; simp [go_sem]; ((repeat' (first|(refine ag_x ?_;simp [go_sem])|intro _|apply And.intro|(apply Yh;clear Yh Y)));all_goals first|apply Hold.mk|omega|with_reducible assumption|skip))
  refine awp_renbox 7 900002 rfl rfl (by decide) fun g => ?_
  simp only [go_sem]
  refine awp_block ?_
  generalize hV : readF (s.length + 1) s [] false false = V at *
  refine awp_loop (σ := Nat × List Fld × Bool × Bool × Nat) (fun x => ⟨[(0, dS s), (4, .own 4 x.2.2.2.2), (5, dB x.2.2.1), (6, dB x.2.2.2.1), (7, .ptr 900002 g 0)], [rdB g s x.1, (4, (x.2.2.2.2, .row 81 10 (x.2.1.map cF)))]⟩)
   (fun x => x.1 ≤ s.length ∧ x.2.1.length ≤ x.1 ∧ ∃ k, s.length - x.1 < k ∧ readF k (s.drop x.1) x.2.1 x.2.2.1 x.2.2.2.1 = V) (fun x => s.length - x.1) (0, [], false, false, go) ?_ ?_ ?_
  ·(refine cov_of ?_ ?_ <;> simp [go_sem])
  ·exact ⟨by simp, by simp, s.length + 1, by simp, hV⟩
  rintro ⟨i, L, nd, pn, go⟩ ⟨hi, hL, k, hk, hx⟩
  simp only at hi hL hk hx ⊢
  obtain ⟨k, rfl⟩ : ∃ k', k = k' + 1 := ⟨k - 1, by omega⟩
  refine awp_seq_k fun K4 hK4 => ?_
  (refine awp_sr fun Y Yh => ?_; simp [go_sem, ba_size]; ((repeat' (first|(refine ag_x ?_;simp [go_sem, ba_size])|intro _|apply And.intro|(apply Yh;clear Yh Y)));all_goals first|apply Hold.mk|omega|with_reducible assumption|skip))
  by_cases hend : i < s.length
  ·(refine awp_if fun T F hT hF => ?_; simp [go_sem, hend]; refine hT ?_; clear hT hF T F)
   refine awp_skip ?_
   refine hK4 _ ?_; clear hK4
   refine awp_block ?_
   have h0 : s.drop i ≠ [] := by intro q; have := congrArg List.length q; simp at this; omega
   have hI := idxB_spec (s.drop i) 37
   have hP := hasPre_spec (s.drop i) [37, 37]
   have hix : idxV (s.drop i) 37 = if (s.drop i).findIdx (· == 37) < (s.drop i).length then (((s.drop i).findIdx (· == 37) : Nat) : Int) else -1 := rfl
   have hdl : (s.drop i).length = s.length - i := List.length_drop
   (refine awp_sr fun Y Yh => ?_; simp [go_sem, ba_size, ba_drop]; ((repeat' (first|(refine ag_x ?_;simp [go_sem, ba_size, ba_drop])|intro _|apply And.intro|(apply Yh;clear Yh Y)));all_goals first|apply Hold.mk|omega|with_reducible assumption|skip))
   ((try refine CallT.toA ?_); refine callT_m (.inl ⟨rfl,rfl⟩) (by simp [go_sem]) ?_; intro args ha; simp [go_sem] at ha; subst ha; refine ⟨_, hI, ?_⟩; rintro _ rfl; simp [go_sem]; ((repeat' (first|(refine ag_x ?_;simp [go_sem])|intro _|apply And.intro|(apply Yh;clear Yh Y)));all_goals first|apply Hold.mk|omega|with_reducible assumption|skip))
   refine awp_block ?_
   by_cases h1 : (s.drop i).findIdx (· == 37) < (s.drop i).length
   ·rw [if_pos h1] at hix
    by_cases h2 : 0 < (s.drop i).findIdx (· == 37)
    ·have hst := rf_text (k := k) (L := L) (a := nd) (b := pn) h0 h1 h2
     rw [hst] at hx
     generalize (s.drop i).findIdx (· == 37) = n at *
     have hn0 : ¬ (n : Int) < 0 := by omega
     have hcut : ({ data := s.toArray } : ByteArray).extract i ((i : Int) + (n : Int)).toNat = { data := ((s.drop i).take n).toArray } := by rw [show ((i : Int) + (n : Int)).toNat = i + n by omega, ba_cut, List.drop_take, show i + n - i = n by omega]
     (refine awp_sr fun Y Yh => ?_; simp [go_sem, hix]; ((repeat' (first|(refine ag_x ?_;simp [go_sem, hix])|intro _|apply And.intro|(apply Yh;clear Yh Y)));all_goals first|apply Hold.mk|omega|with_reducible assumption|skip))
     (refine awp_if fun T F hT hF => ?_; simp [go_sem, hn0]; refine hF ?_; clear hT hF T F)
     (refine awp_sr fun Y Yh => ?_; simp [go_sem]; ((repeat' (first|(refine ag_x ?_;simp [go_sem])|intro _|apply And.intro|(apply Yh;clear Yh Y)));all_goals first|apply Hold.mk|omega|with_reducible assumption|skip))
     (refine awp_if fun T F hT hF => ?_; simp [go_sem, h2]; refine hT ?_; clear hT hF T F)
     ((refine awp_dr (.qs [0, 1, 2, 3, 4, 6, 7, 8, 10, 5, 9, 11, 12, 13] (.one 14 (.one 15 (.qs [16] (.nil))))) (by kernel_rfl) ?_ ?_ ?_ ?_); (kernel_rfl); (exact (by decide +kernel)); (kernel_rfl); intro Y Yh; ((repeat' (first|(refine ag_x ?_;simp [go_sem, ba_size, hcut])|refine adr_nil ?_|((first|refine adr_qs fun Y Yh=>?_|refine adr_y fun Y Yh=>?_);simp [go_sem, ba_size, hcut])|intro _|apply And.intro|(apply Yh;clear Yh Y)));all_goals first|apply Hold.mk|omega|with_reducible assumption|skip))
     (refine awp_r fun Y Yh => ?_; simp [go_sem]; ((repeat' (first|(refine ag_x ?_;simp [go_sem])|intro _|apply And.intro|(apply Yh;clear Yh Y)));all_goals first|apply Hold.mk|omega|with_reducible assumption|skip))
     rename_i gq
     refine ⟨(i + n, L ++ [fdT ((s.drop i).take n)], nd, pn, gq), ?_, ?_, ?_⟩
     ·(refine cov_of ?_ ?_ <;> simp [go_sem, fdT])
     ·refine ⟨by simp; omega, by simp; omega, k, by simp; omega, ?_⟩
      rw [← hx, List.drop_drop]
     ·simp; omega
    ·have h3 : (s.drop i).findIdx (· == 37) = 0 := by omega
     rw [h3] at hix
     (refine awp_sr fun Y Yh => ?_; simp [go_sem, hix]; ((repeat' (first|(refine ag_x ?_;simp [go_sem, hix])|intro _|apply And.intro|(apply Yh;clear Yh Y)));all_goals first|apply Hold.mk|omega|with_reducible assumption|skip))
     (refine awp_if fun T F hT hF => ?_; simp [go_sem]; refine hF ?_; clear hT hF T F)
     (refine awp_sr fun Y Yh => ?_; simp [go_sem]; ((repeat' (first|(refine ag_x ?_;simp [go_sem])|intro _|apply And.intro|(apply Yh;clear Yh Y)));all_goals first|apply Hold.mk|omega|with_reducible assumption|skip))
     (refine awp_if fun T F hT hF => ?_; simp [go_sem]; refine hF ?_; clear hT hF T F)
     (refine awp_sr fun Y Yh => ?_; simp [go_sem, ba_size, ba_drop]; ((repeat' (first|(refine ag_x ?_;simp [go_sem, ba_size, ba_drop])|intro _|apply And.intro|(apply Yh;clear Yh Y)));all_goals first|apply Hold.mk|omega|with_reducible assumption|skip))
     ((try refine CallT.toA ?_); refine callT_m (.inl ⟨rfl,rfl⟩) (by simp [go_sem]) ?_; intro args ha; simp [go_sem] at ha; subst ha; refine ⟨_, hP, ?_⟩; rintro _ rfl; simp [go_sem]; ((repeat' (first|(refine ag_x ?_;simp [go_sem])|intro _|apply And.intro|(apply Yh;clear Yh Y)));all_goals first|apply Hold.mk|omega|with_reducible assumption|skip))
     by_cases hpp : ([37, 37] : Bs).isPrefixOf (s.drop i) = true
     ·obtain ⟨hst, hl2⟩ := rf_pct (k := k) (L := L) (a := nd) (b := pn) h0 h3 hpp
      rw [hst] at hx
      (refine awp_if fun T F hT hF => ?_; simp [go_sem, hpp]; refine hT ?_; clear hT hF T F)
      (refine awp_sr fun Y Yh => ?_; simp [go_sem]; ((repeat' (first|(refine ag_x ?_;simp [go_sem])|intro _|apply And.intro|(apply Yh;clear Yh Y)));all_goals first|apply Hold.mk|omega|with_reducible assumption|skip))
      (refine awp_r fun Y Yh => ?_; simp [go_sem]; ((repeat' (first|(refine ag_x ?_;simp [go_sem])|intro _|apply And.intro|(apply Yh;clear Yh Y)));all_goals first|apply Hold.mk|omega|with_reducible assumption|skip))
      rename_i gq
      refine ⟨(i + 2, L ++ [fdT [37]], nd, pn, gq), ?_, ?_, ?_⟩
      ·(refine cov_of ?_ ?_ <;> simp [go_sem, fdT])
      ·refine ⟨by simp; omega, by simp; omega, k, by simp; omega, ?_⟩
       rw [← hx, List.drop_drop]
      ·simp; omega
     ·rw [Bool.not_eq_true] at hpp
      rw [rf_fld h0 h3 hpp] at hx
      (refine awp_if fun T F hT hF => ?_; simp [go_sem, hpp]; refine hF ?_; clear hT hF T F)
      have hF := field_spec s (i + 1) g (by omega) (by omega)
      have htl : (s.drop i).tail = s.drop (i + 1) := by rw [List.tail_drop]
      rw [htl] at hx
      cases hf : fieldV (s.drop (i + 1)) with
      | none =>
       rw [hf] at hx hF
       simp only at hx
       (refine awp_sr fun Y Yh => ?_; simp [go_sem]; ((repeat' (first|(refine ag_x ?_;simp [go_sem])|intro _|apply And.intro|(apply Yh;clear Yh Y)));all_goals first|apply Hold.mk|omega|with_reducible assumption|skip))
       (refine awp_sr fun Y Yh => ?_; simp [go_sem]; ((repeat' (first|(refine ag_x ?_;simp [go_sem])|intro _|apply And.intro|(apply Yh;clear Yh Y)));all_goals first|apply Hold.mk|omega|with_reducible assumption|skip))
       (refine callA_l [900002] (.inl ⟨rfl,rfl⟩) (by simp [go_sem]) ?_; intro args ha; simp [go_sem] at ha; subst ha; refine ⟨_, _, hF, (by simp [go_sem]), ?_⟩; rintro ps r hps ⟨a', f', rfl, rfl⟩; simp [go_sem]; ((repeat' (first|(refine ag_x ?_;simp [go_sem])|intro _|apply And.intro|(apply Yh;clear Yh Y)));all_goals first|apply Hold.mk|omega|with_reducible assumption|skip))
       refine awp_seq_k fun K9 hK9 => ?_
       (refine awp_sr fun Y Yh => ?_; simp [go_sem]; ((repeat' (first|(refine ag_x ?_;simp [go_sem])|intro _|apply And.intro|(apply Yh;clear Yh Y)));all_goals first|apply Hold.mk|omega|with_reducible assumption|skip))
       (refine awp_if fun T F hT hF => ?_; simp [go_sem]; refine hT ?_; clear hT hF T F)
       (refine awp_sr fun Y Yh => ?_; simp [go_sem]; ((repeat' (first|(refine ag_x ?_;simp [go_sem])|intro _|apply And.intro|(apply Yh;clear Yh Y)));all_goals first|apply Hold.mk|omega|with_reducible assumption|skip))
       (refine awp_ret ?_; simp [go_sem])
       rw [← hx]
       exact ⟨[], rfl⟩
      | some x =>
       obtain ⟨f, r⟩ := x
       rw [hf] at hx hF
       simp only at hx
       have hlen' := fieldV_len hf
       have hd1 : (s.drop (i + 1)).length = s.length - (i + 1) := List.length_drop
       have hpv : posV s r = s.length - r.length := rfl
       have hsuf := suf_at ((fieldV_suf hf).trans (List.drop_suffix (i + 1) s))
       (refine awp_sr fun Y Yh => ?_; simp [go_sem]; ((repeat' (first|(refine ag_x ?_;simp [go_sem])|intro _|apply And.intro|(apply Yh;clear Yh Y)));all_goals first|apply Hold.mk|omega|with_reducible assumption|skip))
       (refine awp_sr fun Y Yh => ?_; simp [go_sem]; ((repeat' (first|(refine ag_x ?_;simp [go_sem])|intro _|apply And.intro|(apply Yh;clear Yh Y)));all_goals first|apply Hold.mk|omega|with_reducible assumption|skip))
       (refine callA_l [900002] (.inl ⟨rfl,rfl⟩) (by simp [go_sem]) ?_; intro args ha; simp [go_sem] at ha; subst ha; refine ⟨_, _, hF, (by simp [go_sem]), ?_⟩; rintro ps r hps ⟨rfl, rfl⟩; simp [go_sem]; ((repeat' (first|(refine ag_x ?_;simp [go_sem])|intro _|apply And.intro|(apply Yh;clear Yh Y)));all_goals first|apply Hold.mk|omega|with_reducible assumption|skip))
       refine awp_seq_k fun K9 hK9 => ?_
       (refine awp_sr fun Y Yh => ?_; simp [go_sem]; ((repeat' (first|(refine ag_x ?_;simp [go_sem])|intro _|apply And.intro|(apply Yh;clear Yh Y)));all_goals first|apply Hold.mk|omega|with_reducible assumption|skip))
       (refine awp_if fun T F hT hF => ?_; simp [go_sem]; refine hF ?_; clear hT hF T F)
       refine awp_skip ?_
       refine hK9 _ ?_; clear hK9
       (refine awp_sr fun Y Yh => ?_; simp [go_sem]; ((repeat' (first|(refine ag_x ?_;simp [go_sem])|intro _|apply And.intro|(apply Yh;clear Yh Y)));all_goals first|apply Hold.mk|omega|with_reducible assumption|skip))
       (refine awp_sr fun Y Yh => ?_; simp [go_sem]; ((repeat' (first|(refine ag_x ?_;simp [go_sem])|intro _|apply And.intro|(apply Yh;clear Yh Y)));all_goals first|apply Hold.mk|omega|with_reducible assumption|skip))
       (refine awp_r fun Y Yh => ?_; simp [go_sem]; ((repeat' (first|(refine ag_x ?_;simp [go_sem])|intro _|apply And.intro|(apply Yh;clear Yh Y)));all_goals first|apply Hold.mk|omega|with_reducible assumption|skip))
       rename_i gq
       refine ⟨(posV s r, L ++ [f], nd || f.nm != [], pn || f.nm == [], gq), ?_, ?_, ?_⟩
       ·(refine cov_of ?_ ?_ <;> simp [go_sem])
        all_goals (cases f.nm <;> rfl)
       ·refine ⟨hsuf.2, by simp; omega, k, by simp; omega, ?_⟩
        simp only
        rw [hsuf.1, hx]
       ·simp; omega
   ·rw [if_neg h1] at hix
    rw [rf_last h0 (by omega)] at hx
    (refine awp_sr fun Y Yh => ?_; simp [go_sem, hix]; ((repeat' (first|(refine ag_x ?_;simp [go_sem, hix])|intro _|apply And.intro|(apply Yh;clear Yh Y)));all_goals first|apply Hold.mk|omega|with_reducible assumption|skip))
    (refine awp_if fun T F hT hF => ?_; simp [go_sem]; refine hT ?_; clear hT hF T F)
    (refine awp_sr fun Y Yh => ?_; simp [go_sem, ba_size, ba_drop]; ((repeat' (first|(refine ag_x ?_;simp [go_sem, ba_size, ba_drop])|intro _|apply And.intro|(apply Yh;clear Yh Y)));all_goals first|apply Hold.mk|omega|with_reducible assumption|skip))
    (refine awp_ret ?_; simp [go_sem])
    rw [← hx]
    have q := readR_end (L ++ [fdT (s.drop i)]) nd pn
    simp only [dFs, List.map_append, List.map_cons, List.map_nil, fdT] at q ⊢
    exact q
  ·rw [rf_end (by omega)] at hx
   (refine awp_if fun T F hT hF => ?_; simp [go_sem, hend]; refine hF ?_; clear hT hF T F)
   refine awp_exit ?_
   simp only [go_sem]
   refine hK3 _ ?_; clear hK3
   (refine awp_sr fun Y Yh => ?_; simp [go_sem]; ((repeat' (first|(refine ag_x ?_;simp [go_sem])|intro _|apply And.intro|(apply Yh;clear Yh Y)));all_goals first|apply Hold.mk|omega|with_reducible assumption|skip))
   (refine awp_ret ?_; simp [go_sem])
   rw [← hx]
   exact readR_end L nd pn
@[go_sem] abbrev fiB (g : Nat) (args : List Ag) (u : Int) : Nat × (Nat × Blk) := (900004, (g, .box [dAs args, dI u]))
def nxtV (args : List Ag) (u : Nat) : Ag × Nat × Nat := match args[u]? with
 | none => (ag0, 14, u)
 | some a => (a, 0, u + 1)
theorem mapA_at {args : List Ag} {u : Nat} {a : Ag} (h : args[u]? = some a) : (args.map cA)[u]? = some (cA a) := by simp [h]
set_option maxHeartbeats 4000000 in
theorem next_spec (args : List Ag) (u g : Nat) (hu : u ≤ args.length) (hl : args.length ≤ 1000000) :
  ACall Tryz.prog 111 [.ptr 900004 g 0] [fiB g args u] [900004]
   fun ps r => ps = [(g, .box [dAs args, dI (nxtV args u).2.2])] ∧ r = .tup [dA (nxtV args u).1, dI (nxtV args u).2.1] := by 
 refine acall_of Tryz.func111 rfl rfl Tryz.ntmps111 (rs := [.cell 2 25, .tmp 3]) (tys := [25, 34]) rfl rfl (by simp) (by simp [notFroz]) ?_
 (refine awp_sr fun Y Yh => ?_; simp [go_sem]; ((repeat' (first|(refine ag_x ?_;simp [go_sem])|intro _|apply And.intro|(apply Yh;clear Yh Y)));all_goals first|apply Hold.mk|omega|with_reducible assumption|skip))
 refine awp_seq_k fun K1 hK1 => ?_
 ((refine awp_dr (.qs [0, 1, 2, 4, 5, 6, 3, 7, 8, 9] (.nil)) (by kernel_rfl) ?_ ?_ ?_ ?_); (kernel_rfl); (exact (by decide +kernel)); (kernel_rfl); intro Y Yh; ((repeat' (first|(refine ag_x ?_;simp [go_sem])|refine adr_nil ?_|((first|refine adr_qs fun Y Yh=>?_|refine adr_y fun Y Yh=>?_);simp [go_sem])|intro _|apply And.intro|(apply Yh;clear Yh Y)));all_goals first|apply Hold.mk|omega|with_reducible assumption|skip))
 by_cases h : u = args.length
 ·have e : nxtV args u = (ag0, 14, u) := by unfold nxtV; rw [List.getElem?_eq_none (by omega)]
  rw [e] at hK1
  (refine awp_if fun T F hT hF => ?_; simp [go_sem, h]; refine hT ?_; clear hT hF T F)
  (refine awp_sr fun Y Yh => ?_; simp [go_sem]; ((repeat' (first|(refine ag_x ?_;simp [go_sem])|intro _|apply And.intro|(apply Yh;clear Yh Y)));all_goals first|apply Hold.mk|omega|with_reducible assumption|skip))
  (refine awp_ret ?_; simp [go_sem, e, ag0])
 ·have hlt : u < args.length := by omega
  have hx : args[u]? = some args[u] := List.getElem?_eq_getElem hlt
  generalize args[u] = a at hx
  have e : nxtV args u = (a, 0, u + 1) := by unfold nxtV; rw [hx]
  (refine awp_if fun T F hT hF => ?_; simp [go_sem, h]; refine hF ?_; clear hT hF T F)
  refine awp_skip ?_
  refine hK1 _ ?_; clear hK1
  (refine awp_sr fun Y Yh => ?_; simp [go_sem]; ((repeat' (first|(refine ag_x ?_;simp [go_sem])|intro _|apply And.intro|(apply Yh;clear Yh Y)));all_goals first|apply Hold.mk|omega|with_reducible assumption|skip))
  have e2 : ((u : Int) + 1 - 1).toNat = u := by omega
  ((refine awp_dr (.qs [0, 1, 2, 4, 5, 6, 3, 7, 8, 9, 10] (.one 11 (.qs [12] (.nil)))) (by kernel_rfl) ?_ ?_ ?_ ?_); (kernel_rfl); (exact (by decide +kernel)); (kernel_rfl); intro Y Yh; ((repeat' (first|(refine ag_x ?_;simp [go_sem, e2, mapA_at hx, hx])|refine adr_nil ?_|((first|refine adr_qs fun Y Yh=>?_|refine adr_y fun Y Yh=>?_);simp [go_sem, e2, mapA_at hx, hx])|intro _|apply And.intro|(apply Yh;clear Yh Y)));all_goals first|apply Hold.mk|omega|with_reducible assumption|skip))
  (refine awp_ret ?_; simp [go_sem, e])
def fIx {α : Type} (p : α → Bool) (l : List α) : Int := if l.findIdx p < l.length then (l.findIdx p : Int) else -1
theorem fIx_at {α : Type} {p : α → Bool} {l : List α} {i : Nat} {x : α} (h : (l.take i).any p = false) (hx : l[i]? = some x) (hp : p x = true) : fIx p l = i := by
 have hlt : i < l.length := (List.getElem?_eq_some_iff.1 hx).1
 have e : l.findIdx p = i := by
  rw [List.findIdx_eq (h := hlt)]
  refine ⟨by rw [List.getElem?_eq_getElem hlt] at hx; simp at hx; rw [hx]; exact hp, fun j hj => ?_⟩
  rw [List.any_eq_false] at h
  have := h l[j] (by rw [List.mem_iff_getElem]; exact ⟨j, by simp; omega, by simp⟩)
  simpa using this
 unfold fIx
 rw [e, if_pos hlt]
theorem fIx_none {α : Type} {p : α → Bool} {l : List α} (h : l.any p = false) : fIx p l = -1 := by
 unfold fIx
 rw [if_neg]
 rw [List.findIdx_lt_length]
 rintro ⟨x, hx, hp⟩
 rw [List.any_eq_false] at h
 exact absurd hp (h x hx)
theorem find_fIx {α : Type} (p : α → Bool) : ∀ l : List α, (l.find? p = none ∧ fIx p l = -1) ∨ ∃ (i : Nat) (a : α), l.find? p = some a ∧ fIx p l = i ∧ l[i]? = some a
 | [] => .inl ⟨rfl, rfl⟩
 | x :: l => by
  unfold fIx
  rw [List.findIdx_cons, List.find?_cons]
  by_cases h : p x = true
  ·right; exact ⟨0, x, by simp [h], by simp [h], rfl⟩
  ·rw [Bool.not_eq_true] at h
   have ih := find_fIx p l
   unfold fIx at ih
   simp only [h, cond_false, List.length_cons]
   generalize l.findIdx p = n at *
   rcases ih with ⟨h1, h2⟩ | ⟨i, a, h1, h2, h3⟩
   ·left
    refine ⟨h1, ?_⟩
    split at h2
    ·omega
    ·rw [if_neg (by omega)]
   ·right
    refine ⟨i + 1, a, h1, ?_, by simpa using h3⟩
    split at h2
    ·rw [if_pos (by omega)]; omega
    ·omega
theorem take_anyG {α : Type} {p : α → Bool} {l : List α} {i : Nat} {x : α} (h : (l.take i).any p = false) (hx : l[i]? = some x) (hp : p x = false) : (l.take (i + 1)).any p = false := by
 rw [List.take_add_one, hx]
 simp [h, hp]
theorem indexA_spec (l : List Ag) (f : Nat) (caps : List D) (p : Ag → Bool) (hp : ∀ x ∈ l, PCall Tryz.prog f (dA x :: caps) fun r => r = dB (p x)) (hl : l.length ≤ 1000000) : PCall Tryz.prog 112 [dAs l, .fn f caps] fun r => r = dI (fIx p l) := by
 refine pcall_of Tryz.func112 rfl rfl Tryz.ntmps112 (rs := [.tmp 4]) (tys := [3]) rfl rfl (by simp) ?_
 (refine awp_sr fun Y Yh => ?_; simp [go_sem]; ((repeat' (first|(refine ag_x ?_;simp [go_sem])|intro _|apply And.intro|(apply Yh;clear Yh Y)));all_goals first|apply Hold.mk|omega|with_reducible assumption|skip))
 refine awp_seq_k fun K1 hK1 => ?_
 (refine awp_sr fun Y Yh => ?_; simp [go_sem]; ((repeat' (first|(refine ag_x ?_;simp [go_sem])|intro _|apply And.intro|(apply Yh;clear Yh Y)));all_goals first|apply Hold.mk|omega|with_reducible assumption|skip))
 refine awp_block ?_
 refine awp_loop (σ := Nat) (fun i => ⟨[(0, dAs l), (1, .fn f caps), (7, dI l.length), (8, dI i)], []⟩) (fun i => i ≤ l.length ∧ (l.take i).any p = false) (fun i => l.length - i) 0 (by (refine cov_of ?_ ?_ <;> simp [go_sem])) (by simp) ?_
 rintro i ⟨hi, hany⟩
 (refine awp_sr fun Y Yh => ?_; simp [go_sem]; ((repeat' (first|(refine ag_x ?_;simp [go_sem])|intro _|apply And.intro|(apply Yh;clear Yh Y)));all_goals first|apply Hold.mk|omega|with_reducible assumption|skip))
 refine awp_seq_k fun K2 hK2 => ?_
 (refine awp_if fun T F hT hF => ?_; simp [go_sem]; refine BR.intro (fun h3 => hT ?_) (fun h3 => hF ?_); all_goals clear hT hF T F; try simp at h3)
 ·refine awp_skip ?_
  refine hK2 _ ?_; clear hK2
  obtain ⟨x, hx⟩ : ∃ x, l[i]? = some x := ⟨_, List.getElem?_eq_getElem (by omega)⟩
  refine awp_seq_k fun K4 hK4 => ?_
  refine awp_block ?_
  (refine awp_sr fun Y Yh => ?_; simp [go_sem]; ((repeat' (first|(refine ag_x ?_;simp [go_sem])|intro _|apply And.intro|(apply Yh;clear Yh Y)));all_goals first|apply Hold.mk|omega|with_reducible assumption|skip))
  (refine awp_sr fun Y Yh => ?_; simp [go_sem, hx]; ((repeat' (first|(refine ag_x ?_;simp [go_sem, hx])|intro _|apply And.intro|(apply Yh;clear Yh Y)));all_goals first|apply Hold.mk|omega|with_reducible assumption|skip))
  ((try refine CallT.toA ?_); refine callT_m (by first|exact .inl ⟨rfl,rfl⟩|exact .inr rfl) (by simp [go_sem]) ?_; intro args ha; simp [go_sem] at ha; subst ha; refine ⟨_, (hp x (List.mem_of_getElem? hx)), ?_⟩; rintro _ rfl; simp [go_sem]; ((repeat' (first|(refine ag_x ?_;simp [go_sem])|intro _|apply And.intro|(apply Yh;clear Yh Y)));all_goals first|apply Hold.mk|omega|with_reducible assumption|skip))
  (refine awp_if fun T F hT hF => ?_; simp [go_sem]; refine BR.intro (fun h5 => hT ?_) (fun h5 => hF ?_); all_goals clear hT hF T F; try simp at h5)
  ·(refine awp_sr fun Y Yh => ?_; simp [go_sem]; ((repeat' (first|(refine ag_x ?_;simp [go_sem])|intro _|apply And.intro|(apply Yh;clear Yh Y)));all_goals first|apply Hold.mk|omega|with_reducible assumption|skip))
   (refine awp_ret ?_; simp [go_sem])
   rw [fIx_at hany hx h5]
  ·refine awp_skip ?_
   refine hK4 _ ?_; clear hK4
   (refine awp_r fun Y Yh => ?_; simp [go_sem]; ((repeat' (first|(refine ag_x ?_;simp [go_sem])|intro _|apply And.intro|(apply Yh;clear Yh Y)));all_goals first|apply Hold.mk|omega|with_reducible assumption|skip))
   refine ⟨i + 1, ?_, ⟨by omega, take_anyG hany hx (by simp [h5])⟩, by omega⟩
   (refine cov_of ?_ ?_ <;> simp [go_sem])
 ·refine awp_exit ?_
  simp only [go_sem]
  refine hK1 _ ?_; clear hK1
  (refine awp_sr fun Y Yh => ?_; simp [go_sem]; ((repeat' (first|(refine ag_x ?_;simp [go_sem])|intro _|apply And.intro|(apply Yh;clear Yh Y)));all_goals first|apply Hold.mk|omega|with_reducible assumption|skip))
  (refine awp_ret ?_; simp [go_sem])
  have : i = l.length := by omega
  subst this
  rw [List.take_length] at hany
  rw [fIx_none hany]
theorem ofc_spec (a : Ag) (f : Fld) : PCall Tryz.prog 113 [dA a, .rd (cF f)] fun r => r = dB (a.nm == f.nm) := by
 refine pcall_of Tryz.func113 rfl rfl Tryz.ntmps113 (rs := [.tmp 3]) (tys := [4]) rfl rfl (by simp) ?_
 (refine awp_sr fun Y Yh => ?_; simp [go_sem]; ((repeat' (first|(refine ag_x ?_;simp [go_sem])|intro _|apply And.intro|(apply Yh;clear Yh Y)));all_goals first|apply Hold.mk|omega|with_reducible assumption|skip))
 (refine awp_sr fun Y Yh => ?_; simp [go_sem]; ((repeat' (first|(refine ag_x ?_;simp [go_sem])|intro _|apply And.intro|(apply Yh;clear Yh Y)));all_goals first|apply Hold.mk|omega|with_reducible assumption|skip))
 (refine awp_ret ?_; simp [go_sem])
set_option maxHeartbeats 8000000 in
theorem of_spec (args : List Ag) (u g : Nat) (f : Fld) (hu : u ≤ args.length) (hl : args.length ≤ 1000000) :
  ACall Tryz.prog 72 [.ptr 900004 g 0, dF f] [fiB g args u] [900004]
   fun ps r => ps = [(g, .box [dAs args, dI (ofA args u f.nm).2.2])] ∧ r = .tup [dA (ofA args u f.nm).1, dI (ofA args u f.nm).2.1] := by 
 refine acall_of Tryz.func72 rfl rfl Tryz.ntmps72 (rs := [.cell 4 25, .tmp 5]) (tys := [25, 34]) rfl rfl (by simp) (by simp [notFroz]) ?_
 by_cases hn : f.nm = []
 ·have e : ofA args u f.nm = nxtV args u := by unfold ofA nxtV; rw [if_pos hn]; cases args[u]? <;> rfl
  have hN := next_spec args u g hu hl
  rw [e]
  generalize nxtV args u = q at *
  obtain ⟨a, e', u'⟩ := q
  simp only at hN ⊢
  (refine awp_sr fun Y Yh => ?_; simp [go_sem]; ((repeat' (first|(refine ag_x ?_;simp [go_sem])|intro _|apply And.intro|(apply Yh;clear Yh Y)));all_goals first|apply Hold.mk|omega|with_reducible assumption|skip))
  refine awp_seq_k fun K1 hK1 => ?_
  (refine awp_sr fun Y Yh => ?_; simp [go_sem]; ((repeat' (first|(refine ag_x ?_;simp [go_sem])|intro _|apply And.intro|(apply Yh;clear Yh Y)));all_goals first|apply Hold.mk|omega|with_reducible assumption|skip))
  (refine awp_if fun T F hT hF => ?_; simp [go_sem, hn]; refine hT ?_; clear hT hF T F)
  (refine awp_sr fun Y Yh => ?_; simp [go_sem]; ((repeat' (first|(refine ag_x ?_;simp [go_sem])|intro _|apply And.intro|(apply Yh;clear Yh Y)));all_goals first|apply Hold.mk|omega|with_reducible assumption|skip))
  (refine callA_l [900004] (.inl ⟨rfl,rfl⟩) (by simp [go_sem]) ?_; intro args ha; simp [go_sem] at ha; subst ha; refine ⟨_, _, hN, (by simp [go_sem]), ?_⟩; rintro ps r hps ⟨rfl, rfl⟩; simp [go_sem]; ((repeat' (first|(refine ag_x ?_;simp [go_sem])|intro _|apply And.intro|(apply Yh;clear Yh Y)));all_goals first|apply Hold.mk|omega|with_reducible assumption|skip))
  (refine awp_ret ?_; simp [go_sem])
 ·have hI := indexA_spec args 113 [.rd (cF f)] (fun a => a.nm == f.nm) (fun a _ => ofc_spec a f) hl
  have e : ofA args u f.nm = (match args.find? (fun a => a.nm == f.nm) with | none => (ag0, 6, u) | some a => (a, 0, u)) := by unfold ofA; rw [if_neg hn]; rfl
  rw [e]
  have hne : f.nm.isEmpty = false := by cases h : f.nm with | nil => exact absurd h hn | cons _ _ => rfl
  have hfi := find_fIx (fun a : Ag => a.nm == f.nm) args
  generalize fIx (fun a : Ag => a.nm == f.nm) args = j at *
  generalize args.find? (fun a : Ag => a.nm == f.nm) = q at *
  (refine awp_sr fun Y Yh => ?_; simp [go_sem]; ((repeat' (first|(refine ag_x ?_;simp [go_sem])|intro _|apply And.intro|(apply Yh;clear Yh Y)));all_goals first|apply Hold.mk|omega|with_reducible assumption|skip))
  refine awp_seq_k fun K1 hK1 => ?_
  (refine awp_sr fun Y Yh => ?_; simp [go_sem]; ((repeat' (first|(refine ag_x ?_;simp [go_sem])|intro _|apply And.intro|(apply Yh;clear Yh Y)));all_goals first|apply Hold.mk|omega|with_reducible assumption|skip))
  (refine awp_if fun T F hT hF => ?_; simp [go_sem, hne]; refine hF ?_; clear hT hF T F)
  refine awp_skip ?_
  refine hK1 _ ?_; clear hK1
  (refine awp_sr fun Y Yh => ?_; simp [go_sem]; ((repeat' (first|(refine ag_x ?_;simp [go_sem])|intro _|apply And.intro|(apply Yh;clear Yh Y)));all_goals first|apply Hold.mk|omega|with_reducible assumption|skip))
  ((try refine CallT.toA ?_); refine callT_f (.inl ⟨rfl,rfl⟩) ?_; intro args ha; simp [go_sem] at ha; subst ha; refine ⟨_, hI, ?_⟩; rintro _ rfl; refine ⟨rfl, ?_⟩; simp [go_sem]; ((repeat' (first|(refine ag_x ?_;simp [go_sem])|intro _|apply And.intro|(apply Yh;clear Yh Y)));all_goals first|apply Hold.mk|omega|with_reducible assumption|skip))
  refine awp_seq_k fun K3 hK3 => ?_
  rcases hfi with ⟨rfl, rfl⟩ | ⟨i, a, rfl, rfl, hx⟩
  ·(refine awp_sr fun Y Yh => ?_; simp [go_sem]; ((repeat' (first|(refine ag_x ?_;simp [go_sem])|intro _|apply And.intro|(apply Yh;clear Yh Y)));all_goals first|apply Hold.mk|omega|with_reducible assumption|skip))
   (refine awp_if fun T F hT hF => ?_; simp [go_sem]; refine hT ?_; clear hT hF T F)
   (refine awp_sr fun Y Yh => ?_; simp [go_sem]; ((repeat' (first|(refine ag_x ?_;simp [go_sem])|intro _|apply And.intro|(apply Yh;clear Yh Y)));all_goals first|apply Hold.mk|omega|with_reducible assumption|skip))
   (refine awp_ret ?_; simp [go_sem, ag0])
  ·have hi0 : ¬ (i : Int) < 0 := by omega
   (refine awp_sr fun Y Yh => ?_; simp [go_sem]; ((repeat' (first|(refine ag_x ?_;simp [go_sem])|intro _|apply And.intro|(apply Yh;clear Yh Y)));all_goals first|apply Hold.mk|omega|with_reducible assumption|skip))
   (refine awp_if fun T F hT hF => ?_; simp [go_sem, hi0]; refine hF ?_; clear hT hF T F)
   refine awp_skip ?_
   refine hK3 _ ?_; clear hK3
   (refine awp_sr fun Y Yh => ?_; simp [go_sem, hx]; ((repeat' (first|(refine ag_x ?_;simp [go_sem, hx])|intro _|apply And.intro|(apply Yh;clear Yh Y)));all_goals first|apply Hold.mk|omega|with_reducible assumption|skip))
   (refine awp_ret ?_; simp [go_sem])
theorem starW_nx {args : List Ag} {u : Nat} {f : Fld} (h : f.wd = -2) : starW args u f = if (nxtV args u).2.1 ≠ 0 then (14, u, f) else
  if (nxtV args u).1.is ∨ 1000 < (nxtV args u).1.int ∨ (nxtV args u).1.int < -1000 then (1, u + 1, f) else (0, u + 1, if (nxtV args u).1.int < 0 then { f with wd := -(nxtV args u).1.int, lf := true } else { f with wd := (nxtV args u).1.int }) := by
 unfold starW nxtV
 rw [if_neg (by simp [h])]
 cases args[u]? <;> rfl
theorem starP_nx {args : List Ag} {u : Nat} {f : Fld} (h : f.pr = -2) : starP args u f = if (nxtV args u).2.1 ≠ 0 then (14, u, f) else
  if (nxtV args u).1.is ∨ 1000 < (nxtV args u).1.int then (1, u + 1, f) else (0, u + 1, if (nxtV args u).1.int < 0 then { f with pr := -1 } else { f with pr := (nxtV args u).1.int }) := by
 unfold starP nxtV
 rw [if_neg (by simp [h])]
 cases args[u]? <;> rfl
theorem nxt_two (args : List Ag) (u : Nat) : (nxtV args u = (ag0, 14, u)) ∨ ∃ a, nxtV args u = (a, 0, u + 1) := by
 unfold nxtV
 cases args[u]? with
 | none => exact .inl rfl
 | some a => exact .inr ⟨a, rfl⟩
theorem nxt_some {args : List Ag} {u : Nat} {a : Ag} (h : nxtV args u = (a, 0, u + 1)) : args[u]? = some a := by
 unfold nxtV at h
 cases hx : args[u]? with
 | none => rw [hx] at h; cases h
 | some b => rw [hx] at h; cases h; rfl
set_option maxHeartbeats 16000000 in
theorem stars_spec (args : List Ag) (u g gf : Nat) (f : Fld) (hu : u ≤ args.length) (hl : args.length ≤ 1000000) :
  ACall Tryz.prog 71 [.ptr 900004 g 0, .ptr 900003 gf 0] [fiB g args u, fdB gf f] [900004, 900003]
   fun ps r => ps = [(g, .box [dAs args, dI (starsV args u f).2.1]), (gf, .box (cF (starsV args u f).2.2))] ∧ r = dI (starsV args u f).1 := by 
 refine acall_of Tryz.func71 rfl rfl Tryz.ntmps71 (rs := [.tmp 4]) (tys := [34]) rfl rfl (by simp) (by simp [notFroz]) ?_
 have hV : starsV args u f = if (starW args u f).1 ≠ 0 then starW args u f else starP args (starW args u f).2.1 (starW args u f).2.2 := rfl
 generalize starsV args u f = V at *
 (refine awp_sr fun Y Yh => ?_; simp [go_sem]; ((repeat' (first|(refine ag_x ?_;simp [go_sem])|intro _|apply And.intro|(apply Yh;clear Yh Y)));all_goals first|apply Hold.mk|omega|with_reducible assumption|skip))
 refine awp_seq_k fun K1 hK1 => ?_
 ((refine awp_dr (.qs [0, 1, 2, 3, 4, 5, 8] (.one 6 (.qs [7] (.nil)))) (by kernel_rfl) ?_ ?_ ?_ ?_); (kernel_rfl); (exact (by decide +kernel)); (kernel_rfl); intro Y Yh; ((repeat' (first|(refine ag_x ?_;simp [go_sem])|refine adr_nil ?_|((first|refine adr_qs fun Y Yh=>?_|refine adr_y fun Y Yh=>?_);simp [go_sem])|intro _|apply And.intro|(apply Yh;clear Yh Y)));all_goals first|apply Hold.mk|omega|with_reducible assumption|skip))
 rename_i gr
 refine awp_block ?_
 refine awp_loop (σ := Nat × Fld × Nat) (fun x => ⟨[(0, .ptr 900004 g 0), (1, .ptr 900003 gf 0), (15, .own 15 gr), (16, dI 2), (17, dI x.1)], [fiB g args x.2.2, fdB gf x.2.1, (15, (gr, .row 123 1 [[.ptr 900003 gf 7], [.ptr 900003 gf 8]]))]⟩)
  (fun x => x.2.2 ≤ args.length ∧ ((x.1 = 0 ∧ x.2.1 = f ∧ x.2.2 = u) ∨ (x.1 = 1 ∧ starW args u f = (0, x.2.2, x.2.1)) ∨ (x.1 = 2 ∧ V = (0, x.2.2, x.2.1)))) (fun x => 2 - x.1) (0, f, u) ?_ ?_ ?_
 ·(refine cov_of ?_ ?_ <;> simp [go_sem])
 ·exact ⟨hu, .inl ⟨rfl, rfl, rfl⟩⟩
 rintro ⟨i, f', u'⟩ ⟨hu', hx⟩
 simp only at hu' hx ⊢
 rcases hx with ⟨rfl, rfl, rfl⟩ | ⟨rfl, hW⟩ | ⟨rfl, hE⟩
 ·have hN := next_spec args u' g hu hl
  (refine awp_sr fun Y Yh => ?_; simp [go_sem]; ((repeat' (first|(refine ag_x ?_;simp [go_sem])|intro _|apply And.intro|(apply Yh;clear Yh Y)));all_goals first|apply Hold.mk|omega|with_reducible assumption|skip))
  refine awp_seq_k fun K2 hK2 => ?_
  (refine awp_if fun T F hT hF => ?_; simp [go_sem]; refine hT ?_; clear hT hF T F)
  refine awp_skip ?_
  refine hK2 _ ?_; clear hK2
  refine awp_seq_k fun K4 hK4 => ?_
  have tl4 : ∀ S' f1 u1, starW args u' f' = (0, u1, f1) → u1 ≤ args.length → Cov S' ⟨[(0, .ptr 900004 g 0), (1, .ptr 900003 gf 0), (15, .own 15 gr), (16, dI 2), (17, dI 0)], [fiB g args u1, fdB gf f1, (15, (gr, .row 123 1 [[.ptr 900003 gf 7], [.ptr 900003 gf 8]]))]⟩ → K4 S' := fun S' f1 u1 h1 h2 hS => by
   refine hK4 _ ?_; clear hK4
   refine awp_cov hS ?_; clear hS
   (refine awp_r fun Y Yh => ?_; simp [go_sem]; ((repeat' (first|(refine ag_x ?_;simp [go_sem])|intro _|apply And.intro|(apply Yh;clear Yh Y)));all_goals first|apply Hold.mk|omega|with_reducible assumption|skip))
   refine ⟨(1, f1, u1), ?_, ⟨h2, .inr (.inl ⟨rfl, h1⟩)⟩, ?_⟩
   ·(refine cov_of ?_ ?_ <;> simp [go_sem])
   ·simp
  clear hK4
  refine awp_block ?_
  (refine awp_sr fun Y Yh => ?_; simp [go_sem]; ((repeat' (first|(refine ag_x ?_;simp [go_sem])|intro _|apply And.intro|(apply Yh;clear Yh Y)));all_goals first|apply Hold.mk|omega|with_reducible assumption|skip))
  refine awp_seq_k fun K5 hK5 => ?_
  (refine awp_sr fun Y Yh => ?_; simp [go_sem]; ((repeat' (first|(refine ag_x ?_;simp [go_sem])|intro _|apply And.intro|(apply Yh;clear Yh Y)));all_goals first|apply Hold.mk|omega|with_reducible assumption|skip))
  by_cases hwd : f'.wd = -2
  ·(refine awp_if fun T F hT hF => ?_; simp [go_sem, hwd]; refine hF ?_; clear hT hF T F)
   refine awp_skip ?_
   refine hK5 _ ?_; clear hK5
   have hst := starW_nx (args := args) (u := u') hwd
   rcases nxt_two args u' with hq | ⟨a, hq⟩
   ·rw [hq] at hN hst
    simp only [ne_eq, show ¬ (14 : Nat) = 0 by decide, not_false_eq_true, if_true] at hst
    have hV2 : V = (14, u', f') := by rw [hV, hst]; rfl
    (refine awp_sr fun Y Yh => ?_; simp [go_sem]; ((repeat' (first|(refine ag_x ?_;simp [go_sem])|intro _|apply And.intro|(apply Yh;clear Yh Y)));all_goals first|apply Hold.mk|omega|with_reducible assumption|skip))
    (refine callA_l [900004] (.inl ⟨rfl,rfl⟩) (by simp [go_sem]) ?_; intro args ha; simp [go_sem] at ha; subst ha; refine ⟨_, _, hN, (by simp [go_sem]), ?_⟩; rintro ps r hps ⟨rfl, rfl⟩; simp [go_sem]; ((repeat' (first|(refine ag_x ?_;simp [go_sem])|intro _|apply And.intro|(apply Yh;clear Yh Y)));all_goals first|apply Hold.mk|omega|with_reducible assumption|skip))
    refine awp_seq_k fun K7 hK7 => ?_
    refine awp_block ?_
    (refine awp_sr fun Y Yh => ?_; simp [go_sem]; ((repeat' (first|(refine ag_x ?_;simp [go_sem])|intro _|apply And.intro|(apply Yh;clear Yh Y)));all_goals first|apply Hold.mk|omega|with_reducible assumption|skip))
    (refine awp_if fun T F hT hF => ?_; simp [go_sem]; refine hT ?_; clear hT hF T F)
    (refine awp_sr fun Y Yh => ?_; simp [go_sem]; ((repeat' (first|(refine ag_x ?_;simp [go_sem])|intro _|apply And.intro|(apply Yh;clear Yh Y)));all_goals first|apply Hold.mk|omega|with_reducible assumption|skip))
    (refine awp_ret ?_; simp [go_sem, hV2])
   ·rw [hq] at hN hst
    simp only [ne_eq, not_true_eq_false, if_false] at hst
    (refine awp_sr fun Y Yh => ?_; simp [go_sem]; ((repeat' (first|(refine ag_x ?_;simp [go_sem])|intro _|apply And.intro|(apply Yh;clear Yh Y)));all_goals first|apply Hold.mk|omega|with_reducible assumption|skip))
    (refine callA_l [900004] (.inl ⟨rfl,rfl⟩) (by simp [go_sem]) ?_; intro args ha; simp [go_sem] at ha; subst ha; refine ⟨_, _, hN, (by simp [go_sem]), ?_⟩; rintro ps r hps ⟨rfl, rfl⟩; simp [go_sem]; ((repeat' (first|(refine ag_x ?_;simp [go_sem])|intro _|apply And.intro|(apply Yh;clear Yh Y)));all_goals first|apply Hold.mk|omega|with_reducible assumption|skip))
    refine awp_seq_k fun K7 hK7 => ?_
    refine awp_block ?_
    (refine awp_sr fun Y Yh => ?_; simp [go_sem]; ((repeat' (first|(refine ag_x ?_;simp [go_sem])|intro _|apply And.intro|(apply Yh;clear Yh Y)));all_goals first|apply Hold.mk|omega|with_reducible assumption|skip))
    (refine awp_if fun T F hT hF => ?_; simp [go_sem]; refine hF ?_; clear hT hF T F)
    (refine awp_sr fun Y Yh => ?_; simp [go_sem]; ((repeat' (first|(refine ag_x ?_;simp [go_sem])|intro _|apply And.intro|(apply Yh;clear Yh Y)));all_goals first|apply Hold.mk|omega|with_reducible assumption|skip))
    have hu1 := (List.getElem?_eq_some_iff.1 (nxt_some hq)).1
    by_cases hb : a.is = true ∨ 1000 < a.int ∨ a.int < -1000
    ·rw [if_pos hb] at hst
     have hV2 : V = (1, u' + 1, f') := by rw [hV, hst]; rfl
     have hb2 : (a.is || decide (1000 < a.int) || decide (a.int < -1000)) = true := by simpa [or_assoc] using hb
     (refine awp_if fun T F hT hF => ?_; simp [go_sem, hb2]; refine hT ?_; clear hT hF T F)
     (refine awp_sr fun Y Yh => ?_; simp [go_sem]; ((repeat' (first|(refine ag_x ?_;simp [go_sem])|intro _|apply And.intro|(apply Yh;clear Yh Y)));all_goals first|apply Hold.mk|omega|with_reducible assumption|skip))
     (refine awp_ret ?_; simp [go_sem, hV2])
    ·rw [if_neg hb] at hst
     have hb2 : (a.is || decide (1000 < a.int) || decide (a.int < -1000)) = false := by
      rw [Bool.eq_false_iff]; intro q; exact hb (by simpa [or_assoc] using q)
     (refine awp_if fun T F hT hF => ?_; simp [go_sem, hb2]; refine hF ?_; clear hT hF T F)
     refine awp_skip ?_
     refine hK7 _ ?_; clear hK7
     (refine awp_sr fun Y Yh => ?_; simp [go_sem]; ((repeat' (first|(refine ag_x ?_;simp [go_sem])|intro _|apply And.intro|(apply Yh;clear Yh Y)));all_goals first|apply Hold.mk|omega|with_reducible assumption|skip))
     (refine awp_sr fun Y Yh => ?_; simp [go_sem]; ((repeat' (first|(refine ag_x ?_;simp [go_sem])|intro _|apply And.intro|(apply Yh;clear Yh Y)));all_goals first|apply Hold.mk|omega|with_reducible assumption|skip))
     by_cases hneg : a.int < 0
     ·rw [if_pos hneg] at hst
      (refine awp_if fun T F hT hF => ?_; simp [go_sem, hneg]; refine hT ?_; clear hT hF T F)
      (refine awp_sr fun Y Yh => ?_; simp [go_sem]; ((repeat' (first|(refine ag_x ?_;simp [go_sem])|intro _|apply And.intro|(apply Yh;clear Yh Y)));all_goals first|apply Hold.mk|omega|with_reducible assumption|skip))
      (refine awp_sr fun Y Yh => ?_; simp [go_sem]; ((repeat' (first|(refine ag_x ?_;simp [go_sem])|intro _|apply And.intro|(apply Yh;clear Yh Y)));all_goals first|apply Hold.mk|omega|with_reducible assumption|skip))
      (refine awp_if fun T F hT hF => ?_; simp [go_sem]; refine hT ?_; clear hT hF T F)
      (refine awp_sr fun Y Yh => ?_; simp [go_sem]; ((repeat' (first|(refine ag_x ?_;simp [go_sem])|intro _|apply And.intro|(apply Yh;clear Yh Y)));all_goals first|apply Hold.mk|omega|with_reducible assumption|skip))
      (refine awp_r fun Y Yh => ?_; simp [go_sem]; ((repeat' (first|(refine ag_x ?_;simp [go_sem])|intro _|apply And.intro|(apply Yh;clear Yh Y)));all_goals first|apply Hold.mk|omega|with_reducible assumption|skip))
      refine tl4 _ _ _ hst (by omega) ?_
      (refine cov_of ?_ ?_ <;> simp [go_sem])
     ·rw [if_neg hneg] at hst
      (refine awp_if fun T F hT hF => ?_; simp [go_sem, hneg]; refine hF ?_; clear hT hF T F)
      refine awp_skip ?_
      refine tl4 _ _ _ hst (by omega) ?_
      (refine cov_of ?_ ?_ <;> simp [go_sem])
  ·have hst : starW args u' f' = (0, u', f') := by unfold starW; rw [if_pos hwd]
   (refine awp_if fun T F hT hF => ?_; simp [go_sem, hwd]; refine hT ?_; clear hT hF T F)
   refine awp_exit ?_
   simp only [go_sem]
   refine tl4 _ f' u' hst hu ?_
   (refine cov_of ?_ ?_ <;> simp [go_sem])
 ·have hN := next_spec args u' g hu' hl
  (refine awp_sr fun Y Yh => ?_; simp [go_sem]; ((repeat' (first|(refine ag_x ?_;simp [go_sem])|intro _|apply And.intro|(apply Yh;clear Yh Y)));all_goals first|apply Hold.mk|omega|with_reducible assumption|skip))
  refine awp_seq_k fun K2 hK2 => ?_
  (refine awp_if fun T F hT hF => ?_; simp [go_sem]; refine hT ?_; clear hT hF T F)
  refine awp_skip ?_
  refine hK2 _ ?_; clear hK2
  refine awp_seq_k fun K4 hK4 => ?_
  have tl4 : ∀ S' f1 u1, starP args u' f' = (0, u1, f1) → u1 ≤ args.length → Cov S' ⟨[(0, .ptr 900004 g 0), (1, .ptr 900003 gf 0), (15, .own 15 gr), (16, dI 2), (17, dI 1)], [fiB g args u1, fdB gf f1, (15, (gr, .row 123 1 [[.ptr 900003 gf 7], [.ptr 900003 gf 8]]))]⟩ → K4 S' := fun S' f1 u1 h1 h2 hS => by
   refine hK4 _ ?_; clear hK4
   refine awp_cov hS ?_; clear hS
   (refine awp_r fun Y Yh => ?_; simp [go_sem]; ((repeat' (first|(refine ag_x ?_;simp [go_sem])|intro _|apply And.intro|(apply Yh;clear Yh Y)));all_goals first|apply Hold.mk|omega|with_reducible assumption|skip))
   refine ⟨(2, f1, u1), ?_, ⟨h2, .inr (.inr ⟨rfl, by rw [hV, hW]; simpa using h1⟩)⟩, ?_⟩
   ·(refine cov_of ?_ ?_ <;> simp [go_sem])
   ·simp
  clear hK4
  refine awp_block ?_
  (refine awp_sr fun Y Yh => ?_; simp [go_sem]; ((repeat' (first|(refine ag_x ?_;simp [go_sem])|intro _|apply And.intro|(apply Yh;clear Yh Y)));all_goals first|apply Hold.mk|omega|with_reducible assumption|skip))
  refine awp_seq_k fun K5 hK5 => ?_
  (refine awp_sr fun Y Yh => ?_; simp [go_sem]; ((repeat' (first|(refine ag_x ?_;simp [go_sem])|intro _|apply And.intro|(apply Yh;clear Yh Y)));all_goals first|apply Hold.mk|omega|with_reducible assumption|skip))
  by_cases hwd : f'.pr = -2
  ·(refine awp_if fun T F hT hF => ?_; simp [go_sem, hwd]; refine hF ?_; clear hT hF T F)
   refine awp_skip ?_
   refine hK5 _ ?_; clear hK5
   have hst := starP_nx (args := args) (u := u') hwd
   rcases nxt_two args u' with hq | ⟨a, hq⟩
   ·rw [hq] at hN hst
    simp only [ne_eq, show ¬ (14 : Nat) = 0 by decide, not_false_eq_true, if_true] at hst
    have hV2 : V = (14, u', f') := by rw [hV, hW]; simpa using hst
    (refine awp_sr fun Y Yh => ?_; simp [go_sem]; ((repeat' (first|(refine ag_x ?_;simp [go_sem])|intro _|apply And.intro|(apply Yh;clear Yh Y)));all_goals first|apply Hold.mk|omega|with_reducible assumption|skip))
    (refine callA_l [900004] (.inl ⟨rfl,rfl⟩) (by simp [go_sem]) ?_; intro args ha; simp [go_sem] at ha; subst ha; refine ⟨_, _, hN, (by simp [go_sem]), ?_⟩; rintro ps r hps ⟨rfl, rfl⟩; simp [go_sem]; ((repeat' (first|(refine ag_x ?_;simp [go_sem])|intro _|apply And.intro|(apply Yh;clear Yh Y)));all_goals first|apply Hold.mk|omega|with_reducible assumption|skip))
    refine awp_seq_k fun K7 hK7 => ?_
    refine awp_block ?_
    (refine awp_sr fun Y Yh => ?_; simp [go_sem]; ((repeat' (first|(refine ag_x ?_;simp [go_sem])|intro _|apply And.intro|(apply Yh;clear Yh Y)));all_goals first|apply Hold.mk|omega|with_reducible assumption|skip))
    (refine awp_if fun T F hT hF => ?_; simp [go_sem]; refine hT ?_; clear hT hF T F)
    (refine awp_sr fun Y Yh => ?_; simp [go_sem]; ((repeat' (first|(refine ag_x ?_;simp [go_sem])|intro _|apply And.intro|(apply Yh;clear Yh Y)));all_goals first|apply Hold.mk|omega|with_reducible assumption|skip))
    (refine awp_ret ?_; simp [go_sem, hV2])
   ·rw [hq] at hN hst
    simp only [ne_eq, not_true_eq_false, if_false] at hst
    (refine awp_sr fun Y Yh => ?_; simp [go_sem]; ((repeat' (first|(refine ag_x ?_;simp [go_sem])|intro _|apply And.intro|(apply Yh;clear Yh Y)));all_goals first|apply Hold.mk|omega|with_reducible assumption|skip))
    (refine callA_l [900004] (.inl ⟨rfl,rfl⟩) (by simp [go_sem]) ?_; intro args ha; simp [go_sem] at ha; subst ha; refine ⟨_, _, hN, (by simp [go_sem]), ?_⟩; rintro ps r hps ⟨rfl, rfl⟩; simp [go_sem]; ((repeat' (first|(refine ag_x ?_;simp [go_sem])|intro _|apply And.intro|(apply Yh;clear Yh Y)));all_goals first|apply Hold.mk|omega|with_reducible assumption|skip))
    refine awp_seq_k fun K7 hK7 => ?_
    refine awp_block ?_
    (refine awp_sr fun Y Yh => ?_; simp [go_sem]; ((repeat' (first|(refine ag_x ?_;simp [go_sem])|intro _|apply And.intro|(apply Yh;clear Yh Y)));all_goals first|apply Hold.mk|omega|with_reducible assumption|skip))
    (refine awp_if fun T F hT hF => ?_; simp [go_sem]; refine hF ?_; clear hT hF T F)
    (refine awp_sr fun Y Yh => ?_; simp [go_sem]; ((repeat' (first|(refine ag_x ?_;simp [go_sem])|intro _|apply And.intro|(apply Yh;clear Yh Y)));all_goals first|apply Hold.mk|omega|with_reducible assumption|skip))
    have hu1 := (List.getElem?_eq_some_iff.1 (nxt_some hq)).1
    by_cases hb : a.is = true ∨ 1000 < a.int
    ·rw [if_pos hb] at hst
     have hV2 : V = (1, u' + 1, f') := by rw [hV, hW]; simpa using hst
     have hb2 : (a.is || decide (1000 < a.int)) = true := by simpa using hb
     (refine awp_if fun T F hT hF => ?_; simp [go_sem, hb2]; refine hT ?_; clear hT hF T F)
     (refine awp_sr fun Y Yh => ?_; simp [go_sem]; ((repeat' (first|(refine ag_x ?_;simp [go_sem])|intro _|apply And.intro|(apply Yh;clear Yh Y)));all_goals first|apply Hold.mk|omega|with_reducible assumption|skip))
     (refine awp_ret ?_; simp [go_sem, hV2])
    ·rw [if_neg hb] at hst
     have hb2 : (a.is || decide (1000 < a.int)) = false := by
      rw [Bool.eq_false_iff]; intro q; exact hb (by simpa using q)
     (refine awp_if fun T F hT hF => ?_; simp [go_sem, hb2]; refine hF ?_; clear hT hF T F)
     refine awp_skip ?_
     refine hK7 _ ?_; clear hK7
     (refine awp_sr fun Y Yh => ?_; simp [go_sem]; ((repeat' (first|(refine ag_x ?_;simp [go_sem])|intro _|apply And.intro|(apply Yh;clear Yh Y)));all_goals first|apply Hold.mk|omega|with_reducible assumption|skip))
     (refine awp_sr fun Y Yh => ?_; simp [go_sem]; ((repeat' (first|(refine ag_x ?_;simp [go_sem])|intro _|apply And.intro|(apply Yh;clear Yh Y)));all_goals first|apply Hold.mk|omega|with_reducible assumption|skip))
     by_cases hneg : a.int < 0
     ·rw [if_pos hneg] at hst
      (refine awp_if fun T F hT hF => ?_; simp [go_sem, hneg]; refine hT ?_; clear hT hF T F)
      (refine awp_sr fun Y Yh => ?_; simp [go_sem]; ((repeat' (first|(refine ag_x ?_;simp [go_sem])|intro _|apply And.intro|(apply Yh;clear Yh Y)));all_goals first|apply Hold.mk|omega|with_reducible assumption|skip))
      (refine awp_sr fun Y Yh => ?_; simp [go_sem]; ((repeat' (first|(refine ag_x ?_;simp [go_sem])|intro _|apply And.intro|(apply Yh;clear Yh Y)));all_goals first|apply Hold.mk|omega|with_reducible assumption|skip))
      (refine awp_if fun T F hT hF => ?_; simp [go_sem]; refine hF ?_; clear hT hF T F)
      refine awp_skip ?_
      refine tl4 _ _ _ hst (by omega) ?_
      (refine cov_of ?_ ?_ <;> simp [go_sem])
     ·rw [if_neg hneg] at hst
      (refine awp_if fun T F hT hF => ?_; simp [go_sem, hneg]; refine hF ?_; clear hT hF T F)
      refine awp_skip ?_
      refine tl4 _ _ _ hst (by omega) ?_
      (refine cov_of ?_ ?_ <;> simp [go_sem])
  ·have hst : starP args u' f' = (0, u', f') := by unfold starP; rw [if_pos hwd]
   (refine awp_if fun T F hT hF => ?_; simp [go_sem, hwd]; refine hT ?_; clear hT hF T F)
   refine awp_exit ?_
   simp only [go_sem]
   refine tl4 _ f' u' hst hu' ?_
   (refine cov_of ?_ ?_ <;> simp [go_sem])
 ·(refine awp_sr fun Y Yh => ?_; simp [go_sem]; ((repeat' (first|(refine ag_x ?_;simp [go_sem])|intro _|apply And.intro|(apply Yh;clear Yh Y)));all_goals first|apply Hold.mk|omega|with_reducible assumption|skip))
  refine awp_seq_k fun K2 hK2 => ?_
  (refine awp_if fun T F hT hF => ?_; simp [go_sem]; refine hF ?_; clear hT hF T F)
  refine awp_exit ?_
  simp only [go_sem]
  refine hK1 _ ?_; clear hK1
  (refine awp_sr fun Y Yh => ?_; simp [go_sem]; ((repeat' (first|(refine ag_x ?_;simp [go_sem])|intro _|apply And.intro|(apply Yh;clear Yh Y)));all_goals first|apply Hold.mk|omega|with_reducible assumption|skip))
  (refine awp_ret ?_; simp [go_sem, hE])
theorem ba_app (a b : Bs) : ({ data := a.toArray } : ByteArray) ++ { data := b.toArray } = { data := (a ++ b).toArray } := by
 apply ByteArray.ext
 simp
theorem text_spec (a : Ag) (h : InR a.int) : PCall Tryz.prog 75 [dA a] fun r => r = dS (textV a) := by 
 refine pcall_of Tryz.func75 rfl rfl Tryz.ntmps75 (rs := [.tmp 2]) (tys := [9]) rfl rfl (by simp) ?_
 unfold textV
 cases hi : a.is with
 | true =>
  (refine awp_sr fun Y Yh => ?_; simp [go_sem, hi]; ((repeat' (first|(refine ag_x ?_;simp [go_sem, hi])|intro _|apply And.intro|(apply Yh;clear Yh Y)));all_goals first|apply Hold.mk|omega|with_reducible assumption|skip))
  refine awp_seq_k fun K1 hK1 => ?_
  (refine awp_sr fun Y Yh => ?_; simp [go_sem]; ((repeat' (first|(refine ag_x ?_;simp [go_sem])|intro _|apply And.intro|(apply Yh;clear Yh Y)));all_goals first|apply Hold.mk|omega|with_reducible assumption|skip))
  (refine awp_if fun T F hT hF => ?_; simp [go_sem]; refine hT ?_; clear hT hF T F)
  (refine awp_sr fun Y Yh => ?_; simp [go_sem]; ((repeat' (first|(refine ag_x ?_;simp [go_sem])|intro _|apply And.intro|(apply Yh;clear Yh Y)));all_goals first|apply Hold.mk|omega|with_reducible assumption|skip))
  (refine awp_ret ?_; simp [go_sem])
 | false =>
  (refine awp_sr fun Y Yh => ?_; simp [go_sem, hi]; ((repeat' (first|(refine ag_x ?_;simp [go_sem, hi])|intro _|apply And.intro|(apply Yh;clear Yh Y)));all_goals first|apply Hold.mk|omega|with_reducible assumption|skip))
  refine awp_seq_k fun K1 hK1 => ?_
  (refine awp_sr fun Y Yh => ?_; simp [go_sem]; ((repeat' (first|(refine ag_x ?_;simp [go_sem])|intro _|apply And.intro|(apply Yh;clear Yh Y)));all_goals first|apply Hold.mk|omega|with_reducible assumption|skip))
  (refine awp_if fun T F hT hF => ?_; simp [go_sem]; refine hF ?_; clear hT hF T F)
  refine awp_skip ?_
  refine hK1 _ ?_; clear hK1
  (refine awp_sr fun Y Yh => ?_; simp [go_sem]; ((repeat' (first|(refine ag_x ?_;simp [go_sem])|intro _|apply And.intro|(apply Yh;clear Yh Y)));all_goals first|apply Hold.mk|omega|with_reducible assumption|skip))
  ((try refine CallT.toA ?_); refine callT_m (.inl ⟨rfl,rfl⟩) (by simp [go_sem]) ?_; intro args ha; simp [go_sem] at ha; subst ha; refine ⟨_, (itoa_spec a.int h), ?_⟩; rintro _ rfl; simp [go_sem]; ((repeat' (first|(refine ag_x ?_;simp [go_sem])|intro _|apply And.intro|(apply Yh;clear Yh Y)));all_goals first|apply Hold.mk|omega|with_reducible assumption|skip))
  (refine awp_ret ?_; simp [go_sem])
theorem short_spec (f : Fld) (s : Bs) : PCall Tryz.prog 74 [dF f, dS s] fun r => r = dS (shortV f s) := by 
 refine pcall_of Tryz.func74 rfl rfl Tryz.ntmps74 (rs := [.tmp 4]) (tys := [9]) rfl rfl (by simp) ?_
 by_cases h : 0 ≤ f.pr ∧ f.pr < s.length
 ·have e : shortV f s = s.take f.pr.toNat := by unfold shortV; rw [if_pos h]
  have hb : (decide (0 ≤ f.pr) && decide (f.pr < s.length)) = true := by simpa using h
  have hcut : ({ data := s.toArray } : ByteArray).extract 0 f.pr.toNat = { data := (s.take f.pr.toNat).toArray } := by rw [ba_cut, List.drop_zero]
  (refine awp_sr fun Y Yh => ?_; simp [go_sem]; ((repeat' (first|(refine ag_x ?_;simp [go_sem])|intro _|apply And.intro|(apply Yh;clear Yh Y)));all_goals first|apply Hold.mk|omega|with_reducible assumption|skip))
  refine awp_seq_k fun K1 hK1 => ?_
  (refine awp_sr fun Y Yh => ?_; simp [go_sem, ba_size]; ((repeat' (first|(refine ag_x ?_;simp [go_sem, ba_size])|intro _|apply And.intro|(apply Yh;clear Yh Y)));all_goals first|apply Hold.mk|omega|with_reducible assumption|skip))
  (refine awp_if fun T F hT hF => ?_; simp [go_sem, hb]; refine hT ?_; clear hT hF T F)
  (refine awp_sr fun Y Yh => ?_; simp [go_sem, ba_size, hcut]; ((repeat' (first|(refine ag_x ?_;simp [go_sem, ba_size, hcut])|intro _|apply And.intro|(apply Yh;clear Yh Y)));all_goals first|apply Hold.mk|omega|with_reducible assumption|skip))
  (refine awp_ret ?_; simp [go_sem, e])
 ·have e : shortV f s = s := by unfold shortV; rw [if_neg h]
  have hb : (decide (0 ≤ f.pr) && decide (f.pr < s.length)) = false := by rw [Bool.eq_false_iff]; intro q; exact h (by simpa using q)
  (refine awp_sr fun Y Yh => ?_; simp [go_sem]; ((repeat' (first|(refine ag_x ?_;simp [go_sem])|intro _|apply And.intro|(apply Yh;clear Yh Y)));all_goals first|apply Hold.mk|omega|with_reducible assumption|skip))
  refine awp_seq_k fun K1 hK1 => ?_
  (refine awp_sr fun Y Yh => ?_; simp [go_sem, ba_size]; ((repeat' (first|(refine ag_x ?_;simp [go_sem, ba_size])|intro _|apply And.intro|(apply Yh;clear Yh Y)));all_goals first|apply Hold.mk|omega|with_reducible assumption|skip))
  (refine awp_if fun T F hT hF => ?_; simp [go_sem, hb]; refine hF ?_; clear hT hF T F)
  refine awp_skip ?_
  refine hK1 _ ?_; clear hK1
  (refine awp_sr fun Y Yh => ?_; simp [go_sem]; ((repeat' (first|(refine ag_x ?_;simp [go_sem])|intro _|apply And.intro|(apply Yh;clear Yh Y)));all_goals first|apply Hold.mk|omega|with_reducible assumption|skip))
  (refine awp_ret ?_; simp [go_sem, e])
theorem padded_spec (f : Fld) (s : Bs) (hw : -2 ≤ f.wd ∧ f.wd ≤ 100000) (hl : s.length ≤ 4611686018427387904) : PCall Tryz.prog 73 [dF f, dS s] fun r => r = dS (paddedV f s) := by 
 refine pcall_of Tryz.func73 rfl rfl Tryz.ntmps73 (rs := [.tmp 4]) (tys := [9]) rfl rfl (by simp) ?_
 by_cases h : f.wd - s.length ≤ 0
 ·have e : paddedV f s = s := by unfold paddedV; rw [if_pos h]
  (refine awp_sr fun Y Yh => ?_; simp [go_sem]; ((repeat' (first|(refine ag_x ?_;simp [go_sem])|intro _|apply And.intro|(apply Yh;clear Yh Y)));all_goals first|apply Hold.mk|omega|with_reducible assumption|skip))
  (refine awp_sr fun Y Yh => ?_; simp [go_sem, ba_size]; ((repeat' (first|(refine ag_x ?_;simp [go_sem, ba_size])|intro _|apply And.intro|(apply Yh;clear Yh Y)));all_goals first|apply Hold.mk|omega|with_reducible assumption|skip))
  refine awp_seq_k fun K1 hK1 => ?_
  refine awp_block ?_
  (refine awp_sr fun Y Yh => ?_; simp [go_sem]; ((repeat' (first|(refine ag_x ?_;simp [go_sem])|intro _|apply And.intro|(apply Yh;clear Yh Y)));all_goals first|apply Hold.mk|omega|with_reducible assumption|skip))
  (refine awp_if fun T F hT hF => ?_; simp [go_sem, h]; refine hT ?_; clear hT hF T F)
  (refine awp_sr fun Y Yh => ?_; simp [go_sem]; ((repeat' (first|(refine ag_x ?_;simp [go_sem])|intro _|apply And.intro|(apply Yh;clear Yh Y)));all_goals first|apply Hold.mk|omega|with_reducible assumption|skip))
  (refine awp_ret ?_; simp [go_sem, e])
 ·have e : paddedV f s = if f.lf then s ++ rep 32 (f.wd - s.length) else rep 32 (f.wd - s.length) ++ s := by unfold paddedV; rw [if_neg h]
  have hR := rep_spec 32 (f.wd - s.length) (by omega) (by omega)
  have hrl : (rep 32 (f.wd - s.length)).length ≤ 100000 := by unfold rep; simp; omega
  rw [e]
  generalize rep 32 (f.wd - s.length) = R at *
  (refine awp_sr fun Y Yh => ?_; simp [go_sem]; ((repeat' (first|(refine ag_x ?_;simp [go_sem])|intro _|apply And.intro|(apply Yh;clear Yh Y)));all_goals first|apply Hold.mk|omega|with_reducible assumption|skip))
  (refine awp_sr fun Y Yh => ?_; simp [go_sem, ba_size]; ((repeat' (first|(refine ag_x ?_;simp [go_sem, ba_size])|intro _|apply And.intro|(apply Yh;clear Yh Y)));all_goals first|apply Hold.mk|omega|with_reducible assumption|skip))
  refine awp_seq_k fun K1 hK1 => ?_
  refine awp_block ?_
  (refine awp_sr fun Y Yh => ?_; simp [go_sem]; ((repeat' (first|(refine ag_x ?_;simp [go_sem])|intro _|apply And.intro|(apply Yh;clear Yh Y)));all_goals first|apply Hold.mk|omega|with_reducible assumption|skip))
  (refine awp_if fun T F hT hF => ?_; simp [go_sem, h]; refine hF ?_; clear hT hF T F)
  (refine awp_sr fun Y Yh => ?_; simp [go_sem]; ((repeat' (first|(refine ag_x ?_;simp [go_sem])|intro _|apply And.intro|(apply Yh;clear Yh Y)));all_goals first|apply Hold.mk|omega|with_reducible assumption|skip))
  cases hlf : f.lf with
  | true =>
   (refine awp_if fun T F hT hF => ?_; simp [go_sem]; refine hT ?_; clear hT hF T F)
   (refine awp_sr fun Y Yh => ?_; simp [go_sem]; ((repeat' (first|(refine ag_x ?_;simp [go_sem])|intro _|apply And.intro|(apply Yh;clear Yh Y)));all_goals first|apply Hold.mk|omega|with_reducible assumption|skip))
   ((try refine CallT.toA ?_); refine callT_m (.inl ⟨rfl,rfl⟩) (by simp [go_sem]) ?_; intro args ha; simp [go_sem] at ha; subst ha; refine ⟨_, hR, ?_⟩; rintro _ rfl; simp [go_sem, ba_size]; ((repeat' (first|(refine ag_x ?_;simp [go_sem, ba_size])|intro _|apply And.intro|(apply Yh;clear Yh Y)));all_goals first|apply Hold.mk|omega|with_reducible assumption|skip))
   (refine awp_ret ?_; simp [go_sem, ba_app, hlf])
  | false =>
   (refine awp_if fun T F hT hF => ?_; simp [go_sem]; refine hF ?_; clear hT hF T F)
   refine awp_skip ?_
   refine hK1 _ ?_; clear hK1
   (refine awp_sr fun Y Yh => ?_; simp [go_sem]; ((repeat' (first|(refine ag_x ?_;simp [go_sem])|intro _|apply And.intro|(apply Yh;clear Yh Y)));all_goals first|apply Hold.mk|omega|with_reducible assumption|skip))
   ((try refine CallT.toA ?_); refine callT_m (.inl ⟨rfl,rfl⟩) (by simp [go_sem]) ?_; intro args ha; simp [go_sem] at ha; subst ha; refine ⟨_, hR, ?_⟩; rintro _ rfl; simp [go_sem, ba_size]; ((repeat' (first|(refine ag_x ?_;simp [go_sem, ba_size])|intro _|apply And.intro|(apply Yh;clear Yh Y)));all_goals first|apply Hold.mk|omega|with_reducible assumption|skip))
   (refine awp_ret ?_; simp [go_sem, ba_app, hlf])
end Go.Proofs.YtelhdhofnohkcaaGreatDoor
namespace Go.Proofs.YtelhdhofnohkcaaGreatDoor
open Go.Eng Go.Fm Go.RowKit
set_option maxRecDepth 20000
set_option maxHeartbeats 1000000 in
theorem tz_core (x k idx : Nat) (w : World) (hx0 : ((x : Int) == 0) = false)
  (key : IntKind.u64.wrap (bits BinOp.and IntKind.u64 (x : Int) (IntKind.u64.wrap (-(x : Int))) * 285870213051353865) / 288230376151711744 = (idx : Int))
  (hi : idx < 64) (hk : k < 64) (hcell : w.cell? ⟨7, idx, none⟩ = some (.int .u8 k)) :
  Calls Tryz.prog 165 #[.int .u64 x] w fun e w' => e = .returned (.int .i64 k) ∧ w' = w := by
 go_enter Tryz.func165, Tryz.ntmps165
 go_wp2_with (simp only [key])
 go_ret
 exact ⟨rfl, rfl⟩
theorem tz_spec (x k idx : Nat) (h : (x, k, idx) ∈ [(2, 1, 1), (8, 3, 7), (16, 4, 15)]) : PCall Tryz.prog 165 [.v (.int .u64 x)] fun r => r = dI k := by
 refine pcall_below ⟨_, Tryz.func165, rfl, rfl⟩ fun C w us hc hg hr => ?_
 have hg : glOk w := hg
 obtain rfl := repL_v (us := [.int .u64 x]) hr
 have hx : x ≠ 0 ∧ idx < 64 ∧ k < 64 ∧ IntKind.u64.wrap (bits BinOp.and IntKind.u64 (x : Int) (IntKind.u64.wrap (-(x : Int))) * 285870213051353865) / 288230376151711744 = (idx : Int) ∧ Lib.deBruijn64tab[idx]? = some k := by
  simp only [List.mem_cons, Prod.mk.injEq, List.not_mem_nil, or_false] at h
  rcases h with ⟨rfl, rfl, rfl⟩ | ⟨rfl, rfl, rfl⟩ | ⟨rfl, rfl, rfl⟩ <;> decide
 have hcell := hg.2.2.cell gn_dbj idx (by simp [Lib.deBruijn64tab]; exact hx.2.1)
 have hk : (Lib.deBruijn64tab.map Int.ofNat)[idx]? = some (k : Int) := by rw [List.getElem?_map, hx.2.2.2.2]; rfl
 refine (tz_core x k idx w (by simp; exact hx.1) hx.2.2.2.1 hx.2.1 hx.2.2.1 ?_).mono ?_
 ·rw [hcell, List.getD_eq_getElem?_getD, hk]; rfl
 ·rintro e w' ⟨rfl, rfl⟩
  exact ⟨_, _, rfl, rfl, .v _, Below.refl _ _⟩
end Go.Proofs.YtelhdhofnohkcaaGreatDoor
namespace Go.Proofs.YtelhdhofnohkcaaGreatDoor
open Go.Eng Go.Fm
set_option maxRecDepth 20000
attribute [local irreducible] AG CallA CallT AWp PCall ACall AgC
def Bas (b s k : Nat) : Prop := (b, s, k) ∈ [(2, 1, 1), (8, 3, 7), (16, 4, 15)]
theorem Bas.cases {b s k : Nat} (h : Bas b s k) : (b = 2 ∧ s = 1 ∧ k = 1) ∨ (b = 8 ∧ s = 3 ∧ k = 7) ∨ (b = 16 ∧ s = 4 ∧ k = 15) := by
 simpa [Bas] using h
theorem tzr_spec {b s k : Nat} (h : Bas b s k) : PCall Tryz.prog 129 [.v (.int .u64 b)] fun r => r = dI s := by
 refine pcall_of Tryz.func129 rfl rfl Tryz.ntmps129 (rs := [.tmp 2]) (tys := [3]) rfl rfl (by simp) ?_
 (refine awp_sr fun Y Yh => ?_; simp [go_sem]; ((repeat' (first|(refine ag_x ?_;simp [go_sem])|intro _|apply And.intro|(apply Yh;clear Yh Y)));all_goals first|apply Hold.mk|omega|with_reducible assumption|skip))
 refine awp_seq_k fun K1 hK1 => ?_
 (refine awp_if fun T F hT hF => ?_; simp [go_sem]; refine hF ?_; clear hT hF T F)
 refine awp_skip ?_
 refine hK1 _ ?_; clear hK1
 (refine awp_sr fun Y Yh => ?_; simp [go_sem]; ((repeat' (first|(refine ag_x ?_;simp [go_sem])|intro _|apply And.intro|(apply Yh;clear Yh Y)));all_goals first|apply Hold.mk|omega|with_reducible assumption|skip))
 ((try refine CallT.toA ?_); refine callT_m (.inl ⟨rfl,rfl⟩) (by simp [go_sem]) ?_; intro args ha; simp [go_sem] at ha; subst ha; refine ⟨_, (tz_spec b s k h), ?_⟩; rintro _ rfl; simp [go_sem]; ((repeat' (first|(refine ag_x ?_;simp [go_sem])|intro _|apply And.intro|(apply Yh;clear Yh Y)));all_goals first|apply Hold.mk|omega|with_reducible assumption|skip))
 (refine awp_ret ?_; simp [go_sem])
theorem pow2_spec {b s k : Nat} (h : Bas b s k) : PCall Tryz.prog 128 [dI b] fun r => r = dB true := by
 refine pcall_of Tryz.func128 rfl rfl Tryz.ntmps128 (rs := [.tmp 2]) (tys := [4]) rfl rfl (by simp) ?_
 have e : andI .i64 (b : Int) ((b : Int) - 1) = 0 := by
  rcases h.cases with ⟨rfl, _, _⟩ | ⟨rfl, _, _⟩ | ⟨rfl, _, _⟩ <;> decide
 have hb : b ≤ 16 := by rcases h.cases with ⟨rfl, _, _⟩ | ⟨rfl, _, _⟩ | ⟨rfl, _, _⟩ <;> decide
 (refine awp_sr fun Y Yh => ?_; simp [go_sem]; ((repeat' (first|(refine ag_x ?_;simp [go_sem])|intro _|apply And.intro|(apply Yh;clear Yh Y)));all_goals first|apply Hold.mk|omega|with_reducible assumption|skip))
 (refine awp_sr fun Y Yh => ?_; simp [go_sem, e]; ((repeat' (first|(refine ag_x ?_;simp [go_sem, e])|intro _|apply And.intro|(apply Yh;clear Yh Y)));all_goals first|apply Hold.mk|omega|with_reducible assumption|skip))
 (refine awp_ret ?_; simp [go_sem])
theorem and_mod {b s k u : Nat} (h : Bas b s k) (hu : u < 2 ^ 64) : andI .u64 (u : Int) ((b : Int) - 1) = ((u % b : Nat) : Int) := by
 have key : ∀ s : Nat, s < 64 → andI .u64 (u : Int) (((2 ^ s - 1 : Nat) : Nat) : Int) = ((u % 2 ^ s : Nat) : Int) := fun s hs => by
  unfold andI
  have h2 : 2 ^ s - 1 < 2 ^ 64 := by
   have := Nat.pow_lt_pow_right (show 1 < 2 by decide) hs
   omega
  have e1 : (BitVec.ofInt 64 (u : Int)).toNat = u := by rw [BitVec.ofInt_natCast, BitVec.toNat_ofNat]; exact Nat.mod_eq_of_lt hu
  have e2 : (BitVec.ofInt 64 ((2 ^ s - 1 : Nat) : Int)).toNat = 2 ^ s - 1 := by rw [BitVec.ofInt_natCast, BitVec.toNat_ofNat]; exact Nat.mod_eq_of_lt h2
  show IntKind.u64.wrap ((BitVec.ofInt 64 (u : Int) &&& BitVec.ofInt 64 ((2 ^ s - 1 : Nat) : Int)).toNat : Int) = _
  rw [BitVec.toNat_and, e1, e2, Nat.and_two_pow_sub_one_eq_mod, IntKind.wrap_u64]
  have : u % 2 ^ s ≤ u := Nat.mod_le _ _
  omega
 rcases h.cases with ⟨rfl, _, _⟩ | ⟨rfl, _, _⟩ | ⟨rfl, _, _⟩
 ·exact key 1 (by decide)
 ·exact key 3 (by decide)
 ·exact key 4 (by decide)
theorem shr_div {b s k u : Nat} (h : Bas b s k) : shrI .u64 (u : Int) (s : Int) = ((u / b : Nat) : Int) := by
 unfold shrI
 rcases h.cases with ⟨rfl, rfl, _⟩ | ⟨rfl, rfl, _⟩ | ⟨rfl, rfl, _⟩
 all_goals
  simp only [IntKind.bits]
  show Int.fdiv (u : Int) _ = _
  rw [Int.fdiv_eq_ediv_of_nonneg _ (by decide)]
  rfl
def dgL : Bs := [48, 49, 50, 51, 52, 53, 54, 55, 56, 57, 97, 98, 99, 100, 101, 102, 103, 104, 105, 106, 107, 108, 109, 110, 111, 112, 113, 114, 115, 116, 117, 118, 119, 120, 121, 122]
theorem dgL_at : ∀ n, n < 16 → dgL[n]? = some (chB n) := by decide
def cellsB (i : Nat) (ds : Bs) : List D := List.replicate i (.v (.int .u8 0)) ++ ds.map fun c => .v (.int .u8 c.toNat)
theorem cellsB_len (i : Nat) (ds : Bs) : (cellsB i ds).length = i + ds.length := by simp [cellsB]
theorem cellsB_put (i : Nat) (c : UInt8) (ds : Bs) : (cellsB (i + 1) ds).take i ++ (D.v (.int .u8 c.toNat) :: (cellsB (i + 1) ds).drop (i + 1)) = cellsB i (c :: ds) := by
 unfold cellsB
 rw [List.take_append_of_le_length (by simp), List.drop_append]
 simp [List.take_replicate]
theorem cellsB_cut (i : Nat) (ds : Bs) : ((cellsB i ds).map fun d => [d]).drop i = ds.map fun c => [D.v (.int .u8 c.toNat)] := by
 unfold cellsB
 rw [List.map_append, List.drop_append]
 simp
@[go_sem] theorem so68 : strOf Tryz.prog 68 9 = true := by kernel_rfl
def zB : List Value := List.replicate 65 (.int .u8 0)
@[go_sem] theorem zr201 : zeroOf Tryz.prog 201 = some zB := by kernel_rfl
@[go_sem] theorem zB_one : zB.all Value.oneCell' = true := by decide
@[go_sem] theorem zB_map : zB.map D.v = cellsB 65 [] := rfl
@[go_sem] theorem zB_mem : ∀ v ∈ zB, Value.oneCell' v = true := fun v h => by rw [List.eq_of_mem_replicate h]; rfl
end Go.Proofs.YtelhdhofnohkcaaGreatDoor
