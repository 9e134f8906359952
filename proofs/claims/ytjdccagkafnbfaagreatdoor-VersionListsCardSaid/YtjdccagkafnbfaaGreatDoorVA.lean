/- Part of a proof: see the last text. -/
import Derived.Test.YtjdccagkafnbfaaGreatDoorSA
import Derived.Test.YtjdccagkafnbfaaGreatDoorMB
import Derived.Test.YtjdccagkafnbfaaGreatDoorED
import Derived.Lib.LaidTab
import Derived.Lib.ItoaNum
import Derived.Sort.Grow
import Derived.Lib.ConvBytes
import Derived.Shelf.Strings.SlTrimAscii
set_option linter.unusedVariables false
set_option linter.unusedSimpArgs false
namespace Go.Proofs.YtjdccagkafnbfaaGreatDoor
open Go.Eng Go.Wh Go.Ver
set_option maxRecDepth 20000
set_option linter.unusedSimpArgs false
set_option linter.unusedVariables false
theorem gn_pow : Tryz.prog.globalNamed "internal/strconv.uint64pow10" = some 1 := by kernel_rfl
/-- the package-level variables that the library's functions read: the powers of ten 1, MaxLen 0 -/
def glOk (w : World) : Prop := Lib.TabIs Tryz.prog w "internal/strconv.uint64pow10" .u64 Lib.pow10Tab ∧ ∃ m, w.cell? ⟨0, 0, none⟩ = some (.int .i64 m)
theorem glOk_stab (w w' : World) (h : ∀ b ∈ [0, 1], w'.heap[b]? = w.heap[b]?) (hk : glOk w) : glOk w' := by
  refine ⟨?_, ?_⟩
  · have hk1 := hk.1
    unfold Lib.TabIs World.var? at hk1 ⊢
    rw [gn_pow] at hk1 ⊢
    simp only [Option.bind_some] at hk1 ⊢
    rw [h 1 (by simp)]
    exact hk1
  · have e : w'.cell? ⟨0, 0, none⟩ = w.cell? ⟨0, 0, none⟩ := by unfold World.cell?; rw [h 0 (by simp)]
    rw [e]; exact hk.2
instance trydGlob : HasGlob Tryz.prog := ⟨[0, 1], glOk, glOk_stab⟩
@[go_sem] abbrev cI (n : Int) : List D := [.v (.int .i64 n)]
@[go_sem] abbrev dI (n : Int) : D := .v (.int .i64 n)
@[go_sem] abbrev dB (n : Bool) : D := .v (.bool n)
@[go_sem] abbrev dIs (l : List Int) : D := .sl 1 (l.map cI)
@[go_sem] abbrev dS (l : List UInt8) : D := .v (.string ⟨l.toArray⟩)
@[go_sem] abbrev cS (s : List UInt8) : List D := [.v (.string ⟨s.toArray⟩)]
@[go_sem] abbrev dSs (l : List (List UInt8)) : D := .sl 1 (l.map cS)
/-- segments -/
@[go_sem] abbrev cG (x : Seg) : List D := [dS x.1, dI x.2]
@[go_sem] abbrev dG (x : Seg) : D := .agg [dS x.1, dI x.2]
@[go_sem] abbrev dGs (l : List Seg) : D := .sl 2 (l.map cG)
end Go.Proofs.YtjdccagkafnbfaaGreatDoor

set_option linter.unusedVariables false
namespace Go.Proofs.YtjdccagkafnbfaaGreatDoor
open Go.Eng Go.RowKit Go.Sort Go.Wh Go.Ver
set_option maxRecDepth 20000
attribute [local irreducible] AG CallA CallT AWp PCall ACall AgC
theorem below_gd (w : World) (k : Nat) (os : Array Obj) : Below w.heap.size w (grow (w.drewN k) os) := by
  have e : (w.drewN k).heap = w.heap := rfl
  refine ⟨rfl, rfl, rfl, by simp [grow, e], fun j hj => ?_⟩
  simp only [grow, e]
  rw [Array.getElem?_append_left hj]
theorem itoa_spec (n : Int) (h0 : -9223372036854775808 ≤ n) (h1 : n ≤ 9223372036854775807) : PCall Tryz.prog 24 [dI n] fun r => r = dS (Lib.itoa n) := by
  refine pcall_below ⟨_, Tryz.func24, rfl, rfl⟩ fun C w us hc hg hr => ?_
  have hg : glOk w := hg
  obtain rfl := repL_v (us := [.int .i64 n]) hr
  refine (Tryz.strconv_Itoa n h0 h1 w hg.1).mono ?_
  rintro e w' ⟨rfl, k, os, rfl⟩
  exact ⟨_, _, rfl, rfl, .v _, below_gd w k os⟩
theorem rep_tup3 {C : Ctx} {w : World} {a b c : D} {x y z : Value} (h1 : Rep C w a x) (h2 : Rep C w b y) (h3 : Rep C w c z) : Rep C w (.tup [a, b, c]) (.tuple #[x, y, z]) := by
  refine .tup _ _ rfl fun j c u hc hu => ?_
  match j, hc, hu with
  | 0, hc, hu => simp at hc hu; subst hc hu; exact h1
  | 1, hc, hu => simp at hc hu; subst hc hu; exact h2
  | 2, hc, hu => simp at hc hu; subst hc hu; exact h3
  | j + 3, hc, hu => simp at hc
theorem cut_spec (s p : List UInt8) (hl : s.length < 4294967281) : PCall Tryz.prog 68 [dS s, dS p] fun r => r = .tup [dS (Lib.cut s p).1, dS (Lib.cut s p).2.1, dB (Lib.cut s p).2.2] := by
  refine pcall_below ⟨_, Tryz.func68, rfl, rfl⟩ fun C w us hc hg hr => ?_
  have hg : glOk w := hg
  obtain rfl := repL_v (us := [.string ⟨s.toArray⟩, .string ⟨p.toArray⟩]) hr
  obtain ⟨m, hm⟩ := hg.2
  refine (Tryz.strings_Cut ⟨s.toArray⟩ ⟨p.toArray⟩ m w (by simpa [ByteArray.size] using hl) hm).mono ?_
  rintro e w' ⟨rfl, n, rfl⟩
  exact ⟨_, _, rfl, rfl, rep_tup3 (.v _) (.v _) (.v _), ⟨rfl, rfl, rfl, Nat.le_refl _, fun _ _ => rfl⟩⟩
theorem scmp_spec (a b : List UInt8) : PCall Tryz.prog 66 [dS a, dS b] fun r => r = dI (Lib.compareBytes a b) := by
  refine pcall_below ⟨_, Tryz.func66, rfl, rfl⟩ fun C w us hc hg hr => ?_
  obtain rfl := repL_v (us := [.string ⟨a.toArray⟩, .string ⟨b.toArray⟩]) hr
  refine (Tryz.strings_Compare ⟨a.toArray⟩ ⟨b.toArray⟩ w).mono ?_
  rintro e w' ⟨rfl, rfl⟩
  exact ⟨_, _, rfl, by simp, .v _, Below.refl _ _⟩
theorem icmp_spec (x y : Int) : PCall Tryz.prog 67 [dI x, dI y] fun r => r = dI (Lib.compareInt x y) := by
  refine pcall_below ⟨_, Tryz.func67, rfl, rfl⟩ fun C w us hc hg hr => ?_
  obtain rfl := repL_v (us := [.int .i64 x, .int .i64 y]) hr
  refine (Tryz.cmp_Compare_int x y w).mono ?_
  rintro e w' ⟨rfl, rfl⟩
  exact ⟨_, _, rfl, rfl, .v _, Below.refl _ _⟩
theorem trimS_spec (s p : List UInt8) (hs : s.length ≤ 9223372036854775807) (hpl : p.length < 4294967281) (hp : p.all (fun b => decide (b.toNat < 128)) = true) : PCall Tryz.prog 84 [dS s, dS p] fun r => r = dS (Lib.trimS s p) := by
  refine pcall_below ⟨_, Tryz.func84, rfl, rfl⟩ fun C w us hc' hg hr => ?_
  obtain rfl := repL_v (us := [.string ⟨s.toArray⟩, .string ⟨p.toArray⟩]) hr
  refine (Any.strings_Trim_laid Tryz.lays160 (by kernel_rfl) ⟨s.toArray⟩ ⟨p.toArray⟩ w (by simpa [ByteArray.size] using hs) (by simpa [ByteArray.size] using hpl) (ascii_of_all (by simpa using hp))).mono ?_
  rintro e w' ⟨rfl, hb⟩
  exact ⟨_, _, rfl, rfl, .v _, hb⟩
theorem splitB_eq (s p : List UInt8) : (Lib.splitB ⟨p.toArray⟩ 0 (Lib.countB ⟨s.toArray⟩ ⟨p.toArray⟩) ⟨s.toArray⟩).map (·.data.toList) = Lib.split s p := by
  rw [Lib.splitB_data]; rfl
theorem split_spec (s p : List UInt8) (hl : s.length < 4294967281) (hp : 1 ≤ p.length) : PCall Tryz.prog 60 [dS s, dS p] fun r => r = dSs (Lib.split s p) := by
  refine pcall_below ⟨_, Tryz.func60, rfl, rfl⟩ fun C w us hc hg hr => ?_
  have hg : glOk w := hg
  obtain rfl := repL_v (us := [.string ⟨s.toArray⟩, .string ⟨p.toArray⟩]) hr
  obtain ⟨m, hm⟩ := hg.2
  refine (Tryz.strings_Split ⟨s.toArray⟩ ⟨p.toArray⟩ m w (by simpa [ByteArray.size] using hl) hm (by simpa [ByteArray.size] using hp)).mono ?_
  rintro e w' ⟨rfl, rfl⟩
  have e1 := splitB_eq s p
  have hall := Lib.splitB_all ⟨p.toArray⟩ (by simpa [ByteArray.size] using hp) 0 _ ⟨s.toArray⟩ rfl
  have hle := Lib.countB_le ⟨p.toArray⟩ (by simpa [ByteArray.size] using hp) _ ⟨s.toArray⟩ (Nat.le_refl _)
  have hsz : (⟨s.toArray⟩ : ByteArray).size = s.length := by simp [ByteArray.size]
  generalize hL : Lib.splitB ⟨p.toArray⟩ 0 (Lib.countB ⟨s.toArray⟩ ⟨p.toArray⟩) ⟨s.toArray⟩ = L at *
  refine ⟨_, _, rfl, rfl, ?_, ⟨rfl, rfl, rfl, by simp, fun k hk => Below.heap_alloc w _ k hk⟩⟩
  have := rep_newrow (w := w) (w1 := w) (t := 9) (cap := Lib.countB ⟨s.toArray⟩ ⟨p.toArray⟩ + 1) (xs := L.map Value.string) hc (Nat.le_refl _) (by simp; omega) (by simp only [maxLen]; omega)
  have e3 : (L.map Value.string).length = Lib.countB ⟨s.toArray⟩ ⟨p.toArray⟩ + 1 := by simpa using hall
  rw [e3] at this
  have e4 : ((L.map Value.string).map fun x => [D.v x]) = (Lib.split s p).map cS := by
    rw [← e1]; simp
  rw [e4] at this
  exact this
theorem sl_cells {C : Ctx} {w : World} {xs : List (List UInt8)} {u : Value} (h : Rep C w (dSs xs) u) : (xs = [] ∧ ∃ ao cap, u = .slice ao 0 cap) ∨
    ∃ b o cap, u = .slice (some ⟨b, o, none⟩) xs.length cap ∧ xs.length ≤ cap ∧ cap ≤ maxLen ∧ ∀ (j : Nat) x, xs[j]? = some x → w.cell? ⟨b, o + j, none⟩ = some (.string ⟨x.toArray⟩) := by
  unfold dSs at h
  generalize hes : xs.map cS = es at h
  cases h with
  | slE _ ao cap hm =>
    left
    exact ⟨by simpa using hes, ao, cap, rfl⟩
  | sl _ _ b o cap vs hl hm hk hc hh =>
    right
    have hlen : es.length = xs.length := by rw [← hes]; simp
    refine ⟨b, o, cap, by rw [hlen], by omega, hm, fun j x hx => ?_⟩
    have he : es[j]? = some (cS x) := by rw [← hes]; simp [hx]
    have h1 := (hc j 0 (cS x) _ he rfl).2
    have h2 := (hh j 0 (cS x) _ he rfl).v_inv
    rw [← h2]
    simpa using h1
theorem repL2 {C : Ctx} {w : World} {a b : D} {us : List Value} (h : RepL C w [a, b] us) : ∃ x y, us = [x, y] ∧ Rep C w a x ∧ Rep C w b y := by
  obtain ⟨h1, h2⟩ := h
  match us, h1 with
  | [x, y], _ => exact ⟨x, y, rfl, h2 0 a x rfl rfl, h2 1 b y rfl rfl⟩
end Go.Proofs.YtjdccagkafnbfaaGreatDoor

set_option linter.unusedVariables false
set_option linter.unusedSimpArgs false
namespace Go.Proofs.YtjdccagkafnbfaaGreatDoor
open Go.Eng Go.Wh Go.Ver Go.RowKit
set_option maxRecDepth 20000
attribute [local irreducible] AG CallA CallT AWp PCall ACall AgC
theorem isD_iff (c : UInt8) : isD c = true ↔ 48 ≤ c.toNat ∧ c.toNat ≤ 57 := by simp [isD]
theorem decVal_cons (c : UInt8) (s : List UInt8) : decVal (c :: s) = dgt c * 10 ^ s.length + decVal s := by
  have := decVal_app [c] s
  rw [show decVal [c] = dgt c by simp [decVal]] at this
  exact this
theorem parseD : ∀ (s : List UInt8), (∀ c ∈ s, isD c = true) → ∀ acc, acc < 18446744073709551616 →
    Lib.parseUint10 acc s = if acc * 10 ^ s.length + decVal s < 18446744073709551616 then .ok (acc * 10 ^ s.length + decVal s) else .range
  | [], _, acc, ha => by simp [Lib.parseUint10, decVal, ha]
  | c :: s, h, acc, ha => by
    have hc := h c (by simp)
    have hc' := (isD_iff c).1 hc
    have ih := parseD s (fun x hx => h x (by simp [hx]))
    have hd : c.toNat - 48 = dgt c := rfl
    have hd10 := dgt_lt hc
    have e : acc * 10 ^ (c :: s).length + decVal (c :: s) = (acc * 10 + dgt c) * 10 ^ s.length + decVal s := by
      rw [decVal_cons, List.length_cons, Nat.pow_succ, Nat.add_mul, Nat.mul_assoc, Nat.mul_comm 10, ← Nat.add_assoc]
    have hp : 0 < 10 ^ s.length := Nat.pow_pos (by decide)
    have hge : acc * 10 + dgt c ≤ (acc * 10 + dgt c) * 10 ^ s.length := Nat.le_mul_of_pos_right _ hp
    rw [e]
    unfold Lib.parseUint10
    rw [if_pos (by omega), hd]
    by_cases h1 : 1844674407370955162 ≤ acc
    · rw [if_pos h1, if_neg (by omega)]
    · rw [if_neg h1]
      by_cases h2 : 18446744073709551616 ≤ acc * 10 + dgt c
      · rw [if_pos h2, if_neg (by omega)]
      · rw [if_neg h2]; exact ih _ (by omega)
theorem parseB {s : List UInt8} (h : ∀ c ∈ s, isD c = true) (hne : s ≠ []) : Lib.parseMag s = if decVal s < 18446744073709551616 then .ok (decVal s) else .range := by
  unfold Lib.parseMag
  rw [if_neg hne, parseD s h 0 (by decide)]
  simp
theorem atoi_dig {s : List UInt8} (h : ∀ c ∈ s, isD c = true) (hne : s ≠ []) (hv : decVal s < 9223372036854775808) : Lib.atoiAll s = .ok (decVal s : Int) := by
  have hp := parseB h hne
  cases s with
  | nil => exact absurd rfl hne
  | cons c r =>
    have hcd := (isD_iff c).1 (h c (by simp))
    have e43 : ¬ c.toNat = 43 := by omega
    have e45 : ¬ c.toNat = 45 := by omega
    unfold Lib.atoiAll
    simp only [e43, e45, or_self, if_false, hp]
    rw [if_pos (by omega)]
    simp only [not_false_eq_true, true_and, false_and, if_false]
    rw [if_neg (by omega)]
theorem atoi_ok (s : List UInt8) (hl : s.length ≤ 281474976710656) (v : Int) (h : Lib.atoiAll s = .ok v) : PCall Tryz.prog 85 [dS s] fun r => r = .tup [dI v, .v .nilIface] := by
  refine pcall_below ⟨_, Tryz.func85, rfl, rfl⟩ fun C w us hc hg hr => ?_
  obtain rfl := repL_v (us := [.string ⟨s.toArray⟩]) hr
  refine (Tryz.strconv_Atoi_ok ⟨s.toArray⟩ (by simp [ByteArray.size]; omega) v (by simpa using h) w).mono ?_
  rintro e w' ⟨rfl, hw⟩
  refine ⟨_, _, rfl, rfl, rep_tup2 (.v _) (.v _), ?_⟩
  rcases hw with rfl | ⟨t, rfl⟩
  · exact Below.refl _ _
  · exact ⟨rfl, rfl, rfl, by rw [Lib.bytesWorld_size]; omega, fun k hk => Lib.bytesWorld_at_old w _ _ k (by omega)⟩
theorem dw_nil {α : Type} {p : α → Bool} : ∀ {l : List α}, l.dropWhile p = [] ↔ l.all p = true
  | [] => by simp
  | x :: l => by
    rw [List.dropWhile_cons]
    by_cases h : p x = true
    · rw [if_pos h, List.all_cons, h, Bool.true_and]; exact dw_nil
    · rw [if_neg h]; simp [h]
theorem trimS_nil (l cs : List UInt8) : Lib.trimS l cs = [] ↔ l.all (cs.contains ·) = true := by
  unfold Lib.trimS Lib.trimLeftS Lib.trimRightS
  rw [dw_nil]
  have hr : ∀ m : List UInt8, m.reverse.all (cs.contains ·) = m.all (cs.contains ·) := fun m => by rw [List.all_reverse]
  rw [hr]
  constructor
  · intro h
    have h2 := (dw_nil (p := (cs.contains ·)) (l := l.reverse)).1 (by
      cases hd : l.reverse.dropWhile (cs.contains ·) with
      | nil => rfl
      | cons x m =>
        exfalso
        have hx := List.head_dropWhile_not (cs.contains ·) (l := l.reverse) (by rw [hd]; simp)
        rw [hd] at h
        simp only [hd, List.head_cons] at hx
        rw [List.all_cons] at h
        simp only [Bool.and_eq_true] at h
        rw [h.1] at hx; cases hx)
    rw [hr] at h2; exact h2
  · intro h
    rw [(dw_nil (p := (cs.contains ·)) (l := l.reverse)).2 (by rw [hr]; exact h)]
    rfl
def tenD : List UInt8 := [48, 49, 50, 51, 52, 53, 54, 55, 56, 57]
theorem tenD_isD (c : UInt8) : tenD.contains c = isD c := by
  have h := UInt8.toNat_lt c
  unfold isD tenD
  refine Bool.eq_iff_iff.2 ?_
  simp only [List.contains_iff_mem, List.mem_cons, List.mem_nil_iff, or_false, Bool.and_eq_true, decide_eq_true_eq, ← UInt8.toNat_inj]
  simp
  omega
theorem trim_digits (l : List UInt8) : (Lib.trimS l tenD = []) ↔ l.all isD = true := by
  rw [trimS_nil]
  simp only [tenD_isD]
def abcL : List UInt8 := [97, 98, 99, 100, 101, 102, 103, 104, 105, 106, 107, 108, 109, 110, 111, 112, 113, 114, 115, 116, 117, 118, 119, 120, 121, 122]
theorem abcL_isL (c : UInt8) : abcL.contains c = isL c := by
  have h := UInt8.toNat_lt c
  unfold isL abcL
  refine Bool.eq_iff_iff.2 ?_
  simp only [List.contains_iff_mem, List.mem_cons, List.mem_nil_iff, or_false, Bool.and_eq_true, decide_eq_true_eq, ← UInt8.toNat_inj]
  simp
  omega
theorem trim_letters (l : List UInt8) : (Lib.trimS l abcL = []) ↔ l.all isL = true := by
  rw [trimS_nil]
  simp only [abcL_isL]
theorem contains_spec (zs : List (List UInt8)) (x : List UInt8) (hN : zs.length ≤ 140737488355328) : PCall Tryz.prog 69 [dSs zs, dS x] fun r => r = dB (decide (x ∈ zs)) := by
  refine pcall_below ⟨_, Tryz.func69, rfl, rfl⟩ fun C w us hc hg hr => ?_
  obtain ⟨u, v, rfl, h1, h2⟩ := repL2 hr
  obtain rfl := h2.v_inv
  rcases sl_cells h1 with ⟨rfl, ao, cap, rfl⟩ | ⟨b, o, cap, rfl, hcap, hm, hcells⟩
  · refine (Tryz.slices_Contains_string_empty ao cap ⟨x.toArray⟩ w).mono ?_
    rintro e w' ⟨rfl, rfl⟩
    exact ⟨_, _, rfl, by simp, .v _, Below.refl _ _⟩
  · have := Tryz.slices_Contains_string b o zs.length cap (zs.map fun y => (⟨y.toArray⟩ : ByteArray)) ⟨x.toArray⟩ w (by simp) (by omega) (fun j hj => by
      simp at hj
      have := hcells j zs[j] (List.getElem?_eq_getElem hj)
      simp [List.getD, hj, this])
    refine this.mono ?_
    rintro e w' ⟨rfl, rfl⟩
    refine ⟨_, _, rfl, ?_, .v _, Below.refl _ _⟩
    have ht : (zs.map fun y => (⟨y.toArray⟩ : ByteArray)).take zs.length = zs.map fun y => (⟨y.toArray⟩ : ByteArray) := by
      rw [List.take_of_length_le (by simp)]
    rw [ht]
    have he : Lib.containsS (zs.map fun y => (⟨y.toArray⟩ : ByteArray)) ⟨x.toArray⟩ = decide (x ∈ zs) := by
      rw [Bool.eq_iff_iff, Lib.containsS_iff, decide_eq_true_eq, List.mem_map]
      constructor
      · rintro ⟨y, hy, e⟩
        have := congrArg (fun b : ByteArray => b.data.toList) e
        simp at this; exact this ▸ hy
      · exact fun h => ⟨x, h, rfl⟩
    rw [he]
end Go.Proofs.YtjdccagkafnbfaaGreatDoor

namespace Go.Proofs.YtjdccagkafnbfaaGreatDoor
open Go.Eng Go.Wh Go.Ver
set_option maxRecDepth 20000
set_option linter.unusedSimpArgs false
set_option linter.unusedVariables false
attribute [local irreducible] AG CallA CallT AWp PCall ACall AgC
/-- what readSegment tells -/
def segP (s : List UInt8) : Seg :=
  if s = [] then z0s else if s.all isL = true then (s, 0)
  else if s.all isD = true ∧ (s.head? ≠ some 48 ∨ s = [48]) ∧ s.length ≤ 10 then ([], (decVal s : Int)) else z0s
theorem segP_of {s : List UInt8} {x : Seg} (h : segV s = some x) : segP s = x := by
  unfold segV at h
  unfold segP
  split at h
  · simp at h
  · rename_i h0
    rw [if_neg (fun e => h0 (.inl e))]
    split at h
    · rename_i h1; rw [if_pos h1]; simpa using h
    · rename_i h1
      rw [if_neg h1]
      split at h
      · rename_i h2
        simp only [Bool.and_eq_true, Bool.or_eq_true, decide_eq_true_eq] at h2
        rw [if_pos ⟨h2.1.1, h2.1.2, by omega⟩]; simpa using h
      · simp at h
theorem segR_nil : segP [] = z0s ∧ (segV []).isSome = false := by simp [segP, segV]
theorem segR_L {s : List UInt8} (h : s ≠ []) (hL : s.all isL = true) : segP s = (s, 0) ∧ (segV s).isSome = decide (s.length ≤ 10) := by
  unfold segP segV
  rw [if_neg h, if_pos hL]
  refine ⟨rfl, ?_⟩
  by_cases h1 : s.length ≤ 10
  · rw [if_neg (by simp [h]; exact h1), if_pos hL]; simp [h1]
  · rw [if_pos (.inr (by omega))]; simp [h1]
theorem segR_bad {s : List UInt8} (hL : s.all isL = false) (hb : ¬ (s.all isD = true ∧ (s.head? ≠ some 48 ∨ s = [48]) ∧ s.length ≤ 10)) : segP s = z0s ∧ (segV s).isSome = false := by
  by_cases h : s = []
  · subst h; exact segR_nil
  · unfold segP segV
    rw [if_neg h, if_neg (by simp [hL]), if_neg hb]
    refine ⟨rfl, ?_⟩
    split
    · rfl
    · rename_i h1
      rw [if_neg (by simp [hL]), if_neg]
      · rfl
      · intro q
        simp only [Bool.and_eq_true, Bool.or_eq_true, decide_eq_true_eq] at q
        exact hb ⟨q.1.1, q.1.2, by omega⟩
theorem segR_num {s : List UInt8} (h : s ≠ []) (hL : s.all isL = false) (h1 : s.all isD = true) (h2 : s.head? ≠ some 48 ∨ s = [48]) (h3 : s.length ≤ 10) : segP s = ([], (decVal s : Int)) ∧ (segV s).isSome = decide (decVal s ≤ 1000000000) := by
  unfold segP segV
  rw [if_neg h, if_neg (by simp [hL]), if_pos ⟨h1, h2, h3⟩]
  refine ⟨rfl, ?_⟩
  rw [if_neg (by simp [h]; exact h3), if_neg (by simp [hL])]
  by_cases h4 : decVal s ≤ 1000000000
  · rw [if_pos (by simp only [Bool.and_eq_true, Bool.or_eq_true, decide_eq_true_eq]; exact ⟨⟨h1, h2⟩, h4⟩)]; simp [h4]
  · rw [if_neg (by simp [h4])]; simp [h4]
theorem readSegment_spec (s : List UInt8) (hl : s.length ≤ 1000000000) : PCall Tryz.prog 61 [dS s] fun r => r = .tup [dG (segP s), dB (segV s).isSome] := by 
  refine pcall_of Tryz.func61 rfl rfl Tryz.ntmps61 (rs := [.cell 2 84, .tmp 3]) (tys := [84, 4]) rfl rfl (by simp) ?_
  have T1 := trimS_spec s abcL (by omega) (by decide) (by decide)
  have T2 := trimS_spec s tenD (by omega) (by decide) (by decide)
  have e1 := trim_letters s
  have e2 := trim_digits s
  generalize Lib.trimS s abcL = a at *
  generalize Lib.trimS s tenD = d at *
  have hn := @segR_nil
  have hL := @segR_L s
  have hB := @segR_bad s
  have hN := @segR_num s
  have hA := fun (h : s.all isD = true) (hne : s ≠ []) (hv : decVal s < 9223372036854775808) => atoi_ok s (by omega) _ (atoi_dig (s := s) (by simpa using h) hne hv)
  have hd := fun (h : s.all isD = true) => decVal_lt (s := s) (by simpa using h)
  generalize hP : segP s = p at *
  generalize hV : (segV s).isSome = v at *
  generalize hdv : decVal s = dv at *
  generalize hiL : s.all isL = iL at *
  generalize hiD : s.all isD = iD at *
  (refine awp_sr fun KK hKK => ?_; simp [go_sem]; ((repeat' (first|(refine ag_x ?_;simp [go_sem])|intro _|refine And.intro ?_ ?_|(apply hKK;clear hKK KK)));all_goals first|refine Hold.mk ?_|omega|with_reducible assumption|(simp only [InR] at *;omega)|skip))
  refine awp_seq_k fun K1 hK1 => ?_
  refine awp_block ?_
  (refine awp_sr fun KK hKK => ?_; simp [go_sem]; ((repeat' (first|(refine ag_x ?_;simp [go_sem])|intro _|refine And.intro ?_ ?_|(apply hKK;clear hKK KK)));all_goals first|refine Hold.mk ?_|omega|with_reducible assumption|(simp only [InR] at *;omega)|skip))
  (refine awp_if fun T F hT hF => ?_; simp [go_sem]; refine BR.intro (fun h2 => hT ?_) (fun h2 => hF ?_); all_goals clear hT hF T F; try simp at h2) 
  · subst h2
    obtain ⟨q1, q2⟩ := hn
    rw [hP] at q1; rw [hV] at q2
    subst q1 q2
    (refine awp_sr fun KK hKK => ?_; simp [go_sem]; ((repeat' (first|(refine ag_x ?_;simp [go_sem])|intro _|refine And.intro ?_ ?_|(apply hKK;clear hKK KK)));all_goals first|refine Hold.mk ?_|omega|with_reducible assumption|(simp only [InR] at *;omega)|skip))
    (refine awp_ret ?_; simp [go_sem])
  · (refine awp_sr fun KK hKK => ?_; simp [go_sem]; ((repeat' (first|(refine ag_x ?_;simp [go_sem])|intro _|refine And.intro ?_ ?_|(apply hKK;clear hKK KK)));all_goals first|refine Hold.mk ?_|omega|with_reducible assumption|(simp only [InR] at *;omega)|skip))
    ((try refine CallT.toA ?_); refine callT_m (by first | exact .inl ⟨rfl, rfl⟩ | exact .inr rfl) (by simp [go_sem]) ?_; intro args ha; simp [go_sem] at ha; subst ha; refine ⟨_, T1, ?_⟩; rintro _ rfl; simp [go_sem]; ((repeat' (first|(refine ag_x ?_;simp [go_sem])|intro _|refine And.intro ?_ ?_|(apply hKK;clear hKK KK)));all_goals first|refine Hold.mk ?_|omega|with_reducible assumption|(simp only [InR] at *;omega)|skip))
    (refine awp_if fun T F hT hF => ?_; simp [go_sem]; refine BR.intro (fun h3 => hT ?_) (fun h3 => hF ?_); all_goals clear hT hF T F; try simp at h3) 
    · obtain ⟨q1, q2⟩ := hL h2 (e1.1 h3)
      subst q1 q2
      (refine awp_sr fun KK hKK => ?_; simp [go_sem]; ((repeat' (first|(refine ag_x ?_;simp [go_sem])|intro _|refine And.intro ?_ ?_|(apply hKK;clear hKK KK)));all_goals first|refine Hold.mk ?_|omega|with_reducible assumption|(simp only [InR] at *;omega)|skip))
      (refine awp_ret ?_; simp [go_sem])
      omega
    · have hiL' : iL = false := by
        cases iL with
        | false => rfl
        | true => exact absurd (e1.2 rfl) h3
      cases s with
      | nil => exact absurd rfl h2
      | cons c r =>
        have hc48 : decide (c.toNat = 48) = decide (c = 48) := decide_eq_decide.2 ⟨fun h => UInt8.toNat_inj.1 h, fun h => by rw [h]; rfl⟩
        (refine awp_sr fun KK hKK => ?_; simp [go_sem]; ((repeat' (first|(refine ag_x ?_;simp [go_sem])|intro _|refine And.intro ?_ ?_|(apply hKK;clear hKK KK)));all_goals first|refine Hold.mk ?_|omega|with_reducible assumption|(simp only [InR] at *;omega)|skip))
        ((try refine CallT.toA ?_); refine callT_m (by first | exact .inl ⟨rfl, rfl⟩ | exact .inr rfl) (by simp [go_sem]) ?_; intro args ha; simp [go_sem] at ha; subst ha; refine ⟨_, T2, ?_⟩; rintro _ rfl; simp [go_sem]; ((repeat' (first|(refine ag_x ?_;simp [go_sem])|intro _|refine And.intro ?_ ?_|(apply hKK;clear hKK KK)));all_goals first|refine Hold.mk ?_|omega|with_reducible assumption|(simp only [InR] at *;omega)|skip))
        · rename_i q
          by_cases hq : (c.toNat : Int) = 48
          · exact .inr (q hq)
          · exact .inl hq
        (refine awp_if fun T F hT hF => ?_; simp [go_sem]; refine BR.intro (fun h4 => hT ?_) (fun h4 => hF ?_); all_goals clear hT hF T F; try simp at h4) 
        · have := hB hiL' (by
            rintro ⟨r1, r2, r3⟩
            simp only [List.length_cons] at r3
            rcases h4 with (h4 | ⟨h4, h5⟩) | h4
            · exact h4 (e2.2 r1)
            · have hc : c = 48 := UInt8.toNat_inj.1 (by show c.toNat = 48; omega)
              subst hc
              rcases r2 with r2 | r2
              · simp at r2
              · simp at r2; rcases h5 with h5 | h5
                · exact h5 rfl
                · exact h5 r2
            · omega)
          obtain ⟨q1, q2⟩ := this
          subst q1 q2
          (refine awp_sr fun KK hKK => ?_; simp [go_sem]; ((repeat' (first|(refine ag_x ?_;simp [go_sem])|intro _|refine And.intro ?_ ?_|(apply hKK;clear hKK KK)));all_goals first|refine Hold.mk ?_|omega|with_reducible assumption|(simp only [InR] at *;omega)|skip))
          (refine awp_ret ?_; simp [go_sem])
        · refine awp_skip ?_
          refine hK1 _ ?_; clear hK1
          have h4' : iD = true ∧ ((c :: r).head? ≠ some 48 ∨ c :: r = [48]) ∧ (c :: r).length ≤ 10 := by
            obtain ⟨⟨g1, g2⟩, g3⟩ := h4
            refine ⟨e2.1 g1, ?_, by simp only [List.length_cons]; omega⟩
            by_cases hc : c = 48
            · obtain ⟨_, g4⟩ := g2 (by rw [hc]; rfl)
              exact .inr (by rw [hc, g4])
            · exact .inl (by simpa using hc)
          have hb1 := hd h4'.1
          have hb2 : 10 ^ (c :: r).length ≤ 10 ^ 10 := Nat.pow_le_pow_right (by decide) h4'.2.2
          have hA' := hA h4'.1 h2 (by omega)
          obtain ⟨q1, q2⟩ := hN h2 hiL' h4'.1 h4'.2.1 h4'.2.2
          subst q1 q2
          (refine awp_sr fun KK hKK => ?_; simp [go_sem]; ((repeat' (first|(refine ag_x ?_;simp [go_sem])|intro _|refine And.intro ?_ ?_|(apply hKK;clear hKK KK)));all_goals first|refine Hold.mk ?_|omega|with_reducible assumption|(simp only [InR] at *;omega)|skip))
          ((try refine CallT.toA ?_); refine callT_m (by first | exact .inl ⟨rfl, rfl⟩ | exact .inr rfl) (by simp [go_sem]) ?_; intro args ha; simp [go_sem] at ha; subst ha; refine ⟨_, hA', ?_⟩; rintro _ rfl; simp [go_sem]; ((repeat' (first|(refine ag_x ?_;simp [go_sem])|intro _|refine And.intro ?_ ?_|(apply hKK;clear hKK KK)));all_goals first|refine Hold.mk ?_|omega|with_reducible assumption|(simp only [InR] at *;omega)|skip))
          (refine awp_sr fun KK hKK => ?_; simp [go_sem]; ((repeat' (first|(refine ag_x ?_;simp [go_sem])|intro _|refine And.intro ?_ ?_|(apply hKK;clear hKK KK)));all_goals first|refine Hold.mk ?_|omega|with_reducible assumption|(simp only [InR] at *;omega)|skip))
          (refine awp_ret ?_; simp [go_sem])
          omega
end Go.Proofs.YtjdccagkafnbfaaGreatDoor

namespace Go.Proofs.YtjdccagkafnbfaaGreatDoor
open Go.Eng Go.Wh Go.Ver
set_option maxRecDepth 20000
set_option linter.unusedSimpArgs false
set_option linter.unusedVariables false
attribute [local irreducible] AG CallA CallT AWp PCall ACall AgC
theorem segsV_snoc {a : List (List UInt8)} {l : List Seg} {p : List UInt8} {x : Seg} (h : segsV a = some l) (hx : segV p = some x) : segsV (a ++ [p]) = some (l ++ [x]) := by
  induction a generalizing l with
  | nil => simp [segsV] at h ⊢; subst h; simp [hx]
  | cons q r ih =>
    unfold segsV at h
    split at h
    · rename_i y m hy hm
      simp at h; subst h
      simp only [List.cons_append, segsV, hy, ih hm]
    · simp at h
theorem segsV_bad {ps : List (List UInt8)} {p : List UInt8} (hp : p ∈ ps) (h : segV p = none) : segsV ps = none := by
  induction ps with
  | nil => simp at hp
  | cons q r ih =>
    unfold segsV
    rcases List.mem_cons.1 hp with rfl | hp
    · rw [h]
    · rw [ih hp]; cases segV q <;> rfl
theorem dots_len (c : UInt8) : ∀ s : List UInt8, (dots c s).length ≤ s.length + 1
  | [] => by simp [dots]
  | b :: l => by
    have := dots_len c l
    unfold dots
    split
    · simp; omega
    · cases hd : dots c l with
      | nil => simp [consH]
      | cons h t => rw [hd] at this; simp [consH] at this ⊢; omega
theorem dots_part (c : UInt8) : ∀ (s : List UInt8), ∀ p ∈ dots c s, p.length ≤ s.length
  | [], p, hp => by simp [dots] at hp; subst hp; simp
  | b :: l, p, hp => by
    have ih := dots_part c l
    unfold dots at hp
    split at hp
    · rcases List.mem_cons.1 hp with rfl | hp
      · simp
      · have := ih p hp; simp; omega
    · cases hd : dots c l with
      | nil => exact absurd hd (dots_ne c l)
      | cons h t =>
        rw [hd] at hp ih
        simp only [consH, List.mem_cons] at hp
        rcases hp with rfl | hp
        · have := ih h (by simp); simp; omega
        · have := ih p (by simp [hp]); simp; omega
theorem read_spec (v : List UInt8) (hl : v.length ≤ 1000000000) : PCall Tryz.prog 25 [dS v] fun r => r = .tup [dGs (readP v), dB (readV v).isSome] := by 
  refine pcall_of Tryz.func25 rfl rfl Tryz.ntmps25 (rs := [.tmp 2, .tmp 3]) (tys := [53, 4]) rfl rfl (by simp) ?_
  have S1 := split_spec v [46] (by omega) (by simp)
  rw [split_dots] at S1
  have hdl := dots_len 46 v
  have hdp := dots_part 46 v
  have hdn := dots_ne 46 v
  unfold readP readV
  (refine awp_sr fun KK hKK => ?_; simp [go_sem]; ((repeat' (first|(refine ag_x ?_;simp [go_sem])|intro _|refine And.intro ?_ ?_|(apply hKK;clear hKK KK)));all_goals first|refine Hold.mk ?_|omega|with_reducible assumption|(simp only [InR] at *;omega)|skip))
  refine awp_seq_k fun K1 hK1 => ?_
  (refine awp_sr fun KK hKK => ?_; simp [go_sem]; ((repeat' (first|(refine ag_x ?_;simp [go_sem])|intro _|refine And.intro ?_ ?_|(apply hKK;clear hKK KK)));all_goals first|refine Hold.mk ?_|omega|with_reducible assumption|(simp only [InR] at *;omega)|skip))
  (refine awp_if fun T F hT hF => ?_; simp [go_sem]; refine BR.intro (fun h2 => hT ?_) (fun h2 => hF ?_); all_goals clear hT hF T F; try simp at h2) 
  · (refine awp_sr fun KK hKK => ?_; simp [go_sem]; ((repeat' (first|(refine ag_x ?_;simp [go_sem])|intro _|refine And.intro ?_ ?_|(apply hKK;clear hKK KK)));all_goals first|refine Hold.mk ?_|omega|with_reducible assumption|(simp only [InR] at *;omega)|skip))
    have : 60 < v.length := by omega
    (refine awp_ret ?_; simp [go_sem, this])
  · have h60 : ¬ 60 < v.length := by omega
    refine awp_skip ?_
    refine hK1 _ ?_; clear hK1
    simp only [h60, if_false]
    generalize hps : dots 46 v = ps at *
    (refine awp_sr fun KK hKK => ?_; simp [go_sem]; ((repeat' (first|(refine ag_x ?_;simp [go_sem])|intro _|refine And.intro ?_ ?_|(apply hKK;clear hKK KK)));all_goals first|refine Hold.mk ?_|omega|with_reducible assumption|(simp only [InR] at *;omega)|skip))
    refine awp_nilslot 4 4 84 2 rfl fun g4 => ?_
    simp only [go_sem]
    refine awp_seq_k fun K3 hK3 => ?_
    (refine awp_sr fun KK hKK => ?_; simp [go_sem]; ((repeat' (first|(refine ag_x ?_;simp [go_sem])|intro _|refine And.intro ?_ ?_|(apply hKK;clear hKK KK)));all_goals first|refine Hold.mk ?_|omega|with_reducible assumption|(simp only [InR] at *;omega)|skip))
    ((try refine CallT.toA ?_); refine callT_m (by first | exact .inl ⟨rfl, rfl⟩ | exact .inr rfl) (by simp [go_sem]) ?_; intro args ha; simp [go_sem] at ha; subst ha; refine ⟨_, S1, ?_⟩; rintro _ rfl; simp [go_sem]; ((repeat' (first|(refine ag_x ?_;simp [go_sem])|intro _|refine And.intro ?_ ?_|(apply hKK;clear hKK KK)));all_goals first|refine Hold.mk ?_|omega|with_reducible assumption|(simp only [InR] at *;omega)|skip))
    refine awp_block ?_
    refine awp_loop (σ := Nat × List Seg × Nat) (fun x => ⟨[(4, .own 4 x.2.2), (13, dSs ps), (14, dI ps.length), (15, dI x.1)], [(4, x.2.2, .row 84 2 (x.2.1.map cG))]⟩) (fun x => x.1 ≤ ps.length ∧ x.2.1.length = x.1 ∧ segsV (ps.take x.1) = some x.2.1) (fun x => ps.length - x.1) (0, [], g4) ?_ ?_ ?_
    · (refine cov_of ?_ ?_ <;> simp [go_sem])
    · exact ⟨by omega, rfl, rfl⟩
    rintro ⟨i, out, g⟩ ⟨hi, ho, hs⟩
    simp only at hi ho hs
    (refine awp_sr fun KK hKK => ?_; simp [go_sem]; ((repeat' (first|(refine ag_x ?_;simp [go_sem])|intro _|refine And.intro ?_ ?_|(apply hKK;clear hKK KK)));all_goals first|refine Hold.mk ?_|omega|with_reducible assumption|(simp only [InR] at *;omega)|skip))
    refine awp_seq_k fun K4 hK4 => ?_
    (refine awp_if fun T F hT hF => ?_; simp [go_sem]; refine BR.intro (fun h5 => hT ?_) (fun h5 => hF ?_); all_goals clear hT hF T F; try simp at h5) 
    · refine awp_skip ?_
      refine hK4 _ ?_; clear hK4
      have hi' : i < ps.length := by omega
      obtain ⟨p, hp⟩ : ∃ p, ps[i]? = some p := ⟨_, List.getElem?_eq_getElem hi'⟩
      have hpm : p ∈ ps := List.mem_of_getElem? hp
      have R1 := readSegment_spec p (by have := hdp p hpm; omega)
      refine awp_seq_k fun K6 hK6 => ?_
      refine awp_block ?_
      (refine awp_sr fun KK hKK => ?_; simp [go_sem, hp]; ((repeat' (first|(refine ag_x ?_;simp [go_sem, hp])|intro _|refine And.intro ?_ ?_|(apply hKK;clear hKK KK)));all_goals first|refine Hold.mk ?_|omega|with_reducible assumption|(simp only [InR] at *;omega)|skip))
      (refine awp_sr fun KK hKK => ?_; simp [go_sem]; ((repeat' (first|(refine ag_x ?_;simp [go_sem])|intro _|refine And.intro ?_ ?_|(apply hKK;clear hKK KK)));all_goals first|refine Hold.mk ?_|omega|with_reducible assumption|(simp only [InR] at *;omega)|skip))
      have hsp := @segP_of p
      have hbad := segsV_bad hpm
      have hsn := fun (x : Seg) (h : segV p = some x) => segsV_snoc hs h
      generalize segP p = q at *
      generalize hsv : segV p = sv at *
      ((try refine CallT.toA ?_); refine callT_m (by first | exact .inl ⟨rfl, rfl⟩ | exact .inr rfl) (by simp [go_sem]) ?_; intro args ha; simp [go_sem] at ha; subst ha; refine ⟨_, R1, ?_⟩; rintro _ rfl; simp [go_sem]; ((repeat' (first|(refine ag_x ?_;simp [go_sem])|intro _|refine And.intro ?_ ?_|(apply hKK;clear hKK KK)));all_goals first|refine Hold.mk ?_|omega|with_reducible assumption|(simp only [InR] at *;omega)|skip))
      refine awp_seq_k fun K7 hK7 => ?_
      (refine awp_sr fun KK hKK => ?_; simp [go_sem]; ((repeat' (first|(refine ag_x ?_;simp [go_sem])|intro _|refine And.intro ?_ ?_|(apply hKK;clear hKK KK)));all_goals first|refine Hold.mk ?_|omega|with_reducible assumption|(simp only [InR] at *;omega)|skip))
      cases sv with
      | none =>
        (refine awp_if fun T F hT hF => ?_; simp [go_sem]; refine hT ?_; clear hT hF T F)
        (refine awp_sr fun KK hKK => ?_; simp [go_sem]; ((repeat' (first|(refine ag_x ?_;simp [go_sem])|intro _|refine And.intro ?_ ?_|(apply hKK;clear hKK KK)));all_goals first|refine Hold.mk ?_|omega|with_reducible assumption|(simp only [InR] at *;omega)|skip))
        (refine awp_ret ?_; simp [go_sem, hbad rfl])
      | some x =>
        obtain rfl := hsp rfl
        (refine awp_if fun T F hT hF => ?_; simp [go_sem]; refine hF ?_; clear hT hF T F)
        refine awp_skip ?_
        refine hK7 _ ?_; clear hK7
        (refine awp_r fun KK hKK => ?_; simp [go_sem]; ((repeat' (first|(refine ag_x ?_;simp [go_sem])|intro _|refine And.intro ?_ ?_|(apply hKK;clear hKK KK)));all_goals first|refine Hold.mk ?_|omega|with_reducible assumption|(simp only [InR] at *;omega)|skip))
        refine hK6 _ ?_; clear hK6
        (refine awp_r fun KK hKK => ?_; simp [go_sem]; ((repeat' (first|(refine ag_x ?_;simp [go_sem])|intro _|refine And.intro ?_ ?_|(apply hKK;clear hKK KK)));all_goals first|refine Hold.mk ?_|omega|with_reducible assumption|(simp only [InR] at *;omega)|skip))
        rename_i g28 g'
        have e : ps.take (i + 1) = ps.take i ++ [p] := by rw [List.take_add_one, hp]; rfl
        refine ⟨(i + 1, out ++ [q], g'), ?_, ⟨by simp only; omega, by simp [ho], ?_⟩, by simp only; omega⟩
        · (refine cov_of ?_ ?_ <;> simp [go_sem])
        · simp only [e]
          exact hsn q rfl
    · refine awp_exit ?_
      simp only [go_sem]
      refine hK3 _ ?_; clear hK3
      have hie : i = ps.length := by omega
      subst hie
      rw [List.take_length] at hs
      cases out with
      | nil => simp at ho; exact absurd ho.symm (by simpa using hdn)
      | cons x r =>
        ((refine awp_dr (.qs [0, 1, 2, 3, 4, 5, 6, 7, 11, 8, 9, 10, 12] (.nil)) (by kernel_rfl) ?_ ?_ ?_ ?_); (kernel_rfl); (exact (by decide +kernel)); (kernel_rfl); intro KK hKK; ((repeat' (first|(refine ag_x ?_;simp [go_sem])|refine adr_nil ?_|refine adr_two ?_ ?_|refine adr_kq ?_ ?_|refine adr_three ?_ ?_ ?_|refine adr_four ?_ ?_ ?_ ?_|refine adr_kp2 ?_ ?_|refine adr_kp3 ?_ ?_ ?_|((first|refine adr_qs fun KK hKK=>?_|refine adr_y fun KK hKK=>?_);simp [go_sem])|intro _|refine And.intro ?_ ?_|(apply hKK;clear hKK KK)));all_goals first|refine Hold.mk ?_|omega|with_reducible assumption|(simp only [InR] at *;omega)|skip))
        (refine awp_ret ?_; simp [go_sem, hs])
        by_cases hq : r.length ≤ 7 ∧ x.fst = []
        · rw [if_pos hq]
          have : (r.length : Int) + 1 ≤ 8 := by omega
          simp [this, hq.2]
        · rw [if_neg hq]
          simp
          intro q1 q2
          exact hq ⟨by omega, q2⟩
end Go.Proofs.YtjdccagkafnbfaaGreatDoor

namespace Go.Proofs.YtjdccagkafnbfaaGreatDoor
open Go.Eng Go.Wh Go.Ver
set_option maxRecDepth 20000
set_option linter.unusedSimpArgs false
set_option linter.unusedVariables false
attribute [local irreducible] AG CallA CallT AWp PCall ACall AgC
end Go.Proofs.YtjdccagkafnbfaaGreatDoor

namespace Go.Proofs.YtjdccagkafnbfaaGreatDoor
open Go.Eng Go.Wh Go.Ver
set_option maxRecDepth 20000
set_option linter.unusedSimpArgs false
set_option linter.unusedVariables false
attribute [local irreducible] AG CallA CallT AWp PCall ACall AgC
end Go.Proofs.YtjdccagkafnbfaaGreatDoor
