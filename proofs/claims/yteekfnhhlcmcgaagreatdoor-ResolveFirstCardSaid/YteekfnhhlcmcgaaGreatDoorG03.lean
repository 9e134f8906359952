/- Part of a proof: see the last text. -/
import Derived.Test.YteekfnhhlcmcgaaGreatDoorG02
import Derived.Test.YteekfnhhlcmcgaaGreatDoorProg
import Derived.Lib.SplitLaws
import Derived.Lib.CountLaws
import Derived.Lib.Join
import Derived.Lib.ItoaNum
import Derived.Lib.Bytealg
import Derived.Lib.Small
import Derived.OrdersHeld
set_option linter.unusedVariables false
set_option linter.unusedSimpArgs false
namespace Go.Proofs.YteekfnhhlcmcgaaGreatDoor
open Go.Eng
@[go_sem] theorem zr25 : zeroOf Tryz.prog 25 = some [.slice none 0 0] := by kernel_rfl
@[go_sem] theorem ty25 : tyOf Tryz.prog 25 = some (true, 1) := by kernel_rfl
@[go_sem] theorem sl26 : slOf Tryz.prog 26 = some (43, 2, 32) := by kernel_rfl
@[go_sem] theorem zr43 : zeroOf Tryz.prog 43 = some [.string ⟨#[]⟩, .string ⟨#[]⟩] := by kernel_rfl
@[go_sem] theorem ct25 : cellTys Tryz.prog 25 = [some 2] := by kernel_rfl
@[go_sem] theorem ct26 : cellTys Tryz.prog 26 = [some 2] := by kernel_rfl
@[go_sem] theorem sl34 : slOf Tryz.prog 34 = some (41, 2, 32) := by kernel_rfl
@[go_sem] theorem zr41 : zeroOf Tryz.prog 41 = some [.string ⟨#[]⟩, .string ⟨#[]⟩] := by kernel_rfl
@[go_sem] theorem fl41_0 : fldOf Tryz.prog 41 0 = some (0, false, 1) := by kernel_rfl
@[go_sem] theorem ty9 : tyOf Tryz.prog 9 = some (false, 1) := by kernel_rfl
@[go_sem] theorem fl43_0 : fldOf Tryz.prog 43 0 = some (0, false, 1) := by kernel_rfl
@[go_sem] theorem fl41_1 : fldOf Tryz.prog 41 1 = some (1, false, 1) := by kernel_rfl
@[go_sem] theorem fl25_0 : fldOf Tryz.prog 25 0 = some (0, false, 1) := by kernel_rfl
@[go_sem] theorem ty23 : tyOf Tryz.prog 23 = some (false, 1) := by kernel_rfl
@[go_sem] theorem sl23 : slOf Tryz.prog 23 = some (46, 2, 40) := by kernel_rfl
@[go_sem] theorem zr46 : zeroOf Tryz.prog 46 = some [.string ⟨#[]⟩, .slice none 0 0] := by kernel_rfl
@[go_sem] theorem fl46_0 : fldOf Tryz.prog 46 0 = some (0, false, 1) := by kernel_rfl
@[go_sem] theorem fl46_1 : fldOf Tryz.prog 46 1 = some (1, false, 1) := by kernel_rfl
@[go_sem] theorem ty44 : tyOf Tryz.prog 44 = some (false, 1) := by kernel_rfl
@[go_sem] theorem sl44 : slOf Tryz.prog 44 = some (48, 2, 40) := by kernel_rfl
@[go_sem] theorem zr48 : zeroOf Tryz.prog 48 = some [.string ⟨#[]⟩, .slice none 0 0] := by kernel_rfl
@[go_sem] theorem ty48 : tyOf Tryz.prog 48 = some (true, 2) := by kernel_rfl
@[go_sem] theorem fl48_0 : fldOf Tryz.prog 48 0 = some (0, false, 1) := by kernel_rfl
@[go_sem] theorem fl55_0 : fldOf Tryz.prog 55 0 = some (0, true, 3) := by kernel_rfl
@[go_sem] theorem ty53 : tyOf Tryz.prog 53 = some (true, 3) := by kernel_rfl
@[go_sem] theorem ct53 : cellTys Tryz.prog 53 = [some 2, some 1, some 2] := by kernel_rfl
@[go_sem] theorem fl55_1 : fldOf Tryz.prog 55 1 = some (3, true, 3) := by kernel_rfl
@[go_sem] theorem fl55_2 : fldOf Tryz.prog 55 2 = some (6, false, 1) := by kernel_rfl
@[go_sem] theorem ty22 : tyOf Tryz.prog 22 = some (false, 1) := by kernel_rfl
@[go_sem] theorem ct61 : cellTys Tryz.prog 61 = [some 2, some 1, some 2] := by kernel_rfl
@[go_sem] theorem fl55_3 : fldOf Tryz.prog 55 3 = some (7, false, 1) := by kernel_rfl
@[go_sem] theorem sl63 : slOf Tryz.prog 63 = some (53, 3, 72) := by kernel_rfl
@[go_sem] theorem zr53 : zeroOf Tryz.prog 53 = some [.slice none 0 0, .slice none 0 0, .slice none 0 0] := by kernel_rfl
@[go_sem] theorem ct64 : cellTys Tryz.prog 64 = [some 1] := by kernel_rfl
@[go_sem] theorem sl64 : slOf Tryz.prog 64 = some (9, 1, 16) := by kernel_rfl
@[go_sem] theorem zr9 : zeroOf Tryz.prog 9 = some [.string ⟨#[]⟩] := by kernel_rfl
@[go_sem] theorem sl38 : slOf Tryz.prog 38 = some (114, 2, 32) := by kernel_rfl
@[go_sem] theorem zr114 : zeroOf Tryz.prog 114 = some [.string ⟨#[]⟩, .string ⟨#[]⟩] := by kernel_rfl
@[go_sem] theorem ty38 : tyOf Tryz.prog 38 = some (false, 1) := by kernel_rfl
@[go_sem] theorem ty3 : tyOf Tryz.prog 3 = some (false, 1) := by kernel_rfl
@[go_sem] theorem ct58 : cellTys Tryz.prog 58 = [some 2] := by kernel_rfl
@[go_sem] theorem ty34 : tyOf Tryz.prog 34 = some (false, 1) := by kernel_rfl
@[go_sem] theorem sl58 : slOf Tryz.prog 58 = some (95, 2, 32) := by kernel_rfl
@[go_sem] theorem zr95 : zeroOf Tryz.prog 95 = some [.string ⟨#[]⟩, .string ⟨#[]⟩] := by kernel_rfl
@[go_sem] theorem fl95_0 : fldOf Tryz.prog 95 0 = some (0, false, 1) := by kernel_rfl
@[go_sem] theorem fl95_1 : fldOf Tryz.prog 95 1 = some (1, false, 1) := by kernel_rfl
@[go_sem] theorem bl41 : bldOf Tryz.prog 41 = some ([(0, 1), (1, 1)], [.string ⟨#[]⟩, .string ⟨#[]⟩]) := by kernel_rfl
@[go_sem] theorem zr61 : zeroOf Tryz.prog 61 = some [.slice none 0 0, .slice none 0 0, .slice none 0 0] := by kernel_rfl
@[go_sem] theorem ty61 : tyOf Tryz.prog 61 = some (true, 3) := by kernel_rfl
@[go_sem] theorem fl53_0 : fldOf Tryz.prog 53 0 = some (0, false, 1) := by kernel_rfl
@[go_sem] theorem bl110 : bldOf Tryz.prog 110 = some ([(0, 1), (1, 1)], [.slice none 0 0, .int .i64 0]) := by kernel_rfl
@[go_sem] theorem bl46 : bldOf Tryz.prog 46 = some ([(0, 1), (1, 1)], [.string ⟨#[]⟩, .slice none 0 0]) := by kernel_rfl
@[go_sem] theorem ty46 : tyOf Tryz.prog 46 = some (true, 2) := by kernel_rfl
@[go_sem] theorem fl110_1 : fldOf Tryz.prog 110 1 = some (1, false, 1) := by kernel_rfl
@[go_sem] theorem sl22 : slOf Tryz.prog 22 = some (3, 1, 8) := by kernel_rfl
@[go_sem] theorem bl48 : bldOf Tryz.prog 48 = some ([(0, 1), (1, 1)], [.string ⟨#[]⟩, .slice none 0 0]) := by kernel_rfl
@[go_sem] theorem bl114 : bldOf Tryz.prog 114 = some ([(0, 1), (1, 1)], [.string ⟨#[]⟩, .string ⟨#[]⟩]) := by kernel_rfl
@[go_sem] theorem ty41 : tyOf Tryz.prog 41 = some (true, 2) := by kernel_rfl
@[go_sem] theorem eq41 : eqDesc Tryz.prog 41 = some [(0, 2), (1, 2)] := by kernel_rfl
@[go_sem] theorem fl48_1 : fldOf Tryz.prog 48 1 = some (1, false, 1) := by kernel_rfl
@[go_sem] theorem ty26 : tyOf Tryz.prog 26 = some (false, 1) := by kernel_rfl
@[go_sem] theorem fl43_1 : fldOf Tryz.prog 43 1 = some (1, false, 1) := by kernel_rfl
@[go_sem] theorem fl53_1 : fldOf Tryz.prog 53 1 = some (1, false, 1) := by kernel_rfl
@[go_sem] theorem ty51 : tyOf Tryz.prog 51 = some (false, 1) := by kernel_rfl
@[go_sem] theorem sl51 : slOf Tryz.prog 51 = some (38, 1, 24) := by kernel_rfl
@[go_sem] theorem zr38 : zeroOf Tryz.prog 38 = some [.slice none 0 0] := by kernel_rfl
@[go_sem] theorem fl53_2 : fldOf Tryz.prog 53 2 = some (2, false, 1) := by kernel_rfl
@[go_sem] theorem fl114_0 : fldOf Tryz.prog 114 0 = some (0, false, 1) := by kernel_rfl
@[go_sem] theorem fl114_1 : fldOf Tryz.prog 114 1 = some (1, false, 1) := by kernel_rfl
@[go_sem] theorem bl53 : bldOf Tryz.prog 53 = some ([(0, 1), (1, 1), (2, 1)], [.slice none 0 0, .slice none 0 0, .slice none 0 0]) := by kernel_rfl
@[go_sem] theorem fl61_0 : fldOf Tryz.prog 61 0 = some (0, false, 1) := by kernel_rfl
@[go_sem] theorem ty58 : tyOf Tryz.prog 58 = some (false, 1) := by kernel_rfl
@[go_sem] theorem fl61_1 : fldOf Tryz.prog 61 1 = some (1, false, 1) := by kernel_rfl
@[go_sem] theorem ty59 : tyOf Tryz.prog 59 = some (false, 1) := by kernel_rfl
@[go_sem] theorem sl59 : slOf Tryz.prog 59 = some (26, 1, 24) := by kernel_rfl
@[go_sem] theorem zr26 : zeroOf Tryz.prog 26 = some [.slice none 0 0] := by kernel_rfl
@[go_sem] theorem fl61_2 : fldOf Tryz.prog 61 2 = some (2, false, 1) := by kernel_rfl
@[go_sem] theorem bl95 : bldOf Tryz.prog 95 = some ([(0, 1), (1, 1)], [.string ⟨#[]⟩, .string ⟨#[]⟩]) := by kernel_rfl
@[go_sem] theorem zr64 : zeroOf Tryz.prog 64 = some [.slice none 0 0] := by kernel_rfl
@[go_sem] theorem ty64 : tyOf Tryz.prog 64 = some (false, 1) := by kernel_rfl
@[go_sem] theorem mp132 : mapOf Tryz.prog 132 = some (1, 9) := by kernel_rfl
@[go_sem] theorem zv9 : zeroV Tryz.prog 9 = some (.string ⟨#[]⟩) := by kernel_rfl
@[go_sem] theorem ty95 : tyOf Tryz.prog 95 = some (true, 2) := by kernel_rfl
@[go_sem] theorem eq95 : eqDesc Tryz.prog 95 = some [(0, 2), (1, 2)] := by kernel_rfl
@[go_sem] theorem bl61 : bldOf Tryz.prog 61 = some ([(0, 1), (1, 1), (2, 1)], [.slice none 0 0, .slice none 0 0, .slice none 0 0]) := by kernel_rfl
@[go_sem] theorem ct95 : cellTys Tryz.prog 95 = [none, none] := by kernel_rfl
@[go_sem] theorem fl110_0 : fldOf Tryz.prog 110 0 = some (0, false, 1) := by kernel_rfl
@[go_sem] theorem bl43 : bldOf Tryz.prog 43 = some ([(0, 1), (1, 1)], [.string ⟨#[]⟩, .string ⟨#[]⟩]) := by kernel_rfl
@[go_sem] theorem ct183 : cellTys Tryz.prog 183 = [some 2] := by kernel_rfl
@[go_sem] theorem ty114 : tyOf Tryz.prog 114 = some (true, 2) := by kernel_rfl
@[go_sem] theorem ct114 : cellTys Tryz.prog 114 = [none, none] := by kernel_rfl
@[go_sem] theorem bl201 : bldOf Tryz.prog 201 = some ([(0, 1), (1, 3), (4, 1)], [.int .i64 0, .slice none 0 0, .slice none 0 0, .slice none 0 0, .string ⟨#[]⟩]) := by kernel_rfl
@[go_sem] theorem fl201_0 : fldOf Tryz.prog 201 0 = some (0, false, 1) := by kernel_rfl
@[go_sem] theorem fl201_2 : fldOf Tryz.prog 201 2 = some (4, false, 1) := by kernel_rfl
@[go_sem] theorem fl201_1 : fldOf Tryz.prog 201 1 = some (1, true, 3) := by kernel_rfl
@[go_sem] theorem eq114 : eqDesc Tryz.prog 114 = some [(0, 2), (1, 2)] := by kernel_rfl
@[go_sem] theorem ty43 : tyOf Tryz.prog 43 = some (true, 2) := by kernel_rfl
@[go_sem] theorem eq43 : eqDesc Tryz.prog 43 = some [(0, 2), (1, 2)] := by kernel_rfl
@[go_sem] theorem bl213 : bldOf Tryz.prog 213 = some ([(0, 1), (1, 1), (2, 1), (3, 1)], [.slice none 0 0, .slice none 0 0, .int .i64 0, .int .i64 0]) := by kernel_rfl
@[go_sem] theorem fl213_2 : fldOf Tryz.prog 213 2 = some (2, false, 1) := by kernel_rfl
@[go_sem] theorem zr229 : zeroOf Tryz.prog 229 = some [.string ⟨#[]⟩, .int .i64 0] := by kernel_rfl
@[go_sem] theorem ty229 : tyOf Tryz.prog 229 = some (true, 2) := by kernel_rfl
@[go_sem] theorem fl229_0 : fldOf Tryz.prog 229 0 = some (0, false, 1) := by kernel_rfl
@[go_sem] theorem sl183 : slOf Tryz.prog 183 = some (229, 2, 24) := by kernel_rfl
@[go_sem] theorem ct229 : cellTys Tryz.prog 229 = [none, none] := by kernel_rfl
@[go_sem] theorem sl188 : slOf Tryz.prog 188 = some (5, 1, 1) := by kernel_rfl
@[go_sem] theorem bs9_188 : bytesOf Tryz.prog 9 188 = some 5 := by kernel_rfl
@[go_sem] theorem ty5 : tyOf Tryz.prog 5 = some (false, 1) := by kernel_rfl
@[go_sem] theorem bs5_3 : bytesOf Tryz.prog 5 3 = none := by kernel_rfl
@[go_sem] theorem fl213_0 : fldOf Tryz.prog 213 0 = some (0, true, 1) := by kernel_rfl
@[go_sem] theorem fl213_1 : fldOf Tryz.prog 213 1 = some (1, false, 1) := by kernel_rfl
@[go_sem] theorem fl213_3 : fldOf Tryz.prog 213 3 = some (3, false, 1) := by kernel_rfl
@[go_sem] theorem ct240 : cellTys Tryz.prog 240 = [some 2] := by kernel_rfl
@[go_sem] theorem ct48 : cellTys Tryz.prog 48 = [none, some 2] := by kernel_rfl
@[go_sem] theorem bl229 : bldOf Tryz.prog 229 = some ([(0, 1), (1, 1)], [.string ⟨#[]⟩, .int .i64 0]) := by kernel_rfl
@[go_sem] theorem fl229_1 : fldOf Tryz.prog 229 1 = some (1, false, 1) := by kernel_rfl
@[go_sem] theorem zr288 : zeroOf Tryz.prog 288 = some [.string ⟨#[]⟩, .int .i64 0] := by kernel_rfl
@[go_sem] theorem ty288 : tyOf Tryz.prog 288 = some (true, 2) := by kernel_rfl
@[go_sem] theorem sl240 : slOf Tryz.prog 240 = some (288, 2, 24) := by kernel_rfl
@[go_sem] theorem fl288_0 : fldOf Tryz.prog 288 0 = some (0, false, 1) := by kernel_rfl
@[go_sem] theorem ct284 : cellTys Tryz.prog 284 = [some 3] := by kernel_rfl
@[go_sem] theorem ct263 : cellTys Tryz.prog 263 = [some 2] := by kernel_rfl
@[go_sem] theorem bl304 : bldOf Tryz.prog 304 = some ([(0, 1), (1, 1)], [.string ⟨#[]⟩, .string ⟨#[]⟩]) := by kernel_rfl
@[go_sem] theorem sl263 : slOf Tryz.prog 263 = some (304, 2, 32) := by kernel_rfl
@[go_sem] theorem zr304 : zeroOf Tryz.prog 304 = some [.string ⟨#[]⟩, .string ⟨#[]⟩] := by kernel_rfl
@[go_sem] theorem bl321 : bldOf Tryz.prog 321 = some ([(0, 1), (1, 1), (2, 1)], [.string ⟨#[]⟩, .string ⟨#[]⟩, .slice none 0 0]) := by kernel_rfl
@[go_sem] theorem sl284 : slOf Tryz.prog 284 = some (321, 3, 56) := by kernel_rfl
@[go_sem] theorem zr321 : zeroOf Tryz.prog 321 = some [.string ⟨#[]⟩, .string ⟨#[]⟩, .slice none 0 0] := by kernel_rfl
@[go_sem] theorem ct288 : cellTys Tryz.prog 288 = [none, none] := by kernel_rfl
@[go_sem] theorem bl288 : bldOf Tryz.prog 288 = some ([(0, 1), (1, 1)], [.string ⟨#[]⟩, .int .i64 0]) := by kernel_rfl
@[go_sem] theorem fl304_1 : fldOf Tryz.prog 304 1 = some (1, false, 1) := by kernel_rfl
@[go_sem] theorem ty304 : tyOf Tryz.prog 304 = some (true, 2) := by kernel_rfl
@[go_sem] theorem ct304 : cellTys Tryz.prog 304 = [none, none] := by kernel_rfl
@[go_sem] theorem fl304_0 : fldOf Tryz.prog 304 0 = some (0, false, 1) := by kernel_rfl
end Go.Proofs.YteekfnhhlcmcgaaGreatDoor
namespace Go.Ver
open Go.Lib
/-! split at a separator of one byte, and of two different bytes -/
def consH (b : UInt8) : List (List UInt8) → List (List UInt8)
 | [] => [[b]]
 | h :: t => (b :: h) :: t
def dots (c : UInt8) : List UInt8 → List (List UInt8)
 | [] => [[]]
 | b :: l => if b = c then [] :: dots c l else consH b (dots c l)
def csv (c d : UInt8) : List UInt8 → List (List UInt8)
 | [] => [[]]
 | b :: l => if b = c ∧ l.head? = some d then [] :: csv c d l.tail else consH b (csv c d l)
termination_by l => l.length
decreasing_by all_goals simp; try omega
theorem consH_ne (b : UInt8) (l : List (List UInt8)) : consH b l ≠ [] := by cases l <;> simp [consH]
theorem dots_ne (c : UInt8) (l : List UInt8) : dots c l ≠ [] := by
 cases l with
 | nil => simp [dots]
 | cons b l =>
  unfold dots; split; · simp
  exact consH_ne _ _
theorem csv_ne (c d : UInt8) (l : List UInt8) : csv c d l ≠ [] := by
 cases l with
 | nil => simp [csv]
 | cons b l =>
  unfold csv; split; · simp
  exact consH_ne _ _
theorem split_miss {s sep : List UInt8} (h : index s sep = -1) : split s sep = [s] := by
 unfold split; rw [count_miss h]; rfl
theorem split_hit {s sep : List UInt8} {i : Nat} (hs : sep ≠ []) (h : index s sep = i) : split s sep = s.take i :: split (s.drop (i + sep.length)) sep := by
 unfold split
 rw [count_hit hs h, Nat.add_comm 1]
 conv => lhs; unfold splitK
 rw [h, if_neg (by simp)]
 simp
theorem split_at {b : UInt8} {l sep : List UInt8} (hs : sep ≠ []) (h : sep.isPrefixOf (b :: l) = true) : split (b :: l) sep = [] :: split ((b :: l).drop sep.length) sep := by
 have e : index (b :: l) sep = (0 : Nat) := by unfold index; rw [if_pos h]; rfl
 rw [split_hit hs e]; simp
theorem split_step {b : UInt8} {l sep : List UInt8} (hs : sep ≠ []) (h : sep.isPrefixOf (b :: l) = false) : split (b :: l) sep = consH b (split l sep) := by
 have e : index (b :: l) sep = if index l sep == -1 then -1 else index l sep + 1 := by
  conv => lhs; unfold index
  simp [h]
 by_cases h1 : index l sep = -1
 ·rw [split_miss h1, split_miss (by rw [e, h1]; rfl)]; rfl
 ·have hge := index_ge l sep
  obtain ⟨i, hi⟩ : ∃ i : Nat, index l sep = i := ⟨(index l sep).toNat, by omega⟩
  have e2 : index (b :: l) sep = ((i + 1 : Nat) : Int) := by rw [e, hi, if_neg (by simp)]; rfl
  rw [split_hit hs e2, split_hit hs hi]
  have : (i + 1 + sep.length) = (i + sep.length) + 1 := by omega
  rw [this]; rfl
theorem split_nil {sep : List UInt8} (hs : sep ≠ []) : split [] sep = [[]] := by
 apply split_miss
 unfold index
 cases sep with
 | nil => exact absurd rfl hs
 | cons => rfl
theorem split_dots (c : UInt8) : ∀ s, split s [c] = dots c s
 | [] => by rw [split_nil (by simp)]; rfl
 | b :: l => by
  unfold dots
  by_cases h : b = c
  ·rw [if_pos h, split_at (by simp) (by simp [h]), ← split_dots c l]; rfl
  ·rw [if_neg h, split_step (by simp) (by rw [Bool.eq_false_iff]; intro q; simp at q; exact h q.symm), split_dots c l]
theorem split_csv (c d : UInt8) (s : List UInt8) : split s [c, d] = csv c d s := by
 match s with
 | [] => rw [split_nil (by simp)]; simp [csv]
 | b :: l =>
  unfold csv
  by_cases h : b = c ∧ l.head? = some d
  ·rw [if_pos h, ← split_csv c d l.tail]
   obtain ⟨h1, h2⟩ := h
   cases l with
   | nil => simp at h2
   | cons x r =>
    simp at h2; subst h1 h2
    rw [split_at (by simp) (by simp)]; rfl
  ·rw [if_neg h, ← split_csv c d l]
   refine split_step (by simp) ?_
   rw [Bool.eq_false_iff]
   intro q
   apply h
   cases l with
   | nil => simp at q
   | cons x r => simp at q; simp [q.1, q.2]
termination_by s.length
decreasing_by all_goals simp <;> omega
/-! a part holds no separator; join and split undo each other -/
theorem dots_one {c : UInt8} : ∀ {p : List UInt8}, c ∉ p → dots c p = [p]
 | [], _ => rfl
 | b :: l, h => by
  simp at h
  unfold dots
  rw [if_neg (fun e => h.1 e.symm), dots_one h.2]; rfl
theorem dots_app {c : UInt8} : ∀ {p : List UInt8} (s : List UInt8), c ∉ p → dots c (p ++ c :: s) = p :: dots c s
 | [], s, _ => by simp [dots]
 | b :: l, s, h => by
  simp at h
  have : (b :: l) ++ c :: s = b :: (l ++ c :: s) := rfl
  rw [this, dots, if_neg (fun e => h.1 e.symm), dots_app s h.2]; rfl
theorem dots_join {c : UInt8} : ∀ (ps : List (List UInt8)), ps ≠ [] → (∀ p ∈ ps, c ∉ p) → dots c (join ps [c]) = ps
 | [], h, _ => absurd rfl h
 | [p], _, h => by rw [join_one, dots_one (h p (by simp))]
 | p :: q :: r, _, h => by
  have ih := dots_join (q :: r) (by simp) (fun x hx => h x (by simp [hx]))
  rw [join_cons] at ih ⊢
  have e : p ++ joinTail [c] (q :: r) = p ++ c :: (q ++ joinTail [c] r) := by simp [joinTail]
  rw [e, dots_app _ (h p (by simp)), ih]
theorem join_dots {c : UInt8} : ∀ (s : List UInt8), join (dots c s) [c] = s
 | [] => by simp [dots, join_one]
 | b :: l => by
  have ih := join_dots (c := c) l
  cases hd : dots c l with
  | nil => exact absurd hd (dots_ne c l)
  | cons x t =>
   rw [hd, join_cons] at ih
   unfold dots
   split
   ·rename_i hb; subst hb
    rw [hd, join_cons]
    simp [joinTail] at ih ⊢; exact ih
   ·rw [hd]
    simp only [consH]
    rw [join_cons, List.cons_append, ih]
end Go.Ver
namespace Go.Wh
/-! digits, the least first -/
def val (B : Int) : List Int → Int
 | [] => 0
 | d :: l => d + B * val B l
/-! without zeros at the top -/
/-! comparing -/
/-! adding -/
/-! taking away -/
/-! the size of a list against its value -/
/-! multiplying, digit by digit, the carry at once -/
/-! multiplying, the carry behind -/
/-! dividing, from the top -/
end Go.Wh
namespace Go.Wh
open Go.Lib
/-! decimal numerals -/
def dgt (c : UInt8) : Nat := c.toNat - 48
def isD (c : UInt8) : Bool := decide (48 ≤ c.toNat) && decide (c.toNat ≤ 57)
def decVal (s : List UInt8) : Nat := s.foldl (fun n c => n * 10 + dgt c) 0
theorem fold_shift : ∀ (s : List UInt8) (a : Nat), s.foldl (fun n c => n * 10 + dgt c) a = a * 10 ^ s.length + decVal s
 | [], a => by simp [decVal]
 | c :: s, a => by
  have h1 := fold_shift s (a * 10 + dgt c)
  have h2 := fold_shift s (0 * 10 + dgt c)
  simp only [decVal, List.foldl_cons, List.length_cons] at h1 h2 ⊢
  rw [h1, h2, Nat.pow_succ]
  grind
theorem decVal_app (a b : List UInt8) : decVal (a ++ b) = decVal a * 10 ^ b.length + decVal b := by
 unfold decVal
 rw [List.foldl_append]
 exact fold_shift b _
theorem decVal_snoc (a : List UInt8) (c : UInt8) : decVal (a ++ [c]) = decVal a * 10 + dgt c := by
 rw [decVal_app]; simp [decVal]
theorem ofNat_dgt {k : Nat} (h : k < 10) : dgt (UInt8.ofNat (48 + k)) = k := by
 have : (UInt8.ofNat (48 + k)).toNat = 48 + k := by simp [UInt8.toNat_ofNat']; omega
 unfold dgt; omega
theorem dgt_back {c : UInt8} (h : isD c = true) : UInt8.ofNat (48 + dgt c) = c := by
 simp [isD] at h
 apply UInt8.toNat_inj.1
 have : (UInt8.ofNat (48 + dgt c)).toNat = 48 + dgt c := by simp [UInt8.toNat_ofNat', dgt]; omega
 rw [this]; unfold dgt; omega
theorem dgt_lt {c : UInt8} (h : isD c = true) : dgt c < 10 := by simp [isD] at h; unfold dgt; omega
theorem isD_ofNat {k : Nat} (h : k < 10) : isD (UInt8.ofNat (48 + k)) = true := by
 have : (UInt8.ofNat (48 + k)).toNat = 48 + k := by simp [UInt8.toNat_ofNat']; omega
 simp [isD, this]; omega
theorem snoc_ind {α : Type} {p : List α → Prop} (h0 : p []) (hs : ∀ t c, p t → p (t ++ [c])) (s : List α) : p s := by
 have : ∀ (r : List α), p r.reverse := by
  intro r
  induction r with
  | nil => exact h0
  | cons c t ih => rw [List.reverse_cons]; exact hs _ _ ih
 have h := this s.reverse
 rwa [List.reverse_reverse] at h
theorem head_app {α : Type} {a b : List α} (h : a ≠ []) : (a ++ b).head? = a.head? := by
 cases a with
 | nil => exact absurd rfl h
 | cons c r => rfl
theorem decVal_lt : ∀ {s : List UInt8}, (∀ c ∈ s, isD c = true) → decVal s < 10 ^ s.length := by
 intro s
 induction s using snoc_ind with
 | h0 => simp [decVal]
 | hs t c ih =>
  intro h
  have h1 := ih (fun x hx => h x (by simp [hx]))
  have h2 := dgt_lt (h c (by simp))
  rw [decVal_snoc, List.length_append, List.length_singleton, Nat.pow_succ]
  omega
theorem dec_dec : ∀ u, decVal (decDigits u) = u := by
 intro u
 induction u using Nat.strongRecOn with
 | _ u ih =>
  rw [decDigits]
  split
  ·rename_i h; simp only [decVal, List.foldl_cons, List.foldl_nil]; rw [ofNat_dgt h]; omega
  ·rename_i h
   rw [decVal_snoc, ih _ (by omega), ofNat_dgt (by omega)]
   omega
theorem decDigits_isD : ∀ u, ∀ c ∈ decDigits u, isD c = true := by
 intro u
 induction u using Nat.strongRecOn with
 | _ u ih =>
  rw [decDigits]
  split
  ·rename_i h; intro c hc; rw [List.mem_singleton] at hc; subst hc; exact isD_ofNat h
  ·rename_i h
   intro c hc
   rw [List.mem_append, List.mem_singleton] at hc
   rcases hc with hc | rfl
   ·exact ih _ (by omega) c hc
   ·exact isD_ofNat (by omega)
theorem decDigits_ne (u : Nat) : decDigits u ≠ [] := by rw [decDigits]; split <;> simp
theorem decDigits_head : ∀ u, u ≠ 0 → (decDigits u).head? ≠ some 48 := by
 intro u
 induction u using Nat.strongRecOn with
 | _ u ih =>
  intro h0
  rw [decDigits]
  split
  ·rename_i h
   simp only [List.head?_cons, ne_eq, Option.some.injEq]
   intro e
   have := congrArg dgt e
   rw [ofNat_dgt h] at this
   have : dgt 48 = 0 := by decide
   omega
  ·rename_i h
   rw [head_app (decDigits_ne _)]
   exact ih _ (by omega) (by omega)
theorem decVal_pos : ∀ {s : List UInt8}, s ≠ [] → s.head? ≠ some 48 → (∀ c ∈ s, isD c = true) → 0 < decVal s
 | [], h, _, _ => absurd rfl h
 | c :: s, _, h, hd => by
  have e : decVal (c :: s) = dgt c * 10 ^ s.length + decVal s := by
   have := fold_shift s (0 * 10 + dgt c)
   simpa [decVal] using this
  rw [e]
  have h1 := hd c (by simp)
  have : dgt c ≠ 0 := fun h0 => h (by
   have := dgt_back h1
   rw [h0] at this
   simp [← this])
  have hp : 0 < 10 ^ s.length := Nat.pos_of_ne_zero (by simp)
  have := Nat.mul_pos (Nat.pos_of_ne_zero this) hp
  omega
theorem dec_back : ∀ {s : List UInt8}, s ≠ [] → (s.head? ≠ some 48 ∨ s = [48]) → (∀ c ∈ s, isD c = true) → decDigits (decVal s) = s := by
 intro s
 induction s using snoc_ind with
 | h0 => intro h; exact absurd rfl h
 | hs t c ih =>
  intro _ hh hd
  have hc := hd c (by simp)
  by_cases ht : t = []
  ·subst ht
   simp only [List.nil_append]
   have e : decVal [c] = dgt c := by simp [decVal]
   rw [e, decDigits, dif_pos (dgt_lt hc), dgt_back hc]
  ·have h48 : t.head? ≠ some 48 := by
    rcases hh with h | h
    ·rwa [head_app ht] at h
    ·exfalso
     have q1 := congrArg List.length h
     have q2 := List.length_pos_iff.2 ht
     rw [List.length_append] at q1
     simp only [List.length_singleton] at q1
     omega
   have hdt : ∀ x ∈ t, isD x = true := fun x hx => hd x (by simp [hx])
   have hpos := decVal_pos ht h48 hdt
   have hlt := dgt_lt hc
   rw [decVal_snoc, decDigits, dif_neg (by omega)]
   rw [show (decVal t * 10 + dgt c) / 10 = decVal t by omega, show (decVal t * 10 + dgt c) % 10 = dgt c by omega, dgt_back hc, ih ht (.inl h48) hdt]
/-! digits with zeros ahead -/
/-! numbers as strings -/
def body (a : List UInt8) : List UInt8 := if a.head? = some 45 then a.tail else a
end Go.Wh
namespace Go.Ver
open Go.Lib Go.Wh
/-! segments -/
abbrev Seg := List UInt8 × Int
abbrev z0s : Seg := ([], 0)
def isL (c : UInt8) : Bool := decide (97 ≤ c.toNat) && decide (c.toNat ≤ 122)
def segV (s : List UInt8) : Option Seg :=
 if s = [] ∨ 10 < s.length then none
 else if s.all isL then some (s, 0)
 else if s.all isD && (decide (s.head? ≠ some 48) || decide (s = [48])) && decide (decVal s ≤ 1000000000) then some ([], (decVal s : Int))
 else none
def segT (x : Seg) : List UInt8 := if x.1 ≠ [] then x.1 else itoa x.2
def SegOk (x : Seg) : Prop := (x.1 ≠ [] ∧ x.1.length ≤ 10 ∧ x.1.all isL = true ∧ x.2 = 0) ∨ (x.1 = [] ∧ 0 ≤ x.2 ∧ x.2 ≤ 1000000000)
theorem isL_D {c : UInt8} (h : isD c = true) : isL c = false := by
 simp [isD] at h; simp [isL]; omega
theorem segV_ok {s : List UInt8} {x : Seg} (h : segV s = some x) : SegOk x ∧ segT x = s := by
 unfold segV at h
 split at h
 ·simp at h
 ·rename_i h0
  split at h
  ·rename_i h1
   simp at h; subst h
   exact ⟨.inl ⟨fun e => h0 (.inl e), by simp only; omega, h1, rfl⟩, by simp [segT]; exact fun e => absurd e (fun e => h0 (.inl e))⟩
  ·split at h
   ·rename_i h2
    simp only [Bool.and_eq_true, Bool.or_eq_true, decide_eq_true_eq] at h2
    simp at h; subst h
    refine ⟨.inr ⟨rfl, by omega, by simp only; omega⟩, ?_⟩
    simp only [segT, ne_eq, not_true_eq_false, if_false]
    unfold itoa
    rw [if_neg (by omega), Int.toNat_natCast]
    exact dec_back (fun e => h0 (.inl e)) h2.1.2 (by simpa using h2.1.1)
   ·simp at h
theorem dec_lenK : ∀ (k n : Nat), n < 10 ^ (k + 1) → (decDigits n).length ≤ k + 1
 | 0, n, h => by
  rw [decDigits, dif_pos (by simpa using h)]; simp
 | k + 1, n, h => by
  rw [decDigits]
  split
  ·simp
  ·have := dec_lenK k (n / 10) (by rw [Nat.pow_succ] at h; omega)
   simp; omega
theorem dec_len {n : Nat} (h : n < 10000000000) : (decDigits n).length ≤ 10 := dec_lenK 9 n (by simpa using h)
theorem segV_segT {x : Seg} (h : SegOk x) : segV (segT x) = some x := by
 obtain ⟨w, n⟩ := x
 rcases h with ⟨h1, h2, h3, h4⟩ | ⟨h1, h2, h3⟩
 ·simp only at h1 h2 h3 h4
  subst h4
  simp only [segT, ne_eq, h1, not_false_eq_true, if_true]
  unfold segV
  rw [if_neg (by simp [h1]; exact h2), if_pos h3]
 ·simp only at h1 h2 h3
  subst h1
  obtain ⟨k, rfl⟩ : ∃ k : Nat, n = k := ⟨n.toNat, by omega⟩
  simp only [segT, ne_eq, not_true_eq_false, if_false]
  have e : itoa (k : Int) = decDigits k := by unfold itoa; rw [if_neg (by omega), Int.toNat_natCast]
  rw [e]
  have hne := decDigits_ne k
  have hD := decDigits_isD k
  unfold segV
  have hl := dec_len (n := k) (by omega)
  rw [if_neg (by simp [hne]; exact hl)]
  have hL : (decDigits k).all isL = false := by
   cases hd : decDigits k with
   | nil => exact absurd hd hne
   | cons c r => simp [isL_D (hD c (by rw [hd]; simp))]
  rw [if_neg (by simp [hL]), if_pos]
  ·rw [dec_dec]
  ·simp only [Bool.and_eq_true, Bool.or_eq_true, decide_eq_true_eq]
   refine ⟨⟨by simpa using hD, ?_⟩, by rw [dec_dec]; omega⟩
   by_cases h0 : k = 0
   ·subst h0; right; rw [decDigits]; rfl
   ·exact .inl (decDigits_head k h0)
/-! versions -/
def segsV : List (List UInt8) → Option (List Seg)
 | [] => some []
 | p :: r => match segV p, segsV r with
  | some x, some l => some (x :: l)
  | _, _ => none
def readV (v : List UInt8) : Option (List Seg) :=
 if 60 < v.length then none else match segsV (dots 46 v) with
  | some l => if l.length ≤ 8 ∧ l.head?.map (·.1) = some [] then some l else none
  | none => none
def textV (l : List Seg) : List UInt8 := join (l.map segT) [46]
def VOk (l : List Seg) : Prop := l.length ≤ 8 ∧ l.head?.map (·.1) = some [] ∧ ∀ x ∈ l, SegOk x
theorem VOk.ne {l : List Seg} (h : VOk l) : l ≠ [] := by intro e; subst e; simp [VOk] at h
theorem segsV_ok : ∀ {ps : List (List UInt8)} {l : List Seg}, segsV ps = some l → l.map segT = ps ∧ ∀ x ∈ l, SegOk x
 | [], l, h => by simp [segsV] at h; subst h; simp
 | p :: r, l, h => by
  unfold segsV at h
  split at h
  ·rename_i x m hx hm
   simp at h; subst h
   obtain ⟨h1, h2⟩ := segsV_ok hm
   obtain ⟨h3, h4⟩ := segV_ok hx
   refine ⟨by simp [h1, h4], fun y hy => ?_⟩
   rcases List.mem_cons.1 hy with rfl | hy
   ·exact h3
   ·exact h2 y hy
  ·simp at h
theorem segsV_map : ∀ {l : List Seg}, (∀ x ∈ l, SegOk x) → segsV (l.map segT) = some l
 | [], _ => rfl
 | x :: l, h => by
  simp only [List.map_cons, segsV]
  rw [segV_segT (h x (by simp)), segsV_map (fun y hy => h y (by simp [hy]))]
theorem readV_ok {v : List UInt8} {l : List Seg} (h : readV v = some l) : VOk l ∧ textV l = v ∧ v.length ≤ 60 := by
 unfold readV at h
 split at h
 ·simp at h
 ·split at h
  ·rename_i hl m hm
   split at h
   ·rename_i h1
    simp at h; subst h
    obtain ⟨h2, h3⟩ := segsV_ok hm
    refine ⟨⟨h1.1, h1.2, h3⟩, ?_, by omega⟩
    unfold textV
    rw [h2, join_dots]
   ·simp at h
  ·simp at h
theorem segT_no {x : Seg} (h : SegOk x) : 46 ∉ segT x := by
 rcases h with ⟨h1, h2, h3, h4⟩ | ⟨h1, h2, h3⟩
 ·simp only [segT, ne_eq, h1, not_false_eq_true, if_true]
  intro hm
  have := List.all_eq_true.1 h3 46 hm
  revert this; decide
 ·simp only [segT, h1, ne_eq, not_true_eq_false, if_false]
  unfold itoa
  rw [if_neg (by omega)]
  intro hm
  have := decDigits_isD _ 46 hm
  revert this; decide
theorem dots_text {l : List Seg} (hne : l ≠ []) (h : ∀ x ∈ l, SegOk x) : dots 46 (textV l) = l.map segT := by
 unfold textV
 exact dots_join _ (by simpa using hne) (by intro p hp; obtain ⟨x, hx, rfl⟩ := List.mem_map.1 hp; exact segT_no (h x hx))
theorem readV_text {l : List Seg} (h : VOk l) (hl : (textV l).length ≤ 60) : readV (textV l) = some l := by
 unfold readV
 rw [if_neg (by omega), dots_text h.ne h.2.2, segsV_map h.2.2]
 simp only
 rw [if_pos ⟨h.1, h.2.1⟩]
/-! the order -/
def seg2 (x y : Seg) : Int :=
 if x.1 ≠ [] ∧ y.1 = [] then -1 else if x.1 = [] ∧ y.1 ≠ [] then 1
 else if compareBytes x.1 y.1 ≠ 0 then compareBytes x.1 y.1 else compareInt x.2 y.2
def cmpN : Nat → List Seg → List Seg → Int
 | 0, _, _ => 0
 | n + 1, a, b => if seg2 (a.headD z0s) (b.headD z0s) ≠ 0 then seg2 (a.headD z0s) (b.headD z0s) else cmpN n a.tail b.tail
def cmpV (a b : List Seg) : Int := cmpN (max a.length b.length) a b
theorem cb_neg : ∀ (a b : List UInt8), compareBytes a b = -compareBytes b a
 | [], [] => rfl
 | [], _ :: _ => rfl
 | _ :: _, [] => rfl
 | x :: a, y :: b => by
  unfold compareBytes
  by_cases h1 : x < y
  ·have h2 : ¬ y < x := by rw [UInt8.lt_iff_toNat_lt] at *; omega
   rw [if_pos h1, if_neg h2, if_pos h1]
  ·by_cases h2 : y < x
   ·rw [if_neg h1, if_pos h2, if_pos h2]; rfl
   ·rw [if_neg h1, if_neg h2, if_neg h2, if_neg h1, cb_neg a b]
theorem cb_val : ∀ (a b : List UInt8), compareBytes a b = -1 ∨ compareBytes a b = 0 ∨ compareBytes a b = 1
 | [], [] => .inr (.inl rfl)
 | [], _ :: _ => .inl rfl
 | _ :: _, [] => .inr (.inr rfl)
 | x :: a, y :: b => by
  unfold compareBytes
  split
  ·simp
  ·split
   ·simp
   ·exact cb_val a b
def atV (a : List Seg) (i : Nat) : Seg := a[i]?.getD z0s
/-! canon -/
theorem VOk.take {l : List Seg} (h : VOk l) {k : Nat} (hk : 1 ≤ k) : VOk (l.take k) := by
 refine ⟨by have := h.1; simp; omega, ?_, fun x hx => h.2.2 x (List.mem_of_mem_take hx)⟩
 have h2 := h.2.1
 cases l with
 | nil => simp at h2
 | cons x r =>
  obtain ⟨j, rfl⟩ : ∃ j, k = j + 1 := ⟨k - 1, by omega⟩
  simpa using h2
theorem last_at {l : List Seg} (h : l ≠ []) : l.getLast? = some (atV l (l.length - 1)) := by
 have hl : l.length ≠ 0 := by simpa using h
 unfold atV
 rw [List.getLast?_eq_getElem?, List.getElem?_eq_getElem (by omega)]; rfl
theorem at_past {a : List Seg} {i : Nat} (h : a.length ≤ i) : atV a i = z0s := by unfold atV; rw [List.getElem?_eq_none h]; rfl
/-! words -/
def preV (l : List Seg) : Bool := l.any fun s => decide (s.1 ≠ [])
def wordsV (l : List Seg) : Nat := l.findIdx fun s => decide (s.1 ≠ [])
theorem wordsV_lt (l : List Seg) : decide (wordsV l < l.length) = preV l := by
 unfold wordsV preV
 rw [Bool.eq_iff_iff]
 simp [List.findIdx_lt_length]
/-! lengths -/
/-! bump -/
def bumpN (l : List Seg) : Nat := if 1 < wordsV l then wordsV l - 1 else wordsV l
def bumpV (l : List Seg) : List Seg := (l.take (bumpN l)).set (bumpN l - 1) ([], (atV l (bumpN l - 1)).2 + 1)
theorem wordsV_le (l : List Seg) : wordsV l ≤ l.length := List.findIdx_le_length
theorem wordsV_pos {l : List Seg} (h : VOk l) : 1 ≤ wordsV l := by
 have h2 := h.2.1
 cases l with
 | nil => simp at h2
 | cons x r => simp at h2; unfold wordsV; rw [List.findIdx_cons]; simp [h2]
theorem words_before {l : List Seg} {i : Nat} (h : i < wordsV l) : (atV l i).1 = [] := by
 have hl := wordsV_le l
 have := List.not_of_lt_findIdx h
 unfold atV; rw [List.getElem?_eq_getElem (by omega)]
 simpa using this
theorem bumpN_pos {l : List Seg} (h : VOk l) : 1 ≤ bumpN l := by have := wordsV_pos h; unfold bumpN; split <;> omega
theorem bumpN_le (l : List Seg) : bumpN l ≤ wordsV l := by unfold bumpN; split <;> omega
theorem bumpV_len {l : List Seg} : (bumpV l).length = bumpN l := by
 have := bumpN_le l; have := wordsV_le l
 unfold bumpV; simp; omega
theorem bumpV_at {l : List Seg} (h : VOk l) (i : Nat) : atV (bumpV l) i = if i + 1 < bumpN l then atV l i else if i + 1 = bumpN l then ([], (atV l i).2 + 1) else z0s := by
 have h1 := bumpN_pos h; have h2 := bumpN_le l; have h3 := wordsV_le l
 unfold bumpV
 unfold atV
 rw [List.getElem?_set]
 by_cases e : i + 1 = bumpN l
 ·have : bumpN l - 1 = i := by omega
  rw [this]
  rw [if_pos rfl, if_pos (by simp; omega), if_neg (by omega), if_pos e]; rfl
 ·rw [if_neg (by omega), List.getElem?_take]
  by_cases e2 : i + 1 < bumpN l
  ·rw [if_pos (by omega), if_pos e2]
  ·rw [if_neg (by omega), if_neg e2, if_neg e]; rfl
theorem bumpV_mem {l : List Seg} (h : VOk l) {x : Seg} (hx : x ∈ bumpV l) : x.1 = [] ∧ ∃ y ∈ l, x.2 = y.2 ∨ x.2 = y.2 + 1 := by
 obtain ⟨i, hi, rfl⟩ := List.getElem_of_mem hx
 have h1 := bumpN_pos h; have h2 := bumpN_le l; have h3 := wordsV_le l
 rw [bumpV_len] at hi
 have e : (bumpV l)[i]'(by rw [bumpV_len]; exact hi) = atV (bumpV l) i := by unfold atV; rw [List.getElem?_eq_getElem (by rw [bumpV_len]; exact hi)]; rfl
 have hm : atV l i ∈ l := by unfold atV; rw [List.getElem?_eq_getElem (by omega)]; exact List.getElem_mem _
 rw [e, bumpV_at h]
 have hw := words_before (l := l) (i := i) (by omega)
 split
 ·exact ⟨hw, _, hm, .inl rfl⟩
 ·rw [if_pos (by omega)]; exact ⟨rfl, _, hm, .inr rfl⟩
/-! requirements: conditions with ', ' between; each an operator, a blank and a version -/
abbrev Cnd := List UInt8 × List Seg
def opsV : List (List UInt8) := [[61], [33, 61], [62], [60], [62, 61], [60, 61], [126, 62]]
def cutS : List UInt8 → Option (List UInt8 × List UInt8)
 | [] => none
 | b :: l => if b = 32 then some ([], l) else (cutS l).map fun p => (b :: p.1, p.2)
def cndV (p : List UInt8) : Option Cnd := match cutS p with
 | some (o, v) => if o ∈ opsV then (readV v).map fun l => (o, l) else none
 | none => none
def cndsV : List (List UInt8) → Option (List Cnd)
 | [] => some []
 | p :: r => match cndV p, cndsV r with
  | some c, some l => some (c :: l)
  | _, _ => none
def condsV (r : List UInt8) : Option (List Cnd) :=
 if r = [] then some [] else match cndsV (csv 44 32 r) with
  | some l => if l.length ≤ 20 then some l else none
  | none => none
def textC (c : Cnd) : List UInt8 := c.1 ++ 32 :: textV c.2
def textR (l : List Cnd) : List UInt8 := join (l.map textC) [44, 32]
def COk (c : Cnd) : Prop := c.1 ∈ opsV ∧ VOk c.2 ∧ (textV c.2).length ≤ 60
theorem cutS_some : ∀ {p o v : List UInt8}, cutS p = some (o, v) → p = o ++ 32 :: v ∧ 32 ∉ o
 | [], _, _, h => by simp [cutS] at h
 | b :: l, o, v, h => by
  unfold cutS at h
  split at h
  ·rename_i hb; simp at h; obtain ⟨rfl, rfl⟩ := h; subst hb; simp
  ·rename_i hb
   cases hc : cutS l with
   | none => rw [hc] at h; simp at h
   | some q =>
    obtain ⟨x, y⟩ := q
    rw [hc] at h; simp at h
    obtain ⟨rfl, rfl⟩ := h
    obtain ⟨e, h2⟩ := cutS_some hc
    subst e
    exact ⟨rfl, by simp; exact ⟨fun q => hb q.symm, h2⟩⟩
theorem cndV_ok {p : List UInt8} {c : Cnd} (h : cndV p = some c) : COk c ∧ textC c = p := by
 unfold cndV at h
 split at h
 ·rename_i o v hc
  split at h
  ·rename_i ho
   cases hr : readV v with
   | none => rw [hr] at h; simp at h
   | some l =>
    rw [hr] at h; simp at h; subst h
    obtain ⟨h1, h2, h3⟩ := readV_ok hr
    refine ⟨⟨ho, h1, by simp only; rw [h2]; exact h3⟩, ?_⟩
    simp only [textC, h2]
    exact (cutS_some hc).1.symm
  ·simp at h
 ·simp at h
theorem join_csv {c d : UInt8} (s : List UInt8) : join (csv c d s) [c, d] = s := by
 match s with
 | [] => simp [csv, join_one]
 | b :: l =>
  unfold csv
  split
  ·rename_i h
   have ih := join_csv (c := c) (d := d) l.tail
   cases l with
   | nil => simp at h
   | cons x r =>
    simp at h ih
    obtain ⟨rfl, rfl⟩ := h
    cases hd : csv b x r with
    | nil => exact absurd hd (csv_ne b x r)
    | cons y t =>
     rw [hd, join_cons] at ih
     rw [List.tail_cons, hd, join_cons]
     simp [joinTail] at ih ⊢; exact ih
  ·have ih := join_csv (c := c) (d := d) l
   cases hd : csv c d l with
   | nil => exact absurd hd (csv_ne c d l)
   | cons y t =>
    rw [hd, join_cons] at ih
    simp only [consH]
    rw [join_cons, List.cons_append, ih]
termination_by s.length
decreasing_by all_goals simp <;> omega
theorem cndsV_ok : ∀ {ps : List (List UInt8)} {l : List Cnd}, cndsV ps = some l → l.map textC = ps ∧ ∀ c ∈ l, COk c
 | [], l, h => by simp [cndsV] at h; subst h; simp
 | p :: r, l, h => by
  unfold cndsV at h
  split at h
  ·rename_i x m hx hm
   simp at h; subst h
   obtain ⟨h1, h2⟩ := cndsV_ok hm
   obtain ⟨h3, h4⟩ := cndV_ok hx
   refine ⟨by simp [h1, h4], fun y hy => ?_⟩
   rcases List.mem_cons.1 hy with rfl | hy
   ·exact h3
   ·exact h2 y hy
  ·simp at h
theorem condsV_ok {r : List UInt8} {l : List Cnd} (h : condsV r = some l) : textR l = r ∧ (∀ c ∈ l, COk c) ∧ l.length ≤ 20 := by
 unfold condsV at h
 split at h
 ·rename_i e; simp at h; subst h; subst e; simp [textR, join_nil]
 ·split at h
  ·rename_i m hm
   split at h
   ·rename_i hl
    simp at h; subst h
    obtain ⟨h1, h2⟩ := cndsV_ok hm
    refine ⟨?_, h2, hl⟩
    unfold textR; rw [h1, join_csv]
   ·simp at h
  ·simp at h
/-! what meets -/
def metV (l : List Seg) (c : Cnd) : Bool :=
 if c.1 = [61] then decide (cmpV l c.2 = 0) else if c.1 = [33, 61] then decide (cmpV l c.2 ≠ 0) else if c.1 = [62] then decide (0 < cmpV l c.2)
 else if c.1 = [60] then decide (cmpV l c.2 < 0) else if c.1 = [62, 61] then decide (0 ≤ cmpV l c.2) else if c.1 = [60, 61] then decide (cmpV l c.2 ≤ 0)
 else decide (0 ≤ cmpV l c.2) && decide (cmpV l (bumpV c.2) < 0)
def meetsV (l : List Seg) (cs : List Cnd) : Bool := cs.all (metV l) && (!preV l || cs.any fun c => preV c.2)
/-! versions of numbers -/
def MSeg (x : Seg) : Prop := SegOk x ∧ 0 ≤ x.2 ∧ x.2 ≤ 10 ∧ x.1.length ≤ 1
def MHead (l : List Seg) : Prop := ∃ n : Int, l.head? = some ([], n) ∧ 0 ≤ n ∧ n ≤ 3
def MOk (l : List Seg) : Prop := VOk l ∧ (textV l).length ≤ 16 ∧ (∀ x ∈ l, MSeg x) ∧ MHead l
theorem MOk.read {l : List Seg} (h : MOk l) : readV (textV l) = some l := readV_text h.1 (by have := h.2.1; omega)
theorem MHead.at {l : List Seg} (h : MHead l) : ∃ n : Int, atV l 0 = ([], n) ∧ 0 ≤ n ∧ n ≤ 3 := by
 obtain ⟨n, e, q⟩ := h
 refine ⟨n, ?_, q⟩
 cases l with
 | nil => simp at e
 | cons y r => simp at e; subst e; rfl
/-! Tidy -/
end Go.Ver
namespace Go.Ver
/-! stable sorting: lt x y: x stands before y -/
variable {α : Type} {lt : α → α → Bool}
structure Weakly (lt : α → α → Bool) : Prop where
 anti : ∀ x y, lt x y = true → lt y x = false
 neg : ∀ x y z, lt y x = false → lt z y = false → lt z x = false
end Go.Ver
set_option linter.unusedSectionVars false
namespace Go.Eng
variable {P : Program} [HasGlob P]
/-! regions whose order is drawn -/
section
variable {ops : Array Oper} {Q : Exit → Act → World → Prop} {W : World → Prop}
def clear (G : List Nat) (L : Array Bool) : Bool := G.all fun g => !(L.getD g false)
def wpAnyT (P : Program) (ops : Array Oper) (Q : Exit → Act → World → Prop) (T : Array Bool → World → Prop) : Nat → Array Bool → Act → World → Prop
 | 0, L, a, w => Region.ready .any ops L = [] ∧ Q .normal a w
 | fuel + 1, L, a, w =>
  (Region.ready .any ops L = [] → Q .normal a w) ∧
  ∀ i ∈ Region.ready .any ops L, wpOp P ops Q i (fun a' w' => T (L.setIfInBounds i true) w' ∧ wpAnyT P ops Q T fuel (L.setIfInBounds i true) a' w') a w
theorem wpAny_of_T {T : Array Bool → World → Prop} : ∀ (fuel : Nat) (L : Array Bool) (a : Act) (w : World), wpAnyT P ops Q T fuel L a w → wpAny P .any ops Q fuel L a w
 | 0, _, _, _, h => h
 | fuel + 1, _, _, _, h => ⟨h.1, fun i hi => wpOp_mono (fun a' w' h' => wpAny_of_T fuel _ a' w' h'.2) (h.2 i hi)⟩
theorem wpAnyT_mono {T T' : Array Bool → World → Prop} {i : Nat} (hT : ∀ L w, L.getD i false = true → T' L w → T L w) : ∀ (fuel : Nat) (L : Array Bool) (a : Act) (w : World), L.getD i false = true → wpAnyT P ops Q T' fuel L a w → wpAnyT P ops Q T fuel L a w
 | 0, _, _, _, _, h => h
 | fuel + 1, L, _, _, hi, h => ⟨h.1, fun j hj => wpOp_mono (fun a' w' h' => ⟨hT _ _ (getD_set_true hi) h'.1, wpAnyT_mono hT fuel _ a' w' (getD_set_true hi) h'.2⟩) (h.2 j hj)⟩
theorem wpAnyT_mono' {T T' : Array Bool → World → Prop} (hT : ∀ L w, T' L w → T L w) : ∀ (fuel : Nat) (L : Array Bool) (a : Act) (w : World), wpAnyT P ops Q T' fuel L a w → wpAnyT P ops Q T fuel L a w
 | 0, _, _, _, h => h
 | fuel + 1, L, _, _, h => ⟨h.1, fun j hj => wpOp_mono (fun a' w' h' => ⟨hT _ _ h'.1, wpAnyT_mono' hT fuel _ a' w' h'.2⟩) (h.2 j hj)⟩
def Valid (ops : Array Oper) (L : Array Bool) : Prop := ∀ k o, ops[k]? = some o → L.getD k false = true → ∀ e ∈ o.after, Region.binds .any e = true → L.getD e.on false = true
def reach (ops : Array Oper) (p : Nat) : Nat → Nat → Bool
 | 0, _ => false
 | f + 1, g => match ops[g]? with
  | some o => o.after.any fun e => Region.binds .any e && (e.on == p || reach ops p f e.on)
  | none => false
theorem reach_listed {L : Array Bool} (hv : Valid ops L) {p : Nat} : ∀ f g o, ops[g]? = some o → reach ops p f g = true → (∀ e ∈ o.after, Region.binds .any e = true → L.getD e.on false = true) → L.getD p false = true := by
 intro f
 induction f with
 | zero => intro g o _ h; simp [reach] at h
 | succ f ih =>
  intro g o ho h hall
  simp only [reach, ho] at h
  obtain ⟨e, he, hb⟩ := Array.any_eq_true'.1 h
  simp only [Bool.and_eq_true, Bool.or_eq_true, beq_iff_eq] at hb
  have hl := hall e he hb.1
  rcases hb.2 with hp | hr
  ·rw [← hp]; exact hl
  ·cases ho' : ops[e.on]? with
   | none =>
    cases f with
    | zero => simp [reach] at hr
    | succ f => simp [reach, ho'] at hr
   | some o' => exact ih e.on o' ho' hr (hv e.on o' ho' hl)
theorem Valid.set {L : Array Bool} (hv : Valid ops L) {i : Nat} (hi : i ∈ Region.ready .any ops L) : Valid ops (L.setIfInBounds i true) := by
 intro k o ho hk e he hb
 obtain ⟨_, oi, hoi, hall⟩ := mem_ready.1 hi
 by_cases hki : i = k
 ·subst hki
  rw [ho] at hoi
  simp only [Option.some.injEq] at hoi
  subst hoi
  exact getD_set_true (hall e he hb)
 ·rw [getD_set_ne false hki] at hk
  exact getD_set_true (hv k o ho hk e he hb)
theorem clear_set {G : List Nat} {L : Array Bool} {i : Nat} (hi : i ∉ G) : clear G (L.setIfInBounds i true) = clear G L := by
 unfold clear
 rw [Bool.eq_iff_iff, List.all_eq_true, List.all_eq_true]
 constructor
 ·intro h g hg
  have := h g hg
  rwa [getD_set_ne false (fun e => hi (by rw [e]; exact hg))] at this
 ·intro h g hg
  rw [getD_set_ne false (fun e => hi (by rw [e]; exact hg))]
  exact h g hg
theorem setC {L : Array Bool} {i j : Nat} (h : j ≠ i) : (L.setIfInBounds j true).setIfInBounds i true = (L.setIfInBounds i true).setIfInBounds j true := Array.setIfInBounds_comm _ _ h
theorem wpAnyT_first {i : Nat} {oi : Oper} {v : Value} {T : Array Bool → World → Prop} (hi : ops[i]? = some oi) (hT : ∀ L w, T (L.setIfInBounds i true) w → T L w) (hsel : ∀ (j : Nat) (o : Oper) cs b, ops[j]? = some o → o.op ≠ .select cs b)
  (hQ : ∀ c a w, Q (.panic c) (a.put oi.dst v) w → Q (.panic c) a w) {V : World → Prop} (hV : ∀ L w, Valid ops L → L.getD i false = false → T L w → V w) :
  ∀ (fuel : Nat) (L : Array Bool) (a : Act) (w : World),
   (∀ j oj, ops[j]? = some oj → j ≠ i → L.getD j true = false → (∀ e ∈ oj.after, Region.binds .any e = true → e.on ≠ i) → oi.apart ops oj = true) →
   Valid ops L → i ∈ Region.ready .any ops L → YieldsIf P ops V oi v a → V w →
   wpAnyT P ops Q T fuel (L.setIfInBounds i true) (a.put oi.dst v) w → T (L.setIfInBounds i true) w → wpAnyT P ops Q T (fuel + 1) L a w := by
 intro fuel
 induction fuel with
 | zero =>
  intro L a w _ _ hr hy hS H hW
  refine ⟨fun h => (by rw [h] at hr; cases hr), fun j hj => ?_⟩
  by_cases hji : j = i
  ·subst hji; exact hy.wpOp hi hS ⟨hW, H⟩
  ·have := ready_mono hj hji
   rw [H.1] at this
   cases this
 | succ fuel ih =>
  intro L a w hfree hv hr hy hS H hW
  refine ⟨fun h => (by rw [h] at hr; cases hr), fun j hj => ?_⟩
  by_cases hji : j = i
  ·subst hji; exact hy.wpOp hi hS ⟨hW, H⟩
  ·have h1 := H.2 j (ready_mono hj hji)
   obtain ⟨hjun, oj, hoj, hall⟩ := mem_ready.1 hj
   have hil : L.getD i false = false := by
    have h0 := (mem_ready.1 hr).1
    rcases Nat.lt_or_ge i L.size with h' | h'
    ·simp [h'] at h0 ⊢; exact h0
    ·simp [Array.getElem?_eq_none h']
   have hnot : ∀ e ∈ oj.after, Region.binds .any e = true → e.on ≠ i := fun e he hb heq => by
    have h1 := hall e he hb
    rw [heq, hil] at h1
    cases h1
   have h2 := wpOp_putIf hoj (hfree j oj hoj hji hjun hnot) (fun cs b => hsel i oi cs b hi) (fun cs b => hsel j oj cs b hoj) hQ hy h1
   have hfree' : ∀ k ok, ops[k]? = some ok → k ≠ i → (L.setIfInBounds j true).getD k true = false →
     (∀ e ∈ ok.after, Region.binds .any e = true → e.on ≠ i) → oi.apart ops ok = true := fun k ok hk hki hun hno => by
    refine hfree k ok hk hki ?_ hno
    by_cases hjk : j = k
    ·subst hjk; exact hjun
    ·rw [getD_set_ne true hjk] at hun; exact hun
   refine wpOp_mono (fun a' w' h3 => ?_) h2
   have hW' : T (L.setIfInBounds j true) w' := hT _ _ (by rw [setC hji]; exact h3.2.1)
   have hil' : (L.setIfInBounds j true).getD i false = false := by rw [getD_set_ne false hji]; exact hil
   exact ⟨hW', ih (L.setIfInBounds j true) a' w' hfree' (hv.set hj) (ready_mono hr (Ne.symm hji)) h3.1 (hV _ _ (hv.set hj) hil' hW') (by rw [setC hji]; exact h3.2.2)
    (by rw [setC hji]; exact h3.2.1)⟩
theorem wpAnyT_only {i : Nat} {T : Array Bool → World → Prop} {fuel : Nat} {L : Array Bool} {a : Act} {w : World} (hr : Region.ready .any ops L = [i])
  (h : wpOp P ops Q i (fun a' w' => T (L.setIfInBounds i true) w' ∧ wpAnyT P ops Q T fuel (L.setIfInBounds i true) a' w') a w) : wpAnyT P ops Q T (fuel + 1) L a w :=
 ⟨fun h0 => (by rw [hr] at h0; cases h0), fun j hj => (by rw [hr] at hj; simp at hj; subst hj; exact h)⟩
theorem wpAnyT_two {i j : Nat} {T : Array Bool → World → Prop} {fuel : Nat} {L : Array Bool} {a : Act} {w : World} (hr : Region.ready .any ops L = [i, j])
  (h : wpOp P ops Q i (fun a' w' => T (L.setIfInBounds i true) w' ∧ wpAnyT P ops Q T fuel (L.setIfInBounds i true) a' w') a w)
  (h' : wpOp P ops Q j (fun a' w' => T (L.setIfInBounds j true) w' ∧ wpAnyT P ops Q T fuel (L.setIfInBounds j true) a' w') a w) : wpAnyT P ops Q T (fuel + 1) L a w :=
 ⟨fun h0 => (by rw [hr] at h0; cases h0), fun k hk => (by
  rw [hr] at hk
  simp only [List.mem_cons, List.not_mem_nil, or_false] at hk
  rcases hk with rfl | rfl
  ·exact h
  ·exact h')⟩
theorem wpAnyT_three {i j k : Nat} {T : Array Bool → World → Prop} {fuel : Nat} {L : Array Bool} {a : Act} {w : World} (hr : Region.ready .any ops L = [i, j, k])
  (hi : wpOp P ops Q i (fun a' w' => T (L.setIfInBounds i true) w' ∧ wpAnyT P ops Q T fuel (L.setIfInBounds i true) a' w') a w)
  (hj : wpOp P ops Q j (fun a' w' => T (L.setIfInBounds j true) w' ∧ wpAnyT P ops Q T fuel (L.setIfInBounds j true) a' w') a w)
  (hk : wpOp P ops Q k (fun a' w' => T (L.setIfInBounds k true) w' ∧ wpAnyT P ops Q T fuel (L.setIfInBounds k true) a' w') a w) : wpAnyT P ops Q T (fuel + 1) L a w :=
 ⟨fun h0 => (by rw [hr] at h0; cases h0), fun q hk => (by
  rw [hr] at hk
  simp only [List.mem_cons, List.not_mem_nil, or_false] at hk
  rcases hk with rfl | rfl | rfl
  ·exact hi
  ·exact hj
  ·exact hk)⟩
theorem wpAnyT_four {i j k l : Nat} {T : Array Bool → World → Prop} {fuel : Nat} {L : Array Bool} {a : Act} {w : World} (hr : Region.ready .any ops L = [i, j, k, l])
  (hi : wpOp P ops Q i (fun a' w' => T (L.setIfInBounds i true) w' ∧ wpAnyT P ops Q T fuel (L.setIfInBounds i true) a' w') a w)
  (hj : wpOp P ops Q j (fun a' w' => T (L.setIfInBounds j true) w' ∧ wpAnyT P ops Q T fuel (L.setIfInBounds j true) a' w') a w)
  (hk : wpOp P ops Q k (fun a' w' => T (L.setIfInBounds k true) w' ∧ wpAnyT P ops Q T fuel (L.setIfInBounds k true) a' w') a w)
  (hl : wpOp P ops Q l (fun a' w' => T (L.setIfInBounds l true) w' ∧ wpAnyT P ops Q T fuel (L.setIfInBounds l true) a' w') a w) : wpAnyT P ops Q T (fuel + 1) L a w :=
 ⟨fun h0 => (by rw [hr] at h0; cases h0), fun q hk => (by
  rw [hr] at hk
  simp only [List.mem_cons, List.not_mem_nil, or_false] at hk
  rcases hk with rfl | rfl | rfl | rfl
  ·exact hi
  ·exact hj
  ·exact hk
  ·exact hl)⟩
theorem wpAnyT_done {T : Array Bool → World → Prop} {L : Array Bool} {a : Act} {w : World} (hr : Region.ready .any ops L = []) (h : Q .normal a w) : ∀ fuel, wpAnyT P ops Q T fuel L a w
 | 0 => ⟨hr, h⟩
 | _ + 1 => ⟨fun _ => h, by rw [hr]; simp⟩
end
end Go.Eng
set_option linter.unusedSectionVars false
namespace Go.Eng
variable {P : Program} [HasGlob P]
inductive Ord where
 | nil
 | q (i : Nat) (r : Ord)
 | kp (i : Nat) (r : Ord)
 | one (i : Nat) (r : Ord)
 | two (i : Nat) (r : Ord) (j : Nat) (r' : Ord)
 | three (i : Nat) (r : Ord) (j : Nat) (r1 : Ord) (k : Nat) (r2 : Ord)
 | four (i : Nat) (r : Ord) (j : Nat) (r1 : Ord) (k : Nat) (r2 : Ord) (l : Nat) (r3 : Ord)
 | kp2 (i : Nat) (r : Ord) (j : Nat) (r' : Ord)
 | kp3 (i : Nat) (r : Ord) (j : Nat) (r1 : Ord) (k : Nat) (r2 : Ord)
 | sk (i : Nat) (r : Ord)
 | nb (r : Ord)
 | kq (i : Nat) (r : Ord) (j : Nat) (r' : Ord)
def Ord.qs (l : List Nat) (r : Ord) : Ord := l.foldr .q r
def Ord.depth : Ord → Nat
 | .nil => 0
 | .q _ r | .kp _ r | .one _ r | .sk _ r => r.depth + 1
 | .nb r => r.depth
 | .kq _ r _ r' => max r.depth r'.depth + 1
 | .two _ r _ r' => max r.depth r'.depth + 1
 | .three _ r _ r1 _ r2 => max r.depth (max r1.depth r2.depth) + 1
 | .four _ r _ r1 _ r2 _ r3 => max r.depth (max r1.depth (max r2.depth r3.depth)) + 1
 | .kp2 _ r _ r' => max r.depth r'.depth + 1
 | .kp3 _ r _ r1 _ r2 => max r.depth (max r1.depth r2.depth) + 1
def Ord.gs : Ord → List Nat
 | .nil => []
 | .q _ r | .kp _ r | .sk _ r => r.gs
 | .nb r => r.gs
 | .kq _ _ j _ => [j]
 | .kp2 _ r _ _ => r.gs
 | .kp3 _ r _ _ _ _ => r.gs
 | .one i _ => [i]
 | .two i _ j _ => [i, j]
 | .three i _ j _ k _ => [i, j, k]
 | .four i _ j _ k _ l _ => [i, j, k, l]
def drOk (ops : Array Oper) : Ord → Array Bool → Bool → Bool
 | .nil, L, _ => (Region.ready .any ops L).isEmpty
 | .q i r, L, solo =>
  (Region.ready .any ops L).contains i && Region.free .any ops L i && !(r.gs.contains i) &&
   (match ops[i]? with
    | some o => !isLoad o.op || (!solo && r.gs.all fun g => reach ops i ops.size g)
    | none => false) && drOk ops r (L.setIfInBounds i true) solo
 | .nb r, L, _ => drOk ops r L false
 | .kq i r j r', L, _ => (Region.ready .any ops L == [i, j] || Region.ready .any ops L == [j, i]) && (r.gs == [j]) && (i != j) && drOk ops r (L.setIfInBounds i true) true && drOk ops r' (L.setIfInBounds j true) false
 | .sk i r, L, solo => (Region.ready .any ops L).contains i && Region.free .any ops L i && !(r.gs.contains i) && drOk ops r (L.setIfInBounds i true) solo
 | .kp i r, L, _ => (Region.ready .any ops L == [i]) && !(r.gs.contains i) && drOk ops r (L.setIfInBounds i true) true
 | .one i r, L, _ => (Region.ready .any ops L == [i]) && drOk ops r (L.setIfInBounds i true) false
 | .two i r j r', L, _ => (Region.ready .any ops L == [i, j]) && drOk ops r (L.setIfInBounds i true) false && drOk ops r' (L.setIfInBounds j true) false
 | .three i r j r1 k r2, L, _ => (Region.ready .any ops L == [i, j, k]) && drOk ops r (L.setIfInBounds i true) false && drOk ops r1 (L.setIfInBounds j true) false && drOk ops r2 (L.setIfInBounds k true) false
 | .four i r j r1 k r2 l r3, L, _ => (Region.ready .any ops L == [i, j, k, l]) && drOk ops r (L.setIfInBounds i true) false && drOk ops r1 (L.setIfInBounds j true) false && drOk ops r2 (L.setIfInBounds k true) false && drOk ops r3 (L.setIfInBounds l true) false
 | .kp2 i r j r', L, _ => (Region.ready .any ops L == [i, j]) && (r.gs == r'.gs) && drOk ops r (L.setIfInBounds i true) true && drOk ops r' (L.setIfInBounds j true) true
 | .kp3 i r j r1 k r2, L, _ => (Region.ready .any ops L == [i, j, k]) && (r.gs == r1.gs) && (r.gs == r2.gs) && drOk ops r (L.setIfInBounds i true) true && drOk ops r1 (L.setIfInBounds j true) true && drOk ops r2 (L.setIfInBounds k true) true
def AgC (P : Program) [HasGlob P] (c : Bool) (df : D) (ds : List D) (tys : List TypeId) (S : St) (k : D → Prop) : Prop := ∃ r0, (c = true → CallT P df ds tys S fun S' r => S' = S ∧ r = r0) ∧ k r0
def kpU (P : Program) [HasGlob P] (n : Nat) (N : List Nat) (S : St) (o : Oper) (K : List Nat → St → Prop) : Prop :=
 o.guard = none ∧
 match o.op with
 | .alloc _ | .box _ _ | .buildSlice _ _ _ | .makeSlice _ _ _ => stK P n S o (K (o.dst.toList ++ N))
 | .call { callee := .value fx, args, argTypes } => dstOk n o.dst ∧ evK true S fx fun df => evsK true S args.toList fun ds => CallT P df ds argTypes.toList S fun S' r => K N (S'.set o.dst r)
 | .call { callee := .builtin .append, args, .. } =>
  match args.toList with
  | [.tmp t, _] =>
   match look S.slots t with
   | some (.own s _) => s ∈ N ∧ stK P n S o (K N)
   | some (.v (.slice none 0 0)) => stK P n S o (K (o.dst.toList ++ N))
   | _ => False
  | _ => False
 | _ => False
def kpK (P : Program) [HasGlob P] (n : Nat) (ops : List Oper) (N : List Nat) (S : St) (o : Oper) (K : List Nat → St → Prop) : Prop :=
 match o.guard with
 | none => kpU P n N S o K
 | some _ => match o.op with
  | .call { callee := .value fx, args, argTypes } => match gcond ops S o with
   | some c => dstOk n o.dst ∧ evK c S fx fun df => evsK c S args.toList fun ds => AgC P c df ds argTypes.toList S fun r => K N (S.set o.dst (.when c r))
   | none => False
  | _ => False
def opK (P : Program) [HasGlob P] (n : Nat) (ops : List Oper) (o : Oper) (S : St) (K : St → Prop) : Prop :=
 match o.guard with
 | none => stK P n S o K
 | some _ => AG P n ops o S K
def adr (P : Program) [HasGlob P] (n : Nat) (ops : List Oper) : Ord → List Nat → St → (St → Prop) → Prop
 | .nil, _, S, K => K S
 | .q i r, N, S, K =>
  match ops[i]? with
  | some o =>
   match o.guard with
   | none => dstOk n o.dst ∧ qK P true S o.op fun d => adr P n ops r N (S.set o.dst d) K
   | some _ =>
    match gcond ops S o with
    | some c => dstOk n o.dst ∧ qK P c S o.op fun d => adr P n ops r N (S.set o.dst (.when c d)) K
    | none => False
  | none => False
 | .nb r, _, S, K => adr P n ops r [] S K
 | .kq i r j r', N, S, K =>
  match ops[i]?, ops[j]? with
  | some o, some o' =>
   (match o.guard with
   | none => dstOk n o.dst ∧ qK P true S o.op fun d => adr P n ops r N (S.set o.dst d) K
   | some _ =>
    match gcond ops S o with
    | some c => dstOk n o.dst ∧ qK P c S o.op fun d => adr P n ops r N (S.set o.dst (.when c d)) K
    | none => False) ∧ opK P n ops o' S (fun S' => adr P n ops r' [] S' K)
  | _, _ => False
 | .kp i r, N, S, K =>
  match ops[i]? with
  | some o => kpK P n ops N S o fun N' S' => adr P n ops r N' S' K
  | none => False
 | .one i r, _, S, K =>
  match ops[i]? with
  | some o => opK P n ops o S fun S' => adr P n ops r [] S' K
  | none => False
 | .two i r j r', _, S, K =>
  match ops[i]?, ops[j]? with
  | some o, some o' => opK P n ops o S (fun S' => adr P n ops r [] S' K) ∧ opK P n ops o' S (fun S' => adr P n ops r' [] S' K)
  | _, _ => False
 | .three i r j r1 k r2, _, S, K => (∃ o, ops[i]? = some o ∧ opK P n ops o S (fun S' => adr P n ops r [] S' K)) ∧ (∃ o, ops[j]? = some o ∧ opK P n ops o S (fun S' => adr P n ops r1 [] S' K)) ∧ (∃ o, ops[k]? = some o ∧ opK P n ops o S (fun S' => adr P n ops r2 [] S' K))
 | .four i r j r1 k r2 l r3, _, S, K => (∃ o, ops[i]? = some o ∧ opK P n ops o S (fun S' => adr P n ops r [] S' K)) ∧ (∃ o, ops[j]? = some o ∧ opK P n ops o S (fun S' => adr P n ops r1 [] S' K)) ∧ (∃ o, ops[k]? = some o ∧ opK P n ops o S (fun S' => adr P n ops r2 [] S' K)) ∧ (∃ o, ops[l]? = some o ∧ opK P n ops o S (fun S' => adr P n ops r3 [] S' K))
 | .sk i r, N, S, K =>
  match ops[i]? with
  | some o => gcond ops S o = some false ∧ dstOk n o.dst ∧ adr P n ops r N (S.set o.dst (.v undef)) K
  | none => False
 | .kp2 i r j r', N, S, K =>
  match ops[i]?, ops[j]? with
  | some o, some o' => kpK P n ops N S o (fun N' S' => adr P n ops r N' S' K) ∧ kpK P n ops N S o' (fun N' S' => adr P n ops r' N' S' K)
  | _, _ => False
 | .kp3 i r j r1 k r2, N, S, K => (∃ o, ops[i]? = some o ∧ kpK P n ops N S o (fun N' S' => adr P n ops r N' S' K)) ∧ (∃ o, ops[j]? = some o ∧ kpK P n ops N S o (fun N' S' => adr P n ops r1 N' S' K)) ∧ (∃ o, ops[k]? = some o ∧ kpK P n ops N S o (fun N' S' => adr P n ops r2 N' S' K))
section
variable {w0 : World} {B : Nat → Nat → Prop} {C0 : Ctx} {n : Nat} {S : St} {C : Ctx} {a : Act} {w we : World}
def NewN (we : World) (N : List Nat) (S : St) (C : Ctx) : Prop := ∀ s ∈ N, ∀ g x u b, look S.heap s = some (g, x) → C.val s g = some u → blk u = some b → we.heap.size ≤ b
def NextN (we : World) (w0 : World) (B : Nat → Nat → Prop) (C0 : Ctx) (n : Nat) (K : List Nat → St → Prop) : Act → World → Prop :=
 fun a w' => ∃ N S C, K N S ∧ Inv w0 B C0 n S C a w' ∧ Same we w' ∧ NewN we N S C
theorem NewN.step {N : List Nat} {S' : St} {C' : Ctx} (hN : NewN we N S C) (hwe : we.heap.size ≤ w.heap.size) (h : Trk S C w S' C') : NewN we N S' C' := fun s hs g x u b h1 h2 h3 => by
 rcases h s g x u b h1 h2 h3 with h | ⟨g0, x0, u0, p1, p2, p3⟩
 ·omega
 ·exact hN s hs g0 x0 u0 b p1 p2 p3
theorem NewN.add {N : List Nat} {S' : St} {C' : Ctx} {t : Nat} (hN : NewN we N S C) (hwe : we.heap.size ≤ w.heap.size) (h : Trk S C w S' C') (ha : NewAt w S' C' t) : NewN we (t :: N) S' C' := fun s hs g x u b h1 h2 h3 => by
 rcases List.mem_cons.1 hs with rfl | hs
 ·have := ha g x u b h1 h2 h3; omega
 ·exact hN.step hwe h s hs g x u b h1 h2 h3
theorem kp_ok (E : Env P w0 B C0) (I : Inv w0 B C0 n S C a w) {N : List Nat} {o : Oper} {K : List Nat → St → Prop} (hN : NewN we N S C) (hsw : Same we w) (h : kpU P n N S o K) (Q : Exit → Act → World → Prop) :
  o.wp P a w (NextN we w0 B C0 n K) Q := by
 have hwe := hsw.1
 obtain ⟨dst, op, ty, pos, after, guard⟩ := o
 obtain ⟨_, h⟩ := h
 have fin : ∀ {t' : Nat}, Oper.wp P ⟨some t', op, ty, pos, after, guard⟩ a w (NextT w0 B C0 n (K (t' :: N)) S C w t') Q → Oper.wp P ⟨some t', op, ty, pos, after, guard⟩ a w (NextN we w0 B C0 n K) Q := fun h =>
  Oper.wp_mono (fun a' w' ⟨S', C', h1, h2, h3, h4, h5⟩ => ⟨_, S', C', h1, h2, hsw.trans h3, hN.add hwe h4 h5⟩) h
 cases op with
 | alloc t =>
  obtain ⟨hd, h⟩ := h
  cases dst with
  | none => exact h.elim
  | some t' =>
   simp only at h
   cases hz : zeroOf P t with
   | none => rw [hz] at h; exact h.elim
   | some zs => rw [hz] at h; exact fin (alloc_step I rfl rfl hd hz h.1 h.2 Q)
 | box t x =>
  obtain ⟨hd, h⟩ := h
  cases dst with
  | none => exact h.elim
  | some t' => exact fin (box_step I rfl rfl hd h Q)
 | buildSlice t len parts =>
  obtain ⟨hd, h⟩ := h
  cases dst with
  | none => exact h.elim
  | some t' =>
   simp only at h
   cases hs : slOf P t with
   | none => rw [hs] at h; exact h.elim
   | some p =>
    obtain ⟨e, sz, by'⟩ := p
    rw [hs] at h
    obtain ⟨hz, h1, h2, h3, h4⟩ := h
    obtain ⟨zs, hz⟩ := Option.isSome_iff_exists.1 hz
    exact fin (buildSlice_step I rfl rfl hd hs hz h1 h2 h3 h4 Q)
 | makeSlice t x y =>
  obtain ⟨hd, h⟩ := h
  cases dst with
  | none => exact h.elim
  | some t' =>
   simp only at h
   cases hs : slOf P t with
   | none => rw [hs] at h; exact h.elim
   | some p =>
    obtain ⟨e, sz, by'⟩ := p
    rw [hs] at h
    simp only at h
    cases hz : zeroOf P e with
    | none => rw [hz] at h; exact h.elim
    | some zs => rw [hz] at h; exact fin (make_step I rfl rfl hd hs hz h.1 h.2 Q)
 | call cl =>
  obtain ⟨callee, args, argTypes⟩ := cl
  cases callee with
  | value fx =>
   obtain ⟨hd, h⟩ := h
   exact Oper.wp_mono (fun a' w' ⟨S', C', h1, h2, h3, h4⟩ => ⟨_, S', C', h1, h2, hsw.trans h3, hN.step hwe h4⟩) (call_step E I rfl hd h Q)
  | invoke r m => exact h.elim
  | builtin b =>
   cases b with
   | append =>
    simp only at h
    -- the operands
    have main : ∀ (t : Nat) (y : Operand) (N' : List Nat) (d : D), args.toList = [.tmp t, y] → look S.slots t = some d → stK P n S ⟨dst, .call ⟨.builtin .append, args, argTypes⟩, ty, pos, after, guard⟩ (K N') →
      ((∃ s g, d = .own s g ∧ s ∈ N ∧ N' = N) ∨ (d = .v (.slice none 0 0) ∧ N' = dst.toList ++ N)) →
      Oper.wp P ⟨dst, .call ⟨.builtin .append, args, argTypes⟩, ty, pos, after, guard⟩ a w (NextN we w0 B C0 n K) Q := fun t y N' d ha hl hst hcase => by
     clear h
     obtain ⟨hd, h⟩ := hst
     cases dst with
     | none => exact h.elim
     | some t' =>
      simp only [ha] at h
      cases ht : argTypes.toList with
      | nil => rw [ht] at h; exact h.elim
      | cons t1 l =>
       cases l with
       | nil => rw [ht] at h; exact h.elim
       | cons t2 l =>
        cases l with
        | cons _ _ => rw [ht] at h; exact h.elim
        | nil =>
         rw [ht] at h
         obtain ⟨rfl, h⟩ := h
         have e1 := arr_of_list ha
         have e2 := arr_of_list ht
         subst e1 e2
         cases hs : slOf P t2 with
         | none => rw [hs] at h; exact h.elim
         | some p =>
          obtain ⟨e, sz, by'⟩ := p
          rw [hs] at h
          obtain ⟨hz, hpos, h⟩ := h
          obtain ⟨zs, hz⟩ := Option.isSome_iff_exists.1 hz
          obtain ⟨u, hu, hr⟩ := I.slots t d hl
          have hev : a.eval (.tmp t) = u := by simp [Act.eval, hu]
          refine Oper.wp_mono (fun a' w' ⟨S', C', h1, h2, h3, h4, h5⟩ => ⟨_, S', C', h1, h2, h3 we (fun b hb => ?_) hsw, ?_⟩) (append_step I rfl rfl hd hs hz hpos h Q)
          ·rw [hev] at hb
           rcases hcase with ⟨s, g, rfl, hsN, _⟩ | ⟨rfl, _⟩
           ·cases hr with
            | own _ _ _ hv _ =>
             have hro : ∃ x, look S.heap s = some (g, x) := by
              have h' : evK true S y fun dy => appK S e sz by' t' (.own s g) dy (K N') := by
               have e1 : evK true S (.tmp t) (fun dx => evK true S y fun dy => appK S e sz by' t' dx dy (K N')) = evK true S y fun dy => appK S e sz by' t' (.own s g) dy (K N') := by
                show (match look S.slots t with | some d => unwK true d fun dx => evK true S y fun dy => appK S e sz by' t' dx dy (K N') | none => False) = _
                rw [hl]
                rfl
               exact e1 ▸ h
              obtain ⟨dy, hy, _⟩ := evK_ok I h'
              unfold appK at hy
              split at hy
              ·obtain ⟨_, hy⟩ := hy
               simp only at hy
               split at hy
               ·rename_i hro; exact ⟨_, rowOf_spec hro⟩
               ·exact hy.elim
              ·exact hy.elim
             obtain ⟨x, hx⟩ := hro
             exact hN s hsN g x u b hx hv hb
           ·obtain rfl := hr.v_inv
            cases hb
          ·rcases hcase with ⟨s, g, rfl, hsN, rfl⟩ | ⟨rfl, rfl⟩
           ·exact hN.step hwe h4
           ·refine hN.add hwe h4 (h5 ?_ (fun s g hev' => ?_) (fun k es hev' => ?_))
            ·rw [hev]; exact hr.v_inv
            ·simp only [evK, hl, unwK] at hev'
             cases hev'
            ·simp only [evK, hl, unwK] at hev'
             cases hev'
    split at h
    ·rename_i t y ha
     split at h
     ·rename_i s g hl
      exact main t y N _ ha hl h.2 (.inl ⟨s, g, rfl, h.1, rfl⟩)
     ·rename_i hl
      exact main t y _ _ ha hl h (.inr ⟨rfl, rfl⟩)
     ·exact h.elim
    ·exact h.elim
   | _ => exact h.elim
 | _ => exact h.elim
theorem NewN.set {N : List Nat} {dst : Option Nat} {d : D} (hN : NewN we N S C) : NewN we N (S.set dst d) C := fun s hs g x u b h1 h2 h3 => by
 cases dst with
 | none => exact hN s hs g x u b h1 h2 h3
 | some t => exact hN s hs g x u b h1 h2 h3
theorem kp_any {ops : List Oper} {Q : Exit → Act → World → Prop} (E : Env P w0 B C0) (I : Inv w0 B C0 n S C a w) {i : Nat} {o : Oper} (ho : ops[i]? = some o) {N : List Nat} {K : List Nat → St → Prop} (hN : NewN we N S C) (hsw : Same we w) (h : kpK P n ops N S o K)
  {M : Act → World → Prop} (hM : ∀ a w, NextN we w0 B C0 n K a w → M a w) : wpOp P ops.toArray Q i M a w := by
 have ho' : ops.toArray[i]? = some o := by simpa using ho
 unfold wpOp
 simp only [ho']
 unfold kpK at h
 cases hg : o.guard with
 | none =>
  rw [hg] at h
  have hw : Region.wanted o (yielded ops.toArray a.tmps) = true := by simp [Region.wanted, hg]
  rw [if_pos hw]
  exact .inl (Oper.wp_mono hM (kp_ok E I hN hsw h Q))
 | some g =>
  rw [hg] at h
  obtain ⟨dst, op, ty, pos, after, guard⟩ := o
  cases op with
  | call cl =>
   obtain ⟨callee, args, argTypes⟩ := cl
   cases callee with
   | value fx =>
    simp only at h
    cases hc : gcond ops S ⟨dst, .call ⟨.value fx, args, argTypes⟩, ty, pos, after, guard⟩ with
    | none => rw [hc] at h; exact h.elim
    | some c =>
     rw [hc] at h
     obtain ⟨hd, h⟩ := h
     rw [gcond_ok I hc]
     cases c with
     | true =>
      rw [if_pos rfl]
      obtain ⟨df, ds, uf, us, ⟨r0, hK, hk⟩, hf, hrep, hrun⟩ := call_run (P := P) (o := ⟨dst, .call { callee := .value fx, args := args, argTypes := argTypes }, ty, pos, after, guard⟩) I rfl h
      obtain ⟨f, cs, hfe, hok, hcall⟩ := hK rfl us uf E I hrep hf
      refine .inl ?_
      unfold Oper.wp
      rw [hrun f cs hfe hok]
      refine hcall.mono ?_
      rintro e w' ⟨u, r, S', C', rfl, ⟨rfl, rfl⟩, hru, I', hs, ht⟩
      exact hM _ _ ⟨N, _, C', hk, I'.set (dstOk_spec hd) (.whenT _ _ hru), hsw.trans hs, (hN.step hsw.1 ht).set⟩
     | false =>
      rw [if_neg (by simp)]
      obtain ⟨df, hds, _⟩ := evK_ok I h
      obtain ⟨ds, ⟨r0, _, hk⟩, _⟩ := evsK_ok I hds
      exact hM _ _ ⟨N, _, C, hk, I.set (dstOk_spec hd) (.whenF _), hsw, hN.set⟩
   | _ => exact h.elim
  | _ => exact h.elim
def TW (we : World) (G : List Nat) (L : Array Bool) (w : World) : Prop := clear G L = true → Same we w
theorem op_any {ops : List Oper} {Q : Exit → Act → World → Prop} (E : Env P w0 B C0) (I : Inv w0 B C0 n S C a w) {i : Nat} {o : Oper} (ho : ops[i]? = some o) {K : St → Prop} (h : opK P n ops o S K) {N : Act → World → Prop} (hN : ∀ a w, NextOk w0 B C0 n K a w → N a w) :
  wpOp P ops.toArray Q i N a w := by
 have ho' : ops.toArray[i]? = some o := by simpa using ho
 unfold wpOp
 simp only [ho']
 unfold opK at h
 cases hg : o.guard with
 | none =>
  rw [hg] at h
  have hw : Region.wanted o (yielded ops.toArray a.tmps) = true := by simp [Region.wanted, hg]
  rw [if_pos hw]
  exact .inl (Oper.wp_mono hN (st_ok E I h Q))
 | some g =>
  rw [hg] at h
  have := h E I N Q hN
  split
  ·rename_i hw; rw [if_pos hw] at this; exact .inl this
  ·rename_i hw; rw [if_neg hw] at this; exact this
theorem set_listed {ops : Array Oper} {L : Array Bool} {i : Nat} (h : i ∈ Region.ready .any ops L) : (L.setIfInBounds i true).getD i false = true := by
 have h0 := (mem_ready.1 h).1
 have hlt : i < L.size := by
  rcases Nat.lt_or_ge i L.size with h' | h'
  ·exact h'
  ·simp [Array.getElem?_eq_none h'] at h0
 simp [hlt]
theorem TW_not {we w : World} {G : List Nat} {L : Array Bool} {g : Nat} (hg : g ∈ G) (hl : L.getD g false = true) : TW we G L w := fun hc => by
 have := List.all_eq_true.1 hc g hg
 rw [hl] at this
 cases this
theorem adr_ok (E : Env P w0 B C0) {ops : List Oper} (hsel : Region.noSelect ops.toArray = true) {K : St → Prop} {Q : Exit → Act → World → Prop} (hQn : ∀ a w, NextOk w0 B C0 n K a w → Q .normal a w) (hQp : ∀ c a w, ¬ Q (.panic c) a w) :
  ∀ (r : Ord) (we : World) (L : Array Bool) (solo : Bool) (N : List Nat) (S : St) (C : Ctx) (a : Act) (w : World) (m : Nat), r.depth ≤ m → drOk ops.toArray r L solo = true → Valid ops.toArray L → Inv w0 B C0 n S C a w → NewN we N S C →
   (solo = false → w.heap = we.heap) → Same we w → adr P n ops r N S K → wpAnyT P ops.toArray Q (TW we r.gs) m L a w := by
 intro r
 -- behind a general operation
 have gen : ∀ (r : Ord), (∀ (we : World) (L : Array Bool) (solo : Bool) (N : List Nat) (S : St) (C : Ctx) (a : Act) (w : World) (m : Nat), r.depth ≤ m → drOk ops.toArray r L solo = true → Valid ops.toArray L → Inv w0 B C0 n S C a w → NewN we N S C →
   (solo = false → w.heap = we.heap) → Same we w → adr P n ops r N S K → wpAnyT P ops.toArray Q (TW we r.gs) m L a w) → ∀ (we : World) (G : List Nat) (L : Array Bool) (S : St) (C : Ctx) (a : Act) (w : World) (m : Nat) (i : Nat) (o : Oper),
   r.depth ≤ m → drOk ops.toArray r (L.setIfInBounds i true) false = true → Valid ops.toArray L → Inv w0 B C0 n S C a w → i ∈ G → i ∈ Region.ready .any ops.toArray L → ops[i]? = some o → opK P n ops o S (fun S' => adr P n ops r [] S' K) →
   wpOp P ops.toArray Q i (fun a' w' => TW we G (L.setIfInBounds i true) w' ∧ wpAnyT P ops.toArray Q (TW we G) m (L.setIfInBounds i true) a' w') a w := by
  intro r ih we G L S C a w m i o hm hok hv I hiG hrd ho h
  have hls := set_listed hrd
  refine op_any E I ho h fun a' w' ⟨S', C', hK, I'⟩ => ⟨TW_not hiG hls, ?_⟩
  exact wpAnyT_mono (T' := TW w' r.gs) (i := i) (fun L'' w'' hl _ => TW_not hiG hl) m _ a' w' hls
   (ih w' _ false [] S' C' a' w' m hm hok (hv.set hrd) I' (fun _ h => absurd h (by simp)) (fun _ => rfl) (Same.refl _) hK)
 induction r with
 | nil =>
  intro we L solo N S C a w m _ hok hv I hN hso hsw h
  simp only [drOk, List.isEmpty_iff] at hok
  exact wpAnyT_done hok (hQn _ _ ⟨S, C, h, I⟩) _
 | q i r ih =>
  intro we L solo N S C a w m hm hok hv I hN hso hsw h
  obtain ⟨m, rfl⟩ : ∃ m', m = m' + 1 := ⟨m - 1, by simp only [Ord.depth] at hm; omega⟩
  have hm : r.depth ≤ m := by simp only [Ord.depth] at hm; omega
  simp only [drOk, Bool.and_eq_true, Bool.not_eq_true'] at hok
  obtain ⟨⟨⟨⟨hrd, hfr⟩, hiG⟩, hld⟩, hok⟩ := hok
  have hrd' : i ∈ Region.ready .any ops.toArray L := by simpa using hrd
  have hiG' : i ∉ r.gs := by simpa using hiG
  simp only [adr] at h
  cases ho : ops[i]? with
  | none => rw [ho] at h; exact h.elim
  | some o =>
   rw [ho] at h
   have ho' : ops.toArray[i]? = some o := by simpa using ho
   rw [ho'] at hld
   simp only at h
   -- the value, and the state behind it
   have key : ∃ v S', YieldsIf P ops.toArray (fun w' => isLoad o.op = true → Same we w') o v a ∧ Inv w0 B C0 n S' C (a.put o.dst v) w ∧ adr P n ops r N S' K ∧ NewN we N S' C := by
    have put : ∀ (d : D) , NewN we N (S.set o.dst d) C := fun d s hs g x u b h1 h2 h3 => by
     cases hdst : o.dst with
     | none => rw [hdst] at h1; exact hN s hs g x u b h1 h2 h3
     | some t => rw [hdst] at h1; exact hN s hs g x u b h1 h2 h3
    have same : ∀ w' : World, (isLoad o.op = true → Same we w') → isLoad o.op = true → Same w w' := fun w' h hl => by
     have h1 := h hl
     have h2 : solo = false := by
      simp only [hl, Bool.not_true, Bool.false_or, Bool.and_eq_true] at hld
      simpa using hld.1
     have h3 := hso h2
     unfold Same at h1 ⊢
     rw [h3]
     exact h1
    cases hg : o.guard with
    | none =>
     rw [hg] at h
     obtain ⟨hd, h⟩ := h
     obtain ⟨d, hk, hr⟩ := q_ok I h
     obtain ⟨u, hu, hrun⟩ := hr rfl
     exact ⟨u, _, .inl ⟨by simp [Region.wanted, hg], fun w' hw' => hrun w' (same w' hw')⟩, I.set (dstOk_spec hd) hu, hk, put d⟩
    | some gd =>
     rw [hg] at h
     simp only at h
     cases hc : gcond ops S o with
     | none => rw [hc] at h; exact h.elim
     | some c =>
      rw [hc] at h
      obtain ⟨hd, h⟩ := h
      obtain ⟨d, hk, hr⟩ := q_ok I h
      have hw := gcond_ok I hc
      cases c with
      | true =>
       obtain ⟨u, hu, hrun⟩ := hr rfl
       exact ⟨u, _, .inl ⟨hw, fun w' hw' => hrun w' (same w' hw')⟩, I.set (dstOk_spec hd) (.whenT _ _ hu), hk, put _⟩
      | false => exact ⟨undef, _, .inr ⟨hw, rfl⟩, I.set (dstOk_spec hd) (.whenF _), hk, put _⟩
   obtain ⟨v, S', hy, I', hadr, hN'⟩ := key
   refine wpAnyT_first ho' (fun L w hT hc => hT (by rw [clear_set (G := (Ord.q i r).gs) hiG']; exact hc)) (fun j o cs b => Region.noSelect_spec hsel j o cs b) (fun c a w h => absurd h (hQp _ _ _)) (V := fun w' => isLoad o.op = true → Same we w')
    (fun L' w' hv' hil hT hl => ?_) _ L a w (Region.free_spec ho' hfr) hv hrd' hy (fun _ => hsw) ?_ (fun _ => hsw)
   ·simp only [hl, Bool.not_true, Bool.false_or, Bool.and_eq_true] at hld
    refine hT (List.all_eq_true.2 fun g hg => ?_)
    simp only [Bool.not_eq_true']
    have hrg := List.all_eq_true.1 hld.2 g hg
    cases hgl : L'.getD g false with
    | false => rfl
    | true =>
     cases hog : ops.toArray[g]? with
     | none =>
      exfalso
      cases hsz : ops.toArray.size with
      | zero => rw [hsz] at hrg; simp [reach] at hrg
      | succ m => rw [hsz] at hrg; simp only [reach, hog] at hrg; cases hrg
     | some og =>
      have := reach_listed hv' _ _ _ hog hrg (hv' g og hog hgl)
      rw [hil] at this; cases this
   ·exact ih we _ solo N S' C _ w m hm hok (hv.set hrd') I' hN' hso hsw hadr
 | kp i r ih =>
  intro we L solo N S C a w m hm hok hv I hN hso hsw h
  obtain ⟨m, rfl⟩ : ∃ m', m = m' + 1 := ⟨m - 1, by simp only [Ord.depth] at hm; omega⟩
  have hm : r.depth ≤ m := by simp only [Ord.depth] at hm; omega
  simp only [drOk, Bool.and_eq_true, Bool.not_eq_true', beq_iff_eq] at hok
  obtain ⟨⟨hrd, hiG⟩, hok⟩ := hok
  simp only [adr] at h
  cases ho : ops[i]? with
  | none => rw [ho] at h; exact h.elim
  | some o =>
   rw [ho] at h
   have ho' : ops.toArray[i]? = some o := by simpa using ho
   refine wpAnyT_only hrd (kp_any E I ho hN hsw h ?_)
   rintro a' w' ⟨N', S', C', hK, I', hs, hN'⟩
   exact ⟨fun _ => hs, ih we _ true N' S' C' a' w' m hm hok (hv.set (by rw [hrd]; simp)) I' hN' (fun h => by cases h) hs hK⟩
 | kq i r j r' ih ih' =>
  intro we L solo N S C a w m hm hok hv I hN hso hsw h
  obtain ⟨m, rfl⟩ : ∃ m', m = m' + 1 := ⟨m - 1, by simp only [Ord.depth] at hm; omega⟩
  have hm1 : r.depth ≤ m := by simp only [Ord.depth] at hm; omega
  have hm2 : r'.depth ≤ m := by simp only [Ord.depth] at hm; omega
  simp only [drOk, Bool.and_eq_true, beq_iff_eq, Bool.or_eq_true] at hok
  obtain ⟨⟨⟨⟨hrd, hgs⟩, hij⟩, hok1⟩, hok2⟩ := hok
  simp only [adr] at h
  cases ho : ops[i]? with
  | none => rw [ho] at h; exact h.elim
  | some o =>
   cases ho2 : ops[j]? with
   | none => rw [ho, ho2] at h; exact h.elim
   | some o' =>
    rw [ho, ho2] at h
    have ho' : ops.toArray[i]? = some o := by simpa using ho
    have hmi : i ∈ Region.ready .any ops.toArray L := by rcases hrd with h | h <;> rw [h] <;> simp
    have hmj : j ∈ Region.ready .any ops.toArray L := by rcases hrd with h | h <;> rw [h] <;> simp
    have A : wpOp P ops.toArray Q i (fun a' w' => TW we [j] (L.setIfInBounds i true) w' ∧ wpAnyT P ops.toArray Q (TW we [j]) m (L.setIfInBounds i true) a' w') a w := by
     have key : ∃ v S', YieldsIf P ops.toArray (fun w' => isLoad o.op = true → Same w w') o v a ∧ Inv w0 B C0 n S' C (a.put o.dst v) w ∧ adr P n ops r N S' K ∧ NewN we N S' C := by
      have put : ∀ (d : D) , NewN we N (S.set o.dst d) C := fun d s hs g x u b h1 h2 h3 => by
       cases hdst : o.dst with
       | none => rw [hdst] at h1; exact hN s hs g x u b h1 h2 h3
       | some t => rw [hdst] at h1; exact hN s hs g x u b h1 h2 h3
      have h := h.1
      cases hg : o.guard with
      | none =>
       rw [hg] at h
       obtain ⟨hd, h⟩ := h
       obtain ⟨d, hk, hr⟩ := q_ok I h
       obtain ⟨u, hu, hrun⟩ := hr rfl
       exact ⟨u, _, .inl ⟨by simp [Region.wanted, hg], fun w' hw' => hrun w' hw'⟩, I.set (dstOk_spec hd) hu, hk, put d⟩
      | some gd =>
       rw [hg] at h
       simp only at h
       cases hc : gcond ops S o with
       | none => rw [hc] at h; exact h.elim
       | some c =>
        rw [hc] at h
        obtain ⟨hd, h⟩ := h
        obtain ⟨d, hk, hr⟩ := q_ok I h
        have hw := gcond_ok I hc
        cases c with
        | true =>
         obtain ⟨u, hu, hrun⟩ := hr rfl
         exact ⟨u, _, .inl ⟨hw, fun w' hw' => hrun w' hw'⟩, I.set (dstOk_spec hd) (.whenT _ _ hu), hk, put _⟩
        | false => exact ⟨undef, _, .inr ⟨hw, rfl⟩, I.set (dstOk_spec hd) (.whenF _), hk, put _⟩
     obtain ⟨v, S', hy, I', hadr, hN'⟩ := key
     refine hy.wpOp ho' (fun _ => Same.refl _) ⟨fun _ => hsw, ?_⟩
     have := ih we _ true N S' C _ w m hm1 hok1 (hv.set hmi) I' hN' (fun h => by cases h) hsw hadr
     rw [hgs] at this
     exact this
    have Bq := gen r' ih' we [j] L S C a w m j o' hm2 hok2 hv I (by simp) hmj ho2 h.2
    rcases hrd with hrd | hrd
    ·exact wpAnyT_two hrd A Bq
    ·exact wpAnyT_two hrd Bq A
 | nb r ih =>
  intro we L solo N S C a w m hm hok hv I hN hso hsw h
  simp only [drOk] at hok
  simp only [adr] at h
  exact wpAnyT_mono' (T' := TW w r.gs) (fun L' w' ht hc => hsw.trans (ht hc)) m L a w
   (ih w L false [] S C a w m hm hok hv I (fun _ h => absurd h (by simp)) (fun _ => rfl) (Same.refl _) h)
 | sk i r ih =>
  intro we L solo N S C a w m hm hok hv I hN hso hsw h
  obtain ⟨m, rfl⟩ : ∃ m', m = m' + 1 := ⟨m - 1, by simp only [Ord.depth] at hm; omega⟩
  have hm : r.depth ≤ m := by simp only [Ord.depth] at hm; omega
  simp only [drOk, Bool.and_eq_true, Bool.not_eq_true'] at hok
  obtain ⟨⟨⟨hrd, hfr⟩, hiG⟩, hok⟩ := hok
  have hrd' : i ∈ Region.ready .any ops.toArray L := by simpa using hrd
  have hiG' : i ∉ r.gs := by simpa using hiG
  simp only [adr] at h
  cases ho : ops[i]? with
  | none => rw [ho] at h; exact h.elim
  | some o =>
   rw [ho] at h
   have ho' : ops.toArray[i]? = some o := by simpa using ho
   obtain ⟨hc, hd, hadr⟩ := h
   have hw := gcond_ok I hc
   have hN' : NewN we N (S.set o.dst (.v undef)) C := fun s hs g x u b h1 h2 h3 => by
    cases hdst : o.dst with
    | none => rw [hdst] at h1; exact hN s hs g x u b h1 h2 h3
    | some t => rw [hdst] at h1; exact hN s hs g x u b h1 h2 h3
   have hy : YieldsIf P ops.toArray (fun _ => True) o undef a := .inr ⟨hw, rfl⟩
   refine wpAnyT_first ho' (fun L w hT hc => hT (by rw [clear_set (G := (Ord.sk i r).gs) hiG']; exact hc)) (fun j o cs b => Region.noSelect_spec hsel j o cs b) (fun c a w h => absurd h (hQp _ _ _)) (V := fun _ => True)
    (fun _ _ _ _ _ => trivial) _ L a w (Region.free_spec ho' hfr) hv hrd' hy trivial ?_ (fun _ => hsw)
   exact ih we _ solo N _ C _ w m hm hok (hv.set hrd') (I.set (dstOk_spec hd) (.v _)) hN' hso hsw hadr
 | kp2 i r j r' ih ih' =>
  intro we L solo N S C a w m hm hok hv I hN hso hsw h
  obtain ⟨m, rfl⟩ : ∃ m', m = m' + 1 := ⟨m - 1, by simp only [Ord.depth] at hm; omega⟩
  have hm1 : r.depth ≤ m := by simp only [Ord.depth] at hm; omega
  have hm2 : r'.depth ≤ m := by simp only [Ord.depth] at hm; omega
  simp only [drOk, Bool.and_eq_true, beq_iff_eq] at hok
  obtain ⟨⟨⟨hrd, hgs⟩, hok1⟩, hok2⟩ := hok
  simp only [adr] at h
  cases ho : ops[i]? with
  | none => rw [ho] at h; exact h.elim
  | some o =>
   cases ho2 : ops[j]? with
   | none => rw [ho, ho2] at h; exact h.elim
   | some o' =>
    rw [ho, ho2] at h
    have ho' : ops.toArray[i]? = some o := by simpa using ho
    have ho2' : ops.toArray[j]? = some o' := by simpa using ho2
    refine wpAnyT_two hrd ?_ ?_
    ·refine kp_any E I ho hN hsw h.1 ?_
     rintro a' w' ⟨N', S', C', hK, I', hs, hN'⟩
     exact ⟨fun _ => hs, ih we _ true N' S' C' a' w' m hm1 hok1 (hv.set (by rw [hrd]; simp)) I' hN' (fun h => by cases h) hs hK⟩
    ·refine kp_any E I ho2 hN hsw h.2 ?_
     rintro a' w' ⟨N', S', C', hK, I', hs, hN'⟩
     have := ih' we _ true N' S' C' a' w' m hm2 hok2 (hv.set (by rw [hrd]; simp)) I' hN' (fun h => by cases h) hs hK
     rw [← hgs] at this
     exact ⟨fun _ => hs, this⟩
 | kp3 i r j r1 k r2 ih ih1 ih2 =>
  intro we L solo N S C a w m hm hok hv I hN hso hsw h
  obtain ⟨m, rfl⟩ : ∃ m', m = m' + 1 := ⟨m - 1, by simp only [Ord.depth] at hm; omega⟩
  have hm1 : r.depth ≤ m := by simp only [Ord.depth] at hm; omega
  have hm2 : r1.depth ≤ m := by simp only [Ord.depth] at hm; omega
  have hm3 : r2.depth ≤ m := by simp only [Ord.depth] at hm; omega
  simp only [drOk, Bool.and_eq_true, beq_iff_eq] at hok
  obtain ⟨⟨⟨⟨⟨hrd, hgs1⟩, hgs2⟩, hok1⟩, hok2⟩, hok3⟩ := hok
  simp only [adr] at h
  obtain ⟨⟨o, ho, h⟩, ⟨o1, ho1, h1⟩, ⟨o2, ho2, h2⟩⟩ := h
  have ho' : ops.toArray[i]? = some o := by simpa using ho
  have ho1' : ops.toArray[j]? = some o1 := by simpa using ho1
  have ho2' : ops.toArray[k]? = some o2 := by simpa using ho2
  refine wpAnyT_three hrd ?_ ?_ ?_
  ·refine kp_any E I ho hN hsw h ?_
   rintro a' w' ⟨N', S', C', hK, I', hs, hN'⟩
   exact ⟨fun _ => hs, ih we _ true N' S' C' a' w' m hm1 hok1 (hv.set (by rw [hrd]; simp)) I' hN' (fun h => by cases h) hs hK⟩
  ·refine kp_any E I ho1 hN hsw h1 ?_
   rintro a' w' ⟨N', S', C', hK, I', hs, hN'⟩
   have := ih1 we _ true N' S' C' a' w' m hm2 hok2 (hv.set (by rw [hrd]; simp)) I' hN' (fun h => by cases h) hs hK
   rw [← hgs1] at this
   exact ⟨fun _ => hs, this⟩
  ·refine kp_any E I ho2 hN hsw h2 ?_
   rintro a' w' ⟨N', S', C', hK, I', hs, hN'⟩
   have := ih2 we _ true N' S' C' a' w' m hm3 hok3 (hv.set (by rw [hrd]; simp)) I' hN' (fun h => by cases h) hs hK
   rw [← hgs2] at this
   exact ⟨fun _ => hs, this⟩
 | one i r ih =>
  intro we L solo N S C a w m hm hok hv I hN hso hsw h
  obtain ⟨m, rfl⟩ : ∃ m', m = m' + 1 := ⟨m - 1, by simp only [Ord.depth] at hm; omega⟩
  have hm : r.depth ≤ m := by simp only [Ord.depth] at hm; omega
  simp only [drOk, Bool.and_eq_true, beq_iff_eq] at hok
  simp only [adr] at h
  cases ho : ops[i]? with
  | none => rw [ho] at h; exact h.elim
  | some o =>
   rw [ho] at h
   exact wpAnyT_only hok.1 (gen r ih we _ L S C a w m i o hm hok.2 hv I (by simp [Ord.gs]) (by rw [hok.1]; simp) ho h)
 | two i r j r' ih ih' =>
  intro we L solo N S C a w m hm hok hv I hN hso hsw h
  obtain ⟨m, rfl⟩ : ∃ m', m = m' + 1 := ⟨m - 1, by simp only [Ord.depth] at hm; omega⟩
  have hm1 : r.depth ≤ m := by simp only [Ord.depth] at hm; omega
  have hm2 : r'.depth ≤ m := by simp only [Ord.depth] at hm; omega
  simp only [drOk, Bool.and_eq_true, beq_iff_eq] at hok
  simp only [adr] at h
  cases ho : ops[i]? with
  | none => rw [ho] at h; exact h.elim
  | some o =>
   cases ho2 : ops[j]? with
   | none => rw [ho, ho2] at h; exact h.elim
   | some o' =>
    rw [ho, ho2] at h
    exact wpAnyT_two hok.1.1 (gen r ih we _ L S C a w m i o hm1 hok.1.2 hv I (by simp [Ord.gs]) (by rw [hok.1.1]; simp) ho h.1)
     (gen r' ih' we _ L S C a w m j o' hm2 hok.2 hv I (by simp [Ord.gs]) (by rw [hok.1.1]; simp) ho2 h.2)
 | three i r j r1 k r2 ih ih1 ih2 =>
  intro we L solo N S C a w m hm hok hv I hN hso hsw h
  obtain ⟨m, rfl⟩ : ∃ m', m = m' + 1 := ⟨m - 1, by simp only [Ord.depth] at hm; omega⟩
  have hm0 : r.depth ≤ m := by simp only [Ord.depth] at hm; omega
  have hm1 : r1.depth ≤ m := by simp only [Ord.depth] at hm; omega
  have hm2 : r2.depth ≤ m := by simp only [Ord.depth] at hm; omega
  simp only [drOk, Bool.and_eq_true, beq_iff_eq] at hok
  simp only [adr] at h
  obtain ⟨⟨o0, ho0, h0⟩, ⟨o1, ho1, h1⟩, ⟨o2, ho2, h2⟩⟩ := h
  exact wpAnyT_three hok.1.1.1
   (gen r ih we _ L S C a w m i o0 hm0 hok.1.1.2 hv I (by simp [Ord.gs]) (by rw [hok.1.1.1]; simp) ho0 h0)
   (gen r1 ih1 we _ L S C a w m j o1 hm1 hok.1.2 hv I (by simp [Ord.gs]) (by rw [hok.1.1.1]; simp) ho1 h1)
   (gen r2 ih2 we _ L S C a w m k o2 hm2 hok.2 hv I (by simp [Ord.gs]) (by rw [hok.1.1.1]; simp) ho2 h2)
 | four i r j r1 k r2 l r3 ih ih1 ih2 ih3 =>
  intro we L solo N S C a w m hm hok hv I hN hso hsw h
  obtain ⟨m, rfl⟩ : ∃ m', m = m' + 1 := ⟨m - 1, by simp only [Ord.depth] at hm; omega⟩
  have hm0 : r.depth ≤ m := by simp only [Ord.depth] at hm; omega
  have hm1 : r1.depth ≤ m := by simp only [Ord.depth] at hm; omega
  have hm2 : r2.depth ≤ m := by simp only [Ord.depth] at hm; omega
  have hm3 : r3.depth ≤ m := by simp only [Ord.depth] at hm; omega
  simp only [drOk, Bool.and_eq_true, beq_iff_eq] at hok
  simp only [adr] at h
  obtain ⟨⟨o0, ho0, h0⟩, ⟨o1, ho1, h1⟩, ⟨o2, ho2, h2⟩, ⟨o3, ho3, h3⟩⟩ := h
  exact wpAnyT_four hok.1.1.1.1
   (gen r ih we _ L S C a w m i o0 hm0 hok.1.1.1.2 hv I (by simp [Ord.gs]) (by rw [hok.1.1.1.1]; simp) ho0 h0)
   (gen r1 ih1 we _ L S C a w m j o1 hm1 hok.1.1.2 hv I (by simp [Ord.gs]) (by rw [hok.1.1.1.1]; simp) ho1 h1)
   (gen r2 ih2 we _ L S C a w m k o2 hm2 hok.1.2 hv I (by simp [Ord.gs]) (by rw [hok.1.1.1.1]; simp) ho2 h2)
   (gen r3 ih3 we _ L S C a w m l o3 hm3 hok.2 hv I (by simp [Ord.gs]) (by rw [hok.1.1.1.1]; simp) ho3 h3)
theorem awp_draw {n : Nat} {S : St} {Q : Exit → St → Prop} (hm : P.follows .mixedOrders = true) {id : Nat} {ops : List Oper} (order : Ord) (hsel : Region.noSelect ops.toArray = true)
  (hok : drOk ops.toArray order (Array.replicate ops.length false) false = true) (hlen : order.depth ≤ ops.length)
  (h : adr P n ops order [] S (Q .normal)) : AWp P n (.region id ops.toArray true) S Q := by
 intro w0 B C0 C a w E I
 have I' : Inv w0 B C0 n S C a { w with drawn := w.drawn + 1 } := I.quiet rfl rfl rfl rfl
 refine wp_mono (Q := fun e a w => e = .normal ∧ NextOk w0 B C0 n (Q .normal) a w) ?_ (fun e a w ⟨he, S, C, h1, h2⟩ => by subst he; exact ⟨S, C, h1, h2⟩)
 refine wp_region_any hm (wpAny_of_T (T := TW { w with drawn := w.drawn + 1 } order.gs) _ _ _ _ ?_)
 have := adr_ok (P := P) E hsel (K := Q .normal) (Q := fun e a w => e = .normal ∧ NextOk w0 B C0 n (Q .normal) a w)
  (fun a w h => ⟨rfl, h⟩) (fun c a w h => by cases h.1) order { w with drawn := w.drawn + 1 } (Array.replicate ops.length false) false [] S C a { w with drawn := w.drawn + 1 } ops.length hlen hok
  (fun k o _ hk => by simp [Array.getD] at hk) I' (fun _ h => absurd h (by simp)) (fun _ => rfl) (Same.refl _) h
 simpa using this
end
end Go.Eng
set_option linter.unusedSectionVars false
namespace Go.Eng
variable {P : Program} [HasGlob P] {n : Nat} {S : St} {Q : Exit → St → Prop}
attribute [go_sem] strK bytesD_map ifK look St.put St.hput St.set argS evK unwK evsK optI qK nilCmpK bothK binK cmpI arI fieldAddrK rowOf frozOf idxK lenK takeK cellsAt loadK ptrLike cutK upTo fillD putAt cellsOfD cellOk oneD Value.oneCell'
 frz1 frzK frzL dstOk stK mlenK appK copyK oneLL_map oneLL_nil oneLL_cons oneLL_take oneLL_drop oneLL_app oneLL_rep srcOf putK viewC viewL view hsC hs viewP hsP viewsL aops gcond thenQ blockQ covL res1 resL frzD frzDs nilC nilL nilD nilDs pack retQ convK dBytes
attribute [go_sem] D.v.injEq Value.bool.injEq Value.int.injEq beq_true beq_false exists_eq_left' exists_eq_left true_and and_true
@[irreducible] def Hold (p : Prop) : Prop := p
theorem Hold.mk {p : Prop} (h : p) : Hold p := by unfold Hold; exact h
theorem Hold.out {p : Prop} (h : Hold p) : p := by unfold Hold at h; exact h
theorem awp_sr {id : Nat} {ops : List Oper} {y : Code} (h : ∀ K : St → Prop, (∀ S', Hold (AWp P n y S' Q) → K S') → aops P n ops ops S K) : AWp P n (.seq (.region id ops.toArray false) y) S Q :=
 awp_seq (awp_region (h _ fun _ h => h.out))
theorem awp_r {id : Nat} {ops : List Oper} (h : ∀ K : St → Prop, (∀ S', Hold (Q .normal S') → K S') → aops P n ops ops S K) : AWp P n (.region id ops.toArray false) S Q := awp_region (h _ fun _ h => h.out)
def BR (b : Bool) (T F : Prop) : Prop := (b = true → T) ∧ (b = false → F)
theorem BR.intro {b : Bool} {T F : Prop} (h : b = true → T) (h' : b = false → F) : BR b T F := ⟨h, h'⟩
@[go_sem] theorem BR.t {T F : Prop} : BR true T F = T := by simp [BR]
@[go_sem] theorem BR.f {T F : Prop} : BR false T F = F := by simp [BR]
def brK (d : D) (T F : Prop) : Prop :=
 match d with
 | .v (.bool b) => BR b T F
 | _ => False
/-! where I have no memory of my own, a view is what it views -/
theorem awp_if {c : Operand} {x y : Code} (h : ∀ T F : Prop, (AWp P n x S Q → T) → (AWp P n y S Q → F) → evK true S c fun d => brK d T F) : AWp P n (.cond c x y) S Q := by
 refine awp_cond ?_
 have h := h _ _ id id
 have e : ∀ d, brK d (AWp P n x S Q) (AWp P n y S Q) → ∃ b, d = .v (.bool b) ∧ (b = true → AWp P n x S Q) ∧ (b = false → AWp P n y S Q) := fun d h => by
  unfold brK at h
  split at h
  ·rename_i b; exact ⟨b, rfl, h⟩
  ·exact h.elim
 unfold evK at h ⊢
 split at h
 ·exact e _ h
 ·exact e _ h
 ·exact h
 ·split at h
  ·unfold unwK at h ⊢
   split at h
   ·exact ⟨h.1, e _ h.2⟩
   ·exact e _ h
  ·exact h
attribute [go_sem] brK
theorem ag_w {ops : List Oper} {o : Oper} {K : St → Prop} (h : match gcond ops S o with | some c => dstOk n o.dst ∧ qK P c S o.op (fun d => K (S.set o.dst (.when c d))) | none => False) : AG P n ops o S K := by
 cases hg : gcond ops S o with
 | none => rw [hg] at h; exact h.elim
 | some c => rw [hg] at h; exact ag_when hg h.1 h.2
attribute [go_sem] aggCmpK eqCells lookupK mapAt mfind keyEq mapW mput mdel
end Go.Eng
