/- Part of a proof: see the last text. -/
import Derived.Test.YteekfnhhlcmcgaaGreatDoorG06
import Derived.Lib.LastIndexLaws
import Derived.Test.YteekfnhhlcmcgaaGreatDoorGA
set_option linter.unusedVariables false
set_option linter.unusedSimpArgs false
namespace Go.Lk
open Go.Lib Go.Wh Go.Ver
/-! a whole text: its lines, where they begin, what reading all of them gives -/
theorem ib_first {l t : Bs} {c : UInt8} (h : c ∉ l) : indexByte (l ++ c :: t) c = (l.length : Int) := by
 rcases Int.lt_or_le (indexByte (l ++ c :: t) c) 0 with hn | hp
 ·have := index_ge (l ++ c :: t) [c]
  rw [index_one] at this
  have e : indexByte (l ++ c :: t) c = -1 := by omega
  exact absurd (by simp) (indexByte_none e l.length)
 ·obtain ⟨k, hk⟩ : ∃ k : Nat, indexByte (l ++ c :: t) c = k := ⟨_, (Int.toNat_of_nonneg hp).symm⟩
  obtain ⟨h1, h2⟩ := indexByte_some hk
  have hk1 : ¬ k < l.length := fun q => by
   rw [List.getElem?_append_left q] at h1
   exact h (List.mem_of_getElem? h1)
  have hk2 : ¬ l.length < k := fun q => h2 l.length q (by simp)
  rw [hk]; omega
theorem ib_none {l : Bs} {c : UInt8} (h : c ∉ l) : indexByte l c = -1 := by
 rcases Int.lt_or_le (indexByte l c) 0 with hn | hp
 ·have := index_ge l [c]
  rw [index_one] at this
  omega
 ·obtain ⟨k, hk⟩ : ∃ k : Nat, indexByte l c = k := ⟨_, (Int.toNat_of_nonneg hp).symm⟩
  exact absurd (List.mem_of_getElem? (indexByte_some hk).1) h
theorem dots_line (c : UInt8) (t : Bs) : (c ∉ t ∧ dots c t = [t]) ∨ ∃ l t', t = l ++ c :: t' ∧ c ∉ l ∧ dots c t = l :: dots c t' := by
 by_cases h : c ∈ t
 ·obtain ⟨l, t', h1, h2⟩ := List.eq_append_cons_of_mem h
  exact .inr ⟨l, t', h1, h2, by rw [h1]; exact dots_app _ h2⟩
 ·exact .inl ⟨h, dots_one h⟩
def offV (ls : List Bs) : Nat → Nat
 | 0 => 0
 | n + 1 => offV ls n + ((ls[n]?).getD []).length + 1
theorem at_line (s : Bs) : ∀ n, n < (dots 10 s).length → offV (dots 10 s) n ≤ s.length ∧ dots 10 (s.drop (offV (dots 10 s) n)) = (dots 10 s).drop n
 | 0, h => by simp [offV]
 | n + 1, h => by
  obtain ⟨h1, h2⟩ := at_line s n (by omega)
  rcases dots_line 10 (s.drop (offV (dots 10 s) n)) with ⟨g1, g2⟩ | ⟨l, t', g1, g2, g3⟩
  ·rw [g2] at h2
   have := congrArg List.length h2
   simp at this
   omega
  ·rw [g3] at h2
   have hl : (dots 10 s)[n]? = some l := by
    have := congrArg (fun x => x[0]?) h2
    simp at this
    exact this.symm
   have hd : (dots 10 s).drop (n + 1) = dots 10 t' := by
    have := congrArg List.tail h2
    simp at this
    exact this.symm
   have ho : offV (dots 10 s) (n + 1) = offV (dots 10 s) n + (l.length + 1) := by simp [offV, hl, Nat.add_assoc]
   have hlen := congrArg List.length g1
   simp at hlen
   refine ⟨by omega, ?_⟩
   rw [hd, ho, ← List.drop_drop, g1]
   congr 1
   have : l ++ 10 :: t' = (l ++ [10]) ++ t' := by simp
   rw [this, show l.length + 1 = (l ++ [10]).length by simp, List.drop_left]
theorem line_more {s l : Bs} {n : Nat} (h : n + 1 < (dots 10 s).length) (hl : (dots 10 s)[n]? = some l) : indexByte (s.drop (offV (dots 10 s) n)) 10 = (l.length : Int) ∧ (s.drop (offV (dots 10 s) n)).take l.length = l ∧ offV (dots 10 s) n + l.length + 1 ≤ s.length ∧ s.take (offV (dots 10 s) (n + 1)) = s.take (offV (dots 10 s) n) ++ (l ++ [10]) ∧ offV (dots 10 s) (n + 1) = offV (dots 10 s) n + l.length + 1 := by
 obtain ⟨h1, h2⟩ := at_line s n (by omega)
 have ho : offV (dots 10 s) (n + 1) = offV (dots 10 s) n + l.length + 1 := by simp [offV, hl]
 rcases dots_line 10 (s.drop (offV (dots 10 s) n)) with ⟨g1, g2⟩ | ⟨l', t', g1, g2, g3⟩
 ·rw [g2] at h2
  have := congrArg List.length h2
  simp at this
  omega
 ·rw [g3] at h2
  have hl' : (dots 10 s)[n]? = some l' := by
   have := congrArg (fun x => x[0]?) h2
   simp at this
   exact this.symm
  rw [hl] at hl'
  obtain rfl := Option.some.inj hl'
  have hlen := congrArg List.length g1
  simp at hlen
  refine ⟨by rw [g1]; exact ib_first g2, by rw [g1]; simp, by omega, ?_, ho⟩
  rw [ho, Nat.add_assoc, List.take_add, g1]
  congr 1
  have : l ++ 10 :: t' = (l ++ [10]) ++ t' := by simp
  rw [this, show l.length + 1 = (l ++ [10]).length by simp, List.take_left]
theorem line_last {s l : Bs} {n : Nat} (h : n + 1 = (dots 10 s).length) (hl : (dots 10 s)[n]? = some l) : indexByte (s.drop (offV (dots 10 s) n)) 10 = -1 ∧ s.length = offV (dots 10 s) n + l.length := by
 obtain ⟨h1, h2⟩ := at_line s n (by omega)
 rcases dots_line 10 (s.drop (offV (dots 10 s) n)) with ⟨g1, g2⟩ | ⟨l', t', g1, g2, g3⟩
 ·rw [g2] at h2
  have hl' : (dots 10 s)[n]? = some (s.drop (offV (dots 10 s) n)) := by
   have := congrArg (fun x => x[0]?) h2
   simp at this
   exact this.symm
  rw [hl] at hl'
  obtain rfl := Option.some.inj hl'
  refine ⟨ib_none g1, ?_⟩
  rw [List.length_drop]; omega
 ·rw [g3] at h2
  have := congrArg List.length h2
  have := List.length_pos_iff.2 (dots_ne 10 t')
  simp at *
  omega
theorem line_le (s : Bs) : ∀ l ∈ dots 10 s, l.length ≤ s.length := fun l h => by
 obtain ⟨n, hn⟩ := List.getElem?_of_mem h
 have hlt : n < (dots 10 s).length := (List.getElem?_eq_some_iff.1 hn).1
 by_cases e : n + 1 < (dots 10 s).length
 ·have := (line_more e hn).2.2.1; omega
 ·have := (line_last (by omega) hn).2; omega
def goL : PS → Nat → List Bs → Option PS × Nat
 | p, i, [] => (some p, i)
 | p, i, [l] => if l = [] then (some p, i) else (none, i + 1)
 | p, i, l :: m :: r => match lineV p l with
  | some q => goL q (i + 1) (m :: r)
  | none => (none, i + 1)
theorem goL_last {ls : List Bs} {i : Nat} {p : PS} {l : Bs} (h : ls[i]? = some l) (hl : i + 1 = ls.length) : goL p i (ls.drop i) = if l = [] then (some p, i) else (none, i + 1) := by
 obtain ⟨h1, h2⟩ := List.getElem?_eq_some_iff.1 h
 rw [List.drop_eq_getElem_cons h1, h2, List.drop_of_length_le (by omega)]
 rfl
theorem goL_more {ls : List Bs} {i : Nat} {p : PS} {l : Bs} (h : ls[i]? = some l) (hl : i + 1 < ls.length) : goL p i (ls.drop i) = match lineV p l with | some q => goL q (i + 1) (ls.drop (i + 1)) | none => (none, i + 1) := by
 obtain ⟨h1, h2⟩ := List.getElem?_eq_some_iff.1 h
 rw [List.drop_eq_getElem_cons h1, h2, List.drop_eq_getElem_cons hl]
 conv => lhs; unfold goL
abbrev lk0 : Lck := ([], [], [])
def lkOf (p : PS) : Lck := (p.picks, p.needs, p.wish)
def parV (s : Bs) : Lck × Nat × Nat :=
 match goL ps0 0 (dots 10 s) with
 | (none, n) => (lk0, n, 4)
 | (some p, n) => if p.part ≠ 5 then (lk0, n + 1, 4)
  else if p.sum ≠ itoa (sumV (s.take (lastIndex s preSum).toNat) (s.take (lastIndex s preSum).toNat).length : Nat) then (lk0, 0, 8)
  else if lockV (lkOf p) = true then (lkOf p, 0, 0) else (lk0, 0, 1)
theorem entry_part {p p' : PS} {s : Bs} (he : entryV p s = some p') : p'.part = p.part := by
 unfold entryV at he
 split at he
 ·split at he
  ·split at he
   ·cases he
   ·simp only [Option.some.injEq] at he; subst he; rfl
  ·cases he
 ·split at he
  ·split at he
   ·split at he
    ·cases he
    ·split at he
     ·simp only [Option.some.injEq] at he; subst he; rfl
     ·simp only [Option.some.injEq] at he; subst he; rfl
   ·cases he
  ·cases he
theorem line_five {p p' : PS} {s : Bs} (he : lineV p s = some p') (h5 : p'.part = 5) : p.part = 4 ∧ preSum.isPrefixOf s = true ∧ digV (s.drop 4) = true ∧ p'.sum = s.drop 4 := by
 unfold lineV at he
 split at he
 ·split at he
  ·simp only [Option.some.injEq] at he; subst he; simp at h5
  ·cases he
 ·split at he
  ·simp only [Option.some.injEq] at he; subst he; simp at h5
  ·have := entry_part he; omega
 ·split at he
  ·simp only [Option.some.injEq] at he; subst he; simp at h5
  ·cases he
 ·split at he
  ·simp only [Option.some.injEq] at he; subst he; simp at h5
  ·have := entry_part he; omega
 ·rename_i h4
  split at he
  ·rename_i h
   simp only [Option.some.injEq] at he; subst he
   exact ⟨h4, h.1, h.2, rfl⟩
  ·cases he
 ·cases he
def begV (ls : List Bs) : Nat → Nat
 | 0 => 0
 | n + 1 => if (linesV ls n).map PS.part = some 4 then offV ls n else begV ls n
theorem beg_at {s : Bs} {n : Nat} {p : PS} (h : n < (dots 10 s).length) (hp : linesV (dots 10 s) n = some p) (h5 : p.part = 5) : digV p.sum = true ∧ begV (dots 10 s) n ≤ s.length ∧ s.take (offV (dots 10 s) n) = s.take (begV (dots 10 s) n) ++ (preSum ++ (p.sum ++ [10])) := by
 cases n with
 | zero => simp only [linesV, Option.some.injEq] at hp; subst hp; simp [ps0] at h5
 | succ n =>
  obtain ⟨l, hl⟩ : ∃ l, (dots 10 s)[n]? = some l := ⟨_, List.getElem?_eq_getElem (by omega)⟩
  rw [linesV, hl] at hp
  split at hp
  ·rename_i p0 l0 e1 e2
   simp only [Option.some.injEq] at e2
   subst e2
   obtain ⟨g1, g2, g3, g4⟩ := line_five hp h5
   obtain ⟨k1, k2, k3, k4, k5⟩ := line_more h hl
   obtain ⟨a1, a2⟩ := at_line s n (by omega)
   have hb : begV (dots 10 s) (n + 1) = offV (dots 10 s) n := by
    rw [begV, e1]; simp [g1]
   rw [hb, g4]
   refine ⟨g3, a1, ?_⟩
   rw [k4]
   congr 1
   obtain ⟨t, ht⟩ := List.isPrefixOf_iff_prefix.1 g2
   rw [← ht]
   simp [preSum]
  ·cases hp
theorem last_at {a d : Bs} (h : digV d = true) : lastIndex (a ++ (preSum ++ (d ++ [10]))) preSum = (a.length : Int) := by
 have hd : d.all isD = true := by
  unfold digV at h
  simp only [Bool.and_eq_true] at h
  exact h.1.2
 have hocc : occAt (a ++ (preSum ++ (d ++ [10]))) preSum a.length = true := by
  unfold occAt; rw [List.drop_left]; exact List.isPrefixOf_iff_prefix.2 ⟨_, rfl⟩
 have hlen : (a ++ (preSum ++ (d ++ [10]))).length = a.length + 4 + d.length + 1 := by simp [preSum]; omega
 unfold lastIndex
 rw [if_pos (by rw [hlen]; simp [preSum]; omega)]
 rcases lastOcc_spec (a ++ (preSum ++ (d ++ [10]))) preSum ((a ++ (preSum ++ (d ++ [10]))).length - preSum.length + 1) with ⟨_, g⟩ | ⟨i, g1, g2, g3, g4⟩
 ·have := g a.length (by rw [hlen]; simp [preSum]; omega)
  rw [hocc] at this; cases this
 ·rw [g2]
  have h1 : ¬ i < a.length := fun q => by
   have := g4 a.length q (by rw [hlen]; simp [preSum]; omega)
   rw [hocc] at this; cases this
  have h2 : ¬ a.length < i := fun q => by
   have hc := occAt_head (c := 83) (t := [85, 77, 32]) rfl g3
   rw [List.getElem?_append_right (by omega)] at hc
   obtain ⟨k, hk⟩ : ∃ k, i - a.length = k + 1 := ⟨i - a.length - 1, by omega⟩
   rw [hk] at hc
   have hm : (83 : UInt8) ∈ ([85, 77, 32] ++ (d ++ [10]) : Bs) := by
    apply List.mem_of_getElem? (i := k)
    simpa [preSum] using hc
   simp at hm
   have := List.all_eq_true.1 hd 83 hm
   revert this; decide
  omega
structure SzOk (p : PS) (k m : Nat) : Prop where
 nl : p.needs.length = p.picks.length
 pl : p.picks.length ≤ k
 wl : p.wish.length ≤ k
 rl : ∀ r ∈ p.needs, r.length ≤ k
 ps : ∀ x ∈ p.picks, x.1.length ≤ m ∧ x.2.length ≤ m
 ns : ∀ r ∈ p.needs, ∀ x ∈ r, x.1.length ≤ m ∧ x.2.length ≤ m
 ws : ∀ x ∈ p.wish, x.1.length ≤ m ∧ x.2.length ≤ m
theorem cut_len (s sep : Bs) : (cut s sep).1.length ≤ s.length ∧ (cut s sep).2.1.length ≤ s.length := by
 rcases cut_cases s sep with ⟨a, r, h1, h2⟩ | ⟨h1, _⟩
 ·rw [h1]
  have := congrArg List.length h2
  simp at this
  simp; omega
 ·rw [h1]; simp
theorem nmd_len {s n i : Bs} {b : Bool} (h : nmdV s = some (n, i, b)) : n.length ≤ s.length ∧ i.length ≤ s.length := by
 have c1 := cut_len s [32, 40]
 have c2 := cut_len (cut s [32, 40]).2.1 [41]
 unfold nmdV at h
 simp only at h
 split at h
 ·cases h
 ·split at h
  ·simp only [Option.some.injEq, Prod.mk.injEq] at h
   obtain ⟨rfl, rfl, _⟩ := h
   exact ⟨c1.1, by simp⟩
  ·split at h
   ·simp only [Option.some.injEq, Prod.mk.injEq] at h
    obtain ⟨rfl, rfl, _⟩ := h
    exact ⟨c1.1, by omega⟩
   ·cases h
theorem SzOk.up {p : PS} {k k' m : Nat} (h : SzOk p k m) (hk : k ≤ k') : SzOk p k' m :=
 ⟨h.nl, by have := h.pl; omega, by have := h.wl; omega, fun r hr => by have := h.rl r hr; omega, h.ps, h.ns, h.ws⟩
theorem entry_sz {p p' : PS} {s : Bs} {k m : Nat} (he : entryV p s = some p') (h : SzOk p k m) (hs : s.length ≤ m) : SzOk p' (k + 1) m := by
 have hu := h.up (Nat.le_succ k)
 obtain ⟨nl, pl, wl, rl, ps, ns, ws⟩ := hu
 have rk := h.rl
 have pk := h.pl
 have wk := h.wl
 unfold entryV at he
 split at he
 ·split at he
  ·rename_i n i b hn
   have hln := nmd_len hn
   simp only [List.length_drop] at hln
   split at he
   ·cases he
   ·simp only [Option.some.injEq] at he; subst he
    refine ⟨by simpa using nl, pl, wl, fun r hr => ?_, ps, fun r hr => ?_, ws⟩
    ·rcases List.mem_or_eq_of_mem_set hr with h1 | h1
     ·exact rl r h1
     ·subst h1
      simp only [List.length_append, List.length_singleton]
      have : (p.needs.getD (p.picks.length - 1) []).length ≤ k := by
       rw [List.getD_eq_getElem?_getD]
       cases hg : p.needs[p.picks.length - 1]? with
       | none => simp
       | some r => exact rk r (List.mem_of_getElem? hg)
      omega
    ·rcases List.mem_or_eq_of_mem_set hr with h1 | h1
     ·exact ns r h1
     ·subst h1
      intro x hx
      rcases List.mem_append.1 hx with h2 | h2
      ·rw [List.getD_eq_getElem?_getD] at h2
       cases hg : p.needs[p.picks.length - 1]? with
       | none => rw [hg] at h2; simp at h2
       | some r => rw [hg] at h2; exact ns r (List.mem_of_getElem? hg) x h2
      ·simp at h2; subst h2
       exact ⟨by show n.length ≤ m; omega, by show i.length ≤ m; omega⟩
  ·cases he
 ·split at he
  ·split at he
   ·rename_i n i b hn
    have hln := nmd_len hn
    simp only [List.length_drop] at hln
    have hx1 : n.length ≤ m ∧ i.length ≤ m := by omega
    split at he
    ·cases he
    ·split at he
     ·simp only [Option.some.injEq] at he; subst he
      refine ⟨nl, pl, by simp; omega, rl, ps, ns, fun x hx => ?_⟩
      rcases List.mem_append.1 hx with h2 | h2
      ·exact ws x h2
      ·simp at h2; subst h2; exact hx1
     ·simp only [Option.some.injEq] at he; subst he
      refine ⟨by simpa using nl, by simp; omega, wl, fun r hr => ?_, fun x hx => ?_, fun r hr => ?_, ws⟩
      ·rcases List.mem_append.1 hr with h2 | h2
       ·exact rl r h2
       ·simp at h2; subst h2; simp
      ·rcases List.mem_append.1 hx with h2 | h2
       ·exact ps x h2
       ·simp at h2; subst h2; exact hx1
      ·rcases List.mem_append.1 hr with h2 | h2
       ·exact ns r h2
       ·simp at h2; subst h2; simp
   ·cases he
  ·cases he
theorem line_sz {p p' : PS} {s : Bs} {k m : Nat} (he : lineV p s = some p') (h : SzOk p k m) (hs : s.length ≤ m) : SzOk p' (k + 1) m := by
 have hu := h.up (Nat.le_succ k)
 unfold lineV at he
 split at he
 ·split at he
  ·simp only [Option.some.injEq] at he; subst he; exact ⟨hu.nl, hu.pl, hu.wl, hu.rl, hu.ps, hu.ns, hu.ws⟩
  ·cases he
 ·split at he
  ·simp only [Option.some.injEq] at he; subst he; exact ⟨hu.nl, hu.pl, hu.wl, hu.rl, hu.ps, hu.ns, hu.ws⟩
  ·exact entry_sz he h hs
 ·split at he
  ·simp only [Option.some.injEq] at he; subst he; exact ⟨hu.nl, hu.pl, hu.wl, hu.rl, hu.ps, hu.ns, hu.ws⟩
  ·cases he
 ·split at he
  ·simp only [Option.some.injEq] at he; subst he; exact ⟨hu.nl, hu.pl, hu.wl, hu.rl, hu.ps, hu.ns, hu.ws⟩
  ·exact entry_sz he h hs
 ·split at he
  ·simp only [Option.some.injEq] at he; subst he; exact ⟨hu.nl, hu.pl, hu.wl, hu.rl, hu.ps, hu.ns, hu.ws⟩
  ·cases he
 ·cases he
theorem lines_sz (s : Bs) : ∀ n p, linesV (dots 10 s) n = some p → SzOk p n s.length
 | 0, p, h => by
  simp only [linesV, Option.some.injEq] at h; subst h
  exact ⟨rfl, by simp [ps0], by simp [ps0], by simp [ps0], by simp [ps0], by simp [ps0], by simp [ps0]⟩
 | n + 1, p, h => by
  rw [linesV] at h
  split at h
  ·rename_i p0 l e1 e2
   exact line_sz h (lines_sz s n p0 e1) (line_le s l (List.mem_of_getElem? e2))
  ·cases h
theorem linesV_step {ls : List Bs} {n : Nat} {p : PS} {l : Bs} (h1 : linesV ls n = some p) (h2 : ls[n]? = some l) : linesV ls (n + 1) = lineV p l := by
 rw [linesV, h1, h2]
theorem parV_form {s : Bs} {n : Nat} (h : goL ps0 0 (dots 10 s) = (none, n)) : parV s = (lk0, n, 4) := by unfold parV; rw [h]
theorem parV_short {s : Bs} {n : Nat} {p : PS} (h : goL ps0 0 (dots 10 s) = (some p, n)) (h5 : p.part ≠ 5) : parV s = (lk0, n + 1, 4) := by
 unfold parV; rw [h]; simp only; rw [if_pos h5]
theorem parV_full {s : Bs} {n b : Nat} {p : PS} (h : goL ps0 0 (dots 10 s) = (some p, n)) (h5 : p.part = 5) (hb : lastIndex s preSum = (b : Int)) :
  parV s = if p.sum ≠ itoa (sumV (s.take b) (s.take b).length : Nat) then (lk0, 0, 8) else if lockV (lkOf p) = true then (lkOf p, 0, 0) else (lk0, 0, 1) := by
 unfold parV; rw [h]; simp only; rw [if_neg (by simp [h5]), hb, Int.toNat_natCast]
theorem last_beg {s : Bs} {n : Nat} {p : PS} (h : n + 1 = (dots 10 s).length) (hl : (dots 10 s)[n]? = some []) (hp : linesV (dots 10 s) n = some p) (h5 : p.part = 5) : digV p.sum = true ∧ begV (dots 10 s) n ≤ s.length ∧ lastIndex s preSum = (begV (dots 10 s) n : Int) := by
 obtain ⟨h1, h2, h3⟩ := beg_at (by omega) hp h5
 obtain ⟨_, k2⟩ := line_last h hl
 refine ⟨h1, h2, ?_⟩
 rw [List.length_nil, Nat.add_zero] at k2
 rw [← k2, List.take_length] at h3
 have := last_at (a := s.take (begV (dots 10 s) n)) h1
 rw [← h3, List.length_take, Nat.min_eq_left h2] at this
 exact this
/-! a lock's text -/
def wantL (ind : Bs) (n : Prs) : Bs := if n.2 = [] then ind ++ (n.1 ++ [10]) else ind ++ (n.1 ++ ([32, 40] ++ (n.2 ++ [41, 10])))
def pickL (p : Prs) : Bs := [32, 32] ++ (p.1 ++ ([32, 40] ++ (p.2 ++ [41, 10])))
def gemsH : Bs := [71, 69, 77, 83, 10]
def wishH : Bs := [10, 87, 73, 83, 72, 10]
def ndsT (ind : Bs) (l : List Prs) (k : Nat) : Bs := (l.take k).flatMap (wantL ind)
def pksT (L : Lck) : Nat → Bs
 | 0 => gemsH
 | i + 1 => pksT L i ++ (pickL (L.1.getD i ([], [])) ++ ndsT pre4 (L.2.1.getD i []) (L.2.1.getD i []).length)
def headT (L : Lck) : Bs := pksT L L.1.length ++ (wishH ++ (ndsT pre2 L.2.2 L.2.2.length ++ [10]))
def textV (L : Lck) : Bs := headT L ++ (preSum ++ (itoa (sumV (headT L) (headT L).length : Nat) ++ [10]))
theorem ndsT_step {ind : Bs} {l : List Prs} {k : Nat} {x : Prs} (h : l[k]? = some x) : ndsT ind l (k + 1) = ndsT ind l k ++ wantL ind x := by
 unfold ndsT; rw [List.take_add_one, h]; simp
theorem ndsT_zero (ind : Bs) (l : List Prs) : ndsT ind l 0 = [] := rfl
theorem pksT_step {L : Lck} {i : Nat} {x : Prs} {r : List Prs} (h : L.1[i]? = some x) (hr : L.2.1[i]? = some r) : pksT L (i + 1) = pksT L i ++ (pickL x ++ ndsT pre4 r r.length) := by
 have e1 : L.1.getD i ([], []) = x := by simp [List.getD, h]
 have e2 : L.2.1.getD i [] = r := by simp [List.getD, hr]
 rw [pksT, e1, e2]
theorem pksT_zero (L : Lck) : pksT L 0 = gemsH := rfl
theorem wantL_len (ind : Bs) (n : Prs) : (wantL ind n).length ≤ ind.length + n.1.length + n.2.length + 4 := by
 unfold wantL; split <;> simp <;> omega
theorem ndsT_len {ind : Bs} {l : List Prs} (hi : ind.length ≤ 4) (h : ∀ x ∈ l, x.1.length ≤ 1000000 ∧ x.2.length ≤ 1000000) : ∀ k, (ndsT ind l k).length ≤ k * 2000008
 | 0 => by simp [ndsT]
 | k + 1 => by
  have ih := ndsT_len hi h k
  by_cases hk : k < l.length
  ·have hx := List.getElem?_eq_getElem hk
   have hb := h _ (List.getElem_mem hk)
   have := wantL_len ind l[k]
   have e : (k + 1) * 2000008 = k * 2000008 + 2000008 := Nat.succ_mul _ _
   rw [ndsT_step hx, List.length_append, e]
   refine Nat.add_le_add ih ?_
   omega
  ·have : ndsT ind l (k + 1) = ndsT ind l k := by
    unfold ndsT; rw [List.take_of_length_le (by omega), List.take_of_length_le (by omega)]
   have e : (k + 1) * 2000008 = k * 2000008 + 2000008 := Nat.succ_mul _ _
   rw [this]; exact Nat.le_trans ih (by rw [e]; exact Nat.le_add_right _ _)
theorem pksT_len {L : Lck} (hN : ∀ r ∈ L.2.1, r.length ≤ 6 ∧ ∀ x ∈ r, x.1.length ≤ 1000000 ∧ x.2.length ≤ 1000000) (hP : ∀ x ∈ L.1, x.1.length ≤ 1000000 ∧ x.2.length ≤ 1000000) : ∀ i, (pksT L i).length ≤ 5 + i * 14000054
 | 0 => by simp [pksT, gemsH]
 | i + 1 => by
  have ih := pksT_len hN hP i
  have h1 : (pickL (L.1.getD i ([], []))).length ≤ 2000006 := by
   rw [List.getD_eq_getElem?_getD]
   cases hx : L.1[i]? with
   | none => simp [pickL]
   | some x => have := hP x (List.mem_of_getElem? hx); simp [pickL]; omega
  have h2 : (ndsT pre4 (L.2.1.getD i []) (L.2.1.getD i []).length).length ≤ 6 * 2000008 := by
   rw [List.getD_eq_getElem?_getD]
   cases hx : L.2.1[i]? with
   | none => simp [ndsT]
   | some r =>
    have := hN r (List.mem_of_getElem? hx)
    have q := ndsT_len (ind := pre4) (l := r) (by decide) this.2 r.length
    simp only [Option.getD_some]
    exact Nat.le_trans q (Nat.mul_le_mul_right _ this.1)
  have e : (i + 1) * 14000054 = i * 14000054 + 14000054 := Nat.succ_mul _ _
  rw [pksT, e]
  simp only [List.length_append]
  obtain ⟨q, hq⟩ : ∃ q, i * 14000054 = q := ⟨_, rfl⟩
  rw [hq] at ih ⊢
  clear hq e
  have h2' : (ndsT pre4 (L.2.1.getD i []) (L.2.1.getD i []).length).length ≤ 12000048 := Nat.le_trans h2 (by decide)
  clear h2
  omega
theorem lockV_parts {L : Lck} (h : lockV L = true) : L.1.length ≤ 60 ∧ L.2.1.length = L.1.length ∧ needsV 8 L.2.2 = true ∧ pickTo L L.1.length = true := by
 unfold lockV at h
 simp only [Bool.and_eq_true, decide_eq_true_eq] at h
 exact ⟨h.1.1.1, h.1.1.2, h.1.2, h.2⟩
theorem pickTo_at {L : Lck} : ∀ {n i : Nat}, pickTo L n = true → i < n → pickAt L i = true
 | 0, i, _, h => absurd h (by omega)
 | n + 1, i, h, hi => by
  rw [pickTo, Bool.and_eq_true] at h
  by_cases e : i = n
  ·subst e; exact h.2
  ·exact pickTo_at h.1 (by omega)
theorem needTo_at {l : List Prs} : ∀ {n i : Nat}, needTo l n = true → i < n → needAt l i = true
 | 0, i, _, h => absurd h (by omega)
 | n + 1, i, h, hi => by
  rw [needTo, Bool.and_eq_true] at h
  by_cases e : i = n
  ·subst e; exact h.2
  ·exact needTo_at h.1 (by omega)
theorem lockV_pick {L : Lck} (h : lockV L = true) {i : Nat} {x : Prs} {r : List Prs} (hx : L.1[i]? = some x) (hr : L.2.1[i]? = some r) : nameV x.1 = true ∧ (readV x.2).isSome = true ∧ needsV 6 r = true := by
 obtain ⟨_, _, _, h4⟩ := lockV_parts h
 have := pickTo_at h4 (List.getElem?_eq_some_iff.1 hx).1
 unfold pickAt at this
 rw [hx] at this
 have e2 : L.2.1.getD i [] = r := by simp [List.getD, hr]
 simp only [e2, Bool.and_eq_true] at this
 exact ⟨this.1.1.1, this.1.1.2, this.2⟩
theorem needsV_len {m : Nat} {l : List Prs} (h : needsV m l = true) : l.length ≤ m := by
 unfold needsV at h; simp at h; exact h.2
theorem lockV_needs {L : Lck} (h : lockV L = true) : ∀ r ∈ L.2.1, r.length ≤ 6 := fun r hr => by
 obtain ⟨h1, h2, h3, h4⟩ := lockV_parts h
 obtain ⟨i, hi⟩ := List.getElem?_of_mem hr
 have hlt := (List.getElem?_eq_some_iff.1 hi).1
 have hx := List.getElem?_eq_getElem (l := L.1) (i := i) (by omega)
 exact needsV_len (lockV_pick h hx hi).2.2
/-! a lock's text is read as the lock -/
theorem join_no {k : UInt8} {ps : List Bs} {sep : Bs} (h : ∀ p ∈ ps, k ∉ p) (hs : k ∉ sep) : k ∉ join ps sep := by
 cases ps with
 | nil => simp [join_nil]
 | cons x r =>
  rw [join_cons, joinTail]
  intro hm
  rcases List.mem_append.1 hm with hm | hm
  ·exact h x (by simp) hm
  ·obtain ⟨q, hq, hm⟩ := List.mem_flatten.1 hm
   obtain ⟨p, hp, rfl⟩ := List.mem_map.1 hq
   rcases List.mem_append.1 hm with hm | hm
   ·exact hs hm
   ·exact h p (by simp [hp]) hm
def outC (k : UInt8) : Prop := isL k = false ∧ isD k = false ∧ k ≠ 46 ∧ k ≠ 32 ∧ k ≠ 44 ∧ k ≠ 61 ∧ k ≠ 33 ∧ k ≠ 62 ∧ k ≠ 60 ∧ k ≠ 126
theorem out10 : outC 10 := by unfold outC; decide
theorem out41 : outC 41 := by unfold outC; decide
theorem segT_out {k : UInt8} (hk : outC k) {x : Seg} (h : SegOk x) : k ∉ segT x := by
 rcases h with ⟨h1, h2, h3, h4⟩ | ⟨h1, h2, h3⟩
 ·simp only [segT, ne_eq, h1, not_false_eq_true, if_true]
  intro hm
  have := List.all_eq_true.1 h3 k hm
  rw [hk.1] at this; cases this
 ·simp only [segT, h1, ne_eq, not_true_eq_false, if_false]
  unfold itoa
  rw [if_neg (by omega)]
  intro hm
  have := decDigits_isD _ k hm
  rw [hk.2.1] at this; cases this
theorem textV_out {k : UInt8} (hk : outC k) {l : List Seg} (h : ∀ x ∈ l, SegOk x) : k ∉ Go.Ver.textV l := by
 unfold Go.Ver.textV
 refine join_no (fun p hp => ?_) ?_
 ·obtain ⟨x, hx, rfl⟩ := List.mem_map.1 hp
  exact segT_out hk (h x hx)
 ·have := hk.2.2.1
  simpa using this
theorem readV_out {k : UInt8} (hk : outC k) {v : Bs} (h : (readV v).isSome = true) : k ∉ v := by
 obtain ⟨l, hl⟩ := Option.isSome_iff_exists.1 h
 obtain ⟨h1, h2, _⟩ := readV_ok hl
 rw [← h2]
 exact textV_out hk h1.2.2
theorem readV_ne {v : Bs} (h : (readV v).isSome = true) : v ≠ [] := fun q => by
 subst q
 have : readV [] = none := by decide
 rw [this] at h; cases h
theorem ops_out {k : UInt8} (hk : outC k) {o : Bs} (h : o ∈ opsV) : k ∉ o := by
 obtain ⟨_, _, _, _, _, h61, h33, h62, h60, h126⟩ := hk
 simp only [opsV, List.mem_cons, List.not_mem_nil, or_false] at h
 rcases h with rfl | rfl | rfl | rfl | rfl | rfl | rfl <;> simp [h61, h33, h62, h60, h126]
theorem condsV_out {k : UInt8} (hk : outC k) {w : Bs} (h : (condsV w).isSome = true) : k ∉ w := by
 obtain ⟨l, hl⟩ := Option.isSome_iff_exists.1 h
 obtain ⟨h1, h2, _⟩ := condsV_ok hl
 rw [← h1]
 unfold textR
 refine join_no (fun p hp => ?_) ?_
 ·obtain ⟨c, hc, rfl⟩ := List.mem_map.1 hp
  unfold textC
  have q1 := ops_out hk (h2 c hc).1
  have q2 := textV_out hk (h2 c hc).2.1.2.2
  simp [q1, q2, hk.2.2.2.1]
 ·simp [hk.2.2.2.1, hk.2.2.2.2.1]
theorem name_nm {g : Bs} (h : nameV g = true) : g ≠ [] ∧ g.all nmC = true ∧ g.length ≤ 20 := by
 cases g with
 | nil => simp [nameV] at h
 | cons c r =>
  simp only [nameV, Bool.and_eq_true, decide_eq_true_eq] at h
  refine ⟨by simp, ?_, by simp; omega⟩
  simp only [List.all_cons, Bool.and_eq_true]
  refine ⟨?_, h.1.2⟩
  unfold nmC; simp [h.1.1]
def bodyL (n : Prs) : Bs := if n.2 = [] then n.1 else n.1 ++ ([32, 40] ++ (n.2 ++ [41]))
theorem nmd_body {n : Prs} (h : nameV n.1 = true) (h41 : 41 ∉ n.2) : nmdV (bodyL n) = some (n.1, n.2, decide (n.2 ≠ [])) := by
 obtain ⟨g, w⟩ := n
 obtain ⟨h1, h2, _⟩ := name_nm h
 simp only at h1 h2 h41
 have h32 : (32 : UInt8) ∉ g := nm_no h2 (by decide)
 unfold bodyL
 simp only
 split
 ·rename_i e
  subst e
  have := nmd_eq (cut_no (t := [40]) h32)
  rw [this, if_neg (by simp [h1, h2]), if_pos rfl]
  simp
 ·rename_i e
  have hc : cut (g ++ ([32, 40] ++ (w ++ [41]))) [32, 40] = (g, w ++ [41], true) := by
   have := cut_at (a := g) (c := 32) (t := [40]) (r := w ++ [41]) h32
   exact this
  have hd : cut (w ++ [41]) [41] = (w, [], true) := by
   have := cut_at (a := w) (c := 41) (t := []) (r := []) h41
   rw [← this]; simp
  rw [nmd_eq hc, if_neg (by simp [h1, h2]), if_neg (by simp), hd, if_pos ⟨rfl, rfl, e⟩]
  simp [e]
theorem body_out {n : Prs} (h : nameV n.1 = true) (h10 : 10 ∉ n.2) : 10 ∉ bodyL n := by
 obtain ⟨_, h2, _⟩ := name_nm h
 have hg : (10 : UInt8) ∉ n.1 := nm_no h2 (by decide)
 unfold bodyL
 split
 ·exact hg
 ·simp [hg, h10]
theorem wantL_body (ind : Bs) (n : Prs) : wantL ind n = (ind ++ bodyL n) ++ [10] := by
 unfold wantL bodyL; split <;> simp
theorem pickL_body {n : Prs} (h : n.2 ≠ []) : pickL n = (pre2 ++ bodyL n) ++ [10] := by
 unfold pickL bodyL; rw [if_neg h]; simp [pre2]
def Reads (p : PS) (t : Bs) (q : PS) : Prop := ∀ i s, ∃ j, goL p i (dots 10 (t ++ s)) = goL q j (dots 10 s)
theorem Reads.nil (p : PS) : Reads p [] p := fun i s => ⟨i, rfl⟩
theorem Reads.trans {p q r : PS} {t u : Bs} (h : Reads p t q) (k : Reads q u r) : Reads p (t ++ u) r := fun i s => by
 obtain ⟨j, hj⟩ := h i (u ++ s)
 obtain ⟨m, hm⟩ := k j s
 exact ⟨m, by rw [List.append_assoc, hj, hm]⟩
theorem Reads.line {p q : PS} {l : Bs} (h : 10 ∉ l) (hq : lineV p l = some q) : Reads p (l ++ [10]) q := fun i s => by
 refine ⟨i + 1, ?_⟩
 rw [List.append_assoc, show ([10] : Bs) ++ s = 10 :: s from rfl, dots_app _ h]
 obtain ⟨m, r, hm⟩ : ∃ m r, dots 10 s = m :: r := by
  cases hd : dots 10 s with
  | nil => exact absurd hd (dots_ne 10 s)
  | cons m r => exact ⟨m, r, rfl⟩
 rw [hm]
 conv => lhs; unfold goL
 rw [hq]
theorem lineV_need {P : List Prs} {N : List (List Prs)} {n : Prs} {r : List Prs} (hn : N.length = P.length) (hP : P ≠ []) (hr : N[P.length - 1]? = some r) (h : nameV n.1 = true) (h41 : 41 ∉ n.2) :
  lineV ⟨1, P, N, [], []⟩ (pre4 ++ bodyL n) = some ⟨1, P, N.set (P.length - 1) (r ++ [n]), [], []⟩ := by
 have hd := nmd_body h h41
 have e : (pre4 ++ bodyL n).drop 4 = bodyL n := rfl
 have hp : pre4.isPrefixOf (pre4 ++ bodyL n) = true := List.isPrefixOf_iff_prefix.2 ⟨_, rfl⟩
 have e2 : N.getD (P.length - 1) [] = r := by simp [List.getD, hr]
 simp only [lineV]
 rw [if_neg (by simp [pre4])]
 unfold entryV
 rw [if_pos hp, e, hd]
 simp only
 rw [if_neg (by simp [hP]), e2]
theorem lineV_pick {P : List Prs} {N : List (List Prs)} {n : Prs} (h : nameV n.1 = true) (h41 : 41 ∉ n.2) (hne : n.2 ≠ []) :
  lineV ⟨1, P, N, [], []⟩ (pre2 ++ bodyL n) = some ⟨1, P ++ [n], N ++ [[]], [], []⟩ := by
 have hd := nmd_body h h41
 obtain ⟨h1, h2, _⟩ := name_nm h
 have e : (pre2 ++ bodyL n).drop 2 = bodyL n := rfl
 have hp : pre2.isPrefixOf (pre2 ++ bodyL n) = true := List.isPrefixOf_iff_prefix.2 ⟨_, rfl⟩
 have hq : ¬ pre4.isPrefixOf (pre2 ++ bodyL n) = true := fun q => by
  obtain ⟨t, ht⟩ := List.isPrefixOf_iff_prefix.1 q
  have h32 : (32 : UInt8) ∉ n.1 := nm_no h2 (by decide)
  simp only [pre4, pre2, List.cons_append, List.nil_append, List.cons.injEq, true_and] at ht
  unfold bodyL at ht
  rw [if_neg hne] at ht
  cases hg : n.1 with
  | nil => exact h1 hg
  | cons c r =>
   rw [hg] at ht h32
   simp at ht
   exact h32 (by rw [ht.1]; simp)
 simp only [lineV]
 rw [if_neg (by simp [pre2])]
 unfold entryV
 rw [if_neg hq, if_pos hp, e, hd]
 simp only
 rw [if_neg (by simp [hne]), if_neg (by decide)]
theorem lineV_wish {P : List Prs} {N : List (List Prs)} {W : List Prs} {n : Prs} (h : nameV n.1 = true) (h41 : 41 ∉ n.2) :
  lineV ⟨3, P, N, W, []⟩ (pre2 ++ bodyL n) = some ⟨3, P, N, W ++ [n], []⟩ := by
 have hd := nmd_body h h41
 obtain ⟨h1, h2, _⟩ := name_nm h
 have e : (pre2 ++ bodyL n).drop 2 = bodyL n := rfl
 have hp : pre2.isPrefixOf (pre2 ++ bodyL n) = true := List.isPrefixOf_iff_prefix.2 ⟨_, rfl⟩
 have hq : ¬ pre4.isPrefixOf (pre2 ++ bodyL n) = true := fun q => by
  obtain ⟨t, ht⟩ := List.isPrefixOf_iff_prefix.1 q
  have h32 : (32 : UInt8) ∉ n.1 := nm_no h2 (by decide)
  simp only [pre4, pre2, List.cons_append, List.nil_append, List.cons.injEq, true_and] at ht
  unfold bodyL at ht
  cases hg : n.1 with
  | nil => exact h1 hg
  | cons c r =>
   rw [hg] at ht h32
   split at ht
   ·simp at ht
    exact h32 (by rw [ht.1]; simp)
   ·simp at ht
    exact h32 (by rw [ht.1]; simp)
 simp only [lineV]
 rw [if_neg (by simp [pre2])]
 unfold entryV
 rw [if_neg hq, if_pos hp, e, hd]
 simp only
 rw [if_neg (by simp)]
 simp
theorem reads_needs {P : List Prs} {N : List (List Prs)} {r0 : List Prs} (hn : N.length + 1 = P.length) (l : List Prs) (h : ∀ n ∈ l, nameV n.1 = true ∧ (condsV n.2).isSome = true) : ∀ k, k ≤ l.length →
  Reads ⟨1, P, N ++ [[]], [], []⟩ (ndsT pre4 l k) ⟨1, P, N ++ [l.take k], [], []⟩
 | 0, _ => Reads.nil _
 | k + 1, hk => by
  have ih := reads_needs (r0 := r0) hn l h k (by omega)
  have hx := List.getElem?_eq_getElem (l := l) (i := k) (by omega)
  obtain ⟨a1, a2⟩ := h _ (List.getElem_mem (show k < l.length by omega))
  have htk : l.take (k + 1) = l.take k ++ [l[k]] := by rw [List.take_add_one, hx]; rfl
  rw [ndsT_step hx, wantL_body]
  refine ih.trans (Reads.line ?_ ?_)
  ·have := body_out a1 (condsV_out out10 a2)
   simp [pre4, this]
  ·have hP : P ≠ [] := fun q => by rw [q] at hn; simp at hn
   have hi : P.length - 1 = N.length := by omega
   have hr : (N ++ [l.take k])[P.length - 1]? = some (l.take k) := by rw [hi]; simp
   rw [lineV_need (by simp; omega) hP hr a1 (condsV_out out41 a2), hi, htk]
   congr 2
   rw [List.set_append_right _ _ (by omega)]
   simp
theorem needsV_each {m : Nat} {l : List Prs} (h : needsV m l = true) : ∀ n ∈ l, nameV n.1 = true ∧ (condsV n.2).isSome = true := fun n hn => by
 unfold needsV at h
 rw [Bool.and_eq_true] at h
 obtain ⟨i, hi⟩ := List.getElem?_of_mem hn
 have := needTo_at h.1 (List.getElem?_eq_some_iff.1 hi).1
 unfold needAt at this
 rw [hi] at this
 simp only [Bool.and_eq_true] at this
 exact this.1
theorem reads_picks {L : Lck} (h : lockV L = true) : ∀ i, i ≤ L.1.length → Reads ps0 (pksT L i) ⟨1, L.1.take i, L.2.1.take i, [], []⟩
 | 0, _ => by
  have := Reads.line (p := ps0) (q := ⟨1, [], [], [], []⟩) (l := gemsT) (by decide) (by simp [lineV, ps0])
  simpa [pksT, gemsH, gemsT] using this
 | i + 1, hi => by
  obtain ⟨v1, v2, v3, v4⟩ := lockV_parts h
  have ih := reads_picks h i (by omega)
  have hx := List.getElem?_eq_getElem (l := L.1) (i := i) (by omega)
  have hr := List.getElem?_eq_getElem (l := L.2.1) (i := i) (by omega)
  obtain ⟨a1, a2, a3⟩ := lockV_pick h hx hr
  have t1 : L.1.take (i + 1) = L.1.take i ++ [L.1[i]] := by rw [List.take_add_one, hx]; rfl
  have t2 : L.2.1.take (i + 1) = L.2.1.take i ++ [L.2.1[i]] := by rw [List.take_add_one, hr]; rfl
  have hne := readV_ne a2
  rw [pksT_step hx hr]
  refine ih.trans (Reads.trans (q := ⟨1, L.1.take i ++ [L.1[i]], L.2.1.take i ++ [[]], [], []⟩) ?_ ?_)
  ·rw [pickL_body hne]
   refine Reads.line ?_ (lineV_pick a1 (readV_out out41 a2) hne)
   have := body_out a1 (readV_out out10 a2)
   simp [pre2, this]
  ·rw [t1, t2]
   have := reads_needs (P := L.1.take i ++ [L.1[i]]) (N := L.2.1.take i) (r0 := []) (by simp; omega) L.2.1[i] (needsV_each a3) _ (Nat.le_refl _)
   rwa [List.take_length] at this
theorem reads_wish {P : List Prs} {N : List (List Prs)} (l : List Prs) (h : ∀ n ∈ l, nameV n.1 = true ∧ (condsV n.2).isSome = true) : ∀ k, k ≤ l.length →
  Reads ⟨3, P, N, [], []⟩ (ndsT pre2 l k) ⟨3, P, N, l.take k, []⟩
 | 0, _ => Reads.nil _
 | k + 1, hk => by
  have ih := reads_wish (P := P) (N := N) l h k (by omega)
  have hx := List.getElem?_eq_getElem (l := l) (i := k) (by omega)
  obtain ⟨a1, a2⟩ := h _ (List.getElem_mem (show k < l.length by omega))
  have htk : l.take (k + 1) = l.take k ++ [l[k]] := by rw [List.take_add_one, hx]; rfl
  rw [ndsT_step hx, wantL_body]
  refine ih.trans (Reads.line ?_ ?_)
  ·have := body_out a1 (condsV_out out10 a2)
   simp [pre2, this]
  ·rw [lineV_wish a1 (condsV_out out41 a2), htk]
theorem reads_head {L : Lck} (h : lockV L = true) : Reads ps0 (headT L) ⟨4, L.1, L.2.1, L.2.2, []⟩ := by
 obtain ⟨v1, v2, v3, v4⟩ := lockV_parts h
 have h1 := reads_picks h L.1.length (Nat.le_refl _)
 rw [List.take_length, ← v2, List.take_length, v2] at h1
 have h2 : Reads ⟨1, L.1, L.2.1, [], []⟩ ([] ++ [10]) ⟨2, L.1, L.2.1, [], []⟩ := Reads.line (by simp) (by simp [lineV])
 have h3 : Reads ⟨2, L.1, L.2.1, [], []⟩ (wishT ++ [10]) ⟨3, L.1, L.2.1, [], []⟩ := Reads.line (by decide) (by simp [lineV])
 have h4 := reads_wish (P := L.1) (N := L.2.1) L.2.2 (needsV_each v3) L.2.2.length (Nat.le_refl _)
 rw [List.take_length] at h4
 have h5 : Reads ⟨3, L.1, L.2.1, L.2.2, []⟩ ([] ++ [10]) ⟨4, L.1, L.2.1, L.2.2, []⟩ := Reads.line (by simp) (by simp [lineV])
 have := h1.trans ((h2.trans h3).trans (h4.trans h5))
 exact this
theorem digV_dec (m : Nat) : digV (decDigits m) = true := by
 have hne := decDigits_ne m
 have hD := decDigits_isD m
 unfold digV
 simp only [Bool.and_eq_true, decide_eq_true_eq, Bool.or_eq_true, List.all_eq_true]
 refine ⟨⟨hne, hD⟩, ?_⟩
 by_cases h0 : m = 0
 ·subst h0; left; simp [decDigits]
 ·right; exact decDigits_head m (by omega)
theorem parV_text {L : Lck} (h : lockV L = true) : parV (textV L) = (L, 0, 0) := by
 have hh := reads_head h
 have hm := sumV_lt (headT L) (headT L).length
 obtain ⟨d, hd⟩ : ∃ d, itoa (sumV (headT L) (headT L).length : Nat) = d := ⟨_, rfl⟩
 have hd2 : d = decDigits (sumV (headT L) (headT L).length) := by rw [← hd]; unfold itoa; rw [if_neg (by omega), Int.toNat_natCast]
 have hdg : digV d = true := by rw [hd2]; exact digV_dec _
 have h10 : (10 : UInt8) ∉ d := fun q => by
  rw [hd2] at q
  have := decDigits_isD _ 10 q
  revert this; decide
 have hl : Reads ⟨4, L.1, L.2.1, L.2.2, []⟩ ((preSum ++ d) ++ [10]) ⟨5, L.1, L.2.1, L.2.2, d⟩ := by
  refine Reads.line (by simp [preSum, h10]) ?_
  simp only [lineV]
  rw [if_pos ⟨List.isPrefixOf_iff_prefix.2 ⟨d, rfl⟩, by rw [show (preSum ++ d).drop 4 = d from rfl]; exact hdg⟩]
  rfl
 obtain ⟨j, hj⟩ := (hh.trans hl) 0 []
 have ht : textV L = headT L ++ ((preSum ++ d) ++ [10]) := by unfold textV; rw [hd]; simp
 rw [List.append_nil, ← ht] at hj
 have hend : goL ⟨5, L.1, L.2.1, L.2.2, d⟩ j (dots 10 []) = (some ⟨5, L.1, L.2.1, L.2.2, d⟩, j) := rfl
 rw [hend] at hj
 have hla : lastIndex (textV L) preSum = ((headT L).length : Int) := by
  rw [ht]
  have := last_at (a := headT L) hdg
  rw [← this]; simp
 have hpf := parV_full hj rfl hla
 have htk : (textV L).take (headT L).length = headT L := by rw [ht]; simp
 rw [hpf, htk]
 simp only
 rw [if_neg (by simp [hd]), lkOf, if_pos h]
/-! sources: gems, versions, needs -/
abbrev Vrs := Bs × List Prs
abbrev Gm := Bs × List Vrs
abbrev Src := List Gm
def upTo (f : Nat → Bool) : Nat → Bool
 | 0 => true
 | n + 1 => upTo f n && f n
theorem upTo_bad {f : Nat → Bool} {n : Nat} (h : upTo f n = false) : ∀ m, n ≤ m → upTo f m = false
 | 0, hm => by
  have : n = 0 := by omega
  subst this; exact h
 | m + 1, hm => by
  by_cases e : n = m + 1
  ·subst e; exact h
  ·rw [upTo, upTo_bad h m (by omega)]; rfl
theorem upTo_at {f : Nat → Bool} : ∀ {n i : Nat}, upTo f n = true → i < n → f i = true
 | 0, i, _, h => absurd h (by omega)
 | n + 1, i, h, hi => by
  rw [upTo, Bool.and_eq_true] at h
  by_cases e : i = n
  ·subst e; exact h.2
  ·exact upTo_at h.1 (by omega)
theorem upTo_of {f : Nat → Bool} : ∀ {n : Nat}, (∀ i, i < n → f i = true) → upTo f n = true
 | 0, _ => rfl
 | n + 1, h => by rw [upTo, upTo_of (fun i hi => h i (by omega)), h n (by omega)]; rfl
theorem upTo_step {f : Nat → Bool} {n : Nat} (h : upTo f n = true) : upTo f (n + 1) = f n := by rw [upTo, h]; rfl
def apartAt (l : List Prs) (x : Prs) (k : Nat) : Bool := match l[k]? with
 | some y => decide (y.1 ≠ x.1)
 | none => true
def nuAt (l : List Prs) (i : Nat) : Bool := match l[i]? with
 | some x => nameV x.1 && (condsV x.2).isSome && upTo (apartAt l x) i
 | none => true
def nuV (most : Nat) (l : List Prs) : Bool := decide (l.length ≤ most) && upTo (nuAt l) l.length
theorem apart_step {l : List Prs} {x y : Prs} {k : Nat} (h : l[k]? = some y) (ht : upTo (apartAt l x) k = true) : upTo (apartAt l x) (k + 1) = decide (y.1 ≠ x.1) := by
 rw [upTo_step ht]; unfold apartAt; rw [h]
theorem nu_step {l : List Prs} {x : Prs} {i : Nat} (h : l[i]? = some x) (ht : upTo (nuAt l) i = true) : upTo (nuAt l) (i + 1) = (nameV x.1 && (condsV x.2).isSome && upTo (apartAt l x) i) := by
 rw [upTo_step ht]; unfold nuAt; rw [h]
def rankAt (l : List Vrs) (x : Vrs) (k : Nat) : Bool := match l[k]? with
 | some y => decide (compareP y.1 x.1 ≠ 0)
 | none => true
def vuAt (l : List Vrs) (i : Nat) : Bool := match l[i]? with
 | some x => (readV x.1).isSome && nuV 6 x.2 && upTo (rankAt l x) i
 | none => true
def vuV (l : List Vrs) : Bool := decide (l.length ≤ 12) && upTo (vuAt l) l.length
theorem rank_step {l : List Vrs} {x y : Vrs} {k : Nat} (h : l[k]? = some y) (ht : upTo (rankAt l x) k = true) : upTo (rankAt l x) (k + 1) = decide (compareP y.1 x.1 ≠ 0) := by
 rw [upTo_step ht]; unfold rankAt; rw [h]
theorem vu_step {l : List Vrs} {x : Vrs} {i : Nat} (h : l[i]? = some x) (ht : upTo (vuAt l) i = true) : upTo (vuAt l) (i + 1) = ((readV x.1).isSome && nuV 6 x.2 && upTo (rankAt l x) i) := by
 rw [upTo_step ht]; unfold vuAt; rw [h]
def suAt (s : Src) (i : Nat) : Bool := match s[i]? with
 | some g => nameV g.1 && (decide (i = 0) || (match s[i - 1]? with | some y => Op.bytesLess y.1 g.1 | none => true)) && vuV g.2
 | none => true
def suV (s : Src) : Bool := decide (s.length ≤ 15) && upTo (suAt s) s.length
theorem su_step {s : Src} {g : Gm} {i : Nat} (h : s[i]? = some g) (ht : upTo (suAt s) i = true) : upTo (suAt s) (i + 1) = (nameV g.1 && (decide (i = 0) || (match s[i - 1]? with | some y => Op.bytesLess y.1 g.1 | none => true)) && vuV g.2) := by
 rw [upTo_step ht]; unfold suAt; rw [h]
def chkV (s : Src) (w : List Prs) : Bool := suV s && nuV 8 w
/-! sizes -/
def Sz1 (x : Prs) : Prop := x.1.length ≤ 1000000 ∧ x.2.length ≤ 1000000
def SzN (l : List Prs) : Prop := l.length ≤ 1000000 ∧ ∀ x ∈ l, Sz1 x
def SzV (v : Vrs) : Prop := v.1.length ≤ 1000000 ∧ SzN v.2
def SzG (g : Gm) : Prop := g.1.length ≤ 1000000 ∧ g.2.length ≤ 1000000 ∧ ∀ v ∈ g.2, SzV v
def SzS (s : Src) : Prop := s.length ≤ 1000000 ∧ ∀ g ∈ s, SzG g
end Go.Lk
namespace Go.Proofs.YteekfnhhlcmcgaaGreatDoor
open Go.Eng Go.Wh Go.Ver Go.RowKit Go.Lk
set_option maxRecDepth 20000
attribute [local irreducible] AG CallA CallT AWp PCall ACall AgC
@[go_sem] abbrev cVr (v : Vrs) : List D := [dS v.1, dPs v.2]
@[go_sem] abbrev dVr (v : Vrs) : D := .agg [dS v.1, dPs v.2]
@[go_sem] abbrev dVrs (l : List Vrs) : D := .sl 2 (l.map cVr)
@[go_sem] abbrev cGm (g : Gm) : List D := [dS g.1, dVrs g.2]
@[go_sem] abbrev dGms (s : Src) : D := .sl 2 (s.map cGm)
@[go_sem] abbrev dSrc (s : Src) : D := .agg [dGms s]
theorem codeP_b (b : Bool) : codeP b = if b = true then 0 else 4 := rfl
set_option maxHeartbeats 8000000 in
theorem nu_spec (l : List Prs) (most : Nat) (hl : SzN l) (hm : most ≤ 1000000) : PCall Tryz.prog 107 [dPs l, dI most] fun r => r = dB (nuV most l) := by 
 refine pcall_of Tryz.func107 rfl rfl Tryz.ntmps107 (rs := [.tmp 4]) (tys := [4]) rfl rfl (by simp) ?_
 obtain ⟨hl0, hl1⟩ := hl
 have hbad := fun n (h : upTo (nuAt l) n = false) (hn : n ≤ l.length) => upTo_bad h l.length hn
 have hst := fun i x => @nu_step l x i
 have hz : upTo (nuAt l) 0 = true := rfl
 unfold nuV
 generalize upTo (nuAt l) = nt at *
 (refine awp_sr fun Y Yh => ?_; simp [go_sem]; ((repeat' (first|(refine ag_x ?_;simp [go_sem])|intro _|apply And.intro|(apply Yh;clear Yh Y)));all_goals first|apply Hold.mk|omega|assumption|skip))
 refine awp_seq_k fun K1 hK1 => ?_
 (refine awp_sr fun Y Yh => ?_; simp [go_sem]; ((repeat' (first|(refine ag_x ?_;simp [go_sem])|intro _|apply And.intro|(apply Yh;clear Yh Y)));all_goals first|apply Hold.mk|omega|assumption|skip))
 (refine awp_if fun T F hT hF => ?_; simp [go_sem]; refine BR.intro (fun h2 => hT ?_) (fun h2 => hF ?_); all_goals clear hT hF T F; try simp at h2) 
 ·have : ¬ l.length ≤ most := by omega
  (refine awp_sr fun Y Yh => ?_; simp [go_sem]; ((repeat' (first|(refine ag_x ?_;simp [go_sem])|intro _|apply And.intro|(apply Yh;clear Yh Y)));all_goals first|apply Hold.mk|omega|assumption|skip))
  (refine awp_ret ?_; simp [go_sem, this])
 ·have hle : l.length ≤ most := by omega
  refine awp_skip ?_
  refine hK1 _ ?_; clear hK1
  refine awp_seq_k fun K3 hK3 => ?_
  (refine awp_sr fun Y Yh => ?_; simp [go_sem]; ((repeat' (first|(refine ag_x ?_;simp [go_sem])|intro _|apply And.intro|(apply Yh;clear Yh Y)));all_goals first|apply Hold.mk|omega|assumption|skip))
  refine awp_block ?_
  refine awp_loop (σ := Nat) (fun i => ⟨[(0, dPs l), (1, dI most), (5, dI i)], []⟩) (fun i => i ≤ l.length ∧ nt i = true) (fun i => l.length - i) 0 ?_ ?_ ?_
  ·(refine cov_of ?_ ?_ <;> simp [go_sem])
  ·exact ⟨by omega, hz⟩
  rintro i ⟨hi, hn⟩
  refine awp_seq_k fun K4 hK4 => ?_
  (refine awp_sr fun Y Yh => ?_; simp [go_sem]; ((repeat' (first|(refine ag_x ?_;simp [go_sem])|intro _|apply And.intro|(apply Yh;clear Yh Y)));all_goals first|apply Hold.mk|omega|assumption|skip))
  (refine awp_if fun T F hT hF => ?_; simp [go_sem]; refine BR.intro (fun h5 => hT ?_) (fun h5 => hF ?_); all_goals clear hT hF T F; try simp at h5) 
  ·refine awp_skip ?_
   refine hK4 _ ?_; clear hK4
   obtain ⟨x, hx⟩ : ∃ x, l[i]? = some x := ⟨_, List.getElem?_eq_getElem (by omega)⟩
   have hxl := hl1 x (List.mem_of_getElem? hx)
   obtain ⟨hx1, hx2⟩ := hxl
   have N1 := risName_spec x.1 (by omega)
   have C1 := rCheck_spec x.2 hx2
   rw [codeP_b] at C1
   have hst1 := hst i x hx hn
   have hbad1 := fun h => hbad (i + 1) h (by omega)
   have hap := fun k y => @apart_step l x y k
   have hap0 : upTo (apartAt l x) 0 = true := rfl
   have hapb := fun n (h : upTo (apartAt l x) n = false) (hn : n ≤ i) => upTo_bad h i hn
   generalize upTo (apartAt l x) = ap at *
   generalize nameV x.1 = nb at *
   generalize (condsV x.2).isSome = cb at *
   refine awp_seq_k fun K6 hK6 => ?_
   refine awp_block ?_
   refine awp_seq_k fun K7 hK7 => ?_
   (refine awp_sr fun Y Yh => ?_; simp [go_sem, hx]; ((repeat' (first|(refine ag_x ?_;simp [go_sem, hx])|intro _|apply And.intro|(apply Yh;clear Yh Y)));all_goals first|apply Hold.mk|omega|assumption|skip))
   ((try refine CallT.toA ?_); refine callT_m (.inl ⟨rfl,rfl⟩) (by simp [go_sem]) ?_; intro args ha; simp [go_sem] at ha; subst ha; refine ⟨_, N1, ?_⟩; rintro _ rfl; simp [go_sem, hx]; ((repeat' (first|(refine ag_x ?_;simp [go_sem, hx])|intro _|apply And.intro|(apply Yh;clear Yh Y)));all_goals first|apply Hold.mk|omega|assumption|skip))
   (refine agc_f (dI (if cb = true then 0 else 4)) (.inl ⟨rfl,rfl⟩) ?_ rfl ?_; (intro hc args ha; simp [go_sem] at ha; subst ha; exact C1); simp [go_sem, hx]; ((repeat' (first|(refine ag_x ?_;simp [go_sem, hx])|intro _|apply And.intro|(apply Yh;clear Yh Y)));all_goals first|apply Hold.mk|omega|assumption|skip))
   cases nb with
   | false =>
    have hF := hbad1 (by rw [hst1]; simp)
    (refine awp_if fun T F hT hF => ?_; simp [go_sem]; refine hT ?_; clear hT hF T F)
    (refine awp_sr fun Y Yh => ?_; simp [go_sem]; ((repeat' (first|(refine ag_x ?_;simp [go_sem])|intro _|apply And.intro|(apply Yh;clear Yh Y)));all_goals first|apply Hold.mk|omega|assumption|skip))
    (refine awp_ret ?_; simp [go_sem, hF])
   | true =>
    cases cb with
    | false =>
     have hF := hbad1 (by rw [hst1]; simp)
     (refine awp_if fun T F hT hF => ?_; simp [go_sem]; refine hT ?_; clear hT hF T F)
     (refine awp_sr fun Y Yh => ?_; simp [go_sem]; ((repeat' (first|(refine ag_x ?_;simp [go_sem])|intro _|apply And.intro|(apply Yh;clear Yh Y)));all_goals first|apply Hold.mk|omega|assumption|skip))
     (refine awp_ret ?_; simp [go_sem, hF])
    | true =>
     (refine awp_if fun T F hT hF => ?_; simp [go_sem]; refine hF ?_; clear hT hF T F)
     refine awp_skip ?_
     refine hK7 _ ?_; clear hK7
     simp only [Bool.true_and] at hst1
     (refine awp_sr fun Y Yh => ?_; simp [go_sem]; ((repeat' (first|(refine ag_x ?_;simp [go_sem])|intro _|apply And.intro|(apply Yh;clear Yh Y)));all_goals first|apply Hold.mk|omega|assumption|skip))
     refine awp_block ?_
     refine awp_loop (σ := Nat) (fun k => ⟨[(0, dPs l), (1, dI most), (5, dI i), (6, dI k)], []⟩) (fun k => k ≤ i ∧ ap k = true) (fun k => i - k) 0 ?_ ?_ ?_
     ·(refine cov_of ?_ ?_ <;> simp [go_sem])
     ·exact ⟨by omega, hap0⟩
     rintro k ⟨hk, ha⟩
     refine awp_seq_k fun K8 hK8 => ?_
     (refine awp_sr fun Y Yh => ?_; simp [go_sem]; ((repeat' (first|(refine ag_x ?_;simp [go_sem])|intro _|apply And.intro|(apply Yh;clear Yh Y)));all_goals first|apply Hold.mk|omega|assumption|skip))
     (refine awp_if fun T F hT hF => ?_; simp [go_sem]; refine BR.intro (fun h9 => hT ?_) (fun h9 => hF ?_); all_goals clear hT hF T F; try simp at h9) 
     ·refine awp_skip ?_
      refine hK8 _ ?_; clear hK8
      obtain ⟨y, hy⟩ : ∃ y, l[k]? = some y := ⟨_, List.getElem?_eq_getElem (by omega)⟩
      have hap1 := hap k y hy ha
      refine awp_seq_k fun K10 hK10 => ?_
      refine awp_block ?_
      ((refine awp_dr (.qs [0, 1, 2, 3, 5, 6, 7, 8, 4, 9, 10] (.nil)) (by kernel_rfl) ?_ ?_ ?_ ?_); (kernel_rfl); (exact (by decide +kernel)); (kernel_rfl); intro Y Yh; ((repeat' (first|(refine ag_x ?_;simp [go_sem, hx, hy])|refine adr_nil ?_|((first|refine adr_qs fun Y Yh=>?_|refine adr_y fun Y Yh=>?_);simp [go_sem, hx, hy])|intro _|apply And.intro|(apply Yh;clear Yh Y)));all_goals first|apply Hold.mk|omega|assumption|skip))
      (refine awp_if fun T F hT hF => ?_; simp [go_sem]; refine BR.intro (fun h11 => hT ?_) (fun h11 => hF ?_); all_goals clear hT hF T F; try simp at h11) 
      ·have hF := hbad1 (by rw [hst1]; exact hapb (k + 1) (by rw [hap1]; simp [h11]) (by omega))
       (refine awp_sr fun Y Yh => ?_; simp [go_sem]; ((repeat' (first|(refine ag_x ?_;simp [go_sem])|intro _|apply And.intro|(apply Yh;clear Yh Y)));all_goals first|apply Hold.mk|omega|assumption|skip))
       (refine awp_ret ?_; simp [go_sem, hF])
      ·refine awp_skip ?_
       refine hK10 _ ?_; clear hK10
       (refine awp_r fun Y Yh => ?_; simp [go_sem]; ((repeat' (first|(refine ag_x ?_;simp [go_sem])|intro _|apply And.intro|(apply Yh;clear Yh Y)));all_goals first|apply Hold.mk|omega|assumption|skip))
       refine ⟨k + 1, ?_, ⟨by omega, by rw [hap1]; simp [h11]⟩, by omega⟩
       (refine cov_of ?_ ?_ <;> simp [go_sem])
     ·refine awp_exit ?_
      simp only [go_sem]
      have hki : k = i := by omega
      subst hki
      refine hK6 _ ?_; clear hK6
      (refine awp_r fun Y Yh => ?_; simp [go_sem]; ((repeat' (first|(refine ag_x ?_;simp [go_sem])|intro _|apply And.intro|(apply Yh;clear Yh Y)));all_goals first|apply Hold.mk|omega|assumption|skip))
      refine ⟨k + 1, ?_, ⟨by omega, by rw [hst1]; exact ha⟩, by omega⟩
      (refine cov_of ?_ ?_ <;> simp [go_sem])
  ·refine awp_exit ?_
   simp only [go_sem]
   refine hK3 _ ?_; clear hK3
   have : i = l.length := by omega
   subst this
   (refine awp_sr fun Y Yh => ?_; simp [go_sem]; ((repeat' (first|(refine ag_x ?_;simp [go_sem])|intro _|apply And.intro|(apply Yh;clear Yh Y)));all_goals first|apply Hold.mk|omega|assumption|skip))
   (refine awp_ret ?_; simp [go_sem, hle, hn])
set_option maxHeartbeats 8000000 in
theorem versions_spec (l : List Vrs) (hl : l.length ≤ 1000000) (hv : ∀ v ∈ l, SzV v) : PCall Tryz.prog 51 [dVrs l] fun r => r = dB (vuV l) := by 
 refine pcall_of Tryz.func51 rfl rfl Tryz.ntmps51 (rs := [.tmp 2]) (tys := [4]) rfl rfl (by simp) ?_
 have hbad := fun n (h : upTo (vuAt l) n = false) (hn : n ≤ l.length) => upTo_bad h l.length hn
 have hst := fun i x => @vu_step l x i
 have hz : upTo (vuAt l) 0 = true := rfl
 unfold vuV
 generalize upTo (vuAt l) = nt at *
 (refine awp_sr fun Y Yh => ?_; simp [go_sem]; ((repeat' (first|(refine ag_x ?_;simp [go_sem])|intro _|apply And.intro|(apply Yh;clear Yh Y)));all_goals first|apply Hold.mk|omega|assumption|skip))
 refine awp_seq_k fun K1 hK1 => ?_
 (refine awp_sr fun Y Yh => ?_; simp [go_sem]; ((repeat' (first|(refine ag_x ?_;simp [go_sem])|intro _|apply And.intro|(apply Yh;clear Yh Y)));all_goals first|apply Hold.mk|omega|assumption|skip))
 (refine awp_if fun T F hT hF => ?_; simp [go_sem]; refine BR.intro (fun h2 => hT ?_) (fun h2 => hF ?_); all_goals clear hT hF T F; try simp at h2)
 ·have : ¬ l.length ≤ 12 := by omega
  (refine awp_sr fun Y Yh => ?_; simp [go_sem]; ((repeat' (first|(refine ag_x ?_;simp [go_sem])|intro _|apply And.intro|(apply Yh;clear Yh Y)));all_goals first|apply Hold.mk|omega|assumption|skip))
  (refine awp_ret ?_; simp [go_sem, this])
 ·have hle : l.length ≤ 12 := by omega
  refine awp_skip ?_
  refine hK1 _ ?_; clear hK1
  refine awp_seq_k fun K3 hK3 => ?_
  (refine awp_sr fun Y Yh => ?_; simp [go_sem]; ((repeat' (first|(refine ag_x ?_;simp [go_sem])|intro _|apply And.intro|(apply Yh;clear Yh Y)));all_goals first|apply Hold.mk|omega|assumption|skip))
  refine awp_block ?_
  refine awp_loop (σ := Nat) (fun i => ⟨[(0, dVrs l), (3, dI i)], []⟩) (fun i => i ≤ l.length ∧ nt i = true) (fun i => l.length - i) 0 ?_ ?_ ?_
  ·(refine cov_of ?_ ?_ <;> simp [go_sem])
  ·exact ⟨by omega, hz⟩
  rintro i ⟨hi, hn⟩
  refine awp_seq_k fun K4 hK4 => ?_
  (refine awp_sr fun Y Yh => ?_; simp [go_sem]; ((repeat' (first|(refine ag_x ?_;simp [go_sem])|intro _|apply And.intro|(apply Yh;clear Yh Y)));all_goals first|apply Hold.mk|omega|assumption|skip))
  (refine awp_if fun T F hT hF => ?_; simp [go_sem]; refine BR.intro (fun h5 => hT ?_) (fun h5 => hF ?_); all_goals clear hT hF T F; try simp at h5)
  ·refine awp_skip ?_
   refine hK4 _ ?_; clear hK4
   obtain ⟨x, hx⟩ : ∃ x, l[i]? = some x := ⟨_, List.getElem?_eq_getElem (by omega)⟩
   obtain ⟨hx1, hx2⟩ := hv x (List.mem_of_getElem? hx)
   have N1 := rValid_spec x.1 (by omega)
   have C1 := nu_spec x.2 6 hx2 (by decide)
   have hst1 := hst i x hx hn
   have hbad1 := fun h => hbad (i + 1) h (by omega)
   have hap := fun k y => @rank_step l x y k
   have hap0 : upTo (rankAt l x) 0 = true := rfl
   have hapb := fun n (h : upTo (rankAt l x) n = false) (hn : n ≤ i) => upTo_bad h i hn
   generalize upTo (rankAt l x) = ap at *
   generalize hnb : (readV x.1).isSome = nb at *
   generalize nuV 6 x.2 = cb at *
   refine awp_seq_k fun K6 hK6 => ?_
   refine awp_block ?_
   refine awp_seq_k fun K7 hK7 => ?_
   (refine awp_sr fun Y Yh => ?_; simp [go_sem, hx]; ((repeat' (first|(refine ag_x ?_;simp [go_sem, hx])|intro _|apply And.intro|(apply Yh;clear Yh Y)));all_goals first|apply Hold.mk|omega|assumption|skip))
   ((try refine CallT.toA ?_); refine callT_m (.inl ⟨rfl,rfl⟩) (by simp [go_sem]) ?_; intro args ha; simp [go_sem] at ha; subst ha; refine ⟨_, N1, ?_⟩; rintro _ rfl; simp [go_sem, hx]; ((repeat' (first|(refine ag_x ?_;simp [go_sem, hx])|intro _|apply And.intro|(apply Yh;clear Yh Y)));all_goals first|apply Hold.mk|omega|assumption|skip))
   (refine agc_f (dB cb) (.inl ⟨rfl,rfl⟩) ?_ rfl ?_; (intro hc args ha; simp [go_sem] at ha; subst ha; exact C1); simp [go_sem, hx]; ((repeat' (first|(refine ag_x ?_;simp [go_sem, hx])|intro _|apply And.intro|(apply Yh;clear Yh Y)));all_goals first|apply Hold.mk|omega|assumption|skip))
   cases nb with
   | false =>
    have hF := hbad1 (by rw [hst1]; simp)
    (refine awp_if fun T F hT hF => ?_; simp [go_sem]; refine hT ?_; clear hT hF T F)
    (refine awp_sr fun Y Yh => ?_; simp [go_sem]; ((repeat' (first|(refine ag_x ?_;simp [go_sem])|intro _|apply And.intro|(apply Yh;clear Yh Y)));all_goals first|apply Hold.mk|omega|assumption|skip))
    (refine awp_ret ?_; simp [go_sem, hF])
   | true =>
    cases cb with
    | false =>
     have hF := hbad1 (by rw [hst1]; simp)
     (refine awp_if fun T F hT hF => ?_; simp [go_sem]; refine hT ?_; clear hT hF T F)
     (refine awp_sr fun Y Yh => ?_; simp [go_sem]; ((repeat' (first|(refine ag_x ?_;simp [go_sem])|intro _|apply And.intro|(apply Yh;clear Yh Y)));all_goals first|apply Hold.mk|omega|assumption|skip))
     (refine awp_ret ?_; simp [go_sem, hF])
    | true =>
     (refine awp_if fun T F hT hF => ?_; simp [go_sem]; refine hF ?_; clear hT hF T F)
     refine awp_skip ?_
     refine hK7 _ ?_; clear hK7
     simp only [Bool.true_and] at hst1
     (refine awp_sr fun Y Yh => ?_; simp [go_sem]; ((repeat' (first|(refine ag_x ?_;simp [go_sem])|intro _|apply And.intro|(apply Yh;clear Yh Y)));all_goals first|apply Hold.mk|omega|assumption|skip))
     refine awp_block ?_
     refine awp_loop (σ := Nat) (fun k => ⟨[(0, dVrs l), (3, dI i), (4, dI k)], []⟩) (fun k => k ≤ i ∧ ap k = true) (fun k => i - k) 0 ?_ ?_ ?_
     ·(refine cov_of ?_ ?_ <;> simp [go_sem])
     ·exact ⟨by omega, hap0⟩
     rintro k ⟨hk, ha⟩
     refine awp_seq_k fun K8 hK8 => ?_
     (refine awp_sr fun Y Yh => ?_; simp [go_sem]; ((repeat' (first|(refine ag_x ?_;simp [go_sem])|intro _|apply And.intro|(apply Yh;clear Yh Y)));all_goals first|apply Hold.mk|omega|assumption|skip))
     (refine awp_if fun T F hT hF => ?_; simp [go_sem]; refine BR.intro (fun h9 => hT ?_) (fun h9 => hF ?_); all_goals clear hT hF T F; try simp at h9)
     ·refine awp_skip ?_
      refine hK8 _ ?_; clear hK8
      obtain ⟨y, hy⟩ : ∃ y, l[k]? = some y := ⟨_, List.getElem?_eq_getElem (by omega)⟩
      have hap1 := hap k y hy ha
      have CM := rCompare_spec y.1 x.1 (hv y (List.mem_of_getElem? hy)).1 hx1
      generalize codeP ((readV y.1).isSome && (readV x.1).isSome) = cc at *
      generalize compareP y.1 x.1 = cp at *
      refine awp_seq_k fun K10 hK10 => ?_
      refine awp_block ?_
      ((refine awp_dr (.qs [0, 1, 2, 3, 5, 6, 7, 8, 4, 9] (.one 10 (.qs [11, 12, 13, 14, 15] (.nil)))) (by kernel_rfl) ?_ ?_ ?_ ?_); (kernel_rfl); (exact (by decide +kernel)); (kernel_rfl); intro Y Yh; ((repeat' (first|(refine ag_x ?_;simp [go_sem, hx, hy])|refine adr_nil ?_|((first|refine adr_qs fun Y Yh=>?_|refine adr_y fun Y Yh=>?_);simp [go_sem, hx, hy])|intro _|apply And.intro|(apply Yh;clear Yh Y)));all_goals first|apply Hold.mk|omega|assumption|skip))
      ((try refine CallT.toA ?_); refine callT_m (.inl ⟨rfl,rfl⟩) (by simp [go_sem]) ?_; intro args ha; simp [go_sem] at ha; subst ha; refine ⟨_, CM, ?_⟩; rintro _ rfl; simp [go_sem]; ((repeat' (first|(refine ag_x ?_;simp [go_sem])|refine adr_nil ?_|((first|refine adr_qs fun Y Yh=>?_|refine adr_y fun Y Yh=>?_);simp [go_sem])|intro _|apply And.intro|(apply Yh;clear Yh Y)));all_goals first|apply Hold.mk|omega|assumption|skip))
      (refine awp_sr fun Y Yh => ?_; simp [go_sem]; ((repeat' (first|(refine ag_x ?_;simp [go_sem])|intro _|apply And.intro|(apply Yh;clear Yh Y)));all_goals first|apply Hold.mk|omega|assumption|skip))
      (refine awp_if fun T F hT hF => ?_; simp [go_sem]; refine BR.intro (fun h11 => hT ?_) (fun h11 => hF ?_); all_goals clear hT hF T F; try simp at h11)
      ·have hF := hbad1 (by rw [hst1]; exact hapb (k + 1) (by rw [hap1]; simp [h11]) (by omega))
       (refine awp_sr fun Y Yh => ?_; simp [go_sem]; ((repeat' (first|(refine ag_x ?_;simp [go_sem])|intro _|apply And.intro|(apply Yh;clear Yh Y)));all_goals first|apply Hold.mk|omega|assumption|skip))
       (refine awp_ret ?_; simp [go_sem, hF])
      ·refine awp_skip ?_
       refine hK10 _ ?_; clear hK10
       (refine awp_r fun Y Yh => ?_; simp [go_sem]; ((repeat' (first|(refine ag_x ?_;simp [go_sem])|intro _|apply And.intro|(apply Yh;clear Yh Y)));all_goals first|apply Hold.mk|omega|assumption|skip))
       refine ⟨k + 1, ?_, ⟨by omega, by rw [hap1]; simp [h11]⟩, by omega⟩
       (refine cov_of ?_ ?_ <;> simp [go_sem])
     ·refine awp_exit ?_
      simp only [go_sem]
      have hki : k = i := by omega
      subst hki
      refine hK6 _ ?_; clear hK6
      (refine awp_r fun Y Yh => ?_; simp [go_sem]; ((repeat' (first|(refine ag_x ?_;simp [go_sem])|intro _|apply And.intro|(apply Yh;clear Yh Y)));all_goals first|apply Hold.mk|omega|assumption|skip))
      refine ⟨k + 1, ?_, ⟨by omega, by rw [hst1]; exact ha⟩, by omega⟩
      (refine cov_of ?_ ?_ <;> simp [go_sem])
  ·refine awp_exit ?_
   simp only [go_sem]
   refine hK3 _ ?_; clear hK3
   have : i = l.length := by omega
   subst this
   (refine awp_sr fun Y Yh => ?_; simp [go_sem]; ((repeat' (first|(refine ag_x ?_;simp [go_sem])|intro _|apply And.intro|(apply Yh;clear Yh Y)));all_goals first|apply Hold.mk|omega|assumption|skip))
   (refine awp_ret ?_; simp [go_sem, hle, hn])
end Go.Proofs.YteekfnhhlcmcgaaGreatDoor
set_option maxRecDepth 20000
namespace Go.Lk
open Go.Lib Go.Wh Go.Ver
/-! what is found in a source, what is needed, what is picked -/
def fndG (p : Prs) (g : Gm) : Option Vrs := if g.1 = p.1 then g.2.find? (fun v => decide (v.1 = p.2)) else none
def fndV (s : Src) (p : Prs) : Option Vrs := s.findSome? (fndG p)
theorem drop_cons {α : Type} {l : List α} {i : Nat} {x : α} (h : l[i]? = some x) : l.drop i = x :: l.drop (i + 1) := by
 obtain ⟨h1, h2⟩ := List.getElem?_eq_some_iff.1 h
 rw [List.drop_eq_getElem_cons h1, h2]
theorem fnd_step {s : Src} {p : Prs} {i : Nat} {g : Gm} (h : s[i]? = some g) : (s.drop i).findSome? (fndG p) = (match fndG p g with | some v => some v | none => (s.drop (i + 1)).findSome? (fndG p)) := by
 rw [drop_cons h, List.findSome?_cons]
 cases fndG p g <;> rfl
theorem fnd_end (s : Src) (p : Prs) : (s.drop s.length).findSome? (fndG p) = none := by rw [List.drop_length]; rfl
theorem find_step {l : List Vrs} {n : Bs} {k : Nat} {v : Vrs} (h : l[k]? = some v) : (l.drop k).find? (fun v => decide (v.1 = n)) = if v.1 = n then some v else (l.drop (k + 1)).find? (fun v => decide (v.1 = n)) := by
 rw [drop_cons h, List.find?_cons]
 by_cases e : v.1 = n
 ·rw [if_pos e]; simp [e]
 ·rw [if_neg e]; simp [e]
def fndP (s : Src) (p : Prs) : Vrs := (fndV s p).getD ([], [])
theorem fndG_mem {p : Prs} {g : Gm} {v : Vrs} (h : fndG p g = some v) : v ∈ g.2 ∧ v.1 = p.2 ∧ g.1 = p.1 := by
 unfold fndG at h
 split at h
 ·rename_i e
  have h1 := List.mem_of_find?_eq_some h
  have h2 := List.find?_some h
  exact ⟨h1, by simpa using h2, e⟩
 ·cases h
theorem fndV_mem {s : Src} {p : Prs} {v : Vrs} (h : fndV s p = some v) : ∃ g ∈ s, g.1 = p.1 ∧ v ∈ g.2 ∧ v.1 = p.2 := by
 unfold fndV at h
 obtain ⟨g, hg, h2⟩ := List.exists_of_findSome?_eq_some h
 obtain ⟨a, b, c⟩ := fndG_mem h2
 exact ⟨g, hg, c, a, b⟩
theorem fndP_sz {s : Src} (hs : SzS s) (p : Prs) : SzV (fndP s p) := by
 unfold fndP
 cases h : fndV s p with
 | none => simp [SzV, SzN]
 | some v =>
  obtain ⟨g, hg, _, hv, _⟩ := fndV_mem h
  exact (hs.2 g hg).2.2 v hv
def pkdV (l : List Prs) (n : Bs) : Bs := ((l.find? (fun x => decide (x.1 = n))).map (·.2)).getD []
theorem pkd_step {l : List Prs} {n : Bs} {k : Nat} {v : Prs} (h : l[k]? = some v) : (l.drop k).find? (fun x => decide (x.1 = n)) = if v.1 = n then some v else (l.drop (k + 1)).find? (fun x => decide (x.1 = n)) := by
 rw [drop_cons h, List.find?_cons]
 by_cases e : v.1 = n
 ·rw [if_pos e]; simp [e]
 ·rw [if_neg e]; simp [e]
def allN (s : Src) (w l : List Prs) : List Prs := w ++ l.flatMap fun p => (fndP s p).2
theorem allN_nil (s : Src) (w : List Prs) : allN s w [] = w := by simp [allN]
theorem allN_step {s : Src} {w l : List Prs} {i : Nat} {p : Prs} (h : l[i]? = some p) : allN s w (l.take (i + 1)) = allN s w (l.take i) ++ (fndP s p).2 := by
 unfold allN; rw [List.take_add_one, h]; simp
theorem allN_mem {s : Src} {w l : List Prs} (hs : SzS s) (hw : ∀ x ∈ w, Sz1 x) : ∀ x ∈ allN s w l, Sz1 x := fun x hx => by
 unfold allN at hx
 rcases List.mem_append.1 hx with h | h
 ·exact hw x h
 ·obtain ⟨p, _, hp⟩ := List.mem_flatMap.1 h
  exact (fndP_sz hs p).2.2 x hp
theorem allN_len {s : Src} {w : List Prs} (hs : SzS s) : ∀ l : List Prs, (allN s w l).length ≤ w.length + l.length * 1000000
 | [] => by simp [allN]
 | p :: l => by
  have ih := allN_len (w := w) hs l
  have hp := (fndP_sz hs p).2.1
  unfold allN at ih ⊢
  simp only [List.length_append, List.flatMap_cons, List.length_cons] at ih ⊢
  have e : (l.length + 1) * 1000000 = l.length * 1000000 + 1000000 := Nat.succ_mul _ _
  rw [e]
  omega
end Go.Lk
namespace Go.Proofs.YteekfnhhlcmcgaaGreatDoor
open Go.Eng Go.Wh Go.Ver Go.RowKit Go.Lk
set_option maxRecDepth 20000
attribute [local irreducible] AG CallA CallT AWp PCall ACall AgC
set_option maxHeartbeats 8000000 in
theorem isSource_spec (s : Src) (hs : SzS s) : PCall Tryz.prog 102 [dSrc s] fun r => r = dB (suV s) := by 
 refine pcall_of Tryz.func102 rfl rfl Tryz.ntmps102 (rs := [.tmp 2]) (tys := [4]) rfl rfl (by simp) ?_
 obtain ⟨hs0, hs1⟩ := hs
 have hbad := fun n (h : upTo (suAt s) n = false) (hn : n ≤ s.length) => upTo_bad h s.length hn
 have hst := fun i x => @su_step s x i
 have hz : upTo (suAt s) 0 = true := rfl
 unfold suV
 generalize upTo (suAt s) = nt at *
 (refine awp_sr fun Y Yh => ?_; simp [go_sem]; ((repeat' (first|(refine ag_x ?_;simp [go_sem])|intro _|apply And.intro|(apply Yh;clear Yh Y)));all_goals first|apply Hold.mk|omega|assumption|skip))
 rename_i g1
 refine awp_seq_k fun K1 hK1 => ?_
 (refine awp_sr fun Y Yh => ?_; simp [go_sem]; ((repeat' (first|(refine ag_x ?_;simp [go_sem])|intro _|apply And.intro|(apply Yh;clear Yh Y)));all_goals first|apply Hold.mk|omega|assumption|skip))
 (refine awp_if fun T F hT hF => ?_; simp [go_sem]; refine BR.intro (fun h2 => hT ?_) (fun h2 => hF ?_); all_goals clear hT hF T F; try simp at h2) 
 ·have : ¬ s.length ≤ 15 := by omega
  (refine awp_sr fun Y Yh => ?_; simp [go_sem]; ((repeat' (first|(refine ag_x ?_;simp [go_sem])|intro _|apply And.intro|(apply Yh;clear Yh Y)));all_goals first|apply Hold.mk|omega|assumption|skip))
  (refine awp_ret ?_; simp [go_sem, this])
 ·have hle : s.length ≤ 15 := by omega
  refine awp_skip ?_
  refine hK1 _ ?_; clear hK1
  refine awp_seq_k fun K3 hK3 => ?_
  (refine awp_sr fun Y Yh => ?_; simp [go_sem]; ((repeat' (first|(refine ag_x ?_;simp [go_sem])|intro _|apply And.intro|(apply Yh;clear Yh Y)));all_goals first|apply Hold.mk|omega|assumption|skip))
  refine awp_block ?_
  refine awp_loop (σ := Nat) (fun i => ⟨[(1, .ptr 1 g1 0), (3, dI i)], [(1, g1, .box [dGms s])]⟩) (fun i => i ≤ s.length ∧ nt i = true) (fun i => s.length - i) 0 ?_ ?_ ?_
  ·(refine cov_of ?_ ?_ <;> simp [go_sem])
  ·exact ⟨by omega, hz⟩
  rintro i ⟨hi, hn⟩
  refine awp_seq_k fun K4 hK4 => ?_
  (refine awp_sr fun Y Yh => ?_; simp [go_sem]; ((repeat' (first|(refine ag_x ?_;simp [go_sem])|intro _|apply And.intro|(apply Yh;clear Yh Y)));all_goals first|apply Hold.mk|omega|assumption|skip))
  (refine awp_if fun T F hT hF => ?_; simp [go_sem]; refine BR.intro (fun h5 => hT ?_) (fun h5 => hF ?_); all_goals clear hT hF T F; try simp at h5) 
  ·refine awp_skip ?_
   refine hK4 _ ?_; clear hK4
   obtain ⟨x, hx⟩ : ∃ x, s[i]? = some x := ⟨_, List.getElem?_eq_getElem (by omega)⟩
   obtain ⟨hx1, hx2, hx3⟩ := hs1 x (List.mem_of_getElem? hx)
   have N1 := risName_spec x.1 (by omega)
   have Q1 := versions_spec x.2 hx2 hx3
   have hst1 := hst i x hx hn
   have hbad1 := fun h => hbad (i + 1) h (by omega)
   generalize nameV x.1 = nb at *
   generalize vuV x.2 = qb at *
   refine awp_seq_k fun K6 hK6 => ?_
   refine awp_block ?_
   (refine awp_sr fun Y Yh => ?_; simp [go_sem, hx]; ((repeat' (first|(refine ag_x ?_;simp [go_sem, hx])|intro _|apply And.intro|(apply Yh;clear Yh Y)));all_goals first|apply Hold.mk|omega|assumption|skip))
   rename_i g4
   cases nb with
   | false =>
    have hF := hbad1 (by rw [hst1]; simp)
    ((refine awp_dr (.qs [0, 1] (.one 2 (.qs [3, 4] (.sk 5 (.sk 6 (.sk 7 (.sk 8 (.sk 10 (.sk 12 (.sk 13 (.sk 9 (.sk 11 (.sk 14 (.sk 15 (.sk 16 (.sk 17 (.sk 18 (.qs [19, 20] (.sk 21 (.sk 22 (.sk 23 (.sk 24 (.qs [25] (.nil)))))))))))))))))))))))) (by kernel_rfl) ?_ ?_ ?_ ?_); (kernel_rfl); (exact (by decide +kernel)); (kernel_rfl); intro Y Yh; ((repeat' (first|(refine ag_x ?_;simp [go_sem])|refine adr_nil ?_|((first|refine adr_qs fun Y Yh=>?_|refine adr_y fun Y Yh=>?_);simp [go_sem])|intro _|apply And.intro|(apply Yh;clear Yh Y)));all_goals first|apply Hold.mk|omega|assumption|skip))
    ((try refine CallT.toA ?_); refine callT_m (.inl ⟨rfl,rfl⟩) (by simp [go_sem]) ?_; intro args ha; simp [go_sem] at ha; subst ha; refine ⟨_, N1, ?_⟩; rintro _ rfl; simp [go_sem, undef]; ((repeat' (first|(refine ag_x ?_;simp [go_sem, undef])|refine adr_nil ?_|((first|refine adr_qs fun Y Yh=>?_|refine adr_y fun Y Yh=>?_);simp [go_sem, undef])|intro _|apply And.intro|(apply Yh;clear Yh Y)));all_goals first|apply Hold.mk|omega|assumption|skip))
    (refine awp_if fun T F hT hF => ?_; simp [go_sem]; refine hT ?_; clear hT hF T F)
    (refine awp_sr fun Y Yh => ?_; simp [go_sem]; ((repeat' (first|(refine ag_x ?_;simp [go_sem])|intro _|apply And.intro|(apply Yh;clear Yh Y)));all_goals first|apply Hold.mk|omega|assumption|skip))
    (refine awp_ret ?_; simp [go_sem, hF])
   | true =>
    by_cases h0 : i = 0
    ·subst h0
     ((refine awp_dr (.qs [0, 1] (.one 2 (.qs [3, 4, 5, 6, 7] (.sk 8 (.sk 10 (.sk 12 (.sk 13 (.sk 9 (.sk 11 (.sk 14 (.sk 15 (.sk 16 (.sk 17 (.qs [18, 19, 20, 21, 22] (.one 23 (.qs [24, 25] (.nil))))))))))))))))) (by kernel_rfl) ?_ ?_ ?_ ?_); (kernel_rfl); (exact (by decide +kernel)); (kernel_rfl); intro Y Yh; ((repeat' (first|(refine ag_x ?_;simp [go_sem])|refine adr_nil ?_|((first|refine adr_qs fun Y Yh=>?_|refine adr_y fun Y Yh=>?_);simp [go_sem])|intro _|apply And.intro|(apply Yh;clear Yh Y)));all_goals first|apply Hold.mk|omega|assumption|skip))
     ((try refine CallT.toA ?_); refine callT_m (.inl ⟨rfl,rfl⟩) (by simp [go_sem]) ?_; intro args ha; simp [go_sem] at ha; subst ha; refine ⟨_, N1, ?_⟩; rintro _ rfl; simp [go_sem, undef]; ((repeat' (first|(refine ag_x ?_;simp [go_sem, undef])|refine adr_nil ?_|((first|refine adr_qs fun Y Yh=>?_|refine adr_y fun Y Yh=>?_);simp [go_sem, undef])|intro _|apply And.intro|(apply Yh;clear Yh Y)));all_goals first|apply Hold.mk|omega|assumption|skip))
     (refine agc_f (dB qb) (.inl ⟨rfl,rfl⟩) ?_ rfl ?_; (intro hc args ha; simp [go_sem] at ha; subst ha; exact Q1); simp [go_sem, undef]; ((repeat' (first|(refine ag_x ?_;simp [go_sem, undef])|refine adr_nil ?_|((first|refine adr_qs fun Y Yh=>?_|refine adr_y fun Y Yh=>?_);simp [go_sem, undef])|intro _|apply And.intro|(apply Yh;clear Yh Y)));all_goals first|apply Hold.mk|omega|assumption|skip))
     cases qb with
     | false =>
      have hF := hbad1 (by rw [hst1]; simp)
      (refine awp_if fun T F hT hF => ?_; simp [go_sem]; refine hT ?_; clear hT hF T F)
      (refine awp_sr fun Y Yh => ?_; simp [go_sem]; ((repeat' (first|(refine ag_x ?_;simp [go_sem])|intro _|apply And.intro|(apply Yh;clear Yh Y)));all_goals first|apply Hold.mk|omega|assumption|skip))
      (refine awp_ret ?_; simp [go_sem, hF])
     | true =>
      have hT : nt 1 = true := by rw [hst1]; simp
      (refine awp_if fun T F hT hF => ?_; simp [go_sem]; refine hF ?_; clear hT hF T F)
      refine awp_skip ?_
      refine hK6 _ ?_; clear hK6
      (refine awp_r fun Y Yh => ?_; simp [go_sem]; ((repeat' (first|(refine ag_x ?_;simp [go_sem])|intro _|apply And.intro|(apply Yh;clear Yh Y)));all_goals first|apply Hold.mk|omega|assumption|skip))
      refine ⟨1, ?_, ⟨by omega, hT⟩, by omega⟩
      (refine cov_of ?_ ?_ <;> simp [go_sem])
    ·obtain ⟨j, rfl⟩ : ∃ j, i = j + 1 := ⟨i - 1, by omega⟩
     obtain ⟨y, hy⟩ : ∃ y, s[j]? = some y := ⟨_, List.getElem?_eq_getElem (by omega)⟩
     have hi1 : ((j : Int) + 1 - 1).toNat = j := by omega
     have hi2 : (j : Int) + 1 - 1 = j := by omega
     have hi3 : ((j : Int) + 1).toNat = j + 1 := by omega
     have hpos : (0 : Int) < (j : Int) + 1 := by omega
     simp only [Nat.add_sub_cancel, hy] at hst1
     generalize hlb : Op.bytesLess y.1 x.1 = lb at *
     cases lb with
     | false =>
      have hF := hbad1 (by rw [hst1]; simp)
      ((refine awp_dr (.qs [0, 1] (.one 2 (.qs [3, 4, 5, 6, 7, 8, 10, 12, 13, 9, 11, 14, 15, 16, 17, 18, 19, 20] (.sk 21 (.sk 22 (.sk 23 (.sk 24 (.qs [25] (.nil))))))))) (by kernel_rfl) ?_ ?_ ?_ ?_); (kernel_rfl); (exact (by decide +kernel)); (kernel_rfl); intro Y Yh; ((repeat' (first|(refine ag_x ?_;simp [go_sem, hy, hi1, hi2, hi3, hpos])|refine adr_nil ?_|((first|refine adr_qs fun Y Yh=>?_|refine adr_y fun Y Yh=>?_);simp [go_sem, hy, hi1, hi2, hi3, hpos])|intro _|apply And.intro|(apply Yh;clear Yh Y)));all_goals first|apply Hold.mk|omega|assumption|skip))
      ((try refine CallT.toA ?_); refine callT_m (.inl ⟨rfl,rfl⟩) (by simp [go_sem]) ?_; intro args ha; simp [go_sem] at ha; subst ha; refine ⟨_, N1, ?_⟩; rintro _ rfl; simp [go_sem, undef, hy, hi1, hi2, hi3, hpos, hlb]; ((repeat' (first|(refine ag_x ?_;simp [go_sem, undef, hy, hi1, hi2, hi3, hpos, hlb])|refine adr_nil ?_|((first|refine adr_qs fun Y Yh=>?_|refine adr_y fun Y Yh=>?_);simp [go_sem, undef, hy, hi1, hi2, hi3, hpos, hlb])|intro _|apply And.intro|(apply Yh;clear Yh Y)));all_goals first|apply Hold.mk|omega|assumption|skip))
      (refine awp_if fun T F hT hF => ?_; simp [go_sem]; refine hT ?_; clear hT hF T F)
      (refine awp_sr fun Y Yh => ?_; simp [go_sem]; ((repeat' (first|(refine ag_x ?_;simp [go_sem])|intro _|apply And.intro|(apply Yh;clear Yh Y)));all_goals first|apply Hold.mk|omega|assumption|skip))
      (refine awp_ret ?_; simp [go_sem, hF])
     | true =>
      ((refine awp_dr (.qs [0, 1] (.one 2 (.qs [3, 4, 5, 6, 7, 8, 10, 12, 13, 9, 11, 14, 15, 16, 17, 18, 19, 20, 21, 22] (.one 23 (.qs [24, 25] (.nil)))))) (by kernel_rfl) ?_ ?_ ?_ ?_); (kernel_rfl); (exact (by decide +kernel)); (kernel_rfl); intro Y Yh; ((repeat' (first|(refine ag_x ?_;simp [go_sem, hy, hi1, hi2, hi3, hpos])|refine adr_nil ?_|((first|refine adr_qs fun Y Yh=>?_|refine adr_y fun Y Yh=>?_);simp [go_sem, hy, hi1, hi2, hi3, hpos])|intro _|apply And.intro|(apply Yh;clear Yh Y)));all_goals first|apply Hold.mk|omega|assumption|skip))
      ((try refine CallT.toA ?_); refine callT_m (.inl ⟨rfl,rfl⟩) (by simp [go_sem]) ?_; intro args ha; simp [go_sem] at ha; subst ha; refine ⟨_, N1, ?_⟩; rintro _ rfl; simp [go_sem, hy, hi1, hi2, hi3, hpos, hlb]; ((repeat' (first|(refine ag_x ?_;simp [go_sem, hy, hi1, hi2, hi3, hpos, hlb])|refine adr_nil ?_|((first|refine adr_qs fun Y Yh=>?_|refine adr_y fun Y Yh=>?_);simp [go_sem, hy, hi1, hi2, hi3, hpos, hlb])|intro _|apply And.intro|(apply Yh;clear Yh Y)));all_goals first|apply Hold.mk|omega|assumption|skip))
      (refine agc_f (dB qb) (.inl ⟨rfl,rfl⟩) ?_ rfl ?_; (intro hc args ha; simp [go_sem] at ha; subst ha; exact Q1); simp [go_sem, hy, hi1, hi2, hi3, hpos, hlb]; ((repeat' (first|(refine ag_x ?_;simp [go_sem, hy, hi1, hi2, hi3, hpos, hlb])|refine adr_nil ?_|((first|refine adr_qs fun Y Yh=>?_|refine adr_y fun Y Yh=>?_);simp [go_sem, hy, hi1, hi2, hi3, hpos, hlb])|intro _|apply And.intro|(apply Yh;clear Yh Y)));all_goals first|apply Hold.mk|omega|assumption|skip))
      cases qb with
      | false =>
       have hF := hbad1 (by rw [hst1]; simp)
       (refine awp_if fun T F hT hF => ?_; simp [go_sem]; refine hT ?_; clear hT hF T F)
       (refine awp_sr fun Y Yh => ?_; simp [go_sem]; ((repeat' (first|(refine ag_x ?_;simp [go_sem])|intro _|apply And.intro|(apply Yh;clear Yh Y)));all_goals first|apply Hold.mk|omega|assumption|skip))
       (refine awp_ret ?_; simp [go_sem, hF])
      | true =>
       have hT : nt (j + 1 + 1) = true := by rw [hst1]; simp
       (refine awp_if fun T F hT hF => ?_; simp [go_sem]; refine hF ?_; clear hT hF T F)
       refine awp_skip ?_
       refine hK6 _ ?_; clear hK6
       (refine awp_r fun Y Yh => ?_; simp [go_sem]; ((repeat' (first|(refine ag_x ?_;simp [go_sem])|intro _|apply And.intro|(apply Yh;clear Yh Y)));all_goals first|apply Hold.mk|omega|assumption|skip))
       refine ⟨j + 1 + 1, ?_, ⟨by omega, hT⟩, by omega⟩
       (refine cov_of ?_ ?_ <;> simp [go_sem])
  ·refine awp_exit ?_
   simp only [go_sem]
   refine hK3 _ ?_; clear hK3
   have : i = s.length := by omega
   subst this
   (refine awp_sr fun Y Yh => ?_; simp [go_sem]; ((repeat' (first|(refine ag_x ?_;simp [go_sem])|intro _|apply And.intro|(apply Yh;clear Yh Y)));all_goals first|apply Hold.mk|omega|assumption|skip))
   (refine awp_ret ?_; simp [go_sem, hle, hn])
set_option maxHeartbeats 4000000 in
theorem rChk_spec (s : Src) (w : List Prs) (hs : SzS s) (hw : SzN w) : PCall Tryz.prog 77 [dSrc s, dPs w] fun r => r = dI (if chkV s w = true then 0 else 1) := by 
 refine pcall_of Tryz.func77 rfl rfl Tryz.ntmps77 (rs := [.tmp 4]) (tys := [35]) rfl rfl (by simp) ?_
 have I1 := isSource_spec s hs
 have N1 := nu_spec w 8 hw (by decide)
 unfold chkV
 generalize suV s = a at *
 generalize nuV 8 w = b at *
 (refine awp_sr fun Y Yh => ?_; simp [go_sem]; ((repeat' (first|(refine ag_x ?_;simp [go_sem])|intro _|apply And.intro|(apply Yh;clear Yh Y)));all_goals first|apply Hold.mk|omega|assumption|skip))
 refine awp_seq_k fun K1 hK1 => ?_
 (refine awp_sr fun Y Yh => ?_; simp [go_sem]; ((repeat' (first|(refine ag_x ?_;simp [go_sem])|intro _|apply And.intro|(apply Yh;clear Yh Y)));all_goals first|apply Hold.mk|omega|assumption|skip))
 ((try refine CallT.toA ?_); refine callT_m (.inl ⟨rfl,rfl⟩) (by simp [go_sem]) ?_; intro args ha; simp [go_sem] at ha; subst ha; refine ⟨_, I1, ?_⟩; rintro _ rfl; simp [go_sem]; ((repeat' (first|(refine ag_x ?_;simp [go_sem])|intro _|apply And.intro|(apply Yh;clear Yh Y)));all_goals first|apply Hold.mk|omega|assumption|skip))
 (refine agc_f (dB b) (.inl ⟨rfl,rfl⟩) ?_ rfl ?_; (intro hc args ha; simp [go_sem] at ha; subst ha; exact N1); simp [go_sem]; ((repeat' (first|(refine ag_x ?_;simp [go_sem])|intro _|apply And.intro|(apply Yh;clear Yh Y)));all_goals first|apply Hold.mk|omega|assumption|skip))
 cases a with
 | false => (refine awp_if fun T F hT hF => ?_; simp [go_sem]; refine hT ?_; clear hT hF T F); (refine awp_sr fun Y Yh => ?_; simp [go_sem]; ((repeat' (first|(refine ag_x ?_;simp [go_sem])|intro _|apply And.intro|(apply Yh;clear Yh Y)));all_goals first|apply Hold.mk|omega|assumption|skip)); (refine awp_ret ?_; simp [go_sem])
 | true =>
  cases b with
  | false => (refine awp_if fun T F hT hF => ?_; simp [go_sem]; refine hT ?_; clear hT hF T F); (refine awp_sr fun Y Yh => ?_; simp [go_sem]; ((repeat' (first|(refine ag_x ?_;simp [go_sem])|intro _|apply And.intro|(apply Yh;clear Yh Y)));all_goals first|apply Hold.mk|omega|assumption|skip)); (refine awp_ret ?_; simp [go_sem])
  | true => (refine awp_if fun T F hT hF => ?_; simp [go_sem]; refine hF ?_; clear hT hF T F); refine awp_skip ?_; refine hK1 _ ?_; clear hK1; (refine awp_sr fun Y Yh => ?_; simp [go_sem]; ((repeat' (first|(refine ag_x ?_;simp [go_sem])|intro _|apply And.intro|(apply Yh;clear Yh Y)));all_goals first|apply Hold.mk|omega|assumption|skip)); (refine awp_ret ?_; simp [go_sem])
set_option maxHeartbeats 4000000 in
theorem picked_spec (l : List Prs) (n : Bs) (hl : l.length ≤ 1000000) : PCall Tryz.prog 139 [dPs l, dS n] fun r => r = dS (pkdV l n) := by 
 refine pcall_of Tryz.func139 rfl rfl Tryz.ntmps139 (rs := [.tmp 4]) (tys := [9]) rfl rfl (by simp) ?_
 have hst := fun k v => @pkd_step l n k v
 have hz : pkdV l n = (((l.drop 0).find? (fun x => decide (x.1 = n))).map (·.2)).getD [] := rfl
 have he : (l.drop l.length).find? (fun x => decide (x.1 = n)) = none := by rw [List.drop_length]; rfl
 generalize pkdV l n = r0 at *
 generalize hF : (fun k => (l.drop k).find? (fun x => decide (x.1 = n))) = F at *
 have hF1 : ∀ k, (l.drop k).find? (fun x => decide (x.1 = n)) = F k := fun k => by rw [← hF]
 simp only [hF1] at hst hz he
 clear hF hF1
 (refine awp_sr fun Y Yh => ?_; simp [go_sem]; ((repeat' (first|(refine ag_x ?_;simp [go_sem])|intro _|apply And.intro|(apply Yh;clear Yh Y)));all_goals first|apply Hold.mk|omega|assumption|skip))
 refine awp_seq_k fun K1 hK1 => ?_
 (refine awp_sr fun Y Yh => ?_; simp [go_sem]; ((repeat' (first|(refine ag_x ?_;simp [go_sem])|intro _|apply And.intro|(apply Yh;clear Yh Y)));all_goals first|apply Hold.mk|omega|assumption|skip))
 refine awp_block ?_
 refine awp_loop (σ := Nat) (fun i => ⟨[(0, dPs l), (1, dS n), (5, dI i)], []⟩) (fun i => i ≤ l.length ∧ F 0 = F i) (fun i => l.length - i) 0 ?_ ?_ ?_
 ·(refine cov_of ?_ ?_ <;> simp [go_sem])
 ·exact ⟨by omega, rfl⟩
 rintro i ⟨hi, hf⟩
 refine awp_seq_k fun K2 hK2 => ?_
 (refine awp_sr fun Y Yh => ?_; simp [go_sem]; ((repeat' (first|(refine ag_x ?_;simp [go_sem])|intro _|apply And.intro|(apply Yh;clear Yh Y)));all_goals first|apply Hold.mk|omega|assumption|skip))
 (refine awp_if fun T F hT hF => ?_; simp [go_sem]; refine BR.intro (fun h3 => hT ?_) (fun h3 => hF ?_); all_goals clear hT hF T F; try simp at h3)
 ·refine awp_skip ?_
  refine hK2 _ ?_; clear hK2
  obtain ⟨x, hx⟩ : ∃ x, l[i]? = some x := ⟨_, List.getElem?_eq_getElem (by omega)⟩
  have hst1 := hst i x hx
  refine awp_seq_k fun K4 hK4 => ?_
  refine awp_block ?_
  (refine awp_sr fun Y Yh => ?_; simp [go_sem, hx]; ((repeat' (first|(refine ag_x ?_;simp [go_sem, hx])|intro _|apply And.intro|(apply Yh;clear Yh Y)));all_goals first|apply Hold.mk|omega|assumption|skip))
  (refine awp_if fun T F hT hF => ?_; simp [go_sem]; refine BR.intro (fun h5 => hT ?_) (fun h5 => hF ?_); all_goals clear hT hF T F; try simp at h5)
  ·rw [if_pos h5] at hst1
   have : r0 = x.2 := by rw [hz, hf, hst1]; rfl
   (refine awp_sr fun Y Yh => ?_; simp [go_sem, hx]; ((repeat' (first|(refine ag_x ?_;simp [go_sem, hx])|intro _|apply And.intro|(apply Yh;clear Yh Y)));all_goals first|apply Hold.mk|omega|assumption|skip))
   (refine awp_ret ?_; simp [go_sem, this])
  ·rw [if_neg h5] at hst1
   refine awp_skip ?_
   refine hK4 _ ?_; clear hK4
   (refine awp_r fun Y Yh => ?_; simp [go_sem]; ((repeat' (first|(refine ag_x ?_;simp [go_sem])|intro _|apply And.intro|(apply Yh;clear Yh Y)));all_goals first|apply Hold.mk|omega|assumption|skip))
   refine ⟨i + 1, ?_, ⟨by omega, hf.trans hst1⟩, by omega⟩
   (refine cov_of ?_ ?_ <;> simp [go_sem])
 ·refine awp_exit ?_
  simp only [go_sem]
  refine hK1 _ ?_; clear hK1
  have : i = l.length := by omega
  subst this
  have : r0 = [] := by rw [hz, hf, he]; rfl
  (refine awp_sr fun Y Yh => ?_; simp [go_sem]; ((repeat' (first|(refine ag_x ?_;simp [go_sem])|intro _|apply And.intro|(apply Yh;clear Yh Y)));all_goals first|apply Hold.mk|omega|assumption|skip))
  (refine awp_ret ?_; simp [go_sem, this])
theorem r12met_spec (v r : Bs) (hv : v.length ≤ 1000000) (hr : r.length ≤ 1000000) : PCall Tryz.prog 183 [dS v, dS r] fun x => x = dB (meetsP v r) := by 
 refine pcall_of Tryz.func183 rfl rfl Tryz.ntmps183 (rs := [.tmp 4]) (tys := [4]) rfl rfl (by simp) ?_
 have M := rMeets_spec v r hv hr
 generalize meetsP v r = b at *
 generalize codeP ((readV v).isSome && (condsV r).isSome) = c at *
 (refine awp_sr fun Y Yh => ?_; simp [go_sem]; ((repeat' (first|(refine ag_x ?_;simp [go_sem])|intro _|apply And.intro|(apply Yh;clear Yh Y)));all_goals first|apply Hold.mk|omega|assumption|skip))
 (refine awp_sr fun Y Yh => ?_; simp [go_sem]; ((repeat' (first|(refine ag_x ?_;simp [go_sem])|intro _|apply And.intro|(apply Yh;clear Yh Y)));all_goals first|apply Hold.mk|omega|assumption|skip))
 ((try refine CallT.toA ?_); refine callT_m (.inl ⟨rfl,rfl⟩) (by simp [go_sem]) ?_; intro args ha; simp [go_sem] at ha; subst ha; refine ⟨_, M, ?_⟩; rintro _ rfl; simp [go_sem]; ((repeat' (first|(refine ag_x ?_;simp [go_sem])|intro _|apply And.intro|(apply Yh;clear Yh Y)));all_goals first|apply Hold.mk|omega|assumption|skip))
 (refine awp_sr fun Y Yh => ?_; simp [go_sem]; ((repeat' (first|(refine ag_x ?_;simp [go_sem])|intro _|apply And.intro|(apply Yh;clear Yh Y)));all_goals first|apply Hold.mk|omega|assumption|skip))
 (refine awp_ret ?_; simp [go_sem])
set_option maxHeartbeats 8000000 in
theorem found_spec (s : Src) (p : Prs) (hs : SzS s) : PCall Tryz.prog 138 [dSrc s, dP p] fun r => r = .tup [dVr (fndP s p), dB (fndV s p).isSome] := by 
 refine pcall_of Tryz.func138 rfl rfl Tryz.ntmps138 (rs := [.cell 4 48, .tmp 5]) (tys := [48, 4]) rfl rfl (by simp) ?_
 obtain ⟨hs0, hs1⟩ := hs
 have hst := fun i g => @fnd_step s p i g
 have he := fnd_end s p
 unfold fndP
 have hz : fndV s p = (s.drop 0).findSome? (fndG p) := rfl
 generalize fndV s p = r0 at *
 generalize hF : (fun k => (s.drop k).findSome? (fndG p)) = F at *
 have hF1 : ∀ k, (s.drop k).findSome? (fndG p) = F k := fun k => by rw [← hF]
 simp only [hF1] at hst hz he
 clear hF hF1
 (refine awp_sr fun Y Yh => ?_; simp [go_sem]; ((repeat' (first|(refine ag_x ?_;simp [go_sem])|intro _|apply And.intro|(apply Yh;clear Yh Y)));all_goals first|apply Hold.mk|omega|assumption|skip))
 rename_i g2 g3 g4
 refine awp_seq_k fun K1 hK1 => ?_
 (refine awp_sr fun Y Yh => ?_; simp [go_sem]; ((repeat' (first|(refine ag_x ?_;simp [go_sem])|intro _|apply And.intro|(apply Yh;clear Yh Y)));all_goals first|apply Hold.mk|omega|assumption|skip))
 refine awp_block ?_
 refine awp_loop (σ := Nat) (fun i => ⟨[(2, .ptr 2 g2 0), (3, .ptr 3 g3 0), (4, .ptr 4 g4 0), (6, dI i)], [(2, g2, .box [dGms s]), (3, g3, .box (cP p)), (4, g4, .box [dS [], .v (.slice none 0 0)])]⟩) (fun i => i ≤ s.length ∧ r0 = F i) (fun i => s.length - i) 0 ?_ ?_ ?_
 ·(refine cov_of ?_ ?_ <;> simp [go_sem])
 ·exact ⟨by omega, hz⟩
 rintro i ⟨hi, hf⟩
 refine awp_seq_k fun K2 hK2 => ?_
 (refine awp_sr fun Y Yh => ?_; simp [go_sem]; ((repeat' (first|(refine ag_x ?_;simp [go_sem])|intro _|apply And.intro|(apply Yh;clear Yh Y)));all_goals first|apply Hold.mk|omega|assumption|skip))
 (refine awp_if fun T F hT hF => ?_; simp [go_sem]; refine BR.intro (fun h3 => hT ?_) (fun h3 => hF ?_); all_goals clear hT hF T F; try simp at h3)
 ·refine awp_skip ?_
  refine hK2 _ ?_; clear hK2
  obtain ⟨x, hx⟩ : ∃ x, s[i]? = some x := ⟨_, List.getElem?_eq_getElem (by omega)⟩
  obtain ⟨hx1, hx2, hx3⟩ := hs1 x (List.mem_of_getElem? hx)
  have hst1 := hst i x hx
  have hin := fun k v => @find_step x.2 p.2 k v
  have hie : (x.2.drop x.2.length).find? (fun v => decide (v.1 = p.2)) = none := by rw [List.drop_length]; rfl
  have hG : fndG p x = if x.1 = p.1 then (x.2.drop 0).find? (fun v => decide (v.1 = p.2)) else none := rfl
  generalize hE : (fun k => (x.2.drop k).find? (fun v => decide (v.1 = p.2))) = E at *
  have hE1 : ∀ k, (x.2.drop k).find? (fun v => decide (v.1 = p.2)) = E k := fun k => by rw [← hE]
  simp only [hE1] at hin hie hG
  clear hE hE1
  refine awp_seq_k fun K4 hK4 => ?_
  have tl4 : ∀ S', fndG p x = none → Cov S' ⟨[(2, .ptr 2 g2 0), (3, .ptr 3 g3 0), (4, .ptr 4 g4 0), (6, dI i)], [(2, g2, .box [dGms s]), (3, g3, .box (cP p)), (4, g4, .box [dS [], .v (.slice none 0 0)])]⟩ → K4 S' := fun S' hn hS => by
   refine hK4 _ ?_; clear hK4
   refine awp_cov hS ?_; clear hS
   rw [hn] at hst1
   (refine awp_r fun Y Yh => ?_; simp [go_sem]; ((repeat' (first|(refine ag_x ?_;simp [go_sem])|intro _|apply And.intro|(apply Yh;clear Yh Y)));all_goals first|apply Hold.mk|omega|assumption|skip))
   refine ⟨i + 1, ?_, ⟨by omega, hf.trans hst1⟩, by omega⟩
   (refine cov_of ?_ ?_ <;> simp [go_sem])
  clear hK4
  refine awp_block ?_
  (refine awp_sr fun Y Yh => ?_; simp [go_sem]; ((repeat' (first|(refine ag_x ?_;simp [go_sem])|intro _|apply And.intro|(apply Yh;clear Yh Y)));all_goals first|apply Hold.mk|omega|assumption|skip))
  refine awp_block ?_
  refine awp_loop (σ := Nat) (fun k => ⟨[(2, .ptr 2 g2 0), (3, .ptr 3 g3 0), (4, .ptr 4 g4 0), (6, dI i), (7, dI k)], [(2, g2, .box [dGms s]), (3, g3, .box (cP p)), (4, g4, .box [dS [], .v (.slice none 0 0)])]⟩) (fun k => k ≤ x.2.length ∧ (x.1 = p.1 → fndG p x = E k)) (fun k => x.2.length - k) 0 ?_ ?_ ?_
  ·(refine cov_of ?_ ?_ <;> simp [go_sem])
  ·exact ⟨by omega, fun q => by rw [hG, if_pos q]⟩
  rintro k ⟨hk, hek⟩
  refine awp_seq_k fun K5 hK5 => ?_
  by_cases h6 : k < x.2.length
  ·by_cases h7 : x.1 = p.1
   ·obtain ⟨v, hv⟩ : ∃ v, x.2[k]? = some v := ⟨_, List.getElem?_eq_getElem h6⟩
    have hin1 := hin k v hv
    have hek1 := hek h7
    ((refine awp_dr (.qs [0, 1, 3, 2, 4, 5, 6, 7, 8, 9, 10, 12, 16, 11, 13, 14, 15, 17, 18, 19] (.nil)) (by kernel_rfl) ?_ ?_ ?_ ?_); (kernel_rfl); (exact (by decide +kernel)); (kernel_rfl); intro Y Yh; ((repeat' (first|(refine ag_x ?_;simp [go_sem, hx, h6, h7])|refine adr_nil ?_|((first|refine adr_qs fun Y Yh=>?_|refine adr_y fun Y Yh=>?_);simp [go_sem, hx, h6, h7])|intro _|apply And.intro|(apply Yh;clear Yh Y)));all_goals first|apply Hold.mk|omega|assumption|skip))
    (refine awp_if fun T F hT hF => ?_; simp [go_sem, h6, h7]; refine hT ?_; clear hT hF T F)
    refine awp_skip ?_
    refine hK5 _ ?_; clear hK5
    refine awp_seq_k fun K7 hK7 => ?_
    refine awp_block ?_
    ((refine awp_dr (.qs [0, 2, 6, 10, 1, 3, 4, 5, 7, 8, 9, 11, 12] (.nil)) (by kernel_rfl) ?_ ?_ ?_ ?_); (kernel_rfl); (exact (by decide +kernel)); (kernel_rfl); intro Y Yh; ((repeat' (first|(refine ag_x ?_;simp [go_sem, hx, hv])|refine adr_nil ?_|((first|refine adr_qs fun Y Yh=>?_|refine adr_y fun Y Yh=>?_);simp [go_sem, hx, hv])|intro _|apply And.intro|(apply Yh;clear Yh Y)));all_goals first|apply Hold.mk|omega|assumption|skip))
    (refine awp_if fun T F hT hF => ?_; simp [go_sem]; refine BR.intro (fun h8 => hT ?_) (fun h8 => hF ?_); all_goals clear hT hF T F; try simp at h8)
    ·rw [if_pos h8] at hin1
     rw [hek1.trans hin1] at hst1
     have : r0 = some v := hf.trans hst1
     (refine awp_sr fun Y Yh => ?_; simp [go_sem, hx, hv]; ((repeat' (first|(refine ag_x ?_;simp [go_sem, hx, hv])|intro _|apply And.intro|(apply Yh;clear Yh Y)));all_goals first|apply Hold.mk|omega|assumption|skip))
     (refine awp_ret ?_; simp [go_sem, this])
    ·rw [if_neg h8] at hin1
     refine awp_skip ?_
     refine hK7 _ ?_; clear hK7
     (refine awp_r fun Y Yh => ?_; simp [go_sem]; ((repeat' (first|(refine ag_x ?_;simp [go_sem])|intro _|apply And.intro|(apply Yh;clear Yh Y)));all_goals first|apply Hold.mk|omega|assumption|skip))
     refine ⟨k + 1, ?_, ⟨by omega, fun q => hek1.trans hin1⟩, by omega⟩
     (refine cov_of ?_ ?_ <;> simp [go_sem])
   ·have h7b : (x.1 == p.1) = false := by rw [beq_eq_false_iff_ne]; exact h7
    ((refine awp_dr (.qs [0, 1, 3, 2, 4, 5, 6, 7, 8, 9, 10, 12, 16, 11, 13, 14, 15, 17, 18, 19] (.nil)) (by kernel_rfl) ?_ ?_ ?_ ?_); (kernel_rfl); (exact (by decide +kernel)); (kernel_rfl); intro Y Yh; ((repeat' (first|(refine ag_x ?_;simp [go_sem, hx, h6, h7, h7b])|refine adr_nil ?_|((first|refine adr_qs fun Y Yh=>?_|refine adr_y fun Y Yh=>?_);simp [go_sem, hx, h6, h7, h7b])|intro _|apply And.intro|(apply Yh;clear Yh Y)));all_goals first|apply Hold.mk|omega|assumption|skip))
    (refine awp_if fun T F hT hF => ?_; simp [go_sem, h6, h7, h7b]; refine hF ?_; clear hT hF T F)
    refine awp_exit ?_
    simp only [go_sem]
    refine tl4 _ (by rw [hG, if_neg h7]) ?_
    (refine cov_of ?_ ?_ <;> simp [go_sem])
  ·have h6i : ¬ (k : Int) < x.2.length := by omega
   have hke : k = x.2.length := by omega
   ((refine awp_dr (.qs [0, 1, 3, 2, 4, 5, 6, 7, 8, 9] (.sk 10 (.sk 12 (.sk 16 (.sk 11 (.sk 13 (.sk 14 (.sk 15 (.sk 17 (.sk 18 (.qs [19] (.nil)))))))))))) (by kernel_rfl) ?_ ?_ ?_ ?_); (kernel_rfl); (exact (by decide +kernel)); (kernel_rfl); intro Y Yh; ((repeat' (first|(refine ag_x ?_;simp [go_sem, hx, h6, h6i, undef])|refine adr_nil ?_|((first|refine adr_qs fun Y Yh=>?_|refine adr_y fun Y Yh=>?_);simp [go_sem, hx, h6, h6i, undef])|intro _|apply And.intro|(apply Yh;clear Yh Y)));all_goals first|apply Hold.mk|omega|assumption|skip))
   (refine awp_if fun T F hT hF => ?_; simp [go_sem, h6, h6i]; refine hF ?_; clear hT hF T F)
   refine awp_exit ?_
   simp only [go_sem]
   refine tl4 _ ?_ ?_
   ·by_cases h7 : x.1 = p.1
    ·rw [hek h7, hke, hie]
    ·rw [hG, if_neg h7]
   ·(refine cov_of ?_ ?_ <;> simp [go_sem])
 ·refine awp_exit ?_
  simp only [go_sem]
  refine hK1 _ ?_; clear hK1
  have : i = s.length := by omega
  subst this
  have : r0 = none := hf.trans he
  (refine awp_sr fun Y Yh => ?_; simp [go_sem]; ((repeat' (first|(refine ag_x ?_;simp [go_sem])|intro _|apply And.intro|(apply Yh;clear Yh Y)));all_goals first|apply Hold.mk|omega|assumption|skip))
  (refine awp_ret ?_; simp [go_sem, this])
end Go.Proofs.YteekfnhhlcmcgaaGreatDoor
set_option maxRecDepth 20000
namespace Go.Lk
open Go.Lib Go.Wh Go.Ver
/-! the versions of a gem that may be chosen -/
theorem foldl_take {α β : Type} (f : β → α → β) (z : β) {l : List α} {i : Nat} {x : α} (h : l[i]? = some x) : (l.take (i + 1)).foldl f z = f ((l.take i).foldl f z) x := by
 rw [List.take_add_one, h]; simp
theorem all_take {α : Type} (f : α → Bool) {l : List α} {i : Nat} {x : α} (h : l[i]? = some x) : (l.take (i + 1)).all f = ((l.take i).all f && f x) := by
 rw [List.take_add_one, h]; simp
def aFit (gem num : Bs) (n : Prs) : Bool := decide (n.1 ≠ gem) || meetsP num n.2
def bFit (l : List Prs) (n : Prs) : Bool := decide (pkdV l n.1 = []) || meetsP (pkdV l n.1) n.2
def fitV (all l : List Prs) (gem : Bs) (v : Vrs) : Bool := all.all (aFit gem v.1) && v.2.all (bFit (l ++ [(gem, v.1)]))
def insV (v : Vrs) : List Vrs → List Vrs
 | [] => [v]
 | y :: r => if compareP y.1 v.1 < 0 then v :: y :: r else y :: insV v r
theorem insV_at {v : Vrs} : ∀ {out : List Vrs} {a : Nat}, a ≤ out.length → (∀ y ∈ out.take a, ¬ compareP y.1 v.1 < 0) → (∀ y, out[a]? = some y → compareP y.1 v.1 < 0) → insV v out = out.take a ++ v :: out.drop a
 | [], a, ha, _, _ => by
  have : a = 0 := by simpa using ha
  subst this; rfl
 | y :: r, 0, _, _, h => by
  have := h y rfl
  simp [insV, this]
 | y :: r, a + 1, ha, h1, h2 => by
  have := h1 y (by simp)
  simp only [insV, this, if_false, List.take_succ_cons, List.drop_succ_cons, List.cons_append]
  rw [insV_at (by simpa using ha) (fun z hz => h1 z (by simp [hz])) (fun z hz => h2 z (by simpa using hz))]
theorem insV_len (v : Vrs) : ∀ out : List Vrs, (insV v out).length = out.length + 1
 | [] => rfl
 | y :: r => by
  unfold insV
  split
  ·simp
  ·simp [insV_len v r]
theorem insV_mem {v x : Vrs} : ∀ {out : List Vrs}, x ∈ insV v out ↔ x = v ∨ x ∈ out
 | [] => by simp [insV]
 | y :: r => by
  unfold insV
  split
  ·simp
  ·simp only [List.mem_cons, insV_mem (out := r)]
   constructor
   ·rintro (h | h | h) <;> simp [h]
   ·rintro (h | h | h) <;> simp [h]
def cstV (all l : List Prs) (gem : Bs) (o : List Vrs) (v : Vrs) : List Vrs := if fitV all l gem v = true then insV v o else o
def cstG (all l : List Prs) (gem : Bs) (o : List Vrs) (g : Gm) : List Vrs := if g.1 = gem then g.2.foldl (cstV all l gem) o else o
def candV (s : Src) (w l : List Prs) (gem : Bs) : List Vrs := s.foldl (cstG (allN s w l) l gem) []
theorem cstV_len (all l : List Prs) (gem : Bs) (o : List Vrs) (v : Vrs) : (cstV all l gem o v).length ≤ o.length + 1 := by
 unfold cstV; split
 ·rw [insV_len]; omega
 ·omega
theorem cstV_mem {all l : List Prs} {gem : Bs} {o : List Vrs} {v x : Vrs} (h : x ∈ cstV all l gem o v) : x = v ∨ x ∈ o := by
 unfold cstV at h; split at h
 ·exact insV_mem.1 h
 ·exact .inr h
theorem cstsV_mem {all l : List Prs} {gem : Bs} {x : Vrs} : ∀ {vs o : List Vrs}, x ∈ vs.foldl (cstV all l gem) o → x ∈ vs ∨ x ∈ o
 | [], o, h => .inr h
 | v :: vs, o, h => by
  rw [List.foldl_cons] at h
  rcases cstsV_mem h with h | h
  ·exact .inl (by simp [h])
  ·rcases cstV_mem h with h | h
   ·exact .inl (by simp [h])
   ·exact .inr h
theorem cstsG_mem {all l : List Prs} {gem : Bs} {x : Vrs} : ∀ {s : Src} {o : List Vrs}, x ∈ s.foldl (cstG all l gem) o → (∃ g ∈ s, g.1 = gem ∧ x ∈ g.2) ∨ x ∈ o
 | [], o, h => .inr h
 | g :: s, o, h => by
  rw [List.foldl_cons] at h
  rcases cstsG_mem h with ⟨g', h1, h2, h3⟩ | h
  ·exact .inl ⟨g', by simp [h1], h2, h3⟩
  ·unfold cstG at h
   split at h
   ·rename_i e
    rcases cstsV_mem h with h | h
    ·exact .inl ⟨g, by simp, e, h⟩
    ·exact .inr h
   ·exact .inr h
theorem candV_mem {s : Src} {w l : List Prs} {gem : Bs} {x : Vrs} (h : x ∈ candV s w l gem) : ∃ g ∈ s, g.1 = gem ∧ x ∈ g.2 := by
 rcases cstsG_mem h with h | h
 ·exact h
 ·cases h
theorem pkdV_sz {l : List Prs} (h : ∀ x ∈ l, x.2.length ≤ 1000000) (n : Bs) : (pkdV l n).length ≤ 1000000 := by
 unfold pkdV
 cases hf : l.find? (fun x => decide (x.1 = n)) with
 | none => simp
 | some x => exact h x (List.mem_of_find?_eq_some hf)
end Go.Lk
set_option linter.unusedSectionVars false
namespace Go.Eng
variable {P : Program} [HasGlob P] {n : Nat} {S : St} {Q : Exit → St → Prop}
theorem awp_seq_j {x y : Code} {α : Type} (S1 : α → St) (h : ∀ K : St → Prop, (∀ S', AWp P n y S' Q → K S') → (∀ a S', Cov S' (S1 a) → AWp P n y S' Q) → AWp P n x S (thenQ K Q)) (h2 : ∀ a, AWp P n y (S1 a) Q) :
  AWp P n (.seq x y) S Q := awp_seq_k fun K hK => h K hK fun a _ hc => awp_cov hc (h2 a)
theorem callA_frz {df : D} {ds : List D} {tys : List TypeId} {k : St → D → Prop} (s : Nat) {g e kk : Nat} {es : List (List D)} (hx : look S.heap s = some (g, .row e kk es)) (h : CallA P df ds tys (S.hput s g (.froz kk es)) k) : CallA P df ds tys S k := by
 unfold CallA at h ⊢
 intro w0 B C0 n C a w us uf E I hr hu
 have hF := I.freeze hx
 exact h us uf E hF.1 ⟨hr.1, fun j d u hd hu => (hr.2 j d u hd hu).mono hF.2⟩ (hu.mono hF.2)
end Go.Eng
namespace Go.Proofs.YteekfnhhlcmcgaaGreatDoor
open Go.Eng Go.Wh Go.Ver Go.RowKit Go.Lk
set_option maxRecDepth 20000
attribute [local irreducible] AG CallA CallT AWp PCall ACall AgC
set_option maxHeartbeats 8000000 in
theorem all_spec (s : Src) (w l : List Prs) (hs : SzS s) (hw : SzN w) (hl : l.length ≤ 1000) : PCall Tryz.prog 141 [dSrc s, dPs w, dPs l] fun r => r = dPs (allN s w l) := by 
 refine pcall_of Tryz.func141 rfl rfl Tryz.ntmps141 (rs := [.tmp 6]) (tys := [26]) rfl rfl (by simp) ?_
 have hw0 := hw.1
 have hst := fun i p => @allN_step s w l i p
 have hz := allN_nil s w
 have hln := fun i => allN_len (w := w) hs (l.take i)
 have hfl : allN s w (l.take l.length) = allN s w l := by rw [List.take_length]
 (refine awp_sr fun Y Yh => ?_; simp [go_sem]; ((repeat' (first|(refine ag_x ?_;simp [go_sem])|intro _|apply And.intro|(apply Yh;clear Yh Y)));all_goals first|apply Hold.mk|omega|assumption|skip))
 rename_i g3
 (refine awp_sr fun Y Yh => ?_; simp [go_sem]; ((repeat' (first|(refine ag_x ?_;simp [go_sem])|intro _|apply And.intro|(apply Yh;clear Yh Y)));all_goals first|apply Hold.mk|omega|assumption|skip))
 refine awp_renrow 7 7 rfl rfl (by decide) fun g7 => ?_
 simp only [go_sem]
 refine awp_seq_k fun K1 hK1 => ?_
 (refine awp_sr fun Y Yh => ?_; simp [go_sem]; ((repeat' (first|(refine ag_x ?_;simp [go_sem])|intro _|apply And.intro|(apply Yh;clear Yh Y)));all_goals first|apply Hold.mk|omega|assumption|skip))
 refine awp_block ?_
 refine awp_loop (σ := Nat × Nat) (fun x => ⟨[(2, dPs l), (3, .ptr 3 g3 0), (7, .own 7 x.2), (8, dI x.1)], [(3, g3, .box [dGms s]), (7, x.2, .row 43 2 ((allN s w (l.take x.1)).map cP))]⟩) (fun x => x.1 ≤ l.length) (fun x => l.length - x.1) (0, g7) ?_ ?_ ?_
 ·(refine cov_of ?_ ?_ <;> simp [go_sem, hz])
 ·simp
 rintro ⟨i, g⟩ hi
 simp only at hi
 refine awp_seq_k fun K2 hK2 => ?_
 (refine awp_sr fun Y Yh => ?_; simp [go_sem]; ((repeat' (first|(refine ag_x ?_;simp [go_sem])|intro _|apply And.intro|(apply Yh;clear Yh Y)));all_goals first|apply Hold.mk|omega|assumption|skip))
 (refine awp_if fun T F hT hF => ?_; simp [go_sem]; refine BR.intro (fun h3 => hT ?_) (fun h3 => hF ?_); all_goals clear hT hF T F; try simp at h3)
 ·refine awp_skip ?_
  refine hK2 _ ?_; clear hK2
  obtain ⟨x, hx⟩ : ∃ x, l[i]? = some x := ⟨_, List.getElem?_eq_getElem (by omega)⟩
  have FD := found_spec s x hs
  have hst1 := hst i x hx
  have hfz := (fndP_sz hs x).2.1
  have hln1 := hln i
  have hti : (l.take i).length = i := by rw [List.length_take]; omega
  rw [hti] at hln1
  have hln2 : (allN s w (l.take i)).length ≤ 1001000000 := by
   have e : i * 1000000 ≤ 1000 * 1000000 := Nat.mul_le_mul_right _ (by omega)
   omega
  generalize (fndV s x).isSome = b at *
  generalize fndP s x = v at *
  generalize allN s w (l.take i) = out at *
  refine awp_seq_k fun K4 hK4 => ?_
  refine awp_block ?_
  ((refine awp_dr (.qs [1, 2, 3, 0, 4] (.kp2 5 (.qs [6, 7, 8] (.kp 9 (.one 10 (.qs [11] (.nil))))) 9 (.kp 5 (.qs [6, 7, 8] (.one 10 (.qs [11] (.nil))))))) (by kernel_rfl) ?_ ?_ ?_ ?_); (kernel_rfl); (exact (by decide +kernel)); (kernel_rfl); intro Y Yh; ((repeat' (first|(refine ag_x ?_;simp [go_sem, hx])|refine adr_nil ?_|refine adr_kp2 ?_ ?_|((first|refine adr_qs fun Y Yh=>?_|refine adr_y fun Y Yh=>?_);simp [go_sem, hx])|intro _|apply And.intro|(apply Yh;clear Yh Y)));all_goals first|apply Hold.mk|omega|assumption|skip))
  all_goals
   ((try refine CallT.toA ?_); refine callT_m (.inl ⟨rfl,rfl⟩) (by simp [go_sem]) ?_; intro args ha; simp [go_sem] at ha; subst ha; refine ⟨_, FD, ?_⟩; rintro _ rfl; simp [go_sem]; ((repeat' (first|(refine ag_x ?_;simp [go_sem])|refine adr_nil ?_|refine adr_kp2 ?_ ?_|((first|refine adr_qs fun Y Yh=>?_|refine adr_y fun Y Yh=>?_);simp [go_sem])|intro _|apply And.intro|(apply Yh;clear Yh Y)));all_goals first|apply Hold.mk|omega|assumption|skip))
   (refine awp_r fun Y Yh => ?_; simp [go_sem]; ((repeat' (first|(refine ag_x ?_;simp [go_sem])|intro _|apply And.intro|(apply Yh;clear Yh Y)));all_goals first|apply Hold.mk|omega|assumption|skip))
   refine hK4 _ ?_; clear hK4
   refine awp_renrow 7 7 rfl rfl (by decide) fun g' => ?_
   simp only [go_sem]
   (refine awp_r fun Y Yh => ?_; simp [go_sem]; ((repeat' (first|(refine ag_x ?_;simp [go_sem])|intro _|apply And.intro|(apply Yh;clear Yh Y)));all_goals first|apply Hold.mk|omega|assumption|skip))
   refine ⟨(i + 1, g'), ?_, by simp only; omega, by simp only; omega⟩
   simp only [hst1]
   (refine cov_of ?_ ?_ <;> simp [go_sem])
 ·refine awp_exit ?_
  simp only [go_sem]
  refine hK1 _ ?_; clear hK1
  have : i = l.length := by omega
  subst this
  (refine awp_sr fun Y Yh => ?_; simp [go_sem]; ((repeat' (first|(refine ag_x ?_;simp [go_sem])|intro _|apply And.intro|(apply Yh;clear Yh Y)));all_goals first|apply Hold.mk|omega|assumption|skip))
  refine awp_frzrow 6 rfl rfl ?_
  simp only [go_sem]
  (refine awp_ret ?_; simp [go_sem, hfl])
set_option maxHeartbeats 16000000 in
theorem candidates_spec (s : Src) (w l : List Prs) (gem : Bs) (hs : SzS s) (h15 : s.length ≤ 15) (h12 : ∀ g ∈ s, g.2.length ≤ 12) (hw : SzN w) (hl : l.length ≤ 1000) (hlz : ∀ x ∈ l, Sz1 x) :
  PCall Tryz.prog 182 [dSrc s, dPs w, dPs l, dS gem] fun r => r = dVrs (candV s w l gem) := by 
 refine pcall_of Tryz.func182 rfl rfl Tryz.ntmps182 (rs := [.tmp 8]) (tys := [44]) rfl rfl (by simp) ?_
 have AN := all_spec s w l hs hw hl
 have hal := allN_len (w := w) hs l
 have ham := allN_mem (l := l) hs hw.2
 have hw0 := hw.1
 have hal2 : (allN s w l).length ≤ 1001000000 := by
  have e : l.length * 1000000 ≤ 1000 * 1000000 := Nat.mul_le_mul_right _ hl
  omega
 unfold candV
 generalize allN s w l = all at *
 have hGs := fun i g => @foldl_take Gm (List Vrs) (cstG all l gem) [] s i g
 have hfl : (s.take s.length).foldl (cstG all l gem) [] = s.foldl (cstG all l gem) [] := by rw [List.take_length]
 have hz : (s.take 0).foldl (cstG all l gem) [] = [] := rfl
 obtain ⟨r0, hr0⟩ : ∃ r, s.foldl (cstG all l gem) [] = r := ⟨_, rfl⟩
 rw [hr0] at hfl ⊢
 (refine awp_sr fun Y Yh => ?_; simp [go_sem]; ((repeat' (first|(refine ag_x ?_;simp [go_sem])|intro _|apply And.intro|(apply Yh;clear Yh Y)));all_goals first|apply Hold.mk|omega|assumption|skip))
 rename_i g4
 (refine awp_sr fun Y Yh => ?_; simp [go_sem]; ((repeat' (first|(refine ag_x ?_;simp [go_sem])|intro _|apply And.intro|(apply Yh;clear Yh Y)));all_goals first|apply Hold.mk|omega|assumption|skip))
 refine awp_nilslot 9 9 48 2 rfl fun g9 => ?_
 simp only [go_sem]
 (refine awp_sr fun Y Yh => ?_; simp [go_sem]; ((repeat' (first|(refine ag_x ?_;simp [go_sem])|intro _|apply And.intro|(apply Yh;clear Yh Y)));all_goals first|apply Hold.mk|omega|assumption|skip))
 ((try refine CallT.toA ?_); refine callT_m (.inl ⟨rfl,rfl⟩) (by simp [go_sem]) ?_; intro args ha; simp [go_sem] at ha; subst ha; refine ⟨_, AN, ?_⟩; rintro _ rfl; simp [go_sem]; ((repeat' (first|(refine ag_x ?_;simp [go_sem])|intro _|apply And.intro|(apply Yh;clear Yh Y)));all_goals first|apply Hold.mk|omega|assumption|skip))
 refine awp_seq_k fun K1 hK1 => ?_
 (refine awp_sr fun Y Yh => ?_; simp [go_sem]; ((repeat' (first|(refine ag_x ?_;simp [go_sem])|intro _|apply And.intro|(apply Yh;clear Yh Y)));all_goals first|apply Hold.mk|omega|assumption|skip))
 refine awp_block ?_
 refine awp_loop (σ := Nat × Nat) (fun x => ⟨[(2, dPs l), (3, dS gem), (4, .ptr 4 g4 0), (9, .own 9 x.2), (10, dPs all), (11, dI x.1)], [(4, g4, .box [dGms s]), (9, x.2, .row 48 2 (((s.take x.1).foldl (cstG all l gem) []).map cVr))]⟩)
  (fun x => x.1 ≤ s.length ∧ ((s.take x.1).foldl (cstG all l gem) []).length ≤ x.1 * 12) (fun x => s.length - x.1) (0, g9) ?_ ?_ ?_
 ·(refine cov_of ?_ ?_ <;> simp [go_sem])
 ·simp
 rintro ⟨i, go⟩ ⟨hi, hol⟩
 simp only at hi hol
 refine awp_seq_k fun K2 hK2 => ?_
 (refine awp_sr fun Y Yh => ?_; simp [go_sem]; ((repeat' (first|(refine ag_x ?_;simp [go_sem])|intro _|apply And.intro|(apply Yh;clear Yh Y)));all_goals first|apply Hold.mk|omega|assumption|skip))
 (refine awp_if fun T F hT hF => ?_; simp [go_sem]; refine BR.intro (fun h3 => hT ?_) (fun h3 => hF ?_); all_goals clear hT hF T F; try simp at h3) 
 ·refine awp_skip ?_
  refine hK2 _ ?_; clear hK2
  obtain ⟨x, hx⟩ : ∃ x, s[i]? = some x := ⟨_, List.getElem?_eq_getElem (by omega)⟩
  have hxm := List.mem_of_getElem? hx
  obtain ⟨hx1, hx2, hx3⟩ := hs.2 x hxm
  have hx12 := h12 x hxm
  have hst1 := hGs i x hx
  have houtz0 : ∀ y ∈ (s.take i).foldl (cstG all l gem) [], y.1.length ≤ 1000000 := fun y hy => by
   rcases cstsG_mem hy with ⟨g, h1, _, h2⟩ | h
   ·exact ((hs.2 g (List.mem_of_mem_take h1)).2.2 y h2).1
   ·cases h
  generalize (s.take i).foldl (cstG all l gem) [] = out0 at *
  have hG : cstG all l gem out0 x = if x.1 = gem then (x.2.take x.2.length).foldl (cstV all l gem) out0 else out0 := by unfold cstG; rw [List.take_length]
  have hVs := fun k v => @foldl_take Vrs (List Vrs) (cstV all l gem) out0 x.2 k v
  have hVz : (x.2.take 0).foldl (cstV all l gem) out0 = out0 := rfl
  refine awp_seq_k fun K4 hK4 => ?_
  have tl4 : ∀ S' o g, o = cstG all l gem out0 x → o.length ≤ out0.length + 12 → Cov S' ⟨[(2, dPs l), (3, dS gem), (4, .ptr 4 g4 0), (9, .own 9 g), (10, dPs all), (11, dI i)], [(4, g4, .box [dGms s]), (9, g, .row 48 2 (o.map cVr))]⟩ → K4 S' := fun S' o g ho hoz hS => by
   refine hK4 _ ?_; clear hK4
   refine awp_cov hS ?_; clear hS
   rw [← ho] at hst1
   (refine awp_r fun Y Yh => ?_; simp [go_sem]; ((repeat' (first|(refine ag_x ?_;simp [go_sem])|intro _|apply And.intro|(apply Yh;clear Yh Y)));all_goals first|apply Hold.mk|omega|assumption|skip))
   refine ⟨(i + 1, g), ?_, ⟨by simp only; omega, by simp only [hst1]; omega⟩, by simp only; omega⟩
   simp only [hst1]
   (refine cov_of ?_ ?_ <;> simp [go_sem])
  clear hK4
  refine awp_block ?_
  (refine awp_sr fun Y Yh => ?_; simp [go_sem]; ((repeat' (first|(refine ag_x ?_;simp [go_sem])|intro _|apply And.intro|(apply Yh;clear Yh Y)));all_goals first|apply Hold.mk|omega|assumption|skip))
  refine awp_block ?_
  refine awp_loop (σ := Nat × Nat) (fun z => ⟨[(2, dPs l), (3, dS gem), (4, .ptr 4 g4 0), (9, .own 9 z.2), (10, dPs all), (11, dI i), (12, dI z.1)], [(4, g4, .box [dGms s]), (9, z.2, .row 48 2 (((x.2.take z.1).foldl (cstV all l gem) out0).map cVr))]⟩)
   (fun z => z.1 ≤ x.2.length ∧ ((x.2.take z.1).foldl (cstV all l gem) out0).length ≤ out0.length + z.1 ∧ (¬ x.1 = gem → z.1 = 0)) (fun z => x.2.length - z.1) (0, go) ?_ ?_ ?_
  ·(refine cov_of ?_ ?_ <;> simp [go_sem])
  ·simp
  rintro ⟨k, go⟩ ⟨hk, hkl, hk0⟩
  simp only at hk hkl hk0
  have hexit : (k = x.2.length ∨ ¬ x.1 = gem) → (x.2.take k).foldl (cstV all l gem) out0 = cstG all l gem out0 x := fun q => by
   by_cases e : x.1 = gem
   ·rw [hG, if_pos e]
    rcases q with q | q
    ·rw [q]
    ·exact absurd e q
   ·rw [hG, if_neg e, hk0 e]; rfl
  refine awp_seq_k fun K5 hK5 => ?_
  by_cases h6 : k < x.2.length
  ·by_cases h7 : x.1 = gem
   ·obtain ⟨v, hv⟩ : ∃ v, x.2[k]? = some v := ⟨_, List.getElem?_eq_getElem h6⟩
    obtain ⟨hv1, hv2⟩ := hx3 v (List.mem_of_getElem? hv)
    have hv20 := hv2.1
    have hst2 := hVs k v hv
    have houtz : ∀ y ∈ (x.2.take k).foldl (cstV all l gem) out0, y.1.length ≤ 1000000 := fun y hy => by
     rcases cstsV_mem hy with h | h
     ·exact (hx3 y (List.mem_of_mem_take h)).1
     ·exact houtz0 y h
    generalize (x.2.take k).foldl (cstV all l gem) out0 = out at *
    (refine awp_sr fun Y Yh => ?_; simp [go_sem, hx, h6, h7]; ((repeat' (first|(refine ag_x ?_;simp [go_sem, hx, h6, h7])|intro _|apply And.intro|(apply Yh;clear Yh Y)));all_goals first|apply Hold.mk|omega|assumption|skip))
    (refine awp_if fun T F hT hF => ?_; simp [go_sem, h6, h7]; refine hT ?_; clear hT hF T F)
    refine awp_skip ?_
    refine hK5 _ ?_; clear hK5
    have hl1 := cstV_len all l gem out v
    refine awp_seq_j (α := Nat) (fun g => ⟨[(2, dPs l), (3, dS gem), (4, .ptr 4 g4 0), (9, .own 9 g), (10, dPs all), (11, dI i), (12, dI k)], [(4, g4, .box [dGms s]), (9, g, .row 48 2 ((cstV all l gem out v).map cVr))]⟩) (fun K7 hK7 hM7 => ?_) (fun g => ?_)
    rotate_left
    ·(refine awp_r fun Y Yh => ?_; simp [go_sem]; ((repeat' (first|(refine ag_x ?_;simp [go_sem])|intro _|apply And.intro|(apply Yh;clear Yh Y)));all_goals first|apply Hold.mk|omega|assumption|skip))
     refine ⟨(k + 1, g), ?_, ⟨by simp only; omega, by simp only [hst2]; omega, fun q => absurd h7 q⟩, by simp only; omega⟩
     simp only [hst2]
     (refine cov_of ?_ ?_ <;> simp [go_sem])
    have hcst : cstV all l gem out v = if fitV all l gem v = true then insV v out else out := rfl
    have hfit : fitV all l gem v = (all.all (aFit gem v.1) && v.2.all (bFit (l ++ [(gem, v.1)]))) := rfl
    generalize cstV all l gem out v = res at *
    generalize fitV all l gem v = fit at *
    refine awp_block ?_
    (refine awp_sr fun Y Yh => ?_; simp [go_sem, hx, hv]; ((repeat' (first|(refine ag_x ?_;simp [go_sem, hx, hv])|intro _|apply And.intro|(apply Yh;clear Yh Y)));all_goals first|apply Hold.mk|omega|assumption|skip))
    rename_i g13
    refine awp_frzbox 13 rfl rfl ?_
    simp only [go_sem]
    (refine awp_sr fun Y Yh => ?_; simp [go_sem]; ((repeat' (first|(refine ag_x ?_;simp [go_sem])|intro _|apply And.intro|(apply Yh;clear Yh Y)));all_goals first|apply Hold.mk|omega|assumption|skip))
    refine awp_seq_k fun K8 hK8 => ?_
    (refine awp_sr fun Y Yh => ?_; simp [go_sem]; ((repeat' (first|(refine ag_x ?_;simp [go_sem])|intro _|apply And.intro|(apply Yh;clear Yh Y)));all_goals first|apply Hold.mk|omega|assumption|skip))
    refine awp_block ?_
    obtain ⟨A, hA⟩ : ∃ A : Nat → Bool, ∀ n, (all.take n).all (aFit gem v.1) = A n := ⟨_, fun _ => rfl⟩
    have hA0 : A 0 = true := by rw [← hA]; rfl
    have hAe : all.all (aFit gem v.1) = A all.length := by rw [← hA, List.take_length]
    have hAs : ∀ n x, all[n]? = some x → A (n + 1) = (A n && aFit gem v.1 x) := fun n x h => by rw [← hA, ← hA]; exact all_take _ h
    rw [hAe] at hfit
    clear hA hAe
    refine awp_loop (σ := Nat) (fun n => ⟨[(2, dPs l), (3, dS gem), (4, .ptr 4 g4 0), (9, .own 9 go), (10, dPs all), (11, dI i), (12, dI k), (13, .rd (cVr v)), (14, dB (A n)), (15, dI n)], [(4, g4, .box [dGms s]), (9, go, .row 48 2 (out.map cVr))]⟩) (fun n => n ≤ all.length) (fun n => all.length - n) 0 ?_ ?_ ?_
    ·(refine cov_of ?_ ?_ <;> simp [go_sem, hA0])
    ·simp
    intro n hn
    refine awp_seq_k fun K9 hK9 => ?_
    (refine awp_sr fun Y Yh => ?_; simp [go_sem]; ((repeat' (first|(refine ag_x ?_;simp [go_sem])|intro _|apply And.intro|(apply Yh;clear Yh Y)));all_goals first|apply Hold.mk|omega|assumption|skip))
    (refine awp_if fun T F hT hF => ?_; simp [go_sem]; refine BR.intro (fun h10 => hT ?_) (fun h10 => hF ?_); all_goals clear hT hF T F; try simp at h10) 
    ·refine awp_skip ?_
     refine hK9 _ ?_; clear hK9
     obtain ⟨y, hy⟩ : ∃ y, all[n]? = some y := ⟨_, List.getElem?_eq_getElem (by omega)⟩
     have hyz := ham y (List.mem_of_getElem? hy)
     have hAs1 := hAs n y hy
     have hAF : aFit gem v.1 y = (decide (y.1 ≠ gem) || meetsP v.1 y.2) := rfl
     have MT := r12met_spec v.1 y.2 hv1 hyz.2
     generalize meetsP v.1 y.2 = mb at *
     rw [hAF] at hAs1
     generalize A n = an at *
     refine awp_seq_k fun K11 hK11 => ?_
     refine awp_block ?_
     cases an with
     | false =>
      ((refine awp_d (.qs [0, 1] (.sk 2 (.sk 3 (.sk 4 (.sk 5 (.sk 7 (.sk 6 (.sk 8 (.sk 9 (.sk 10 (.sk 12 (.sk 13 (.sk 14 (.sk 15 (.sk 11 (.sk 16 (.sk 17 (.sk 18 (.qs [19, 20] (.nil)))))))))))))))))))) (by kernel_rfl) ?_ ?_ ?_ ?_); (kernel_rfl); (exact (by decide +kernel)); (kernel_rfl); intro Y Yh; ((repeat' (first|(refine ag_x ?_;simp [go_sem, hy, undef])|refine adr_nil ?_|((first|refine adr_qs fun Y Yh=>?_|refine adr_y fun Y Yh=>?_);simp [go_sem, hy, undef])|intro _|apply And.intro|(apply Yh;clear Yh Y)));all_goals first|apply Hold.mk|omega|assumption|skip))
      refine hK11 _ ?_; clear hK11
      (refine awp_r fun Y Yh => ?_; simp [go_sem]; ((repeat' (first|(refine ag_x ?_;simp [go_sem])|intro _|apply And.intro|(apply Yh;clear Yh Y)));all_goals first|apply Hold.mk|omega|assumption|skip))
      refine ⟨n + 1, ?_, by omega, by omega⟩
      (refine cov_of ?_ ?_ <;> simp [go_sem, hAs1])
     | true =>
      by_cases he : y.1 = gem
      ·((refine awp_d (.qs [0, 1, 2, 3, 4, 5, 7, 6, 8, 9, 10, 12, 13, 14, 15, 11, 16] (.one 17 (.qs [18, 19, 20] (.nil)))) (by kernel_rfl) ?_ ?_ ?_ ?_); (kernel_rfl); (exact (by decide +kernel)); (kernel_rfl); intro Y Yh; ((repeat' (first|(refine ag_x ?_;simp [go_sem, hy, he])|refine adr_nil ?_|((first|refine adr_qs fun Y Yh=>?_|refine adr_y fun Y Yh=>?_);simp [go_sem, hy, he])|intro _|apply And.intro|(apply Yh;clear Yh Y)));all_goals first|apply Hold.mk|omega|assumption|skip))
       (refine agc_f (dB mb) (.inl ⟨rfl,rfl⟩) ?_ rfl ?_; (intro hc args ha; simp [go_sem] at ha; subst ha; exact MT); simp [go_sem, hy, he]; ((repeat' (first|(refine ag_x ?_;simp [go_sem, hy, he])|refine adr_nil ?_|((first|refine adr_qs fun Y Yh=>?_|refine adr_y fun Y Yh=>?_);simp [go_sem, hy, he])|intro _|apply And.intro|(apply Yh;clear Yh Y)));all_goals first|apply Hold.mk|omega|assumption|skip))
       refine hK11 _ ?_; clear hK11
       (refine awp_r fun Y Yh => ?_; simp [go_sem]; ((repeat' (first|(refine ag_x ?_;simp [go_sem])|intro _|apply And.intro|(apply Yh;clear Yh Y)));all_goals first|apply Hold.mk|omega|assumption|skip))
       refine ⟨n + 1, ?_, by omega, by omega⟩
       (refine cov_of ?_ ?_ <;> simp [go_sem, hAs1, he])
      ·have heb : (y.1 == gem) = false := by rw [beq_eq_false_iff_ne]; exact he
       ((refine awp_d (.qs [0, 1, 2, 3, 4, 5, 7, 6, 8, 9] (.sk 10 (.sk 12 (.sk 13 (.sk 14 (.sk 15 (.sk 11 (.sk 16 (.sk 17 (.qs [18, 19, 20] (.nil))))))))))) (by kernel_rfl) ?_ ?_ ?_ ?_); (kernel_rfl); (exact (by decide +kernel)); (kernel_rfl); intro Y Yh; ((repeat' (first|(refine ag_x ?_;simp [go_sem, hy, he, heb, undef])|refine adr_nil ?_|((first|refine adr_qs fun Y Yh=>?_|refine adr_y fun Y Yh=>?_);simp [go_sem, hy, he, heb, undef])|intro _|apply And.intro|(apply Yh;clear Yh Y)));all_goals first|apply Hold.mk|omega|assumption|skip))
       refine hK11 _ ?_; clear hK11
       (refine awp_r fun Y Yh => ?_; simp [go_sem]; ((repeat' (first|(refine ag_x ?_;simp [go_sem])|intro _|apply And.intro|(apply Yh;clear Yh Y)));all_goals first|apply Hold.mk|omega|assumption|skip))
       refine ⟨n + 1, ?_, by omega, by omega⟩
       (refine cov_of ?_ ?_ <;> simp [go_sem, hAs1, he])
    ·refine awp_exit ?_
     simp only [go_sem]
     refine hK8 _ ?_; clear hK8
     have hne : n = all.length := by omega
     subst hne
     clear hAs
     generalize A all.length = an at *
     refine awp_seq_j (α := Unit) (fun _ => ⟨[(2, dPs l), (3, dS gem), (4, .ptr 4 g4 0), (9, .own 9 go), (10, dPs all), (11, dI i), (12, dI k), (13, .rd (cVr v)), (14, dB an), (16, dPs (l ++ [(gem, v.1)]))], [(4, g4, .box [dGms s]), (9, go, .row 48 2 (out.map cVr))]⟩) (fun K15 hK15 hM15 => ?_) (fun _ => ?_)
     ·((refine awp_d (.qs [1, 3, 4, 5, 6] (.kp2 0 (.kp2 2 (.kp 7 (.one 8 (.qs [9] (.nil)))) 7 (.kp 2 (.one 8 (.qs [9] (.nil))))) 7 (.kp 0 (.kp 2 (.one 8 (.qs [9] (.nil))))))) (by kernel_rfl) ?_ ?_ ?_ ?_); (kernel_rfl); (exact (by decide +kernel)); (kernel_rfl); intro Y Yh; ((repeat' (first|(refine ag_x ?_;simp [go_sem])|refine adr_nil ?_|refine adr_kp2 ?_ ?_|((first|refine adr_qs fun Y Yh=>?_|refine adr_y fun Y Yh=>?_);simp [go_sem])|intro _|apply And.intro|(apply Yh;clear Yh Y)));all_goals first|apply Hold.mk|omega|assumption|skip))
      all_goals
       refine hK15 _ ?_
       refine awp_frzrow 16 rfl rfl ?_
       simp only [go_sem]
       refine hM15 () _ ?_
       (refine cov_of ?_ ?_ <;> simp [go_sem])
     ·have hlen1 : (l ++ [(gem, v.1)]).length ≤ 1000000 := by simp; omega
      have PK := fun n => picked_spec (l ++ [(gem, v.1)]) n hlen1
      have hBF : ∀ y, bFit (l ++ [(gem, v.1)]) y = (decide (pkdV (l ++ [(gem, v.1)]) y.1 = []) || meetsP (pkdV (l ++ [(gem, v.1)]) y.1) y.2) := fun _ => rfl
      have hpz : ∀ n, (pkdV (l ++ [(gem, v.1)]) n).length ≤ 1000000 := fun n => pkdV_sz (fun x hx => by
       rcases List.mem_append.1 hx with h | h
       ·exact (hlz x h).2
       ·simp at h; subst h; exact hv1) n
      obtain ⟨B, hB⟩ : ∃ B : Nat → Bool, ∀ n, (v.2.take n).all (bFit (l ++ [(gem, v.1)])) = B n := ⟨_, fun _ => rfl⟩
      have hB0 : B 0 = true := by rw [← hB]; rfl
      have hBe : v.2.all (bFit (l ++ [(gem, v.1)])) = B v.2.length := by rw [← hB, List.take_length]
      have hBs : ∀ n x, v.2[n]? = some x → B (n + 1) = (B n && bFit (l ++ [(gem, v.1)]) x) := fun n x h => by rw [← hB, ← hB]; exact all_take _ h
      rw [hBe] at hfit
      clear hB hBe
      generalize bFit (l ++ [(gem, v.1)]) = bf0 at *
      generalize pkdV (l ++ [(gem, v.1)]) = pk at *
      generalize hwth : l ++ [(gem, v.1)] = wth at *
      refine awp_seq_k fun K12 hK12 => ?_
      (refine awp_sr fun Y Yh => ?_; simp [go_sem]; ((repeat' (first|(refine ag_x ?_;simp [go_sem])|intro _|apply And.intro|(apply Yh;clear Yh Y)));all_goals first|apply Hold.mk|omega|assumption|skip))
      refine awp_block ?_
      refine awp_loop (σ := Nat) (fun n => ⟨[(2, dPs l), (3, dS gem), (4, .ptr 4 g4 0), (9, .own 9 go), (10, dPs all), (11, dI i), (12, dI k), (13, .rd (cVr v)), (14, dB (an && B n)), (16, dPs wth), (17, dI n)], [(4, g4, .box [dGms s]), (9, go, .row 48 2 (out.map cVr))]⟩) (fun n => n ≤ v.2.length) (fun n => v.2.length - n) 0 ?_ ?_ ?_
      ·(refine cov_of ?_ ?_ <;> simp [go_sem, hB0])
      ·simp
      intro n hn
      refine awp_seq_k fun K13 hK13 => ?_
      (refine awp_sr fun Y Yh => ?_; simp [go_sem]; ((repeat' (first|(refine ag_x ?_;simp [go_sem])|intro _|apply And.intro|(apply Yh;clear Yh Y)));all_goals first|apply Hold.mk|omega|assumption|skip))
      (refine awp_if fun T F hT hF => ?_; simp [go_sem]; refine BR.intro (fun h14 => hT ?_) (fun h14 => hF ?_); all_goals clear hT hF T F; try simp at h14) 
      ·refine awp_skip ?_
       refine hK13 _ ?_; clear hK13
       obtain ⟨y, hy⟩ : ∃ y, v.2[n]? = some y := ⟨_, List.getElem?_eq_getElem (by omega)⟩
       have hyz := hv2.2 y (List.mem_of_getElem? hy)
       have hBs1 := hBs n y hy
       have P1 := PK y.1
       have hp1 := hpz y.1
       rw [hBF] at hBs1
       generalize pk y.1 = q at *
       have MT := r12met_spec q y.2 hp1 hyz.2
       generalize meetsP q y.2 = mb at *
       generalize B n = bn at *
       have hABs : (an && B (n + 1)) = ((an && bn) && (decide (q = []) || mb)) := by rw [hBs1, Bool.and_assoc]
       generalize (an && bn) = ab at *
       refine awp_seq_k fun K15 hK15 => ?_
       refine awp_block ?_
       (refine awp_sr fun Y Yh => ?_; simp [go_sem, hy]; ((repeat' (first|(refine ag_x ?_;simp [go_sem, hy])|intro _|apply And.intro|(apply Yh;clear Yh Y)));all_goals first|apply Hold.mk|omega|assumption|skip))
       ((try refine CallT.toA ?_); refine callT_m (.inl ⟨rfl,rfl⟩) (by simp [go_sem]) ?_; intro args ha; simp [go_sem] at ha; subst ha; refine ⟨_, P1, ?_⟩; rintro _ rfl; simp [go_sem]; ((repeat' (first|(refine ag_x ?_;simp [go_sem])|intro _|apply And.intro|(apply Yh;clear Yh Y)));all_goals first|apply Hold.mk|omega|assumption|skip))
       cases ab with
       | false =>
        (refine awp_r fun Y Yh => ?_; simp [go_sem]; ((repeat' (first|(refine ag_false ?_ ?_ ?_;(focus (simp [go_sem, undef];done));(focus (simp [go_sem];done));simp [go_sem])|(refine ag_true ?_ ?_;(focus (simp [go_sem, undef];done));simp [go_sem])|(refine ag_x ?_;simp [go_sem, undef])|intro _|apply And.intro|(apply Yh;clear Yh Y)));all_goals first|apply Hold.mk|omega|assumption|skip))
        refine hK15 _ ?_; clear hK15
        (refine awp_r fun Y Yh => ?_; simp [go_sem]; ((repeat' (first|(refine ag_x ?_;simp [go_sem])|intro _|apply And.intro|(apply Yh;clear Yh Y)));all_goals first|apply Hold.mk|omega|assumption|skip))
        refine ⟨n + 1, ?_, by omega, by omega⟩
        simp only [hABs]
        (refine cov_of ?_ ?_ <;> simp [go_sem])
       | true =>
        cases q with
        | nil =>
         (refine awp_r fun Y Yh => ?_; simp [go_sem]; ((repeat' (first|(refine ag_false ?_ ?_ ?_;(focus (simp [go_sem, undef];done));(focus (simp [go_sem];done));simp [go_sem])|(refine ag_true ?_ ?_;(focus (simp [go_sem, undef];done));simp [go_sem])|(refine ag_x ?_;simp [go_sem, undef])|intro _|apply And.intro|(apply Yh;clear Yh Y)));all_goals first|apply Hold.mk|omega|assumption|skip))
         refine hK15 _ ?_; clear hK15
         (refine awp_r fun Y Yh => ?_; simp [go_sem]; ((repeat' (first|(refine ag_x ?_;simp [go_sem])|intro _|apply And.intro|(apply Yh;clear Yh Y)));all_goals first|apply Hold.mk|omega|assumption|skip))
         refine ⟨n + 1, ?_, by omega, by omega⟩
         simp only [hABs]
         (refine cov_of ?_ ?_ <;> simp [go_sem])
        | cons c q =>
         (refine awp_r fun Y Yh => ?_; simp [go_sem, hy]; ((repeat' (first|(refine ag_false ?_ ?_ ?_;(focus (simp [go_sem, undef, hy];done));(focus (simp [go_sem];done));simp [go_sem, hy])|(refine ag_true ?_ ?_;(focus (simp [go_sem, undef, hy];done));simp [go_sem, hy])|(refine ag_x ?_;simp [go_sem, undef, hy])|intro _|apply And.intro|(apply Yh;clear Yh Y)));all_goals first|apply Hold.mk|omega|assumption|skip))
         ((try refine CallT.toA ?_); refine callT_m (.inl ⟨rfl,rfl⟩) (by simp [go_sem]) ?_; intro args ha; simp [go_sem] at ha; subst ha; refine ⟨_, MT, ?_⟩; rintro _ rfl; simp [go_sem]; ((repeat' (first|(refine ag_false ?_ ?_ ?_;(focus (simp [go_sem, undef];done));(focus (simp [go_sem];done));simp [go_sem])|(refine ag_true ?_ ?_;(focus (simp [go_sem, undef];done));simp [go_sem])|(refine ag_x ?_;simp [go_sem, undef])|intro _|apply And.intro|(apply Yh;clear Yh Y)));all_goals first|apply Hold.mk|omega|assumption|skip))
         refine hK15 _ ?_; clear hK15
         (refine awp_r fun Y Yh => ?_; simp [go_sem]; ((repeat' (first|(refine ag_x ?_;simp [go_sem])|intro _|apply And.intro|(apply Yh;clear Yh Y)));all_goals first|apply Hold.mk|omega|assumption|skip))
         refine ⟨n + 1, ?_, by omega, by omega⟩
         simp only [hABs]
         (refine cov_of ?_ ?_ <;> simp [go_sem])
      ·refine awp_exit ?_
       simp only [go_sem]
       refine hK12 _ ?_; clear hK12
       have hne : n = v.2.length := by omega
       subst hne
       rw [← hfit]
       clear hfit hBs hBF PK hpz
       refine awp_seq_k fun K16 hK16 => ?_
       cases fit with
       | false =>
        (refine awp_sr fun Y Yh => ?_; simp [go_sem]; ((repeat' (first|(refine ag_x ?_;simp [go_sem])|intro _|apply And.intro|(apply Yh;clear Yh Y)));all_goals first|apply Hold.mk|omega|assumption|skip))
        (refine awp_if fun T F hT hF => ?_; simp [go_sem]; refine hT ?_; clear hT hF T F)
        refine awp_exit ?_
        simp only [go_sem]
        refine hK7 _ ?_
        refine hM7 go _ ?_
        rw [hcst]
        (refine cov_of ?_ ?_ <;> simp [go_sem])
       | true =>
        (refine awp_sr fun Y Yh => ?_; simp [go_sem]; ((repeat' (first|(refine ag_x ?_;simp [go_sem])|intro _|apply And.intro|(apply Yh;clear Yh Y)));all_goals first|apply Hold.mk|omega|assumption|skip))
        (refine awp_if fun T F hT hF => ?_; simp [go_sem]; refine hF ?_; clear hT hF T F)
        refine awp_skip ?_
        refine hK16 _ ?_; clear hK16
        rw [if_pos rfl] at hcst
        have CMP := fun (y : Vrs) (hy : y.1.length ≤ 1000000) => rCompare_spec y.1 v.1 hy hv1
        have hIA := fun a => @insV_at v out a
        generalize insV v out = iv at *
        (refine awp_sr fun Y Yh => ?_; simp [go_sem]; ((repeat' (first|(refine ag_x ?_;simp [go_sem])|intro _|apply And.intro|(apply Yh;clear Yh Y)));all_goals first|apply Hold.mk|omega|assumption|skip))
        refine awp_seq_k fun K18 hK18 => ?_
        have tl18 : ∀ S' a, a ≤ out.length → (∀ y ∈ out.take a, ¬ compareP y.1 v.1 < 0) → (∀ y, out[a]? = some y → compareP y.1 v.1 < 0) → Cov S' ⟨[(2, dPs l), (3, dS gem), (4, .ptr 4 g4 0), (9, .own 9 go), (10, dPs all), (11, dI i), (12, dI k), (13, .rd (cVr v)), (19, dI a)], [(4, g4, .box [dGms s]), (9, go, .row 48 2 (out.map cVr))]⟩ → K18 S' := fun S' a ha h1 h2 hS => by
         refine hK18 _ ?_; clear hK18
         refine awp_cov hS ?_; clear hS
         have hia := hIA a ha h1 h2
         refine awp_frzrow 9 rfl rfl ?_
         simp only [go_sem]
         ((refine awp_d (.qs [1, 2, 3, 8, 9, 10, 5] (.kp2 0 (.kp2 4 (.kp 6 (.one 7 (.one 11 (.qs [12] (.nil))))) 6 (.kp 4 (.one 7 (.one 11 (.qs [12] (.nil)))))) 6 (.kp 0 (.kp 4 (.one 7 (.one 11 (.qs [12] (.nil)))))))) (by kernel_rfl) ?_ ?_ ?_ ?_); (kernel_rfl); (exact (by decide +kernel)); (kernel_rfl); intro Y Yh; ((repeat' (first|(refine ag_x ?_;simp [go_sem])|refine adr_nil ?_|refine adr_kp2 ?_ ?_|((first|refine adr_qs fun Y Yh=>?_|refine adr_y fun Y Yh=>?_);simp [go_sem])|intro _|apply And.intro|(apply Yh;clear Yh Y)));all_goals first|apply Hold.mk|omega|assumption|skip))
         all_goals
          refine hK7 _ ?_
          refine awp_renrow 9 9 rfl rfl (by decide) fun g' => ?_
          simp only [go_sem]
          refine hM7 g' _ ?_
          rw [hcst, hia]
          (refine cov_of ?_ ?_ <;> simp [go_sem])
        clear hK18
        refine awp_block ?_
        refine awp_loop (σ := Nat) (fun a => ⟨[(2, dPs l), (3, dS gem), (4, .ptr 4 g4 0), (9, .own 9 go), (10, dPs all), (11, dI i), (12, dI k), (13, .rd (cVr v)), (19, dI a)], [(4, g4, .box [dGms s]), (9, go, .row 48 2 (out.map cVr))]⟩) (fun a => a ≤ out.length ∧ ∀ y ∈ out.take a, ¬ compareP y.1 v.1 < 0) (fun a => out.length - a) 0 ?_ ?_ ?_
        ·(refine cov_of ?_ ?_ <;> simp [go_sem])
        ·simp
        rintro a ⟨ha, hab⟩
        refine awp_seq_k fun K19 hK19 => ?_
        (refine awp_sr fun Y Yh => ?_; simp [go_sem]; ((repeat' (first|(refine ag_x ?_;simp [go_sem])|intro _|apply And.intro|(apply Yh;clear Yh Y)));all_goals first|apply Hold.mk|omega|assumption|skip))
        (refine awp_if fun T F hT hF => ?_; simp [go_sem]; refine BR.intro (fun h20 => hT ?_) (fun h20 => hF ?_); all_goals clear hT hF T F; try simp at h20) 
        ·refine awp_skip ?_
         refine hK19 _ ?_; clear hK19
         obtain ⟨y, hy⟩ : ∃ y, out[a]? = some y := ⟨_, List.getElem?_eq_getElem (by omega)⟩
         have CM := CMP y (houtz y (List.mem_of_getElem? hy))
         have htk : out.take (a + 1) = out.take a ++ [y] := by rw [List.take_add_one, hy]; rfl
         have hyy : ∀ z, out[a]? = some z → z = y := fun z hz => by rw [hy] at hz; exact (Option.some.inj hz).symm
         generalize hcc : codeP ((readV y.1).isSome && (readV v.1).isSome) = cc at *
         generalize hcp : compareP y.1 v.1 = cp at *
         refine awp_block ?_
         refine awp_seq_k fun K21 hK21 => ?_
         ((refine awp_dr (.qs [0, 1, 2, 3, 5, 4, 6] (.one 7 (.qs [8, 9, 10, 11, 12] (.nil)))) (by kernel_rfl) ?_ ?_ ?_ ?_); (kernel_rfl); (exact (by decide +kernel)); (kernel_rfl); intro Y Yh; ((repeat' (first|(refine ag_x ?_;simp [go_sem, hy])|refine adr_nil ?_|((first|refine adr_qs fun Y Yh=>?_|refine adr_y fun Y Yh=>?_);simp [go_sem, hy])|intro _|apply And.intro|(apply Yh;clear Yh Y)));all_goals first|apply Hold.mk|omega|assumption|skip))
         ((try refine CallT.toA ?_); refine callT_m (.inl ⟨rfl,rfl⟩) (by simp [go_sem]) ?_; intro args ha; simp [go_sem] at ha; subst ha; refine ⟨_, CM, ?_⟩; rintro _ rfl; simp [go_sem]; ((repeat' (first|(refine ag_x ?_;simp [go_sem])|refine adr_nil ?_|((first|refine adr_qs fun Y Yh=>?_|refine adr_y fun Y Yh=>?_);simp [go_sem])|intro _|apply And.intro|(apply Yh;clear Yh Y)));all_goals first|apply Hold.mk|omega|assumption|skip))
         (refine awp_sr fun Y Yh => ?_; simp [go_sem]; ((repeat' (first|(refine ag_x ?_;simp [go_sem])|intro _|apply And.intro|(apply Yh;clear Yh Y)));all_goals first|apply Hold.mk|omega|assumption|skip))
         (refine awp_if fun T F hT hF => ?_; simp [go_sem]; refine BR.intro (fun h22 => hT ?_) (fun h22 => hF ?_); all_goals clear hT hF T F; try simp at h22) 
         ·refine awp_exit ?_
          simp only [go_sem]
          refine tl18 _ a ha hab (fun z hz => by rw [hyy z hz, hcp]; exact h22) ?_
          (refine cov_of ?_ ?_ <;> simp [go_sem])
         ·refine awp_skip ?_
          refine hK21 _ ?_; clear hK21
          (refine awp_r fun Y Yh => ?_; simp [go_sem]; ((repeat' (first|(refine ag_x ?_;simp [go_sem])|intro _|apply And.intro|(apply Yh;clear Yh Y)));all_goals first|apply Hold.mk|omega|assumption|skip))
          refine ⟨a + 1, ?_, ⟨by omega, ?_⟩, by omega⟩
          ·(refine cov_of ?_ ?_ <;> simp [go_sem])
          ·rw [htk]
           intro z hz
           rcases List.mem_append.1 hz with h | h
           ·exact hab z h
           ·simp at h; subst h; rw [hcp]; omega
        ·refine awp_exit ?_
         simp only [go_sem]
         refine tl18 _ a ha hab (fun z hz => ?_) ?_
         ·have := (List.getElem?_eq_some_iff.1 hz).1; omega
         ·(refine cov_of ?_ ?_ <;> simp [go_sem])
   ·have h7b : (x.1 == gem) = false := by rw [beq_eq_false_iff_ne]; exact h7
    (refine awp_sr fun Y Yh => ?_; simp [go_sem, hx, h6, h7, h7b]; ((repeat' (first|(refine ag_x ?_;simp [go_sem, hx, h6, h7, h7b])|intro _|apply And.intro|(apply Yh;clear Yh Y)));all_goals first|apply Hold.mk|omega|assumption|skip))
    (refine awp_if fun T F hT hF => ?_; simp [go_sem, h6, h7, h7b]; refine hF ?_; clear hT hF T F)
    refine awp_exit ?_
    simp only [go_sem]
    refine tl4 _ _ go (hexit (.inr h7)) (by omega) ?_
    (refine cov_of ?_ ?_ <;> simp [go_sem])
  ·have h6i : ¬ (k : Int) < x.2.length := by omega
   have hke : k = x.2.length := by omega
   (refine awp_sr fun Y Yh => ?_; simp [go_sem, hx, h6, h6i]; ((repeat' (first|(refine ag_false ?_ ?_ ?_;(focus (simp [go_sem, undef, hx, h6, h6i];done));(focus (simp [go_sem];done));simp [go_sem, hx, h6, h6i])|(refine ag_true ?_ ?_;(focus (simp [go_sem, undef, hx, h6, h6i];done));simp [go_sem, hx, h6, h6i])|(refine ag_x ?_;simp [go_sem, undef, hx, h6, h6i])|intro _|apply And.intro|(apply Yh;clear Yh Y)));all_goals first|apply Hold.mk|omega|assumption|skip))
   (refine awp_if fun T F hT hF => ?_; simp [go_sem, h6, h6i]; refine hF ?_; clear hT hF T F)
   refine awp_exit ?_
   simp only [go_sem]
   refine tl4 _ _ go (hexit (.inl hke)) (by omega) ?_
   (refine cov_of ?_ ?_ <;> simp [go_sem])
 ·refine awp_exit ?_
  simp only [go_sem]
  refine hK1 _ ?_; clear hK1
  have : i = s.length := by omega
  subst this
  (refine awp_sr fun Y Yh => ?_; simp [go_sem]; ((repeat' (first|(refine ag_x ?_;simp [go_sem])|intro _|apply And.intro|(apply Yh;clear Yh Y)));all_goals first|apply Hold.mk|omega|assumption|skip))
  refine awp_frzrow 8 rfl rfl ?_
  simp only [go_sem]
  (refine awp_ret ?_; simp [go_sem, hr0])
end Go.Proofs.YteekfnhhlcmcgaaGreatDoor
set_option maxRecDepth 20000
namespace Go.Lk
open Go.Lib Go.Wh Go.Ver
/-! the search: picks, error, how many were tried -/
def tryL (rec : List Prs → Nat → (List Prs × Nat) × Nat) (bud : Nat) (gem : Bs) (l : List Prs) : List Vrs → Nat → (List Prs × Nat) × Nat
 | [], t => (([], 3), t)
 | v :: r, t => if bud < t + 1 then (([], 12), t + 1)
  else if (rec (l ++ [(gem, v.1)]) (t + 1)).1.2 ≠ 3 then rec (l ++ [(gem, v.1)]) (t + 1)
  else tryL rec bud gem l r (rec (l ++ [(gem, v.1)]) (t + 1)).2
def freeN (l : List Prs) (n : Prs) : Bool := decide (pkdV l n.1 = [])
def restV (s : Src) (w : List Prs) (bud : Nat) : Nat → List Prs → Nat → (List Prs × Nat) × Nat
 | 0, l, t => (([], 3), t)
 | f + 1, l, t => match (allN s w l).find? (freeN l) with
  | none => ((l, 0), t)
  | some n => tryL (restV s w bud f) bud n.1 l (candV s w l n.1) t
def Tlk (bud t : Nat) (q : (List Prs × Nat) × Nat) : Prop := t ≤ q.2 ∧ q.2 ≤ bud + 1 ∧ (q.1.2 = 12 ∨ q.2 ≤ bud) ∧ (q.1.2 = 0 ∨ q.1.2 = 3 ∨ q.1.2 = 12)
theorem tryL_tlk {rec : List Prs → Nat → (List Prs × Nat) × Nat} {bud : Nat} (h : ∀ l t, t ≤ bud → Tlk bud t (rec l t)) (gem : Bs) (l : List Prs) : ∀ (c : List Vrs) (t : Nat), t ≤ bud → Tlk bud t (tryL rec bud gem l c t)
 | [], t, ht => ⟨Nat.le_refl _, by simp [tryL]; omega, .inr ht, .inr (.inl rfl)⟩
 | v :: r, t, ht => by
  unfold tryL
  split
  ·exact ⟨by simp, by simp; omega, .inl rfl, .inr (.inr rfl)⟩
  ·have hr := h (l ++ [(gem, v.1)]) (t + 1) (by omega)
   split
   ·exact ⟨by have := hr.1; omega, hr.2.1, hr.2.2.1, hr.2.2.2⟩
   ·rename_i h3
    simp only [Decidable.not_not] at h3
    have hb : (rec (l ++ [(gem, v.1)]) (t + 1)).2 ≤ bud := by
     rcases hr.2.2.1 with q | q
     ·omega
     ·exact q
    have := tryL_tlk h gem l r _ hb
    exact ⟨by have := this.1; have := hr.1; omega, this.2.1, this.2.2.1, this.2.2.2⟩
theorem restV_tlk (s : Src) (w : List Prs) (bud : Nat) : ∀ f l t, t ≤ bud → Tlk bud t (restV s w bud f l t)
 | 0, l, t, ht => ⟨Nat.le_refl _, by simp [restV]; omega, .inr ht, .inr (.inl rfl)⟩
 | f + 1, l, t, ht => by
  unfold restV
  split
  ·exact ⟨Nat.le_refl _, by simp; omega, .inr ht, .inl rfl⟩
  ·exact tryL_tlk (restV_tlk s w bud f) _ _ _ _ ht
def muV (s : Src) (l : List Prs) : Nat := (s.filter fun g => decide (pkdV l g.1 = [])).length
theorem filter_lt {α : Type} {p q : α → Bool} (hpq : ∀ x, q x = true → p x = true) {x : α} (hp : p x = true) (hq : q x = false) : ∀ {l : List α}, x ∈ l → (l.filter q).length < (l.filter p).length
 | [], h => by cases h
 | y :: l, h => by
  have le : ∀ l : List α, (l.filter q).length ≤ (l.filter p).length := fun l => by
   induction l with
   | nil => simp
   | cons z l ih =>
    simp only [List.filter_cons]
    cases hz : q z with
    | true => rw [hpq z hz]; simp; exact ih
    | false => cases p z <;> simp <;> omega
  rcases List.mem_cons.1 h with rfl | h
  ·simp only [List.filter_cons, hp, hq]
   have := le l
   simp; omega
  ·have := filter_lt hpq hp hq h
   simp only [List.filter_cons]
   cases hz : q y with
   | true => rw [hpq y hz]; simp; exact this
   | false => cases p y <;> simp <;> omega
def NumOk (l : List Prs) : Prop := ∀ x ∈ l, x.2 ≠ []
theorem pkd_none {l : List Prs} (h : NumOk l) {n : Bs} : pkdV l n = [] ↔ l.find? (fun x => decide (x.1 = n)) = none := by
 unfold pkdV
 cases hf : l.find? (fun x => decide (x.1 = n)) with
 | none => simp
 | some x => have := h x (List.mem_of_find?_eq_some hf); simp [this]
theorem pkd_app (l : List Prs) (g v n : Bs) : pkdV (l ++ [(g, v)]) n = if l.find? (fun x => decide (x.1 = n)) = none then (if g = n then v else []) else pkdV l n := by
 unfold pkdV
 rw [List.find?_append]
 cases hf : l.find? (fun x => decide (x.1 = n)) with
 | none =>
  by_cases e : g = n
  ·simp [e]
  ·simp [e]
 | some x => simp
theorem mu_lt {s : Src} {l : List Prs} {gem v : Bs} (h : NumOk l) (hv : v ≠ []) (hg : ∃ g ∈ s, g.1 = gem) (hf : pkdV l gem = []) : muV s (l ++ [(gem, v)]) < muV s l := by
 obtain ⟨g, hgs, rfl⟩ := hg
 unfold muV
 refine filter_lt (x := g) (fun y hy => ?_) (by simpa using hf) ?_ hgs
 ·simp only [decide_eq_true_eq] at hy ⊢
  rw [pkd_app] at hy
  split at hy
  ·rename_i e; exact (pkd_none h).2 e
  ·exact hy
 ·have := (pkd_none h).1 hf
  simp [pkd_app, this, hv]
theorem mu_le (s : Src) (l : List Prs) : muV s l ≤ s.length := List.length_filter_le _ _
theorem mu_pos {s : Src} {l : List Prs} {gem : Bs} (hg : ∃ g ∈ s, g.1 = gem) (hf : pkdV l gem = []) : 0 < muV s l := by
 obtain ⟨g, hgs, rfl⟩ := hg
 unfold muV
 exact List.length_pos_iff.2 (List.ne_nil_of_mem (List.mem_filter.2 ⟨hgs, by simpa using hf⟩))
theorem free_step {all l : List Prs} {i : Nat} {n : Prs} (h : all[i]? = some n) : (all.drop i).find? (freeN l) = if pkdV l n.1 = [] then some n else (all.drop (i + 1)).find? (freeN l) := by
 rw [drop_cons h, List.find?_cons]
 unfold freeN
 by_cases e : pkdV l n.1 = []
 ·rw [if_pos e]; simp [e]
 ·rw [if_neg e]; simp [e]
/-! a valid source -/
theorem suV_parts {s : Src} (h : suV s = true) : s.length ≤ 15 ∧ ∀ g ∈ s, nameV g.1 = true ∧ vuV g.2 = true := by
 unfold suV at h
 rw [Bool.and_eq_true, decide_eq_true_eq] at h
 refine ⟨h.1, fun g hg => ?_⟩
 obtain ⟨i, hi⟩ := List.getElem?_of_mem hg
 have := upTo_at h.2 (List.getElem?_eq_some_iff.1 hi).1
 unfold suAt at this
 rw [hi] at this
 simp only [Bool.and_eq_true] at this
 exact ⟨this.1.1, this.2⟩
theorem vuV_parts {l : List Vrs} (h : vuV l = true) : l.length ≤ 12 ∧ ∀ v ∈ l, (readV v.1).isSome = true ∧ nuV 6 v.2 = true := by
 unfold vuV at h
 rw [Bool.and_eq_true, decide_eq_true_eq] at h
 refine ⟨h.1, fun v hv => ?_⟩
 obtain ⟨i, hi⟩ := List.getElem?_of_mem hv
 have := upTo_at h.2 (List.getElem?_eq_some_iff.1 hi).1
 unfold vuAt at this
 rw [hi] at this
 simp only [Bool.and_eq_true] at this
 exact this.1
theorem nuV_parts {m : Nat} {l : List Prs} (h : nuV m l = true) : l.length ≤ m ∧ ∀ n ∈ l, nameV n.1 = true ∧ (condsV n.2).isSome = true := by
 unfold nuV at h
 rw [Bool.and_eq_true, decide_eq_true_eq] at h
 refine ⟨h.1, fun v hv => ?_⟩
 obtain ⟨i, hi⟩ := List.getElem?_of_mem hv
 have := upTo_at h.2 (List.getElem?_eq_some_iff.1 hi).1
 unfold nuAt at this
 rw [hi] at this
 simp only [Bool.and_eq_true] at this
 exact this.1
theorem readV_len {v : Bs} (h : (readV v).isSome = true) : v.length ≤ 60 := by
 obtain ⟨l, hl⟩ := Option.isSome_iff_exists.1 h
 exact (readV_ok hl).2.2
theorem condsV_len {w : Bs} (h : (condsV w).isSome = true) : w.length ≤ 1300 := by
 obtain ⟨l, hl⟩ := Option.isSome_iff_exists.1 h
 obtain ⟨h1, h2, h3⟩ := condsV_ok hl
 rw [← h1]
 have := textR_small (k := 20) h3 h2
 omega
theorem nuV_sz {m : Nat} {l : List Prs} (h : nuV m l = true) (hm : m ≤ 1000) : SzN l := by
 obtain ⟨h1, h2⟩ := nuV_parts h
 refine ⟨by omega, fun x hx => ?_⟩
 obtain ⟨a, b⟩ := h2 x hx
 have := (name_nm a).2.2
 have := condsV_len b
 exact ⟨by omega, by omega⟩
theorem suV_sz {s : Src} (h : suV s = true) : SzS s := by
 obtain ⟨h1, h2⟩ := suV_parts h
 refine ⟨by omega, fun g hg => ?_⟩
 obtain ⟨a, b⟩ := h2 g hg
 obtain ⟨c, d⟩ := vuV_parts b
 have := (name_nm a).2.2
 refine ⟨by omega, by omega, fun v hv => ?_⟩
 obtain ⟨e, f⟩ := d v hv
 have := readV_len e
 exact ⟨by omega, nuV_sz f (by omega)⟩
end Go.Lk
