/- Part of a proof: see the last text. -/
import Derived.Test.YtchnagdaljblnaaGreatDoorG06
import Derived.Lib.LastIndexLaws
import Derived.Test.YtchnagdaljblnaaGreatDoorG07
import Derived.Lib.ItoaLen
set_option linter.unusedVariables false
set_option linter.unusedSimpArgs false
set_option linter.unusedVariables false
set_option linter.unusedSimpArgs false
namespace Go.Lk
open Go.Lib Go.Wh Go.Ver
/-! a whole text: its lines, where they begin, what reading all of them gives -/
theorem ib_first {l t : Bs} {c : UInt8} (h : c ∉ l) : indexByte (l ++ c :: t) c = (l.length : Int) := by
  rcases Int.lt_or_le (indexByte (l ++ c :: t) c) 0 with hn | hp
  · have := index_ge (l ++ c :: t) [c]
    rw [index_one] at this
    have e : indexByte (l ++ c :: t) c = -1 := by omega
    exact absurd (by simp) (indexByte_none e l.length)
  · obtain ⟨k, hk⟩ : ∃ k : Nat, indexByte (l ++ c :: t) c = k := ⟨_, (Int.toNat_of_nonneg hp).symm⟩
    obtain ⟨h1, h2⟩ := indexByte_some hk
    have hk1 : ¬ k < l.length := fun q => by
      rw [List.getElem?_append_left q] at h1
      exact h (List.mem_of_getElem? h1)
    have hk2 : ¬ l.length < k := fun q => h2 l.length q (by simp)
    rw [hk]; omega
theorem ib_none {l : Bs} {c : UInt8} (h : c ∉ l) : indexByte l c = -1 := by
  rcases Int.lt_or_le (indexByte l c) 0 with hn | hp
  · have := index_ge l [c]
    rw [index_one] at this
    omega
  · obtain ⟨k, hk⟩ : ∃ k : Nat, indexByte l c = k := ⟨_, (Int.toNat_of_nonneg hp).symm⟩
    exact absurd (List.mem_of_getElem? (indexByte_some hk).1) h
theorem dots_line (c : UInt8) (t : Bs) : (c ∉ t ∧ dots c t = [t]) ∨ ∃ l t', t = l ++ c :: t' ∧ c ∉ l ∧ dots c t = l :: dots c t' := by
  by_cases h : c ∈ t
  · obtain ⟨l, t', h1, h2⟩ := List.eq_append_cons_of_mem h
    exact .inr ⟨l, t', h1, h2, by rw [h1]; exact dots_app _ h2⟩
  · exact .inl ⟨h, dots_one h⟩
/-- where line n begins -/
def offV (ls : List Bs) : Nat → Nat
  | 0 => 0
  | n + 1 => offV ls n + ((ls[n]?).getD []).length + 1
theorem at_line (s : Bs) : ∀ n, n < (dots 10 s).length → offV (dots 10 s) n ≤ s.length ∧ dots 10 (s.drop (offV (dots 10 s) n)) = (dots 10 s).drop n
  | 0, h => by simp [offV]
  | n + 1, h => by
    obtain ⟨h1, h2⟩ := at_line s n (by omega)
    rcases dots_line 10 (s.drop (offV (dots 10 s) n)) with ⟨g1, g2⟩ | ⟨l, t', g1, g2, g3⟩
    · rw [g2] at h2
      have := congrArg List.length h2
      simp at this
      omega
    · rw [g3] at h2
      have hl : (dots 10 s)[n]? = some l := by
        have := congrArg (fun x => x[0]?) h2
        simp at this
        exact this.symm
      have hd : (dots 10 s).drop (n + 1) = dots 10 t' := by
        have := congrArg List.tail h2
        simp at this
        exact this.symm
      have ho : offV (dots 10 s) (n + 1) = offV (dots 10 s) n + (l.length + 1) := by simp [offV, hl, Nat.add_assoc]
      have hlen := congrArg List.length g1
      simp at hlen
      refine ⟨by omega, ?_⟩
      rw [hd, ho, ← List.drop_drop, g1]
      congr 1
      have : l ++ 10 :: t' = (l ++ [10]) ++ t' := by simp
      rw [this, show l.length + 1 = (l ++ [10]).length by simp, List.drop_left]
theorem line_more {s l : Bs} {n : Nat} (h : n + 1 < (dots 10 s).length) (hl : (dots 10 s)[n]? = some l) : indexByte (s.drop (offV (dots 10 s) n)) 10 = (l.length : Int) ∧ (s.drop (offV (dots 10 s) n)).take l.length = l ∧ offV (dots 10 s) n + l.length + 1 ≤ s.length ∧ s.take (offV (dots 10 s) (n + 1)) = s.take (offV (dots 10 s) n) ++ (l ++ [10]) ∧ offV (dots 10 s) (n + 1) = offV (dots 10 s) n + l.length + 1 := by
  obtain ⟨h1, h2⟩ := at_line s n (by omega)
  have ho : offV (dots 10 s) (n + 1) = offV (dots 10 s) n + l.length + 1 := by simp [offV, hl]
  rcases dots_line 10 (s.drop (offV (dots 10 s) n)) with ⟨g1, g2⟩ | ⟨l', t', g1, g2, g3⟩
  · rw [g2] at h2
    have := congrArg List.length h2
    simp at this
    omega
  · rw [g3] at h2
    have hl' : (dots 10 s)[n]? = some l' := by
      have := congrArg (fun x => x[0]?) h2
      simp at this
      exact this.symm
    rw [hl] at hl'
    obtain rfl := Option.some.inj hl'
    have hlen := congrArg List.length g1
    simp at hlen
    refine ⟨by rw [g1]; exact ib_first g2, by rw [g1]; simp, by omega, ?_, ho⟩
    rw [ho, Nat.add_assoc, List.take_add, g1]
    congr 1
    have : l ++ 10 :: t' = (l ++ [10]) ++ t' := by simp
    rw [this, show l.length + 1 = (l ++ [10]).length by simp, List.take_left]
theorem line_last {s l : Bs} {n : Nat} (h : n + 1 = (dots 10 s).length) (hl : (dots 10 s)[n]? = some l) : indexByte (s.drop (offV (dots 10 s) n)) 10 = -1 ∧ s.length = offV (dots 10 s) n + l.length := by
  obtain ⟨h1, h2⟩ := at_line s n (by omega)
  rcases dots_line 10 (s.drop (offV (dots 10 s) n)) with ⟨g1, g2⟩ | ⟨l', t', g1, g2, g3⟩
  · rw [g2] at h2
    have hl' : (dots 10 s)[n]? = some (s.drop (offV (dots 10 s) n)) := by
      have := congrArg (fun x => x[0]?) h2
      simp at this
      exact this.symm
    rw [hl] at hl'
    obtain rfl := Option.some.inj hl'
    refine ⟨ib_none g1, ?_⟩
    rw [List.length_drop]; omega
  · rw [g3] at h2
    have := congrArg List.length h2
    have := List.length_pos_iff.2 (dots_ne 10 t')
    simp at *
    omega
theorem line_le (s : Bs) : ∀ l ∈ dots 10 s, l.length ≤ s.length := fun l h => by
  obtain ⟨n, hn⟩ := List.getElem?_of_mem h
  have hlt : n < (dots 10 s).length := (List.getElem?_eq_some_iff.1 hn).1
  by_cases e : n + 1 < (dots 10 s).length
  · have := (line_more e hn).2.2.1; omega
  · have := (line_last (by omega) hn).2; omega
theorem dots_count (c : UInt8) : ∀ s : Bs, (dots c s).length ≤ s.length + 1
  | [] => by simp [dots]
  | b :: l => by
    have ih := dots_count c l
    unfold dots
    split
    · simp; exact ih
    · cases hd : dots c l with
      | nil => simp [consH]
      | cons x y => rw [hd] at ih; simp [consH] at ih ⊢; omega
/-- all lines are read: the state and how many; or the line that is refused -/
def goL : PS → Nat → List Bs → Option PS × Nat
  | p, i, [] => (some p, i)
  | p, i, [l] => if l = [] then (some p, i) else (none, i + 1)
  | p, i, l :: m :: r => match lineV p l with
    | some q => goL q (i + 1) (m :: r)
    | none => (none, i + 1)
theorem goL_last {ls : List Bs} {i : Nat} {p : PS} {l : Bs} (h : ls[i]? = some l) (hl : i + 1 = ls.length) : goL p i (ls.drop i) = if l = [] then (some p, i) else (none, i + 1) := by
  obtain ⟨h1, h2⟩ := List.getElem?_eq_some_iff.1 h
  rw [List.drop_eq_getElem_cons h1, h2, List.drop_of_length_le (by omega)]
  rfl
theorem goL_more {ls : List Bs} {i : Nat} {p : PS} {l : Bs} (h : ls[i]? = some l) (hl : i + 1 < ls.length) : goL p i (ls.drop i) = match lineV p l with | some q => goL q (i + 1) (ls.drop (i + 1)) | none => (none, i + 1) := by
  obtain ⟨h1, h2⟩ := List.getElem?_eq_some_iff.1 h
  rw [List.drop_eq_getElem_cons h1, h2, List.drop_eq_getElem_cons hl]
  conv => lhs; unfold goL
abbrev lk0 : Lck := ([], [], [])
def lkOf (p : PS) : Lck := (p.picks, p.needs, p.wish)
/-- a read text: the lock, the line, the error -/
def parV (s : Bs) : Lck × Nat × Nat :=
  match goL ps0 0 (dots 10 s) with
  | (none, n) => (lk0, n, 4)
  | (some p, n) => if p.part ≠ 5 then (lk0, n + 1, 4)
    else if p.sum ≠ itoa (sumV (s.take (lastIndex s preSum).toNat) (s.take (lastIndex s preSum).toNat).length : Nat) then (lk0, 0, 8)
    else if lockV (lkOf p) = true then (lkOf p, 0, 0) else (lk0, 0, 1)
theorem entry_part {p p' : PS} {s : Bs} (he : entryV p s = some p') : p'.part = p.part := by
  unfold entryV at he
  split at he
  · split at he
    · split at he
      · cases he
      · simp only [Option.some.injEq] at he; subst he; rfl
    · cases he
  · split at he
    · split at he
      · split at he
        · cases he
        · split at he
          · simp only [Option.some.injEq] at he; subst he; rfl
          · simp only [Option.some.injEq] at he; subst he; rfl
      · cases he
    · cases he
theorem line_five {p p' : PS} {s : Bs} (he : lineV p s = some p') (h5 : p'.part = 5) : p.part = 4 ∧ preSum.isPrefixOf s = true ∧ digV (s.drop 4) = true ∧ p'.sum = s.drop 4 := by
  unfold lineV at he
  split at he
  · split at he
    · simp only [Option.some.injEq] at he; subst he; simp at h5
    · cases he
  · split at he
    · simp only [Option.some.injEq] at he; subst he; simp at h5
    · have := entry_part he; omega
  · split at he
    · simp only [Option.some.injEq] at he; subst he; simp at h5
    · cases he
  · split at he
    · simp only [Option.some.injEq] at he; subst he; simp at h5
    · have := entry_part he; omega
  · rename_i h4
    split at he
    · rename_i h
      simp only [Option.some.injEq] at he; subst he
      exact ⟨h4, h.1, h.2, rfl⟩
    · cases he
  · cases he
/-- where the line of the sum begins -/
def begV (ls : List Bs) : Nat → Nat
  | 0 => 0
  | n + 1 => if (linesV ls n).map PS.part = some 4 then offV ls n else begV ls n
theorem beg_at {s : Bs} {n : Nat} {p : PS} (h : n < (dots 10 s).length) (hp : linesV (dots 10 s) n = some p) (h5 : p.part = 5) : digV p.sum = true ∧ begV (dots 10 s) n ≤ s.length ∧ s.take (offV (dots 10 s) n) = s.take (begV (dots 10 s) n) ++ (preSum ++ (p.sum ++ [10])) := by
  cases n with
  | zero => simp only [linesV, Option.some.injEq] at hp; subst hp; simp [ps0] at h5
  | succ n =>
    obtain ⟨l, hl⟩ : ∃ l, (dots 10 s)[n]? = some l := ⟨_, List.getElem?_eq_getElem (by omega)⟩
    rw [linesV, hl] at hp
    split at hp
    · rename_i p0 l0 e1 e2
      simp only [Option.some.injEq] at e2
      subst e2
      obtain ⟨g1, g2, g3, g4⟩ := line_five hp h5
      obtain ⟨k1, k2, k3, k4, k5⟩ := line_more h hl
      obtain ⟨a1, a2⟩ := at_line s n (by omega)
      have hb : begV (dots 10 s) (n + 1) = offV (dots 10 s) n := by
        rw [begV, e1]; simp [g1]
      rw [hb, g4]
      refine ⟨g3, a1, ?_⟩
      rw [k4]
      congr 1
      obtain ⟨t, ht⟩ := List.isPrefixOf_iff_prefix.1 g2
      rw [← ht]
      simp [preSum]
    · cases hp
theorem last_at {a d : Bs} (h : digV d = true) : lastIndex (a ++ (preSum ++ (d ++ [10]))) preSum = (a.length : Int) := by
  have hd : d.all isD = true := by
    unfold digV at h
    simp only [Bool.and_eq_true] at h
    exact h.1.2
  have hocc : occAt (a ++ (preSum ++ (d ++ [10]))) preSum a.length = true := by
    unfold occAt; rw [List.drop_left]; exact List.isPrefixOf_iff_prefix.2 ⟨_, rfl⟩
  have hlen : (a ++ (preSum ++ (d ++ [10]))).length = a.length + 4 + d.length + 1 := by simp [preSum]; omega
  unfold lastIndex
  rw [if_pos (by rw [hlen]; simp [preSum]; omega)]
  rcases lastOcc_spec (a ++ (preSum ++ (d ++ [10]))) preSum ((a ++ (preSum ++ (d ++ [10]))).length - preSum.length + 1) with ⟨_, g⟩ | ⟨i, g1, g2, g3, g4⟩
  · have := g a.length (by rw [hlen]; simp [preSum]; omega)
    rw [hocc] at this; cases this
  · rw [g2]
    have h1 : ¬ i < a.length := fun q => by
      have := g4 a.length q (by rw [hlen]; simp [preSum]; omega)
      rw [hocc] at this; cases this
    have h2 : ¬ a.length < i := fun q => by
      have hc := occAt_head (c := 83) (t := [85, 77, 32]) rfl g3
      rw [List.getElem?_append_right (by omega)] at hc
      obtain ⟨k, hk⟩ : ∃ k, i - a.length = k + 1 := ⟨i - a.length - 1, by omega⟩
      rw [hk] at hc
      have hm : (83 : UInt8) ∈ ([85, 77, 32] ++ (d ++ [10]) : Bs) := by
        apply List.mem_of_getElem? (i := k)
        simpa [preSum] using hc
      simp at hm
      have := List.all_eq_true.1 hd 83 hm
      revert this; decide
    omega
theorem sum_same {d : Bs} (h : digV d = true) (m : Nat) : d = itoa (m : Int) ↔ decVal d = m := by
  have e : itoa (m : Int) = decDigits m := by unfold itoa; rw [if_neg (by omega), Int.toNat_natCast]
  rw [e]
  unfold digV at h
  simp only [Bool.and_eq_true, decide_eq_true_eq, Bool.or_eq_true, List.all_eq_true] at h
  obtain ⟨⟨h1, h2⟩, h3⟩ := h
  constructor
  · intro q; rw [q]; exact dec_dec m
  · intro q
    rw [← q]
    refine (dec_back h1 ?_ h2).symm
    rcases h3 with h | h
    · exact .inr h
    · exact .inl h
/-- sizes of what is read -/
structure SzOk (p : PS) (k m : Nat) : Prop where
  nl : p.needs.length = p.picks.length
  pl : p.picks.length ≤ k
  wl : p.wish.length ≤ k
  rl : ∀ r ∈ p.needs, r.length ≤ k
  ps : ∀ x ∈ p.picks, x.1.length ≤ m ∧ x.2.length ≤ m
  ns : ∀ r ∈ p.needs, ∀ x ∈ r, x.1.length ≤ m ∧ x.2.length ≤ m
  ws : ∀ x ∈ p.wish, x.1.length ≤ m ∧ x.2.length ≤ m
theorem cut_len (s sep : Bs) : (cut s sep).1.length ≤ s.length ∧ (cut s sep).2.1.length ≤ s.length := by
  rcases cut_cases s sep with ⟨a, r, h1, h2⟩ | ⟨h1, _⟩
  · rw [h1]
    have := congrArg List.length h2
    simp at this
    simp; omega
  · rw [h1]; simp
theorem nmd_len {s n i : Bs} {b : Bool} (h : nmdV s = some (n, i, b)) : n.length ≤ s.length ∧ i.length ≤ s.length := by
  have c1 := cut_len s [32, 40]
  have c2 := cut_len (cut s [32, 40]).2.1 [41]
  unfold nmdV at h
  simp only at h
  split at h
  · cases h
  · split at h
    · simp only [Option.some.injEq, Prod.mk.injEq] at h
      obtain ⟨rfl, rfl, _⟩ := h
      exact ⟨c1.1, by simp⟩
    · split at h
      · simp only [Option.some.injEq, Prod.mk.injEq] at h
        obtain ⟨rfl, rfl, _⟩ := h
        exact ⟨c1.1, by omega⟩
      · cases h
theorem SzOk.up {p : PS} {k k' m : Nat} (h : SzOk p k m) (hk : k ≤ k') : SzOk p k' m :=
  ⟨h.nl, by have := h.pl; omega, by have := h.wl; omega, fun r hr => by have := h.rl r hr; omega, h.ps, h.ns, h.ws⟩
theorem entry_sz {p p' : PS} {s : Bs} {k m : Nat} (he : entryV p s = some p') (h : SzOk p k m) (hs : s.length ≤ m) : SzOk p' (k + 1) m := by
  have hu := h.up (Nat.le_succ k)
  obtain ⟨nl, pl, wl, rl, ps, ns, ws⟩ := hu
  have rk := h.rl
  have pk := h.pl
  have wk := h.wl
  unfold entryV at he
  split at he
  · split at he
    · rename_i n i b hn
      have hln := nmd_len hn
      simp only [List.length_drop] at hln
      split at he
      · cases he
      · simp only [Option.some.injEq] at he; subst he
        refine ⟨by simpa using nl, pl, wl, fun r hr => ?_, ps, fun r hr => ?_, ws⟩
        · rcases List.mem_or_eq_of_mem_set hr with h1 | h1
          · exact rl r h1
          · subst h1
            simp only [List.length_append, List.length_singleton]
            have : (p.needs.getD (p.picks.length - 1) []).length ≤ k := by
              rw [List.getD_eq_getElem?_getD]
              cases hg : p.needs[p.picks.length - 1]? with
              | none => simp
              | some r => exact rk r (List.mem_of_getElem? hg)
            omega
        · rcases List.mem_or_eq_of_mem_set hr with h1 | h1
          · exact ns r h1
          · subst h1
            intro x hx
            rcases List.mem_append.1 hx with h2 | h2
            · rw [List.getD_eq_getElem?_getD] at h2
              cases hg : p.needs[p.picks.length - 1]? with
              | none => rw [hg] at h2; simp at h2
              | some r => rw [hg] at h2; exact ns r (List.mem_of_getElem? hg) x h2
            · simp at h2; subst h2
              exact ⟨by show n.length ≤ m; omega, by show i.length ≤ m; omega⟩
    · cases he
  · split at he
    · split at he
      · rename_i n i b hn
        have hln := nmd_len hn
        simp only [List.length_drop] at hln
        have hx1 : n.length ≤ m ∧ i.length ≤ m := by omega
        split at he
        · cases he
        · split at he
          · simp only [Option.some.injEq] at he; subst he
            refine ⟨nl, pl, by simp; omega, rl, ps, ns, fun x hx => ?_⟩
            rcases List.mem_append.1 hx with h2 | h2
            · exact ws x h2
            · simp at h2; subst h2; exact hx1
          · simp only [Option.some.injEq] at he; subst he
            refine ⟨by simpa using nl, by simp; omega, wl, fun r hr => ?_, fun x hx => ?_, fun r hr => ?_, ws⟩
            · rcases List.mem_append.1 hr with h2 | h2
              · exact rl r h2
              · simp at h2; subst h2; simp
            · rcases List.mem_append.1 hx with h2 | h2
              · exact ps x h2
              · simp at h2; subst h2; exact hx1
            · rcases List.mem_append.1 hr with h2 | h2
              · exact ns r h2
              · simp at h2; subst h2; simp
      · cases he
    · cases he
theorem line_sz {p p' : PS} {s : Bs} {k m : Nat} (he : lineV p s = some p') (h : SzOk p k m) (hs : s.length ≤ m) : SzOk p' (k + 1) m := by
  have hu := h.up (Nat.le_succ k)
  unfold lineV at he
  split at he
  · split at he
    · simp only [Option.some.injEq] at he; subst he; exact ⟨hu.nl, hu.pl, hu.wl, hu.rl, hu.ps, hu.ns, hu.ws⟩
    · cases he
  · split at he
    · simp only [Option.some.injEq] at he; subst he; exact ⟨hu.nl, hu.pl, hu.wl, hu.rl, hu.ps, hu.ns, hu.ws⟩
    · exact entry_sz he h hs
  · split at he
    · simp only [Option.some.injEq] at he; subst he; exact ⟨hu.nl, hu.pl, hu.wl, hu.rl, hu.ps, hu.ns, hu.ws⟩
    · cases he
  · split at he
    · simp only [Option.some.injEq] at he; subst he; exact ⟨hu.nl, hu.pl, hu.wl, hu.rl, hu.ps, hu.ns, hu.ws⟩
    · exact entry_sz he h hs
  · split at he
    · simp only [Option.some.injEq] at he; subst he; exact ⟨hu.nl, hu.pl, hu.wl, hu.rl, hu.ps, hu.ns, hu.ws⟩
    · cases he
  · cases he
theorem lines_sz (s : Bs) : ∀ n p, linesV (dots 10 s) n = some p → SzOk p n s.length
  | 0, p, h => by
    simp only [linesV, Option.some.injEq] at h; subst h
    exact ⟨rfl, by simp [ps0], by simp [ps0], by simp [ps0], by simp [ps0], by simp [ps0], by simp [ps0]⟩
  | n + 1, p, h => by
    rw [linesV] at h
    split at h
    · rename_i p0 l e1 e2
      exact line_sz h (lines_sz s n p0 e1) (line_le s l (List.mem_of_getElem? e2))
    · cases h
theorem linesV_step {ls : List Bs} {n : Nat} {p : PS} {l : Bs} (h1 : linesV ls n = some p) (h2 : ls[n]? = some l) : linesV ls (n + 1) = lineV p l := by
  rw [linesV, h1, h2]
theorem begV_le (s : Bs) : ∀ n, n < (dots 10 s).length → begV (dots 10 s) n ≤ s.length
  | 0, _ => by simp [begV]
  | n + 1, h => by
    rw [begV]
    split
    · exact (at_line s n (by omega)).1
    · exact begV_le s n (by omega)
theorem parV_form {s : Bs} {n : Nat} (h : goL ps0 0 (dots 10 s) = (none, n)) : parV s = (lk0, n, 4) := by unfold parV; rw [h]
theorem parV_short {s : Bs} {n : Nat} {p : PS} (h : goL ps0 0 (dots 10 s) = (some p, n)) (h5 : p.part ≠ 5) : parV s = (lk0, n + 1, 4) := by
  unfold parV; rw [h]; simp only; rw [if_pos h5]
theorem parV_full {s : Bs} {n b : Nat} {p : PS} (h : goL ps0 0 (dots 10 s) = (some p, n)) (h5 : p.part = 5) (hb : lastIndex s preSum = (b : Int)) :
    parV s = if p.sum ≠ itoa (sumV (s.take b) (s.take b).length : Nat) then (lk0, 0, 8) else if lockV (lkOf p) = true then (lkOf p, 0, 0) else (lk0, 0, 1) := by
  unfold parV; rw [h]; simp only; rw [if_neg (by simp [h5]), hb, Int.toNat_natCast]
theorem last_beg {s : Bs} {n : Nat} {p : PS} (h : n + 1 = (dots 10 s).length) (hl : (dots 10 s)[n]? = some []) (hp : linesV (dots 10 s) n = some p) (h5 : p.part = 5) : digV p.sum = true ∧ begV (dots 10 s) n ≤ s.length ∧ lastIndex s preSum = (begV (dots 10 s) n : Int) := by
  obtain ⟨h1, h2, h3⟩ := beg_at (by omega) hp h5
  obtain ⟨_, k2⟩ := line_last h hl
  refine ⟨h1, h2, ?_⟩
  rw [List.length_nil, Nat.add_zero] at k2
  rw [← k2, List.take_length] at h3
  have := last_at (a := s.take (begV (dots 10 s) n)) h1
  rw [← h3, List.length_take, Nat.min_eq_left h2] at this
  exact this
end Go.Lk

set_option linter.unusedVariables false
set_option linter.unusedSimpArgs false
set_option maxRecDepth 20000
namespace Go.Lk
open Go.Lib Go.Wh Go.Ver
/-! a lock's text -/
def wantL (ind : Bs) (n : Prs) : Bs := if n.2 = [] then ind ++ (n.1 ++ [10]) else ind ++ (n.1 ++ ([32, 40] ++ (n.2 ++ [41, 10])))
def pickL (p : Prs) : Bs := [32, 32] ++ (p.1 ++ ([32, 40] ++ (p.2 ++ [41, 10])))
def gemsH : Bs := [71, 69, 77, 83, 10]
def wishH : Bs := [10, 87, 73, 83, 72, 10]
def ndsT (ind : Bs) (l : List Prs) (k : Nat) : Bs := (l.take k).flatMap (wantL ind)
def pksT (L : Lck) : Nat → Bs
  | 0 => gemsH
  | i + 1 => pksT L i ++ (pickL (L.1.getD i ([], [])) ++ ndsT pre4 (L.2.1.getD i []) (L.2.1.getD i []).length)
def headT (L : Lck) : Bs := pksT L L.1.length ++ (wishH ++ (ndsT pre2 L.2.2 L.2.2.length ++ [10]))
def textV (L : Lck) : Bs := headT L ++ (preSum ++ (itoa (sumV (headT L) (headT L).length : Nat) ++ [10]))
theorem ndsT_step {ind : Bs} {l : List Prs} {k : Nat} {x : Prs} (h : l[k]? = some x) : ndsT ind l (k + 1) = ndsT ind l k ++ wantL ind x := by
  unfold ndsT; rw [List.take_add_one, h]; simp
theorem ndsT_zero (ind : Bs) (l : List Prs) : ndsT ind l 0 = [] := rfl
theorem pksT_step {L : Lck} {i : Nat} {x : Prs} {r : List Prs} (h : L.1[i]? = some x) (hr : L.2.1[i]? = some r) : pksT L (i + 1) = pksT L i ++ (pickL x ++ ndsT pre4 r r.length) := by
  have e1 : L.1.getD i ([], []) = x := by simp [List.getD, h]
  have e2 : L.2.1.getD i [] = r := by simp [List.getD, hr]
  rw [pksT, e1, e2]
theorem pksT_zero (L : Lck) : pksT L 0 = gemsH := rfl
theorem wantL_len (ind : Bs) (n : Prs) : (wantL ind n).length ≤ ind.length + n.1.length + n.2.length + 4 := by
  unfold wantL; split <;> simp <;> omega
theorem ndsT_len {ind : Bs} {l : List Prs} (hi : ind.length ≤ 4) (h : ∀ x ∈ l, x.1.length ≤ 1000000 ∧ x.2.length ≤ 1000000) : ∀ k, (ndsT ind l k).length ≤ k * 2000008
  | 0 => by simp [ndsT]
  | k + 1 => by
    have ih := ndsT_len hi h k
    by_cases hk : k < l.length
    · have hx := List.getElem?_eq_getElem hk
      have hb := h _ (List.getElem_mem hk)
      have := wantL_len ind l[k]
      have e : (k + 1) * 2000008 = k * 2000008 + 2000008 := Nat.succ_mul _ _
      rw [ndsT_step hx, List.length_append, e]
      refine Nat.add_le_add ih ?_
      omega
    · have : ndsT ind l (k + 1) = ndsT ind l k := by
        unfold ndsT; rw [List.take_of_length_le (by omega), List.take_of_length_le (by omega)]
      have e : (k + 1) * 2000008 = k * 2000008 + 2000008 := Nat.succ_mul _ _
      rw [this]; exact Nat.le_trans ih (by rw [e]; exact Nat.le_add_right _ _)
theorem pksT_len {L : Lck} (hN : ∀ r ∈ L.2.1, r.length ≤ 6 ∧ ∀ x ∈ r, x.1.length ≤ 1000000 ∧ x.2.length ≤ 1000000) (hP : ∀ x ∈ L.1, x.1.length ≤ 1000000 ∧ x.2.length ≤ 1000000) : ∀ i, (pksT L i).length ≤ 5 + i * 14000054
  | 0 => by simp [pksT, gemsH]
  | i + 1 => by
    have ih := pksT_len hN hP i
    have h1 : (pickL (L.1.getD i ([], []))).length ≤ 2000006 := by
      rw [List.getD_eq_getElem?_getD]
      cases hx : L.1[i]? with
      | none => simp [pickL]
      | some x => have := hP x (List.mem_of_getElem? hx); simp [pickL]; omega
    have h2 : (ndsT pre4 (L.2.1.getD i []) (L.2.1.getD i []).length).length ≤ 6 * 2000008 := by
      rw [List.getD_eq_getElem?_getD]
      cases hx : L.2.1[i]? with
      | none => simp [ndsT]
      | some r =>
        have := hN r (List.mem_of_getElem? hx)
        have q := ndsT_len (ind := pre4) (l := r) (by decide) this.2 r.length
        simp only [Option.getD_some]
        exact Nat.le_trans q (Nat.mul_le_mul_right _ this.1)
    have e : (i + 1) * 14000054 = i * 14000054 + 14000054 := Nat.succ_mul _ _
    rw [pksT, e]
    simp only [List.length_append]
    obtain ⟨q, hq⟩ : ∃ q, i * 14000054 = q := ⟨_, rfl⟩
    rw [hq] at ih ⊢
    clear hq e
    have h2' : (ndsT pre4 (L.2.1.getD i []) (L.2.1.getD i []).length).length ≤ 12000048 := Nat.le_trans h2 (by decide)
    clear h2
    omega
theorem lockV_parts {L : Lck} (h : lockV L = true) : L.1.length ≤ 60 ∧ L.2.1.length = L.1.length ∧ needsV 8 L.2.2 = true ∧ pickTo L L.1.length = true := by
  unfold lockV at h
  simp only [Bool.and_eq_true, decide_eq_true_eq] at h
  exact ⟨h.1.1.1, h.1.1.2, h.1.2, h.2⟩
theorem pickTo_at {L : Lck} : ∀ {n i : Nat}, pickTo L n = true → i < n → pickAt L i = true
  | 0, i, _, h => absurd h (by omega)
  | n + 1, i, h, hi => by
    rw [pickTo, Bool.and_eq_true] at h
    by_cases e : i = n
    · subst e; exact h.2
    · exact pickTo_at h.1 (by omega)
theorem needTo_at {l : List Prs} : ∀ {n i : Nat}, needTo l n = true → i < n → needAt l i = true
  | 0, i, _, h => absurd h (by omega)
  | n + 1, i, h, hi => by
    rw [needTo, Bool.and_eq_true] at h
    by_cases e : i = n
    · subst e; exact h.2
    · exact needTo_at h.1 (by omega)
theorem lockV_pick {L : Lck} (h : lockV L = true) {i : Nat} {x : Prs} {r : List Prs} (hx : L.1[i]? = some x) (hr : L.2.1[i]? = some r) : nameV x.1 = true ∧ (readV x.2).isSome = true ∧ needsV 6 r = true := by
  obtain ⟨_, _, _, h4⟩ := lockV_parts h
  have := pickTo_at h4 (List.getElem?_eq_some_iff.1 hx).1
  unfold pickAt at this
  rw [hx] at this
  have e2 : L.2.1.getD i [] = r := by simp [List.getD, hr]
  simp only [e2, Bool.and_eq_true] at this
  exact ⟨this.1.1.1, this.1.1.2, this.2⟩
theorem needsV_len {m : Nat} {l : List Prs} (h : needsV m l = true) : l.length ≤ m := by
  unfold needsV at h; simp at h; exact h.2
theorem lockV_needs {L : Lck} (h : lockV L = true) : ∀ r ∈ L.2.1, r.length ≤ 6 := fun r hr => by
  obtain ⟨h1, h2, h3, h4⟩ := lockV_parts h
  obtain ⟨i, hi⟩ := List.getElem?_of_mem hr
  have hlt := (List.getElem?_eq_some_iff.1 hi).1
  have hx := List.getElem?_eq_getElem (l := L.1) (i := i) (by omega)
  exact needsV_len (lockV_pick h hx hi).2.2
end Go.Lk

namespace Go.Proofs.YtchnagdaljblnaaGreatDoor
open Go.Eng Go.Wh Go.Ver Go.RowKit Go.Lk
set_option maxRecDepth 20000
set_option linter.unusedSimpArgs false
set_option linter.unusedVariables false
attribute [local irreducible] AG CallA CallT AWp PCall ACall AgC
@[go_sem] theorem ba_app (a b : Array UInt8) : (⟨a⟩ : ByteArray) ++ ⟨b⟩ = ⟨a ++ b⟩ := by
  apply ByteArray.ext
  simp
theorem wline_spec (ind : Bs) (n : Prs) (hi : ind.length ≤ 4) (hn : PrOk n) : PCall Tryz.prog 73 [dS ind, dP n] fun r => r = dS (wantL ind n) := by 
  refine pcall_of Tryz.func73 rfl rfl Tryz.ntmps73 (rs := [.tmp 4]) (tys := [9]) rfl rfl (by simp) ?_
  obtain ⟨a, b⟩ := n
  obtain ⟨hna, hnb⟩ := hn
  simp only at hna hnb
  unfold wantL
  simp only
  (refine awp_sr fun KK hKK => ?_; simp [go_sem]; ((repeat' (first|(refine ag_x ?_;simp [go_sem])|intro _|refine And.intro ?_ ?_|(apply hKK;clear hKK KK)));all_goals first|refine Hold.mk ?_|omega|with_reducible assumption|(simp only [InR] at *;omega)|skip))
  refine awp_seq_k fun K1 hK1 => ?_
  (refine awp_sr fun KK hKK => ?_; simp [go_sem]; ((repeat' (first|(refine ag_x ?_;simp [go_sem])|intro _|refine And.intro ?_ ?_|(apply hKK;clear hKK KK)));all_goals first|refine Hold.mk ?_|omega|with_reducible assumption|(simp only [InR] at *;omega)|skip))
  cases b with
  | nil =>
    (refine awp_if fun T F hT hF => ?_; simp [go_sem]; refine hT ?_; clear hT hF T F)
    (refine awp_sr fun KK hKK => ?_; simp [go_sem]; ((repeat' (first|(refine ag_x ?_;simp [go_sem])|intro _|refine And.intro ?_ ?_|(apply hKK;clear hKK KK)));all_goals first|refine Hold.mk ?_|omega|with_reducible assumption|(simp only [InR] at *;omega)|skip))
    (refine awp_ret ?_; simp [go_sem])
  | cons c b =>
    simp only [List.length_cons] at hnb
    (refine awp_if fun T F hT hF => ?_; simp [go_sem]; refine hF ?_; clear hT hF T F)
    refine awp_skip ?_
    refine hK1 _ ?_; clear hK1
    (refine awp_sr fun KK hKK => ?_; simp [go_sem]; ((repeat' (first|(refine ag_x ?_;simp [go_sem])|intro _|refine And.intro ?_ ?_|(apply hKK;clear hKK KK)));all_goals first|refine Hold.mk ?_|omega|with_reducible assumption|(simp only [InR] at *;omega)|skip))
    (refine awp_ret ?_; simp [go_sem])
end Go.Proofs.YtchnagdaljblnaaGreatDoor

namespace Go.Proofs.YtchnagdaljblnaaGreatDoor
open Go.Eng Go.Wh Go.Ver Go.RowKit Go.Lk
set_option maxRecDepth 20000
set_option linter.unusedSimpArgs false
set_option linter.unusedVariables false
attribute [local irreducible] AG CallA CallT AWp PCall ACall AgC
set_option maxHeartbeats 16000000 in
theorem lText_spec (L : Lck) (hL : LkOk L) : PCall Tryz.prog 36 [dLk L] fun r => r = .tup [dS (if lockV L = true then textV L else []), dI (if lockV L = true then 0 else 1)] := by 
  refine pcall_of Tryz.func36 rfl rfl Tryz.ntmps36 (rs := [.tmp 2, .tmp 3]) (tys := [9, 27]) rfl rfl (by simp) ?_
  have CK := lCheck_spec L hL
  have hPS := fun i x r => @pksT_step L i x r
  have hP0 := pksT_zero L
  have hLV := @lockV_parts L
  have hLN := @lockV_needs L
  have hPL := @pksT_len L
  have hT : textV L = headT L ++ (preSum ++ (Lib.itoa (sumV (headT L) (headT L).length : Nat) ++ [10])) := rfl
  have hH : headT L = pksT L L.1.length ++ (wishH ++ (ndsT pre2 L.2.2 L.2.2.length ++ [10])) := rfl
  obtain ⟨P, N, W⟩ := L
  obtain ⟨hP, hN, hW, hP1, hN1, hW1⟩ := hL
  simp only at hP hN hW hP1 hN1 hW1 hPS hLV hLN hPL hH hT
  generalize lockV (P, N, W) = lk at *
  generalize textV (P, N, W) = tv at *
  generalize hpk : pksT (P, N, W) = pk at *
  generalize headT (P, N, W) = hd at *
  (refine awp_sr fun KK hKK => ?_; simp [go_sem]; ((repeat' (first|(refine ag_x ?_;simp [go_sem])|intro _|refine And.intro ?_ ?_|(apply hKK;clear hKK KK)));all_goals first|refine Hold.mk ?_|omega|with_reducible assumption|(simp only [InR] at *;omega)|skip))
  rename_i g1
  refine awp_frzbox 1 rfl rfl ?_
  simp only [go_sem]
  refine awp_seq_k fun K1 hK1 => ?_
  (refine awp_sr fun KK hKK => ?_; simp [go_sem]; ((repeat' (first|(refine ag_x ?_;simp [go_sem])|intro _|refine And.intro ?_ ?_|(apply hKK;clear hKK KK)));all_goals first|refine Hold.mk ?_|omega|with_reducible assumption|(simp only [InR] at *;omega)|skip))
  ((try refine CallT.toA ?_); refine callT_m (by first | exact .inl ⟨rfl, rfl⟩ | exact .inr rfl) (by simp [go_sem]) ?_; intro args ha; simp [go_sem] at ha; subst ha; refine ⟨_, CK, ?_⟩; rintro _ rfl; simp [go_sem]; ((repeat' (first|(refine ag_x ?_;simp [go_sem])|intro _|refine And.intro ?_ ?_|(apply hKK;clear hKK KK)));all_goals first|refine Hold.mk ?_|omega|with_reducible assumption|(simp only [InR] at *;omega)|skip))
  (refine awp_sr fun KK hKK => ?_; simp [go_sem]; ((repeat' (first|(refine ag_x ?_;simp [go_sem])|intro _|refine And.intro ?_ ?_|(apply hKK;clear hKK KK)));all_goals first|refine Hold.mk ?_|omega|with_reducible assumption|(simp only [InR] at *;omega)|skip))
  cases lk with
  | false =>
    (refine awp_if fun T F hT hF => ?_; simp [go_sem]; refine hT ?_; clear hT hF T F)
    (refine awp_sr fun KK hKK => ?_; simp [go_sem]; ((repeat' (first|(refine ag_x ?_;simp [go_sem])|intro _|refine And.intro ?_ ?_|(apply hKK;clear hKK KK)));all_goals first|refine Hold.mk ?_|omega|with_reducible assumption|(simp only [InR] at *;omega)|skip))
    (refine awp_ret ?_; simp [go_sem])
  | true =>
    (refine awp_if fun T F hT hF => ?_; simp [go_sem]; refine hF ?_; clear hT hF T F)
    refine awp_skip ?_
    refine hK1 _ ?_; clear hK1
    obtain ⟨v1, v2, v3, v4⟩ := hLV rfl
    have hN6 := hLN rfl
    have hPL1 := hPL (fun r hr => ⟨hN6 r hr, fun x hx => (hN1 r hr).2 x hx⟩) hP1
    refine awp_bld 151 5 900000 900001 (by decide) (by decide) (by kernel_rfl) fun gb gr => ?_
    (refine awp_sr fun KK hKK => ?_; simp [go_sem]; ((repeat' (first|(refine ag_x ?_;simp [go_sem])|intro _|refine And.intro ?_ ?_|(apply hKK;clear hKK KK)));all_goals first|refine Hold.mk ?_|omega|with_reducible assumption|(simp only [InR] at *;omega)|skip))
    (refine callA_l [900000, 900001] (by first | exact .inl ⟨rfl, rfl⟩ | exact .inr rfl) (by simp [go_sem]) ?_; intro args ha; simp [go_sem] at ha; subst ha; refine ⟨_, _, (ws_spec 900000 900001 gb gr [] _ (by decide) (by decide) (by decide) (by simp)), (by simp [go_sem]), ?_⟩; rintro ps r hps ⟨gr1, rfl, rfl⟩; simp [go_sem]; ((repeat' (first|(refine ag_x ?_;simp [go_sem])|intro _|refine And.intro ?_ ?_|(apply hKK;clear hKK KK)));all_goals first|refine Hold.mk ?_|omega|with_reducible assumption|(simp only [InR] at *;omega)|skip))
    refine awp_seq_k fun K3 hK3 => ?_
    (refine awp_sr fun KK hKK => ?_; simp [go_sem]; ((repeat' (first|(refine ag_x ?_;simp [go_sem])|intro _|refine And.intro ?_ ?_|(apply hKK;clear hKK KK)));all_goals first|refine Hold.mk ?_|omega|with_reducible assumption|(simp only [InR] at *;omega)|skip))
    refine awp_block ?_
    refine awp_loop (σ := Nat × Nat) (fun x => ⟨[(1, .rd [dPs P, dNs N, dPs W]), (5, .ptr 900000 gb 0), (19, dPs P), (20, dI P.length), (21, dI x.1)], [(900000, (gb, .bld 151 900001 x.2)), (900001, (x.2, .brow 5 (pk x.1)))]⟩) (fun x => x.1 ≤ P.length) (fun x => P.length - x.1) (0, gr1) ?_ ?_ ?_
    · (refine cov_of ?_ ?_ <;> simp [go_sem, hP0, gemsH])
    · simp
    rintro ⟨i, gr⟩ hi
    simp only at hi
    (refine awp_sr fun KK hKK => ?_; simp [go_sem]; ((repeat' (first|(refine ag_x ?_;simp [go_sem])|intro _|refine And.intro ?_ ?_|(apply hKK;clear hKK KK)));all_goals first|refine Hold.mk ?_|omega|with_reducible assumption|(simp only [InR] at *;omega)|skip))
    refine awp_seq_k fun K4 hK4 => ?_
    (refine awp_if fun T F hT hF => ?_; simp [go_sem]; refine BR.intro (fun h5 => hT ?_) (fun h5 => hF ?_); all_goals clear hT hF T F; try simp at h5) 
    · refine awp_skip ?_
      refine hK4 _ ?_; clear hK4
      obtain ⟨x, hx⟩ : ∃ x, P[i]? = some x := ⟨_, List.getElem?_eq_getElem (by omega)⟩
      obtain ⟨r, hr⟩ : ∃ r, N[i]? = some r := ⟨_, List.getElem?_eq_getElem (by omega)⟩
      have hst := hPS i x r hx hr
      have hr6 := hN1 r (List.mem_of_getElem? hr)
      have hst2 := fun k y => @ndsT_step pre4 r k y
      have hst0 := ndsT_zero pre4 r
      have hpi : (pk i).length ≤ 840003245 := Nat.le_trans (hPL1 i) (Nat.le_trans (Nat.add_le_add_left (Nat.mul_le_mul_right _ (Nat.le_trans hi v1)) 5) (by decide))
      have hxl := hP1 x (List.mem_of_getElem? hx)
      have q1 := hxl.1
      have q2 := hxl.2
      have hpx : (pickL x).length ≤ 2000006 := by simp [pickL]; omega
      have hnl := ndsT_len (ind := pre4) (l := r) (by decide) hr6.2
      have hr66 := hN6 r (List.mem_of_getElem? hr)
      generalize pk i = pki at *
      refine awp_seq_k fun K6 hK6 => ?_
      refine awp_block ?_
      (refine awp_sr fun KK hKK => ?_; simp [go_sem, hx]; ((repeat' (first|(refine ag_x ?_;simp [go_sem, hx])|intro _|refine And.intro ?_ ?_|(apply hKK;clear hKK KK)));all_goals first|refine Hold.mk ?_|omega|with_reducible assumption|(simp only [InR] at *;omega)|skip))
      rename_i g7
      refine awp_frzbox 7 rfl rfl ?_
      simp only [go_sem]
      (refine awp_sr fun KK hKK => ?_; simp [go_sem]; ((repeat' (first|(refine ag_x ?_;simp [go_sem])|intro _|refine And.intro ?_ ?_|(apply hKK;clear hKK KK)));all_goals first|refine Hold.mk ?_|omega|with_reducible assumption|(simp only [InR] at *;omega)|skip))
      (refine callA_l [900000, 900001] (by first | exact .inl ⟨rfl, rfl⟩ | exact .inr rfl) (by simp [go_sem]) ?_; intro args ha; simp [go_sem] at ha; subst ha; refine ⟨_, _, (ws_spec 900000 900001 gb gr pki _ (by decide) (by decide) (by decide) (by simp; omega)), (by simp [go_sem]), ?_⟩; rintro ps r hps ⟨gr2, rfl, rfl⟩; simp [go_sem]; ((repeat' (first|(refine ag_x ?_;simp [go_sem])|intro _|refine And.intro ?_ ?_|(apply hKK;clear hKK KK)));all_goals first|refine Hold.mk ?_|omega|with_reducible assumption|(simp only [InR] at *;omega)|skip))
      (refine awp_sr fun KK hKK => ?_; simp [go_sem, hr]; ((repeat' (first|(refine ag_x ?_;simp [go_sem, hr])|intro _|refine And.intro ?_ ?_|(apply hKK;clear hKK KK)));all_goals first|refine Hold.mk ?_|omega|with_reducible assumption|(simp only [InR] at *;omega)|skip))
      refine awp_block ?_
      generalize ndsT pre4 r = nt at *
      refine awp_loop (σ := Nat × Nat) (fun z => ⟨[(1, .rd [dPs P, dNs N, dPs W]), (5, .ptr 900000 gb 0), (19, dPs P), (20, dI P.length), (21, dI i), (39, dPs r), (40, dI r.length), (41, dI z.1)], [(900000, (gb, .bld 151 900001 z.2)), (900001, (z.2, .brow 5 (pki ++ (pickL x ++ nt z.1))))]⟩) (fun z => z.1 ≤ r.length) (fun z => r.length - z.1) (0, gr2) ?_ ?_ ?_
      · (refine cov_of ?_ ?_ <;> simp [go_sem, hst0, pickL])
      · simp
      rintro ⟨k, gr⟩ hk
      simp only at hk
      have hnk : (nt k).length ≤ 12000048 := Nat.le_trans (hnl k) (Nat.le_trans (Nat.mul_le_mul_right _ (Nat.le_trans hk hr66)) (by decide))
      (refine awp_sr fun KK hKK => ?_; simp [go_sem]; ((repeat' (first|(refine ag_x ?_;simp [go_sem])|intro _|refine And.intro ?_ ?_|(apply hKK;clear hKK KK)));all_goals first|refine Hold.mk ?_|omega|with_reducible assumption|(simp only [InR] at *;omega)|skip))
      refine awp_seq_k fun K7 hK7 => ?_
      (refine awp_if fun T F hT hF => ?_; simp [go_sem]; refine BR.intro (fun h8 => hT ?_) (fun h8 => hF ?_); all_goals clear hT hF T F; try simp at h8) 
      · refine awp_skip ?_
        refine hK7 _ ?_; clear hK7
        obtain ⟨y, hy⟩ : ∃ y, r[k]? = some y := ⟨_, List.getElem?_eq_getElem (by omega)⟩
        have hst3 := hst2 k y hy
        have hyl := hr6.2 y (List.mem_of_getElem? hy)
        have hwl := wantL_len pre4 y
        have WS := wline_spec pre4 y (by decide) hyl
        have hp4 : pre4.length = 4 := rfl
        have q1 := hyl.1
        have q2 := hyl.2
        generalize wantL pre4 y = wy at *
        refine awp_seq_k fun K9 hK9 => ?_
        refine awp_block ?_
        (refine awp_sr fun KK hKK => ?_; simp [go_sem, hy]; ((repeat' (first|(refine ag_x ?_;simp [go_sem, hy])|intro _|refine And.intro ?_ ?_|(apply hKK;clear hKK KK)));all_goals first|refine Hold.mk ?_|omega|with_reducible assumption|(simp only [InR] at *;omega)|skip))
        rename_i g9
        refine awp_frzbox 9 rfl rfl ?_
        simp only [go_sem]
        (refine awp_r fun KK hKK => ?_; simp [go_sem]; ((repeat' (first|(refine ag_x ?_;simp [go_sem])|intro _|refine And.intro ?_ ?_|(apply hKK;clear hKK KK)));all_goals first|refine Hold.mk ?_|omega|with_reducible assumption|(simp only [InR] at *;omega)|skip))
        ((try refine CallT.toA ?_); refine callT_m (by first | exact .inl ⟨rfl, rfl⟩ | exact .inr rfl) (by simp [go_sem]) ?_; intro args ha; simp [go_sem] at ha; subst ha; refine ⟨_, WS, ?_⟩; rintro _ rfl; simp [go_sem]; ((repeat' (first|(refine ag_x ?_;simp [go_sem])|intro _|refine And.intro ?_ ?_|(apply hKK;clear hKK KK)));all_goals first|refine Hold.mk ?_|omega|with_reducible assumption|(simp only [InR] at *;omega)|skip))
        (refine callA_l [900000, 900001] (by first | exact .inl ⟨rfl, rfl⟩ | exact .inr rfl) (by simp [go_sem]) ?_; intro args ha; simp [go_sem] at ha; subst ha; refine ⟨_, _, (ws_spec 900000 900001 gb gr (pki ++ (pickL x ++ nt k)) _ (by decide) (by decide) (by decide) (by simp; omega)), (by simp [go_sem]), ?_⟩; rintro ps r hps ⟨gr3, rfl, rfl⟩; simp [go_sem]; ((repeat' (first|(refine ag_x ?_;simp [go_sem])|intro _|refine And.intro ?_ ?_|(apply hKK;clear hKK KK)));all_goals first|refine Hold.mk ?_|omega|with_reducible assumption|(simp only [InR] at *;omega)|skip))
        refine hK9 _ ?_; clear hK9
        (refine awp_r fun KK hKK => ?_; simp [go_sem]; ((repeat' (first|(refine ag_x ?_;simp [go_sem])|intro _|refine And.intro ?_ ?_|(apply hKK;clear hKK KK)));all_goals first|refine Hold.mk ?_|omega|with_reducible assumption|(simp only [InR] at *;omega)|skip))
        refine ⟨(k + 1, gr3), ?_, by simp only; omega, by simp only; omega⟩
        (refine cov_of ?_ ?_ <;> simp [go_sem, hst3])
      · refine awp_exit ?_
        simp only [go_sem]
        refine hK6 _ ?_; clear hK6
        have : k = r.length := by omega
        subst this
        (refine awp_r fun KK hKK => ?_; simp [go_sem]; ((repeat' (first|(refine ag_x ?_;simp [go_sem])|intro _|refine And.intro ?_ ?_|(apply hKK;clear hKK KK)));all_goals first|refine Hold.mk ?_|omega|with_reducible assumption|(simp only [InR] at *;omega)|skip))
        refine ⟨(i + 1, gr), ?_, by simp only; omega, by simp only; omega⟩
        (refine cov_of ?_ ?_ <;> simp [go_sem, hst])
    · refine awp_exit ?_
      simp only [go_sem]
      refine hK3 _ ?_; clear hK3
      have : i = P.length := by omega
      subst this
      have hPL2 := hPL1 P.length
      have hWl := ndsT_len (ind := pre2) (l := W) (by decide) hW1
      have hst2 := fun k y => @ndsT_step pre2 W k y
      have hst0 := ndsT_zero pre2 W
      have hW8 := needsV_len v3
      have hpn : (pk P.length).length ≤ 840003245 := Nat.le_trans hPL2 (Nat.le_trans (Nat.add_le_add_left (Nat.mul_le_mul_right _ v1) 5) (by decide))
      have hhl := congrArg List.length hH
      simp only [List.length_append] at hhl
      generalize pk P.length = pkn at *
      generalize ndsT pre2 W = nt at *
      have hw6 : wishH.length = 6 := rfl
      (refine awp_sr fun KK hKK => ?_; simp [go_sem]; ((repeat' (first|(refine ag_x ?_;simp [go_sem])|intro _|refine And.intro ?_ ?_|(apply hKK;clear hKK KK)));all_goals first|refine Hold.mk ?_|omega|with_reducible assumption|(simp only [InR] at *;omega)|skip))
      (refine callA_l [900000, 900001] (by first | exact .inl ⟨rfl, rfl⟩ | exact .inr rfl) (by simp [go_sem]) ?_; intro args ha; simp [go_sem] at ha; subst ha; refine ⟨_, _, (ws_spec 900000 900001 gb gr pkn _ (by decide) (by decide) (by decide) (by simp; omega)), (by simp [go_sem]), ?_⟩; rintro ps r hps ⟨gr2, rfl, rfl⟩; simp [go_sem]; ((repeat' (first|(refine ag_x ?_;simp [go_sem])|intro _|refine And.intro ?_ ?_|(apply hKK;clear hKK KK)));all_goals first|refine Hold.mk ?_|omega|with_reducible assumption|(simp only [InR] at *;omega)|skip))
      refine awp_seq_k fun K10 hK10 => ?_
      (refine awp_sr fun KK hKK => ?_; simp [go_sem]; ((repeat' (first|(refine ag_x ?_;simp [go_sem])|intro _|refine And.intro ?_ ?_|(apply hKK;clear hKK KK)));all_goals first|refine Hold.mk ?_|omega|with_reducible assumption|(simp only [InR] at *;omega)|skip))
      refine awp_block ?_
      refine awp_loop (σ := Nat × Nat) (fun z => ⟨[(5, .ptr 900000 gb 0), (52, dPs W), (53, dI W.length), (54, dI z.1)], [(900000, (gb, .bld 151 900001 z.2)), (900001, (z.2, .brow 5 (pkn ++ (wishH ++ nt z.1))))]⟩) (fun z => z.1 ≤ W.length) (fun z => W.length - z.1) (0, gr2) ?_ ?_ ?_
      · (refine cov_of ?_ ?_ <;> simp [go_sem, hst0, wishH])
      · simp
      rintro ⟨k, gr⟩ hk
      simp only at hk
      have hnk : (nt k).length ≤ 16000064 := Nat.le_trans (hWl k) (Nat.le_trans (Nat.mul_le_mul_right _ (Nat.le_trans hk hW8)) (by decide))
      (refine awp_sr fun KK hKK => ?_; simp [go_sem]; ((repeat' (first|(refine ag_x ?_;simp [go_sem])|intro _|refine And.intro ?_ ?_|(apply hKK;clear hKK KK)));all_goals first|refine Hold.mk ?_|omega|with_reducible assumption|(simp only [InR] at *;omega)|skip))
      refine awp_seq_k fun K11 hK11 => ?_
      (refine awp_if fun T F hT hF => ?_; simp [go_sem]; refine BR.intro (fun h12 => hT ?_) (fun h12 => hF ?_); all_goals clear hT hF T F; try simp at h12)
      · refine awp_skip ?_
        refine hK11 _ ?_; clear hK11
        obtain ⟨y, hy⟩ : ∃ y, W[k]? = some y := ⟨_, List.getElem?_eq_getElem (by omega)⟩
        have hst3 := hst2 k y hy
        have hyl := hW1 y (List.mem_of_getElem? hy)
        have hwl := wantL_len pre2 y
        have WS := wline_spec pre2 y (by decide) hyl
        have hp2 : pre2.length = 2 := rfl
        have q1 := hyl.1
        have q2 := hyl.2
        generalize wantL pre2 y = wy at *
        refine awp_seq_k fun K13 hK13 => ?_
        refine awp_block ?_
        (refine awp_sr fun KK hKK => ?_; simp [go_sem, hy]; ((repeat' (first|(refine ag_x ?_;simp [go_sem, hy])|intro _|refine And.intro ?_ ?_|(apply hKK;clear hKK KK)));all_goals first|refine Hold.mk ?_|omega|with_reducible assumption|(simp only [InR] at *;omega)|skip))
        rename_i g11
        refine awp_frzbox 11 rfl rfl ?_
        simp only [go_sem]
        (refine awp_r fun KK hKK => ?_; simp [go_sem]; ((repeat' (first|(refine ag_x ?_;simp [go_sem])|intro _|refine And.intro ?_ ?_|(apply hKK;clear hKK KK)));all_goals first|refine Hold.mk ?_|omega|with_reducible assumption|(simp only [InR] at *;omega)|skip))
        ((try refine CallT.toA ?_); refine callT_m (by first | exact .inl ⟨rfl, rfl⟩ | exact .inr rfl) (by simp [go_sem]) ?_; intro args ha; simp [go_sem] at ha; subst ha; refine ⟨_, WS, ?_⟩; rintro _ rfl; simp [go_sem]; ((repeat' (first|(refine ag_x ?_;simp [go_sem])|intro _|refine And.intro ?_ ?_|(apply hKK;clear hKK KK)));all_goals first|refine Hold.mk ?_|omega|with_reducible assumption|(simp only [InR] at *;omega)|skip))
        (refine callA_l [900000, 900001] (by first | exact .inl ⟨rfl, rfl⟩ | exact .inr rfl) (by simp [go_sem]) ?_; intro args ha; simp [go_sem] at ha; subst ha; refine ⟨_, _, (ws_spec 900000 900001 gb gr (pkn ++ (wishH ++ nt k)) _ (by decide) (by decide) (by decide) (by simp; omega)), (by simp [go_sem]), ?_⟩; rintro ps r hps ⟨gr3, rfl, rfl⟩; simp [go_sem]; ((repeat' (first|(refine ag_x ?_;simp [go_sem])|intro _|refine And.intro ?_ ?_|(apply hKK;clear hKK KK)));all_goals first|refine Hold.mk ?_|omega|with_reducible assumption|(simp only [InR] at *;omega)|skip))
        refine hK13 _ ?_; clear hK13
        (refine awp_r fun KK hKK => ?_; simp [go_sem]; ((repeat' (first|(refine ag_x ?_;simp [go_sem])|intro _|refine And.intro ?_ ?_|(apply hKK;clear hKK KK)));all_goals first|refine Hold.mk ?_|omega|with_reducible assumption|(simp only [InR] at *;omega)|skip))
        refine ⟨(k + 1, gr3), ?_, by simp only; omega, by simp only; omega⟩
        (refine cov_of ?_ ?_ <;> simp [go_sem, hst3])
      · refine awp_exit ?_
        simp only [go_sem]
        refine hK10 _ ?_; clear hK10
        have : k = W.length := by omega
        subst this
        have e : pkn ++ (wishH ++ (nt W.length ++ [10])) = hd := hH.symm
        have hdl : hd.length ≤ 1000000000 := by
          rw [hhl]
          have e6 : ([10] : Bs).length = 1 := rfl
          rw [hw6, e6]
          omega
        have hdn : hd ≠ [] := by rw [← e]; simp [wishH]
        have SU := sum_spec hd hdl
        have hsl := sumV_lt hd hd.length
        have IT := itoa_spec (sumV hd hd.length : Nat) (by omega) (by omega)
        have hil := Lib.itoa_length_le (sumV hd hd.length : Nat) (by omega) (by omega)
        generalize sumV hd hd.length = sm at *
        (refine awp_sr fun KK hKK => ?_; simp [go_sem]; ((repeat' (first|(refine ag_x ?_;simp [go_sem])|intro _|refine And.intro ?_ ?_|(apply hKK;clear hKK KK)));all_goals first|refine Hold.mk ?_|omega|with_reducible assumption|(simp only [InR] at *;omega)|skip))
        (refine callA_l [900000, 900001] (by first | exact .inl ⟨rfl, rfl⟩ | exact .inr rfl) (by simp [go_sem]) ?_; intro args ha; simp [go_sem] at ha; subst ha; refine ⟨_, _, (ws_spec 900000 900001 gb gr (pkn ++ (wishH ++ nt W.length)) _ (by decide) (by decide) (by decide) (by simp; omega)), (by simp [go_sem]), ?_⟩; rintro ps r hps ⟨gr4, rfl, rfl⟩; simp [go_sem]; ((repeat' (first|(refine ag_x ?_;simp [go_sem])|intro _|refine And.intro ?_ ?_|(apply hKK;clear hKK KK)));all_goals first|refine Hold.mk ?_|omega|with_reducible assumption|(simp only [InR] at *;omega)|skip))
        refine awp_cov (S' := ⟨[(5, .ptr 900000 gb 0)], [(900000, (gb, .bld 151 900001 gr4)), (900001, (gr4, .brow 5 hd))]⟩) (by rw [← e]; (refine cov_of ?_ ?_ <;> simp [go_sem])) ?_
        clear e hH
        (refine awp_sr fun KK hKK => ?_; simp [go_sem]; ((repeat' (first|(refine ag_x ?_;simp [go_sem])|intro _|refine And.intro ?_ ?_|(apply hKK;clear hKK KK)));all_goals first|refine Hold.mk ?_|omega|with_reducible assumption|(simp only [InR] at *;omega)|skip))
        (refine callA_l [900000, 900001] (by first | exact .inl ⟨rfl, rfl⟩ | exact .inr rfl) (by simp [go_sem]) ?_; intro args ha; simp [go_sem] at ha; subst ha; refine ⟨_, _, (str_spec 900000 900001 gb gr4 hd (by decide) (by decide) (by decide) hdn), (by simp [go_sem]), ?_⟩; rintro ps r hps ⟨gr5, rfl, rfl⟩; simp [go_sem]; ((repeat' (first|(refine ag_x ?_;simp [go_sem])|intro _|refine And.intro ?_ ?_|(apply hKK;clear hKK KK)));all_goals first|refine Hold.mk ?_|omega|with_reducible assumption|(simp only [InR] at *;omega)|skip))
        (refine callA_l [900000, 900001] (by first | exact .inl ⟨rfl, rfl⟩ | exact .inr rfl) (by simp [go_sem]) ?_; intro args ha; simp [go_sem] at ha; subst ha; refine ⟨_, _, (str_spec 900000 900001 gb gr5 hd (by decide) (by decide) (by decide) hdn), (by simp [go_sem]), ?_⟩; rintro ps r hps ⟨gr6, rfl, rfl⟩; simp [go_sem]; ((repeat' (first|(refine ag_x ?_;simp [go_sem])|intro _|refine And.intro ?_ ?_|(apply hKK;clear hKK KK)));all_goals first|refine Hold.mk ?_|omega|with_reducible assumption|(simp only [InR] at *;omega)|skip))
        ((try refine CallT.toA ?_); refine callT_m (by first | exact .inl ⟨rfl, rfl⟩ | exact .inr rfl) (by simp [go_sem]) ?_; intro args ha; simp [go_sem] at ha; subst ha; refine ⟨_, SU, ?_⟩; rintro _ rfl; simp [go_sem]; ((repeat' (first|(refine ag_x ?_;simp [go_sem])|intro _|refine And.intro ?_ ?_|(apply hKK;clear hKK KK)));all_goals first|refine Hold.mk ?_|omega|with_reducible assumption|(simp only [InR] at *;omega)|skip))
        ((try refine CallT.toA ?_); refine callT_m (by first | exact .inl ⟨rfl, rfl⟩ | exact .inr rfl) (by simp [go_sem]) ?_; intro args ha; simp [go_sem] at ha; subst ha; refine ⟨_, IT, ?_⟩; rintro _ rfl; simp [go_sem]; ((repeat' (first|(refine ag_x ?_;simp [go_sem])|intro _|refine And.intro ?_ ?_|(apply hKK;clear hKK KK)));all_goals first|refine Hold.mk ?_|omega|with_reducible assumption|(simp only [InR] at *;omega)|skip))
        (refine awp_ret ?_; simp [go_sem, hT, preSum])
end Go.Proofs.YtchnagdaljblnaaGreatDoor

namespace Go.Proofs.YtchnagdaljblnaaGreatDoor
open Go.Eng Go.Wh Go.Ver Go.RowKit Go.Lk
set_option maxRecDepth 20000
set_option linter.unusedSimpArgs false
set_option linter.unusedVariables false
attribute [local irreducible] AG CallA CallT AWp PCall ACall AgC
abbrev mP (l : List Prs) : List (List D) := l.map cP
/-- what is lent of a reader -/
@[go_sem] abbrev rdH (p : PS) (gb gp gn gw : Nat) (rs : List (Nat × List Prs)) : List (Nat × (Nat × Blk)) :=
  (900002, (gb, .box [dI p.part, .own 900003 gp, .own 900004 gn, .own 900005 gw, dS p.sum])) :: (900003, (gp, .row 83 2 (p.picks.map cP))) :: (900004, (gn, .row 43 1 (famO 1 0 rs))) :: (900005, (gw, .row 100 2 (p.wish.map cP))) :: fam 1 100 2 mP 0 rs
theorem rdH_ok (p : PS) (gb gp gn gw : Nat) (rs : List (Nat × List Prs)) (m : Nat) (hm : rs.length ≤ m) : ∀ q ∈ rdH p gb gp gn gw rs, 900000 ≤ q.1 ∧ notFroz q.2.2 = true ∧ q.1 ∈ 900002 :: 900003 :: 900004 :: 900005 :: famS 1 0 m := by
  intro q hq
  simp only [rdH, List.mem_cons] at hq
  rcases hq with rfl | rfl | rfl | rfl | hq
  · simp [notFroz]
  · simp [notFroz]
  · simp [notFroz]
  · simp [notFroz]
  · obtain ⟨h1, h2, h3⟩ := mem_fam hq
    refine ⟨h2, h3, ?_⟩
    obtain ⟨j, a, b, c⟩ := famS_mem.1 h1
    have : q.1 ∈ famS 1 0 m := famS_mem.2 ⟨j, a, by omega, c⟩
    simp only [List.mem_cons]
    exact .inr (.inr (.inr (.inr this)))
structure PsOk (p : PS) (rs : List (Nat × List Prs)) : Prop where
  en : rs.map (fun x => x.2) = p.needs
  nl : p.needs.length = p.picks.length
  pl : p.picks.length ≤ 100000
  wl : p.wish.length ≤ 100000
  rl : ∀ r ∈ rs, r.2.length ≤ 100000
theorem entry_len {p p' : PS} {s : Bs} (he : entryV p s = some p') : p.needs.length ≤ p'.needs.length := by
  unfold entryV at he
  split at he
  · split at he
    · split at he
      · cases he
      · simp only [Option.some.injEq] at he
        subst he
        simp
    · cases he
  · split at he
    · split at he
      · split at he
        · cases he
        · split at he
          · simp only [Option.some.injEq] at he
            subst he
            simp
          · simp only [Option.some.injEq] at he
            subst he
            simp
      · cases he
    · cases he
set_option maxHeartbeats 8000000 in
theorem entry_ok (p p' : PS) (s : Bs) (gb gp gn gw : Nat) (rs : List (Nat × List Prs)) (hp : PsOk p rs) (hl : s.length ≤ 1000000) (h13 : p.part = 1 ∨ p.part = 3) (he : entryV p s = some p') :
    ACall Tryz.prog 103 [.ptr 900002 gb 0, dS s] (rdH p gb gp gn gw rs) (900002 :: 900003 :: 900004 :: 900005 :: famS 1 0 p'.needs.length)
      fun ps r => ∃ gp' gn' gw' rs', rs'.map (·.2) = p'.needs ∧ ps = (gb, .box [dI p'.part, .own 900003 gp', .own 900004 gn', .own 900005 gw', dS p'.sum]) :: (gp', .row 83 2 (p'.picks.map cP)) :: (gn', .row 43 1 (famO 1 0 rs')) :: (gw', .row 100 2 (p'.wish.map cP)) :: famP 100 2 mP rs' ∧ r = dB true := by 
  refine acall_of Tryz.func103 rfl rfl Tryz.ntmps103 (rs := [.tmp 4]) (tys := [4]) rfl rfl (by simp) ?_ ?_
  · exact rdH_ok p gb gp gn gw rs _ (by have := entry_len he; have := congrArg List.length hp.en; simp only [List.length_map] at this; omega)
  have C4 := cutPre_spec s pre4 (by omega) (by decide)
  have C2 := cutPre_spec s pre2 (by omega) (by decide)
  obtain ⟨part, P, N, W, sum⟩ := p
  obtain ⟨hrs, hnl, hpl, hwl, hrl⟩ := hp
  simp only at hrs hnl hpl hwl hrl h13
  unfold entryV at he
  simp only at he
  (refine awp_sr fun KK hKK => ?_; simp [go_sem]; ((repeat' (first|(refine ag_x ?_;simp [go_sem])|intro _|refine And.intro ?_ ?_|(apply hKK;clear hKK KK)));all_goals first|refine Hold.mk ?_|omega|with_reducible assumption|(simp only [InR] at *;omega)|skip))
  (refine awp_sr fun KK hKK => ?_; simp [go_sem]; ((repeat' (first|(refine ag_x ?_;simp [go_sem])|intro _|refine And.intro ?_ ?_|(apply hKK;clear hKK KK)));all_goals first|refine Hold.mk ?_|omega|with_reducible assumption|(simp only [InR] at *;omega)|skip))
  refine awp_seq_k fun K1 hK1 => ?_
  (refine awp_sr fun KK hKK => ?_; simp [go_sem]; ((repeat' (first|(refine ag_x ?_;simp [go_sem])|intro _|refine And.intro ?_ ?_|(apply hKK;clear hKK KK)));all_goals first|refine Hold.mk ?_|omega|with_reducible assumption|(simp only [InR] at *;omega)|skip))
  by_cases h4 : pre4.isPrefixOf s = true
  · rw [if_pos h4] at he
    rw [if_pos h4, h4] at C4
    have D1 := named_spec (s.drop pre4.length) (by rw [List.length_drop]; omega)
    cases hn : nmdV (s.drop pre4.length) with
    | none =>
      rw [show s.drop 4 = s.drop pre4.length from rfl, hn] at he
      cases he
    | some x =>
      obtain ⟨n, i, b⟩ := x
      rw [show s.drop 4 = s.drop pre4.length from rfl, hn] at he
      simp only at he
      rw [named_some hn] at D1
      simp only at D1
      generalize s.drop pre4.length = s4 at *
      split at he
      · cases he
      · rename_i h5
        simp only [Option.some.injEq] at he
        subst he
        have h5a : ¬ part = 3 := fun q => h5 (.inl q)
        have h5b : ¬ (part : Int) = 3 := by omega
        have h5c : 0 < P.length := List.length_pos_iff.2 fun q => h5 (.inr q)
        have h5d : ¬ P = [] := fun q => h5 (.inr q)
        obtain ⟨k, hk⟩ : ∃ k, P.length = k + 1 := ⟨P.length - 1, by omega⟩
        have hrl2 := congrArg List.length hrs
        simp only [List.length_map] at hrl2
        obtain ⟨⟨gk, R⟩, hrk⟩ : ∃ x, rs[k]? = some x := ⟨_, List.getElem?_eq_getElem (by omega)⟩
        have hRl := hrl _ (List.mem_of_getElem? hrk)
        simp only at hRl
        have ek : ((k : Int) + 1 - 1).toNat = k := by omega
        have ek2 : (k : Int) + 1 - 1 = k := by omega
        ((try refine CallT.toA ?_); refine callT_m (by first | exact .inl ⟨rfl, rfl⟩ | exact .inr rfl) (by simp [go_sem]) ?_; intro args ha; simp [go_sem] at ha; subst ha; refine ⟨_, C4, ?_⟩; rintro _ rfl; simp [go_sem]; ((repeat' (first|(refine ag_x ?_;simp [go_sem])|intro _|refine And.intro ?_ ?_|(apply hKK;clear hKK KK)));all_goals first|refine Hold.mk ?_|omega|with_reducible assumption|(simp only [InR] at *;omega)|skip))
        (refine awp_sr fun KK hKK => ?_; simp [go_sem]; ((repeat' (first|(refine ag_x ?_;simp [go_sem])|intro _|refine And.intro ?_ ?_|(apply hKK;clear hKK KK)));all_goals first|refine Hold.mk ?_|omega|with_reducible assumption|(simp only [InR] at *;omega)|skip))
        (refine awp_if fun T F hT hF => ?_; simp [go_sem]; refine hT ?_; clear hT hF T F)
        (refine awp_sr fun KK hKK => ?_; simp [go_sem]; ((repeat' (first|(refine ag_x ?_;simp [go_sem])|intro _|refine And.intro ?_ ?_|(apply hKK;clear hKK KK)));all_goals first|refine Hold.mk ?_|omega|with_reducible assumption|(simp only [InR] at *;omega)|skip))
        ((try refine CallT.toA ?_); refine callT_m (by first | exact .inl ⟨rfl, rfl⟩ | exact .inr rfl) (by simp [go_sem]) ?_; intro args ha; simp [go_sem] at ha; subst ha; refine ⟨_, D1, ?_⟩; rintro _ rfl; simp [go_sem]; ((repeat' (first|(refine ag_x ?_;simp [go_sem])|intro _|refine And.intro ?_ ?_|(apply hKK;clear hKK KK)));all_goals first|refine Hold.mk ?_|omega|with_reducible assumption|(simp only [InR] at *;omega)|skip))
        refine awp_seq_k fun K3 hK3 => ?_
        (refine awp_sr fun KK hKK => ?_; simp [go_sem, h5a, h5b, h5d]; ((repeat' (first|(refine ag_x ?_;simp [go_sem, h5a, h5b, h5d])|intro _|refine And.intro ?_ ?_|(apply hKK;clear hKK KK)));all_goals first|refine Hold.mk ?_|omega|with_reducible assumption|(simp only [InR] at *;omega)|skip))
        (refine awp_if fun T F hT hF => ?_; simp [go_sem, h5a, h5b, h5d]; refine hF ?_; clear hT hF T F)
        refine awp_skip ?_
        refine hK3 _ ?_; clear hK3
        refine awp_seq_k fun K5 hK5 => ?_
        have tl5 : ∀ S' g', Cov S' ⟨[(0, .ptr 900002 gb 0)], (900002, (gb, .box [dI part, .own 900003 gp, .own 900004 gn, .own 900005 gw, dS sum])) :: (900003, (gp, .row 83 2 (P.map cP))) :: (900004, (gn, .row 43 1 (famO 1 0 (rs.set k (g', R ++ [(n, i)]))))) :: (900005, (gw, .row 100 2 (W.map cP))) :: fam 1 100 2 mP 0 (rs.set k (g', R ++ [(n, i)]))⟩ → K5 S' := fun S' g' hS => by
          refine hK5 _ ?_; clear hK5
          refine awp_cov hS ?_; clear hS
          (refine awp_sr fun KK hKK => ?_; simp [go_sem]; ((repeat' (first|(refine ag_x ?_;simp [go_sem])|intro _|refine And.intro ?_ ?_|(apply hKK;clear hKK KK)));all_goals first|refine Hold.mk ?_|omega|with_reducible assumption|(simp only [InR] at *;omega)|skip))
          (refine awp_ret ?_; simp [go_sem])
          have hsl : (rs.set k (g', R ++ [(n, i)])).length = N.length := by rw [List.length_set]; omega
          refine postK_fam (b := 1) (e := 100) (k := 2) (f := mP) (rs.set k (g', R ++ [(n, i)])) 0 N.length _ hsl (by simp [go_sem]) ?_
          refine ⟨gp, gn, gw, rs.set k (g', R ++ [(n, i)]), ?_, by simp⟩
          have hNk : N[k]? = some R := by rw [← hrs, List.getElem?_map, hrk]; rfl
          rw [hk, Nat.add_sub_cancel, hNk, List.map_set, hrs]
          rfl
        clear hK5
        ((refine awp_d (.qs [0, 1, 2, 3, 5, 6, 7, 8, 9, 10, 12, 13, 16, 17, 18] (.three 4 (.qs [11, 14, 15] (.kp 19 (.one 20 (.qs [21] (.one 22 (.nil)))))) 11 (.qs [14] (.three 4 (.qs [15] (.kp 19 (.one 20 (.qs [21] (.one 22 (.nil)))))) 15 (.two 4 (.kp 19 (.one 20 (.qs [21] (.one 22 (.nil))))) 19 (.kq 4 (.one 20 (.qs [21] (.one 22 (.nil)))) 20 (.qs [4, 21] (.one 22 (.nil))))) 19 (.qs [15] (.kq 4 (.one 20 (.qs [21] (.one 22 (.nil)))) 20 (.qs [4, 21] (.one 22 (.nil))))))) 19 (.qs [11, 14, 15] (.kq 4 (.one 20 (.qs [21] (.one 22 (.nil)))) 20 (.qs [4, 21] (.one 22 (.nil))))))) (by kernel_rfl) ?_ ?_ ?_ ?_); (kernel_rfl); (exact (by decide +kernel)); (kernel_rfl); intro KK hKK; ((repeat' (first|(refine ag_x ?_;simp [go_sem, hk, hrk, ek, ek2])|refine adr_nil ?_|refine adr_two ?_ ?_|refine adr_kq ?_ ?_|refine adr_three ?_ ?_ ?_|refine adr_four ?_ ?_ ?_ ?_|refine adr_kp2 ?_ ?_|refine adr_kp3 ?_ ?_ ?_|((first|refine adr_qs fun KK hKK=>?_|refine adr_y fun KK hKK=>?_);simp [go_sem, hk, hrk, ek, ek2])|intro _|refine And.intro ?_ ?_|(apply hKK;clear hKK KK)));all_goals first|refine Hold.mk ?_|omega|with_reducible assumption|(simp only [InR] at *;omega)|skip))
        all_goals
          rename_i g'
          refine tl5 _ g' ?_
          have hfo := famO_setg (b := 1) rs k g' (R ++ [(n, i)])
          (refine cov_of ?_ ?_ <;> simp [go_sem, hfo])
          refine FamIn.set (by simp [go_sem]) (by simp)
  · rw [if_neg h4] at he
    have h4' : pre4.isPrefixOf s = false := by
      cases h : pre4.isPrefixOf s with
      | false => rfl
      | true => exact absurd h h4
    rw [if_neg h4, h4'] at C4
    have hrl2 := congrArg List.length hrs
    simp only [List.length_map] at hrl2
    split at he
    · rename_i h2
      rw [if_pos h2, h2] at C2
      have D1 := named_spec (s.drop pre2.length) (by rw [List.length_drop]; omega)
      cases hn : nmdV (s.drop pre2.length) with
      | none =>
        rw [show s.drop 2 = s.drop pre2.length from rfl, hn] at he
        cases he
      | some x =>
        obtain ⟨n, i, b⟩ := x
        rw [show s.drop 2 = s.drop pre2.length from rfl, hn] at he
        simp only at he
        rw [named_some hn] at D1
        simp only at D1
        generalize s.drop pre2.length = s2 at *
        ((try refine CallT.toA ?_); refine callT_m (by first | exact .inl ⟨rfl, rfl⟩ | exact .inr rfl) (by simp [go_sem]) ?_; intro args ha; simp [go_sem] at ha; subst ha; refine ⟨_, C4, ?_⟩; rintro _ rfl; simp [go_sem]; ((repeat' (first|(refine ag_x ?_;simp [go_sem])|refine adr_nil ?_|refine adr_two ?_ ?_|refine adr_kq ?_ ?_|refine adr_three ?_ ?_ ?_|refine adr_four ?_ ?_ ?_ ?_|refine adr_kp2 ?_ ?_|refine adr_kp3 ?_ ?_ ?_|((first|refine adr_qs fun KK hKK=>?_|refine adr_y fun KK hKK=>?_);simp [go_sem])|intro _|refine And.intro ?_ ?_|(apply hKK;clear hKK KK)));all_goals first|refine Hold.mk ?_|omega|with_reducible assumption|(simp only [InR] at *;omega)|skip))
        (refine awp_sr fun KK hKK => ?_; simp [go_sem]; ((repeat' (first|(refine ag_x ?_;simp [go_sem])|intro _|refine And.intro ?_ ?_|(apply hKK;clear hKK KK)));all_goals first|refine Hold.mk ?_|omega|with_reducible assumption|(simp only [InR] at *;omega)|skip))
        (refine awp_if fun T F hT hF => ?_; simp [go_sem]; refine hF ?_; clear hT hF T F)
        refine awp_skip ?_
        refine hK1 _ ?_; clear hK1
        (refine awp_sr fun KK hKK => ?_; simp [go_sem]; ((repeat' (first|(refine ag_x ?_;simp [go_sem])|intro _|refine And.intro ?_ ?_|(apply hKK;clear hKK KK)));all_goals first|refine Hold.mk ?_|omega|with_reducible assumption|(simp only [InR] at *;omega)|skip))
        ((try refine CallT.toA ?_); refine callT_m (by first | exact .inl ⟨rfl, rfl⟩ | exact .inr rfl) (by simp [go_sem]) ?_; intro args ha; simp [go_sem] at ha; subst ha; refine ⟨_, C2, ?_⟩; rintro _ rfl; simp [go_sem]; ((repeat' (first|(refine ag_x ?_;simp [go_sem])|intro _|refine And.intro ?_ ?_|(apply hKK;clear hKK KK)));all_goals first|refine Hold.mk ?_|omega|with_reducible assumption|(simp only [InR] at *;omega)|skip))
        (refine awp_sr fun KK hKK => ?_; simp [go_sem]; ((repeat' (first|(refine ag_x ?_;simp [go_sem])|intro _|refine And.intro ?_ ?_|(apply hKK;clear hKK KK)));all_goals first|refine Hold.mk ?_|omega|with_reducible assumption|(simp only [InR] at *;omega)|skip))
        ((try refine CallT.toA ?_); refine callT_m (by first | exact .inl ⟨rfl, rfl⟩ | exact .inr rfl) (by simp [go_sem]) ?_; intro args ha; simp [go_sem] at ha; subst ha; refine ⟨_, D1, ?_⟩; rintro _ rfl; simp [go_sem]; ((repeat' (first|(refine ag_x ?_;simp [go_sem])|intro _|refine And.intro ?_ ?_|(apply hKK;clear hKK KK)));all_goals first|refine Hold.mk ?_|omega|with_reducible assumption|(simp only [InR] at *;omega)|skip))
        refine awp_seq_k fun K5 hK5 => ?_
        rcases h13 with rfl | rfl
        · cases b with
          | false => simp at he
          | true =>
            simp at he
            subst he
            have tl5 : ∀ S' gp' gn', Cov S' ⟨[(0, .ptr 900002 gb 0)], (900002, (gb, .box [dI 1, .own 900003 gp', .own 900004 gn', .own 900005 gw, dS sum])) :: (900003, (gp', .row 83 2 ((P ++ [(n, i)]).map cP))) :: (900004, (gn', .row 43 1 (famO 1 0 rs ++ [[.v (.slice none 0 0)]]))) :: (900005, (gw, .row 100 2 (W.map cP))) :: fam 1 100 2 mP 0 rs⟩ → K5 S' := fun S' gp' gn' hS => by
              refine hK5 _ ?_; clear hK5
              refine awp_cov hS ?_; clear hS
              refine awp_nilin (go := gn') (eo := 43) (ces := famO 1 0 rs ++ [[.v (.slice none 0 0)]]) (fs 1 rs.length) 900004 rs.length 100 2 (by simp [go_sem]) (fs_nlit (by decide)) (famO_open (m := 1) rs (by decide)) fun g => ?_
              have hfo : famO 1 0 rs ++ [[.own (fs 1 rs.length) g]] = famO 1 0 (rs ++ [(g, ([] : List Prs))]) := by rw [famO_snoc]; simp
              (refine awp_sr fun KK hKK => ?_; simp [go_sem]; ((repeat' (first|(refine ag_x ?_;simp [go_sem])|intro _|refine And.intro ?_ ?_|(apply hKK;clear hKK KK)));all_goals first|refine Hold.mk ?_|omega|with_reducible assumption|(simp only [InR] at *;omega)|skip))
              (refine awp_ret ?_; simp [go_sem])
              rw [hfo]
              have hsl : (rs ++ [(g, ([] : List Prs))]).length = N.length + 1 := by simp; omega
              refine postK_fam (b := 1) (e := 100) (k := 2) (f := mP) (rs ++ [(g, [])]) 0 (N.length + 1) _ hsl (FamIn.lt (FamIn.snoc (by simp [go_sem]) rfl rfl) (by decide)) ?_
              refine ⟨gp', gn', gw, rs ++ [(g, [])], ?_, by simp⟩
              rw [List.map_append, hrs]
              rfl
            clear hK5
            refine awp_block ?_
            (refine awp_sr fun KK hKK => ?_; simp [go_sem]; ((repeat' (first|(refine ag_x ?_;simp [go_sem])|intro _|refine And.intro ?_ ?_|(apply hKK;clear hKK KK)));all_goals first|refine Hold.mk ?_|omega|with_reducible assumption|(simp only [InR] at *;omega)|skip))
            (refine awp_if fun T F hT hF => ?_; simp [go_sem]; refine hF ?_; clear hT hF T F)
            (refine awp_sr fun KK hKK => ?_; simp [go_sem]; ((repeat' (first|(refine ag_x ?_;simp [go_sem])|intro _|refine And.intro ?_ ?_|(apply hKK;clear hKK KK)));all_goals first|refine Hold.mk ?_|omega|with_reducible assumption|(simp only [InR] at *;omega)|skip))
            (refine awp_if fun T F hT hF => ?_; simp [go_sem]; refine hF ?_; clear hT hF T F)
            (refine awp_sr fun KK hKK => ?_; simp [go_sem]; ((repeat' (first|(refine ag_x ?_;simp [go_sem])|intro _|refine And.intro ?_ ?_|(apply hKK;clear hKK KK)));all_goals first|refine Hold.mk ?_|omega|with_reducible assumption|(simp only [InR] at *;omega)|skip))
            (refine awp_r fun KK hKK => ?_; simp [go_sem]; ((repeat' (first|(refine ag_x ?_;simp [go_sem])|intro _|refine And.intro ?_ ?_|(apply hKK;clear hKK KK)));all_goals first|refine Hold.mk ?_|omega|with_reducible assumption|(simp only [InR] at *;omega)|skip))
            rename_i ga gp' gc gn'
            refine tl5 _ gp' gn' ?_
            (refine cov_of ?_ ?_ <;> simp [go_sem])
        · simp at he
          subst he
          have tl5 : ∀ S' gw', Cov S' ⟨[(0, .ptr 900002 gb 0)], (900002, (gb, .box [dI 3, .own 900003 gp, .own 900004 gn, .own 900005 gw', dS sum])) :: (900003, (gp, .row 83 2 (P.map cP))) :: (900004, (gn, .row 43 1 (famO 1 0 rs))) :: (900005, (gw', .row 100 2 ((W ++ [(n, i)]).map cP))) :: fam 1 100 2 mP 0 rs⟩ → K5 S' := fun S' gw' hS => by
            refine hK5 _ ?_; clear hK5
            refine awp_cov hS ?_; clear hS
            (refine awp_sr fun KK hKK => ?_; simp [go_sem]; ((repeat' (first|(refine ag_x ?_;simp [go_sem])|intro _|refine And.intro ?_ ?_|(apply hKK;clear hKK KK)));all_goals first|refine Hold.mk ?_|omega|with_reducible assumption|(simp only [InR] at *;omega)|skip))
            (refine awp_ret ?_; simp [go_sem])
            refine postK_fam (b := 1) (e := 100) (k := 2) (f := mP) rs 0 N.length _ hrl2 (by simp [go_sem]) ?_
            exact ⟨gp, gn, gw', rs, hrs, by simp⟩
          clear hK5
          refine awp_block ?_
          (refine awp_sr fun KK hKK => ?_; simp [go_sem]; ((repeat' (first|(refine ag_false ?_ ?_ ?_;(focus (simp [go_sem, undef];done));(focus (simp [go_sem];done));simp [go_sem])|(refine ag_x ?_;simp [go_sem, undef])|intro _|refine And.intro ?_ ?_|(apply hKK;clear hKK KK)));all_goals first|refine Hold.mk ?_|omega|with_reducible assumption|(simp only [InR] at *;omega)|skip))
          (refine awp_if fun T F hT hF => ?_; simp [go_sem]; refine hF ?_; clear hT hF T F)
          (refine awp_sr fun KK hKK => ?_; simp [go_sem]; ((repeat' (first|(refine ag_x ?_;simp [go_sem])|intro _|refine And.intro ?_ ?_|(apply hKK;clear hKK KK)));all_goals first|refine Hold.mk ?_|omega|with_reducible assumption|(simp only [InR] at *;omega)|skip))
          (refine awp_if fun T F hT hF => ?_; simp [go_sem]; refine hT ?_; clear hT hF T F)
          (refine awp_r fun KK hKK => ?_; simp [go_sem]; ((repeat' (first|(refine ag_x ?_;simp [go_sem])|intro _|refine And.intro ?_ ?_|(apply hKK;clear hKK KK)));all_goals first|refine Hold.mk ?_|omega|with_reducible assumption|(simp only [InR] at *;omega)|skip))
          rename_i ga gw'
          refine tl5 _ gw' ?_
          (refine cov_of ?_ ?_ <;> simp [go_sem])
    · cases he
end Go.Proofs.YtchnagdaljblnaaGreatDoor

namespace Go.Proofs.YtchnagdaljblnaaGreatDoor
open Go.Eng Go.Wh Go.Ver Go.RowKit Go.Lk
set_option maxRecDepth 20000
set_option linter.unusedSimpArgs false
set_option linter.unusedVariables false
attribute [local irreducible] AG CallA CallT AWp PCall ACall AgC
set_option maxHeartbeats 8000000 in
theorem entry_bad (p : PS) (s : Bs) (gb gp gn gw : Nat) (rs : List (Nat × List Prs)) (hp : PsOk p rs) (hl : s.length ≤ 1000000) (h13 : p.part = 1 ∨ p.part = 3) (he : entryV p s = none) :
    ACall Tryz.prog 103 [.ptr 900002 gb 0, dS s] (rdH p gb gp gn gw rs) (900002 :: 900003 :: 900004 :: 900005 :: famS 1 0 p.needs.length)
      fun ps r => ps = (gb, .box [dI p.part, .own 900003 gp, .own 900004 gn, .own 900005 gw, dS p.sum]) :: (gp, .row 83 2 (p.picks.map cP)) :: (gn, .row 43 1 (famO 1 0 rs)) :: (gw, .row 100 2 (p.wish.map cP)) :: famP 100 2 mP rs ∧ r = dB false := by 
  refine acall_of Tryz.func103 rfl rfl Tryz.ntmps103 (rs := [.tmp 4]) (tys := [4]) rfl rfl (by simp) ?_ ?_
  · exact rdH_ok p gb gp gn gw rs _ (by have := congrArg List.length hp.en; simp only [List.length_map] at this; omega)
  have C4 := cutPre_spec s pre4 (by omega) (by decide)
  have C2 := cutPre_spec s pre2 (by omega) (by decide)
  obtain ⟨part, P, N, W, sum⟩ := p
  obtain ⟨hrs, hnl, hpl, hwl, hrl⟩ := hp
  simp only at hrs hnl hpl hwl hrl h13
  have hrl2 := congrArg List.length hrs
  simp only [List.length_map] at hrl2
  unfold entryV at he
  simp only at he
  (refine awp_sr fun KK hKK => ?_; simp [go_sem]; ((repeat' (first|(refine ag_x ?_;simp [go_sem])|intro _|refine And.intro ?_ ?_|(apply hKK;clear hKK KK)));all_goals first|refine Hold.mk ?_|omega|with_reducible assumption|(simp only [InR] at *;omega)|skip))
  (refine awp_sr fun KK hKK => ?_; simp [go_sem]; ((repeat' (first|(refine ag_x ?_;simp [go_sem])|intro _|refine And.intro ?_ ?_|(apply hKK;clear hKK KK)));all_goals first|refine Hold.mk ?_|omega|with_reducible assumption|(simp only [InR] at *;omega)|skip))
  refine awp_seq_k fun K1 hK1 => ?_
  (refine awp_sr fun KK hKK => ?_; simp [go_sem]; ((repeat' (first|(refine ag_x ?_;simp [go_sem])|intro _|refine And.intro ?_ ?_|(apply hKK;clear hKK KK)));all_goals first|refine Hold.mk ?_|omega|with_reducible assumption|(simp only [InR] at *;omega)|skip))
  by_cases h4 : pre4.isPrefixOf s = true
  · rw [if_pos h4] at he
    rw [if_pos h4, h4] at C4
    have D1 := named_spec (s.drop pre4.length) (by rw [List.length_drop]; omega)
    have hnn := @named_none (s.drop pre4.length)
    have hns := fun n i b => @named_some (s.drop pre4.length) n i b
    rw [show s.drop 4 = s.drop pre4.length from rfl] at he
    generalize s.drop pre4.length = s4 at *
    generalize namedP s4 = q at *
    obtain ⟨q1, q2, q3, q4⟩ := q
    simp only at D1 hnn hns
    ((try refine CallT.toA ?_); refine callT_m (by first | exact .inl ⟨rfl, rfl⟩ | exact .inr rfl) (by simp [go_sem]) ?_; intro args ha; simp [go_sem] at ha; subst ha; refine ⟨_, C4, ?_⟩; rintro _ rfl; simp [go_sem]; ((repeat' (first|(refine ag_x ?_;simp [go_sem])|intro _|refine And.intro ?_ ?_|(apply hKK;clear hKK KK)));all_goals first|refine Hold.mk ?_|omega|with_reducible assumption|(simp only [InR] at *;omega)|skip))
    (refine awp_sr fun KK hKK => ?_; simp [go_sem]; ((repeat' (first|(refine ag_x ?_;simp [go_sem])|intro _|refine And.intro ?_ ?_|(apply hKK;clear hKK KK)));all_goals first|refine Hold.mk ?_|omega|with_reducible assumption|(simp only [InR] at *;omega)|skip))
    (refine awp_if fun T F hT hF => ?_; simp [go_sem]; refine hT ?_; clear hT hF T F)
    (refine awp_sr fun KK hKK => ?_; simp [go_sem]; ((repeat' (first|(refine ag_x ?_;simp [go_sem])|intro _|refine And.intro ?_ ?_|(apply hKK;clear hKK KK)));all_goals first|refine Hold.mk ?_|omega|with_reducible assumption|(simp only [InR] at *;omega)|skip))
    ((try refine CallT.toA ?_); refine callT_m (by first | exact .inl ⟨rfl, rfl⟩ | exact .inr rfl) (by simp [go_sem]) ?_; intro args ha; simp [go_sem] at ha; subst ha; refine ⟨_, D1, ?_⟩; rintro _ rfl; simp [go_sem]; ((repeat' (first|(refine ag_x ?_;simp [go_sem])|intro _|refine And.intro ?_ ?_|(apply hKK;clear hKK KK)));all_goals first|refine Hold.mk ?_|omega|with_reducible assumption|(simp only [InR] at *;omega)|skip))
    refine awp_seq_k fun K3 hK3 => ?_
    cases hn : nmdV s4 with
    | none =>
      have := hnn hn
      subst this
      (refine awp_sr fun KK hKK => ?_; simp [go_sem]; ((repeat' (first|(refine ag_false ?_ ?_ ?_;(focus (simp [go_sem, undef];done));(focus (simp [go_sem];done));simp [go_sem])|(refine ag_x ?_;simp [go_sem, undef])|intro _|refine And.intro ?_ ?_|(apply hKK;clear hKK KK)));all_goals first|refine Hold.mk ?_|omega|with_reducible assumption|(simp only [InR] at *;omega)|skip))
      (refine awp_if fun T F hT hF => ?_; simp [go_sem]; refine hT ?_; clear hT hF T F)
      (refine awp_sr fun KK hKK => ?_; simp [go_sem]; ((repeat' (first|(refine ag_x ?_;simp [go_sem])|intro _|refine And.intro ?_ ?_|(apply hKK;clear hKK KK)));all_goals first|refine Hold.mk ?_|omega|with_reducible assumption|(simp only [InR] at *;omega)|skip))
      (refine awp_ret ?_; simp [go_sem])
      exact postK_fam (b := 1) (e := 100) (k := 2) (f := mP) rs 0 N.length _ hrl2 (by simp [go_sem]) (by simp)
    | some x =>
      obtain ⟨n, i, b⟩ := x
      have := hns n i b hn
      simp only [Prod.mk.injEq] at this
      obtain ⟨rfl, rfl, rfl, rfl⟩ := this
      rw [hn] at he
      simp only at he
      split at he
      · rename_i h5
        rcases h13 with rfl | rfl
        · have h5b : P = [] := by
            rcases h5 with h | h
            · cases h
            · exact h
          subst h5b
          (refine awp_sr fun KK hKK => ?_; simp [go_sem]; ((repeat' (first|(refine ag_x ?_;simp [go_sem])|intro _|refine And.intro ?_ ?_|(apply hKK;clear hKK KK)));all_goals first|refine Hold.mk ?_|omega|with_reducible assumption|(simp only [InR] at *;omega)|skip))
          (refine awp_if fun T F hT hF => ?_; simp [go_sem]; refine hT ?_; clear hT hF T F)
          (refine awp_sr fun KK hKK => ?_; simp [go_sem]; ((repeat' (first|(refine ag_x ?_;simp [go_sem])|intro _|refine And.intro ?_ ?_|(apply hKK;clear hKK KK)));all_goals first|refine Hold.mk ?_|omega|with_reducible assumption|(simp only [InR] at *;omega)|skip))
          (refine awp_ret ?_; simp [go_sem])
          exact postK_fam (b := 1) (e := 100) (k := 2) (f := mP) rs 0 N.length _ hrl2 (by simp [go_sem]) (by simp)
        · (refine awp_sr fun KK hKK => ?_; simp [go_sem]; ((repeat' (first|(refine ag_false ?_ ?_ ?_;(focus (simp [go_sem, undef];done));(focus (simp [go_sem];done));simp [go_sem])|(refine ag_x ?_;simp [go_sem, undef])|intro _|refine And.intro ?_ ?_|(apply hKK;clear hKK KK)));all_goals first|refine Hold.mk ?_|omega|with_reducible assumption|(simp only [InR] at *;omega)|skip))
          (refine awp_if fun T F hT hF => ?_; simp [go_sem]; refine hT ?_; clear hT hF T F)
          (refine awp_sr fun KK hKK => ?_; simp [go_sem]; ((repeat' (first|(refine ag_x ?_;simp [go_sem])|intro _|refine And.intro ?_ ?_|(apply hKK;clear hKK KK)));all_goals first|refine Hold.mk ?_|omega|with_reducible assumption|(simp only [InR] at *;omega)|skip))
          (refine awp_ret ?_; simp [go_sem])
          exact postK_fam (b := 1) (e := 100) (k := 2) (f := mP) rs 0 N.length _ hrl2 (by simp [go_sem]) (by simp)
      · cases he
  · rw [if_neg h4] at he
    have h4' : pre4.isPrefixOf s = false := by
      cases h : pre4.isPrefixOf s with
      | false => rfl
      | true => exact absurd h h4
    rw [if_neg h4, h4'] at C4
    by_cases h2 : pre2.isPrefixOf s = true
    · rw [if_pos h2] at he
      rw [if_pos h2, h2] at C2
      have D1 := named_spec (s.drop pre2.length) (by rw [List.length_drop]; omega)
      have hnn := @named_none (s.drop pre2.length)
      have hns := fun n i b => @named_some (s.drop pre2.length) n i b
      rw [show s.drop 2 = s.drop pre2.length from rfl] at he
      generalize s.drop pre2.length = s2 at *
      generalize namedP s2 = q at *
      obtain ⟨q1, q2, q3, q4⟩ := q
      simp only at D1 hnn hns
      ((try refine CallT.toA ?_); refine callT_m (by first | exact .inl ⟨rfl, rfl⟩ | exact .inr rfl) (by simp [go_sem]) ?_; intro args ha; simp [go_sem] at ha; subst ha; refine ⟨_, C4, ?_⟩; rintro _ rfl; simp [go_sem]; ((repeat' (first|(refine ag_x ?_;simp [go_sem])|intro _|refine And.intro ?_ ?_|(apply hKK;clear hKK KK)));all_goals first|refine Hold.mk ?_|omega|with_reducible assumption|(simp only [InR] at *;omega)|skip))
      (refine awp_sr fun KK hKK => ?_; simp [go_sem]; ((repeat' (first|(refine ag_x ?_;simp [go_sem])|intro _|refine And.intro ?_ ?_|(apply hKK;clear hKK KK)));all_goals first|refine Hold.mk ?_|omega|with_reducible assumption|(simp only [InR] at *;omega)|skip))
      (refine awp_if fun T F hT hF => ?_; simp [go_sem]; refine hF ?_; clear hT hF T F)
      refine awp_skip ?_
      refine hK1 _ ?_; clear hK1
      (refine awp_sr fun KK hKK => ?_; simp [go_sem]; ((repeat' (first|(refine ag_x ?_;simp [go_sem])|intro _|refine And.intro ?_ ?_|(apply hKK;clear hKK KK)));all_goals first|refine Hold.mk ?_|omega|with_reducible assumption|(simp only [InR] at *;omega)|skip))
      ((try refine CallT.toA ?_); refine callT_m (by first | exact .inl ⟨rfl, rfl⟩ | exact .inr rfl) (by simp [go_sem]) ?_; intro args ha; simp [go_sem] at ha; subst ha; refine ⟨_, C2, ?_⟩; rintro _ rfl; simp [go_sem]; ((repeat' (first|(refine ag_x ?_;simp [go_sem])|intro _|refine And.intro ?_ ?_|(apply hKK;clear hKK KK)));all_goals first|refine Hold.mk ?_|omega|with_reducible assumption|(simp only [InR] at *;omega)|skip))
      (refine awp_sr fun KK hKK => ?_; simp [go_sem]; ((repeat' (first|(refine ag_x ?_;simp [go_sem])|intro _|refine And.intro ?_ ?_|(apply hKK;clear hKK KK)));all_goals first|refine Hold.mk ?_|omega|with_reducible assumption|(simp only [InR] at *;omega)|skip))
      ((try refine CallT.toA ?_); refine callT_m (by first | exact .inl ⟨rfl, rfl⟩ | exact .inr rfl) (by simp [go_sem]) ?_; intro args ha; simp [go_sem] at ha; subst ha; refine ⟨_, D1, ?_⟩; rintro _ rfl; simp [go_sem]; ((repeat' (first|(refine ag_x ?_;simp [go_sem])|intro _|refine And.intro ?_ ?_|(apply hKK;clear hKK KK)));all_goals first|refine Hold.mk ?_|omega|with_reducible assumption|(simp only [InR] at *;omega)|skip))
      refine awp_seq_k fun K5 hK5 => ?_
      cases hn : nmdV s2 with
      | none =>
        have := hnn hn
        subst this
        refine awp_block ?_
        (refine awp_sr fun KK hKK => ?_; simp [go_sem, undef]; ((repeat' (first|(refine ag_false ?_ ?_ ?_;(focus (simp [go_sem, undef, undef];done));(focus (simp [go_sem];done));simp [go_sem, undef])|(refine ag_x ?_;simp [go_sem, undef, undef])|intro _|refine And.intro ?_ ?_|(apply hKK;clear hKK KK)));all_goals first|refine Hold.mk ?_|omega|with_reducible assumption|(simp only [InR] at *;omega)|skip))
        (refine awp_if fun T F hT hF => ?_; simp [go_sem]; refine hT ?_; clear hT hF T F)
        (refine awp_sr fun KK hKK => ?_; simp [go_sem]; ((repeat' (first|(refine ag_x ?_;simp [go_sem])|intro _|refine And.intro ?_ ?_|(apply hKK;clear hKK KK)));all_goals first|refine Hold.mk ?_|omega|with_reducible assumption|(simp only [InR] at *;omega)|skip))
        (refine awp_ret ?_; simp [go_sem])
        exact postK_fam (b := 1) (e := 100) (k := 2) (f := mP) rs 0 N.length _ hrl2 (by simp [go_sem]) (by simp)
      | some x =>
        obtain ⟨n, i, b⟩ := x
        have := hns n i b hn
        simp only [Prod.mk.injEq] at this
        obtain ⟨rfl, rfl, rfl, rfl⟩ := this
        rw [hn] at he
        rcases h13 with rfl | rfl
        · cases q3 with
          | true => simp at he
          | false =>
            refine awp_block ?_
            (refine awp_sr fun KK hKK => ?_; simp [go_sem]; ((repeat' (first|(refine ag_x ?_;simp [go_sem])|intro _|refine And.intro ?_ ?_|(apply hKK;clear hKK KK)));all_goals first|refine Hold.mk ?_|omega|with_reducible assumption|(simp only [InR] at *;omega)|skip))
            (refine awp_if fun T F hT hF => ?_; simp [go_sem]; refine hT ?_; clear hT hF T F)
            (refine awp_sr fun KK hKK => ?_; simp [go_sem]; ((repeat' (first|(refine ag_x ?_;simp [go_sem])|intro _|refine And.intro ?_ ?_|(apply hKK;clear hKK KK)));all_goals first|refine Hold.mk ?_|omega|with_reducible assumption|(simp only [InR] at *;omega)|skip))
            (refine awp_ret ?_; simp [go_sem])
            exact postK_fam (b := 1) (e := 100) (k := 2) (f := mP) rs 0 N.length _ hrl2 (by simp [go_sem]) (by simp)
        · simp at he
    · have h2' : pre2.isPrefixOf s = false := by
        cases h : pre2.isPrefixOf s with
        | false => rfl
        | true => exact absurd h h2
      rw [if_neg h2, h2'] at C2
      have D1 := named_spec s (by omega)
      generalize namedP s = q at *
      obtain ⟨q1, q2, q3, q4⟩ := q
      ((try refine CallT.toA ?_); refine callT_m (by first | exact .inl ⟨rfl, rfl⟩ | exact .inr rfl) (by simp [go_sem]) ?_; intro args ha; simp [go_sem] at ha; subst ha; refine ⟨_, C4, ?_⟩; rintro _ rfl; simp [go_sem]; ((repeat' (first|(refine ag_x ?_;simp [go_sem])|intro _|refine And.intro ?_ ?_|(apply hKK;clear hKK KK)));all_goals first|refine Hold.mk ?_|omega|with_reducible assumption|(simp only [InR] at *;omega)|skip))
      (refine awp_sr fun KK hKK => ?_; simp [go_sem]; ((repeat' (first|(refine ag_x ?_;simp [go_sem])|intro _|refine And.intro ?_ ?_|(apply hKK;clear hKK KK)));all_goals first|refine Hold.mk ?_|omega|with_reducible assumption|(simp only [InR] at *;omega)|skip))
      (refine awp_if fun T F hT hF => ?_; simp [go_sem]; refine hF ?_; clear hT hF T F)
      refine awp_skip ?_
      refine hK1 _ ?_; clear hK1
      (refine awp_sr fun KK hKK => ?_; simp [go_sem]; ((repeat' (first|(refine ag_x ?_;simp [go_sem])|intro _|refine And.intro ?_ ?_|(apply hKK;clear hKK KK)));all_goals first|refine Hold.mk ?_|omega|with_reducible assumption|(simp only [InR] at *;omega)|skip))
      ((try refine CallT.toA ?_); refine callT_m (by first | exact .inl ⟨rfl, rfl⟩ | exact .inr rfl) (by simp [go_sem]) ?_; intro args ha; simp [go_sem] at ha; subst ha; refine ⟨_, C2, ?_⟩; rintro _ rfl; simp [go_sem]; ((repeat' (first|(refine ag_x ?_;simp [go_sem])|intro _|refine And.intro ?_ ?_|(apply hKK;clear hKK KK)));all_goals first|refine Hold.mk ?_|omega|with_reducible assumption|(simp only [InR] at *;omega)|skip))
      (refine awp_sr fun KK hKK => ?_; simp [go_sem]; ((repeat' (first|(refine ag_x ?_;simp [go_sem])|intro _|refine And.intro ?_ ?_|(apply hKK;clear hKK KK)));all_goals first|refine Hold.mk ?_|omega|with_reducible assumption|(simp only [InR] at *;omega)|skip))
      ((try refine CallT.toA ?_); refine callT_m (by first | exact .inl ⟨rfl, rfl⟩ | exact .inr rfl) (by simp [go_sem]) ?_; intro args ha; simp [go_sem] at ha; subst ha; refine ⟨_, D1, ?_⟩; rintro _ rfl; simp [go_sem]; ((repeat' (first|(refine ag_x ?_;simp [go_sem])|intro _|refine And.intro ?_ ?_|(apply hKK;clear hKK KK)));all_goals first|refine Hold.mk ?_|omega|with_reducible assumption|(simp only [InR] at *;omega)|skip))
      refine awp_seq_k fun K5 hK5 => ?_
      refine awp_block ?_
      (refine awp_sr fun KK hKK => ?_; simp [go_sem, undef]; ((repeat' (first|(refine ag_false ?_ ?_ ?_;(focus (simp [go_sem, undef, undef];done));(focus (simp [go_sem];done));simp [go_sem, undef])|(refine ag_x ?_;simp [go_sem, undef, undef])|intro _|refine And.intro ?_ ?_|(apply hKK;clear hKK KK)));all_goals first|refine Hold.mk ?_|omega|with_reducible assumption|(simp only [InR] at *;omega)|skip))
      (refine awp_if fun T F hT hF => ?_; simp [go_sem]; refine hT ?_; clear hT hF T F)
      (refine awp_sr fun KK hKK => ?_; simp [go_sem]; ((repeat' (first|(refine ag_x ?_;simp [go_sem])|intro _|refine And.intro ?_ ?_|(apply hKK;clear hKK KK)));all_goals first|refine Hold.mk ?_|omega|with_reducible assumption|(simp only [InR] at *;omega)|skip))
      (refine awp_ret ?_; simp [go_sem])
      exact postK_fam (b := 1) (e := 100) (k := 2) (f := mP) rs 0 N.length _ hrl2 (by simp [go_sem]) (by simp)
end Go.Proofs.YtchnagdaljblnaaGreatDoor

namespace Go.Proofs.YtchnagdaljblnaaGreatDoor
open Go.Eng Go.Wh Go.Ver Go.RowKit Go.Lk
set_option maxRecDepth 20000
set_option linter.unusedSimpArgs false
set_option linter.unusedVariables false
attribute [local irreducible] AG CallA CallT AWp PCall ACall AgC
theorem line_len {p p' : PS} {s : Bs} (he : lineV p s = some p') : p.needs.length ≤ p'.needs.length := by
  unfold lineV at he
  split at he
  · split at he
    · simp only [Option.some.injEq] at he; subst he; exact Nat.le_refl _
    · cases he
  · split at he
    · simp only [Option.some.injEq] at he; subst he; exact Nat.le_refl _
    · exact entry_len he
  · split at he
    · simp only [Option.some.injEq] at he; subst he; exact Nat.le_refl _
    · cases he
  · split at he
    · simp only [Option.some.injEq] at he; subst he; exact Nat.le_refl _
    · exact entry_len he
  · split at he
    · simp only [Option.some.injEq] at he; subst he; exact Nat.le_refl _
    · cases he
  · cases he
set_option maxHeartbeats 8000000 in
theorem line1_ok (P W : List Prs) (N : List (List Prs)) (sum : Bs) (p' : PS) (s : Bs) (gb gp gn gw : Nat) (rs : List (Nat × List Prs)) (hp : PsOk ⟨1, P, N, W, sum⟩ rs) (hl : s.length ≤ 1000000) (he : lineV ⟨1, P, N, W, sum⟩ s = some p') :
    ACall Tryz.prog 68 [.ptr 900002 gb 0, dS s] (rdH ⟨1, P, N, W, sum⟩ gb gp gn gw rs) (900002 :: 900003 :: 900004 :: 900005 :: famS 1 0 p'.needs.length)
      fun ps r => ∃ gp' gn' gw' rs', rs'.map (·.2) = p'.needs ∧ ps = (gb, .box [dI p'.part, .own 900003 gp', .own 900004 gn', .own 900005 gw', dS p'.sum]) :: (gp', .row 83 2 (p'.picks.map cP)) :: (gn', .row 43 1 (famO 1 0 rs')) :: (gw', .row 100 2 (p'.wish.map cP)) :: famP 100 2 mP rs' ∧ r = dB true := by 
  refine acall_of Tryz.func68 rfl rfl Tryz.ntmps68 (rs := [.tmp 4]) (tys := [4]) rfl rfl (by simp) ?_ ?_
  · exact rdH_ok _ gb gp gn gw rs _ (by have h1 := line_len he; have h2 := congrArg List.length hp.en; simp only [List.length_map] at h1 h2; omega)
  have hq := hp
  obtain ⟨hrs, hnl, hpl, hwl, hrl⟩ := hp
  simp only at hrs hnl hpl hwl hrl
  have hrl2 := congrArg List.length hrs
  simp only [List.length_map] at hrl2
  simp only [lineV] at he
  (refine awp_sr fun KK hKK => ?_; simp [go_sem]; ((repeat' (first|(refine ag_x ?_;simp [go_sem])|intro _|refine And.intro ?_ ?_|(apply hKK;clear hKK KK)));all_goals first|refine Hold.mk ?_|omega|with_reducible assumption|(simp only [InR] at *;omega)|skip))
  refine awp_seq_k fun K1 hK1 => ?_
  (refine awp_sr fun KK hKK => ?_; simp [go_sem]; ((repeat' (first|(refine ag_x ?_;simp [go_sem])|intro _|refine And.intro ?_ ?_|(apply hKK;clear hKK KK)));all_goals first|refine Hold.mk ?_|omega|with_reducible assumption|(simp only [InR] at *;omega)|skip))
  refine awp_block ?_
  refine awp_seq_k fun K2 hK2 => ?_
  (refine awp_sr fun KK hKK => ?_; simp [go_sem]; ((repeat' (first|(refine ag_x ?_;simp [go_sem])|intro _|refine And.intro ?_ ?_|(apply hKK;clear hKK KK)));all_goals first|refine Hold.mk ?_|omega|with_reducible assumption|(simp only [InR] at *;omega)|skip))
  (refine awp_if fun T F hT hF => ?_; simp [go_sem]; refine hF ?_; clear hT hF T F)
  (refine awp_r fun KK hKK => ?_; simp [go_sem]; ((repeat' (first|(refine ag_x ?_;simp [go_sem])|intro _|refine And.intro ?_ ?_|(apply hKK;clear hKK KK)));all_goals first|refine Hold.mk ?_|omega|with_reducible assumption|(simp only [InR] at *;omega)|skip))
  refine hK2 _ ?_; clear hK2
  (refine awp_if fun T F hT hF => ?_; simp [go_sem]; refine hF ?_; clear hT hF T F)
  refine awp_seq_k fun K4 hK4 => ?_
  (refine awp_sr fun KK hKK => ?_; simp [go_sem]; ((repeat' (first|(refine ag_x ?_;simp [go_sem])|intro _|refine And.intro ?_ ?_|(apply hKK;clear hKK KK)));all_goals first|refine Hold.mk ?_|omega|with_reducible assumption|(simp only [InR] at *;omega)|skip))
  (refine awp_if fun T F hT hF => ?_; simp [go_sem]; refine hT ?_; clear hT hF T F)
  refine awp_skip ?_
  refine hK4 _ ?_; clear hK4
  (refine awp_if fun T F hT hF => ?_; simp [go_sem]; refine hT ?_; clear hT hF T F)
  refine awp_seq_k fun K6 hK6 => ?_
  split at he
  · rename_i h1
    subst h1
    simp only [Option.some.injEq] at he
    subst he
    (refine awp_sr fun KK hKK => ?_; simp [go_sem]; ((repeat' (first|(refine ag_x ?_;simp [go_sem])|intro _|refine And.intro ?_ ?_|(apply hKK;clear hKK KK)));all_goals first|refine Hold.mk ?_|omega|with_reducible assumption|(simp only [InR] at *;omega)|skip))
    (refine awp_if fun T F hT hF => ?_; simp [go_sem]; refine hT ?_; clear hT hF T F)
    (refine awp_sr fun KK hKK => ?_; simp [go_sem]; ((repeat' (first|(refine ag_x ?_;simp [go_sem])|intro _|refine And.intro ?_ ?_|(apply hKK;clear hKK KK)));all_goals first|refine Hold.mk ?_|omega|with_reducible assumption|(simp only [InR] at *;omega)|skip))
    (refine awp_sr fun KK hKK => ?_; simp [go_sem]; ((repeat' (first|(refine ag_x ?_;simp [go_sem])|intro _|refine And.intro ?_ ?_|(apply hKK;clear hKK KK)));all_goals first|refine Hold.mk ?_|omega|with_reducible assumption|(simp only [InR] at *;omega)|skip))
    (refine awp_ret ?_; simp [go_sem])
    refine postK_fam (b := 1) (e := 100) (k := 2) (f := mP) rs 0 N.length _ hrl2 (by simp [go_sem]) ?_
    exact ⟨gp, gn, gw, rs, hrs, by simp⟩
  · rename_i h1
    have h1' : s.isEmpty = false := by cases s with
      | nil => exact absurd rfl h1
      | cons => rfl
    (refine awp_sr fun KK hKK => ?_; simp [go_sem]; ((repeat' (first|(refine ag_x ?_;simp [go_sem])|intro _|refine And.intro ?_ ?_|(apply hKK;clear hKK KK)));all_goals first|refine Hold.mk ?_|omega|with_reducible assumption|(simp only [InR] at *;omega)|skip))
    (refine awp_if fun T F hT hF => ?_; simp [go_sem, h1, h1']; refine hF ?_; clear hT hF T F)
    refine awp_skip ?_
    refine hK6 _ ?_; clear hK6
    (refine awp_sr fun KK hKK => ?_; simp [go_sem]; ((repeat' (first|(refine ag_x ?_;simp [go_sem])|intro _|refine And.intro ?_ ?_|(apply hKK;clear hKK KK)));all_goals first|refine Hold.mk ?_|omega|with_reducible assumption|(simp only [InR] at *;omega)|skip))
    (refine callA_l (900002 :: 900003 :: 900004 :: 900005 :: famS 1 0 p'.needs.length) (by first | exact .inl ⟨rfl, rfl⟩ | exact .inr rfl) (by simp [go_sem]) ?_; intro args ha; simp [go_sem] at ha; subst ha; refine ⟨_, _, (entry_ok _ _ s gb gp gn gw rs hq hl (.inl rfl) he), (by simp [go_sem]), ?_⟩; rintro ps r hps ⟨gp', gn', gw', rs', hrs', rfl, rfl⟩; simp [go_sem]; ((repeat' (first|(refine ag_x ?_;simp [go_sem])|intro _|refine And.intro ?_ ?_|(apply hKK;clear hKK KK)));all_goals first|refine Hold.mk ?_|omega|with_reducible assumption|(simp only [InR] at *;omega)|skip))
    have hsl := congrArg List.length hrs'
    simp only [List.length_map] at hsl
    rw [putPs_fam (b := 1) (e := 100) (k := 2) (f := mP) rs' 0 _ hsl]
    (refine awp_ret ?_; simp [go_sem])
    refine postK_fam (b := 1) (e := 100) (k := 2) (f := mP) rs' 0 _ _ hsl (by simp [go_sem]; exact FamIn.app _ _) ?_
    exact ⟨gp', gn', gw', rs', hrs', by simp⟩
set_option maxHeartbeats 8000000 in
theorem line3_ok (P W : List Prs) (N : List (List Prs)) (sum : Bs) (p' : PS) (s : Bs) (gb gp gn gw : Nat) (rs : List (Nat × List Prs)) (hp : PsOk ⟨3, P, N, W, sum⟩ rs) (hl : s.length ≤ 1000000) (he : lineV ⟨3, P, N, W, sum⟩ s = some p') :
    ACall Tryz.prog 68 [.ptr 900002 gb 0, dS s] (rdH ⟨3, P, N, W, sum⟩ gb gp gn gw rs) (900002 :: 900003 :: 900004 :: 900005 :: famS 1 0 p'.needs.length)
      fun ps r => ∃ gp' gn' gw' rs', rs'.map (·.2) = p'.needs ∧ ps = (gb, .box [dI p'.part, .own 900003 gp', .own 900004 gn', .own 900005 gw', dS p'.sum]) :: (gp', .row 83 2 (p'.picks.map cP)) :: (gn', .row 43 1 (famO 1 0 rs')) :: (gw', .row 100 2 (p'.wish.map cP)) :: famP 100 2 mP rs' ∧ r = dB true := by 
  refine acall_of Tryz.func68 rfl rfl Tryz.ntmps68 (rs := [.tmp 4]) (tys := [4]) rfl rfl (by simp) ?_ ?_
  · exact rdH_ok _ gb gp gn gw rs _ (by have h1 := line_len he; have h2 := congrArg List.length hp.en; simp only [List.length_map] at h1 h2; omega)
  have hq := hp
  obtain ⟨hrs, hnl, hpl, hwl, hrl⟩ := hp
  simp only at hrs hnl hpl hwl hrl
  have hrl2 := congrArg List.length hrs
  simp only [List.length_map] at hrl2
  simp only [lineV] at he
  (refine awp_sr fun KK hKK => ?_; simp [go_sem]; ((repeat' (first|(refine ag_x ?_;simp [go_sem])|intro _|refine And.intro ?_ ?_|(apply hKK;clear hKK KK)));all_goals first|refine Hold.mk ?_|omega|with_reducible assumption|(simp only [InR] at *;omega)|skip))
  refine awp_seq_k fun K1 hK1 => ?_
  (refine awp_sr fun KK hKK => ?_; simp [go_sem]; ((repeat' (first|(refine ag_x ?_;simp [go_sem])|intro _|refine And.intro ?_ ?_|(apply hKK;clear hKK KK)));all_goals first|refine Hold.mk ?_|omega|with_reducible assumption|(simp only [InR] at *;omega)|skip))
  refine awp_block ?_
  refine awp_seq_k fun K2 hK2 => ?_
  (refine awp_sr fun KK hKK => ?_; simp [go_sem]; ((repeat' (first|(refine ag_x ?_;simp [go_sem])|intro _|refine And.intro ?_ ?_|(apply hKK;clear hKK KK)));all_goals first|refine Hold.mk ?_|omega|with_reducible assumption|(simp only [InR] at *;omega)|skip))
  (refine awp_if fun T F hT hF => ?_; simp [go_sem]; refine hF ?_; clear hT hF T F)
  (refine awp_r fun KK hKK => ?_; simp [go_sem]; ((repeat' (first|(refine ag_x ?_;simp [go_sem])|intro _|refine And.intro ?_ ?_|(apply hKK;clear hKK KK)));all_goals first|refine Hold.mk ?_|omega|with_reducible assumption|(simp only [InR] at *;omega)|skip))
  refine hK2 _ ?_; clear hK2
  (refine awp_if fun T F hT hF => ?_; simp [go_sem]; refine hF ?_; clear hT hF T F)
  refine awp_seq_k fun K4 hK4 => ?_
  (refine awp_sr fun KK hKK => ?_; simp [go_sem]; ((repeat' (first|(refine ag_x ?_;simp [go_sem])|intro _|refine And.intro ?_ ?_|(apply hKK;clear hKK KK)));all_goals first|refine Hold.mk ?_|omega|with_reducible assumption|(simp only [InR] at *;omega)|skip))
  (refine awp_if fun T F hT hF => ?_; simp [go_sem]; refine hF ?_; clear hT hF T F)
  (refine awp_r fun KK hKK => ?_; simp [go_sem]; ((repeat' (first|(refine ag_x ?_;simp [go_sem])|intro _|refine And.intro ?_ ?_|(apply hKK;clear hKK KK)));all_goals first|refine Hold.mk ?_|omega|with_reducible assumption|(simp only [InR] at *;omega)|skip))
  refine hK4 _ ?_; clear hK4
  (refine awp_if fun T F hT hF => ?_; simp [go_sem]; refine hT ?_; clear hT hF T F)
  refine awp_seq_k fun K6 hK6 => ?_
  split at he
  · rename_i h1
    subst h1
    simp only [Option.some.injEq] at he
    subst he
    (refine awp_sr fun KK hKK => ?_; simp [go_sem]; ((repeat' (first|(refine ag_x ?_;simp [go_sem])|intro _|refine And.intro ?_ ?_|(apply hKK;clear hKK KK)));all_goals first|refine Hold.mk ?_|omega|with_reducible assumption|(simp only [InR] at *;omega)|skip))
    (refine awp_if fun T F hT hF => ?_; simp [go_sem]; refine hT ?_; clear hT hF T F)
    (refine awp_sr fun KK hKK => ?_; simp [go_sem]; ((repeat' (first|(refine ag_x ?_;simp [go_sem])|intro _|refine And.intro ?_ ?_|(apply hKK;clear hKK KK)));all_goals first|refine Hold.mk ?_|omega|with_reducible assumption|(simp only [InR] at *;omega)|skip))
    (refine awp_sr fun KK hKK => ?_; simp [go_sem]; ((repeat' (first|(refine ag_x ?_;simp [go_sem])|intro _|refine And.intro ?_ ?_|(apply hKK;clear hKK KK)));all_goals first|refine Hold.mk ?_|omega|with_reducible assumption|(simp only [InR] at *;omega)|skip))
    (refine awp_ret ?_; simp [go_sem])
    refine postK_fam (b := 1) (e := 100) (k := 2) (f := mP) rs 0 N.length _ hrl2 (by simp [go_sem]) ?_
    exact ⟨gp, gn, gw, rs, hrs, by simp⟩
  · rename_i h1
    have h1' : s.isEmpty = false := by cases s with
      | nil => exact absurd rfl h1
      | cons => rfl
    (refine awp_sr fun KK hKK => ?_; simp [go_sem]; ((repeat' (first|(refine ag_x ?_;simp [go_sem])|intro _|refine And.intro ?_ ?_|(apply hKK;clear hKK KK)));all_goals first|refine Hold.mk ?_|omega|with_reducible assumption|(simp only [InR] at *;omega)|skip))
    (refine awp_if fun T F hT hF => ?_; simp [go_sem, h1, h1']; refine hF ?_; clear hT hF T F)
    refine awp_skip ?_
    refine hK6 _ ?_; clear hK6
    (refine awp_sr fun KK hKK => ?_; simp [go_sem]; ((repeat' (first|(refine ag_x ?_;simp [go_sem])|intro _|refine And.intro ?_ ?_|(apply hKK;clear hKK KK)));all_goals first|refine Hold.mk ?_|omega|with_reducible assumption|(simp only [InR] at *;omega)|skip))
    (refine callA_l (900002 :: 900003 :: 900004 :: 900005 :: famS 1 0 p'.needs.length) (by first | exact .inl ⟨rfl, rfl⟩ | exact .inr rfl) (by simp [go_sem]) ?_; intro args ha; simp [go_sem] at ha; subst ha; refine ⟨_, _, (entry_ok _ _ s gb gp gn gw rs hq hl (.inr rfl) he), (by simp [go_sem]), ?_⟩; rintro ps r hps ⟨gp', gn', gw', rs', hrs', rfl, rfl⟩; simp [go_sem]; ((repeat' (first|(refine ag_x ?_;simp [go_sem])|intro _|refine And.intro ?_ ?_|(apply hKK;clear hKK KK)));all_goals first|refine Hold.mk ?_|omega|with_reducible assumption|(simp only [InR] at *;omega)|skip))
    have hsl := congrArg List.length hrs'
    simp only [List.length_map] at hsl
    rw [putPs_fam (b := 1) (e := 100) (k := 2) (f := mP) rs' 0 _ hsl]
    (refine awp_ret ?_; simp [go_sem])
    refine postK_fam (b := 1) (e := 100) (k := 2) (f := mP) rs' 0 _ _ hsl (by simp [go_sem]; exact FamIn.app _ _) ?_
    exact ⟨gp', gn', gw', rs', hrs', by simp⟩
end Go.Proofs.YtchnagdaljblnaaGreatDoor

namespace Go.Proofs.YtchnagdaljblnaaGreatDoor
open Go.Eng Go.Wh Go.Ver Go.RowKit Go.Lk
set_option maxRecDepth 20000
set_option linter.unusedSimpArgs false
set_option linter.unusedVariables false
attribute [local irreducible] AG CallA CallT AWp PCall ACall AgC
set_option maxHeartbeats 8000000 in
theorem line0_ok (P W : List Prs) (N : List (List Prs)) (sum : Bs) (p' : PS) (s : Bs) (gb gp gn gw : Nat) (rs : List (Nat × List Prs)) (hp : PsOk ⟨0, P, N, W, sum⟩ rs) (hl : s.length ≤ 1000000) (he : lineV ⟨0, P, N, W, sum⟩ s = some p') :
    ACall Tryz.prog 68 [.ptr 900002 gb 0, dS s] (rdH ⟨0, P, N, W, sum⟩ gb gp gn gw rs) (900002 :: 900003 :: 900004 :: 900005 :: famS 1 0 p'.needs.length)
      fun ps r => ∃ gp' gn' gw' rs', rs'.map (·.2) = p'.needs ∧ ps = (gb, .box [dI p'.part, .own 900003 gp', .own 900004 gn', .own 900005 gw', dS p'.sum]) :: (gp', .row 83 2 (p'.picks.map cP)) :: (gn', .row 43 1 (famO 1 0 rs')) :: (gw', .row 100 2 (p'.wish.map cP)) :: famP 100 2 mP rs' ∧ r = dB true := by 
  refine acall_of Tryz.func68 rfl rfl Tryz.ntmps68 (rs := [.tmp 4]) (tys := [4]) rfl rfl (by simp) ?_ ?_
  · exact rdH_ok _ gb gp gn gw rs _ (by have h1 := line_len he; have h2 := congrArg List.length hp.en; simp only [List.length_map] at h1 h2; omega)
  have hq := hp
  obtain ⟨hrs, hnl, hpl, hwl, hrl⟩ := hp
  simp only at hrs hnl hpl hwl hrl
  have hrl2 := congrArg List.length hrs
  simp only [List.length_map] at hrl2
  simp only [lineV] at he
  split at he
  · rename_i h1
    simp only [Option.some.injEq] at he
    subst he
    have h1' : (s.toArray == gemsT.toArray) = true := by rw [h1]; rfl
    focus
      (refine awp_sr fun KK hKK => ?_; simp [go_sem]; ((repeat' (first|(refine ag_x ?_;simp [go_sem])|intro _|refine And.intro ?_ ?_|(apply hKK;clear hKK KK)));all_goals first|refine Hold.mk ?_|omega|with_reducible assumption|(simp only [InR] at *;omega)|skip))
      refine awp_seq_k fun K1 hK1 => ?_
      (refine awp_sr fun KK hKK => ?_; simp [go_sem]; ((repeat' (first|(refine ag_x ?_;simp [go_sem])|intro _|refine And.intro ?_ ?_|(apply hKK;clear hKK KK)));all_goals first|refine Hold.mk ?_|omega|with_reducible assumption|(simp only [InR] at *;omega)|skip))
      refine awp_block ?_
      refine awp_seq_k fun K2 hK2 => ?_
      (refine awp_sr fun KK hKK => ?_; simp [go_sem]; ((repeat' (first|(refine ag_x ?_;simp [go_sem])|intro _|refine And.intro ?_ ?_|(apply hKK;clear hKK KK)));all_goals first|refine Hold.mk ?_|omega|with_reducible assumption|(simp only [InR] at *;omega)|skip))
      (refine awp_if fun T F hT hF => ?_; simp [go_sem]; refine hT ?_; clear hT hF T F)
      refine awp_skip ?_
      refine hK2 _ ?_; clear hK2
      (refine awp_if fun T F hT hF => ?_; simp [go_sem]; refine hT ?_; clear hT hF T F)
      (refine awp_sr fun KK hKK => ?_; simp [go_sem]; ((repeat' (first|(refine ag_x ?_;simp [go_sem])|intro _|refine And.intro ?_ ?_|(apply hKK;clear hKK KK)));all_goals first|refine Hold.mk ?_|omega|with_reducible assumption|(simp only [InR] at *;omega)|skip))
      refine awp_cov (S' := ⟨[(0, .ptr 900002 gb 0), (1, dS s)], rdH ⟨1, P, N, W, sum⟩ gb gp gn gw rs⟩) (by (refine cov_of ?_ ?_ <;> simp [go_sem])) ?_
      refine awp_sr fun KK hKK => ?_
      simp (maxSteps := 2000000) [go_sem]
      ((repeat' (first|(refine ag_x ?_;simp [go_sem])|refine adr_nil ?_|refine adr_two ?_ ?_|refine adr_kq ?_ ?_|refine adr_three ?_ ?_ ?_|refine adr_four ?_ ?_ ?_ ?_|refine adr_kp2 ?_ ?_|refine adr_kp3 ?_ ?_ ?_|((first|refine adr_qs fun KK hKK=>?_|refine adr_y fun KK hKK=>?_);simp [go_sem])|intro _|refine And.intro ?_ ?_|(apply hKK;clear hKK KK)));all_goals first|refine Hold.mk ?_|omega|with_reducible assumption|(simp only [InR] at *;omega)|skip)
      (refine awp_ret ?_; simp [go_sem, h1, gemsT])
      refine postK_fam (b := 1) (e := 100) (k := 2) (f := mP) rs 0 N.length _ hrl2 (by simp [go_sem]) ?_
      exact ⟨gp, gn, gw, rs, hrs, by simp⟩
  · cases he
end Go.Proofs.YtchnagdaljblnaaGreatDoor

namespace Go.Proofs.YtchnagdaljblnaaGreatDoor
open Go.Eng Go.Wh Go.Ver Go.RowKit Go.Lk
set_option maxRecDepth 20000
set_option linter.unusedSimpArgs false
set_option linter.unusedVariables false
attribute [local irreducible] AG CallA CallT AWp PCall ACall AgC
set_option maxHeartbeats 8000000 in
theorem line2_ok (P W : List Prs) (N : List (List Prs)) (sum : Bs) (p' : PS) (s : Bs) (gb gp gn gw : Nat) (rs : List (Nat × List Prs)) (hp : PsOk ⟨2, P, N, W, sum⟩ rs) (hl : s.length ≤ 1000000) (he : lineV ⟨2, P, N, W, sum⟩ s = some p') :
    ACall Tryz.prog 68 [.ptr 900002 gb 0, dS s] (rdH ⟨2, P, N, W, sum⟩ gb gp gn gw rs) (900002 :: 900003 :: 900004 :: 900005 :: famS 1 0 p'.needs.length)
      fun ps r => ∃ gp' gn' gw' rs', rs'.map (·.2) = p'.needs ∧ ps = (gb, .box [dI p'.part, .own 900003 gp', .own 900004 gn', .own 900005 gw', dS p'.sum]) :: (gp', .row 83 2 (p'.picks.map cP)) :: (gn', .row 43 1 (famO 1 0 rs')) :: (gw', .row 100 2 (p'.wish.map cP)) :: famP 100 2 mP rs' ∧ r = dB true := by 
  refine acall_of Tryz.func68 rfl rfl Tryz.ntmps68 (rs := [.tmp 4]) (tys := [4]) rfl rfl (by simp) ?_ ?_
  · exact rdH_ok _ gb gp gn gw rs _ (by have h1 := line_len he; have h2 := congrArg List.length hp.en; simp only [List.length_map] at h1 h2; omega)
  have hq := hp
  obtain ⟨hrs, hnl, hpl, hwl, hrl⟩ := hp
  simp only at hrs hnl hpl hwl hrl
  have hrl2 := congrArg List.length hrs
  simp only [List.length_map] at hrl2
  simp only [lineV] at he
  split at he
  · rename_i h1
    simp only [Option.some.injEq] at he
    subst he
    have h1' : (s.toArray == wishT.toArray) = true := by rw [h1]; rfl
    focus
      (refine awp_sr fun KK hKK => ?_; simp [go_sem]; ((repeat' (first|(refine ag_x ?_;simp [go_sem])|intro _|refine And.intro ?_ ?_|(apply hKK;clear hKK KK)));all_goals first|refine Hold.mk ?_|omega|with_reducible assumption|(simp only [InR] at *;omega)|skip))
      refine awp_seq_k fun K1 hK1 => ?_
      (refine awp_sr fun KK hKK => ?_; simp [go_sem]; ((repeat' (first|(refine ag_x ?_;simp [go_sem])|intro _|refine And.intro ?_ ?_|(apply hKK;clear hKK KK)));all_goals first|refine Hold.mk ?_|omega|with_reducible assumption|(simp only [InR] at *;omega)|skip))
      refine awp_block ?_
      refine awp_seq_k fun K2 hK2 => ?_
      (refine awp_sr fun KK hKK => ?_; simp [go_sem]; ((repeat' (first|(refine ag_x ?_;simp [go_sem])|intro _|refine And.intro ?_ ?_|(apply hKK;clear hKK KK)));all_goals first|refine Hold.mk ?_|omega|with_reducible assumption|(simp only [InR] at *;omega)|skip))
      (refine awp_if fun T F hT hF => ?_; simp [go_sem]; refine hF ?_; clear hT hF T F)
      (refine awp_r fun KK hKK => ?_; simp [go_sem]; ((repeat' (first|(refine ag_x ?_;simp [go_sem])|intro _|refine And.intro ?_ ?_|(apply hKK;clear hKK KK)));all_goals first|refine Hold.mk ?_|omega|with_reducible assumption|(simp only [InR] at *;omega)|skip))
      refine hK2 _ ?_; clear hK2
      (refine awp_if fun T F hT hF => ?_; simp [go_sem]; refine hT ?_; clear hT hF T F)
      (refine awp_sr fun KK hKK => ?_; simp [go_sem]; ((repeat' (first|(refine ag_x ?_;simp [go_sem])|intro _|refine And.intro ?_ ?_|(apply hKK;clear hKK KK)));all_goals first|refine Hold.mk ?_|omega|with_reducible assumption|(simp only [InR] at *;omega)|skip))
      refine awp_cov (S' := ⟨[(0, .ptr 900002 gb 0), (1, dS s)], rdH ⟨3, P, N, W, sum⟩ gb gp gn gw rs⟩) (by (refine cov_of ?_ ?_ <;> simp [go_sem])) ?_
      refine awp_sr fun KK hKK => ?_
      simp (maxSteps := 2000000) [go_sem]
      ((repeat' (first|(refine ag_x ?_;simp [go_sem])|refine adr_nil ?_|refine adr_two ?_ ?_|refine adr_kq ?_ ?_|refine adr_three ?_ ?_ ?_|refine adr_four ?_ ?_ ?_ ?_|refine adr_kp2 ?_ ?_|refine adr_kp3 ?_ ?_ ?_|((first|refine adr_qs fun KK hKK=>?_|refine adr_y fun KK hKK=>?_);simp [go_sem])|intro _|refine And.intro ?_ ?_|(apply hKK;clear hKK KK)));all_goals first|refine Hold.mk ?_|omega|with_reducible assumption|(simp only [InR] at *;omega)|skip)
      (refine awp_ret ?_; simp [go_sem, h1, wishT])
      refine postK_fam (b := 1) (e := 100) (k := 2) (f := mP) rs 0 N.length _ hrl2 (by simp [go_sem]) ?_
      exact ⟨gp, gn, gw, rs, hrs, by simp⟩
  · cases he
end Go.Proofs.YtchnagdaljblnaaGreatDoor

namespace Go.Proofs.YtchnagdaljblnaaGreatDoor
open Go.Eng Go.Wh Go.Ver Go.RowKit Go.Lk
set_option maxRecDepth 20000
set_option linter.unusedSimpArgs false
set_option linter.unusedVariables false
attribute [local irreducible] AG CallA CallT AWp PCall ACall AgC
set_option maxHeartbeats 8000000 in
theorem line4_ok (P W : List Prs) (N : List (List Prs)) (sum : Bs) (p' : PS) (s : Bs) (gb gp gn gw : Nat) (rs : List (Nat × List Prs)) (hp : PsOk ⟨4, P, N, W, sum⟩ rs) (hl : s.length ≤ 1000000) (he : lineV ⟨4, P, N, W, sum⟩ s = some p') :
    ACall Tryz.prog 68 [.ptr 900002 gb 0, dS s] (rdH ⟨4, P, N, W, sum⟩ gb gp gn gw rs) (900002 :: 900003 :: 900004 :: 900005 :: famS 1 0 p'.needs.length)
      fun ps r => ∃ gp' gn' gw' rs', rs'.map (·.2) = p'.needs ∧ ps = (gb, .box [dI p'.part, .own 900003 gp', .own 900004 gn', .own 900005 gw', dS p'.sum]) :: (gp', .row 83 2 (p'.picks.map cP)) :: (gn', .row 43 1 (famO 1 0 rs')) :: (gw', .row 100 2 (p'.wish.map cP)) :: famP 100 2 mP rs' ∧ r = dB true := by 
  refine acall_of Tryz.func68 rfl rfl Tryz.ntmps68 (rs := [.tmp 4]) (tys := [4]) rfl rfl (by simp) ?_ ?_
  · exact rdH_ok _ gb gp gn gw rs _ (by have h1 := line_len he; have h2 := congrArg List.length hp.en; simp only [List.length_map] at h1 h2; omega)
  have hq := hp
  obtain ⟨hrs, hnl, hpl, hwl, hrl⟩ := hp
  simp only at hrs hnl hpl hwl hrl
  have hrl2 := congrArg List.length hrs
  simp only [List.length_map] at hrl2
  simp only [lineV] at he
  have CP := cutPre_spec s preSum (by omega) (by decide)
  split at he
  · rename_i h1
    obtain ⟨h1, h2⟩ := h1
    rw [if_pos h1, h1] at CP
    simp only [Option.some.injEq] at he
    subst he
    have hn : s.drop preSum.length = s.drop 4 := rfl
    rw [hn] at CP
    have hlen : (s.drop 4).length ≤ s.length := by rw [List.length_drop]; omega
    generalize s.drop 4 = d at *
    have ND := notDigit_spec d
    unfold digV at h2
    simp only [Bool.and_eq_true, decide_eq_true_eq, Bool.or_eq_true] at h2
    obtain ⟨⟨h2a, h2b⟩, h2c⟩ := h2
    rw [h2b] at ND
    obtain ⟨c, r, rfl⟩ : ∃ c r, d = c :: r := by
      cases d with
      | nil => exact absurd rfl h2a
      | cons c r => exact ⟨c, r, rfl⟩
    (refine awp_sr fun KK hKK => ?_; simp [go_sem]; ((repeat' (first|(refine ag_x ?_;simp [go_sem])|intro _|refine And.intro ?_ ?_|(apply hKK;clear hKK KK)));all_goals first|refine Hold.mk ?_|omega|with_reducible assumption|(simp only [InR] at *;omega)|skip))
    refine awp_seq_k fun K1 hK1 => ?_
    (refine awp_sr fun KK hKK => ?_; simp [go_sem]; ((repeat' (first|(refine ag_x ?_;simp [go_sem])|intro _|refine And.intro ?_ ?_|(apply hKK;clear hKK KK)));all_goals first|refine Hold.mk ?_|omega|with_reducible assumption|(simp only [InR] at *;omega)|skip))
    refine awp_block ?_
    refine awp_seq_k fun K2 hK2 => ?_
    (refine awp_sr fun KK hKK => ?_; simp [go_sem]; ((repeat' (first|(refine ag_x ?_;simp [go_sem])|intro _|refine And.intro ?_ ?_|(apply hKK;clear hKK KK)));all_goals first|refine Hold.mk ?_|omega|with_reducible assumption|(simp only [InR] at *;omega)|skip))
    (refine awp_if fun T F hT hF => ?_; simp [go_sem]; refine hF ?_; clear hT hF T F)
    (refine awp_r fun KK hKK => ?_; simp [go_sem]; ((repeat' (first|(refine ag_x ?_;simp [go_sem])|intro _|refine And.intro ?_ ?_|(apply hKK;clear hKK KK)));all_goals first|refine Hold.mk ?_|omega|with_reducible assumption|(simp only [InR] at *;omega)|skip))
    refine hK2 _ ?_; clear hK2
    (refine awp_if fun T F hT hF => ?_; simp [go_sem]; refine hF ?_; clear hT hF T F)
    refine awp_seq_k fun K4 hK4 => ?_
    (refine awp_sr fun KK hKK => ?_; simp [go_sem]; ((repeat' (first|(refine ag_x ?_;simp [go_sem])|intro _|refine And.intro ?_ ?_|(apply hKK;clear hKK KK)));all_goals first|refine Hold.mk ?_|omega|with_reducible assumption|(simp only [InR] at *;omega)|skip))
    (refine awp_if fun T F hT hF => ?_; simp [go_sem]; refine hF ?_; clear hT hF T F)
    (refine awp_r fun KK hKK => ?_; simp [go_sem]; ((repeat' (first|(refine ag_x ?_;simp [go_sem])|intro _|refine And.intro ?_ ?_|(apply hKK;clear hKK KK)));all_goals first|refine Hold.mk ?_|omega|with_reducible assumption|(simp only [InR] at *;omega)|skip))
    refine hK4 _ ?_; clear hK4
    (refine awp_if fun T F hT hF => ?_; simp [go_sem]; refine hF ?_; clear hT hF T F)
    (refine awp_sr fun KK hKK => ?_; simp [go_sem]; ((repeat' (first|(refine ag_x ?_;simp [go_sem])|intro _|refine And.intro ?_ ?_|(apply hKK;clear hKK KK)));all_goals first|refine Hold.mk ?_|omega|with_reducible assumption|(simp only [InR] at *;omega)|skip))
    (refine awp_if fun T F hT hF => ?_; simp [go_sem]; refine hT ?_; clear hT hF T F)
    (refine awp_sr fun KK hKK => ?_; simp [go_sem]; ((repeat' (first|(refine ag_x ?_;simp [go_sem])|intro _|refine And.intro ?_ ?_|(apply hKK;clear hKK KK)));all_goals first|refine Hold.mk ?_|omega|with_reducible assumption|(simp only [InR] at *;omega)|skip))
    (refine awp_sr fun KK hKK => ?_; simp [go_sem]; ((repeat' (first|(refine ag_x ?_;simp [go_sem])|intro _|refine And.intro ?_ ?_|(apply hKK;clear hKK KK)));all_goals first|refine Hold.mk ?_|omega|with_reducible assumption|(simp only [InR] at *;omega)|skip))
    ((try refine CallT.toA ?_); refine callT_m (by first | exact .inl ⟨rfl, rfl⟩ | exact .inr rfl) (by simp [go_sem]) ?_; intro args ha; simp [go_sem] at ha; subst ha; refine ⟨_, CP, ?_⟩; rintro _ rfl; simp [go_sem]; ((repeat' (first|(refine ag_x ?_;simp [go_sem])|intro _|refine And.intro ?_ ?_|(apply hKK;clear hKK KK)));all_goals first|refine Hold.mk ?_|omega|with_reducible assumption|(simp only [InR] at *;omega)|skip))
    (refine awp_sr fun KK hKK => ?_; simp [go_sem]; ((repeat' (first|(refine ag_x ?_;simp [go_sem])|intro _|refine And.intro ?_ ?_|(apply hKK;clear hKK KK)));all_goals first|refine Hold.mk ?_|omega|with_reducible assumption|(simp only [InR] at *;omega)|skip))
    (refine awp_sr fun KK hKK => ?_; simp [go_sem]; ((repeat' (first|(refine ag_x ?_;simp [go_sem])|intro _|refine And.intro ?_ ?_|(apply hKK;clear hKK KK)));all_goals first|refine Hold.mk ?_|omega|with_reducible assumption|(simp only [InR] at *;omega)|skip))
    (refine agc_f (dB (!true)) (by first | exact .inl ⟨rfl, rfl⟩ | exact .inr rfl) ?_ rfl ?_; (intro hc args ha; simp [go_sem] at ha; subst ha; exact ND); simp [go_sem]; ((repeat' (first|(refine ag_x ?_;simp [go_sem])|intro _|refine And.intro ?_ ?_|(apply hKK;clear hKK KK)));all_goals first|refine Hold.mk ?_|omega|with_reducible assumption|(simp only [InR] at *;omega)|skip))
    by_cases h3 : c = 48
    · subst h3
      have h4 : r = [] := by
        rcases h2c with h | h
        · simp at h; exact h
        · simp at h
      subst h4
      (refine awp_sr fun KK hKK => ?_; simp [go_sem, undef]; ((repeat' (first|(refine ag_false ?_ ?_ ?_;(focus (simp [go_sem, undef, undef];done));(focus (simp [go_sem];done));simp [go_sem, undef])|(refine ag_x ?_;simp [go_sem, undef, undef])|intro _|refine And.intro ?_ ?_|(apply hKK;clear hKK KK)));all_goals first|refine Hold.mk ?_|omega|with_reducible assumption|(simp only [InR] at *;omega)|skip))
      (refine awp_ret ?_; simp [go_sem])
      refine postK_fam (b := 1) (e := 100) (k := 2) (f := mP) rs 0 N.length _ hrl2 (by simp [go_sem]) ?_
      exact ⟨gp, gn, gw, rs, hrs, by simp⟩
    · have h3a : ¬ c.toNat = 48 := fun q => h3 (UInt8.toNat_inj.1 q)
      have h3b : ¬ (c.toNat : Int) = 48 := by omega
      have hq1 : (r.length : Int) + 1 ≤ 9223372036854775807 := by simp at hlen; omega
      have hq2 : (r.length : Int) ≤ 9223372036854775807 := by omega
      (refine awp_sr fun KK hKK => ?_; simp [go_sem, h3, h3a, h3b, hq1, hq2]; ((repeat' (first|(refine ag_x ?_;simp [go_sem, h3, h3a, h3b, hq1, hq2])|intro _|refine And.intro ?_ ?_|(apply hKK;clear hKK KK)));all_goals first|refine Hold.mk ?_|omega|with_reducible assumption|(simp only [InR] at *;omega)|skip))
      (refine awp_ret ?_; simp [go_sem, h3, h3a, h3b])
      refine postK_fam (b := 1) (e := 100) (k := 2) (f := mP) rs 0 N.length _ hrl2 (by simp [go_sem]) ?_
      exact ⟨gp, gn, gw, rs, hrs, by simp⟩
  · cases he
end Go.Proofs.YtchnagdaljblnaaGreatDoor
