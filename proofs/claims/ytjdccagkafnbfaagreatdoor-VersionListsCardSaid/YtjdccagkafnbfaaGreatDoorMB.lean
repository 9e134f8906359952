/- Part of a proof: see the last text. -/
import Derived.Lib.SplitLaws
import Derived.Lib.CountLaws
import Derived.Lib.Join
import Derived.Test.YtjdccagkafnbfaaGreatDoorMA
import Derived.Lib.Bytealg
import Derived.Lib.Small
import Derived.Lib.IndexMore
import Derived.Test.YtjdccagkafnbfaaGreatDoorEA
set_option linter.unusedVariables false
set_option linter.unusedSimpArgs false
namespace Go.Ver
open Go.Lib
/-! split at a separator of one byte, and of two different bytes -/
def consH (b : UInt8) : List (List UInt8) → List (List UInt8)
  | [] => [[b]]
  | h :: t => (b :: h) :: t
def dots (c : UInt8) : List UInt8 → List (List UInt8)
  | [] => [[]]
  | b :: l => if b = c then [] :: dots c l else consH b (dots c l)
def csv (c d : UInt8) : List UInt8 → List (List UInt8)
  | [] => [[]]
  | b :: l => if b = c ∧ l.head? = some d then [] :: csv c d l.tail else consH b (csv c d l)
termination_by l => l.length
decreasing_by all_goals simp; try omega
theorem consH_ne (b : UInt8) (l : List (List UInt8)) : consH b l ≠ [] := by cases l <;> simp [consH]
theorem dots_ne (c : UInt8) (l : List UInt8) : dots c l ≠ [] := by
  cases l with
  | nil => simp [dots]
  | cons b l => unfold dots; split; · simp
                exact consH_ne _ _
theorem csv_ne (c d : UInt8) (l : List UInt8) : csv c d l ≠ [] := by
  cases l with
  | nil => simp [csv]
  | cons b l => unfold csv; split; · simp
                exact consH_ne _ _
theorem split_miss {s sep : List UInt8} (h : index s sep = -1) : split s sep = [s] := by
  unfold split; rw [count_miss h]; rfl
theorem split_hit {s sep : List UInt8} {i : Nat} (hs : sep ≠ []) (h : index s sep = i) : split s sep = s.take i :: split (s.drop (i + sep.length)) sep := by
  unfold split
  rw [count_hit hs h, Nat.add_comm 1]
  conv => lhs; unfold splitK
  rw [h, if_neg (by simp)]
  simp
theorem split_at {b : UInt8} {l sep : List UInt8} (hs : sep ≠ []) (h : sep.isPrefixOf (b :: l) = true) : split (b :: l) sep = [] :: split ((b :: l).drop sep.length) sep := by
  have e : index (b :: l) sep = (0 : Nat) := by unfold index; rw [if_pos h]; rfl
  rw [split_hit hs e]; simp
theorem split_step {b : UInt8} {l sep : List UInt8} (hs : sep ≠ []) (h : sep.isPrefixOf (b :: l) = false) : split (b :: l) sep = consH b (split l sep) := by
  have e : index (b :: l) sep = if index l sep == -1 then -1 else index l sep + 1 := by
    conv => lhs; unfold index
    simp [h]
  by_cases h1 : index l sep = -1
  · rw [split_miss h1, split_miss (by rw [e, h1]; rfl)]; rfl
  · have hge := index_ge l sep
    obtain ⟨i, hi⟩ : ∃ i : Nat, index l sep = i := ⟨(index l sep).toNat, by omega⟩
    have e2 : index (b :: l) sep = ((i + 1 : Nat) : Int) := by rw [e, hi, if_neg (by simp)]; rfl
    rw [split_hit hs e2, split_hit hs hi]
    have : (i + 1 + sep.length) = (i + sep.length) + 1 := by omega
    rw [this]; rfl
theorem split_nil {sep : List UInt8} (hs : sep ≠ []) : split [] sep = [[]] := by
  apply split_miss
  unfold index
  cases sep with
  | nil => exact absurd rfl hs
  | cons => rfl
theorem split_dots (c : UInt8) : ∀ s, split s [c] = dots c s
  | [] => by rw [split_nil (by simp)]; rfl
  | b :: l => by
    unfold dots
    by_cases h : b = c
    · rw [if_pos h, split_at (by simp) (by simp [h]), ← split_dots c l]; rfl
    · rw [if_neg h, split_step (by simp) (by rw [Bool.eq_false_iff]; intro q; simp at q; exact h q.symm), split_dots c l]
theorem split_csv (c d : UInt8) (s : List UInt8) : split s [c, d] = csv c d s := by
  match s with
  | [] => rw [split_nil (by simp)]; simp [csv]
  | b :: l =>
    unfold csv
    by_cases h : b = c ∧ l.head? = some d
    · rw [if_pos h, ← split_csv c d l.tail]
      obtain ⟨h1, h2⟩ := h
      cases l with
      | nil => simp at h2
      | cons x r =>
        simp at h2; subst h1 h2
        rw [split_at (by simp) (by simp)]; rfl
    · rw [if_neg h, ← split_csv c d l]
      refine split_step (by simp) ?_
      rw [Bool.eq_false_iff]
      intro q
      apply h
      cases l with
      | nil => simp at q
      | cons x r => simp at q; simp [q.1, q.2]
termination_by s.length
decreasing_by all_goals simp <;> omega
/-! a part holds no separator; join and split undo each other -/
theorem dots_one {c : UInt8} : ∀ {p : List UInt8}, c ∉ p → dots c p = [p]
  | [], _ => rfl
  | b :: l, h => by
    simp at h
    unfold dots
    rw [if_neg (fun e => h.1 e.symm), dots_one h.2]; rfl
theorem dots_app {c : UInt8} : ∀ {p : List UInt8} (s : List UInt8), c ∉ p → dots c (p ++ c :: s) = p :: dots c s
  | [], s, _ => by simp [dots]
  | b :: l, s, h => by
    simp at h
    have : (b :: l) ++ c :: s = b :: (l ++ c :: s) := rfl
    rw [this, dots, if_neg (fun e => h.1 e.symm), dots_app s h.2]; rfl
theorem dots_join {c : UInt8} : ∀ (ps : List (List UInt8)), ps ≠ [] → (∀ p ∈ ps, c ∉ p) → dots c (join ps [c]) = ps
  | [], h, _ => absurd rfl h
  | [p], _, h => by rw [join_one, dots_one (h p (by simp))]
  | p :: q :: r, _, h => by
    have ih := dots_join (q :: r) (by simp) (fun x hx => h x (by simp [hx]))
    rw [join_cons] at ih ⊢
    have e : p ++ joinTail [c] (q :: r) = p ++ c :: (q ++ joinTail [c] r) := by simp [joinTail]
    rw [e, dots_app _ (h p (by simp)), ih]
theorem join_dots {c : UInt8} : ∀ (s : List UInt8), join (dots c s) [c] = s
  | [] => by simp [dots, join_one]
  | b :: l => by
    have ih := join_dots (c := c) l
    cases hd : dots c l with
    | nil => exact absurd hd (dots_ne c l)
    | cons x t =>
      rw [hd, join_cons] at ih
      unfold dots
      split
      · rename_i hb; subst hb
        rw [hd, join_cons]
        simp [joinTail] at ih ⊢; exact ih
      · rw [hd]
        simp only [consH]
        rw [join_cons, List.cons_append, ih]
end Go.Ver

set_option linter.unusedVariables false
set_option linter.unusedSimpArgs false
namespace Go.Ver
open Go.Lib Go.Wh
/-! segments -/
abbrev Seg := List UInt8 × Int
abbrev z0s : Seg := ([], 0)
def isL (c : UInt8) : Bool := decide (97 ≤ c.toNat) && decide (c.toNat ≤ 122)
def segV (s : List UInt8) : Option Seg :=
  if s = [] ∨ 10 < s.length then none
  else if s.all isL then some (s, 0)
  else if s.all isD && (decide (s.head? ≠ some 48) || decide (s = [48])) && decide (decVal s ≤ 1000000000) then some ([], (decVal s : Int))
  else none
def segT (x : Seg) : List UInt8 := if x.1 ≠ [] then x.1 else itoa x.2
def SegOk (x : Seg) : Prop := (x.1 ≠ [] ∧ x.1.length ≤ 10 ∧ x.1.all isL = true ∧ x.2 = 0) ∨ (x.1 = [] ∧ 0 ≤ x.2 ∧ x.2 ≤ 1000000000)
theorem isL_D {c : UInt8} (h : isD c = true) : isL c = false := by
  simp [isD] at h; simp [isL]; omega
theorem segV_ok {s : List UInt8} {x : Seg} (h : segV s = some x) : SegOk x ∧ segT x = s := by
  unfold segV at h
  split at h
  · simp at h
  · rename_i h0
    split at h
    · rename_i h1
      simp at h; subst h
      exact ⟨.inl ⟨fun e => h0 (.inl e), by simp only; omega, h1, rfl⟩, by simp [segT]; exact fun e => absurd e (fun e => h0 (.inl e))⟩
    · split at h
      · rename_i h2
        simp only [Bool.and_eq_true, Bool.or_eq_true, decide_eq_true_eq] at h2
        simp at h; subst h
        refine ⟨.inr ⟨rfl, by omega, by simp only; omega⟩, ?_⟩
        simp only [segT, ne_eq, not_true_eq_false, if_false]
        unfold itoa
        rw [if_neg (by omega), Int.toNat_natCast]
        exact dec_back (fun e => h0 (.inl e)) h2.1.2 (by simpa using h2.1.1)
      · simp at h
theorem dec_lenK : ∀ (k n : Nat), n < 10 ^ (k + 1) → (decDigits n).length ≤ k + 1
  | 0, n, h => by
    rw [decDigits, dif_pos (by simpa using h)]; simp
  | k + 1, n, h => by
    rw [decDigits]
    split
    · simp
    · have := dec_lenK k (n / 10) (by rw [Nat.pow_succ] at h; omega)
      simp; omega
theorem dec_len {n : Nat} (h : n < 10000000000) : (decDigits n).length ≤ 10 := dec_lenK 9 n (by simpa using h)
theorem segV_segT {x : Seg} (h : SegOk x) : segV (segT x) = some x := by
  obtain ⟨w, n⟩ := x
  rcases h with ⟨h1, h2, h3, h4⟩ | ⟨h1, h2, h3⟩
  · simp only at h1 h2 h3 h4
    subst h4
    simp only [segT, ne_eq, h1, not_false_eq_true, if_true]
    unfold segV
    rw [if_neg (by simp [h1]; exact h2), if_pos h3]
  · simp only at h1 h2 h3
    subst h1
    obtain ⟨k, rfl⟩ : ∃ k : Nat, n = k := ⟨n.toNat, by omega⟩
    simp only [segT, ne_eq, not_true_eq_false, if_false]
    have e : itoa (k : Int) = decDigits k := by unfold itoa; rw [if_neg (by omega), Int.toNat_natCast]
    rw [e]
    have hne := decDigits_ne k
    have hD := decDigits_isD k
    unfold segV
    have hl := dec_len (n := k) (by omega)
    rw [if_neg (by simp [hne]; exact hl)]
    have hL : (decDigits k).all isL = false := by
      cases hd : decDigits k with
      | nil => exact absurd hd hne
      | cons c r => simp [isL_D (hD c (by rw [hd]; simp))]
    rw [if_neg (by simp [hL]), if_pos]
    · rw [dec_dec]
    · simp only [Bool.and_eq_true, Bool.or_eq_true, decide_eq_true_eq]
      refine ⟨⟨by simpa using hD, ?_⟩, by rw [dec_dec]; omega⟩
      by_cases h0 : k = 0
      · subst h0; right; rw [decDigits]; rfl
      · exact .inl (decDigits_head k h0)
end Go.Ver

set_option linter.unusedVariables false
set_option linter.unusedSimpArgs false
namespace Go.Ver
open Go.Lib Go.Wh
/-! versions -/
def segsV : List (List UInt8) → Option (List Seg)
  | [] => some []
  | p :: r => match segV p, segsV r with
    | some x, some l => some (x :: l)
    | _, _ => none
def readV (v : List UInt8) : Option (List Seg) :=
  if 60 < v.length then none else match segsV (dots 46 v) with
    | some l => if l.length ≤ 8 ∧ l.head?.map (·.1) = some [] then some l else none
    | none => none
def textV (l : List Seg) : List UInt8 := join (l.map segT) [46]
def VOk (l : List Seg) : Prop := l.length ≤ 8 ∧ l.head?.map (·.1) = some [] ∧ ∀ x ∈ l, SegOk x
theorem VOk.ne {l : List Seg} (h : VOk l) : l ≠ [] := by intro e; subst e; simp [VOk] at h
theorem segsV_ok : ∀ {ps : List (List UInt8)} {l : List Seg}, segsV ps = some l → l.map segT = ps ∧ ∀ x ∈ l, SegOk x
  | [], l, h => by simp [segsV] at h; subst h; simp
  | p :: r, l, h => by
    unfold segsV at h
    split at h
    · rename_i x m hx hm
      simp at h; subst h
      obtain ⟨h1, h2⟩ := segsV_ok hm
      obtain ⟨h3, h4⟩ := segV_ok hx
      refine ⟨by simp [h1, h4], fun y hy => ?_⟩
      rcases List.mem_cons.1 hy with rfl | hy
      · exact h3
      · exact h2 y hy
    · simp at h
theorem segsV_map : ∀ {l : List Seg}, (∀ x ∈ l, SegOk x) → segsV (l.map segT) = some l
  | [], _ => rfl
  | x :: l, h => by
    simp only [List.map_cons, segsV]
    rw [segV_segT (h x (by simp)), segsV_map (fun y hy => h y (by simp [hy]))]
theorem readV_ok {v : List UInt8} {l : List Seg} (h : readV v = some l) : VOk l ∧ textV l = v ∧ v.length ≤ 60 := by
  unfold readV at h
  split at h
  · simp at h
  · split at h
    · rename_i hl m hm
      split at h
      · rename_i h1
        simp at h; subst h
        obtain ⟨h2, h3⟩ := segsV_ok hm
        refine ⟨⟨h1.1, h1.2, h3⟩, ?_, by omega⟩
        unfold textV
        rw [h2, join_dots]
      · simp at h
    · simp at h
theorem segT_no {x : Seg} (h : SegOk x) : 46 ∉ segT x := by
  rcases h with ⟨h1, h2, h3, h4⟩ | ⟨h1, h2, h3⟩
  · simp only [segT, ne_eq, h1, not_false_eq_true, if_true]
    intro hm
    have := List.all_eq_true.1 h3 46 hm
    revert this; decide
  · simp only [segT, h1, ne_eq, not_true_eq_false, if_false]
    unfold itoa
    rw [if_neg (by omega)]
    intro hm
    have := decDigits_isD _ 46 hm
    revert this; decide
theorem dots_text {l : List Seg} (hne : l ≠ []) (h : ∀ x ∈ l, SegOk x) : dots 46 (textV l) = l.map segT := by
  unfold textV
  exact dots_join _ (by simpa using hne) (by intro p hp; obtain ⟨x, hx, rfl⟩ := List.mem_map.1 hp; exact segT_no (h x hx))
theorem readV_text {l : List Seg} (h : VOk l) (hl : (textV l).length ≤ 60) : readV (textV l) = some l := by
  unfold readV
  rw [if_neg (by omega), dots_text h.ne h.2.2, segsV_map h.2.2]
  simp only
  rw [if_pos ⟨h.1, h.2.1⟩]
/-! the order -/
def seg2 (x y : Seg) : Int :=
  if x.1 ≠ [] ∧ y.1 = [] then -1 else if x.1 = [] ∧ y.1 ≠ [] then 1
  else if compareBytes x.1 y.1 ≠ 0 then compareBytes x.1 y.1 else compareInt x.2 y.2
def cmpN : Nat → List Seg → List Seg → Int
  | 0, _, _ => 0
  | n + 1, a, b => if seg2 (a.headD z0s) (b.headD z0s) ≠ 0 then seg2 (a.headD z0s) (b.headD z0s) else cmpN n a.tail b.tail
def cmpV (a b : List Seg) : Int := cmpN (max a.length b.length) a b
theorem cb_zero : ∀ {a b : List UInt8}, compareBytes a b = 0 ↔ a = b
  | [], [] => by simp [compareBytes]
  | [], _ :: _ => by simp [compareBytes]
  | _ :: _, [] => by simp [compareBytes]
  | x :: a, y :: b => by
    unfold compareBytes
    split
    · rename_i h; simp; intro e; subst e; exact absurd h (by simp)
    · split
      · rename_i h; simp; intro e; subst e; exact absurd h (by simp)
      · rename_i h1 h2
        have e : x = y := by
          rw [UInt8.lt_iff_toNat_lt] at h1 h2; exact UInt8.toNat_inj.1 (by omega)
        rw [cb_zero]; simp [e]
theorem cb_neg : ∀ (a b : List UInt8), compareBytes a b = -compareBytes b a
  | [], [] => rfl
  | [], _ :: _ => rfl
  | _ :: _, [] => rfl
  | x :: a, y :: b => by
    unfold compareBytes
    by_cases h1 : x < y
    · have h2 : ¬ y < x := by rw [UInt8.lt_iff_toNat_lt] at *; omega
      rw [if_pos h1, if_neg h2, if_pos h1]
    · by_cases h2 : y < x
      · rw [if_neg h1, if_pos h2, if_pos h2]; rfl
      · rw [if_neg h1, if_neg h2, if_neg h2, if_neg h1, cb_neg a b]
theorem cb_val : ∀ (a b : List UInt8), compareBytes a b = -1 ∨ compareBytes a b = 0 ∨ compareBytes a b = 1
  | [], [] => .inr (.inl rfl)
  | [], _ :: _ => .inl rfl
  | _ :: _, [] => .inr (.inr rfl)
  | x :: a, y :: b => by
    unfold compareBytes
    split
    · simp
    · split
      · simp
      · exact cb_val a b
theorem cb_trans : ∀ {a b c : List UInt8}, compareBytes a b ≤ 0 → compareBytes b c ≤ 0 → compareBytes a c ≤ 0
  | [], _, [], _, _ => by simp [compareBytes]
  | [], _, _ :: _, _, _ => by simp [compareBytes]
  | _ :: _, [], _, h, _ => by simp [compareBytes] at h
  | _ :: _, _ :: _, [], _, h => by simp [compareBytes] at h
  | x :: a, y :: b, z :: c, h1, h2 => by
    unfold compareBytes at *
    simp only [UInt8.lt_iff_toNat_lt] at *
    split at h1
    · split
      · simp
      · split at h2
        · omega
        · split at h2
          · simp at h2
          · omega
    · split at h1
      · simp at h1
      · split at h2
        · rw [if_pos (by omega)]; simp
        · split at h2
          · simp at h2
          · rw [if_neg (by omega), if_neg (by omega)]
            exact cb_trans h1 h2
end Go.Ver

set_option linter.unusedVariables false
set_option linter.unusedSimpArgs false
namespace Go.Ver
open Go.Lib Go.Wh
theorem ci_zero {x y : Int} : compareInt x y = 0 ↔ x = y := by unfold compareInt; split <;> (try split) <;> omega
theorem ci_neg (x y : Int) : compareInt x y = -compareInt y x := by unfold compareInt; repeat' split <;> omega
theorem ci_trans {x y z : Int} (h1 : compareInt x y ≤ 0) (h2 : compareInt y z ≤ 0) : compareInt x z ≤ 0 := by
  unfold compareInt at *; repeat' split at * <;> omega
theorem seg2_zero {x y : Seg} : seg2 x y = 0 ↔ x = y := by
  obtain ⟨a, m⟩ := x; obtain ⟨b, n⟩ := y
  unfold seg2
  simp only
  split
  · rename_i h; simp; intro e; rw [e] at h; exact absurd h.2 h.1
  · split
    · rename_i h; simp; intro e; rw [e] at h; exact absurd h.1 h.2
    · split
      · rename_i h; rw [cb_zero]; rw [Ne, cb_zero] at h; simp [h]
      · rename_i h; rw [ci_zero]; simp only [ne_eq, Decidable.not_not, cb_zero] at h; simp [h]
theorem seg2_neg (x y : Seg) : seg2 x y = -seg2 y x := by
  obtain ⟨a, m⟩ := x; obtain ⟨b, n⟩ := y
  unfold seg2
  simp only
  by_cases ha : a = [] <;> by_cases hb : b = [] <;> simp [ha, hb]
  · simp [compareBytes]; exact ci_neg m n
  · rw [cb_neg a b, ci_neg m n]
    by_cases h : compareBytes b a = 0
    · simp [h]
    · rw [if_neg (by omega), if_neg h]
theorem seg2_trans {x y z : Seg} (h1 : seg2 x y ≤ 0) (h2 : seg2 y z ≤ 0) : seg2 x z ≤ 0 := by
  obtain ⟨a, m⟩ := x; obtain ⟨b, n⟩ := y; obtain ⟨c, k⟩ := z
  unfold seg2 at *
  simp only at *
  by_cases ha : a = [] <;> by_cases hb : b = [] <;> by_cases hc : c = [] <;> simp [ha, hb, hc, compareBytes] at *
  · exact ci_trans h1 h2
  · by_cases e1 : compareBytes a b = 0
    · rw [cb_zero] at e1; subst e1
      have e : compareBytes a a = 0 := cb_zero.2 rfl
      rw [if_pos e] at h1
      by_cases e2 : compareBytes a c = 0
      · rw [if_pos e2] at h2 ⊢; exact ci_trans h1 h2
      · rw [if_neg e2] at h2 ⊢; exact h2
    · rw [if_neg e1] at h1
      by_cases e2 : compareBytes b c = 0
      · rw [cb_zero] at e2; subst e2; rw [if_neg e1]; exact h1
      · rw [if_neg e2] at h2
        have := cb_trans h1 h2
        by_cases e3 : compareBytes a c = 0
        · rw [cb_zero] at e3; subst e3
          have := cb_neg a b
          omega
        · rw [if_neg e3]; exact this
/-- the segment at a place: 0 behind the end -/
def atV (a : List Seg) (i : Nat) : Seg := a[i]?.getD z0s
theorem atV_zero (a : List Seg) : atV a 0 = a.headD z0s := by cases a <;> rfl
theorem atV_succ (a : List Seg) (i : Nat) : atV a (i + 1) = atV a.tail i := by cases a <;> simp [atV]
theorem cmpN_zero : ∀ {n : Nat} {a b : List Seg}, cmpN n a b = 0 ↔ ∀ i, i < n → atV a i = atV b i
  | 0, _, _ => by simp [cmpN]
  | n + 1, a, b => by
    unfold cmpN
    split
    · rename_i h
      constructor
      · exact fun e => absurd e h
      · intro e
        have := e 0 (by omega)
        rw [atV_zero, atV_zero] at this
        exact seg2_zero.2 this
    · rename_i h
      simp only [ne_eq, Decidable.not_not, seg2_zero] at h
      rw [cmpN_zero]
      constructor
      · intro e i hi
        cases i with
        | zero => rw [atV_zero, atV_zero]; exact h
        | succ i => rw [atV_succ, atV_succ]; exact e i (by omega)
      · intro e i hi
        have := e (i + 1) (by omega)
        rwa [atV_succ, atV_succ] at this
theorem cmpN_neg : ∀ (n : Nat) (a b : List Seg), cmpN n a b = -cmpN n b a
  | 0, _, _ => rfl
  | n + 1, a, b => by
    unfold cmpN
    have h := seg2_neg (a.headD z0s) (b.headD z0s)
    by_cases e : seg2 (b.headD z0s) (a.headD z0s) = 0
    · rw [if_neg (by omega), if_neg (by omega), cmpN_neg n]
    · rw [if_pos (by omega), if_pos (by omega)]; exact h
theorem cmpN_trans : ∀ {n : Nat} {a b c : List Seg}, cmpN n a b ≤ 0 → cmpN n b c ≤ 0 → cmpN n a c ≤ 0
  | 0, _, _, _, _, _ => by simp [cmpN]
  | n + 1, a, b, c, h1, h2 => by
    unfold cmpN at *
    generalize a.headD z0s = x at *
    generalize b.headD z0s = y at *
    generalize c.headD z0s = z at *
    by_cases e1 : seg2 x y = 0
    · rw [if_neg (by omega)] at h1
      rw [seg2_zero] at e1; subst e1
      by_cases e2 : seg2 x z = 0
      · rw [if_neg (by omega)] at h2 ⊢; exact cmpN_trans h1 h2
      · rw [if_pos (by omega)] at h2 ⊢; exact h2
    · rw [if_pos (by omega)] at h1
      by_cases e2 : seg2 y z = 0
      · rw [seg2_zero] at e2; subst e2; rw [if_pos (by omega)]; exact h1
      · rw [if_pos (by omega)] at h2
        have := seg2_trans h1 h2
        by_cases e3 : seg2 x z = 0
        · rw [seg2_zero] at e3; subst e3
          have := seg2_neg x y
          omega
        · rw [if_pos (by omega)]; exact this
theorem cmpN_nil : ∀ n, cmpN n [] [] = 0
  | 0 => rfl
  | n + 1 => by unfold cmpN; simp [seg2_zero.2, cmpN_nil n]
theorem cmpN_more : ∀ (n m : Nat) (a b : List Seg), a.length ≤ n → b.length ≤ n → n ≤ m → cmpN m a b = cmpN n a b
  | 0, m, a, b, ha, hb, _ => by
    cases a with
    | nil => cases b with
      | nil => rw [cmpN_nil, cmpN_nil]
      | cons => simp at hb
    | cons => simp at ha
  | n + 1, 0, _, _, _, _, h => absurd h (by omega)
  | n + 1, m + 1, a, b, ha, hb, h => by
    unfold cmpN
    rw [cmpN_more n m a.tail b.tail (by simp; omega) (by simp; omega) (by omega)]
theorem cmpV_of {n : Nat} {a b : List Seg} (ha : a.length ≤ n) (hb : b.length ≤ n) : cmpV a b = cmpN n a b :=
  (cmpN_more (max a.length b.length) n a b (by omega) (by omega) (by omega)).symm
theorem cmpV_neg (a b : List Seg) : cmpV a b = -cmpV b a := by
  rw [cmpV_of (n := a.length + b.length) (by omega) (by omega), cmpV_of (n := a.length + b.length) (a := b) (by omega) (by omega)]; exact cmpN_neg _ _ _
theorem cmpV_zero {a b : List Seg} : cmpV a b = 0 ↔ ∀ i, atV a i = atV b i := by
  unfold cmpV
  rw [cmpN_zero]
  constructor
  · intro h i
    by_cases hi : i < max a.length b.length
    · exact h i hi
    · unfold atV; rw [List.getElem?_eq_none (by omega), List.getElem?_eq_none (by omega)]
  · exact fun h i _ => h i
theorem cmpV_trans {a b c : List Seg} (h1 : cmpV a b ≤ 0) (h2 : cmpV b c ≤ 0) : cmpV a c ≤ 0 := by
  rw [cmpV_of (n := a.length + b.length + c.length) (by omega) (by omega)] at *
  exact cmpN_trans h1 h2
end Go.Ver

set_option linter.unusedVariables false
set_option linter.unusedSimpArgs false
namespace Go.Ver
open Go.Lib Go.Wh
/-! canon -/
theorem VOk.take {l : List Seg} (h : VOk l) {k : Nat} (hk : 1 ≤ k) : VOk (l.take k) := by
  refine ⟨by have := h.1; simp; omega, ?_, fun x hx => h.2.2 x (List.mem_of_mem_take hx)⟩
  have h2 := h.2.1
  cases l with
  | nil => simp at h2
  | cons x r => obtain ⟨j, rfl⟩ : ∃ j, k = j + 1 := ⟨k - 1, by omega⟩
                simpa using h2
theorem at_past {a : List Seg} {i : Nat} (h : a.length ≤ i) : atV a i = z0s := by unfold atV; rw [List.getElem?_eq_none h]; rfl
/-! words -/
def preV (l : List Seg) : Bool := l.any fun s => decide (s.1 ≠ [])
def wordsV (l : List Seg) : Nat := l.findIdx fun s => decide (s.1 ≠ [])
theorem wordsV_lt (l : List Seg) : decide (wordsV l < l.length) = preV l := by
  unfold wordsV preV
  rw [Bool.eq_iff_iff]
  simp [List.findIdx_lt_length]
/-! lengths -/
end Go.Ver

set_option linter.unusedVariables false
set_option linter.unusedSimpArgs false
namespace Go.Ver
open Go.Lib Go.Wh
/-! bump -/
def bumpN (l : List Seg) : Nat := if 1 < wordsV l then wordsV l - 1 else wordsV l
def bumpV (l : List Seg) : List Seg := (l.take (bumpN l)).set (bumpN l - 1) ([], (atV l (bumpN l - 1)).2 + 1)
theorem wordsV_le (l : List Seg) : wordsV l ≤ l.length := List.findIdx_le_length
theorem wordsV_pos {l : List Seg} (h : VOk l) : 1 ≤ wordsV l := by
  have h2 := h.2.1
  cases l with
  | nil => simp at h2
  | cons x r => simp at h2; unfold wordsV; rw [List.findIdx_cons]; simp [h2]
theorem words_before {l : List Seg} {i : Nat} (h : i < wordsV l) : (atV l i).1 = [] := by
  have hl := wordsV_le l
  have := List.not_of_lt_findIdx h
  unfold atV; rw [List.getElem?_eq_getElem (by omega)]
  simpa using this
theorem bumpN_pos {l : List Seg} (h : VOk l) : 1 ≤ bumpN l := by have := wordsV_pos h; unfold bumpN; split <;> omega
theorem bumpN_le (l : List Seg) : bumpN l ≤ wordsV l := by unfold bumpN; split <;> omega
theorem bumpV_len {l : List Seg} : (bumpV l).length = bumpN l := by
  have := bumpN_le l; have := wordsV_le l
  unfold bumpV; simp; omega
theorem bumpV_at {l : List Seg} (h : VOk l) (i : Nat) : atV (bumpV l) i = if i + 1 < bumpN l then atV l i else if i + 1 = bumpN l then ([], (atV l i).2 + 1) else z0s := by
  have h1 := bumpN_pos h; have h2 := bumpN_le l; have h3 := wordsV_le l
  unfold bumpV
  unfold atV
  rw [List.getElem?_set]
  by_cases e : i + 1 = bumpN l
  · have : bumpN l - 1 = i := by omega
    rw [this]
    rw [if_pos rfl, if_pos (by simp; omega), if_neg (by omega), if_pos e]; rfl
  · rw [if_neg (by omega), List.getElem?_take]
    by_cases e2 : i + 1 < bumpN l
    · rw [if_pos (by omega), if_pos e2]
    · rw [if_neg (by omega), if_neg e2, if_neg e]; rfl
theorem bumpV_mem {l : List Seg} (h : VOk l) {x : Seg} (hx : x ∈ bumpV l) : x.1 = [] ∧ ∃ y ∈ l, x.2 = y.2 ∨ x.2 = y.2 + 1 := by
  obtain ⟨i, hi, rfl⟩ := List.getElem_of_mem hx
  have h1 := bumpN_pos h; have h2 := bumpN_le l; have h3 := wordsV_le l
  rw [bumpV_len] at hi
  have e : (bumpV l)[i]'(by rw [bumpV_len]; exact hi) = atV (bumpV l) i := by unfold atV; rw [List.getElem?_eq_getElem (by rw [bumpV_len]; exact hi)]; rfl
  have hm : atV l i ∈ l := by unfold atV; rw [List.getElem?_eq_getElem (by omega)]; exact List.getElem_mem _
  rw [e, bumpV_at h]
  have hw := words_before (l := l) (i := i) (by omega)
  split
  · exact ⟨hw, _, hm, .inl rfl⟩
  · rw [if_pos (by omega)]; exact ⟨rfl, _, hm, .inr rfl⟩
end Go.Ver

set_option linter.unusedVariables false
set_option linter.unusedSimpArgs false
namespace Go.Ver
open Go.Lib Go.Wh
/-! requirements: conditions with ', ' between; each an operator, a blank and a version -/
abbrev Cnd := List UInt8 × List Seg
/-- = != > < >= <= ~> -/
def opsV : List (List UInt8) := [[61], [33, 61], [62], [60], [62, 61], [60, 61], [126, 62]]
def cutS : List UInt8 → Option (List UInt8 × List UInt8)
  | [] => none
  | b :: l => if b = 32 then some ([], l) else (cutS l).map fun p => (b :: p.1, p.2)
def cndV (p : List UInt8) : Option Cnd := match cutS p with
  | some (o, v) => if o ∈ opsV then (readV v).map fun l => (o, l) else none
  | none => none
def cndsV : List (List UInt8) → Option (List Cnd)
  | [] => some []
  | p :: r => match cndV p, cndsV r with
    | some c, some l => some (c :: l)
    | _, _ => none
def condsV (r : List UInt8) : Option (List Cnd) :=
  if r = [] then some [] else match cndsV (csv 44 32 r) with
    | some l => if l.length ≤ 20 then some l else none
    | none => none
def textC (c : Cnd) : List UInt8 := c.1 ++ 32 :: textV c.2
def textR (l : List Cnd) : List UInt8 := join (l.map textC) [44, 32]
def COk (c : Cnd) : Prop := c.1 ∈ opsV ∧ VOk c.2 ∧ (textV c.2).length ≤ 60
theorem cutS_app : ∀ {o : List UInt8} (v : List UInt8), 32 ∉ o → cutS (o ++ 32 :: v) = some (o, v)
  | [], v, _ => by simp [cutS]
  | b :: o, v, h => by
    simp at h
    have e : (b :: o) ++ 32 :: v = b :: (o ++ 32 :: v) := rfl
    rw [e, cutS, if_neg (fun q => h.1 q.symm), cutS_app v h.2]; rfl
theorem cutS_some : ∀ {p o v : List UInt8}, cutS p = some (o, v) → p = o ++ 32 :: v ∧ 32 ∉ o
  | [], _, _, h => by simp [cutS] at h
  | b :: l, o, v, h => by
    unfold cutS at h
    split at h
    · rename_i hb; simp at h; obtain ⟨rfl, rfl⟩ := h; subst hb; simp
    · rename_i hb
      cases hc : cutS l with
      | none => rw [hc] at h; simp at h
      | some q =>
        obtain ⟨x, y⟩ := q
        rw [hc] at h; simp at h
        obtain ⟨rfl, rfl⟩ := h
        obtain ⟨e, h2⟩ := cutS_some hc
        subst e
        exact ⟨rfl, by simp; exact ⟨fun q => hb q.symm, h2⟩⟩
theorem ops_no {o : List UInt8} (h : o ∈ opsV) : 32 ∉ o ∧ 44 ∉ o := by
  revert h; revert o; decide
theorem cndV_ok {p : List UInt8} {c : Cnd} (h : cndV p = some c) : COk c ∧ textC c = p := by
  unfold cndV at h
  split at h
  · rename_i o v hc
    split at h
    · rename_i ho
      cases hr : readV v with
      | none => rw [hr] at h; simp at h
      | some l =>
        rw [hr] at h; simp at h; subst h
        obtain ⟨h1, h2, h3⟩ := readV_ok hr
        refine ⟨⟨ho, h1, by simp only; rw [h2]; exact h3⟩, ?_⟩
        simp only [textC, h2]
        exact (cutS_some hc).1.symm
    · simp at h
  · simp at h
theorem cndV_text {c : Cnd} (h : COk c) : cndV (textC c) = some c := by
  unfold cndV textC
  rw [cutS_app _ (ops_no h.1).1]
  simp only
  rw [if_pos h.1, readV_text h.2.1 h.2.2]; rfl
theorem textV_no {l : List Seg} (h : ∀ x ∈ l, SegOk x) : 44 ∉ textV l := by
  have hs : ∀ x ∈ l, 44 ∉ segT x := by
    intro x hx
    rcases h x hx with ⟨h1, h2, h3, h4⟩ | ⟨h1, h2, h3⟩
    · simp only [segT, ne_eq, h1, not_false_eq_true, if_true]
      intro hm
      have := List.all_eq_true.1 h3 44 hm
      revert this; decide
    · simp only [segT, h1, ne_eq, not_true_eq_false, if_false]
      unfold itoa
      rw [if_neg (by omega)]
      intro hm
      have := decDigits_isD _ 44 hm
      revert this; decide
  unfold textV
  cases l with
  | nil => simp [join_nil]
  | cons x r =>
    rw [List.map_cons, join_cons, joinTail]
    intro hm
    rcases List.mem_append.1 hm with hm | hm
    · exact hs x (by simp) hm
    · obtain ⟨q, hq, hm⟩ := List.mem_flatten.1 hm
      obtain ⟨p, hp, rfl⟩ := List.mem_map.1 hq
      obtain ⟨y, hy, rfl⟩ := List.mem_map.1 hp
      have := hs y (by simp [hy])
      simp at hm; exact this hm
theorem textC_no {c : Cnd} (h : COk c) : 44 ∉ textC c := by
  unfold textC
  simp [(ops_no h.1).2, textV_no h.2.1.2.2]
theorem csv_app {c d : UInt8} : ∀ {p : List UInt8} (s : List UInt8), c ∉ p → csv c d (p ++ c :: d :: s) = p :: csv c d s
  | [], s, _ => by simp [csv]
  | b :: l, s, h => by
    simp at h
    have e : (b :: l) ++ c :: d :: s = b :: (l ++ c :: d :: s) := rfl
    rw [e, csv, if_neg (fun q => h.1 q.1.symm), csv_app s h.2]; rfl
theorem csv_one {c d : UInt8} : ∀ {p : List UInt8}, c ∉ p → csv c d p = [p]
  | [], _ => by simp [csv]
  | b :: l, h => by
    simp at h
    rw [csv, if_neg (fun q => h.1 q.1.symm), csv_one h.2]; rfl
theorem csv_join {c d : UInt8} : ∀ (ps : List (List UInt8)), ps ≠ [] → (∀ p ∈ ps, c ∉ p) → csv c d (join ps [c, d]) = ps
  | [], h, _ => absurd rfl h
  | [p], _, h => by rw [join_one, csv_one (h p (by simp))]
  | p :: q :: r, _, h => by
    have ih := csv_join (c := c) (d := d) (q :: r) (by simp) (fun x hx => h x (by simp [hx]))
    rw [join_cons] at ih ⊢
    have e : p ++ joinTail [c, d] (q :: r) = p ++ c :: d :: (q ++ joinTail [c, d] r) := by simp [joinTail]
    rw [e, csv_app _ (h p (by simp)), ih]
theorem join_csv {c d : UInt8} (s : List UInt8) : join (csv c d s) [c, d] = s := by
  match s with
  | [] => simp [csv, join_one]
  | b :: l =>
    unfold csv
    split
    · rename_i h
      have ih := join_csv (c := c) (d := d) l.tail
      cases l with
      | nil => simp at h
      | cons x r =>
        simp at h ih
        obtain ⟨rfl, rfl⟩ := h
        cases hd : csv b x r with
        | nil => exact absurd hd (csv_ne b x r)
        | cons y t =>
          rw [hd, join_cons] at ih
          rw [List.tail_cons, hd, join_cons]
          simp [joinTail] at ih ⊢; exact ih
    · have ih := join_csv (c := c) (d := d) l
      cases hd : csv c d l with
      | nil => exact absurd hd (csv_ne c d l)
      | cons y t =>
        rw [hd, join_cons] at ih
        simp only [consH]
        rw [join_cons, List.cons_append, ih]
termination_by s.length
decreasing_by all_goals simp <;> omega
theorem cndsV_ok : ∀ {ps : List (List UInt8)} {l : List Cnd}, cndsV ps = some l → l.map textC = ps ∧ ∀ c ∈ l, COk c
  | [], l, h => by simp [cndsV] at h; subst h; simp
  | p :: r, l, h => by
    unfold cndsV at h
    split at h
    · rename_i x m hx hm
      simp at h; subst h
      obtain ⟨h1, h2⟩ := cndsV_ok hm
      obtain ⟨h3, h4⟩ := cndV_ok hx
      refine ⟨by simp [h1, h4], fun y hy => ?_⟩
      rcases List.mem_cons.1 hy with rfl | hy
      · exact h3
      · exact h2 y hy
    · simp at h
theorem cndsV_map : ∀ {l : List Cnd}, (∀ c ∈ l, COk c) → cndsV (l.map textC) = some l
  | [], _ => rfl
  | x :: l, h => by
    simp only [List.map_cons, cndsV]
    rw [cndV_text (h x (by simp)), cndsV_map (fun y hy => h y (by simp [hy]))]
theorem textC_ne (c : Cnd) : textC c ≠ [] := by unfold textC; simp
theorem textR_nil {l : List Cnd} : textR l = [] ↔ l = [] := by
  cases l with
  | nil => simp [textR, join_nil]
  | cons c r => simp only [textR, List.map_cons, join_cons]; simp [textC_ne]
theorem condsV_text {l : List Cnd} (h : ∀ c ∈ l, COk c) (hl : l.length ≤ 20) : condsV (textR l) = some l := by
  unfold condsV
  by_cases e : l = []
  · subst e; rw [if_pos (by simp [textR, join_nil])]
  · rw [if_neg (fun q => e (textR_nil.1 q))]
    unfold textR
    rw [csv_join _ (by simpa using e) (by intro p hp; obtain ⟨c, hc, rfl⟩ := List.mem_map.1 hp; exact textC_no (h c hc)), cndsV_map h]
    simp only
    rw [if_pos hl]
theorem condsV_ok {r : List UInt8} {l : List Cnd} (h : condsV r = some l) : textR l = r ∧ (∀ c ∈ l, COk c) ∧ l.length ≤ 20 := by
  unfold condsV at h
  split at h
  · rename_i e; simp at h; subst h; subst e; simp [textR, join_nil]
  · split at h
    · rename_i m hm
      split at h
      · rename_i hl
        simp at h; subst h
        obtain ⟨h1, h2⟩ := cndsV_ok hm
        refine ⟨?_, h2, hl⟩
        unfold textR; rw [h1, join_csv]
      · simp at h
    · simp at h
theorem textR_app {a b : List Cnd} (ha : a ≠ []) (hb : b ≠ []) : textR (a ++ b) = textR a ++ 44 :: 32 :: textR b := by
  unfold textR
  cases a with
  | nil => exact absurd rfl ha
  | cons x r =>
    cases b with
    | nil => exact absurd rfl hb
    | cons y t => simp [join_cons, joinTail]
/-! what meets -/
def metV (l : List Seg) (c : Cnd) : Bool :=
  if c.1 = [61] then decide (cmpV l c.2 = 0) else if c.1 = [33, 61] then decide (cmpV l c.2 ≠ 0) else if c.1 = [62] then decide (0 < cmpV l c.2)
  else if c.1 = [60] then decide (cmpV l c.2 < 0) else if c.1 = [62, 61] then decide (0 ≤ cmpV l c.2) else if c.1 = [60, 61] then decide (cmpV l c.2 ≤ 0)
  else decide (0 ≤ cmpV l c.2) && decide (cmpV l (bumpV c.2) < 0)
def meetsV (l : List Seg) (cs : List Cnd) : Bool := cs.all (metV l) && (!preV l || cs.any fun c => preV c.2)
end Go.Ver

set_option linter.unusedVariables false
set_option linter.unusedSimpArgs false
namespace Go.Ver
open Go.Lib Go.Wh
/-! versions of numbers -/
def sfx (k : Nat) : List Seg :=
  match k with
  | 0 => [([], 0)]
  | 1 => [([], 1)]
  | 2 => [([], 2)]
  | 3 => [([97], 0)]
  | 4 => [([98], 0)]
  | 5 => [([], 10)]
  | _ => [([], 0), ([], 0)]
/-- .0 .1 .2 .a .b .10 .0.0 -/
def sfxT : List (List UInt8) := [[46, 48], [46, 49], [46, 50], [46, 97], [46, 98], [46, 49, 48], [46, 48, 46, 48]]
def madeGo (u : Nat) (l : List Seg) : List Seg :=
  if 0 < u % 5 then (if 12 < (textV (l ++ sfx (u / 5 % 7))).length then l ++ sfx (u / 5 % 7) else madeGo (u / 35) (l ++ sfx (u / 5 % 7))) else l
termination_by u
decreasing_by omega
def madeV (u : Nat) : List Seg := madeGo (u / 4) [([], ((u % 4 : Nat) : Int))]
theorem textV_app {l m : List Seg} (hl : l ≠ []) : textV (l ++ m) = textV l ++ joinTail [46] (m.map segT) := by
  unfold textV
  cases l with
  | nil => exact absurd rfl hl
  | cons x r => simp [join_cons, joinTail]
theorem itoa_0 : itoa 0 = [48] := by unfold itoa; rw [if_neg (by omega)]; simp [decDigits]
theorem itoa_1 : itoa 1 = [49] := by unfold itoa; rw [if_neg (by omega)]; simp [decDigits]
theorem itoa_2 : itoa 2 = [50] := by unfold itoa; rw [if_neg (by omega)]; simp [decDigits]
theorem itoa_3 : itoa 3 = [51] := by unfold itoa; rw [if_neg (by omega)]; simp [decDigits]
theorem itoa_10 : itoa 10 = [49, 48] := by
  unfold itoa; rw [if_neg (by omega)]
  show decDigits 10 = _
  rw [decDigits, dif_neg (by decide), decDigits, dif_pos (by decide)]
  decide
theorem sfx_text {k : Nat} (h : k < 7) : sfxT[k]? = some (joinTail [46] ((sfx k).map segT)) := by
  have : k = 0 ∨ k = 1 ∨ k = 2 ∨ k = 3 ∨ k = 4 ∨ k = 5 ∨ k = 6 := by omega
  rcases this with rfl | rfl | rfl | rfl | rfl | rfl | rfl <;> simp [sfxT, sfx, segT, joinTail, itoa_0, itoa_1, itoa_2, itoa_10]
/-- a made segment -/
def MSeg (x : Seg) : Prop := SegOk x ∧ 0 ≤ x.2 ∧ x.2 ≤ 10 ∧ x.1.length ≤ 1
theorem sfx_seg (k : Nat) : ∀ x ∈ sfx k, MSeg x := by
  unfold sfx
  split <;> simp [MSeg, SegOk] <;> decide
theorem sfx_len (k : Nat) : (sfx k).length ≤ 2 ∧ 1 ≤ (sfx k).length ∧ 2 * (sfx k).length ≤ (joinTail [46] ((sfx k).map segT)).length ∧ (joinTail [46] ((sfx k).map segT)).length ≤ 4 := by
  unfold sfx
  split <;> simp [segT, joinTail, itoa_0, itoa_1, itoa_2, itoa_10]
def MHead (l : List Seg) : Prop := ∃ n : Int, l.head? = some ([], n) ∧ 0 ≤ n ∧ n ≤ 3
/-- what is known of a made version -/
def MOk (l : List Seg) : Prop := VOk l ∧ (textV l).length ≤ 16 ∧ (∀ x ∈ l, MSeg x) ∧ MHead l
theorem madeGo_ok (u : Nat) (l : List Seg) (h1 : l ≠ []) (h2 : (textV l).length ≤ 12) (h3 : 2 * l.length ≤ (textV l).length + 1) (h4 : ∀ x ∈ l, MSeg x) (h5 : MHead l) : MOk (madeGo u l) := by
  unfold madeGo
  have hv : ∀ m : List Seg, m.length ≤ 2 → (∀ x ∈ m, MSeg x) → VOk (l ++ m) := fun m hm hx => by
    obtain ⟨n, e, _⟩ := h5
    refine ⟨by simp; omega, ?_, fun x hx' => ?_⟩
    · cases l with
      | nil => exact absurd rfl h1
      | cons y r => simp at e; subst e; rfl
    · rcases List.mem_append.1 hx' with h | h
      · exact (h4 x h).1
      · exact (hx x h).1
  have hh : ∀ m : List Seg, MHead (l ++ m) := fun m => by
    obtain ⟨n, e, q⟩ := h5
    refine ⟨n, ?_, q⟩
    cases l with
    | nil => exact absurd rfl h1
    | cons y r => simpa using e
  split
  · rename_i hu
    obtain ⟨a, b, c, d⟩ := sfx_len (u / 5 % 7)
    have hs := sfx_seg (u / 5 % 7)
    have hm : ∀ x ∈ l ++ sfx (u / 5 % 7), MSeg x := fun x hx => by
      rcases List.mem_append.1 hx with h | h
      · exact h4 x h
      · exact hs x h
    have ht := textV_app (m := sfx (u / 5 % 7)) h1
    have hl := congrArg List.length ht
    rw [List.length_append] at hl
    split
    · exact ⟨hv _ a hs, by omega, hm, hh _⟩
    · exact madeGo_ok (u / 35) _ (by simp [h1]) (by omega) (by rw [List.length_append]; omega) hm (hh _)
  · refine ⟨?_, by omega, h4, h5⟩
    have := hv [] (by simp) (by simp)
    simpa using this
termination_by u
decreasing_by omega
theorem madeV_ok (u : Nat) : MOk (madeV u) := by
  unfold madeV
  have hk : u % 4 = 0 ∨ u % 4 = 1 ∨ u % 4 = 2 ∨ u % 4 = 3 := by omega
  refine madeGo_ok _ _ (by simp) ?_ ?_ ?_ ⟨_, rfl, by omega, by omega⟩
  · rcases hk with h | h | h | h <;> simp [h, textV, join_one, segT, itoa_0, itoa_1, itoa_2, itoa_3]
  · rcases hk with h | h | h | h <;> simp [h, textV, join_one, segT, itoa_0, itoa_1, itoa_2, itoa_3]
  · simp [MSeg, SegOk]; omega
/-- the conditions of numbers -/
def askV (l : List Nat) : List Cnd := (l.take 4).map fun u => ((opsV[u % 7]?).getD [], madeV (u / 7))
theorem askV_ok (l : List Nat) : (∀ c ∈ askV l, COk c) ∧ (askV l).length ≤ 4 := by
  refine ⟨fun c hc => ?_, by unfold askV; simp; omega⟩
  obtain ⟨u, _, rfl⟩ := List.mem_map.1 hc
  obtain ⟨h1, h2, _⟩ := madeV_ok (u / 7)
  refine ⟨?_, h1, by simp only; omega⟩
  have hk : u % 7 < opsV.length := by simp [opsV]; omega
  simp only
  rw [List.getElem?_eq_getElem hk]
  exact List.getElem_mem hk
theorem MOk.read {l : List Seg} (h : MOk l) : readV (textV l) = some l := readV_text h.1 (by have := h.2.1; omega)
end Go.Ver

set_option linter.unusedVariables false
set_option linter.unusedSimpArgs false
namespace Go.Ver
open Go.Lib Go.Wh
theorem MHead.at {l : List Seg} (h : MHead l) : ∃ n : Int, atV l 0 = ([], n) ∧ 0 ≤ n ∧ n ≤ 3 := by
  obtain ⟨n, e, q⟩ := h
  refine ⟨n, ?_, q⟩
  cases l with
  | nil => simp at e
  | cons y r => simp at e; subst e; rfl
/-- 9.a -/
def naV : List Seg := [([], 9), ([97], 0)]
theorem itoa_9 : itoa 9 = [57] := by unfold itoa; rw [if_neg (by omega)]; simp [decDigits]
theorem naV_text : textV naV = [57, 46, 97] := by simp [textV, naV, join_cons, joinTail, segT, itoa_9]
theorem naV_ok : VOk naV := by
  refine ⟨by decide, rfl, ?_⟩
  simp [naV, SegOk]; decide
theorem cmp_nine {w m : List Seg} (hw : MOk w) (hm : (atV m 0) = ([], 9)) : cmpV w m ≠ 0 := by
  obtain ⟨n, e, h1, h2⟩ := hw.2.2.2.at
  intro h
  have := cmpV_zero.1 h 0
  rw [e, hm] at this
  simp at this; omega
/-! Tidy -/
end Go.Ver

set_option linter.unusedVariables false
set_option linter.unusedSimpArgs false
namespace Go.Ver
open Go.Lib
/-! cut at a blank, parts of a requirement -/
theorem cut_cutS : ∀ p : List UInt8, cut p [32] = match cutS p with | some (o, v) => (o, v, true) | none => (p, [], false)
  | [] => by unfold cut; simp [index, cutS]
  | b :: l => by
    have ih := cut_cutS l
    have hge := index_ge l [32]
    by_cases h : b = 32
    · subst h
      have e : index (32 :: l) [32] = 0 := by unfold index; simp
      unfold cut
      rw [e]
      simp [cutS]
    · have hp : ([32] : List UInt8).isPrefixOf (b :: l) = false := by
        rw [Bool.eq_false_iff]; intro q; simp at q; exact h q.symm
      have e : index (b :: l) [32] = if index l [32] == -1 then -1 else index l [32] + 1 := by
        conv => lhs; unfold index
        simp [hp]
      have ec : cutS (b :: l) = (cutS l).map fun p => (b :: p.1, p.2) := by
        conv => lhs; unfold cutS
        rw [if_neg h]
      rw [ec]
      by_cases h1 : index l [32] = -1
      · have e2 : index (b :: l) [32] = -1 := by rw [e, h1]; rfl
        unfold cut at ih ⊢
        rw [e2]
        rw [h1] at ih
        cases hc : cutS l with
        | none => simp
        | some q => rw [hc] at ih; simp at ih
      · obtain ⟨i, hi⟩ : ∃ i : Nat, index l [32] = i := ⟨(index l [32]).toNat, by omega⟩
        have e2 : index (b :: l) [32] = ((i + 1 : Nat) : Int) := by rw [e, hi, if_neg (by simp)]; rfl
        unfold cut at ih ⊢
        rw [e2]
        rw [hi] at ih
        rw [if_pos (by omega)] at ih ⊢
        cases hc : cutS l with
        | none => rw [hc] at ih; simp at ih
        | some q =>
          obtain ⟨o, v⟩ := q
          rw [hc] at ih
          simp at ih
          simp [ih.1, ← ih.2]
theorem cut_cnd {p o v : List UInt8} {is : Bool} (h : cut p [32] = (o, v, is)) : cndV p = if is = true ∧ o ∈ opsV then (readV v).map fun l => (o, l) else none := by
  have e := cut_cutS p
  rw [h] at e
  unfold cndV
  cases hc : cutS p with
  | none =>
    rw [hc] at e
    simp only [Prod.mk.injEq] at e
    obtain ⟨_, _, e3⟩ := e
    subst e3
    simp
  | some q =>
    obtain ⟨o', v'⟩ := q
    rw [hc] at e
    simp only [Prod.mk.injEq] at e
    obtain ⟨e1, e2, e3⟩ := e
    subst e1 e2 e3
    simp
theorem cut_len {p o v : List UInt8} {is : Bool} (h : cut p [32] = (o, v, is)) : v.length ≤ p.length := by
  unfold cut at h
  split at h
  · simp at h; rw [← h.2.1]; simp
  · simp at h; rw [h.2.1]; simp
theorem csv_len (c d : UInt8) (s : List UInt8) : (csv c d s).length ≤ s.length + 1 := by
  match s with
  | [] => simp [csv]
  | b :: l =>
    unfold csv
    split
    · have := csv_len c d l.tail
      simp at this ⊢; omega
    · have := csv_len c d l
      cases hd : csv c d l with
      | nil => simp [consH]
      | cons h t => rw [hd] at this; simp [consH] at this ⊢; omega
termination_by s.length
decreasing_by all_goals simp; try omega
theorem csv_part (c d : UInt8) (s : List UInt8) : ∀ p ∈ csv c d s, p.length ≤ s.length := by
  match s with
  | [] => intro p hp; simp [csv] at hp; subst hp; simp
  | b :: l =>
    intro p hp
    unfold csv at hp
    split at hp
    · have ih := csv_part c d l.tail
      rcases List.mem_cons.1 hp with rfl | hp
      · simp
      · have := ih p hp; simp at this ⊢; omega
    · have ih := csv_part c d l
      cases hd : csv c d l with
      | nil => exact absurd hd (csv_ne c d l)
      | cons h t =>
        rw [hd] at hp ih
        simp only [consH, List.mem_cons] at hp
        rcases hp with rfl | hp
        · have := ih h (by simp); simp; omega
        · have := ih p (by simp [hp]); simp; omega
termination_by s.length
decreasing_by all_goals simp; try omega
theorem cndsV_snoc {a : List (List UInt8)} {l : List Cnd} {p : List UInt8} {x : Cnd} (h : cndsV a = some l) (hx : cndV p = some x) : cndsV (a ++ [p]) = some (l ++ [x]) := by
  induction a generalizing l with
  | nil => simp [cndsV] at h ⊢; subst h; simp [hx]
  | cons q r ih =>
    unfold cndsV at h
    split at h
    · rename_i y m hy hm
      simp at h; subst h
      simp only [List.cons_append, cndsV, hy, ih hm]
    · simp at h
theorem cndsV_bad {ps : List (List UInt8)} {p : List UInt8} (hp : p ∈ ps) (h : cndV p = none) : cndsV ps = none := by
  induction ps with
  | nil => simp at hp
  | cons q r ih =>
    unfold cndsV
    rcases List.mem_cons.1 hp with rfl | hp
    · rw [h]
    · rw [ih hp]; cases cndV q <;> rfl
/-- what conditions tells -/
def condsP (r : List UInt8) : List Cnd := if r = [] then [] else (cndsV (csv 44 32 r)).getD []
theorem condsP_of {r : List UInt8} {l : List Cnd} (h : condsV r = some l) : condsP r = l := by
  unfold condsV at h
  unfold condsP
  split at h
  · rename_i h0; rw [if_pos h0]; simpa using h
  · rename_i h0
    rw [if_neg h0]
    split at h
    · rename_i m hm
      rw [hm]
      split at h <;> simp at h
      exact h
    · simp at h
end Go.Ver

set_option linter.unusedVariables false
set_option linter.unusedSimpArgs false
namespace Go.Ver
open Go.Lib
/-! what the exported functions tell -/
def readP (v : List UInt8) : List Seg := if 60 < v.length then [] else (segsV (dots 46 v)).getD []
theorem readP_of {v : List UInt8} {l : List Seg} (h : readV v = some l) : readP v = l := by
  unfold readV at h
  unfold readP
  split at h
  · simp at h
  · rename_i h0
    rw [if_neg h0]
    split at h
    · rename_i m hm
      rw [hm]
      split at h <;> simp at h
      exact h
    · simp at h
theorem read_ok {v : List UInt8} (h : (readV v).isSome = true) : readV v = some (readP v) ∧ VOk (readP v) ∧ textV (readP v) = v ∧ v.length ≤ 60 := by
  obtain ⟨l, hl⟩ := Option.isSome_iff_exists.1 h
  have := readP_of hl
  rw [this]
  exact ⟨hl, readV_ok hl⟩
theorem conds_ok {r : List UInt8} (h : (condsV r).isSome = true) : condsV r = some (condsP r) ∧ (∀ c ∈ condsP r, COk c) ∧ (condsP r).length ≤ 20 := by
  obtain ⟨l, hl⟩ := Option.isSome_iff_exists.1 h
  have := condsP_of hl
  rw [this]
  exact ⟨hl, (condsV_ok hl).2⟩
def codeP (b : Bool) : Int := if b = true then 0 else 4
def compareP (v w : List UInt8) : Int := if ((readV v).isSome && (readV w).isSome) = true then cmpV (readP v) (readP w) else 0
def meetsP (v r : List UInt8) : Bool := if ((readV v).isSome && (condsV r).isSome) = true then meetsV (readP v) (condsP r) else false
theorem joinTail_len {k j : Nat} {sep : List UInt8} (hs : sep.length ≤ j) : ∀ {l : List (List UInt8)}, (∀ p ∈ l, p.length ≤ k) → (joinTail sep l).length ≤ (k + j) * l.length
  | [], _ => by simp [joinTail]
  | p :: l, h => by
    have h1 := h p (by simp)
    have h2 := joinTail_len hs (l := l) (fun q hq => h q (by simp [hq]))
    have e : joinTail sep (p :: l) = sep ++ p ++ joinTail sep l := by simp [joinTail]
    rw [e]
    simp only [List.length_append, List.length_cons]
    rw [Nat.mul_add, Nat.mul_one]
    omega
theorem textR_small {l : List Cnd} {k : Nat} (hl : l.length ≤ k) (h : ∀ c ∈ l, COk c) : (textR l).length ≤ 65 * k := by
  have hc : ∀ p ∈ l.map textC, p.length ≤ 63 := by
    intro p hp
    obtain ⟨c, hc, rfl⟩ := List.mem_map.1 hp
    obtain ⟨h1, _, h3⟩ := h c hc
    have : c.1.length ≤ 2 := by
      simp only [opsV, List.mem_cons, List.not_mem_nil, or_false] at h1
      rcases h1 with h | h | h | h | h | h | h <;> rw [h] <;> simp
    simp [textC]; omega
  unfold textR
  cases l with
  | nil => simp [join_nil]
  | cons x r =>
    rw [List.map_cons, join_cons, List.length_append]
    rw [List.map_cons] at hc
    have h1 := hc _ (List.mem_cons_self ..)
    have h2 := joinTail_len (k := 63) (j := 2) (sep := [44, 32]) (by simp) (fun p hp => hc p (List.mem_cons_of_mem _ hp))
    simp only [List.length_map] at h2
    simp only [List.length_cons] at hl
    have h3 : (63 + 2) * r.length + 65 ≤ 65 * k := by omega
    omega
end Go.Ver

set_option linter.unusedVariables false
set_option linter.unusedSimpArgs false
namespace Go.Ver
open Go.Lib Go.Wh
/-- what ref.segment tells -/
def rsP (s : List UInt8) : Seg := if s = [] ∨ 10 < s.length then z0s else if s.all isL = true then (s, 0) else if s.all isD = true then ([], (decVal s : Int)) else z0s
theorem rsP_of {s : List UInt8} {x : Seg} (h : segV s = some x) : rsP s = x := by
  unfold segV at h
  unfold rsP
  split at h
  · simp at h
  · rename_i h0
    rw [if_neg h0]
    split at h
    · rename_i h1; rw [if_pos h1]; simpa using h
    · rename_i h1
      rw [if_neg h1]
      split at h
      · rename_i h2
        simp only [Bool.and_eq_true] at h2
        rw [if_pos h2.1.1]; simpa using h
      · simp at h
theorem rs_none {s : List UInt8} (h : s = [] ∨ 10 < s.length) : rsP s = z0s ∧ (segV s).isSome = false := by
  unfold rsP segV; rw [if_pos h, if_pos h]; exact ⟨rfl, rfl⟩
theorem rs_L {s : List UInt8} (h : ¬ (s = [] ∨ 10 < s.length)) (h1 : s.all isL = true) : rsP s = (s, 0) ∧ (segV s).isSome = true := by
  unfold rsP segV; rw [if_neg h, if_neg h, if_pos h1, if_pos h1]; exact ⟨rfl, rfl⟩
theorem rs_bad {s : List UInt8} (h : ¬ (s = [] ∨ 10 < s.length)) (h1 : ¬ s.all isL = true) (h2 : ¬ s.all isD = true) : rsP s = z0s ∧ (segV s).isSome = false := by
  unfold rsP segV; rw [if_neg h, if_neg h, if_neg h1, if_neg h1, if_neg h2, if_neg (by simp [h2])]; exact ⟨rfl, rfl⟩
theorem rs_num {s : List UInt8} (h : ¬ (s = [] ∨ 10 < s.length)) (h1 : ¬ s.all isL = true) (h2 : s.all isD = true) : rsP s = ([], (decVal s : Int)) ∧ (segV s).isSome = (decide (decVal s ≤ 1000000000) && decide (itoa (decVal s : Int) = s)) := by
  unfold rsP segV; rw [if_neg h, if_neg h, if_neg h1, if_neg h1, if_pos h2]
  refine ⟨rfl, ?_⟩
  have hne : s ≠ [] := fun e => h (.inl e)
  have hD : ∀ c ∈ s, isD c = true := by simpa using h2
  have e : itoa (decVal s : Int) = decDigits (decVal s) := by unfold itoa; rw [if_neg (by omega), Int.toNat_natCast]
  rw [e]
  have hq : (s.head? ≠ some 48 ∨ s = [48]) ↔ decDigits (decVal s) = s := by
    refine ⟨fun q => dec_back hne q hD, fun q => ?_⟩
    by_cases h0 : decVal s = 0
    · right; rw [h0] at q; rw [← q, decDigits]; rfl
    · left; have := decDigits_head _ h0; rw [q] at this; exact this
  rw [h2]
  by_cases ha : s.head? ≠ some 48 ∨ s = [48]
  · have hb := hq.1 ha
    by_cases hc : decVal s ≤ 1000000000
    · rw [if_pos (by simp only [Bool.and_eq_true, Bool.or_eq_true, decide_eq_true_eq]; exact ⟨⟨trivial, ha⟩, hc⟩)]; simp [hb, hc]
    · rw [if_neg (by simp [hc])]; simp [hc]
  · have hb : ¬ decDigits (decVal s) = s := fun q => ha (hq.2 q)
    rw [if_neg (by
      intro q
      simp only [Bool.and_eq_true, Bool.or_eq_true, decide_eq_true_eq] at q
      exact ha q.1.2)]
    simp [hb]
/-- what ref.read tells -/
def readR (v : List UInt8) : List Seg := if (readV v).isSome = true then readP v else []
theorem readR_of {v : List UInt8} {l : List Seg} (h : readV v = some l) : readR v = l := by
  unfold readR; rw [h, readP_of h]; rfl
theorem readV_big {v : List UInt8} (h : 60 < v.length ∨ 8 < (dots 46 v).length) : readV v = none := by
  unfold readV
  by_cases h0 : 60 < v.length
  · rw [if_pos h0]
  · rw [if_neg h0]
    have h1 : 8 < (dots 46 v).length := h.resolve_left h0
    split
    · rename_i l hl
      have := congrArg List.length (segsV_ok hl).1
      simp at this
      rw [if_neg (by omega)]
    · rfl
theorem readV_part {v p : List UInt8} (hp : p ∈ dots 46 v) (h : segsV (dots 46 v) = none) : readV v = none := by
  unfold readV; rw [h]; split <;> rfl
theorem readV_word {v p : List UInt8} {x : Seg} (hp : (dots 46 v)[0]? = some p) (hx : segV p = some x) (hw : x.1 ≠ []) : readV v = none := by
  unfold readV
  split
  · rfl
  · cases hd : dots 46 v with
    | nil => rw [hd] at hp; simp at hp
    | cons q r =>
      rw [hd] at hp
      simp at hp
      subst hp
      unfold segsV
      rw [hx]
      cases segsV r with
      | none => rfl
      | some l => simp [hw]
theorem readV_good {v : List UInt8} {l : List Seg} (h : ¬ (60 < v.length ∨ 8 < (dots 46 v).length)) (hs : segsV (dots 46 v) = some l) (hw : l.head?.map (·.1) = some []) : readV v = some l := by
  unfold readV
  have := congrArg List.length (segsV_ok hs).1
  simp at this
  rw [if_neg (fun q => h (.inl q)), hs]
  simp only
  rw [if_pos ⟨by omega, hw⟩]
theorem all_snoc {α : Type} {p : α → Bool} {l : List α} {i : Nat} {x : α} (h : (l.take i).all p = true) (hx : l[i]? = some x) (hp : p x = true) : (l.take (i + 1)).all p = true := by
  rw [List.take_add_one, hx, List.all_append, h]; simpa using hp
theorem all_not {α : Type} {p : α → Bool} {l : List α} {i : Nat} {x : α} (hx : l[i]? = some x) (hp : ¬ p x = true) : ¬ l.all p = true := by
  intro h; exact hp (List.all_eq_true.1 h x (List.mem_of_getElem? hx))
theorem decVal_take {s : List UInt8} {i : Nat} {c : UInt8} (h : s[i]? = some c) : decVal (s.take (i + 1)) = decVal (s.take i) * 10 + dgt c := by
  rw [List.take_add_one, h]; exact decVal_snoc _ _
end Go.Ver

set_option linter.unusedVariables false
set_option linter.unusedSimpArgs false
namespace Go.Ver
open Go.Lib Go.Wh
/-! ref's two -/
def sgV (a b : Bool) : Int := if a = true then -1 else if b = true then 1 else 0
theorem bl_lt : ∀ x y : List UInt8, Op.bytesLess x y = decide (compareBytes x y < 0)
  | [], [] => by simp [Op.bytesLess, compareBytes]
  | [], _ :: _ => by simp [Op.bytesLess, compareBytes]
  | _ :: _, [] => by simp [Op.bytesLess, compareBytes]
  | a :: x, b :: y => by
    have ih := bl_lt x y
    unfold Op.bytesLess compareBytes
    by_cases h : a < b
    · simp [h]
    · by_cases h2 : b < a
      · have h3 : ¬ a = b := fun e => by subst e; exact absurd h2 h
        simp [h, h2, h3]
      · have h3 : a = b := by
          apply UInt8.toNat_inj.1
          rw [UInt8.lt_iff_toNat_lt] at *; omega
        simp [h3, ih]
theorem bl_gt (x y : List UInt8) : Op.bytesLess y x = decide (0 < compareBytes x y) := by
  rw [bl_lt, cb_neg y x]; congr 1; apply propext; omega
theorem two_mixed {x y : Seg} (h : ¬ (x.1 = [] ↔ y.1 = [])) : sgV (decide (x.1 ≠ [])) (decide (y.1 ≠ [])) = seg2 x y := by
  unfold sgV seg2
  by_cases h1 : x.1 = [] <;> by_cases h2 : y.1 = [] <;> simp [h1, h2] at h ⊢
theorem two_word {x y : Seg} (h : x.1 ≠ []) (h2 : y.1 ≠ []) (hx : x.1 ≠ [] → x.2 = 0) (hy : y.1 ≠ [] → y.2 = 0) : sgV (Op.bytesLess x.1 y.1) (Op.bytesLess y.1 x.1) = seg2 x y := by
  unfold sgV seg2
  rw [bl_lt, bl_gt, hx h, hy h2]
  simp only [h, h2, and_false, false_and, if_false, ne_eq, not_false_eq_true, not_true_eq_false]
  rcases cb_val x.1 y.1 with e | e | e <;> simp [e, compareInt]
theorem two_num {x y : Seg} (h : x.1 = []) (h2 : y.1 = []) : sgV (decide (x.2 < y.2)) (decide (y.2 < x.2)) = seg2 x y := by
  unfold sgV seg2
  rw [h, h2]
  simp only [ne_eq, not_true_eq_false, false_and, and_false, if_false, compareBytes, compareInt]
  by_cases h3 : x.2 < y.2
  · simp [h3]
  · by_cases h4 : y.2 < x.2 <;> simp [h3, h4]
end Go.Ver

set_option linter.unusedVariables false
set_option linter.unusedSimpArgs false
namespace Go.Ver
open Go.Lib Go.Wh
theorem cut_miss {p o v : List UInt8} (h : cut p [32] = (o, v, false)) : v = [] ∧ cndV p = none := by
  refine ⟨?_, by rw [cut_cnd h]; simp⟩
  have := cut_cutS p
  rw [h] at this
  cases hc : cutS p with
  | none => rw [hc] at this; simp at this; exact this.2
  | some q => rw [hc] at this; simp at this
theorem readV_nil : readV [] = none := by decide
theorem words_eq (l : List Seg) : decide (wordsV l = l.length) = !preV l := by
  have h1 := wordsV_lt l
  have h2 := wordsV_le l
  rw [← h1]
  by_cases h : wordsV l < l.length
  · have : ¬ wordsV l = l.length := by omega
    simp [h, this]
  · have : wordsV l = l.length := by omega
    simp [h, this]
theorem any_take {α : Type} {p : α → Bool} {l : List α} {i : Nat} {x : α} (h : l[i]? = some x) : (l.take (i + 1)).any p = ((l.take i).any p || p x) := by
  rw [List.take_add_one, h, List.any_append]; simp
end Go.Ver

set_option linter.unusedVariables false
set_option linter.unusedSimpArgs false
namespace Go.Ver
open Go.Lib Go.Wh
def sumT : List (List UInt8) → Nat
  | [] => 0
  | s :: l => (s.length + 1) + sumT l
theorem sumT_app (a b : List (List UInt8)) : sumT (a ++ b) = sumT a + sumT b := by
  induction a with
  | nil => simp [sumT]
  | cons x r ih => simp only [List.cons_append, sumT, ih]; omega
theorem sumT_step {l : List (List UInt8)} {i : Nat} {s : List UInt8} (h : l[i]? = some s) : sumT (l.take (i + 1)) = sumT (l.take i) + (s.length + 1) := by
  rw [List.take_add_one, h, sumT_app]; simp [sumT]
theorem sumT_le (l : List (List UInt8)) (i : Nat) : sumT (l.take i) ≤ sumT l := by
  conv => rhs; rw [← List.take_append_drop i l, sumT_app]
  omega
theorem sumT_mem {l : List (List UInt8)} {s : List UInt8} (h : s ∈ l) : s.length < sumT l := by
  induction l with
  | nil => simp at h
  | cons x r ih => rcases List.mem_cons.1 h with rfl | h
                   · simp only [sumT]; omega
                   · have := ih h; simp only [sumT]; omega
end Go.Ver

set_option linter.unusedVariables false
set_option linter.unusedSimpArgs false
namespace Go.Ver
/-! stable sorting: lt x y: x stands before y -/
variable {α : Type} {lt : α → α → Bool}
def mergeL (lt : α → α → Bool) : List α → List α → List α
  | [], R => R
  | L, [] => L
  | l :: L, r :: R => if lt r l = true then r :: mergeL lt (l :: L) R else l :: mergeL lt L (r :: R)
termination_by L R => L.length + R.length
def Srt (lt : α → α → Bool) (l : List α) : Prop := l.Pairwise fun x y => lt y x = false
/-- a weak order -/
structure Weakly (lt : α → α → Bool) : Prop where
  anti : ∀ x y, lt x y = true → lt y x = false
  neg : ∀ x y z, lt y x = false → lt z y = false → lt z x = false
theorem merge_nil_r (L : List α) : mergeL lt L [] = L := by cases L <;> simp [mergeL]
theorem merge_nil_l (R : List α) : mergeL lt [] R = R := by simp [mergeL]
theorem merge_cons (l : α) (L : List α) (r : α) (R : List α) : mergeL lt (l :: L) (r :: R) = if lt r l = true then r :: mergeL lt (l :: L) R else l :: mergeL lt L (r :: R) := by
  rw [mergeL]
theorem merge_mem : ∀ {L R : List α} {x : α}, x ∈ mergeL lt L R ↔ x ∈ L ∨ x ∈ R
  | [], R, x => by simp [merge_nil_l]
  | l :: L, [], x => by simp [merge_nil_r]
  | l :: L, r :: R, x => by
    rw [merge_cons]
    split
    · rw [List.mem_cons, merge_mem]; simp only [List.mem_cons]; grind
    · rw [List.mem_cons, merge_mem]; simp only [List.mem_cons]; grind
termination_by L R => L.length + R.length
theorem merge_srt (w : Weakly lt) : ∀ {L R : List α}, Srt lt L → Srt lt R → Srt lt (mergeL lt L R)
  | [], R, _, h => by rw [merge_nil_l]; exact h
  | l :: L, [], h, _ => by rw [merge_nil_r]; exact h
  | l :: L, r :: R, h1, h2 => by
    have a1 := List.pairwise_cons.1 h1
    have a2 := List.pairwise_cons.1 h2
    rw [merge_cons]
    split
    · rename_i h
      refine List.pairwise_cons.2 ⟨fun y hy => ?_, merge_srt w h1 a2.2⟩
      rcases merge_mem.1 hy with hy | hy
      · rcases List.mem_cons.1 hy with rfl | hy
        · exact w.anti _ _ h
        · exact w.neg _ _ _ (w.anti _ _ h) (a1.1 y hy)
      · exact a2.1 y hy
    · rename_i h
      have h' : lt r l = false := by simpa using h
      refine List.pairwise_cons.2 ⟨fun y hy => ?_, merge_srt w a1.2 h2⟩
      rcases merge_mem.1 hy with hy | hy
      · exact a1.1 y hy
      · rcases List.mem_cons.1 hy with rfl | hy
        · exact h'
        · exact w.neg _ _ _ h' (a2.1 y hy)
termination_by L R => L.length + R.length
/-- cut in two fitting places -/
theorem merge_split : ∀ {L1 L2 R1 R2 : List α}, (∀ x ∈ L1, ∀ y ∈ R2, lt y x = false) → (∀ y ∈ R1, ∀ x ∈ L2, lt y x = true) →
    mergeL lt (L1 ++ L2) (R1 ++ R2) = mergeL lt L1 R1 ++ mergeL lt L2 R2
  | [], L2, [], R2, _, _ => by simp [merge_nil_l]
  | [], L2, r :: R1, R2, h1, h2 => by
    rw [merge_nil_l]
    cases L2 with
    | nil => simp [merge_nil_l]
    | cons x L2 =>
      have ih := merge_split (L1 := []) (L2 := x :: L2) (R1 := R1) (R2 := R2) (by simp) (fun y hy => h2 y (by simp [hy]))
      simp only [List.nil_append, merge_nil_l] at ih
      simp only [List.nil_append, List.cons_append]
      rw [merge_cons, if_pos (h2 r (by simp) x (by simp)), ih]
  | l :: L1, L2, [], R2, h1, h2 => by
    rw [merge_nil_r]
    cases R2 with
    | nil => simp [merge_nil_r]
    | cons y R2 =>
      have ih := merge_split (L1 := L1) (L2 := L2) (R1 := []) (R2 := y :: R2) (fun x hx => h1 x (by simp [hx])) (by simp)
      simp only [List.nil_append, merge_nil_r] at ih
      simp only [List.nil_append, List.cons_append]
      rw [merge_cons, if_neg (by rw [h1 l (by simp) y (by simp)]; simp), ih]
  | l :: L1, L2, r :: R1, R2, h1, h2 => by
    simp only [List.cons_append]
    rw [merge_cons, merge_cons]
    have e1 := merge_split (L1 := l :: L1) (L2 := L2) (R1 := R1) (R2 := R2) h1 (fun y hy => h2 y (by simp [hy]))
    have e2 := merge_split (L1 := L1) (L2 := L2) (R1 := r :: R1) (R2 := R2) (fun x hx => h1 x (by simp [hx])) h2
    simp only [List.cons_append] at e1 e2
    split
    · rw [e1]; rfl
    · rw [e2]; rfl
termination_by L1 L2 R1 R2 => L1.length + R1.length
theorem merge_assoc (w : Weakly lt) : ∀ {A B C : List α}, Srt lt A → Srt lt B → Srt lt C → mergeL lt (mergeL lt A B) C = mergeL lt A (mergeL lt B C)
  | [], B, C, _, _, _ => by rw [merge_nil_l, merge_nil_l]
  | a :: A, [], C, _, _, _ => by rw [merge_nil_r, merge_nil_l]
  | a :: A, b :: B, [], _, _, _ => by rw [merge_nil_r, merge_nil_r]
  | a :: A, b :: B, c :: C, h1, h2, h3 => by
    have a1 := List.pairwise_cons.1 h1
    have a2 := List.pairwise_cons.1 h2
    have a3 := List.pairwise_cons.1 h3
    have i1 := merge_assoc w (A := a :: A) (B := b :: B) (C := C) h1 h2 a3.2
    have i2 := merge_assoc w (A := a :: A) (B := B) (C := c :: C) h1 a2.2 h3
    have i3 := merge_assoc w (A := A) (B := b :: B) (C := c :: C) a1.2 h2 h3
    rw [merge_cons a A b B, merge_cons b B c C]
    by_cases hba : lt b a = true
    · rw [if_pos hba, merge_cons b _ c C]
      by_cases hcb : lt c b = true
      · have hca : lt c a = true := by
          cases h : lt c a with
          | true => rfl
          | false =>
            have := w.neg a c b h (w.anti _ _ hcb)
            rw [hba] at this; cases this
        rw [if_pos hcb, if_pos hcb, merge_cons a A c _, if_pos hca]
        rw [merge_cons a A b B, if_pos hba] at i1
        rw [i1]
      · rw [if_neg hcb, if_neg hcb, merge_cons a A b _, if_pos hba, i2]
    · rw [if_neg hba, merge_cons a _ c C]
      by_cases hcb : lt c b = true
      · rw [if_pos hcb]
        by_cases hca : lt c a = true
        · rw [if_pos hca, merge_cons a A c _, if_pos hca]
          rw [merge_cons a A b B, if_neg hba] at i1
          rw [i1]
        · rw [if_neg hca, merge_cons a A c _, if_neg hca, i3, merge_cons b B c C, if_pos hcb]
      · rw [if_neg hcb]
        have hca : lt c a = false := w.neg a b c (by simpa using hba) (by simpa using hcb)
        rw [if_neg (by rw [hca]; simp), merge_cons a A b _, if_neg hba, i3, merge_cons b B c C, if_neg hcb]
termination_by A B C => A.length + B.length + C.length
def sortL (lt : α → α → Bool) : List α → List α
  | [] => []
  | x :: l => mergeL lt [x] (sortL lt l)
theorem sort_srt (w : Weakly lt) : ∀ l, Srt lt (sortL lt l)
  | [] => List.Pairwise.nil
  | x :: l => merge_srt w (List.pairwise_singleton _ _) (sort_srt w l)
theorem sort_app (w : Weakly lt) : ∀ (A B : List α), sortL lt (A ++ B) = mergeL lt (sortL lt A) (sortL lt B)
  | [], B => by simp [sortL, merge_nil_l]
  | x :: A, B => by
    show mergeL lt [x] (sortL lt (A ++ B)) = _
    rw [sort_app w A B, ← merge_assoc w (List.pairwise_singleton _ _) (sort_srt w A) (sort_srt w B)]; rfl
theorem sort_one (x : α) : sortL lt [x] = [x] := by simp [sortL, merge_nil_r]
theorem sort_snoc (w : Weakly lt) (A : List α) (x : α) : sortL lt (A ++ [x]) = mergeL lt (sortL lt A) [x] := by rw [sort_app w, sort_one]
/-- an element put into a sorted list, behind all that do not stand behind it -/
theorem merge_one_split (w : Weakly lt) {A B : List α} {x : α} (h1 : ∀ y ∈ A, lt x y = false) (h2 : ∀ y ∈ B, lt x y = true) : mergeL lt (A ++ B) [x] = A ++ x :: B := by
  have := merge_split (L1 := A) (L2 := B) (R1 := [x]) (R2 := []) (by simp) (fun y hy z hz => by simp at hy; subst hy; exact h2 z hz)
  simp only [List.append_nil, merge_nil_r] at this
  rw [this]
  have e : mergeL lt A [x] = A ++ [x] := by
    have := merge_split (L1 := A) (L2 := []) (R1 := []) (R2 := [x]) (fun y hy z hz => by simp at hz; subst hz; exact h1 y hy) (by simp)
    simpa [merge_nil_r, merge_nil_l] using this
  rw [e]; simp
end Go.Ver
