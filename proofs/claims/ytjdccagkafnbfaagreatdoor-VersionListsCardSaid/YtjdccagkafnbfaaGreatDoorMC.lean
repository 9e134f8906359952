/- Part of a proof: see the last text. -/
import Derived.Test.YtjdccagkafnbfaaGreatDoorMB
set_option linter.unusedVariables false
set_option linter.unusedSimpArgs false
set_option linter.unusedVariables false
set_option linter.unusedSimpArgs false
namespace Go.Ver
/-! what the code of stable sorting does with lists -/
variable {α : Type} {lt : α → α → Bool}
theorem two_at {P Q R : List α} {x y : α} {p q : Nat} (hp : p = P.length) (hq : q = P.length + 1 + Q.length) :
    (P ++ x :: (Q ++ y :: R))[p]? = some x ∧ (P ++ x :: (Q ++ y :: R))[q]? = some y := by
  subst hp hq
  refine ⟨by simp, ?_⟩
  rw [List.getElem?_append_right (by omega)]
  rw [show P.length + 1 + Q.length - P.length = Q.length + 1 by omega, List.getElem?_cons_succ]
  simp
theorem two_set {P Q R : List α} {x y : α} {p q : Nat} (hp : p = P.length) (hq : q = P.length + 1 + Q.length) :
    ((P ++ x :: (Q ++ y :: R)).set p y).set q x = P ++ y :: (Q ++ x :: R) := by
  subst hp hq
  rw [List.set_append_right _ _ (by omega), Nat.sub_self, List.set_cons_zero]
  rw [List.set_append_right _ _ (by omega), show P.length + 1 + Q.length - P.length = Q.length + 1 by omega, List.set_cons_succ]
  rw [List.set_append_right _ _ (by omega), Nat.sub_self, List.set_cons_zero]
theorem two_setR {P Q R : List α} {x y : α} {p q : Nat} (hp : p = P.length) (hq : q = P.length + 1 + Q.length) :
    ((P ++ x :: (Q ++ y :: R)).set q x).set p y = P ++ y :: (Q ++ x :: R) := by
  rw [List.set_comm _ _ (by omega)]
  exact two_set hp hq
def swI (A U M V B : List α) (i : Nat) : List α := A ++ (V.take i ++ (U.drop i ++ (M ++ (U.take i ++ (V.drop i ++ B)))))
theorem swI_zero (A U M V B : List α) : swI A U M V B 0 = A ++ (U ++ (M ++ (V ++ B))) := by simp [swI]
theorem swI_all {A U M V B : List α} (h : U.length = V.length) : swI A U M V B U.length = A ++ (V ++ (M ++ (U ++ B))) := by
  unfold swI
  rw [List.drop_length, List.take_length, h, List.take_length, List.drop_length]; simp
theorem swI_len {A U M V B : List α} (i : Nat) : (swI A U M V B i).length = (A ++ (U ++ (M ++ (V ++ B)))).length := by
  unfold swI; simp; omega
theorem swI_step {A U M V B : List α} (h : U.length = V.length) {i : Nat} (hi : i < U.length) : ∃ x y, (swI A U M V B i)[A.length + i]? = some x ∧ (swI A U M V B i)[A.length + U.length + M.length + i]? = some y ∧
    ((swI A U M V B i).set (A.length + i) y).set (A.length + U.length + M.length + i) x = swI A U M V B (i + 1) := by
  have eu := List.drop_eq_getElem_cons hi
  have ev := List.drop_eq_getElem_cons (l := V) (i := i) (by omega)
  generalize U[i] = x at *
  have hvi : V[i]? = some (V[i]'(by omega)) := List.getElem?_eq_getElem (by omega)
  have hui : U.take (i + 1) = U.take i ++ [x] := by
    have : U[i]? = some x := by
      have := congrArg (·[0]?) eu
      simpa using this
    rw [List.take_add_one, this]; rfl
  have hvt : V.take (i + 1) = V.take i ++ [V[i]'(by omega)] := by rw [List.take_add_one, hvi]; rfl
  generalize V[i]'(by omega) = y at *
  have e : swI A U M V B i = (A ++ V.take i) ++ x :: ((U.drop (i + 1) ++ (M ++ U.take i)) ++ y :: (V.drop (i + 1) ++ B)) := by
    unfold swI; rw [eu, ev]; simp
  have hp : A.length + i = (A ++ V.take i).length := by simp; omega
  have hq : A.length + U.length + M.length + i = (A ++ V.take i).length + 1 + (U.drop (i + 1) ++ (M ++ U.take i)).length := by simp; omega
  refine ⟨x, y, ?_, ?_, ?_⟩
  · rw [e]; exact (two_at hp hq).1
  · rw [e]; exact (two_at hp hq).2
  · rw [e, two_set hp hq]
    unfold swI
    rw [hui, hvt]; simp
theorem merge_one_l {x : α} {A B : List α} (h1 : ∀ y ∈ A, lt y x = true) (h2 : ∀ y ∈ B, lt y x = false) : mergeL lt [x] (A ++ B) = A ++ x :: B := by
  have := merge_split (L1 := []) (L2 := [x]) (R1 := A) (R2 := B) (by simp) (fun y hy z hz => by simp at hz; subst hz; exact h1 y hy)
  simp only [List.nil_append, merge_nil_l] at this
  rw [this]
  have := merge_split (L1 := [x]) (L2 := []) (R1 := []) (R2 := B) (fun y hy z hz => by simp at hy; subst hy; exact h2 z hz) (by simp)
  simp only [List.append_nil, List.nil_append, merge_nil_l, merge_nil_r] at this
  rw [this]; rfl
theorem srt_app {A B : List α} (h : Srt lt (A ++ B)) : Srt lt A ∧ Srt lt B ∧ ∀ x ∈ A, ∀ y ∈ B, lt y x = false := by
  obtain ⟨h1, h2, h3⟩ := List.pairwise_append.1 h
  exact ⟨h1, h2, h3⟩
/-- an element at its place in a sorted list: those before it do not stand behind -/
theorem srt_before (w : Weakly lt) {A : List α} {y z : α} (h : Srt lt (A ++ [y])) (hz : lt z y = false) : ∀ x ∈ A ++ [y], lt z x = false := by
  intro x hx
  rcases List.mem_append.1 hx with hx | hx
  · exact w.neg x y z ((srt_app h).2.2 x hx y (by simp)) hz
  · simp at hx; subst hx; exact hz
theorem srt_after (w : Weakly lt) {B : List α} {y z : α} (h : Srt lt (y :: B)) (hz : lt z y = true) : ∀ x ∈ y :: B, lt z x = true := by
  intro x hx
  rcases List.mem_cons.1 hx with rfl | hx
  · exact hz
  · cases hzx : lt z x with
    | true => rfl
    | false =>
      have h1 := (List.pairwise_cons.1 h).1 x hx
     
      have := w.neg y x z h1 hzx
      rw [hz] at this; cases this
theorem srt_before2 (w : Weakly lt) {A : List α} {y z : α} (h : Srt lt (A ++ [y])) (hz : lt y z = true) : ∀ x ∈ A ++ [y], lt x z = true := by
  intro x hx
  rcases List.mem_append.1 hx with hx | hx
  · cases hxz : lt x z with
    | true => rfl
    | false =>
      have h1 := (srt_app h).2.2 x hx y (by simp)
      have := w.neg z x y hxz h1
      rw [hz] at this; cases this
  · simp at hx; subst hx; exact hz
theorem srt_after2 (w : Weakly lt) {B : List α} {y z : α} (h : Srt lt (y :: B)) (hz : lt y z = false) : ∀ x ∈ y :: B, lt x z = false := by
  intro x hx
  rcases List.mem_cons.1 hx with rfl | hx
  · exact hz
  · exact w.neg z y x hz ((List.pairwise_cons.1 h).1 x hx)
theorem at_L {A L R : List α} {t i : Nat} (hi : i = A.length + t) (ht : t < L.length) : (A ++ (L ++ R))[i]? = L[t]? := by
  subst hi
  rw [List.getElem?_append_right (by omega), show A.length + t - A.length = t by omega, List.getElem?_append_left ht]
theorem at_R {A L R B : List α} {t i : Nat} (hi : i = A.length + L.length + t) (ht : t < R.length) : (A ++ (L ++ (R ++ B)))[i]? = R[t]? := by
  subst hi
  rw [List.getElem?_append_right (by omega), List.getElem?_append_right (by omega), show A.length + L.length + t - A.length - L.length = t by omega, List.getElem?_append_left ht]
/-- one step of looking for a place, to the right and to the left -/
theorem bin_l {P : α → Bool} {R : List α} {t : Nat} {y : α} (hy : R[t]? = some y) (h : ∀ z ∈ R.take t ++ [y], P z = true) : ∀ z ∈ R.take (t + 1), P z = true := by
  intro z hz
  rw [List.take_add_one, hy] at hz
  exact h z hz
theorem drop_at {R : List α} {t : Nat} {y : α} (hy : R[t]? = some y) : R.drop t = y :: R.drop (t + 1) := by
  have ht : t < R.length := (List.getElem?_eq_some_iff.1 hy).1
  rw [List.drop_eq_getElem_cons ht]
  congr 1
  exact (List.getElem?_eq_some_iff.1 hy).2
theorem srt_take {R : List α} {t : Nat} {y : α} (hy : R[t]? = some y) (h : Srt lt R) : Srt lt (R.take t ++ [y]) := by
  have e : R = (R.take t ++ [y]) ++ R.drop (t + 1) := by
    have := drop_at hy
    conv => lhs; rw [← List.take_append_drop t R, this]
    simp
  rw [e] at h
  exact (srt_app h).1
theorem srt_drop {R : List α} {t : Nat} (h : Srt lt R) : Srt lt (R.drop t) := by
  rw [← List.take_append_drop t R] at h
  exact (srt_app h).2.1
theorem srt_tk {R : List α} {t : Nat} (h : Srt lt R) : Srt lt (R.take t) := by
  rw [← List.take_append_drop t R] at h
  exact (srt_app h).1
/-- an element put behind the first s -/
def insI (A R B : List α) (x : α) (s : Nat) : List α := A ++ (R.take s ++ x :: (R.drop s ++ B))
theorem insI_zero (A R B : List α) (x : α) : insI A R B x 0 = A ++ ([x] ++ (R ++ B)) := by simp [insI]
theorem insI_all (A R B : List α) (x : α) : insI A R B x R.length = A ++ (R ++ ([x] ++ B)) := by simp [insI]
theorem insI_len {A R B : List α} {x : α} {s : Nat} : (insI A R B x s).length = A.length + (R.length + (B.length + 1)) := by unfold insI; simp; omega
theorem insI_step {A R B : List α} {x y : α} {s : Nat} (hy : R[s]? = some y) : (insI A R B x s)[A.length + s]? = some x ∧ (insI A R B x s)[A.length + s + 1]? = some y ∧
    ((insI A R B x s).set (A.length + s) y).set (A.length + s + 1) x = insI A R B x (s + 1) := by
  have hs : s < R.length := (List.getElem?_eq_some_iff.1 hy).1
  have hd := drop_at hy
  have htk : R.take (s + 1) = R.take s ++ [y] := by rw [List.take_add_one, hy]; rfl
  have ek : insI A R B x s = (A ++ R.take s) ++ x :: ([] ++ y :: (R.drop (s + 1) ++ B)) := by unfold insI; rw [hd]; simp
  have hp : A.length + s = (A ++ R.take s).length := by simp; omega
  have hq : A.length + s + 1 = (A ++ R.take s).length + 1 + ([] : List α).length := by simp; omega
  rw [ek]
  refine ⟨(two_at hp hq).1, (two_at hp hq).2, ?_⟩
  rw [two_set hp hq]; unfold insI; rw [htk]; simp
theorem insI_back {A R B : List α} {x y : α} {s : Nat} (hy : R[s]? = some y) : (insI A R B x (s + 1))[A.length + s]? = some y ∧ (insI A R B x (s + 1))[A.length + s + 1]? = some x ∧
    ((insI A R B x (s + 1)).set (A.length + s + 1) y).set (A.length + s) x = insI A R B x s := by
  have hs : s < R.length := (List.getElem?_eq_some_iff.1 hy).1
  have hd := drop_at hy
  have htk : R.take (s + 1) = R.take s ++ [y] := by rw [List.take_add_one, hy]; rfl
  have ek : insI A R B x (s + 1) = (A ++ R.take s) ++ y :: ([] ++ x :: (R.drop (s + 1) ++ B)) := by unfold insI; rw [htk]; simp
  have hp : A.length + s = (A ++ R.take s).length := by simp; omega
  have hq : A.length + s + 1 = (A ++ R.take s).length + 1 + ([] : List α).length := by simp; omega
  rw [ek]
  refine ⟨(two_at hp hq).1, (two_at hp hq).2, ?_⟩
  rw [two_setR hp hq]; unfold insI; rw [hd]; simp
theorem sort_len : ∀ (l : List α), (sortL lt l).length = l.length
  | [] => rfl
  | x :: l => by
    show (mergeL lt [x] (sortL lt l)).length = _
    rw [merge_len, sort_len l]; simp; omega
where merge_len : ∀ {L R : List α}, (mergeL lt L R).length = L.length + R.length
  | [], R => by simp [merge_nil_l]
  | l :: L, [] => by simp [merge_nil_r]
  | l :: L, r :: R => by
    rw [merge_cons]
    split
    · simp only [List.length_cons]; rw [merge_len]; simp only [List.length_cons]; omega
    · simp only [List.length_cons]; rw [merge_len]; simp only [List.length_cons]; omega
termination_by L R => L.length + R.length
/-- a place found in both halves -/
theorem merge_cut (w : Weakly lt) {L R : List α} {u v : Nat} (hL : Srt lt L) (hR : Srt lt R) (hu : u ≤ L.length) (hv : v ≤ R.length)
    (h1 : 0 < u → v < R.length → ∃ x y, L[u - 1]? = some x ∧ R[v]? = some y ∧ lt y x = false) (h2 : u < L.length → 0 < v → ∃ x y, L[u]? = some x ∧ R[v - 1]? = some y ∧ lt y x = true) :
    mergeL lt L R = mergeL lt (L.take u) (R.take v) ++ mergeL lt (L.drop u) (R.drop v) := by
  conv => lhs; rw [← List.take_append_drop u L, ← List.take_append_drop v R]
  refine merge_split (fun x hx y hy => ?_) (fun y hy x hx => ?_)
  · have hu0 : 0 < u := by
      rcases Nat.eq_zero_or_pos u with h | h
      · subst h; simp at hx
      · exact h
    have hv0 : v < R.length := by
      rcases Nat.lt_or_ge v R.length with h | h
      · exact h
      · rw [List.drop_of_length_le h] at hy; simp at hy
    obtain ⟨x0, y0, hx0, hy0, hlt⟩ := h1 hu0 hv0
    have e1 : L.take u = L.take (u - 1) ++ [x0] := by
      conv => lhs; rw [show u = (u - 1) + 1 by omega, List.take_add_one, hx0]
      rfl
    have e2 := drop_at hy0
    have s1 := srt_take hx0 hL
    have s2 := srt_drop (t := v) hR
    rw [e2] at s2 hy
    rw [e1] at hx
    have a1 := srt_before w s1 hlt x hx
   
    rcases List.mem_cons.1 hy with rfl | hy
    · exact a1
    · exact w.neg x y0 y a1 ((List.pairwise_cons.1 s2).1 y hy)
  · have hv0 : 0 < v := by
      rcases Nat.eq_zero_or_pos v with h | h
      · subst h; simp at hy
      · exact h
    have hu0 : u < L.length := by
      rcases Nat.lt_or_ge u L.length with h | h
      · exact h
      · rw [List.drop_of_length_le h] at hx; simp at hx
    obtain ⟨x0, y0, hx0, hy0, hlt⟩ := h2 hu0 hv0
    have e1 : R.take v = R.take (v - 1) ++ [y0] := by
      conv => lhs; rw [show v = (v - 1) + 1 by omega, List.take_add_one, hy0]
      rfl
    have e2 := drop_at hx0
    have s1 := srt_take hy0 hR
    have s2 := srt_drop (t := u) hL
    rw [e2] at s2 hx
    rw [e1] at hy
    have a1 := srt_after w s2 hlt x hx
    cases h : lt y x with
    | true => rfl
    | false =>
      exfalso
      rcases List.mem_append.1 hy with hy | hy
      · have := w.neg x y y0 h ((srt_app s1).2.2 y hy y0 (by simp))
        rw [a1] at this; cases this
      · simp at hy; subst hy; rw [a1] at h; cases h
theorem merge_len (L R : List α) : (mergeL lt L R).length = L.length + R.length := sort_len.merge_len
theorem sort_mem {l : List α} {x : α} : x ∈ sortL lt l ↔ x ∈ l := by
  induction l with
  | nil => simp [sortL]
  | cons y l ih => show x ∈ mergeL lt [y] (sortL lt l) ↔ _
                   rw [merge_mem, ih]; simp
end Go.Ver

set_option linter.unusedVariables false
set_option linter.unusedSimpArgs false
namespace Go.Ver
/-! blocks that are sorted each -/
variable {α : Type} {lt : α → α → Bool}
def blkS (lt : α → α → Bool) (s : Nat) (l : List α) : List α := if l.length < s ∨ s = 0 then sortL lt l else sortL lt (l.take s) ++ blkS lt s (l.drop s)
termination_by l.length
decreasing_by rename_i h; simp; omega
theorem blkS_end {s : Nat} {l : List α} (h : l.length < s) : blkS lt s l = sortL lt l := by unfold blkS; rw [if_pos (.inl h)]
theorem blkS_step {s : Nat} {l : List α} (h0 : 0 < s) (h : s ≤ l.length) : blkS lt s l = sortL lt (l.take s) ++ blkS lt s (l.drop s) := by
  conv => lhs; unfold blkS
  rw [if_neg (by omega)]
theorem blkS_le {s : Nat} {l : List α} (h0 : 0 < s) (h : l.length ≤ s) : blkS lt s l = sortL lt l := by
  by_cases h1 : l.length < s
  · exact blkS_end h1
  · have : l.length = s := by omega
    rw [blkS_step h0 (by omega)]
    subst this
    rw [List.take_length, List.drop_length, blkS_end (by simpa using h0)]
    simp [sortL]
theorem blkS_len {s : Nat} {l : List α} : (blkS lt s l).length = l.length := by
  unfold blkS
  split
  · exact sort_len l
  · rename_i h
    have := blkS_len (s := s) (l := l.drop s)
    simp only [List.length_append, sort_len, this, List.length_take, List.length_drop]; omega
termination_by l.length
decreasing_by rename_i h; simp; omega
/-- two blocks merged -/
theorem blkS_two (w : Weakly lt) {s : Nat} {l : List α} (h0 : 0 < s) (h : s + s ≤ l.length) :
    blkS lt s l = sortL lt (l.take s) ++ (sortL lt ((l.drop s).take s) ++ blkS lt s (l.drop (s + s))) ∧
    blkS lt (s + s) l = mergeL lt (sortL lt (l.take s)) (sortL lt ((l.drop s).take s)) ++ blkS lt (s + s) (l.drop (s + s)) := by
  refine ⟨?_, ?_⟩
  · rw [blkS_step h0 (by omega), blkS_step (l := l.drop s) h0 (by simp; omega), List.drop_drop]
  · rw [blkS_step (by omega) h, ← sort_app w]
    congr 2
    rw [List.take_add]
theorem blkS_last (w : Weakly lt) {s : Nat} {l : List α} (h0 : 0 < s) (h : l.length < s + s) (h1 : s < l.length) :
    blkS lt s l = sortL lt (l.take s) ++ sortL lt (l.drop s) ∧ blkS lt (s + s) l = mergeL lt (sortL lt (l.take s)) (sortL lt (l.drop s)) := by
  refine ⟨?_, ?_⟩
  · rw [blkS_step h0 (by omega), blkS_end (l := l.drop s) (by simp; omega)]
  · rw [blkS_end h, ← sort_app w, List.take_append_drop]
theorem blkS_same {s : Nat} {l : List α} (h0 : 0 < s) (h1 : l.length ≤ s) : blkS lt s l = blkS lt (s + s) l := by
  rw [blkS_le h0 h1, blkS_le (by omega) (by omega)]
end Go.Ver

set_option linter.unusedVariables false
set_option linter.unusedSimpArgs false
namespace Go.Ver
open Go.Lib Go.Wh
/-! lists of versions -/
def allV (l : List (List UInt8)) : Bool := l.all fun s => (readV s).isSome
theorem allV_mem {l : List (List UInt8)} (h : allV l = true) : ∀ s ∈ l, (readV s).isSome = true := by simpa [allV] using h
theorem allV_bad {l : List (List UInt8)} {s : List UInt8} (hs : s ∈ l) (h : (readV s).isSome = false) : allV l = false := by
  unfold allV; rw [List.all_eq_false]; exact ⟨s, hs, by simp [h]⟩
theorem allV_take {l : List (List UInt8)} {i : Nat} {s : List UInt8} (h : allV (l.take i) = true) (hs : l[i]? = some s) (h1 : (readV s).isSome = true) : allV (l.take (i + 1)) = true := by
  unfold allV at *
  rw [List.take_add_one, hs, List.all_append, h]; simpa using h1
/-- how versions are compared -/
def cV (x y : List UInt8) : Int := cmpV (readP x) (readP y)
def bestN (l : List (List UInt8)) (cs : List Cnd) : Nat → Int
  | 0 => -1
  | i + 1 => match l[i]? with
    | some s => if meetsV (readP s) cs = true ∧ (bestN l cs i < 0 ∨ 0 < cV s (l.getD (bestN l cs i).toNat [])) then i else bestN l cs i
    | none => bestN l cs i
theorem bestN_zero (l : List (List UInt8)) (cs : List Cnd) : bestN l cs 0 = -1 := rfl
theorem bestN_step {l : List (List UInt8)} {cs : List Cnd} {i : Nat} {s : List UInt8} (h : l[i]? = some s) :
    bestN l cs (i + 1) = if meetsV (readP s) cs = true ∧ (bestN l cs i < 0 ∨ 0 < cV s (l.getD (bestN l cs i).toNat [])) then (i : Int) else bestN l cs i := by
  conv => lhs; unfold bestN
  rw [h]
theorem bestN_lt (l : List (List UInt8)) (cs : List Cnd) : ∀ i, -1 ≤ bestN l cs i ∧ bestN l cs i < (i : Int)
  | 0 => by simp [bestN]
  | i + 1 => by
    have ih := bestN_lt l cs i
    unfold bestN
    split
    · split <;> omega
    · omega
def bestP (l : List (List UInt8)) (r : List UInt8) : Int := if ((condsV r).isSome && allV l) = true then (if 200 < l.length then 0 else bestN l (condsP r) l.length) else 0
def bestC (l : List (List UInt8)) (r : List UInt8) : Int := if ((condsV r).isSome && allV l) = true then (if 200 < l.length then 1 else 0) else 4
theorem cV_anti {x y : List UInt8} : cV x y = -cV y x := cmpV_neg _ _
end Go.Ver

set_option linter.unusedVariables false
set_option linter.unusedSimpArgs false
namespace Go.Ver
open Go.Lib Go.Wh
/-! made versions in lists -/
def mdV (u : Nat) : List UInt8 := textV (madeV u)
theorem mdV_read (u : Nat) : readV (mdV u) = some (madeV u) := (madeV_ok u).read
theorem mdV_len (u : Nat) : (mdV u).length ≤ 16 := (madeV_ok u).2.1
def mdL (l : List Nat) (i : Nat) : List (List UInt8) := (l.take i).map mdV
theorem mdL_zero (l : List Nat) : mdL l 0 = [] := by simp [mdL]
theorem mdL_step {l : List Nat} {i : Nat} {u : Nat} (h : l[i]? = some u) : mdL l (i + 1) = mdL l i ++ [mdV u] := by unfold mdL; rw [List.take_add_one, h]; simp
theorem mdL_len {l : List Nat} {i : Nat} (h : i ≤ l.length) : (mdL l i).length = i := by unfold mdL; simp; omega
theorem mdL_mem {l : List Nat} {i : Nat} {s : List UInt8} (h : s ∈ mdL l i) : ∃ u, s = mdV u := by
  unfold mdL at h; obtain ⟨u, _, rfl⟩ := List.mem_map.1 h; exact ⟨u, rfl⟩
theorem mdL_all (l : List Nat) (i : Nat) : allV (mdL l i) = true := by
  unfold allV; rw [List.all_eq_true]
  intro s hs
  obtain ⟨u, rfl⟩ := mdL_mem hs
  rw [mdV_read]; rfl
def naC : List Cnd := [([33, 61], naV)]
theorem naC_ok : ∀ c ∈ naC, COk c := by
  intro c hc
  simp [naC] at hc
  subst hc
  exact ⟨by simp [opsV], naV_ok, by simp only; rw [naV_text]; decide⟩
theorem naC_text : textR naC = [33, 61, 32, 57, 46, 97] := by simp [textR, naC, join_one, textC, naV_text]
theorem naC_conds : condsV [33, 61, 32, 57, 46, 97] = some naC := by rw [← naC_text]; exact condsV_text naC_ok (by simp [naC])
theorem naC_meets (u : Nat) : meetsV (readP (mdV u)) naC = true := by
  rw [readP_of (mdV_read u)]
  have h := cmp_nine (m := naV) (madeV_ok u) rfl
  have hp : preV naV = true := by decide
  unfold meetsV naC
  simp [metV, h, hp]
theorem bestN_top {l : List (List UInt8)} {cs : List Cnd} (hm : ∀ s ∈ l, meetsV (readP s) cs = true) : ∀ i, i ≤ l.length → 0 < i → 0 ≤ bestN l cs i ∧ ∀ j s, j < i → l[j]? = some s → cV s (l.getD (bestN l cs i).toNat []) ≤ 0
  | 0, _, h => by omega
  | i + 1, hi, _ => by
    obtain ⟨s, hs⟩ : ∃ s, l[i]? = some s := ⟨_, List.getElem?_eq_getElem (by omega)⟩
    have hst := bestN_step (cs := cs) hs
    have hlt := bestN_lt l cs i
    have hmi := hm s (List.mem_of_getElem? hs)
    have self : ∀ x, cV x x ≤ 0 := fun x => by have := @cV_anti x x; omega
    have gd : l.getD i [] = s := by simp [hs]
    by_cases h0 : i = 0
    · subst h0
      rw [bestN_zero, if_pos ⟨hmi, .inl (by omega)⟩] at hst
      rw [hst]
      refine ⟨by omega, fun j s' hj hs' => ?_⟩
      have : j = 0 := by omega
      subst this
      rw [hs] at hs'; cases hs'
      have e : ((0 : Nat) : Int).toNat = 0 := rfl
      rw [e, gd]; exact self s
    · obtain ⟨a1, a2⟩ := bestN_top hm i (by omega) (by omega)
      by_cases hc : 0 < cV s (l.getD (bestN l cs i).toNat [])
      · rw [if_pos ⟨hmi, .inr hc⟩] at hst
        rw [hst]
        refine ⟨by omega, fun j s' hj hs' => ?_⟩
        rw [Int.toNat_natCast, gd]
        by_cases hji : j = i
        · subst hji; rw [hs] at hs'; cases hs'; exact self s
        · have h1 := a2 j s' (by omega) hs'
          have h2 := @cV_anti s (l.getD (bestN l cs i).toNat [])
          unfold cV at *
          exact cmpV_trans h1 (by omega)
      · rw [if_neg (by rintro ⟨_, q | q⟩ <;> omega)] at hst
        rw [hst]
        refine ⟨a1, fun j s' hj hs' => ?_⟩
        by_cases hji : j = i
        · subst hji; rw [hs] at hs'; cases hs'; omega
        · exact a2 j s' (by omega) hs'
end Go.Ver
