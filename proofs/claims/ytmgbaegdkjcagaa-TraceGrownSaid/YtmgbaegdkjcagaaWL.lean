/- Part of a proof: see the last text. -/
import Derived.Test.YtmgbaegdkjcagaaWK
import Derived.Test.YtmgbaegdkjcagaaWJ
import Derived.Test.YtmgbaegdkjcagaaED
set_option linter.unusedVariables false
set_option linter.unusedSimpArgs false
namespace Go.Proofs.Ytmgbaegdkjcagaa
open Go.Eng
set_option linter.unusedSimpArgs false
set_option linter.unusedVariables false

/-! what is live: a row of truths, one for each register -/
/-- the registers of a list are marked -/
def markL (l : List Bool) (rs : List Int) : List Bool := rs.foldl (fun l r => l.set r.toNat true) l
theorem markL_cons (l : List Bool) (r : Int) (rs : List Int) : markL l (r :: rs) = markL (l.set r.toNat true) rs := rfl
theorem markL_app (l : List Bool) (rs ss : List Int) : markL l (rs ++ ss) = markL (markL l rs) ss := by simp [markL]
theorem markL_len : ∀ (rs : List Int) (l : List Bool), (markL l rs).length = l.length
  | [], l => rfl
  | r :: rs, l => by
    have := markL_len rs (l.set r.toNat true)
    simpa [markL_cons] using this
def hit (rs : List Int) (m : Nat) : Bool := rs.any fun r => r.toNat == m
theorem markL_get : ∀ (rs : List Int) (l : List Bool) (m : Nat), m < l.length → (markL l rs).getD m false = (hit rs m || l.getD m false)
  | [], l, m, h => by simp [markL, hit]
  | r :: rs, l, m, h => by
    rw [markL_cons, markL_get rs _ m (by simpa using h)]
    have e : hit (r :: rs) m = (r.toNat == m || hit rs m) := rfl
    rw [e]
    simp only [List.getD_eq_getElem?_getD, List.getElem?_set]
    by_cases hr : r.toNat = m
    · subst hr
      simp [h]
    · have : (r.toNat == m) = false := by simp [hr]
      simp [hr, this]
def aheadV (t : Tr) (i : Ins) (l : List Bool) : List Bool := markL (if i.op ≤ 8 then l.set i.d.toNat false else l) (readsV t i true)
theorem aheadV_len (t : Tr) (i : Ins) (l : List Bool) : (aheadV t i l).length = l.length := by
  unfold aheadV
  rw [markL_len]
  split <;> simp
def bitV (t : Tr) (m : Nat) (i : Ins) (b : Bool) : Bool := if hit (readsV t i true) m then true else if i.op ≤ 8 ∧ i.d.toNat = m then false else b
theorem aheadV_get (t : Tr) (i : Ins) (l : List Bool) (m : Nat) (h : m < l.length) : (aheadV t i l).getD m false = bitV t m i (l.getD m false) := by
  unfold aheadV bitV
  rw [markL_get _ _ _ (by split <;> simpa using h)]
  cases hit (readsV t i true) m
  · simp only [Bool.false_or, Bool.false_eq_true, if_false]
    split
    · rename_i h8
      simp only [List.getD_eq_getElem?_getD, List.getElem?_set, h8, true_and]
      split <;> simp_all
    · rename_i h8
      simp [h8]
  · simp
/-- what is live ahead of a code, from what is live behind it -/
def rowA (t : Tr) (code : List Ins) (l : List Bool) : List Bool := code.foldr (aheadV t) l
theorem rowA_len (t : Tr) : ∀ (code : List Ins) (l : List Bool), (rowA t code l).length = l.length
  | [], l => rfl
  | i :: is, l => by
    have := rowA_len t is l
    simp only [rowA, List.foldr_cons] at this ⊢
    rw [aheadV_len, this]
theorem rowA_cons (t : Tr) (i : Ins) (is : List Ins) (l : List Bool) : rowA t (i :: is) l = aheadV t i (rowA t is l) := rfl
theorem rowA_get (t : Tr) : ∀ (code : List Ins) (l : List Bool) (m : Nat), m < l.length → (rowA t code l).getD m false = code.foldr (bitV t m) (l.getD m false)
  | [], l, m, h => rfl
  | i :: is, l, m, h => by
    rw [rowA_cons, aheadV_get t i _ m (by rw [rowA_len]; exact h), rowA_get t is l m h]
    rfl
/-- each register: always, never, or as it was -/
theorem bits_three (t : Tr) (m : Nat) : ∀ code : List Ins, (∀ b, code.foldr (bitV t m) b = true) ∨ (∀ b, code.foldr (bitV t m) b = false) ∨ (∀ b, code.foldr (bitV t m) b = b)
  | [] => .inr (.inr fun _ => rfl)
  | i :: is => by
    have ih := bits_three t m is
    simp only [List.foldr_cons]
    generalize hF : (fun b => is.foldr (bitV t m) b) = F at ih
    have hF' : ∀ b, is.foldr (bitV t m) b = F b := fun b => by rw [← hF]
    simp only [hF'] at ih ⊢
    unfold bitV
    split
    · exact .inl fun _ => rfl
    · split
      · exact .inr (.inl fun _ => rfl)
      · exact ih
/-- two rows, either -/
def orL (l keep : List Bool) : List Bool := (List.range l.length).map fun m => l.getD m false || keep.getD m false
theorem orL_len (l keep : List Bool) : (orL l keep).length = l.length := by simp [orL]
theorem orL_get (l keep : List Bool) (m : Nat) (h : m < l.length) : (orL l keep).getD m false = (l.getD m false || keep.getD m false) := by
  unfold orL
  simp [List.getD_eq_getElem?_getD, List.getElem?_map, List.getElem?_range h]
theorem row_ext {l k : List Bool} (h : l.length = k.length) (h' : ∀ m, m < l.length → l.getD m false = k.getD m false) : l = k := by
  apply List.ext_getElem h
  intro m h1 h2
  have := h' m h1
  simpa [List.getD_eq_getElem?_getD, h1, h2] using this
theorem orL_nil (l : List Bool) : orL l [] = l := row_ext (orL_len _ _) fun m hm => by
  rw [orL_get _ _ _ (by rwa [orL_len] at hm)]; simp
def noneV (t : Tr) : List Bool := List.replicate t.regs.toNat false
theorem noneV_get (t : Tr) (m : Nat) : (noneV t).getD m false = false := by
  unfold noneV
  simp only [List.getD_eq_getElem?_getD, List.getElem?_replicate]
  split <;> rfl
/-- what is live behind the last instruction -/
def lastV (t : Tr) (keep : List Bool) : List Bool := orL (rowA t t.code (noneV t)) keep
theorem lastV_len (t : Tr) (keep : List Bool) : (lastV t keep).length = t.regs.toNat := by
  unfold lastV; rw [orL_len, rowA_len]; simp [noneV]
/-- the rounds: what is live behind the last instruction in each -/
def lastR (t : Tr) (keep : List Bool) : Nat → List Bool
  | 0 => orL (noneV t) keep
  | j + 1 => orL (rowA t t.code (lastR t keep j)) keep
theorem lastR_len (t : Tr) (keep : List Bool) : ∀ j, (lastR t keep j).length = t.regs.toNat
  | 0 => by simp [lastR, orL_len, noneV]
  | j + 1 => by simp only [lastR]; rw [orL_len, rowA_len, lastR_len t keep j]
theorem lastV_fix (t : Tr) (keep : List Bool) : orL (rowA t t.code (lastV t keep)) keep = lastV t keep := by
  have hl := lastV_len t keep
  refine row_ext (by rw [orL_len, rowA_len]) fun m hm => ?_
  rw [orL_len, rowA_len] at hm
  rw [orL_get _ _ _ (by rw [rowA_len]; exact hm), rowA_get _ _ _ _ hm]
  have e : (lastV t keep).getD m false = ((t.code.foldr (bitV t m) false) || keep.getD m false) := by
    unfold lastV
    have h1 : m < (noneV t).length := by rw [hl] at hm; simpa [noneV] using hm
    rw [orL_get _ _ _ (by rw [rowA_len]; exact h1), rowA_get _ _ _ _ h1, noneV_get]
  rw [e]
  rcases bits_three t m t.code with h | h | h <;> simp [h]
theorem lastR_eq (t : Tr) (keep : List Bool) : ∀ j, lastR t keep (j + 1) = lastV t keep
  | 0 => by
    have hl := lastR_len t keep 0
    simp only [lastR] at hl ⊢
    refine row_ext (by rw [orL_len, rowA_len, hl, lastV_len]) fun m hm => ?_
    rw [orL_len, rowA_len] at hm
    have h1 : m < (noneV t).length := by rw [hl] at hm; simpa [noneV] using hm
    rw [orL_get _ _ _ (by rw [rowA_len]; exact hm), rowA_get _ _ _ _ hm, orL_get _ _ _ h1, noneV_get]
    have e : (lastV t keep).getD m false = ((t.code.foldr (bitV t m) false) || keep.getD m false) := by
      unfold lastV
      rw [orL_get _ _ _ (by rw [rowA_len]; exact h1), rowA_get _ _ _ _ h1, noneV_get]
    rw [e]
    rcases bits_three t m t.code with h | h | h <;> simp [h]
  | j + 1 => by
    rw [show lastR t keep (j + 1 + 1) = orL (rowA t t.code (lastR t keep (j + 1))) keep from rfl, lastR_eq t keep j, lastV_fix]
/-- what is live at each place -/
def rowsL (t : Tr) (l : List Bool) : List (List Bool) := (List.range (t.code.length + 1)).map fun k => rowA t (t.code.drop k) l
def rowsV (t : Tr) (keep : List Bool) : List (List Bool) := rowsL t (lastV t keep)
theorem rowsL_at (t : Tr) (l : List Bool) (k : Nat) (h : k ≤ t.code.length) : (rowsL t l)[k]? = some (rowA t (t.code.drop k) l) := by
  unfold rowsL
  rw [List.getElem?_map, List.getElem?_range (by omega)]
  rfl
/-- an instruction that writes what is not live, and does nothing else -/
def deadI (l : List Bool) (i : Ins) : Bool := decide (i.op ≤ 8) && !exitsV i.op && !(l.getD i.d.toNat false)
def deadFrom (t : Tr) (l : List Bool) : List Ins → Nat → List Nat
  | [], _ => []
  | i :: is, k => if deadI (rowA t is l) i then k :: deadFrom t l is (k + 1) else deadFrom t l is (k + 1)
def deadV (t : Tr) (keep : List Bool) : List Nat := deadFrom t (lastV t keep) t.code 0
end Go.Proofs.Ytmgbaegdkjcagaa

namespace Go.Proofs.Ytmgbaegdkjcagaa
open Go.Eng
set_option maxRecDepth 20000
set_option linter.unusedSimpArgs false
set_option linter.unusedVariables false
attribute [local irreducible] AG CallA CallT AWp PCall ACall AgC

@[go_sem] def mB (l : List Bool) : List (List D) := l.map cBo
theorem mB_set (l : List Bool) (j : Nat) (b : Bool) : mB (l.set j b) = (mB l).set j [dB b] := by simp [mB, List.map_set]
theorem orL_take {l keep : List Bool} {j : Nat} {b : Bool} (hj : keep[j]? = some b) (hl : j < l.length) : orL l (keep.take (j + 1)) = (orL l (keep.take j)).set j (l.getD j false || b) := by
  refine row_ext (by simp [orL_len]) fun m hm => ?_
  rw [orL_len] at hm
  rw [orL_get _ _ _ hm]
  have hk := (List.getElem?_eq_some_iff.1 hj).1
  simp only [List.getD_eq_getElem?_getD, List.getElem?_set, orL_len]
  by_cases h : j = m
  · subst h
    simp [hl, hj, List.getElem?_take]
  · rw [if_neg h]
    have e := orL_get l (keep.take j) m hm
    simp only [List.getD_eq_getElem?_getD] at e
    rw [e]
    simp only [List.getElem?_take]
    congr 1
    by_cases h2 : m < j
    · simp [h2, show m < j + 1 by omega]
    · simp [h2, show ¬ m < j + 1 by omega]
theorem orL_at (l keep : List Bool) (j : Nat) (hl : j < l.length) : (orL l (keep.take j))[j]? = some (l.getD j false) := by
  have h := orL_get l (keep.take j) j hl
  rw [List.getD_eq_getElem?_getD, List.getElem?_eq_getElem (by rw [orL_len]; exact hl)] at h
  rw [List.getElem?_eq_getElem (by rw [orL_len]; exact hl)]
  simp only [Option.getD_some] at h
  rw [h]
  simp [List.getD_eq_getElem?_getD, List.getElem?_take]

set_option maxHeartbeats 8000000 in
theorem behind_spec (t : Tr) (go : Nat) (rs : List (Nat × List Bool)) (keep : List Bool) {g0 gn : Nat} {r0 rn : List Bool} (h0 : rs[0]? = some (g0, r0)) (hn : rs[t.code.length]? = some (gn, rn)) (hl : r0.length = rn.length) (hk : keep.length ≤ r0.length) (hk9 : keep.length ≤ 1000) (hrl : rs.length = t.code.length + 1) (hcl : t.code.length ≤ 60) :
    ACall Try.prog 79 [dTr t, .own 900001 go, dBl keep] ((900001, (go, .row 91 1 (famO 1 0 rs))) :: fam 1 4 1 mB 0 rs) (900001 :: famS 1 0 rs.length)
      fun ps r => ps = (go, .row 91 1 (famO 1 0 rs)) :: famP 4 1 mB (rs.set t.code.length (gn, orL r0 keep)) ∧ r = .tup [] := by 
  refine acall_of Try.func79 rfl rfl Try.ntmps79 (rs := []) (tys := []) rfl rfl (by simp) ?_ ?_
  · intro p hp
    rcases List.mem_cons.1 hp with rfl | hp
    · simp [notFroz]
    · obtain ⟨q1, q2, q3⟩ := mem_fam hp
      exact ⟨q2, q3, List.mem_cons_of_mem _ q1⟩
  (refine awp_sr fun KK hKK => ?_; simp [go_sem]; ((repeat' (first|(refine ag_x ?_;simp [go_sem])|intro _|refine And.intro ?_ ?_|(apply hKK;clear hKK KK)));all_goals first|refine Hold.mk ?_|omega|with_reducible assumption|(simp only [InR] at *;omega)|skip))
  refine awp_frzbox 3 rfl rfl ?_
  simp only [go_sem]
  (refine awp_sr fun KK hKK => ?_; simp [go_sem, hn]; ((repeat' (first|(refine ag_x ?_;simp [go_sem, hn])|intro _|refine And.intro ?_ ?_|(apply hKK;clear hKK KK)));all_goals first|refine Hold.mk ?_|omega|with_reducible assumption|(simp only [InR] at *;omega)|skip))
  (refine awp_sr fun KK hKK => ?_; simp [go_sem, hn, h0]; ((repeat' (first|(refine ag_x ?_;simp [go_sem, hn, h0])|intro _|refine And.intro ?_ ?_|(apply hKK;clear hKK KK)));all_goals first|refine Hold.mk ?_|omega|with_reducible assumption|(simp only [InR] at *;omega)|skip))
  (refine awp_sr fun KK hKK => ?_; simp [go_sem]; ((repeat' (first|(refine ag_x ?_;simp [go_sem])|intro _|refine And.intro ?_ ?_|(apply hKK;clear hKK KK)));all_goals first|refine Hold.mk ?_|omega|with_reducible assumption|(simp only [InR] at *;omega)|skip))
  refine awp_block ?_
  refine awp_loop (σ := Nat) (fun j => ⟨[(6, .own (fs 1 t.code.length) gn), (20, dBl keep), (21, dI keep.length), (22, dI j)],
    (900001, (go, .row 91 1 (famO 1 0 rs))) :: fam 1 4 1 mB 0 (rs.set t.code.length (gn, orL r0 (keep.take j)))⟩) (fun j => j ≤ keep.length) (fun j => keep.length - j) 0 ?_ ?_ ?_
  · (refine cov_of ?_ ?_ <;> simp [go_sem])
    refine FamIn.set (FamIn.lt (FamIn.refl _ _) (by decide)) ?_
    have e1 : orL r0 [] = r0 := orL_nil _
    simp [mB, e1, hl, List.take_of_length_le]
  · simp
  intro j hj
  have hsn : ∀ x, (rs.set t.code.length x)[t.code.length]? = some x := fun x => by simp [hrl]
  have hat := orL_at r0 keep
  (refine awp_sr fun KK hKK => ?_; simp [go_sem]; ((repeat' (first|(refine ag_x ?_;simp [go_sem])|intro _|refine And.intro ?_ ?_|(apply hKK;clear hKK KK)));all_goals first|refine Hold.mk ?_|omega|with_reducible assumption|(simp only [InR] at *;omega)|skip))
  refine awp_seq_k fun K1 hK1 => ?_
  (refine awp_if fun T F hT hF => ?_; simp [go_sem]; refine BR.intro (fun h2 => hT ?_) (fun h2 => hF ?_); all_goals clear hT hF T F; try simp at h2) 
  · refine awp_skip ?_
    refine hK1 _ ?_; clear hK1
    obtain ⟨b, hb⟩ : ∃ b, keep[j]? = some b := ⟨_, List.getElem?_eq_getElem (by omega)⟩
    refine awp_seq_k fun K3 hK3 => ?_
    refine awp_block ?_
    (refine awp_sr fun KK hKK => ?_; simp [go_sem, hb]; ((repeat' (first|(refine ag_x ?_;simp [go_sem, hb])|intro _|refine And.intro ?_ ?_|(apply hKK;clear hKK KK)));all_goals first|refine Hold.mk ?_|omega|with_reducible assumption|(simp only [InR] at *;omega)|skip))
    have hol := orL_len r0 (keep.take j)
    (refine awp_r fun KK hKK => ?_; simp [go_sem, hsn, hat j (by omega)]; ((repeat' (first|(refine ag_x ?_;simp [go_sem, hsn, hat j (by omega)])|intro _|refine And.intro ?_ ?_|(apply hKK;clear hKK KK)));all_goals first|refine Hold.mk ?_|omega|with_reducible assumption|(simp only [InR] at *;omega)|skip))
    simp only [go_sem]
    refine hK3 _ ?_; clear hK3
    (refine awp_r fun KK hKK => ?_; simp [go_sem]; ((repeat' (first|(refine ag_x ?_;simp [go_sem])|intro _|refine And.intro ?_ ?_|(apply hKK;clear hKK KK)));all_goals first|refine Hold.mk ?_|omega|with_reducible assumption|(simp only [InR] at *;omega)|skip))
    refine ⟨j + 1, ?_, by omega, by omega⟩
    have hst := orL_take (l := r0) hb (by omega)
    (refine cov_of ?_ ?_ <;> simp [go_sem])
    have hfam := FamIn.set (m := t.code.length) (g := gn) (x := orL r0 (keep.take (j + 1))) (es := mB (orL r0 (keep.take (j + 1)))) (FamIn.lt (s := 900001) (x := (go, .row 91 1 (famO 1 0 rs))) (FamIn.refl (b := 1) (e := 4) (k := 1) (f := mB) (rs.set t.code.length (gn, orL r0 (keep.take j))) 0) (by decide)) rfl
    rw [List.set_set, hst, mB_set] at hfam
    simpa [hst, List.getD_eq_getElem?_getD, mB] using hfam
  · refine awp_exit ?_
    simp only [go_sem]
    have hj' : j = keep.length := by omega
    subst hj'
    rw [List.take_length]
    have hset : (rs.set t.code.length (gn, orL r0 keep)).length = rs.length := by simp
    simp [go_sem]
    exact postK_fam (b := 1) (e := 4) (k := 1) (f := mB) (rs.set t.code.length (gn, orL r0 keep)) 0 rs.length _ hset (FamIn.lt (FamIn.refl _ _) (by decide)) rfl
end Go.Proofs.Ytmgbaegdkjcagaa

namespace Go.Proofs.Ytmgbaegdkjcagaa
open Go.Eng
set_option maxRecDepth 20000
set_option linter.unusedSimpArgs false
set_option linter.unusedVariables false
attribute [local irreducible] AG CallA CallT AWp PCall ACall AgC

/-- the rows ahead of each round -/
def rowsR (t : Tr) (keep : List Bool) : Nat → List (List Bool)
  | 0 => List.replicate (t.code.length + 1) (noneV t)
  | j + 1 => rowsL t (lastR t keep j)
theorem rowsL_len (t : Tr) (l : List Bool) : (rowsL t l).length = t.code.length + 1 := by simp [rowsL]
theorem rowsR_len (t : Tr) (keep : List Bool) (j : Nat) : (rowsR t keep j).length = t.code.length + 1 := by
  cases j <;> simp [rowsR, rowsL_len]
theorem rowsR_row (t : Tr) (keep : List Bool) (j : Nat) : ∀ r ∈ rowsR t keep j, r.length = t.regs.toNat := by
  intro r hr
  cases j with
  | zero => rw [List.eq_of_mem_replicate hr]; simp [noneV]
  | succ j =>
    simp only [rowsR, rowsL, List.mem_map] at hr
    obtain ⟨k, _, rfl⟩ := hr
    rw [rowA_len, lastR_len]
theorem rowsR_zero (t : Tr) (keep : List Bool) (j : Nat) : ∃ r, (rowsR t keep j)[0]? = some r ∧ orL r keep = lastR t keep j := by
  cases j with
  | zero => exact ⟨noneV t, by simp [rowsR], rfl⟩
  | succ j => exact ⟨_, rowsL_at t _ 0 (by omega), by simp [lastR]⟩
theorem reads_in {t : Tr} {i : Ins} (hr : 1 ≤ t.regs) (hi : insOk t.regs t.exits.length i = true) (hs : ∀ e ∈ t.exits, ∀ s ∈ e.slots, 0 ≤ s ∧ s < t.regs) : ∀ r ∈ readsV t i true, 0 ≤ r ∧ r < t.regs := by
  obtain ⟨_, _, ha, hb, _, _⟩ := insOk_regs hi hr
  intro r h
  simp only [readsV, List.mem_flatMap] at h
  obtain ⟨c, _, h⟩ := h
  unfold readsC at h
  split at h
  · simp at h; subst h; exact ha
  · split at h
    · simp at h; subst h; exact hb
    · split at h
      · unfold slotsAt at h
        split at h
        · rename_i e he
          exact hs e (List.mem_of_getElem? he) r h
        · cases h
      · cases h
theorem exOk_slots {t : Tr} (h : trOk t = true) : (∀ e ∈ t.exits, ∀ s ∈ e.slots, 0 ≤ s ∧ s < t.regs) ∧ ∀ e ∈ t.exits, e.slots.length ≤ 20 := by
  simp only [trOk, Bool.and_eq_true, decide_eq_true_eq, List.all_eq_true] at h
  refine ⟨fun e he s hs => ?_, fun e he => ?_⟩
  · have := h.2 e he
    simp only [exOk, Bool.and_eq_true, decide_eq_true_eq, Bool.not_eq_true', List.any_eq_false, slotBad, Bool.or_eq_true, not_or, Int.not_lt, Int.not_le] at this
    exact this.2 s hs
  · have := h.2 e he
    simp only [exOk, Bool.and_eq_true, decide_eq_true_eq] at this
    exact this.1
theorem markL_step {l : List Bool} {rs : List Int} {j : Nat} {r : Int} (h : rs[j]? = some r) : markL l (rs.take (j + 1)) = (markL l (rs.take j)).set r.toNat true := by
  rw [List.take_add_one, h, markL_app]; rfl

set_option maxHeartbeats 16000000 in
theorem live_spec (t : Tr) (keep : List Bool) (hok : trOk t = true) (hk : keep.length ≤ t.regs.toNat) : PCall Try.prog 58 [dTr t, dBl keep] fun r => r = .sl 1 ((rowsV t keep).map fun l => [dBl l]) := by 
  obtain ⟨hr1, hr2, hcl, hel⟩ := trOk_regs hok
  refine pcall_of Try.func58 rfl rfl Try.ntmps58 (rs := [.tmp 4]) (tys := [94]) rfl rfl (by simp) ?_
  (refine awp_sr fun KK hKK => ?_; simp [go_sem]; ((repeat' (first|(refine ag_x ?_;simp [go_sem])|intro _|refine And.intro ?_ ?_|(apply hKK;clear hKK KK)));all_goals first|refine Hold.mk ?_|omega|with_reducible assumption|(simp only [InR] at *;omega)|skip))
  refine awp_frzbox 2 rfl rfl ?_
  simp only [go_sem]
  (refine awp_sr fun KK hKK => ?_; simp [go_sem]; ((repeat' (first|(refine ag_x ?_;simp [go_sem])|intro _|refine And.intro ?_ ?_|(apply hKK;clear hKK KK)));all_goals first|refine Hold.mk ?_|omega|with_reducible assumption|(simp only [InR] at *;omega)|skip))
  (refine awp_sr fun KK hKK => ?_; simp [go_sem]; ((repeat' (first|(refine ag_x ?_;simp [go_sem])|intro _|refine And.intro ?_ ?_|(apply hKK;clear hKK KK)));all_goals first|refine Hold.mk ?_|omega|with_reducible assumption|(simp only [InR] at *;omega)|skip))
  refine awp_renrow 6 900001 rfl rfl (by decide) fun go => ?_
  simp only [go_sem]
  refine awp_seq_k fun K1 hK1 => ?_
  (refine awp_sr fun KK hKK => ?_; simp [go_sem]; ((repeat' (first|(refine ag_x ?_;simp [go_sem])|intro _|refine And.intro ?_ ?_|(apply hKK;clear hKK KK)));all_goals first|refine Hold.mk ?_|omega|with_reducible assumption|(simp only [InR] at *;omega)|skip))
  refine awp_block ?_
  refine awp_loop (σ := Nat × List (Nat × List Bool)) (fun x => ⟨[(1, dBl keep), (2, .rd [dI t.regs, .sl 6 (t.code.map cIns), .sl 2 (t.exits.map cExi)]), (5, dI t.code.length), (6, .own 900001 go), (20, dI (t.code.length + 1)), (21, dI x.1)],
    (900001, (go, .row 91 1 (famO 1 0 x.2 ++ List.replicate (t.code.length + 1 - x.1) [.v (.slice none 0 0)]))) :: fam 1 4 1 mB 0 x.2⟩) (fun x => x.1 ≤ t.code.length + 1 ∧ x.2.length = x.1 ∧ x.2.map (·.2) = List.replicate x.1 (noneV t)) (fun x => t.code.length + 1 - x.1) (0, []) ?_ ?_ ?_
  · (refine cov_of ?_ ?_ <;> simp [go_sem, fam, famO])
  · simp
  rintro ⟨j, rs⟩ ⟨hj, hrl, hrs⟩
  simp only at hj hrl hrs
  (refine awp_sr fun KK hKK => ?_; simp [go_sem]; ((repeat' (first|(refine ag_x ?_;simp [go_sem])|intro _|refine And.intro ?_ ?_|(apply hKK;clear hKK KK)));all_goals first|refine Hold.mk ?_|omega|with_reducible assumption|(simp only [InR] at *;omega)|skip))
  refine awp_seq_k fun K2 hK2 => ?_
  (refine awp_if fun T F hT hF => ?_; simp [go_sem]; refine BR.intro (fun h3 => hT ?_) (fun h3 => hF ?_); all_goals clear hT hF T F; try simp at h3) 
  · refine awp_skip ?_
    refine hK2 _ ?_; clear hK2
    refine awp_seq_k fun K4 hK4 => ?_
    refine awp_block ?_
    have hop := famO_open (b := 1) (x := [D.v (.slice none 0 0)]) (m := t.code.length + 1 - j) rs (by omega)
    rw [hrl] at hop
    (refine awp_sr fun KK hKK => ?_; simp [go_sem]; ((repeat' (first|(refine ag_x ?_;simp [go_sem])|intro _|refine And.intro ?_ ?_|(apply hKK;clear hKK KK)));all_goals first|refine Hold.mk ?_|omega|with_reducible assumption|(simp only [InR] at *;omega)|skip))
    (refine awp_r fun KK hKK => ?_; simp [go_sem, hop]; ((repeat' (first|(refine ag_x ?_;simp [go_sem, hop])|intro _|refine And.intro ?_ ?_|(apply hKK;clear hKK KK)));all_goals first|refine Hold.mk ?_|omega|with_reducible assumption|(simp only [InR] at *;omega)|skip))
    rename_i g28
    simp only [go_sem]
    refine hK4 _ ?_; clear hK4
    refine awp_renin 28 (fs 1 j) 900001 j (g := g28) (go := go) rfl rfl (by decide) (fun h => by have := fs_big' 1 j; omega) (by rw [List.getElem?_set]; simp [famO_len, hrl]; omega) (fun _ => fs_big _ _) fun g' => ?_
    simp only [List.set_set]
    obtain ⟨m, hm⟩ : ∃ m, t.code.length + 1 - j = m + 1 := ⟨t.code.length - j, by omega⟩
    have hfill := famO_fill (b := 1) (m := m) (g := g') (x := [D.v (.slice none 0 0)]) rs (noneV t)
    rw [hrl] at hfill
    rw [hm, hfill]
    simp only [go_sem]
    (refine awp_r fun KK hKK => ?_; simp [go_sem]; ((repeat' (first|(refine ag_x ?_;simp [go_sem])|intro _|refine And.intro ?_ ?_|(apply hKK;clear hKK KK)));all_goals first|refine Hold.mk ?_|omega|with_reducible assumption|(simp only [InR] at *;omega)|skip))
    refine ⟨(j + 1, rs ++ [(g', noneV t)]), ?_, ⟨by simp; omega, by simp [hrl], ?_⟩, by simp; omega⟩
    · have e1 : t.code.length + 1 - (j + 1) = m := by omega
      simp only [e1]
      (refine cov_of ?_ ?_ <;> simp [go_sem])
      refine FamIn.snoc ?_ hrl.symm ?_
      · simp [go_sem]
      · simp [mB, noneV]
    · simp [hrs, List.replicate_succ']
  · refine awp_exit ?_
    simp only [go_sem]
    refine hK1 _ ?_; clear hK1
    have hj' : j = t.code.length + 1 := by omega
    subst hj'
    rw [Nat.sub_self, List.replicate_zero, List.append_nil]
    refine awp_seq_k fun K5 hK5 => ?_
    (refine awp_sr fun KK hKK => ?_; simp [go_sem]; ((repeat' (first|(refine ag_x ?_;simp [go_sem])|intro _|refine And.intro ?_ ?_|(apply hKK;clear hKK KK)));all_goals first|refine Hold.mk ?_|omega|with_reducible assumption|(simp only [InR] at *;omega)|skip))
    refine awp_block ?_
    refine awp_loop (σ := Nat × List (Nat × List Bool)) (fun x => ⟨[(1, dBl keep), (2, .rd [dI t.regs, .sl 6 (t.code.map cIns), .sl 2 (t.exits.map cExi)]), (5, dI t.code.length), (6, .own 900001 go), (8, dI x.1)],
      (900001, (go, .row 91 1 (famO 1 0 x.2))) :: fam 1 4 1 mB 0 x.2⟩) (fun x => (x.1 : Int) ≤ t.regs + 1 ∧ x.2.map (·.2) = rowsR t keep x.1) (fun x => (t.regs + 1).toNat - x.1) (0, rs) ?_ ?_ ?_
    · (refine cov_of ?_ ?_ <;> simp [go_sem])
    · exact ⟨by simp; omega, hrs⟩
    rintro ⟨j, rs⟩ ⟨hj, hrs⟩
    simp only at hj hrs
    have hrl : rs.length = t.code.length + 1 := by rw [← rowsR_len t keep j, ← hrs, List.length_map]
    refine awp_seq_k fun K6 hK6 => ?_
    (refine awp_sr fun KK hKK => ?_; simp [go_sem]; ((repeat' (first|(refine ag_x ?_;simp [go_sem])|intro _|refine And.intro ?_ ?_|(apply hKK;clear hKK KK)));all_goals first|refine Hold.mk ?_|omega|with_reducible assumption|(simp only [InR] at *;omega)|skip))
    (refine awp_if fun T F hT hF => ?_; simp [go_sem]; refine BR.intro (fun h7 => hT ?_) (fun h7 => hF ?_); all_goals clear hT hF T F; try simp at h7) 
    · refine awp_skip ?_
      refine hK6 _ ?_; clear hK6
      obtain ⟨r0, hr0, hor⟩ := rowsR_zero t keep j
      rw [← hrs, List.getElem?_map] at hr0
      obtain ⟨⟨g0, r0'⟩, h0, he0⟩ := Option.map_eq_some_iff.1 hr0
      simp only at he0
      subst he0
      obtain ⟨⟨gn, rn⟩, hn⟩ : ∃ x, rs[t.code.length]? = some x := ⟨_, List.getElem?_eq_getElem (by omega)⟩
      have hrow : ∀ p ∈ rs, p.2.length = t.regs.toNat := fun p hp => rowsR_row t keep j _ (by rw [← hrs]; exact List.mem_map_of_mem hp)
      have hl0 := hrow _ (List.mem_of_getElem? h0)
      have hln := hrow _ (List.mem_of_getElem? hn)
      simp only at hl0 hln
      refine awp_seq_k fun K8 hK8 => ?_
      refine awp_block ?_
      (refine awp_sr fun KK hKK => ?_; simp [go_sem]; ((repeat' (first|(refine ag_x ?_;simp [go_sem])|intro _|refine And.intro ?_ ?_|(apply hKK;clear hKK KK)));all_goals first|refine Hold.mk ?_|omega|with_reducible assumption|(simp only [InR] at *;omega)|skip))
      (refine callA_l (900001 :: famS 1 0 rs.length) (by first | exact .inl ⟨rfl, rfl⟩ | exact .inr rfl) (by simp [go_sem]) ?_; intro args ha; simp [go_sem] at ha; subst ha; refine ⟨_, _, (behind_spec t go rs keep h0 hn (by omega) (by omega) (by omega) hrl hcl), (by simp [go_sem]), ?_⟩; rintro ps r hps ⟨rfl, rfl⟩; simp [go_sem]; ((repeat' (first|(refine ag_x ?_;simp [go_sem])|intro _|refine And.intro ?_ ?_|(apply hKK;clear hKK KK)));all_goals first|refine Hold.mk ?_|omega|with_reducible assumption|(simp only [InR] at *;omega)|skip))
      rw [hor]
      have hfo : famO 1 0 (rs.set t.code.length (gn, lastR t keep j)) = famO 1 0 rs := famO_set rs _ gn _ rn hn 0
      obtain ⟨L, hL⟩ : ∃ L, L = lastR t keep j := ⟨_, rfl⟩
      have hLl : L.length = t.regs.toNat := by rw [hL, lastR_len]
      rw [← hL] at hfo ⊢
      refine awp_cov (S' := ⟨[(1, dBl keep), (2, .rd [dI t.regs, .sl 6 (t.code.map cIns), .sl 2 (t.exits.map cExi)]), (5, dI t.code.length), (6, .own 900001 go), (8, dI j)],
        (900001, (go, .row 91 1 (famO 1 0 (rs.set t.code.length (gn, L))))) :: fam 1 4 1 mB 0 (rs.set t.code.length (gn, L))⟩) (by
          rw [hfo]
          (refine cov_of ?_ ?_ <;> simp [go_sem])
          exact FamIn.app _ _) ?_
      have hrl1 : (rs.set t.code.length (gn, L)).length = t.code.length + 1 := by simp [hrl]
      have hrow1 : ∀ p ∈ rs.set t.code.length (gn, L), p.2.length = t.regs.toNat := fun p hp => by
        rcases List.mem_or_eq_of_mem_set hp with h | h
        · exact hrow p h
        · rw [h]; exact hLl
      have hat1 : (rs.set t.code.length (gn, L))[t.code.length]? = some (gn, L) := by simp [hrl]
      generalize rs.set t.code.length (gn, L) = rs1 at hrl1 hrow1 hat1
      clear hfo hn h0 hr0 hor hrow hps hrl hrs rn hln
      (refine awp_sr fun KK hKK => ?_; simp [go_sem]; ((repeat' (first|(refine ag_x ?_;simp [go_sem])|intro _|refine And.intro ?_ ?_|(apply hKK;clear hKK KK)));all_goals first|refine Hold.mk ?_|omega|with_reducible assumption|(simp only [InR] at *;omega)|skip))
      refine awp_block ?_
      refine awp_loop (σ := Nat × List (Nat × List Bool)) (fun x => ⟨[(1, dBl keep), (2, .rd [dI t.regs, .sl 6 (t.code.map cIns), .sl 2 (t.exits.map cExi)]), (5, dI t.code.length), (6, .own 900001 go), (8, dI j), (9, dI ((x.1 : Int) - 1))],
        (900001, (go, .row 91 1 (famO 1 0 x.2))) :: fam 1 4 1 mB 0 x.2⟩) (fun x => x.1 ≤ t.code.length ∧ x.2.length = t.code.length + 1 ∧ (∀ p ∈ x.2, p.2.length = t.regs.toNat) ∧ ∀ i, x.1 ≤ i → i ≤ t.code.length → (x.2[i]?).map (·.2) = some (rowA t (t.code.drop i) L)) (fun x => x.1) (t.code.length, rs1) ?_ ?_ ?_
      · (refine cov_of ?_ ?_ <;> simp [go_sem])
      · exact ⟨Nat.le_refl _, hrl1, hrow1, fun i h1 h2 => by
          have : i = t.code.length := by simp at h1; omega
          subst this
          simp only [hat1, List.drop_length]
          rfl⟩
      rintro ⟨m, rs⟩ ⟨hm, hrl, hrow, hdone⟩
      simp only at hm hrl hrow hdone
      refine awp_seq_k fun K9 hK9 => ?_
      (refine awp_sr fun KK hKK => ?_; simp [go_sem]; ((repeat' (first|(refine ag_x ?_;simp [go_sem])|intro _|refine And.intro ?_ ?_|(apply hKK;clear hKK KK)));all_goals first|refine Hold.mk ?_|omega|with_reducible assumption|(simp only [InR] at *;omega)|skip))
      (refine awp_if fun T F hT hF => ?_; simp [go_sem]; refine BR.intro (fun h10 => hT ?_) (fun h10 => hF ?_); all_goals clear hT hF T F; try simp at h10) 
      · refine awp_skip ?_
        refine hK9 _ ?_; clear hK9
        obtain ⟨k, rfl⟩ : ∃ k, m = k + 1 := ⟨m - 1, by omega⟩
        have ek : ((k + 1 : Nat) : Int) - 1 = k := by omega
        have ek1 : ((k : Int) + 1).toNat = k + 1 := by omega
        rw [ek]
        obtain ⟨x, hx⟩ : ∃ x, t.code[k]? = some x := ⟨_, List.getElem?_eq_getElem (by omega)⟩
        obtain ⟨⟨gk, rk⟩, hrk⟩ : ∃ x, rs[k]? = some x := ⟨_, List.getElem?_eq_getElem (by omega)⟩
        obtain ⟨⟨gk1, R⟩, hrk1⟩ : ∃ x, rs[k + 1]? = some x := ⟨_, List.getElem?_eq_getElem (by omega)⟩
        have hR := hdone (k + 1) (Nat.le_refl _) (by omega)
        rw [hrk1] at hR
        simp only [Option.map_some, Option.some.injEq] at hR
        have hlk := hrow _ (List.mem_of_getElem? hrk)
        have hlR := hrow _ (List.mem_of_getElem? hrk1)
        simp only at hlk hlR
        refine awp_seq_k fun K11 hK11 => ?_
        refine awp_block ?_
        ((refine awp_dr (.qs [0, 1, 2, 4, 5, 6, 7, 3, 8] (.one 9 (.nil))) (by kernel_rfl) ?_ ?_ ?_ ?_); (kernel_rfl); (exact (by decide +kernel)); (kernel_rfl); intro KK hKK; ((repeat' (first|(refine ag_x ?_;simp [go_sem, hrk, hrk1, ek1])|refine adr_nil ?_|refine adr_two ?_ ?_|refine adr_kp2 ?_ ?_|((first|refine adr_qs fun KK hKK=>?_|refine adr_y fun KK hKK=>?_);simp [go_sem, hrk, hrk1, ek1])|intro _|refine And.intro ?_ ?_|(apply hKK;clear hKK KK)));all_goals first|refine Hold.mk ?_|omega|with_reducible assumption|(simp only [InR] at *;omega)|skip))
        have hset : ∀ X, famO 1 0 (rs.set k (gk, X)) = famO 1 0 rs := fun X => famO_set rs k gk X rk hrk 0
        have hsk : ∀ X, (rs.set k (gk, X))[k]? = some (gk, X) := fun X => by rw [List.getElem?_set]; simp [hrl]; omega
        refine awp_cov (S' := ⟨[(1, dBl keep), (2, .rd [dI t.regs, .sl 6 (t.code.map cIns), .sl 2 (t.exits.map cExi)]), (5, dI t.code.length), (6, .own 900001 go), (8, dI j), (9, dI k)],
          (900001, (go, .row 91 1 (famO 1 0 rs))) :: fam 1 4 1 mB 0 (rs.set k (gk, R))⟩) (by
            (refine cov_of ?_ ?_ <;> simp [go_sem])
            refine FamIn.set ?_ ?_
            · simp [go_sem]
            · simp [mB, hlk, hlR, List.take_of_length_le]) ?_
        have hix := insOk_at hok hx
        obtain ⟨ho1, ho2, _, _, hxd, _⟩ := insOk_regs hix hr1
        obtain ⟨hse, hse20⟩ := exOk_slots hok
        have hri := reads_in hr1 hix hse
        obtain ⟨bd, hbd⟩ : ∃ b, R[x.d.toNat]? = some b := ⟨_, List.getElem?_eq_getElem (by omega)⟩
        refine awp_seq_k fun K12 hK12 => ?_
        have tl12 : ∀ S', Cov S' ⟨[(1, dBl keep), (2, .rd [dI t.regs, .sl 6 (t.code.map cIns), .sl 2 (t.exits.map cExi)]), (5, dI t.code.length), (6, .own 900001 go), (8, dI j), (9, dI k)],
            (900001, (go, .row 91 1 (famO 1 0 rs))) :: fam 1 4 1 mB 0 (rs.set k (gk, if x.op ≤ 8 then R.set x.d.toNat false else R))⟩ → K12 S' := fun S' hS => by
          refine hK12 _ ?_; clear hK12
          refine awp_cov hS ?_; clear hS
          obtain ⟨R1, hR1⟩ : ∃ l, l = (if x.op ≤ 8 then R.set x.d.toNat false else R) := ⟨_, rfl⟩
          have hlR1 : R1.length = t.regs.toNat := by rw [hR1]; split <;> simp [hlR]
          have hah : rowA t (t.code.drop k) L = markL R1 (readsV t x true) := by
            have hd : t.code.drop k = x :: t.code.drop (k + 1) := by
              rw [List.drop_eq_getElem_cons (by omega)]
              rw [List.getElem?_eq_getElem (by omega)] at hx
              simp only [Option.some.injEq] at hx
              rw [hx]
            rw [hd, rowA_cons, ← hR, hR1]
            rfl
          rw [← hR1]
          ((refine awp_dr (.qs [1, 3, 8, 0, 2, 4, 5] (.one 6 (.qs [7] (.nil)))) (by kernel_rfl) ?_ ?_ ?_ ?_); (kernel_rfl); (exact (by decide +kernel)); (kernel_rfl); intro KK hKK; ((repeat' (first|(refine ag_x ?_;simp [go_sem, hx])|refine adr_nil ?_|refine adr_two ?_ ?_|refine adr_kp2 ?_ ?_|((first|refine adr_qs fun KK hKK=>?_|refine adr_y fun KK hKK=>?_);simp [go_sem, hx])|intro _|refine And.intro ?_ ?_|(apply hKK;clear hKK KK)));all_goals first|refine Hold.mk ?_|omega|with_reducible assumption|(simp only [InR] at *;omega)|skip))
          ((try refine CallT.toA ?_); refine callT_m (by first | exact .inl ⟨rfl, rfl⟩ | exact .inr rfl) (by simp [go_sem]) ?_; intro args ha; simp [go_sem] at ha; subst ha; refine ⟨_, (reads_spec t x true (fun _ => hix) hse20), ?_⟩; rintro _ rfl; simp [go_sem]; ((repeat' (first|(refine ag_x ?_;simp [go_sem])|refine adr_nil ?_|refine adr_two ?_ ?_|refine adr_kp2 ?_ ?_|((first|refine adr_qs fun KK hKK=>?_|refine adr_y fun KK hKK=>?_);simp [go_sem])|intro _|refine And.intro ?_ ?_|(apply hKK;clear hKK KK)));all_goals first|refine Hold.mk ?_|omega|with_reducible assumption|(simp only [InR] at *;omega)|skip))
          have hrl9 : (readsV t x true).length ≤ 80 := readsV_len hse20
          generalize readsV t x true = rl at hah hri hrl9
          refine awp_block ?_
          refine awp_loop (σ := Nat) (fun y => ⟨[(1, dBl keep), (2, .rd [dI t.regs, .sl 6 (t.code.map cIns), .sl 2 (t.exits.map cExi)]), (5, dI t.code.length), (6, .own 900001 go), (8, dI j), (9, dI k), (78, dIs rl), (79, dI rl.length), (80, dI y)],
            (900001, (go, .row 91 1 (famO 1 0 rs))) :: fam 1 4 1 mB 0 (rs.set k (gk, markL R1 (rl.take y)))⟩) (fun y => y ≤ rl.length) (fun y => rl.length - y) 0 ?_ ?_ ?_
          · (refine cov_of ?_ ?_ <;> simp [go_sem, markL])
          · simp
          intro y hy
          (refine awp_sr fun KK hKK => ?_; simp [go_sem]; ((repeat' (first|(refine ag_x ?_;simp [go_sem])|intro _|refine And.intro ?_ ?_|(apply hKK;clear hKK KK)));all_goals first|refine Hold.mk ?_|omega|with_reducible assumption|(simp only [InR] at *;omega)|skip))
          refine awp_seq_k fun K13 hK13 => ?_
          (refine awp_if fun T F hT hF => ?_; simp [go_sem]; refine BR.intro (fun h14 => hT ?_) (fun h14 => hF ?_); all_goals clear hT hF T F; try simp at h14) 
          · refine awp_skip ?_
            refine hK13 _ ?_; clear hK13
            obtain ⟨r, hr⟩ : ∃ r, rl[y]? = some r := ⟨_, List.getElem?_eq_getElem (by omega)⟩
            have hrb := hri r (List.mem_of_getElem? hr)
            have hml : (markL R1 (rl.take y)).length = t.regs.toNat := by rw [markL_len, hlR1]
            obtain ⟨bo, hbo⟩ : ∃ b, (markL R1 (rl.take y))[r.toNat]? = some b := ⟨_, List.getElem?_eq_getElem (by omega)⟩
            refine awp_seq_k fun K15 hK15 => ?_
            refine awp_block ?_
            (refine awp_sr fun KK hKK => ?_; simp [go_sem, hr]; ((repeat' (first|(refine ag_x ?_;simp [go_sem, hr])|intro _|refine And.intro ?_ ?_|(apply hKK;clear hKK KK)));all_goals first|refine Hold.mk ?_|omega|with_reducible assumption|(simp only [InR] at *;omega)|skip))
            (refine awp_r fun KK hKK => ?_; simp [go_sem, hsk, hrk, hbo]; ((repeat' (first|(refine ag_x ?_;simp [go_sem, hsk, hrk, hbo])|intro _|refine And.intro ?_ ?_|(apply hKK;clear hKK KK)));all_goals first|refine Hold.mk ?_|omega|with_reducible assumption|(simp only [InR] at *;omega)|skip))
            refine hK15 _ ?_; clear hK15
            (refine awp_r fun KK hKK => ?_; simp [go_sem]; ((repeat' (first|(refine ag_x ?_;simp [go_sem])|intro _|refine And.intro ?_ ?_|(apply hKK;clear hKK KK)));all_goals first|refine Hold.mk ?_|omega|with_reducible assumption|(simp only [InR] at *;omega)|skip))
            refine ⟨y + 1, ?_, by omega, by omega⟩
            have hms := markL_step (l := R1) hr
            (refine cov_of ?_ ?_ <;> simp [go_sem])
            have hfam := FamIn.set (m := k) (g := gk) (x := markL R1 (rl.take (y + 1))) (es := mB (markL R1 (rl.take (y + 1)))) (FamIn.lt (s := 900001) (x := (go, .row 91 1 (famO 1 0 rs))) (FamIn.refl (b := 1) (e := 4) (k := 1) (f := mB) (rs.set k (gk, markL R1 (rl.take y))) 0) (by decide)) rfl
            rw [List.set_set, hms, mB_set] at hfam
            simpa [hms, mB] using hfam
          · refine awp_exit ?_
            simp only [go_sem]
            refine hK11 _ ?_; clear hK11
            have : y = rl.length := by omega
            subst this
            rw [List.take_length, ← hah]
            (refine awp_r fun KK hKK => ?_; simp [go_sem]; ((repeat' (first|(refine ag_x ?_;simp [go_sem])|intro _|refine And.intro ?_ ?_|(apply hKK;clear hKK KK)));all_goals first|refine Hold.mk ?_|omega|with_reducible assumption|(simp only [InR] at *;omega)|skip))
            refine ⟨(k, rs.set k (gk, rowA t (t.code.drop k) L)), ?_, ⟨by omega, by simp [hrl], fun p hp => ?_, fun i h1 h2 => ?_⟩, by simp⟩
            · simp only [hset]
              (refine cov_of ?_ ?_ <;> simp [go_sem])
            · rcases List.mem_or_eq_of_mem_set hp with h | h
              · exact hrow p h
              · rw [h]; simp only [rowA_len, hLl]
            · simp only at h1 ⊢
              by_cases hik : i = k
              · subst hik; rw [hsk]; rfl
              · rw [List.getElem?_set, if_neg (by omega)]; exact hdone i (by omega) h2
        clear hK12
        (refine awp_sr fun KK hKK => ?_; simp [go_sem, hx]; ((repeat' (first|(refine ag_x ?_;simp [go_sem, hx])|intro _|refine And.intro ?_ ?_|(apply hKK;clear hKK KK)));all_goals first|refine Hold.mk ?_|omega|with_reducible assumption|(simp only [InR] at *;omega)|skip))
        rename_i g10
        refine awp_frzbox 10 rfl rfl ?_
        simp only [go_sem]
        (refine awp_sr fun KK hKK => ?_; simp [go_sem]; ((repeat' (first|(refine ag_x ?_;simp [go_sem])|intro _|refine And.intro ?_ ?_|(apply hKK;clear hKK KK)));all_goals first|refine Hold.mk ?_|omega|with_reducible assumption|(simp only [InR] at *;omega)|skip))
        ((try refine CallT.toA ?_); refine callT_m (by first | exact .inl ⟨rfl, rfl⟩ | exact .inr rfl) (by simp [go_sem]) ?_; intro args ha; simp [go_sem] at ha; subst ha; refine ⟨_, (writes_spec _), ?_⟩; rintro _ rfl; simp [go_sem]; ((repeat' (first|(refine ag_x ?_;simp [go_sem])|intro _|refine And.intro ?_ ?_|(apply hKK;clear hKK KK)));all_goals first|refine Hold.mk ?_|omega|with_reducible assumption|(simp only [InR] at *;omega)|skip))
        (refine awp_if fun T F hT hF => ?_; simp [go_sem]; refine BR.intro (fun h16 => hT ?_) (fun h16 => hF ?_); all_goals clear hT hF T F; try simp at h16) 
        · ((refine awp_d (.qs [0, 1, 2, 4, 3, 5, 6] (.one 7 (.nil))) (by kernel_rfl) ?_ ?_ ?_ ?_); (kernel_rfl); (exact (by decide +kernel)); (kernel_rfl); intro KK hKK; ((repeat' (first|(refine ag_x ?_;simp [go_sem, hsk, hrk, hbd])|refine adr_nil ?_|refine adr_two ?_ ?_|refine adr_kp2 ?_ ?_|((first|refine adr_qs fun KK hKK=>?_|refine adr_y fun KK hKK=>?_);simp [go_sem, hsk, hrk, hbd])|intro _|refine And.intro ?_ ?_|(apply hKK;clear hKK KK)));all_goals first|refine Hold.mk ?_|omega|with_reducible assumption|(simp only [InR] at *;omega)|skip))
          refine tl12 _ ?_
          rw [if_pos h16]
          (refine cov_of ?_ ?_ <;> simp [go_sem])
          have hfam := FamIn.set (m := k) (g := gk) (x := R.set x.d.toNat false) (es := mB (R.set x.d.toNat false)) (FamIn.lt (s := 900001) (x := (go, .row 91 1 (famO 1 0 rs))) (FamIn.refl (b := 1) (e := 4) (k := 1) (f := mB) (rs.set k (gk, R)) 0) (by decide)) rfl
          rw [List.set_set, mB_set] at hfam
          simpa [mB] using hfam
        · refine awp_skip ?_
          refine tl12 _ ?_
          rw [if_neg (by omega)]
          (refine cov_of ?_ ?_ <;> simp [go_sem])
      · refine awp_exit ?_
        simp only [go_sem]
        refine hK8 _ ?_; clear hK8
        have hm0 : m = 0 := by omega
        subst hm0
        (refine awp_r fun KK hKK => ?_; simp [go_sem]; ((repeat' (first|(refine ag_x ?_;simp [go_sem])|intro _|refine And.intro ?_ ?_|(apply hKK;clear hKK KK)));all_goals first|refine Hold.mk ?_|omega|with_reducible assumption|(simp only [InR] at *;omega)|skip))
        refine ⟨(j + 1, rs), ?_, ⟨by simp; omega, ?_⟩, by simp; omega⟩
        · (refine cov_of ?_ ?_ <;> simp [go_sem])
        · simp only [rowsR, rowsL]
          apply List.ext_getElem?
          intro i
          rw [List.getElem?_map, List.getElem?_map]
          by_cases hi : i ≤ t.code.length
          · rw [hdone i (by omega) hi, hL, List.getElem?_range (by omega)]; rfl
          · rw [List.getElem?_eq_none (by omega), List.getElem?_eq_none (by simp; omega)]; rfl
    · refine awp_exit ?_
      simp only [go_sem]
      refine hK5 _ ?_; clear hK5
      obtain ⟨q, hq⟩ : ∃ q, j = q + 2 := ⟨j - 2, by omega⟩
      obtain ⟨r0, hr0, hor⟩ := rowsR_zero t keep j
      rw [← hrs, List.getElem?_map] at hr0
      obtain ⟨⟨g0, r0'⟩, h0, he0⟩ := Option.map_eq_some_iff.1 hr0
      simp only at he0
      subst he0
      obtain ⟨⟨gn, rn⟩, hn⟩ : ∃ x, rs[t.code.length]? = some x := ⟨_, List.getElem?_eq_getElem (by omega)⟩
      have hrow : ∀ p ∈ rs, p.2.length = t.regs.toNat := fun p hp => rowsR_row t keep j _ (by rw [← hrs]; exact List.mem_map_of_mem hp)
      have hl0 := hrow _ (List.mem_of_getElem? h0)
      have hln := hrow _ (List.mem_of_getElem? hn)
      simp only at hl0 hln
      have hrv : (rs.set t.code.length (gn, lastR t keep j)).map (·.2) = rowsV t keep := by
        subst hq
        rw [List.map_set, hrs, lastR_eq]
        simp only [rowsR, lastR_eq]
        apply List.ext_getElem?
        intro i
        rw [List.getElem?_set]
        unfold rowsV
        split
        · rename_i e; subst e
          rw [if_pos (by rw [rowsL_len]; omega), rowsL_at _ _ _ (Nat.le_refl _), List.drop_length]
          rfl
        · rfl
      (refine awp_sr fun KK hKK => ?_; simp [go_sem]; ((repeat' (first|(refine ag_x ?_;simp [go_sem])|intro _|refine And.intro ?_ ?_|(apply hKK;clear hKK KK)));all_goals first|refine Hold.mk ?_|omega|with_reducible assumption|(simp only [InR] at *;omega)|skip))
      (refine callA_l (900001 :: famS 1 0 rs.length) (by first | exact .inl ⟨rfl, rfl⟩ | exact .inr rfl) (by simp [go_sem]) ?_; intro args ha; simp [go_sem] at ha; subst ha; refine ⟨_, _, (behind_spec t go rs keep h0 hn (by omega) (by omega) (by omega) hrl hcl), (by simp [go_sem]), ?_⟩; rintro ps r hps ⟨rfl, rfl⟩; simp [go_sem]; ((repeat' (first|(refine ag_x ?_;simp [go_sem])|intro _|refine And.intro ?_ ?_|(apply hKK;clear hKK KK)));all_goals first|refine Hold.mk ?_|omega|with_reducible assumption|(simp only [InR] at *;omega)|skip))
      rw [hor]
      have hfo : famO 1 0 (rs.set t.code.length (gn, lastR t keep j)) = famO 1 0 rs := famO_set rs _ gn _ rn hn 0
      refine awp_frzfam (b := 1) (e := 4) (k := 1) (f := mB) (go := go) (eo := 91) 900001 (rs := rs.set t.code.length (gn, lastR t keep j)) (ho := []) (by simp [go_sem, hfo]) (by simp only [famIn_lt, show (900001 : Nat) < 1000000 by decide]; exact FamIn.app _ _) (by decide) trivial (by simp) ?_
      (refine awp_sr fun KK hKK => ?_; simp [go_sem]; ((repeat' (first|(refine ag_x ?_;simp [go_sem])|intro _|refine And.intro ?_ ?_|(apply hKK;clear hKK KK)));all_goals first|refine Hold.mk ?_|omega|with_reducible assumption|(simp only [InR] at *;omega)|skip))
      (refine awp_ret ?_; simp [go_sem])
      rw [← hrv, List.map_map, List.map_set]
      rfl
end Go.Proofs.Ytmgbaegdkjcagaa

namespace Go.Proofs.Ytmgbaegdkjcagaa
open Go.Eng
set_option linter.unusedSimpArgs false
set_option linter.unusedVariables false

/-! words of registers that are not live do not matter -/
/-- two states agree on the registers that are marked -/
def Agree (l : List Bool) (ws ws' : List Int) : Prop := ws'.length = ws.length ∧ ∀ m, m < ws.length → l.getD m false = true → ws.getD m 0 = ws'.getD m 0
theorem Agree.refl (l : List Bool) (ws : List Int) : Agree l ws ws := ⟨rfl, fun _ _ _ => rfl⟩
theorem Agree.mono {l l' : List Bool} {ws ws' : List Int} (h : Agree l ws ws') (hl : ∀ m, m < ws.length → l'.getD m false = true → l.getD m false = true) : Agree l' ws ws' := ⟨h.1, fun m hm h' => h.2 m hm (hl m hm h')⟩
theorem Agree.at {l : List Bool} {ws ws' : List Int} (h : Agree l ws ws') {r : Int} (h0 : 0 ≤ r) (hr : r < ws.length) (hl : l.getD r.toNat false = true) : wAt ws' r = wAt ws r := (h.2 r.toNat (by omega) hl).symm
theorem getD_set (ws : List Int) (d m : Nat) (v : Int) (hm : m < ws.length) : (ws.set d v).getD m 0 = if d = m then v else ws.getD m 0 := by
  simp only [List.getD_eq_getElem?_getD, List.getElem?_set]
  split
  · rename_i e; subst e; simp [hm]
  · rfl
theorem hit_of {rs : List Int} {r : Int} (h : r ∈ rs) : hit rs r.toNat = true := List.any_eq_true.2 ⟨r, h, by simp⟩
/-- what is read is live ahead -/
theorem ahead_read {t : Tr} {i : Ins} {l : List Bool} {r : Int} (hr : r ∈ readsV t i true) (hl : r.toNat < l.length) : (aheadV t i l).getD r.toNat false = true := by
  rw [aheadV_get _ _ _ _ hl]; unfold bitV; rw [hit_of hr, if_pos rfl]
theorem ahead_kept {t : Tr} {i : Ins} {l : List Bool} {m : Nat} (hm : m < l.length) (hd : i.op ≤ 8 → i.d.toNat ≠ m) (h : l.getD m false = true) : (aheadV t i l).getD m false = true := by
  rw [aheadV_get _ _ _ _ hm]; unfold bitV
  split
  · rfl
  · rw [if_neg (by rintro ⟨a, b⟩; exact hd a b)]; exact h
theorem Agree.set {t : Tr} {i : Ins} {l : List Bool} {ws ws' : List Int} (h : Agree (aheadV t i l) ws ws') (hll : l.length = ws.length) (v : Int) : Agree l (ws.set i.d.toNat v) (ws'.set i.d.toNat v) := by
  refine ⟨by simp [h.1], fun m hm hl => ?_⟩
  rw [List.length_set] at hm
  rw [getD_set _ _ _ _ hm, getD_set _ _ _ _ (by rw [h.1]; exact hm)]
  split
  · rfl
  · rename_i hd
    exact h.2 m hm (ahead_kept (by omega) (fun _ => hd) hl)
theorem Agree.setL {t : Tr} {i : Ins} {l : List Bool} {ws ws' : List Int} (h : Agree (aheadV t i l) ws ws') (hll : l.length = ws.length) (hdead : l.getD i.d.toNat false = false) (v : Int) : Agree l (ws.set i.d.toNat v) ws' := by
  refine ⟨by simp [h.1], fun m hm hl => ?_⟩
  rw [List.length_set] at hm
  rw [getD_set _ _ _ _ hm]
  split
  · rename_i e; subst e; rw [hdead] at hl; cases hl
  · rename_i hd
    exact h.2 m hm (ahead_kept (by omega) (fun _ => hd) hl)
theorem Agree.keep {t : Tr} {i : Ins} {l : List Bool} {ws ws' : List Int} (h : Agree (aheadV t i l) ws ws') (hll : l.length = ws.length) (h8 : ¬ i.op ≤ 8) : Agree l ws ws' :=
  h.mono fun m hm hl => ahead_kept (by omega) (fun h => absurd h h8) hl
theorem reads_a {t : Tr} {i : Ins} (h : (1 ≤ i.op ∧ i.op ≤ 10)) : i.a ∈ readsV t i true := by
  have hk : i.op = 1 ∨ i.op = 2 ∨ i.op = 3 ∨ i.op = 4 ∨ i.op = 5 ∨ i.op = 6 ∨ i.op = 7 ∨ i.op = 8 ∨ i.op = 9 ∨ i.op = 10 := by omega
  rcases hk with h | h | h | h | h | h | h | h | h | h <;> simp [readsV, flds, h, readsC]
theorem reads_b {t : Tr} {i : Ins} (h : (2 ≤ i.op ∧ i.op ≤ 8)) : i.b ∈ readsV t i true := by
  have hk : i.op = 2 ∨ i.op = 3 ∨ i.op = 4 ∨ i.op = 5 ∨ i.op = 6 ∨ i.op = 7 ∨ i.op = 8 := by omega
  rcases hk with h | h | h | h | h | h | h <;> simp [readsV, flds, h, readsC]
theorem reads_x {t : Tr} {i : Ins} (h : (2 ≤ i.op ∧ i.op ≤ 6) ∨ i.op = 9) : ∀ s ∈ slotsAt t i.x, s ∈ readsV t i true := by
  have hk : i.op = 2 ∨ i.op = 3 ∨ i.op = 4 ∨ i.op = 5 ∨ i.op = 6 ∨ i.op = 9 := by omega
  intro s hs
  rcases hk with h | h | h | h | h | h <;> simp [readsV, flds, h, readsC, hs]

def slotsOk (t : Tr) : Prop := ∀ e ∈ t.exits, ∀ s ∈ e.slots, 0 ≤ s ∧ s < t.regs
theorem slotsOk_of {t : Tr} (h : trOk t = true) : slotsOk t := fun e he s hs => by
  simp only [trOk, Bool.and_eq_true, decide_eq_true_eq, List.all_eq_true] at h
  have := h.2 e he
  simp only [exOk, Bool.and_eq_true, decide_eq_true_eq, Bool.not_eq_true', List.any_eq_false, slotBad, Bool.or_eq_true, not_or, Int.not_lt, Int.not_le] at this
  exact this.2 s hs
theorem slotsAt_ok {t : Tr} (h : slotsOk t) (x : Int) : ∀ s ∈ slotsAt t x, 0 ≤ s ∧ s < t.regs := fun s hs => by
  unfold slotsAt at hs
  split at hs
  · rename_i e he
    exact h e (List.mem_of_getElem? he) s hs
  · cases hs
/-- one instruction, on two states that agree on what is live ahead of it -/
theorem step_agree {t : Tr} {i : Ins} {l : List Bool} {ws ws' : List Int} (hr : 1 ≤ t.regs) (hi : insOk t.regs t.exits.length i = true) (hs : slotsOk t) (hw : (ws.length : Int) = t.regs) (hll : l.length = ws.length) (h : Agree (aheadV t i l) ws ws') :
    (stepV i ws').1 = (stepV i ws).1 ∧ (stepV i ws').2.1 = (stepV i ws).2.1 ∧ (stepV i ws').2.2.1 = (stepV i ws).2.2.1 ∧
    ((stepV i ws).2.2.1 = false → Agree l (stepV i ws).2.2.2 (stepV i ws').2.2.2) ∧
    ((stepV i ws).2.2.1 = true → pickW (stepV i ws').2.2.2 (slotsAt t i.x) = pickW (stepV i ws).2.2.2 (slotsAt t i.x)) := by
  obtain ⟨h0, h10, ha, hb, hd, hn⟩ := insOk_regs hi hr
  have ra : (1 ≤ i.op ∧ i.op ≤ 10) → wAt ws' i.a = wAt ws i.a := fun hk => h.at ha.1 (by omega) (ahead_read (reads_a hk) (by omega))
  have rb : (2 ≤ i.op ∧ i.op ≤ 8) → wAt ws' i.b = wAt ws i.b := fun hk => h.at hb.1 (by omega) (ahead_read (reads_b hk) (by omega))
  have rx : ((2 ≤ i.op ∧ i.op ≤ 6) ∨ i.op = 9) → pickW ws' (slotsAt t i.x) = pickW ws (slotsAt t i.x) := fun hk => by
    unfold pickW
    apply List.map_congr_left
    intro s hs'
    have := slotsAt_ok hs _ s hs'
    exact h.at this.1 (by omega) (ahead_read (reads_x hk s hs') (by omega))
  unfold stepV
  by_cases z0 : i.op = 0
  · simp only [z0, if_true]
    exact ⟨trivial, trivial, trivial, fun _ => h.set hll _, fun h => by cases h⟩
  by_cases z1 : i.op = 1
  · simp only [z0, z1, if_true, show ¬ (1 : Int) = 0 by decide, if_false, ra ⟨by omega, by omega⟩]
    exact ⟨trivial, trivial, trivial, fun _ => h.set hll _, fun h => by cases h⟩
  by_cases z9 : i.op = 9
  · simp only [z0, z1, z9, if_true, show ¬ (9 : Int) = 0 by decide, show ¬ (9 : Int) = 1 by decide, if_false, ra ⟨by omega, by omega⟩]
    exact ⟨trivial, trivial, trivial, fun _ => h.keep hll (by omega), fun _ => rx (.inr z9)⟩
  by_cases z10 : i.op = 10
  · simp only [z0, z1, z9, z10, if_true, show ¬ (10 : Int) = 0 by decide, show ¬ (10 : Int) = 1 by decide, show ¬ (10 : Int) = 9 by decide, if_false, ra ⟨by omega, by omega⟩]
    exact ⟨trivial, trivial, trivial, fun _ => h.keep hll (by omega), fun h => by cases h⟩
  simp only [z0, z1, z9, z10, if_false, ra ⟨by omega, by omega⟩, rb ⟨by omega, by omega⟩]
  cases hv : (valR i.op (wAt ws i.a) (wAt ws i.b)).2 with
  | true =>
    simp only [if_true]
    exact ⟨trivial, trivial, trivial, fun _ => h.set hll _, fun h => by cases h⟩
  | false =>
    simp only [Bool.false_eq_true, if_false]
    refine ⟨trivial, trivial, trivial, fun h => by simp at h, fun _ => rx (.inl ?_)⟩
    have h7 : i.op = 7 ∨ i.op = 8 ∨ (2 ≤ i.op ∧ i.op ≤ 6) := by omega
    rcases h7 with h7 | h7 | h7
    · simp [valR, h7] at hv
    · simp [valR, h7] at hv
    · exact h7
/-- an instruction that is dead only writes its register -/
theorem step_dead {i : Ins} {l : List Bool} {ws : List Int} (h0 : 0 ≤ i.op) (hd : deadI l i = true) : ∃ v, stepV i ws = (0, false, false, ws.set i.d.toNat v) := by
  simp only [deadI, exitsV, Bool.and_eq_true, decide_eq_true_eq, Bool.not_eq_true', decide_eq_false_iff_not] at hd
  obtain ⟨⟨h8, hx⟩, _⟩ := hd
  have hk : i.op = 0 ∨ i.op = 1 ∨ i.op = 7 ∨ i.op = 8 := by omega
  rcases hk with h | h | h | h <;> simp [stepV, h, valR] <;> exact ⟨_, rfl⟩

/-- a code without some instructions that are dead -/
inductive Thin (t : Tr) (l : List Bool) : List Ins → List Ins → Prop
  | nil : Thin t l [] []
  | keep (i : Ins) {is js : List Ins} (h : Thin t l is js) : Thin t l (i :: is) (i :: js)
  | drop (i : Ins) {is js : List Ins} (h : Thin t l is js) (hd : deadI (rowA t is l) i = true) : Thin t l (i :: is) js
theorem Thin.refl (t : Tr) (l : List Bool) : ∀ is, Thin t l is is
  | [] => .nil
  | i :: is => .keep i (Thin.refl t l is)
theorem Thin.len {t : Tr} {l : List Bool} {is js : List Ins} (h : Thin t l is js) : js.length ≤ is.length := by
  induction h with
  | nil => simp
  | keep i _ ih => simpa using ih
  | drop i _ _ ih => simp; omega
theorem Thin.mem {t : Tr} {l : List Bool} {is js : List Ins} (h : Thin t l is js) : ∀ i ∈ js, i ∈ is := by
  induction h with
  | nil => simp
  | keep i _ ih => intro j hj; exact (List.mem_cons.1 hj).elim (fun h => by simp [h]) (fun h => List.mem_cons_of_mem _ (ih j h))
  | drop i _ _ ih => intro j hj; simp [ih j hj]
theorem goCode_agree {t : Tr} {l : List Bool} (hr : 1 ≤ t.regs) (hs : slotsOk t) (hl : (l.length : Int) = t.regs) {is js : List Ins} (h : Thin t l is js) : ∀ (ws ws' told : List Int), (∀ i ∈ is, insOk t.regs t.exits.length i = true) → (ws.length : Int) = t.regs → Agree (rowA t is l) ws ws' →
    (goCode js ws' told).2.1 = (goCode is ws told).2.1 ∧ (goCode js ws' told).2.2 = (goCode is ws told).2.2 ∧ (goCode is ws told).1.length = ws.length ∧
    ((goCode is ws told).2.2 = none → Agree l (goCode is ws told).1 (goCode js ws' told).1) ∧
    (∀ x, (goCode is ws told).2.2 = some x → 0 ≤ x ∧ x < t.exits.length ∧ pickW (goCode js ws' told).1 (slotsAt t x) = pickW (goCode is ws told).1 (slotsAt t x)) := by
  induction h with
  | nil => exact fun ws ws' told _ _ ha => ⟨rfl, rfl, rfl, fun _ => ha, fun x h => by cases h⟩
  | @keep i is js h ih =>
    intro ws ws' told hi hw ha
    have hi' : ∀ j ∈ is, insOk t.regs t.exits.length j = true := fun j hj => hi j (by simp [hj])
    have hio := hi i (by simp)
    have hlen : (rowA t is l).length = ws.length := by rw [rowA_len]; omega
    obtain ⟨e1, e2, e3, e4, e5⟩ := step_agree hr hio hs hw hlen ha
    have hlw : (stepV i ws).2.2.2.length = ws.length := by
      unfold stepV; repeat' split
      all_goals simp
    simp only [goCode, e1, e2, e3]
    cases hx : (stepV i ws).2.2.1 with
    | true =>
      simp only [if_true]
      refine ⟨trivial, trivial, hlw, fun h => by simp at h, fun x hxx => ?_⟩
      simp only [Option.some.injEq] at hxx
      subst hxx
      have hop : (2 ≤ i.op ∧ i.op ≤ 6) ∨ i.op = 9 := by
        obtain ⟨h0, h10, _⟩ := insOk_regs hio hr
        have hk : i.op = 0 ∨ i.op = 1 ∨ i.op = 7 ∨ i.op = 8 ∨ i.op = 10 ∨ ((2 ≤ i.op ∧ i.op ≤ 6) ∨ i.op = 9) := by omega
        rcases hk with h | h | h | h | h | h
        · simp [stepV, h] at hx
        · simp [stepV, h] at hx
        · simp [stepV, h, valR] at hx
        · simp [stepV, h, valR] at hx
        · simp [stepV, h] at hx
        · exact h
      have := insOk_exit hio hop
      exact ⟨this.1, this.2, e5 hx⟩
    | false =>
      simp only [Bool.false_eq_true, if_false]
      have := ih (stepV i ws).2.2.2 (stepV i ws').2.2.2 (if (stepV i ws).2.1 && decide (told.length < 2000) then told ++ [(stepV i ws).1] else told) hi' (by omega) (e4 hx)
      rw [hlw] at this
      exact this
  | @drop i is js h hd ih =>
    intro ws ws' told hi hw ha
    have hi' : ∀ j ∈ is, insOk t.regs t.exits.length j = true := fun j hj => hi j (by simp [hj])
    obtain ⟨h0, _⟩ := insOk_regs (hi i (by simp)) hr
    obtain ⟨v, hv⟩ := step_dead (ws := ws) h0 hd
    have hlen : (rowA t is l).length = ws.length := by rw [rowA_len]; omega
    have hdd : (rowA t is l).getD i.d.toNat false = false := by
      simp only [deadI, Bool.and_eq_true, Bool.not_eq_true'] at hd
      exact hd.2
    have hag : Agree (rowA t is l) (ws.set i.d.toNat v) ws' := Agree.setL ha hlen hdd v
    have := ih (ws.set i.d.toNat v) ws' told hi' (by simpa using hw) hag
    rw [List.length_set] at this
    simp only [goCode, hv, Bool.false_and, Bool.false_eq_true, if_false]
    exact this
/-- results that are alike, but for words that are not marked where no fuel is left -/
def AlikeR (l : List Bool) (r s : Res) : Prop := s.exit = r.exit ∧ s.back = r.back ∧ s.rounds = r.rounds ∧ s.told = r.told ∧ ((0 ≤ r.exit ∧ s.slots = r.slots) ∨ (r.exit < 0 ∧ Agree l r.slots s.slots))
theorem AlikeR.refl (l : List Bool) (r : Res) : AlikeR l r r := ⟨rfl, rfl, rfl, rfl, by
  by_cases h : 0 ≤ r.exit
  · exact .inl ⟨h, rfl⟩
  · exact .inr ⟨by omega, Agree.refl _ _⟩⟩
theorem AlikeR.trans {l : List Bool} {r s u : Res} (h : AlikeR l r s) (h' : AlikeR l s u) : AlikeR l r u := by
  obtain ⟨a1, a2, a3, a4, a5⟩ := h
  obtain ⟨b1, b2, b3, b4, b5⟩ := h'
  refine ⟨b1.trans a1, b2.trans a2, b3.trans a3, b4.trans a4, ?_⟩
  rcases a5 with ⟨p, q⟩ | ⟨p, q⟩ <;> rcases b5 with ⟨p', q'⟩ | ⟨p', q'⟩
  · exact .inl ⟨p, q'.trans q⟩
  · omega
  · omega
  · exact .inr ⟨p, q'.1.trans q.1, fun m hm hl => (q.2 m hm hl).trans (q'.2 m (by rw [q.1]; exact hm) hl)⟩
theorem AlikeR.mono {l l' : List Bool} {r s : Res} (h : AlikeR l r s) (hl : ∀ m, m < r.slots.length → l'.getD m false = true → l.getD m false = true) : AlikeR l' r s := by
  obtain ⟨a1, a2, a3, a4, a5⟩ := h
  refine ⟨a1, a2, a3, a4, ?_⟩
  rcases a5 with h | ⟨p, q⟩
  · exact .inl h
  · exact .inr ⟨p, q.mono hl⟩
theorem leave_slots {t : Tr} {x : Int} (h0 : 0 ≤ x) (hx : x < t.exits.length) (r : Int) (ws told : List Int) : ∃ e, t.exits[x.toNat]? = some e ∧ leave t x r ws told = ⟨x, e.back, r, pickW ws (slotsAt t x), told⟩ := by
  obtain ⟨e, he⟩ : ∃ e, t.exits[x.toNat]? = some e := ⟨_, List.getElem?_eq_getElem (by omega)⟩
  exact ⟨e, he, by simp [leave, slotsAt, he]⟩
/-- the rounds, on states that agree on what is live behind the last instruction -/
theorem goRounds_agree {t p : Tr} {l : List Bool} (hok : trOk t = true) (hl : (l.length : Int) = t.regs) (hex : p.exits = t.exits) (hth : Thin t l t.code p.code) (hwrap : ∀ m, m < l.length → (rowA t t.code l).getD m false = true → l.getD m false = true) :
    ∀ (n r : Nat) (ws ws' told : List Int), (ws.length : Int) = t.regs → Agree l ws ws' → AlikeR l (goRounds t n r ws told) (goRounds p n r ws' told)
  | 0, r, ws, ws', told, hw, ha => ⟨rfl, rfl, rfl, rfl, .inr ⟨by simp [goRounds], ha⟩⟩
  | n + 1, r, ws, ws', told, hw, ha => by
    obtain ⟨hr1, hr2, _, _⟩ := trOk_regs hok
    obtain ⟨e1, e2, e3, e4, e5⟩ := goCode_agree hr1 (slotsOk_of hok) hl hth ws ws' told (insOk_mem hok) hw (ha.mono fun m hm h => hwrap m (by omega) h)
    simp only [goRounds]
    generalize goCode t.code ws told = q at e1 e2 e3 e4 e5
    generalize goCode p.code ws' told = q' at e1 e2 e3 e4 e5
    obtain ⟨w1, t1, x1⟩ := q
    obtain ⟨w2, t2, x2⟩ := q'
    simp only at e1 e2 e3 e4 e5
    subst e1 e2
    cases x2 with
    | none =>
      have := goRounds_agree hok hl hex hth hwrap n (r + 1) w1 w2 t2 (by omega) (e4 rfl)
      exact this
    | some x =>
      obtain ⟨p1, p2, p3⟩ := e5 x rfl
      obtain ⟨e, he, h1⟩ := leave_slots (t := t) p1 p2 (r + 1) w1 t2
      obtain ⟨e', he', h2⟩ := leave_slots (t := p) p1 (by rw [hex]; exact p2) (r + 1) w2 t2
      rw [hex, he] at he'
      simp only [Option.some.injEq] at he'
      subst he'
      have hsl : slotsAt p x = slotsAt t x := by simp [slotsAt, hex]
      simp only [h1, h2, hsl]
      exact ⟨rfl, rfl, rfl, rfl, .inl ⟨p1, p3⟩⟩
theorem wrap_last (t : Tr) (keep : List Bool) : ∀ m, m < (lastV t keep).length → (rowA t t.code (lastV t keep)).getD m false = true → (lastV t keep).getD m false = true := fun m hm h => by
  rw [← lastV_fix, orL_get _ _ _ (by rw [rowA_len]; exact hm), h]; rfl
/-- a run of a thinner trace -/
theorem runV_thin {t p : Tr} {keep : List Bool} {ws ws' : List Int} {n : Int} (hok : trOk t = true) (hpk : trOk p = true) (hrg : p.regs = t.regs) (hex : p.exits = t.exits) (hth : Thin t (lastV t keep) t.code p.code) (hf : fitOk t ws n = true) (hf' : fitOk p ws' n = true)
    (ha : Agree (lastV t keep) ws ws') : AlikeR (lastV t keep) (runV t ws n) (runV p ws' n) := by
  have hr := (trOk_regs hok).1
  have hl : ((lastV t keep).length : Int) = t.regs := by rw [lastV_len]; omega
  have hw : (ws.length : Int) = t.regs := by
    simp only [fitOk, Bool.and_eq_true, decide_eq_true_eq] at hf
    exact hf.1.1.2
  unfold runV
  rw [if_pos hf, if_pos hf']
  exact goRounds_agree hok hl hex hth (wrap_last t keep) _ _ _ _ _ hw ha
/-- what is dead leaves the code thinner -/
theorem thin_dead (t : Tr) (l : List Bool) (p : Nat → Bool) : ∀ (is : List Ins) (k : Nat), (∀ j, p j = true → k ≤ j → j < k + is.length → j ∈ deadFrom t l is k) → Thin t l is ((is.zipIdx k).filter (fun x => !p x.2) |>.map (·.1))
  | [], k, _ => .nil
  | i :: is, k, h => by
    have hrest : ∀ j, p j = true → k + 1 ≤ j → j < k + 1 + is.length → j ∈ deadFrom t l is (k + 1) := fun j hj h1 h2 => by
      have := h j hj (by omega) (by simp; omega)
      simp only [deadFrom] at this
      split at this
      · rcases List.mem_cons.1 this with e | e
        · omega
        · exact e
      · exact this
    have ih := thin_dead t l p is (k + 1) hrest
    simp only [List.zipIdx_cons, List.filter_cons]
    cases hp : p k with
    | false => simpa using Thin.keep i ih
    | true =>
      have := h k hp (Nat.le_refl _) (by simp)
      simp only [deadFrom] at this
      split at this
      · rename_i hd
        simpa using Thin.drop i ih hd
      · exfalso
        have hlt : ∀ (js : List Ins) (m : Nat), ∀ j ∈ deadFrom t l js m, m ≤ j := by
          intro js
          induction js with
          | nil => intro m j hj; cases hj
          | cons x js ihj =>
            intro m j hj
            simp only [deadFrom] at hj
            split at hj
            · rcases List.mem_cons.1 hj with e | e
              · omega
              · have := ihj (m + 1) j e; omega
            · have := ihj (m + 1) j hj; omega
        have := hlt is (k + 1) k this
        omega
end Go.Proofs.Ytmgbaegdkjcagaa

namespace Go.Proofs.Ytmgbaegdkjcagaa
open Go.Eng
set_option maxRecDepth 20000
set_option linter.unusedSimpArgs false
set_option linter.unusedVariables false
attribute [local irreducible] AG CallA CallT AWp PCall ACall AgC

@[go_sem] abbrev cBl (l : List Bool) : List D := [dBl l]
@[go_sem] abbrev dBll (l : List (List Bool)) : D := .sl 1 (l.map cBl)
@[go_sem] abbrev dIss (l : List (List Int)) : D := .sl 1 (l.map fun x => [dIs x])
theorem live_spec' (t : Tr) (keep : List Bool) (hok : trOk t = true) (hk : keep.length ≤ t.regs.toNat) : PCall Try.prog 58 [dTr t, dBl keep] fun r => r = dBll (rowsV t keep) := live_spec t keep hok hk
theorem rowsV_row (t : Tr) (keep : List Bool) : ∀ r ∈ rowsV t keep, r.length = t.regs.toNat := by
  intro r hr
  simp only [rowsV, rowsL, List.mem_map] at hr
  obtain ⟨k, _, rfl⟩ := hr
  rw [rowA_len, lastV_len]
theorem rowsV_len (t : Tr) (keep : List Bool) : (rowsV t keep).length = t.code.length + 1 := rowsL_len _ _
def marksT (R : List (List Bool)) (k : Nat) : List (List Int) := (R.take k).map markV
theorem marksT_step {R : List (List Bool)} {k : Nat} {l : List Bool} (h : R[k]? = some l) : marksT R (k + 1) = marksT R k ++ [markV l] := by unfold marksT; rw [List.take_add_one, h]; simp
theorem marksT_len (R : List (List Bool)) (k : Nat) : (marksT R k).length ≤ R.length := by simp [marksT]; omega
def liveV (t : Tr) : List (List Int) := (rowsV t []).map markV

set_option maxHeartbeats 8000000 in
theorem liveT_spec (t : Tr) : PCall Try.prog 32 [dTr t] fun r => r = .tup [dIss (if trOk t then liveV t else []), dI (if trOk t then 0 else 1)] := by 
  refine pcall_of Try.func32 rfl rfl Try.ntmps32 (rs := [.tmp 2, .tmp 3]) (tys := [64, 36]) rfl rfl (by simp) ?_
  (refine awp_sr fun KK hKK => ?_; simp [go_sem]; ((repeat' (first|(refine ag_x ?_;simp [go_sem])|intro _|refine And.intro ?_ ?_|(apply hKK;clear hKK KK)));all_goals first|refine Hold.mk ?_|omega|with_reducible assumption|(simp only [InR] at *;omega)|skip))
  refine awp_frzbox 1 rfl rfl ?_
  simp only [go_sem]
  refine awp_seq_k fun K1 hK1 => ?_
  (refine awp_sr fun KK hKK => ?_; simp [go_sem]; ((repeat' (first|(refine ag_x ?_;simp [go_sem])|intro _|refine And.intro ?_ ?_|(apply hKK;clear hKK KK)));all_goals first|refine Hold.mk ?_|omega|with_reducible assumption|(simp only [InR] at *;omega)|skip))
  ((try refine CallT.toA ?_); refine callT_m (by first | exact .inl ⟨rfl, rfl⟩ | exact .inr rfl) (by simp [go_sem]) ?_; intro args ha; simp [go_sem] at ha; subst ha; refine ⟨_, (check_spec t), ?_⟩; rintro _ rfl; simp [go_sem]; ((repeat' (first|(refine ag_x ?_;simp [go_sem])|intro _|refine And.intro ?_ ?_|(apply hKK;clear hKK KK)));all_goals first|refine Hold.mk ?_|omega|with_reducible assumption|(simp only [InR] at *;omega)|skip))
  (refine awp_if fun T F hT hF => ?_; simp [go_sem]; refine BR.intro (fun h2 => hT ?_) (fun h2 => hF ?_); all_goals clear hT hF T F; try simp at h2) 
  · (refine awp_sr fun KK hKK => ?_; simp [go_sem]; ((repeat' (first|(refine ag_x ?_;simp [go_sem])|intro _|refine And.intro ?_ ?_|(apply hKK;clear hKK KK)));all_goals first|refine Hold.mk ?_|omega|with_reducible assumption|(simp only [InR] at *;omega)|skip))
    (refine awp_ret ?_; simp [go_sem, h2])
  · refine awp_skip ?_
    have hok : trOk t = true := h2
    obtain ⟨hr1, hr2, hcl, hel⟩ := trOk_regs hok
    refine hK1 _ ?_; clear hK1
    (refine awp_sr fun KK hKK => ?_; simp [go_sem]; ((repeat' (first|(refine ag_x ?_;simp [go_sem])|intro _|refine And.intro ?_ ?_|(apply hKK;clear hKK KK)));all_goals first|refine Hold.mk ?_|omega|with_reducible assumption|(simp only [InR] at *;omega)|skip))
    refine awp_nilslot 4 21 26 1 rfl fun gb => ?_
    simp only [go_sem]
    refine awp_seq_k fun K3 hK3 => ?_
    have hrow := rowsV_row t []
    have hlen := rowsV_len t []
    have hlv : liveV t = (rowsV t []).map markV := rfl
    (refine awp_sr fun KK hKK => ?_; simp [go_sem]; ((repeat' (first|(refine ag_x ?_;simp [go_sem])|intro _|refine And.intro ?_ ?_|(apply hKK;clear hKK KK)));all_goals first|refine Hold.mk ?_|omega|with_reducible assumption|(simp only [InR] at *;omega)|skip))
    ((try refine CallT.toA ?_); refine callT_m (by first | exact .inl ⟨rfl, rfl⟩ | exact .inr rfl) (by simp [go_sem]) ?_; intro args ha; simp [go_sem] at ha; subst ha; refine ⟨_, (live_spec' t [] hok (by simp)), ?_⟩; rintro _ rfl; simp [go_sem]; ((repeat' (first|(refine ag_x ?_;simp [go_sem])|intro _|refine And.intro ?_ ?_|(apply hKK;clear hKK KK)));all_goals first|refine Hold.mk ?_|omega|with_reducible assumption|(simp only [InR] at *;omega)|skip))
    generalize rowsV t [] = R at hrow hlen hlv
    refine awp_block ?_
    refine awp_loop (σ := Nat × Nat) (fun x => ⟨[(4, .own 21 x.2), (11, dBll R), (12, dI R.length), (13, dI x.1)], [(21, x.2, .row 26 1 ((marksT R x.1).map fun x => [dIs x]))]⟩) (fun x => x.1 ≤ R.length) (fun x => R.length - x.1) (0, gb) ?_ ?_ ?_
    · (refine cov_of ?_ ?_ <;> simp [go_sem, marksT])
    · simp
    rintro ⟨k, gb⟩ hk
    simp only at hk
    (refine awp_sr fun KK hKK => ?_; simp [go_sem]; ((repeat' (first|(refine ag_x ?_;simp [go_sem])|intro _|refine And.intro ?_ ?_|(apply hKK;clear hKK KK)));all_goals first|refine Hold.mk ?_|omega|with_reducible assumption|(simp only [InR] at *;omega)|skip))
    refine awp_seq_k fun K4 hK4 => ?_
    (refine awp_if fun T F hT hF => ?_; simp [go_sem]; refine BR.intro (fun h5 => hT ?_) (fun h5 => hF ?_); all_goals clear hT hF T F; try simp at h5) 
    · refine awp_skip ?_
      refine hK4 _ ?_; clear hK4
      obtain ⟨l, hl⟩ : ∃ l, R[k]? = some l := ⟨_, List.getElem?_eq_getElem (by omega)⟩
      have hll := hrow l (List.mem_of_getElem? hl)
      have hst := marksT_step hl
      have hal : (marksT R k).length ≤ 61 := by have := marksT_len R k; omega
      generalize hacc : marksT R k = acc at hst hal ⊢
      refine awp_seq_k fun K6 hK6 => ?_
      refine awp_block ?_
      (refine awp_sr fun KK hKK => ?_; simp [go_sem, hl]; ((repeat' (first|(refine ag_x ?_;simp [go_sem, hl])|intro _|refine And.intro ?_ ?_|(apply hKK;clear hKK KK)));all_goals first|refine Hold.mk ?_|omega|with_reducible assumption|(simp only [InR] at *;omega)|skip))
      (refine awp_r fun KK hKK => ?_; simp [go_sem]; ((repeat' (first|(refine ag_x ?_;simp [go_sem])|intro _|refine And.intro ?_ ?_|(apply hKK;clear hKK KK)));all_goals first|refine Hold.mk ?_|omega|with_reducible assumption|(simp only [InR] at *;omega)|skip))
      ((try refine CallT.toA ?_); refine callT_m (by first | exact .inl ⟨rfl, rfl⟩ | exact .inr rfl) (by simp [go_sem]) ?_; intro args ha; simp [go_sem] at ha; subst ha; refine ⟨_, (marked_spec l (by omega)), ?_⟩; rintro _ rfl; simp [go_sem]; ((repeat' (first|(refine ag_x ?_;simp [go_sem])|intro _|refine And.intro ?_ ?_|(apply hKK;clear hKK KK)));all_goals first|refine Hold.mk ?_|omega|with_reducible assumption|(simp only [InR] at *;omega)|skip))
      rename_i g20 g21
      refine hK6 _ ?_; clear hK6
      (refine awp_r fun KK hKK => ?_; simp [go_sem]; ((repeat' (first|(refine ag_x ?_;simp [go_sem])|intro _|refine And.intro ?_ ?_|(apply hKK;clear hKK KK)));all_goals first|refine Hold.mk ?_|omega|with_reducible assumption|(simp only [InR] at *;omega)|skip))
      refine ⟨(k + 1, g21), ?_, by simp; omega, by simp; omega⟩
      rw [hst]
      (refine cov_of ?_ ?_ <;> simp [go_sem])
    · refine awp_exit ?_
      simp only [go_sem]
      refine hK3 _ ?_; clear hK3
      have : k = R.length := by omega
      subst this
      have hfin : marksT R R.length = liveV t := by rw [marksT, List.take_length, hlv]
      rw [hfin]
      (refine awp_sr fun KK hKK => ?_; simp [go_sem]; ((repeat' (first|(refine ag_x ?_;simp [go_sem])|intro _|refine And.intro ?_ ?_|(apply hKK;clear hKK KK)));all_goals first|refine Hold.mk ?_|omega|with_reducible assumption|(simp only [InR] at *;omega)|skip))
      (refine awp_ret ?_; simp [go_sem, hok])

theorem deadFrom_app (t : Tr) (l : List Bool) : ∀ (is : List Ins) (k : Nat) (i : Ins), deadFrom t (aheadV t i l) is k ++ (if deadI l i then [k + is.length] else []) = deadFrom t l (is ++ [i]) k
  | [], k, i => by
    simp only [deadFrom, List.nil_append, List.length_nil, Nat.add_zero]
    rfl
  | j :: is, k, i => by
    have ih := deadFrom_app t l is (k + 1) i
    have e : rowA t (is ++ [i]) l = rowA t is (aheadV t i l) := by simp [rowA, List.foldr_append]
    simp only [List.cons_append, deadFrom, e, ← ih, List.length_cons, show k + 1 + is.length = k + (is.length + 1) by omega]
    split <;> simp
/-- the dead ones among the first k instructions -/
def deadT (t : Tr) (L : List Bool) (k : Nat) : List Nat := deadFrom t (rowA t (t.code.drop k) L) (t.code.take k) 0
theorem deadT_step {t : Tr} {L : List Bool} {k : Nat} {x : Ins} (h : t.code[k]? = some x) : deadT t L (k + 1) = deadT t L k ++ (if deadI (rowA t (t.code.drop (k + 1)) L) x then [k] else []) := by
  have hk := (List.getElem?_eq_some_iff.1 h).1
  have hd : t.code.drop k = x :: t.code.drop (k + 1) := by
    rw [List.drop_eq_getElem_cons (by omega)]
    rw [List.getElem?_eq_getElem (by omega)] at h
    simp only [Option.some.injEq] at h
    rw [h]
  have hn : (t.code.take k).length = k := by simp; omega
  unfold deadT
  rw [List.take_add_one, h, hd, rowA_cons, Option.toList_some, ← deadFrom_app, Nat.zero_add, hn]
theorem deadT_all (t : Tr) (keep : List Bool) : deadT t (lastV t keep) t.code.length = deadV t keep := by
  unfold deadT deadV
  rw [List.drop_length, List.take_length]; rfl
theorem deadFrom_len (t : Tr) (l : List Bool) : ∀ (is : List Ins) (k : Nat), (deadFrom t l is k).length ≤ is.length
  | [], k => by simp [deadFrom]
  | i :: is, k => by
    have := deadFrom_len t l is (k + 1)
    simp only [deadFrom]
    split <;> simp <;> omega
theorem deadT_len (t : Tr) (L : List Bool) (k : Nat) : (deadT t L k).length ≤ t.code.length := by
  have := deadFrom_len t (rowA t (t.code.drop k) L) (t.code.take k) 0
  unfold deadT
  simp at this
  omega

set_option maxHeartbeats 8000000 in
theorem dead_spec (t : Tr) (keep : List Bool) (hok : trOk t = true) (hk : keep.length ≤ t.regs.toNat) : PCall Try.prog 56 [dTr t, dBl keep] fun r => r = dIs (nI (deadV t keep)) := by 
  obtain ⟨hr1, hr2, hcl, hel⟩ := trOk_regs hok
  refine pcall_of Try.func56 rfl rfl Try.ntmps56 (rs := [.tmp 4]) (tys := [26]) rfl rfl (by simp) ?_
  (refine awp_sr fun KK hKK => ?_; simp [go_sem]; ((repeat' (first|(refine ag_x ?_;simp [go_sem])|intro _|refine And.intro ?_ ?_|(apply hKK;clear hKK KK)));all_goals first|refine Hold.mk ?_|omega|with_reducible assumption|(simp only [InR] at *;omega)|skip))
  refine awp_frzbox 2 rfl rfl ?_
  simp only [go_sem]
  have hrow := rowsV_row t keep
  have hlen := rowsV_len t keep
  have hat : ∀ k, k ≤ t.code.length → (rowsV t keep)[k]? = some (rowA t (t.code.drop k) (lastV t keep)) := fun k h => rowsL_at t _ k h
  (refine awp_sr fun KK hKK => ?_; simp [go_sem]; ((repeat' (first|(refine ag_x ?_;simp [go_sem])|intro _|refine And.intro ?_ ?_|(apply hKK;clear hKK KK)));all_goals first|refine Hold.mk ?_|omega|with_reducible assumption|(simp only [InR] at *;omega)|skip))
  ((try refine CallT.toA ?_); refine callT_m (by first | exact .inl ⟨rfl, rfl⟩ | exact .inr rfl) (by simp [go_sem]) ?_; intro args ha; simp [go_sem] at ha; subst ha; refine ⟨_, (live_spec' t keep hok hk), ?_⟩; rintro _ rfl; simp [go_sem]; ((repeat' (first|(refine ag_x ?_;simp [go_sem])|intro _|refine And.intro ?_ ?_|(apply hKK;clear hKK KK)));all_goals first|refine Hold.mk ?_|omega|with_reducible assumption|(simp only [InR] at *;omega)|skip))
  generalize rowsV t keep = R at hrow hlen hat
  (refine awp_sr fun KK hKK => ?_; simp [go_sem]; ((repeat' (first|(refine ag_x ?_;simp [go_sem])|intro _|refine And.intro ?_ ?_|(apply hKK;clear hKK KK)));all_goals first|refine Hold.mk ?_|omega|with_reducible assumption|(simp only [InR] at *;omega)|skip))
  refine awp_nilslot 6 44 3 1 rfl fun gb => ?_
  simp only [go_sem]
  refine awp_seq_k fun K1 hK1 => ?_
  (refine awp_sr fun KK hKK => ?_; simp [go_sem]; ((repeat' (first|(refine ag_x ?_;simp [go_sem])|intro _|refine And.intro ?_ ?_|(apply hKK;clear hKK KK)));all_goals first|refine Hold.mk ?_|omega|with_reducible assumption|(simp only [InR] at *;omega)|skip))
  refine awp_block ?_
  refine awp_loop (σ := Nat × Nat) (fun x => ⟨[(5, dBll R), (6, .own 44 x.2), (13, .sl 6 (t.code.map cIns)), (14, dI t.code.length), (15, dI x.1)], [(44, x.2, .row 3 1 ((nI (deadT t (lastV t keep) x.1)).map cI))]⟩) (fun x => x.1 ≤ t.code.length) (fun x => t.code.length - x.1) (0, gb) ?_ ?_ ?_
  · (refine cov_of ?_ ?_ <;> simp [go_sem, deadT, deadFrom, nI])
  · simp
  rintro ⟨k, gb⟩ hkl
  simp only at hkl
  (refine awp_sr fun KK hKK => ?_; simp [go_sem]; ((repeat' (first|(refine ag_x ?_;simp [go_sem])|intro _|refine And.intro ?_ ?_|(apply hKK;clear hKK KK)));all_goals first|refine Hold.mk ?_|omega|with_reducible assumption|(simp only [InR] at *;omega)|skip))
  refine awp_seq_k fun K2 hK2 => ?_
  (refine awp_if fun T F hT hF => ?_; simp [go_sem]; refine BR.intro (fun h3 => hT ?_) (fun h3 => hF ?_); all_goals clear hT hF T F; try simp at h3) 
  · refine awp_skip ?_
    refine hK2 _ ?_; clear hK2
    obtain ⟨x, hx⟩ : ∃ x, t.code[k]? = some x := ⟨_, List.getElem?_eq_getElem (by omega)⟩
    have hix := insOk_at hok hx
    obtain ⟨ho1, ho2, _, _, hxd, _⟩ := insOk_regs hix hr1
    have hst := deadT_step (L := lastV t keep) hx
    have hal : (nI (deadT t (lastV t keep) k)).length ≤ 60 := by have := deadT_len t (lastV t keep) k; simp [nI]; omega
    have hRk := hat (k + 1) (by omega)
    have hlR := hrow _ (List.mem_of_getElem? hRk)
    generalize rowA t (t.code.drop (k + 1)) (lastV t keep) = Rk at hst hRk hlR
    obtain ⟨bd, hbd⟩ : ∃ b, Rk[x.d.toNat]? = some b := ⟨_, List.getElem?_eq_getElem (by omega)⟩
    have ek1 : ((k : Int) + 1).toNat = k + 1 := by omega
    have hdi : deadI Rk x = (decide (x.op ≤ 8) && !exitsV x.op && !bd) := by simp [deadI, List.getD_eq_getElem?_getD, hbd]
    rw [hdi] at hst
    generalize hacc : deadT t (lastV t keep) k = acc at hst hal ⊢
    refine awp_seq_k fun K4 hK4 => ?_
    have tl4 : ∀ S' gb', Cov S' ⟨[(5, dBll R), (6, .own 44 gb'), (13, .sl 6 (t.code.map cIns)), (14, dI t.code.length), (15, dI k)], [(44, gb', .row 3 1 ((nI (acc ++ (if (decide (x.op ≤ 8) && !exitsV x.op && !bd) then [k] else []))).map cI))]⟩ → K4 S' := fun S' gb' hS => by
      refine hK4 _ ?_; clear hK4
      refine awp_cov hS ?_; clear hS
      (refine awp_r fun KK hKK => ?_; simp [go_sem]; ((repeat' (first|(refine ag_x ?_;simp [go_sem])|intro _|refine And.intro ?_ ?_|(apply hKK;clear hKK KK)));all_goals first|refine Hold.mk ?_|omega|with_reducible assumption|(simp only [InR] at *;omega)|skip))
      refine ⟨(k + 1, gb'), ?_, by simp; omega, by simp; omega⟩
      rw [hst]
      (refine cov_of ?_ ?_ <;> simp [go_sem])
    clear hK4
    refine awp_block ?_
    (refine awp_sr fun KK hKK => ?_; simp [go_sem, hx]; ((repeat' (first|(refine ag_x ?_;simp [go_sem, hx])|intro _|refine And.intro ?_ ?_|(apply hKK;clear hKK KK)));all_goals first|refine Hold.mk ?_|omega|with_reducible assumption|(simp only [InR] at *;omega)|skip))
    rename_i g8
    refine awp_frzbox 8 rfl rfl ?_
    simp only [go_sem]
    ((refine awp_dr (.qs [0, 1] (.one 2 (.qs [3, 4, 5] (.one 6 (.qs [7, 8, 9, 10, 11, 12, 13, 15, 14, 16, 17, 18, 19, 20] (.nil)))))) (by kernel_rfl) ?_ ?_ ?_ ?_); (kernel_rfl); (exact (by decide +kernel)); (kernel_rfl); intro KK hKK; ((repeat' (first|(refine ag_x ?_;simp [go_sem])|refine adr_nil ?_|refine adr_two ?_ ?_|refine adr_kp2 ?_ ?_|((first|refine adr_qs fun KK hKK=>?_|refine adr_y fun KK hKK=>?_);simp [go_sem])|intro _|refine And.intro ?_ ?_|(apply hKK;clear hKK KK)));all_goals first|refine Hold.mk ?_|omega|with_reducible assumption|(simp only [InR] at *;omega)|skip))
    ((try refine CallT.toA ?_); refine callT_m (by first | exact .inl ⟨rfl, rfl⟩ | exact .inr rfl) (by simp [go_sem]) ?_; intro args ha; simp [go_sem] at ha; subst ha; refine ⟨_, (writes_spec _), ?_⟩; rintro _ rfl; simp [go_sem]; ((repeat' (first|(refine ag_x ?_;simp [go_sem])|refine adr_nil ?_|refine adr_two ?_ ?_|refine adr_kp2 ?_ ?_|((first|refine adr_qs fun KK hKK=>?_|refine adr_y fun KK hKK=>?_);simp [go_sem])|intro _|refine And.intro ?_ ?_|(apply hKK;clear hKK KK)));all_goals first|refine Hold.mk ?_|omega|with_reducible assumption|(simp only [InR] at *;omega)|skip))
    (refine agc_f (dB (exitsV x.op)) (by first | exact .inl ⟨rfl, rfl⟩ | exact .inr rfl) ?_ rfl ?_; (intro hc args ha; simp [go_sem] at ha; subst ha; exact (exits_spec x.op)); simp [go_sem, hRk, ek1, hbd]; ((repeat' (first|(refine ag_x ?_;simp [go_sem, hRk, ek1, hbd])|refine adr_nil ?_|refine adr_two ?_ ?_|refine adr_kp2 ?_ ?_|((first|refine adr_qs fun KK hKK=>?_|refine adr_y fun KK hKK=>?_);simp [go_sem, hRk, ek1, hbd])|intro _|refine And.intro ?_ ?_|(apply hKK;clear hKK KK)));all_goals first|refine Hold.mk ?_|omega|with_reducible assumption|(simp only [InR] at *;omega)|skip))
    (refine awp_if fun T F hT hF => ?_; simp [go_sem]; refine BR.intro (fun h5 => hT ?_) (fun h5 => hF ?_); all_goals clear hT hF T F; try simp at h5) 
    · (refine awp_r fun KK hKK => ?_; simp [go_sem]; ((repeat' (first|(refine ag_x ?_;simp [go_sem])|intro _|refine And.intro ?_ ?_|(apply hKK;clear hKK KK)));all_goals first|refine Hold.mk ?_|omega|with_reducible assumption|(simp only [InR] at *;omega)|skip))
      rename_i g43 g44
      refine tl4 _ g44 ?_
      rw [if_pos (by simp [h5])]
      (refine cov_of ?_ ?_ <;> simp [go_sem, nI])
    · refine awp_skip ?_
      refine tl4 _ gb ?_
      rw [if_neg (by simpa using h5)]
      (refine cov_of ?_ ?_ <;> simp [go_sem])
  · refine awp_exit ?_
    simp only [go_sem]
    refine hK1 _ ?_; clear hK1
    have : k = t.code.length := by omega
    subst this
    rw [deadT_all]
    (refine awp_sr fun KK hKK => ?_; simp [go_sem]; ((repeat' (first|(refine ag_x ?_;simp [go_sem])|intro _|refine And.intro ?_ ?_|(apply hKK;clear hKK KK)));all_goals first|refine Hold.mk ?_|omega|with_reducible assumption|(simp only [InR] at *;omega)|skip))
    (refine awp_ret ?_; simp [go_sem])
theorem deadT_spec (t : Tr) : PCall Try.prog 30 [dTr t] fun r => r = .tup [dIs (if trOk t then nI (deadV t []) else []), dI (if trOk t then 0 else 1)] := by 
  refine pcall_of Try.func30 rfl rfl Try.ntmps30 (rs := [.tmp 2, .tmp 3]) (tys := [26, 36]) rfl rfl (by simp) ?_
  (refine awp_sr fun KK hKK => ?_; simp [go_sem]; ((repeat' (first|(refine ag_x ?_;simp [go_sem])|intro _|refine And.intro ?_ ?_|(apply hKK;clear hKK KK)));all_goals first|refine Hold.mk ?_|omega|with_reducible assumption|(simp only [InR] at *;omega)|skip))
  refine awp_frzbox 1 rfl rfl ?_
  simp only [go_sem]
  refine awp_seq_k fun K1 hK1 => ?_
  (refine awp_sr fun KK hKK => ?_; simp [go_sem]; ((repeat' (first|(refine ag_x ?_;simp [go_sem])|intro _|refine And.intro ?_ ?_|(apply hKK;clear hKK KK)));all_goals first|refine Hold.mk ?_|omega|with_reducible assumption|(simp only [InR] at *;omega)|skip))
  ((try refine CallT.toA ?_); refine callT_m (by first | exact .inl ⟨rfl, rfl⟩ | exact .inr rfl) (by simp [go_sem]) ?_; intro args ha; simp [go_sem] at ha; subst ha; refine ⟨_, (check_spec t), ?_⟩; rintro _ rfl; simp [go_sem]; ((repeat' (first|(refine ag_x ?_;simp [go_sem])|intro _|refine And.intro ?_ ?_|(apply hKK;clear hKK KK)));all_goals first|refine Hold.mk ?_|omega|with_reducible assumption|(simp only [InR] at *;omega)|skip))
  (refine awp_if fun T F hT hF => ?_; simp [go_sem]; refine BR.intro (fun h2 => hT ?_) (fun h2 => hF ?_); all_goals clear hT hF T F; try simp at h2) 
  · (refine awp_sr fun KK hKK => ?_; simp [go_sem]; ((repeat' (first|(refine ag_x ?_;simp [go_sem])|intro _|refine And.intro ?_ ?_|(apply hKK;clear hKK KK)));all_goals first|refine Hold.mk ?_|omega|with_reducible assumption|(simp only [InR] at *;omega)|skip))
    (refine awp_ret ?_; simp [go_sem, h2])
  · refine awp_skip ?_
    have hok : trOk t = true := h2
    refine hK1 _ ?_; clear hK1
    (refine awp_sr fun KK hKK => ?_; simp [go_sem]; ((repeat' (first|(refine ag_x ?_;simp [go_sem])|intro _|refine And.intro ?_ ?_|(apply hKK;clear hKK KK)));all_goals first|refine Hold.mk ?_|omega|with_reducible assumption|(simp only [InR] at *;omega)|skip))
    ((try refine CallT.toA ?_); refine callT_m (by first | exact .inl ⟨rfl, rfl⟩ | exact .inr rfl) (by simp [go_sem]) ?_; intro args ha; simp [go_sem] at ha; subst ha; refine ⟨_, (dead_spec t [] hok (by simp)), ?_⟩; rintro _ rfl; simp [go_sem]; ((repeat' (first|(refine ag_x ?_;simp [go_sem])|intro _|refine And.intro ?_ ?_|(apply hKK;clear hKK KK)));all_goals first|refine Hold.mk ?_|omega|with_reducible assumption|(simp only [InR] at *;omega)|skip))
    (refine awp_ret ?_; simp [go_sem, hok])
end Go.Proofs.Ytmgbaegdkjcagaa
