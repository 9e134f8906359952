/- Part of a proof: see the last text. -/
import Derived.Test.YteekfnhhlcmcgaaGreatDoorGM
import Derived.Test.YteekfnhhlcmcgaaGreatDoorGD
import Derived.Sort.Walk0
import Derived.Test.YteekfnhhlcmcgaaGreatDoorGA
import Derived.Test.YteekfnhhlcmcgaaGreatDoorGL
set_option linter.unusedVariables false
set_option linter.unusedSimpArgs false
namespace Go.Lk
open Go.Ver
abbrev bl (a b : Bs) : Prop := Op.bytesLess a b = true
theorem bl_ne {a b : Bs} (h : bl a b) : a ≠ b := fun q => by
 subst q
 have h' : Op.bytesLess a a = true := h
 rw [bl_irr a] at h'
 cases h'
theorem bl_asym {a b : Bs} (h : bl a b) (h2 : bl b a) : False := bl_ne (bl_trans h h2) rfl
theorem pw_ext : ∀ {a b : List Bs}, a.Pairwise bl → b.Pairwise bl → (∀ x, x ∈ a ↔ x ∈ b) → a = b
 | [], [], _, _, _ => rfl
 | [], y :: b, _, _, h => by have := (h y).2 (by simp); simp at this
 | x :: a, [], _, _, h => by have := (h x).1 (by simp); simp at this
 | x :: a, y :: b, ha, hb, h => by
  rw [List.pairwise_cons] at ha hb
  have h1 := (h x).1 (by simp)
  have h2 := (h y).2 (by simp)
  have hxy : x = y := by
   rcases List.mem_cons.1 h1 with q | q
   ·exact q
   ·rcases List.mem_cons.1 h2 with r | r
    ·exact r.symm
    ·exact (bl_asym (ha.1 y r) (hb.1 x q)).elim
  subst hxy
  rw [pw_ext ha.2 hb.2 fun z => ?_]
  have hz := h z
  simp only [List.mem_cons] at hz
  constructor
  ·intro q
   rcases hz.1 (.inr q) with r | r
   ·exact (bl_ne (ha.1 z q) r.symm).elim
   ·exact r
  ·intro q
   rcases hz.2 (.inr q) with r | r
   ·exact (bl_ne (hb.1 z q) r.symm).elim
   ·exact r
theorem le_bl (x y : Bs) : decide (x ≤ y) = !Op.bytesLess y x := by
 rw [Go.Proofs.bytesLess_eq]
 by_cases h : y < x
 ·simp [h, List.not_le.2 h]
 ·simp [h, List.not_lt.1 h]
theorem srt_pw (l : List Bs) : (l.mergeSort fun x y => decide (x ≤ y)).Pairwise fun x y => x = y ∨ bl x y := by
 refine (List.pairwise_mergeSort (le := fun x y : Bs => decide (x ≤ y)) ?_ ?_ l).imp ?_
 ·intro a b c h1 h2
  rw [le_bl] at h1 h2 ⊢
  simp only [Bool.not_eq_true'] at h1 h2 ⊢
  rcases bl_tri a b with rfl | q | q
  ·exact h2
  ·rcases bl_tri b c with rfl | r | r
   ·exact h1
   ·have := bl_trans q r
    by_cases hc : Op.bytesLess c a = true
    ·exact (bl_asym this hc).elim
    ·simpa using hc
   ·rw [h2] at r; cases r
  ·rw [h1] at q; cases q
 ·intro a b
  rw [le_bl, le_bl]
  by_cases h : Op.bytesLess b a = true
  ·have : Op.bytesLess a b = false := by
    by_cases hc : Op.bytesLess a b = true
    ·exact (bl_asym h hc).elim
    ·simpa using hc
   simp [this]
  ·simp [h]
 ·intro a b h
  rw [le_bl] at h
  simp only [Bool.not_eq_true'] at h
  rcases bl_tri a b with q | q | q
  ·exact .inl q
  ·exact .inr q
  ·rw [h] at q; cases q
theorem compact_pw {zs : List Bs} (h : zs.Pairwise fun x y => x = y ∨ bl x y) : (Go.Lib.compact zs).Pairwise bl := by
 unfold Go.Lib.compact Go.Lib.compactUpTo
 rw [List.pairwise_map, List.pairwise_filter]
 have hp := List.pairwise_iff_getElem.1 h
 refine (List.Pairwise.imp_of_mem (fun {i j} hi hj hij => ?_) (List.pairwise_lt_range (n := zs.length)))
 intro _ kj
 have hj' := List.mem_range.1 hj
 have hkj : zs.toArray[j]! ≠ zs.toArray[j - 1]! := by
  have : decide (j = 0 ∨ zs.toArray[j]! ≠ zs.toArray[j - 1]!) = true := kj
  simp only [decide_eq_true_eq] at this
  rcases this with q | q
  ·omega
  ·exact q
 have e : ∀ k, (hk : k < zs.length) → zs.toArray[k]! = zs[k] := fun k hk => by simp [getElem!_pos, hk]
 rw [e j hj', e (j - 1) (by omega)] at hkj
 rw [e i (by omega), e j hj']
 have h1 : bl zs[j - 1] zs[j] := by
  rcases hp (j - 1) j (by omega) hj' (by omega) with q | q
  ·exact absurd q.symm hkj
  ·exact q
 by_cases hi' : i = j - 1
 ·subst hi'; exact h1
 ·rcases hp i (j - 1) (by omega) (by omega) (by omega) with q | q
  ·rw [q]; exact h1
  ·exact bl_trans q h1
theorem compact_mem {zs : List Bs} {x : Bs} : x ∈ Go.Lib.compact zs ↔ x ∈ zs := by
 refine ⟨mem_compact', fun h => ?_⟩
 obtain ⟨i, hi, rfl⟩ := List.getElem_of_mem h
 clear h
 have e : ∀ k, (hk : k < zs.length) → zs.toArray[k]! = zs[k] := fun k hk => by simp [getElem!_pos, hk]
 induction i with
 | zero =>
  unfold Go.Lib.compact Go.Lib.compactUpTo
  exact List.mem_map.2 ⟨0, List.mem_filter.2 ⟨List.mem_range.2 hi, by simp [Go.Lib.keeps]⟩, e 0 hi⟩
 | succ i ih =>
  by_cases hk : zs[i + 1] = zs[i]
  ·rw [hk]; exact ih (by omega)
  ·unfold Go.Lib.compact Go.Lib.compactUpTo
   refine List.mem_map.2 ⟨i + 1, List.mem_filter.2 ⟨List.mem_range.2 hi, ?_⟩, e (i + 1) hi⟩
   have : zs.toArray[i + 1]! ≠ zs.toArray[i]! := by rw [e _ hi, e i (by omega)]; exact hk
   simp only [Go.Lib.keeps, Nat.add_sub_cancel]
   exact decide_eq_true (.inr this)
def uni : List Prs → List Prs → List Bs
 | [], [] => []
 | x :: a, [] => x.1 :: uni a []
 | [], y :: b => y.1 :: uni [] b
 | x :: a, y :: b => if Op.bytesLess x.1 y.1 then x.1 :: uni a (y :: b) else if Op.bytesLess y.1 x.1 then y.1 :: uni (x :: a) b else x.1 :: uni a b
 termination_by a b => a.length + b.length
theorem mem_uni : ∀ (a b : List Prs) (n : Bs), n ∈ uni a b ↔ n ∈ a.map (·.1) ∨ n ∈ b.map (·.1)
 | [], [], n => by rw [uni]; simp
 | x :: a, [], n => by rw [uni]; have := mem_uni a [] n; simp at this ⊢; rw [this]
 | [], y :: b, n => by rw [uni]; have := mem_uni [] b n; simp at this ⊢; rw [this]
 | x :: a, y :: b, n => by
  rw [uni]
  split
  ·have := mem_uni a (y :: b) n
   simp only [List.mem_cons, List.map_cons] at this ⊢
   rw [this]
   exact or_assoc.symm
  ·split
   ·have := mem_uni (x :: a) b n
    simp only [List.mem_cons, List.map_cons] at this ⊢
    rw [this]
    constructor
    ·rintro (h | (h | h) | h)
     ·exact .inr (.inl h)
     ·exact .inl (.inl h)
     ·exact .inl (.inr h)
     ·exact .inr (.inr h)
    ·rintro ((h | h) | h | h)
     ·exact .inr (.inl (.inl h))
     ·exact .inr (.inl (.inr h))
     ·exact .inl h
     ·exact .inr (.inr h)
   ·rename_i h1 h2
    have e : x.1 = y.1 := by
     rcases bl_tri x.1 y.1 with q | q | q
     ·exact q
     ·exact absurd q h1
     ·exact absurd q h2
    have := mem_uni a b n
    simp only [List.mem_cons, List.map_cons] at this ⊢
    rw [this, ← e]
    constructor
    ·rintro (h | h | h)
     ·exact .inl (.inl h)
     ·exact .inl (.inr h)
     ·exact .inr (.inr h)
    ·rintro ((h | h) | h | h)
     ·exact .inl h
     ·exact .inr (.inl h)
     ·exact .inl h
     ·exact .inr (.inr h)
 termination_by a b => a.length + b.length
theorem slook_no : ∀ {a : List Prs} {n : Bs}, (∀ p ∈ a, p.1 ≠ n) → slook a n = none
 | [], n, _ => rfl
 | (k, v) :: a, n, h => by
  have h1 := h (k, v) (by simp)
  rw [slook, if_neg (fun q => h1 q.symm)]
  exact slook_no fun p hp => h p (by simp [hp])
theorem slook_hd (x : Prs) (a : List Prs) : slook (x :: a) x.1 = some x.2 := by rw [slook, if_pos rfl]
theorem slook_tl {x : Prs} {a : List Prs} {n : Bs} (h : x.1 ≠ n) : slook (x :: a) n = slook a n := by rw [slook, if_neg (fun q => h q.symm)]
abbrev Dn (a b : List Prs) (n : Bs) : List Bs := dLine (slook a n) (slook b n) n
theorem flatMap_eq {l : List Bs} {f g : Bs → List Bs} (h : ∀ n ∈ l, f n = g n) : l.flatMap f = l.flatMap g := by
 induction l with
 | nil => rfl
 | cons x l ih => rw [List.flatMap_cons, List.flatMap_cons, h x (by simp), ih fun n hn => h n (by simp [hn])]
theorem mem_fst {a : List Prs} {n : Bs} (h : n ∈ a.map (·.1)) : ∃ p ∈ a, p.1 = n := by simpa using h
theorem mergeD_flat : ∀ (a b : List Prs), Asc a → Asc b → mergeD a b = (uni a b).flatMap (Dn a b)
 | [], [], _, _ => by rw [mD_nil, uni]; rfl
 | x :: a, [], ha, hb => by
  have h1 := List.pairwise_cons.1 ha
  rw [mD_l, uni, List.flatMap_cons, mergeD_flat a [] h1.2 hb]
  have e : Dn (x :: a) [] x.1 = [minusL x] := by
   show dLine _ _ _ = _
   rw [slook_hd]; rfl
  rw [e, flatMap_eq (f := Dn a []) (g := Dn (x :: a) [])]
  ·rfl
  ·intro n hn
   obtain ⟨p, hp, rfl⟩ := mem_fst (by simpa using (mem_uni a [] n).1 hn)
   show dLine _ _ _ = dLine _ _ _
   rw [slook_tl (bl_ne (h1.1 p hp))]
 | [], y :: b, ha, hb => by
  have h1 := List.pairwise_cons.1 hb
  rw [mD_r, uni, List.flatMap_cons, mergeD_flat [] b ha h1.2]
  have e : Dn [] (y :: b) y.1 = [plusL y] := by
   show dLine _ _ _ = _
   rw [slook_hd]; rfl
  rw [e, flatMap_eq (f := Dn [] b) (g := Dn [] (y :: b))]
  ·rfl
  ·intro n hn
   obtain ⟨p, hp, rfl⟩ := mem_fst (by simpa using (mem_uni [] b n).1 hn)
   show dLine _ _ _ = dLine _ _ _
   rw [slook_tl (bl_ne (h1.1 p hp))]
 | x :: a, y :: b, ha, hb => by
  have h1 := List.pairwise_cons.1 ha
  have h2 := List.pairwise_cons.1 hb
  rw [uni]
  by_cases hl : Op.bytesLess x.1 y.1 = true
  ·rw [mD_lt hl, if_pos hl, List.flatMap_cons, mergeD_flat a (y :: b) h1.2 hb]
   have hy : ∀ p ∈ y :: b, bl x.1 p.1 := fun p hp => by
    rcases List.mem_cons.1 hp with rfl | q
    ·exact hl
    ·exact bl_trans hl (h2.1 p q)
   have e : Dn (x :: a) (y :: b) x.1 = [minusL x] := by
    show dLine _ _ _ = _
    rw [slook_hd, slook_no fun p hp q => bl_ne (hy p hp) q.symm]; rfl
   rw [e, flatMap_eq (f := Dn a (y :: b)) (g := Dn (x :: a) (y :: b))]
   ·rfl
   ·intro n hn
    have hx : x.1 ≠ n := by
     rcases (mem_uni a (y :: b) n).1 hn with q | q
     ·obtain ⟨p, hp, rfl⟩ := mem_fst q
      exact bl_ne (h1.1 p hp)
     ·obtain ⟨p, hp, rfl⟩ := mem_fst q
      exact bl_ne (hy p hp)
    show dLine _ _ _ = dLine _ _ _
    rw [slook_tl hx]
  ·have hl' : Op.bytesLess x.1 y.1 = false := by simpa using hl
   rw [if_neg hl]
   by_cases hg : Op.bytesLess y.1 x.1 = true
   ·rw [mD_gt hl' hg, if_pos hg, List.flatMap_cons, mergeD_flat (x :: a) b ha h2.2]
    have hx : ∀ p ∈ x :: a, bl y.1 p.1 := fun p hp => by
     rcases List.mem_cons.1 hp with rfl | q
     ·exact hg
     ·exact bl_trans hg (h1.1 p q)
    have e : Dn (x :: a) (y :: b) y.1 = [plusL y] := by
     show dLine _ _ _ = _
     rw [slook_no fun p hp q => bl_ne (hx p hp) q.symm, slook_hd]; rfl
    rw [e, flatMap_eq (f := Dn (x :: a) b) (g := Dn (x :: a) (y :: b))]
    ·rfl
    ·intro n hn
     have hy : y.1 ≠ n := by
      rcases (mem_uni (x :: a) b n).1 hn with q | q
      ·obtain ⟨p, hp, rfl⟩ := mem_fst q
       exact bl_ne (hx p hp)
      ·obtain ⟨p, hp, rfl⟩ := mem_fst q
       exact bl_ne (h2.1 p hp)
     show dLine _ _ _ = dLine _ _ _
     rw [slook_tl hy]
   ·have hg' : Op.bytesLess y.1 x.1 = false := by simpa using hg
    have e1 : x.1 = y.1 := by
     rcases bl_tri x.1 y.1 with q | q | q
     ·exact q
     ·exact absurd q hl
     ·exact absurd q hg
    rw [mD_eq hl' hg', if_neg hg, List.flatMap_cons, mergeD_flat a b h1.2 h2.2]
    have e : Dn (x :: a) (y :: b) x.1 = if x.2 = y.2 then [] else [turnL x y.2] := by
     show dLine _ _ _ = _
     rw [slook_hd]
     conv => lhs; rw [e1]
     rw [slook_hd]
     show (if x.2 = y.2 then [] else _) = _
     rw [← e1]; rfl
    rw [e, flatMap_eq (f := Dn a b) (g := Dn (x :: a) (y :: b))]
    intro n hn
    have hx : x.1 ≠ n := by
     rcases (mem_uni a b n).1 hn with q | q
     ·obtain ⟨p, hp, rfl⟩ := mem_fst q
      exact bl_ne (h1.1 p hp)
     ·obtain ⟨p, hp, rfl⟩ := mem_fst q
      rw [e1]; exact bl_ne (h2.1 p hp)
    show dLine _ _ _ = dLine _ _ _
    rw [slook_tl hx, slook_tl (e1 ▸ hx)]
 termination_by a b => a.length + b.length
theorem uni_pw : ∀ (a b : List Prs), Asc a → Asc b → (uni a b).Pairwise bl
 | [], [], _, _ => by rw [uni]; exact List.Pairwise.nil
 | x :: a, [], ha, hb => by
  have h1 := List.pairwise_cons.1 ha
  rw [uni, List.pairwise_cons]
  refine ⟨fun n hn => ?_, uni_pw a [] h1.2 hb⟩
  obtain ⟨p, hp, rfl⟩ := mem_fst (by simpa using (mem_uni a [] n).1 hn)
  exact h1.1 p hp
 | [], y :: b, ha, hb => by
  have h1 := List.pairwise_cons.1 hb
  rw [uni, List.pairwise_cons]
  refine ⟨fun n hn => ?_, uni_pw [] b ha h1.2⟩
  obtain ⟨p, hp, rfl⟩ := mem_fst (by simpa using (mem_uni [] b n).1 hn)
  exact h1.1 p hp
 | x :: a, y :: b, ha, hb => by
  have h1 := List.pairwise_cons.1 ha
  have h2 := List.pairwise_cons.1 hb
  rw [uni]
  by_cases hl : Op.bytesLess x.1 y.1 = true
  ·rw [if_pos hl, List.pairwise_cons]
   refine ⟨fun n hn => ?_, uni_pw a (y :: b) h1.2 hb⟩
   rcases (mem_uni a (y :: b) n).1 hn with q | q
   ·obtain ⟨p, hp, rfl⟩ := mem_fst q
    exact h1.1 p hp
   ·obtain ⟨p, hp, rfl⟩ := mem_fst q
    rcases List.mem_cons.1 hp with rfl | r
    ·exact hl
    ·exact bl_trans hl (h2.1 p r)
  ·rw [if_neg hl]
   by_cases hg : Op.bytesLess y.1 x.1 = true
   ·rw [if_pos hg, List.pairwise_cons]
    refine ⟨fun n hn => ?_, uni_pw (x :: a) b ha h2.2⟩
    rcases (mem_uni (x :: a) b n).1 hn with q | q
    ·obtain ⟨p, hp, rfl⟩ := mem_fst q
     rcases List.mem_cons.1 hp with rfl | r
     ·exact hg
     ·exact bl_trans hg (h1.1 p r)
    ·obtain ⟨p, hp, rfl⟩ := mem_fst q
     exact h2.1 p hp
   ·have e1 : x.1 = y.1 := by
     rcases bl_tri x.1 y.1 with q | q | q
     ·exact q
     ·exact absurd q hl
     ·exact absurd q hg
    rw [if_neg hg, List.pairwise_cons]
    refine ⟨fun n hn => ?_, uni_pw a b h1.2 h2.2⟩
    rcases (mem_uni a b n).1 hn with q | q
    ·obtain ⟨p, hp, rfl⟩ := mem_fst q
     exact h1.1 p hp
    ·obtain ⟨p, hp, rfl⟩ := mem_fst q
     rw [e1]; exact h2.1 p hp
 termination_by a b => a.length + b.length
theorem asc_inj {a : List Prs} (h : Asc a) (i j : Nat) (p q : Prs) (hi : a[i]? = some p) (hj : a[j]? = some q) (e : p.1 = q.1) : i = j := by
 obtain ⟨i1, i2⟩ := List.getElem?_eq_some_iff.1 hi
 obtain ⟨j1, j2⟩ := List.getElem?_eq_some_iff.1 hj
 have hp := List.pairwise_iff_getElem.1 h
 rcases Nat.lt_trichotomy i j with q | q | q
 ·have := hp i j i1 j1 q
  rw [i2, j2] at this
  exact absurd e (bl_ne this)
 ·exact q
 ·have := hp j i j1 i1 q
  rw [i2, j2] at this
  exact absurd e.symm (bl_ne this)
theorem slook_iff : ∀ {a : List Prs}, Asc a → ∀ (n v : Bs), slook a n = some v ↔ (n, v) ∈ a
 | [], _, n, v => by simp [slook]
 | x :: a, h, n, v => by
  have h1 := List.pairwise_cons.1 h
  by_cases e : x.1 = n
  ·subst e
   rw [slook_hd]
   constructor
   ·intro q
    simp only [Option.some.injEq] at q
    subst q
    simp
   ·intro q
    rcases List.mem_cons.1 q with r | r
    ·rw [← r]
    ·exact absurd rfl (bl_ne (h1.1 (x.1, v) r))
  ·rw [slook_tl e, slook_iff h1.2 n v]
   constructor
   ·exact fun q => List.mem_cons_of_mem _ q
   ·intro q
    rcases List.mem_cons.1 q with r | r
    ·exact absurd (by rw [← r]) e
    ·exact r
theorem slook_num {a : List Prs} (h : Asc a) (n : Bs) : slook (numTo a a.length) n = slook a n := by
 have h1 := slook_numTo a (asc_inj h) n a.length (Nat.le_refl _)
 have h2 := slook_iff h n
 apply Option.ext
 intro v
 rw [h1 v, h2 v]
 constructor
 ·rintro ⟨i, _, q⟩
  exact List.mem_of_getElem? q
 ·intro q
  obtain ⟨i, hi, e⟩ := List.getElem_of_mem q
  exact ⟨i, hi, by rw [List.getElem?_eq_getElem hi, e]⟩
theorem dTo_flat (hm am : List (Bs × Bs)) (ns : List Bs) : ∀ n, n ≤ ns.length → dTo hm am ns n = (ns.take n).flatMap fun x => dLine (slook hm x) (slook am x) x
 | 0, _ => rfl
 | n + 1, h => by
  obtain ⟨x, hx⟩ : ∃ x, ns[n]? = some x := ⟨_, List.getElem?_eq_getElem (by omega)⟩
  rw [dTo_snoc hx, dTo_flat hm am ns n (by omega), List.take_add_one, hx]
  simp
def nmsL (a b : List Prs) : List Bs := Go.Lib.compact ((a.map (·.1) ++ b.map (·.1)).mergeSort fun x y => decide (x ≤ y))
theorem nmsL_uni {a b : List Prs} (ha : Asc a) (hb : Asc b) : nmsL a b = uni a b := by
 refine pw_ext (compact_pw (srt_pw _)) (uni_pw a b ha hb) fun x => ?_
 unfold nmsL
 rw [compact_mem, (List.mergeSort_perm _ _).mem_iff, mem_uni, List.mem_append]
theorem diff_merge {a b : List Prs} (ha : Asc a) (hb : Asc b) : dTo (numTo a a.length) (numTo b b.length) (nmsL a b) (nmsL a b).length = mergeD a b := by
 rw [dTo_flat _ _ _ _ (Nat.le_refl _), List.take_length, nmsL_uni ha hb, mergeD_flat a b ha hb]
 refine flatMap_eq fun n _ => ?_
 rw [slook_num ha, slook_num hb]
theorem mergeD_self : ∀ a : List Prs, mergeD a a = []
 | [] => mD_nil
 | x :: a => by rw [mD_eq (bl_irr _) (bl_irr _), if_pos rfl, mergeD_self a]; rfl
theorem pick_asc' (L : Lck) : ∀ n, n ≤ L.1.length → pickTo L n = true → Asc (L.1.take n)
 | 0, _, _ => by simp
 | n + 1, hn, h => by
  simp only [pickTo, Bool.and_eq_true] at h
  obtain ⟨x, hx⟩ : ∃ x, L.1[n]? = some x := ⟨_, List.getElem?_eq_getElem (by omega)⟩
  have ih := pick_asc' L n (by omega) h.1
  rw [List.take_add_one, hx]
  show Asc (L.1.take n ++ [x])
  refine List.pairwise_append.2 ⟨ih, List.pairwise_singleton _ _, fun p hp q hq => ?_⟩
  simp only [List.mem_singleton] at hq
  subst hq
  have h2 := h.2
  unfold pickAt at h2
  rw [hx] at h2
  simp only [Bool.and_eq_true, Bool.or_eq_true, decide_eq_true_eq] at h2
  rcases h2.1.2 with e | e
  ·subst e; simp at hp
  ·obtain ⟨y, hy⟩ : ∃ y, L.1[n - 1]? = some y := ⟨_, List.getElem?_eq_getElem (by omega)⟩
   rw [hy] at e
   simp only at e
   obtain ⟨i, hi, rfl⟩ := List.getElem_of_mem hp
   simp only [List.length_take] at hi
   rw [List.getElem_take]
   obtain ⟨y1, y2⟩ := List.getElem?_eq_some_iff.1 hy
   by_cases hi' : i = n - 1
   ·subst hi'
    rw [y2]; exact e
   ·have := List.pairwise_iff_getElem.1 ih i (n - 1) (by simp; omega) (by simp; omega) (by omega)
    rw [List.getElem_take, List.getElem_take, y2] at this
    exact bl_trans this e
theorem lock_asc {L : Lck} (h : lockV L = true) : Asc L.1 := by
 simp only [lockV, Bool.and_eq_true] at h
 have := pick_asc' L L.1.length (Nat.le_refl _) h.2
 rwa [List.take_length] at this
end Go.Lk
namespace Go.Proofs.YteekfnhhlcmcgaaGreatDoor
open Go.Eng Go.Wh Go.Ver Go.RowKit Go.Lk
set_option maxRecDepth 20000
attribute [local irreducible] AG CallA CallT AWp PCall ACall AgC
theorem nmsV_eq (L M : Lck) : nmsV L M = Go.Lk.nmsL L.1 M.1 := by
 unfold nmsV Go.Lk.nmsL srtS
 rw [gemsTo_all, gemsTo_all, List.nil_append]
def bothV (L M : Lck) : List Bs := if lockV L && lockV M then mergeD L.1 M.1 else []
theorem both_eq (L M : Lck) : (if lockV L && lockV M then diffV L M else []) = bothV L M := by
 unfold bothV
 split
 ·rename_i h
  simp only [Bool.and_eq_true] at h
  unfold diffV
  rw [nmsV_eq, diff_merge (lock_asc h.1) (lock_asc h.2)]
 ·rfl
theorem both_self (L : Lck) : bothV L L = [] := by
 unfold bothV
 rw [mergeD_self]
 split <;> rfl
theorem both_len (L M : Lck) : (bothV L M).length ≤ 1000000 := by
 rw [← both_eq]
 split
 ·rename_i h
  simp only [Bool.and_eq_true] at h
  have hp1 : L.1.length ≤ 60 := by have := h.1; simp only [lockV, Bool.and_eq_true, decide_eq_true_eq] at this; exact this.1.1.1
  have hp2 : M.1.length ≤ 60 := by have := h.2; simp only [lockV, Bool.and_eq_true, decide_eq_true_eq] at this; exact this.1.1.1
  have h1 := nms_len hp1 hp2
  have h2 := dTo_len (numTo L.1 L.1.length) (numTo M.1 M.1.length) (nmsV L M) (nmsV L M).length
  show (dTo _ _ _ _).length ≤ _
  omega
 ·simp
abbrev cL (L : Lck) : List D := [dPs L.1, dNs L.2.1, dPs L.2.2]
set_option maxHeartbeats 8000000 in
theorem lockDiffs_spec (L M : Lck) (A B : List Int) (hZL : ZL L) (hZM : ZL M) (hA : A.length ≤ 9223372036854775807) (hB : B.length ≤ 9223372036854775807) : PCall Tryz.prog 4 [.agg (cL L ++ cL M ++ [dIs A, dIs B])] fun r => r = dB true := by 
 refine pcall_of Tryz.func4 rfl rfl Tryz.ntmps4 (rs := [.tmp 2]) (tys := [4]) rfl rfl (by simp) ?_
 have LG1 := large_spec L hZL
 have LG2 := large_spec M hZM
 have G1 := grown_spec A hA
 have G2 := grown_spec B hB
 (refine awp_sr fun Y Yh => ?_; simp [go_sem]; ((repeat' (first|(refine ag_x ?_;simp [go_sem])|intro _|apply And.intro|(apply Yh;clear Yh Y)));all_goals first|apply Hold.mk|omega|assumption|skip))
 refine awp_frzbox 1 rfl rfl ?_
 simp only [go_sem]
 refine awp_seq_k fun K1 hK1 => ?_
 have tl1 : ∀ S', LkOk L → LkOk M → Cov S' ⟨[(1, .rd (cL L ++ cL M ++ [dIs A, dIs B]))], []⟩ → K1 S' := fun S' hL hM hS => by
  refine hK1 _ ?_; clear hK1
  refine awp_cov hS ?_; clear hS
  ((refine awp_dr (.qs [0, 2, 4, 8, 1, 3, 5, 9] (.kp 6 (.kp 7 (.kp 10 (.kp 11 (.kp 12 (.qs [13] (.nil)))))))) (by kernel_rfl) ?_ ?_ ?_ ?_); (kernel_rfl); (exact (by decide +kernel)); (kernel_rfl); intro Y Yh; ((repeat' (first|(refine ag_x ?_;simp [go_sem])|refine adr_nil ?_|((first|refine adr_qs fun Y Yh=>?_|refine adr_y fun Y Yh=>?_);simp [go_sem])|intro _|apply And.intro|(apply Yh;clear Yh Y)));all_goals first|apply Hold.mk|omega|assumption|skip))
  ((try refine CallT.toA ?_); refine callT_m (.inl ⟨rfl,rfl⟩) (by simp [go_sem]) ?_; intro args ha; simp [go_sem] at ha; subst ha; refine ⟨_, G1, ?_⟩; rintro _ ⟨L3, hv3, rfl⟩; simp [go_sem]; ((repeat' (first|(refine ag_x ?_;simp [go_sem])|refine adr_nil ?_|((first|refine adr_qs fun Y Yh=>?_|refine adr_y fun Y Yh=>?_);simp [go_sem])|intro _|apply And.intro|(apply Yh;clear Yh Y)));all_goals first|apply Hold.mk|omega|assumption|skip))
  have ok3 := lkOk_of (lockV_sz hv3)
  ((try refine CallT.toA ?_); refine callT_m (.inl ⟨rfl,rfl⟩) (by simp [go_sem]) ?_; intro args ha; simp [go_sem] at ha; subst ha; refine ⟨_, (of_spec L3 ok3), ?_⟩; rintro _ rfl; simp [go_sem]; ((repeat' (first|(refine ag_x ?_;simp [go_sem])|refine adr_nil ?_|((first|refine adr_qs fun Y Yh=>?_|refine adr_y fun Y Yh=>?_);simp [go_sem])|intro _|apply And.intro|(apply Yh;clear Yh Y)));all_goals first|apply Hold.mk|omega|assumption|skip))
  ((try refine CallT.toA ?_); refine callT_m (.inl ⟨rfl,rfl⟩) (by simp [go_sem]) ?_; intro args ha; simp [go_sem] at ha; subst ha; refine ⟨_, G2, ?_⟩; rintro _ ⟨L4, hv4, rfl⟩; simp [go_sem]; ((repeat' (first|(refine ag_x ?_;simp [go_sem])|refine adr_nil ?_|((first|refine adr_qs fun Y Yh=>?_|refine adr_y fun Y Yh=>?_);simp [go_sem])|intro _|apply And.intro|(apply Yh;clear Yh Y)));all_goals first|apply Hold.mk|omega|assumption|skip))
  have ok4 := lkOk_of (lockV_sz hv4)
  ((try refine CallT.toA ?_); refine callT_m (.inl ⟨rfl,rfl⟩) (by simp [go_sem]) ?_; intro args ha; simp [go_sem] at ha; subst ha; refine ⟨_, (of_spec L4 ok4), ?_⟩; rintro _ rfl; simp [go_sem]; ((repeat' (first|(refine ag_x ?_;simp [go_sem])|refine adr_nil ?_|((first|refine adr_qs fun Y Yh=>?_|refine adr_y fun Y Yh=>?_);simp [go_sem])|intro _|apply And.intro|(apply Yh;clear Yh Y)));all_goals first|apply Hold.mk|omega|assumption|skip))
  refine awp_frzrow 3 rfl rfl ?_
  simp only [go_sem]
  have hls : ∀ X ∈ [L, M, L3, L4], LkOk X := by
   intro X hX
   simp only [List.mem_cons, List.mem_nil_iff, or_false] at hX
   rcases hX with rfl | rfl | rfl | rfl <;> assumption
  have hl4 : [L, M, L3, L4].length = 4 := rfl
  refine awp_cov (S' := ⟨[(3, .sl 3 ([L, M, L3, L4].map cL))], []⟩) (by (refine cov_of ?_ ?_ <;> simp [go_sem])) ?_
  generalize [L, M, L3, L4] = ls at hls hl4 ⊢
  refine awp_seq_k fun K3 hK3 => ?_
  (refine awp_sr fun Y Yh => ?_; simp [go_sem]; ((repeat' (first|(refine ag_x ?_;simp [go_sem])|intro _|apply And.intro|(apply Yh;clear Yh Y)));all_goals first|apply Hold.mk|omega|assumption|skip))
  refine awp_block ?_
  refine awp_loop (σ := Nat) (fun i => ⟨[(3, .sl 3 (ls.map cL)), (4, dI i)], []⟩) (fun i => i ≤ 4) (fun i => 4 - i) 0 ?_ ?_ ?_
  ·(refine cov_of ?_ ?_ <;> simp [go_sem])
  ·simp
  intro i hi
  refine awp_seq_k fun K4 hK4 => ?_
  (refine awp_sr fun Y Yh => ?_; simp [go_sem]; ((repeat' (first|(refine ag_x ?_;simp [go_sem])|intro _|apply And.intro|(apply Yh;clear Yh Y)));all_goals first|apply Hold.mk|omega|assumption|skip))
  (refine awp_if fun T F hT hF => ?_; simp [go_sem]; refine BR.intro (fun h5 => hT ?_) (fun h5 => hF ?_); all_goals clear hT hF T F; try simp at h5) 
  ·refine awp_skip ?_
   refine hK4 _ ?_; clear hK4
   obtain ⟨X, hX⟩ : ∃ X, ls[i]? = some X := ⟨_, List.getElem?_eq_getElem (by omega)⟩
   have okX := hls X (List.mem_of_getElem? hX)
   refine awp_seq_k fun K6 hK6 => ?_
   refine awp_block ?_
   (refine awp_sr fun Y Yh => ?_; simp [go_sem]; ((repeat' (first|(refine ag_x ?_;simp [go_sem])|intro _|apply And.intro|(apply Yh;clear Yh Y)));all_goals first|apply Hold.mk|omega|assumption|skip))
   refine awp_block ?_
   refine awp_loop (σ := Nat) (fun k => ⟨[(3, .sl 3 (ls.map cL)), (4, dI i), (5, dI k)], []⟩) (fun k => k ≤ 4) (fun k => 4 - k) 0 ?_ ?_ ?_
   ·(refine cov_of ?_ ?_ <;> simp [go_sem])
   ·simp
   intro k hk
   refine awp_seq_k fun K7 hK7 => ?_
   (refine awp_sr fun Y Yh => ?_; simp [go_sem]; ((repeat' (first|(refine ag_x ?_;simp [go_sem])|intro _|apply And.intro|(apply Yh;clear Yh Y)));all_goals first|apply Hold.mk|omega|assumption|skip))
   (refine awp_if fun T F hT hF => ?_; simp [go_sem]; refine BR.intro (fun h8 => hT ?_) (fun h8 => hF ?_); all_goals clear hT hF T F; try simp at h8) 
   ·refine awp_skip ?_
    refine hK7 _ ?_; clear hK7
    obtain ⟨Yl, hY⟩ : ∃ Yl, ls[k]? = some Yl := ⟨_, List.getElem?_eq_getElem (by omega)⟩
    have okY := hls Yl (List.mem_of_getElem? hY)
    have D1 := lDiff_spec X Yl okX okY
    rw [both_eq] at D1
    have D2 := rDiff_spec X Yl okX okY
    rw [show (if lockV X && lockV Yl then mergeD X.1 Yl.1 else []) = bothV X Yl from rfl] at D2
    have TX := texts_spec (bothV X Yl) (bothV X Yl) (both_len X Yl) (both_len X Yl)
    rw [decide_eq_true rfl] at TX
    have A1 := as_spec X okX
    have A2 := as_spec Yl okY
    have S1 := lSame_spec X Yl okX okY
    have S2 := rSame_spec X Yl okX okY
    have hself : i = k → bothV X Yl = [] := fun q => by
     subst q
     rw [hX] at hY
     simp only [Option.some.injEq] at hY
     rw [hY, both_self]
    generalize bothV X Yl = bt at *
    generalize (if lockV X && lockV Yl then (0 : Int) else 1) = ec at *
    generalize decide (X = Yl) = sm at *
    refine awp_seq_k fun K9 hK9 => ?_
    refine awp_block ?_
    ((refine awp_dr (.qs [0, 1, 2, 4, 5, 6, 3, 7] (.one 8 (.qs [9, 10, 11, 12, 13] (.nil)))) (by kernel_rfl) ?_ ?_ ?_ ?_); (kernel_rfl); (exact (by decide +kernel)); (kernel_rfl); intro Y Yh; ((repeat' (first|(refine ag_x ?_;simp [go_sem, hX, hY])|refine adr_nil ?_|((first|refine adr_qs fun Y Yh=>?_|refine adr_y fun Y Yh=>?_);simp [go_sem, hX, hY])|intro _|apply And.intro|(apply Yh;clear Yh Y)));all_goals first|apply Hold.mk|omega|assumption|skip))
    ((try refine CallT.toA ?_); refine callT_m (.inl ⟨rfl,rfl⟩) (by simp [go_sem]) ?_; intro args ha; simp [go_sem] at ha; subst ha; refine ⟨_, D1, ?_⟩; rintro _ rfl; simp [go_sem]; ((repeat' (first|(refine ag_x ?_;simp [go_sem])|refine adr_nil ?_|((first|refine adr_qs fun Y Yh=>?_|refine adr_y fun Y Yh=>?_);simp [go_sem])|intro _|apply And.intro|(apply Yh;clear Yh Y)));all_goals first|apply Hold.mk|omega|assumption|skip))
    ((refine awp_dr (.qs [0, 1, 2, 5, 6, 7, 3, 8] (.kp 4 (.kp 9 (.kp 10 (.qs [11, 12, 13, 14, 15] (.nil)))))) (by kernel_rfl) ?_ ?_ ?_ ?_); (kernel_rfl); (exact (by decide +kernel)); (kernel_rfl); intro Y Yh; ((repeat' (first|(refine ag_x ?_;simp [go_sem, hX, hY])|refine adr_nil ?_|((first|refine adr_qs fun Y Yh=>?_|refine adr_y fun Y Yh=>?_);simp [go_sem, hX, hY])|intro _|apply And.intro|(apply Yh;clear Yh Y)));all_goals first|apply Hold.mk|omega|assumption|skip))
    ((try refine CallT.toA ?_); refine callT_m (.inl ⟨rfl,rfl⟩) (by simp [go_sem]) ?_; intro args ha; simp [go_sem] at ha; subst ha; refine ⟨_, A1, ?_⟩; rintro _ rfl; simp [go_sem]; ((repeat' (first|(refine ag_x ?_;simp [go_sem])|refine adr_nil ?_|((first|refine adr_qs fun Y Yh=>?_|refine adr_y fun Y Yh=>?_);simp [go_sem])|intro _|apply And.intro|(apply Yh;clear Yh Y)));all_goals first|apply Hold.mk|omega|assumption|skip))
    ((try refine CallT.toA ?_); refine callT_m (.inl ⟨rfl,rfl⟩) (by simp [go_sem]) ?_; intro args ha; simp [go_sem] at ha; subst ha; refine ⟨_, A2, ?_⟩; rintro _ rfl; simp [go_sem]; ((repeat' (first|(refine ag_x ?_;simp [go_sem])|refine adr_nil ?_|((first|refine adr_qs fun Y Yh=>?_|refine adr_y fun Y Yh=>?_);simp [go_sem])|intro _|apply And.intro|(apply Yh;clear Yh Y)));all_goals first|apply Hold.mk|omega|assumption|skip))
    ((try refine CallT.toA ?_); refine callT_m (.inl ⟨rfl,rfl⟩) (by simp [go_sem]) ?_; intro args ha; simp [go_sem] at ha; subst ha; refine ⟨_, D2, ?_⟩; rintro _ rfl; simp [go_sem]; ((repeat' (first|(refine ag_x ?_;simp [go_sem])|refine adr_nil ?_|((first|refine adr_qs fun Y Yh=>?_|refine adr_y fun Y Yh=>?_);simp [go_sem])|intro _|apply And.intro|(apply Yh;clear Yh Y)));all_goals first|apply Hold.mk|omega|assumption|skip))
    refine awp_seq_k fun K10 hK10 => ?_
    ((refine awp_dr (.qs [0, 1] (.one 2 (.qs [3, 4, 5, 6, 7, 8, 9, 10, 11, 12, 14, 15, 16, 19, 20, 21, 24, 25, 26, 13, 17, 22, 27] (.kp 18 (.kp 23 (.kp 28 (.kp 29 (.qs [30, 31] (.nil))))))))) (by kernel_rfl) ?_ ?_ ?_ ?_); (kernel_rfl); (exact (by decide +kernel)); (kernel_rfl); intro Y Yh; ((repeat' (first|(refine ag_x ?_;simp [go_sem, hX, hY])|refine adr_nil ?_|((first|refine adr_qs fun Y Yh=>?_|refine adr_y fun Y Yh=>?_);simp [go_sem, hX, hY])|intro _|apply And.intro|(apply Yh;clear Yh Y)));all_goals first|apply Hold.mk|omega|assumption|skip))
    ((try refine CallT.toA ?_); refine callT_m (.inl ⟨rfl,rfl⟩) (by simp [go_sem]) ?_; intro args ha; simp [go_sem] at ha; subst ha; refine ⟨_, TX, ?_⟩; rintro _ rfl; simp [go_sem, hX, hY]; ((repeat' (first|(refine ag_x ?_;simp [go_sem, hX, hY])|refine adr_nil ?_|((first|refine adr_qs fun Y Yh=>?_|refine adr_y fun Y Yh=>?_);simp [go_sem, hX, hY])|intro _|apply And.intro|(apply Yh;clear Yh Y)));all_goals first|apply Hold.mk|omega|assumption|skip))
    (refine agc_f (dB sm) (.inl ⟨rfl,rfl⟩) ?_ rfl ?_; (intro hc args ha; simp [go_sem] at ha; subst ha; exact S1); simp [go_sem]; ((repeat' (first|(refine ag_x ?_;simp [go_sem])|refine adr_nil ?_|((first|refine adr_qs fun Y Yh=>?_|refine adr_y fun Y Yh=>?_);simp [go_sem])|intro _|apply And.intro|(apply Yh;clear Yh Y)));all_goals first|apply Hold.mk|omega|assumption|skip))
    (refine agc_m (dLk X) (.inl ⟨rfl,rfl⟩) (by simp [go_sem]) ?_ ?_; (intro hc args ha; simp [go_sem] at ha; subst ha; exact A1); simp [go_sem]; ((repeat' (first|(refine ag_x ?_;simp [go_sem])|refine adr_nil ?_|((first|refine adr_qs fun Y Yh=>?_|refine adr_y fun Y Yh=>?_);simp [go_sem])|intro _|apply And.intro|(apply Yh;clear Yh Y)));all_goals first|apply Hold.mk|omega|assumption|skip))
    (refine agc_m (dLk Yl) (.inl ⟨rfl,rfl⟩) (by simp [go_sem]) ?_ ?_; (intro hc args ha; simp [go_sem] at ha; subst ha; exact A2); simp [go_sem]; ((repeat' (first|(refine ag_x ?_;simp [go_sem])|refine adr_nil ?_|((first|refine adr_qs fun Y Yh=>?_|refine adr_y fun Y Yh=>?_);simp [go_sem])|intro _|apply And.intro|(apply Yh;clear Yh Y)));all_goals first|apply Hold.mk|omega|assumption|skip))
    (refine agc_f (dB sm) (.inl ⟨rfl,rfl⟩) ?_ rfl ?_; (intro hc args ha; simp [go_sem] at ha; subst ha; exact S2); simp [go_sem]; ((repeat' (first|(refine ag_x ?_;simp [go_sem])|refine adr_nil ?_|((first|refine adr_qs fun Y Yh=>?_|refine adr_y fun Y Yh=>?_);simp [go_sem])|intro _|apply And.intro|(apply Yh;clear Yh Y)));all_goals first|apply Hold.mk|omega|assumption|skip))
    refine awp_cond ?_
    simp [go_sem]
    refine awp_skip ?_
    refine hK10 _ ?_; clear hK10
    by_cases hik : i = k
    ·have hbt := hself hik
     subst hbt
     subst hik
     (refine awp_sr fun Y Yh => ?_; simp [go_sem]; ((repeat' (first|(refine ag_false ?_ ?_ ?_;(focus (simp [go_sem, undef];done));(focus (simp [go_sem];done));simp [go_sem])|(refine ag_true ?_ ?_;(focus (simp [go_sem, undef];done));simp [go_sem])|(refine ag_x ?_;simp [go_sem, undef])|intro _|apply And.intro|(apply Yh;clear Yh Y)));all_goals first|apply Hold.mk|omega|assumption|skip))
     refine awp_cond ?_
     simp [go_sem]
     refine awp_skip ?_
     refine hK9 _ ?_; clear hK9
     (refine awp_r fun Y Yh => ?_; simp [go_sem]; ((repeat' (first|(refine ag_x ?_;simp [go_sem])|intro _|apply And.intro|(apply Yh;clear Yh Y)));all_goals first|apply Hold.mk|omega|assumption|skip))
     refine ⟨i + 1, ?_, ?_, ?_⟩
     ·(refine cov_of ?_ ?_ <;> simp [go_sem])
     ·omega
     ·omega
    ·(refine awp_sr fun Y Yh => ?_; simp [go_sem, hik]; ((repeat' (first|(refine ag_false ?_ ?_ ?_;(focus (simp [go_sem, undef, hik];done));(focus (simp [go_sem];done));simp [go_sem, hik])|(refine ag_true ?_ ?_;(focus (simp [go_sem, undef, hik];done));simp [go_sem, hik])|(refine ag_x ?_;simp [go_sem, undef, hik])|intro _|apply And.intro|(apply Yh;clear Yh Y)));all_goals first|apply Hold.mk|omega|assumption|skip))
     refine awp_cond ?_
     simp [go_sem]
     refine awp_skip ?_
     refine hK9 _ ?_; clear hK9
     (refine awp_r fun Y Yh => ?_; simp [go_sem]; ((repeat' (first|(refine ag_x ?_;simp [go_sem])|intro _|apply And.intro|(apply Yh;clear Yh Y)));all_goals first|apply Hold.mk|omega|assumption|skip))
     refine ⟨k + 1, ?_, ?_, ?_⟩
     ·(refine cov_of ?_ ?_ <;> simp [go_sem])
     ·omega
     ·omega
   ·refine awp_exit ?_
    simp only [go_sem]
    refine hK6 _ ?_; clear hK6
    (refine awp_r fun Y Yh => ?_; simp [go_sem]; ((repeat' (first|(refine ag_x ?_;simp [go_sem])|intro _|apply And.intro|(apply Yh;clear Yh Y)));all_goals first|apply Hold.mk|omega|assumption|skip))
    refine ⟨i + 1, ?_, ?_, ?_⟩
    ·(refine cov_of ?_ ?_ <;> simp [go_sem])
    ·omega
    ·omega
  ·refine awp_exit ?_
   simp only [go_sem]
   refine hK3 _ ?_; clear hK3
   (refine awp_sr fun Y Yh => ?_; simp [go_sem]; ((repeat' (first|(refine ag_x ?_;simp [go_sem])|intro _|apply And.intro|(apply Yh;clear Yh Y)));all_goals first|apply Hold.mk|omega|assumption|skip))
   ((try refine CallT.toA ?_); refine callT_m (.inl ⟨rfl,rfl⟩) (by simp [go_sem]) ?_; intro args ha; simp [go_sem] at ha; subst ha; refine ⟨_, sane_spec, ?_⟩; rintro _ rfl; simp [go_sem]; ((repeat' (first|(refine ag_x ?_;simp [go_sem])|intro _|apply And.intro|(apply Yh;clear Yh Y)));all_goals first|apply Hold.mk|omega|assumption|skip))
   (refine awp_ret ?_; simp [go_sem, h5])
 (refine awp_sr fun Y Yh => ?_; simp [go_sem]; ((repeat' (first|(refine ag_false ?_ ?_ ?_;(focus (simp [go_sem, undef];done));(focus (simp [go_sem];done));simp [go_sem])|(refine ag_true ?_ ?_;(focus (simp [go_sem, undef];done));simp [go_sem])|(refine ag_x ?_;simp [go_sem, undef])|intro _|apply And.intro|(apply Yh;clear Yh Y)));all_goals first|apply Hold.mk|omega|assumption|skip))
 (try refine CallT.toA ?_)
 refine callT_m (by first | exact .inl ⟨rfl, rfl⟩ | exact .inr rfl) (by simp [go_sem]) ?_
 intro args ha
 simp [go_sem] at ha
 subst ha
 refine ⟨_, LG1, ?_⟩
 rintro _ ⟨b1, hb1, rfl⟩
 cases b1 with
 | true =>
  simp [go_sem]
  ((repeat' (first|(refine ag_false ?_ ?_ ?_;(focus (simp [go_sem, undef];done));(focus (simp [go_sem];done));simp [go_sem])|(refine ag_true ?_ ?_;(focus (simp [go_sem, undef];done));simp [go_sem])|(refine ag_x ?_;simp [go_sem, undef])|intro _|apply And.intro|(apply Yh;clear Yh Y)));all_goals first|apply Hold.mk|omega|assumption|skip)
  refine awp_cond ?_
  simp [go_sem]
  (refine awp_sr fun Y Yh => ?_; simp [go_sem]; ((repeat' (first|(refine ag_x ?_;simp [go_sem])|intro _|apply And.intro|(apply Yh;clear Yh Y)));all_goals first|apply Hold.mk|omega|assumption|skip))
  ((try refine CallT.toA ?_); refine callT_m (.inl ⟨rfl,rfl⟩) (by simp [go_sem]) ?_; intro args ha; simp [go_sem] at ha; subst ha; refine ⟨_, sane_spec, ?_⟩; rintro _ rfl; simp [go_sem]; ((repeat' (first|(refine ag_x ?_;simp [go_sem])|intro _|apply And.intro|(apply Yh;clear Yh Y)));all_goals first|apply Hold.mk|omega|assumption|skip))
  (refine awp_ret ?_; simp [go_sem])
 | false =>
  simp [go_sem]
  ((repeat' (first|(refine ag_false ?_ ?_ ?_;(focus (simp [go_sem, undef];done));(focus (simp [go_sem];done));simp [go_sem])|(refine ag_true ?_ ?_;(focus (simp [go_sem, undef];done));simp [go_sem])|(refine ag_x ?_;simp [go_sem, undef])|intro _|apply And.intro|(apply Yh;clear Yh Y)));all_goals first|apply Hold.mk|omega|assumption|skip)
  (try refine CallT.toA ?_)
  refine callT_m (by first | exact .inl ⟨rfl, rfl⟩ | exact .inr rfl) (by simp [go_sem]) ?_
  intro args ha
  simp [go_sem] at ha
  subst ha
  refine ⟨_, LG2, ?_⟩
  rintro _ ⟨b2, hb2, rfl⟩
  cases b2 with
  | true =>
   simp [go_sem]
   ((repeat' (first|(refine ag_false ?_ ?_ ?_;(focus (simp [go_sem, undef];done));(focus (simp [go_sem];done));simp [go_sem])|(refine ag_true ?_ ?_;(focus (simp [go_sem, undef];done));simp [go_sem])|(refine ag_x ?_;simp [go_sem, undef])|intro _|apply And.intro|(apply Yh;clear Yh Y)));all_goals first|apply Hold.mk|omega|assumption|skip)
   refine awp_cond ?_
   simp [go_sem]
   (refine awp_sr fun Y Yh => ?_; simp [go_sem]; ((repeat' (first|(refine ag_x ?_;simp [go_sem])|intro _|apply And.intro|(apply Yh;clear Yh Y)));all_goals first|apply Hold.mk|omega|assumption|skip))
   ((try refine CallT.toA ?_); refine callT_m (.inl ⟨rfl,rfl⟩) (by simp [go_sem]) ?_; intro args ha; simp [go_sem] at ha; subst ha; refine ⟨_, sane_spec, ?_⟩; rintro _ rfl; simp [go_sem]; ((repeat' (first|(refine ag_x ?_;simp [go_sem])|intro _|apply And.intro|(apply Yh;clear Yh Y)));all_goals first|apply Hold.mk|omega|assumption|skip))
   (refine awp_ret ?_; simp [go_sem])
  | false =>
   simp [go_sem]
   ((repeat' (first|(refine ag_false ?_ ?_ ?_;(focus (simp [go_sem, undef];done));(focus (simp [go_sem];done));simp [go_sem])|(refine ag_true ?_ ?_;(focus (simp [go_sem, undef];done));simp [go_sem])|(refine ag_x ?_;simp [go_sem, undef])|intro _|apply And.intro|(apply Yh;clear Yh Y)));all_goals first|apply Hold.mk|omega|assumption|skip)
   refine awp_cond ?_
   simp [go_sem]
   refine awp_skip ?_
   refine tl1 _ (hb1 rfl) (hb2 rfl) ?_
   (refine cov_of ?_ ?_ <;> simp [go_sem])
end Go.Proofs.YteekfnhhlcmcgaaGreatDoor
namespace Go.Proofs.YteekfnhhlcmcgaaGreatDoor
open Go.Eng Go.WideShapes Go.Wh Go.Ver Go.Lk
set_option maxRecDepth 100000
/-! the parameter of LockDiffs -/
abbrev ZI (l : List Int) : Prop := l.length ≤ 9223372036854775807 ∧ ∀ x ∈ l, InR x
theorem oz_two : OpensZ Tryz.prog 55 (fun x : Lck × Lck × List Int × List Int => cL x.1 ++ cL x.2.1 ++ [dIs x.2.2.1, dIs x.2.2.2]) (fun x => ZL x.1 ∧ ZL x.2.1 ∧ ZI x.2.2.1 ∧ ZI x.2.2.2) := by
 have h := opensZ_struct (e := 8) Tryz.underlying55 rfl (by kernel_rfl) (opensZS_cons (n := 3) rfl (by kernel_rfl) oz_lock (opensZS_cons (n := 3) rfl (by kernel_rfl) oz_lock (opensZS_cons (n := 1) rfl (by kernel_rfl) oz_ints (opensZS_cons (n := 1) rfl (by kernel_rfl) oz_ints opensZS_nil))))
 exact h.iso (fun x => (x.1, x.2.1, x.2.2.1, x.2.2.2.1)) (fun _ => rfl) (fun _ q => ⟨q.1, q.2.1, q.2.2.1, q.2.2.2.1⟩)
theorem ovz_two : OpensZV Tryz.prog 55 (fun x : Lck × Lck × List Int × List Int => .agg (cL x.1 ++ cL x.2.1 ++ [dIs x.2.2.1, dIs x.2.2.2])) (fun x => ZL x.1 ∧ ZL x.2.1 ∧ ZI x.2.2.1 ∧ ZI x.2.2.2) := opensZV_agg Tryz.underlying55 oz_two
end Go.Proofs.YteekfnhhlcmcgaaGreatDoor
