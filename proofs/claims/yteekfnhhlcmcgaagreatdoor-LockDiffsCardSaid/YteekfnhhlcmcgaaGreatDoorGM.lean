/- Part of a proof: see the last text. -/
import Derived.Test.YteekfnhhlcmcgaaGreatDoorG04
import Derived.Lib.OwnBridge
import Derived.Sort.OwnSorted
import Derived.Sort.Grow
import Derived.Test.YteekfnhhlcmcgaaGreatDoorG05
import Derived.Test.YteekfnhhlcmcgaaGreatDoorGD
import Derived.Lib.SlicesCompact
import Derived.Test.YteekfnhhlcmcgaaGreatDoorG06
import Derived.Test.YteekfnhhlcmcgaaGreatDoorGA
import Derived.Test.YteekfnhhlcmcgaaGreatDoorGJ
set_option linter.unusedVariables false
set_option linter.unusedSimpArgs false
set_option linter.unusedSectionVars false
namespace Go.Eng
variable {P : Program} [HasGlob P]
structure RowFrm (w w' : World) (v : Value) : Prop where
 os : w'.os = w.os
 tape : w'.tape = w.tape
 output : w'.output = w.output
 size : w.heap.size ≤ w'.heap.size
 rest : ∀ k, k < w.heap.size → v.ownBlock ≠ some k → w'.heap[k]? = w.heap[k]?
theorem blk_own' {w : World} {base : Nat} {e : TypeId} {size : Nat} {v : Value} {n : Nat} {xs : List Value} (h : w.ownsRow base e size v n xs) : blk v = v.ownBlock ∧ ∀ k, v.ownBlock = some k → k < w.heap.size :=
 blk_ownF (World.ownsRowF_of h)
theorem row_data {C : Ctx} {w : World} {s g T : Nat} {xs : List Value} (h : HRep C w s g (.row T 1 (xs.map fun x => [.v x]))) :
  ∃ u, C.val s g = some u ∧ C.live s g = true ∧ w.ownsRow 0 T 1 u xs.length xs := by
 obtain ⟨u, zs, h1, h2, h3, _, h5⟩ := h
 refine ⟨u, h1, h2, ?_⟩
 have hz : zs = xs := by
  have hl : zs.length = xs.length := by simpa using h3.1
  refine List.ext_getElem hl fun i i1 i2 => ?_
  have := (h5 i 0 [.v xs[i]] (.v xs[i]) zs[i] (by simp [i2]) rfl (by simp [i1])).1
  exact this.v_inv
 rw [← hz]
 have : (xs.map fun x => [D.v x]).length = zs.length := by simp [hz]
 rw [this] at h3
 exact h3
theorem data_row {C : Ctx} {w : World} {s g T : Nat} {xs : List Value} {u : Value} (h1 : C.val s g = some u) (h2 : C.live s g = true) (h3 : w.ownsRow 0 T 1 u xs.length xs) (ho : ∀ x ∈ xs, x.oneCell' = true) :
  HRep C w s g (.row T 1 (xs.map fun x => [.v x])) := by
 refine ⟨u, xs, h1, h2, by simpa using h3, by simp, fun i j e c x hi hj hx => ?_⟩
 simp only [List.getElem?_map, Option.map_eq_some_iff] at hi
 obtain ⟨y, hy, rfl⟩ := hi
 match j, hj with
 | 0, hj =>
  simp at hj
  subst hj
  simp only [Nat.mul_one, Nat.add_zero] at hx
  rw [hy] at hx
  simp only [Option.some.injEq] at hx
  subst hx
  exact ⟨.v y, ho y (List.mem_of_getElem? hy)⟩
 | j + 1, hj => simp at hj
theorem acall_row {f : FuncId} {T nr gr : Nat} {xs ys : List Value} (hf : FnOk P f) (h2 : 900000 ≤ nr) (ho : ∀ y ∈ ys, y.oneCell' = true)
  (h : ∀ (v : Value) (w : World), HasGlob.ok P w → w.ownsRow 0 T 1 v xs.length xs →
   Calls P f #[v] w fun en w' => en = .returned (.tuple #[]) ∧ w'.ownsRow 0 T 1 v ys.length ys ∧ RowFrm w w' v) :
  ACall P f [.own nr gr] [(nr, (gr, .row T 1 (xs.map fun x => [.v x])))] [nr] fun ps r' => ps = [(gr, .row T 1 (ys.map fun x => [.v x]))] ∧ r' = .v (.tuple #[]) := by
 refine ⟨hf, ?_, fun C w us hc hg hr he => ?_⟩
 ·intro p hp
  simp only [List.mem_cons, List.mem_nil_iff, or_false] at hp
  subst hp
  exact ⟨h2, rfl, by simp⟩
 ·obtain ⟨u, u1, u2, u3⟩ := row_data (he nr gr (.row T 1 (xs.map fun x => [.v x])) (by simp [look]))
  obtain ⟨k1, k2⟩ := blk_own' u3
  have hus : us = [u] := by
   refine List.ext_getElem (by simpa using hr.1) fun j h1 h2 => ?_
   have hj : j = 0 := by simp at h2; omega
   subst hj
   have := hr.2 0 (.own nr gr) us[0] rfl (List.getElem?_eq_getElem h1)
   cases this with
   | own _ _ _ hv _ =>
    rw [u1] at hv
    simp only [Option.some.injEq] at hv
    simp [hv]
  subst hus
  refine (h u w hg.1 u3).mono fun en w' ⟨he', s1, s2⟩ => ?_
  have hext : Ext C w C w' := by
   refine ⟨fun _ _ _ q => q, fun k hk q => q, fun k hk hno => ?_, s2.size⟩
   exact s2.rest k hk fun q => hno ⟨nr, gr, u, u1, u2, k1.trans q⟩
  refine ⟨_, .v (.tuple #[]), [(gr, .row T 1 (ys.map fun x => [.v x]))], C, he', ⟨rfl, rfl⟩, .v _, ⟨hc.apart, fun s g x b q1 q2 q3 => Nat.lt_of_lt_of_le (hc.bound s g x b q1 q2 q3) s2.size, hc.fresh⟩, hext, ⟨rfl, ?_⟩, ?_, ?_, fun _ _ _ _ _ => rfl, fun _ _ _ _ q => q, ⟨s2.os, s2.tape, s2.output, s2.size, ?_⟩⟩
  ·intro j s p hj hp
   match j, hj, hp with
   | 0, hj, hp =>
    simp only [List.getElem?_cons_zero, Option.some.injEq] at hj hp
    subst hj hp
    exact ⟨data_row u1 u2 s1 ho, rfl⟩
   | j + 1, hj, hp => simp at hj
  ·intro j s p x k hj hp hv hk
   match j, hj, hp with
   | 0, hj, hp =>
    simp only [List.getElem?_cons_zero, Option.some.injEq] at hj hp
    subst hj hp
    exact .inr ⟨⟨nr, gr, x, ⟨.row T 1 (xs.map fun x => [.v x]), by simp [look]⟩, hv, hk⟩, h2⟩
   | j + 1, hj, hp => simp at hj
  ·intro j s p y hj hp hy
   match j, hj, hp with
   | 0, hj, hp =>
    simp only [List.getElem?_cons_zero, Option.some.injEq] at hj hp
    subst hj hp
    exact ⟨.row T 1 (xs.map fun x => [.v x]), by simp [look]⟩
   | j + 1, hj, hp => simp at hj
  ·intro k hk hno
   exact s2.rest k hk fun q => hno ⟨nr, gr, u, ⟨.row T 1 (xs.map fun x => [.v x]), by simp [look]⟩, u1, k1.trans q⟩
theorem acall_cut {f : FuncId} {T nr gr : Nat} {xs ys : List Value} (hf : FnOk P f) (h2 : 900000 ≤ nr) (ho : ∀ y ∈ ys, y.oneCell' = true)
  (h : ∀ (v : Value) (w : World), HasGlob.ok P w → w.ownsRow 0 T 1 v xs.length xs →
   Calls P f #[v] w fun en w' => ∃ v', en = .returned v' ∧ v'.oneCell' = true ∧ v'.ownBlock = v.ownBlock ∧ w'.ownsRow 0 T 1 v' ys.length ys ∧ RowFrm w w' v) :
  ACall P f [.own nr gr] [(nr, (gr, .row T 1 (xs.map fun x => [.v x])))] [nr] fun ps r' => ∃ gr', ps = [(gr', .row T 1 (ys.map fun x => [.v x]))] ∧ r' = .own nr gr' := by
 refine ⟨hf, ?_, fun C w us hc hg hr he => ?_⟩
 ·intro p hp
  simp only [List.mem_cons, List.mem_nil_iff, or_false] at hp
  subst hp
  exact ⟨h2, rfl, by simp⟩
 ·obtain ⟨u, u1, u2, u3⟩ := row_data (he nr gr (.row T 1 (xs.map fun x => [.v x])) (by simp [look]))
  obtain ⟨k1, k2⟩ := blk_own' u3
  have hus : us = [u] := by
   refine List.ext_getElem (by simpa using hr.1) fun j h1 h2 => ?_
   have hj : j = 0 := by simp at h2; omega
   subst hj
   have := hr.2 0 (.own nr gr) us[0] rfl (List.getElem?_eq_getElem h1)
   cases this with
   | own _ _ _ hv _ =>
    rw [u1] at hv
    simp only [Option.some.injEq] at hv
    simp [hv]
  subst hus
  refine (h u w hg.1 u3).mono fun en w' ⟨v', he', ho', hb', s1, s2⟩ => ?_
  obtain ⟨N, hN⟩ := hc.fresh nr
  obtain ⟨m1, m2⟩ := blk_own' s1
  have hblk : blk v' = blk u := by rw [m1, k1, hb']
  let C' : Ctx := ⟨fun s g => if s = nr ∧ g = N then some v' else C.val s g, fun s g => if s = nr ∧ g = N then true else if s = nr ∧ g = gr then false else C.live s g⟩
  have hgN : gr ≠ N := fun q => by subst q; rw [hN _ (Nat.le_refl _)] at u1; cases u1
  have hval : ∀ s g y, C.val s g = some y → C'.val s g = some y := fun s g y hy => by
   show (if s = nr ∧ g = N then some v' else C.val s g) = some y
   rw [if_neg]
   ·exact hy
   ·rintro ⟨rfl, rfl⟩
    rw [hN _ (Nat.le_refl _)] at hy
    cases hy
  have cases' : ∀ s g x, C'.val s g = some x → C'.live s g = true → (s = nr ∧ g = N ∧ x = v') ∨ (¬ (s = nr ∧ g = gr) ∧ C.val s g = some x ∧ C.live s g = true) := fun s g x q1 q2 => by
   change (if s = nr ∧ g = N then some v' else C.val s g) = some x at q1
   change (if s = nr ∧ g = N then true else if s = nr ∧ g = gr then false else C.live s g) = true at q2
   by_cases q : s = nr ∧ g = N
   ·rw [if_pos q] at q1
    exact .inl ⟨q.1, q.2, by simpa using q1.symm⟩
   ·rw [if_neg q] at q1 q2
    by_cases q' : s = nr ∧ g = gr
    ·rw [if_pos q'] at q2; cases q2
    ·rw [if_neg q'] at q2
     exact .inr ⟨q', q1, q2⟩
  have hvN : C'.val nr N = some v' := by show (if nr = nr ∧ N = N then some v' else C.val nr N) = some v'; simp
  have hlN : C'.live nr N = true := by show (if nr = nr ∧ N = N then true else _) = true; simp
  have hlo : ∀ s g, ¬ (s = nr ∧ g = N) → ¬ (s = nr ∧ g = gr) → C'.live s g = C.live s g := fun s g q1 q2 => by
   show (if s = nr ∧ g = N then true else if s = nr ∧ g = gr then false else C.live s g) = C.live s g
   rw [if_neg q1, if_neg q2]
  have hext : Ext C w C' w' := by
   refine ⟨hval, fun k hk ⟨s, g, x, q1, q2, q3⟩ => ?_, fun k hk hno => ?_, s2.size⟩
   ·rcases cases' s g x q1 q2 with ⟨_, _, e3⟩ | ⟨_, q4, q5⟩
    ·rw [e3, hblk] at q3
     exact ⟨nr, gr, u, u1, u2, q3⟩
    ·exact ⟨s, g, x, q4, q5, q3⟩
   ·exact s2.rest k hk fun q => hno ⟨nr, gr, u, u1, u2, k1.trans q⟩
  refine ⟨v', .own nr N, [(N, .row T 1 (ys.map fun x => [.v x]))], C', he', ⟨N, rfl, rfl⟩, .own nr N v' hvN ho', ⟨?_, ?_, ?_⟩, hext, ⟨rfl, ?_⟩, ?_, ?_, ?_, ?_, ⟨s2.os, s2.tape, s2.output, s2.size, ?_⟩⟩
  ·intro s g x s' g' x' k q1 q2 q3 q4 q5 q6
   rcases cases' s g x q1 q2 with ⟨rfl, rfl, rfl⟩ | ⟨p1, p2, p3⟩ <;> rcases cases' s' g' x' q3 q4 with ⟨rfl, rfl, rfl⟩ | ⟨t1, t2, t3⟩
   ·exact ⟨rfl, rfl⟩
   ·rw [hblk] at q5
    exact absurd (hc.apart s' g' x' s gr u k t2 t3 u1 u2 q6 q5) t1
   ·rw [hblk] at q6
    exact absurd (hc.apart s g x s' gr u k p2 p3 u1 u2 q5 q6) p1
   ·exact hc.apart s g x s' g' x' k p2 p3 t2 t3 q5 q6
  ·intro s g x k q1 q2 q3
   rcases cases' s g x q1 q2 with ⟨rfl, rfl, rfl⟩ | ⟨p1, p2, p3⟩
   ·exact m2 k (m1 ▸ q3)
   ·exact Nat.lt_of_lt_of_le (hc.bound s g x k p2 p3 q3) s2.size
  ·intro s
   obtain ⟨M, hM⟩ := hc.fresh s
   refine ⟨max M (N + 1), fun g hg' => ?_⟩
   show (if s = nr ∧ g = N then some v' else C.val s g) = none
   rw [if_neg (by omega)]
   exact hM g (by omega)
  ·intro j s p hj hp
   match j, hj, hp with
   | 0, hj, hp =>
    simp only [List.getElem?_cons_zero, Option.some.injEq] at hj hp
    subst hj hp
    exact ⟨data_row hvN hlN s1 ho, rfl⟩
   | j + 1, hj, hp => simp at hj
  ·intro j s p x k hj hp hv hk
   match j, hj, hp with
   | 0, hj, hp =>
    simp only [List.getElem?_cons_zero, Option.some.injEq] at hj hp
    subst hj hp
    have : x = v' := by rw [hvN] at hv; exact (Option.some.inj hv).symm
    subst this
    exact .inr ⟨⟨nr, gr, u, ⟨.row T 1 (xs.map fun x => [.v x]), by simp [look]⟩, u1, hblk ▸ hk⟩, h2⟩
   | j + 1, hj, hp => simp at hj
  ·intro j s p y hj hp hy
   match j, hj, hp with
   | 0, hj, hp =>
    simp only [List.getElem?_cons_zero, Option.some.injEq] at hj hp
    subst hj hp
    rw [hN _ (Nat.le_refl _)] at hy
    cases hy
   | j + 1, hj, hp => simp at hj
  ·intro s g y hy hnl
   refine hlo s g (fun q => ?_) (fun q => ?_)
   ·rw [q.1, q.2, hN _ (Nat.le_refl _)] at hy; cases hy
   ·rw [q.1, q.2] at hnl
    exact hnl ⟨.row T 1 (xs.map fun x => [.v x]), by simp [look]⟩
  ·intro s g y hy hl
   by_cases q : s = nr ∧ g = N
   ·rw [q.1, q.2, hN _ (Nat.le_refl _)] at hy; cases hy
   ·by_cases q' : s = nr ∧ g = gr
    ·rw [q'.1, q'.2]; exact u2
    ·rw [← hlo s g q q']; exact hl
  ·intro k hk hno
   exact s2.rest k hk fun q => hno ⟨nr, gr, u, ⟨.row T 1 (xs.map fun x => [.v x]), by simp [look]⟩, u1, k1.trans q⟩
variable {P : Program} [HasGlob P] {n : Nat} {S : St} {Q : Exit → St → Prop}
theorem awp_renmap {c : Code} (t s' : Nat) {s g : Nat} {es : List (Value × D)} (hl : look S.slots t = some (.own s g)) (hx : look S.heap s = some (g, .map es)) (h9 : 900000 ≤ s → 900000 ≤ s')
  (h : ∀ g', AWp P n c (((S.drop s).hput s' g' (.map es)).put t (.own s' g')) Q) : AWp P n c S Q := by
 intro w0 B C0 C a w E I
 obtain ⟨g', C', u, I', hu, hv, ext⟩ := I.rename hx rfl s' h9
 obtain ⟨x, hx1, hr⟩ := I.slots t _ hl
 refine h g' E (Inv.reslot I' (d := .own s g) hl fun v hv' => ?_)
 cases hv' with
 | own _ _ _ h1 h2 =>
  have := ext.val _ _ _ hu
  rw [h1] at this
  simp only [Option.some.injEq] at this
  subst this
  exact .own _ _ _ hv h2
end Go.Eng
namespace Go.Proofs.YteekfnhhlcmcgaaGreatDoor
open Go.Eng Go.Wh Go.Ver
set_option maxRecDepth 20000
attribute [local irreducible] AG CallA CallT AWp PCall ACall AgC
def srtS (l : List (List UInt8)) : List (List UInt8) := l.mergeSort fun x y => decide (x ≤ y)
@[go_sem] abbrev rS (l : List (List UInt8)) : Blk := .row 9 1 (l.map cS)
theorem encS (s : List UInt8) : encStr s = Value.string ⟨s.toArray⟩ := rfl
theorem enc_one (l : List (List UInt8)) : ∀ y ∈ l.map encStr, y.oneCell' = true := by
 intro y hy
 simp only [List.mem_map] at hy
 obtain ⟨s, _, rfl⟩ := hy
 rfl
open Go.Sort Go.RowKit in
theorem sort_spec (nr gr : Nat) (l : List (List UInt8)) (hn : 900000 ≤ nr) (hl : l.length < 4611686018427387904) :
  ACall Tryz.prog 61 [.own nr gr] [(nr, (gr, rS l))] [nr] fun ps r' => ps = [(gr, rS (srtS l))] ∧ r' = .v (.tuple #[]) := by
 rw [show rS l = .row 9 1 ((l.map encStr).map fun x => [D.v x]) from by simp [encS], show rS (srtS l) = .row 9 1 (((srtS l).map encStr).map fun x => [D.v x]) from by simp [encS]]
 have hq : (srtS l).length = l.length := List.length_mergeSort l
 refine acall_row ⟨_, Tryz.func61, by decide +kernel, rfl⟩ hn (enc_one _) fun v w hk ho => ?_
 simp only [List.length_map] at ho ⊢
 by_cases hv : v = .slice none 0 0
 ·subst hv
  have h0 : l = [] := by
   rcases ho.2 with ⟨_, h⟩ | ⟨g, cap, cur, h, _⟩
   ·simpa using h
   ·cases h
  subst h0
  refine (Tryz.slices_Sort_string_none none 0 w).mono fun e w' ⟨h1, h2⟩ => ?_
  subst h2
  exact ⟨h1, by simpa [srtS] using ho, rfl, rfl, rfl, Nat.le_refl _, fun _ _ _ => rfl⟩
 ·obtain ⟨g, cap, rfl, _, hg, hc, hm, _, hH⟩ := Lib.holds_of_ownsRow ho hv
  refine (Tryz.slices_Sort_string g 0 cap l w hH hg hl).mono fun e w' ⟨h1, n, os, h2⟩ => ?_
  subst h2
  refine ⟨h1, ?_, ?_⟩
  ·rcases ho.2 with ⟨h, _⟩ | ⟨g', cap', cur, h, hb, hgg, i1, i2, i3, i4⟩
   ·cases h
   ·cases h
    have := ownsRow_sorted (n := n) (os := os) (ts := srtS l) hq hb hgg i1 i2 i3
    rw [hq]
    exact this
  ·have hgr := grownBy_sorted (w := w) (g := g) (n := n) (os := os) (srtS l).toArray
   obtain ⟨g1, g2, g3, g4, g5⟩ := hgr
   exact ⟨g1, g2, g3, g4, fun k hk hne => g5 k hk (fun q => hne q.symm)⟩
open Go.Sort Go.RowKit in
theorem compact_spec (nr gr : Nat) (l : List (List UInt8)) (hn : 900000 ≤ nr) :
  ACall Tryz.prog 62 [.own nr gr] [(nr, (gr, rS l))] [nr] fun ps r' => ∃ gr', ps = [(gr', rS (Lib.compact l))] ∧ r' = .own nr gr' := by
 rw [show rS l = .row 9 1 ((l.map encStr).map fun x => [D.v x]) from by simp [encS], show rS (Lib.compact l) = .row 9 1 (((Lib.compact l).map encStr).map fun x => [D.v x]) from by simp [encS]]
 refine acall_cut ⟨_, Tryz.func62, by decide +kernel, rfl⟩ hn (enc_one _) fun v w hk ho => ?_
 simp only [List.length_map] at ho ⊢
 by_cases hv : v = .slice none 0 0
 ·subst hv
  have h0 : l = [] := by
   rcases ho.2 with ⟨_, h⟩ | ⟨g, cap, cur, h, _⟩
   ·simpa using h
   ·cases h
  subst h0
  refine (Tryz.slices_Compact_string_empty none 0 w).mono fun e w' ⟨h1, h2⟩ => ?_
  subst h2
  exact ⟨_, h1, rfl, rfl, by simpa [show Lib.compact [] = [] from rfl] using ho, rfl, rfl, rfl, Nat.le_refl _, fun _ _ _ => rfl⟩
 ·obtain ⟨g, cap, rfl, hb, hg, hc, hm, _, hH⟩ := Lib.holds_of_ownsRow ho hv
  have hle := Lib.compact_length_le l
  refine (Tryz.slices_Compact_string g 0 cap l w hH (by have : maxLen ≤ 9223372036854775807 := (by decide); omega) hc).mono fun e w' ⟨h1, q, h2⟩ => ?_
  subst h2
  refine ⟨_, h1, rfl, rfl, ?_, ?_⟩
  ·have := Lib.ownsRow_putRow (q := q) (k := (Lib.compact l).length) (ys := Lib.compact l ++ List.replicate (l.length - (Lib.compact l).length) []) ho (by simp; omega) hle
   rw [List.take_left] at this
   exact this
  ·have hbw := Lib.below_putRow (enc := encStr) (q := q) (d := (Lib.compact l ++ List.replicate (l.length - (Lib.compact l).length) []).toArray) (Below.refl w.heap.size w) (Nat.le_refl _) (g := w.heap.size)
   refine ⟨rfl, rfl, rfl, by simp [putRow, mapBlock, Sort.ahead], fun k hk hne => ?_⟩
   have : g ≠ k := fun q => hne (by simp [Value.ownBlock, q])
   simp [putRow, mapBlock, Sort.ahead, Array.getElem?_modify, this]
end Go.Proofs.YteekfnhhlcmcgaaGreatDoor
namespace Go.Lk
/-! a map of strings -/
def slook : List (Bs × Bs) → Bs → Option Bs
 | [], _ => none
 | (k, v) :: m, r => if r = k then some v else slook m r
def sput (d v : Bs) : List (Bs × Bs) → List (Bs × Bs)
 | [] => [(d, v)]
 | (k, w) :: m => if d = k then (d, v) :: m else (k, w) :: sput d v m
theorem slook_put (d v : Bs) : ∀ (m : List (Bs × Bs)) (r : Bs), slook (sput d v m) r = if r = d then some v else slook m r
 | [], r => rfl
 | (k, w) :: m, r => by
  have ih := slook_put d v m r
  simp only [sput]
  by_cases h : d = k
  ·subst h
   simp only [if_true, slook]
   split <;> rfl
  ·simp only [if_neg h, slook, ih]
   by_cases h1 : r = k
   ·subst h1
    rw [if_pos rfl, if_neg fun q => h q.symm, if_pos rfl]
   ·simp only [if_neg h1]
def numTo (ps : List Prs) : Nat → List (Bs × Bs)
 | 0 => []
 | n + 1 => match ps[n]? with
  | some p => sput p.1 p.2 (numTo ps n)
  | none => numTo ps n
theorem numTo_snoc {ps : List Prs} {n : Nat} {p : Prs} (h : ps[n]? = some p) : numTo ps (n + 1) = sput p.1 p.2 (numTo ps n) := by simp only [numTo, h]
theorem slook_numTo (ps : List Prs) (hd : ∀ (i j : Nat) (a b : Prs), ps[i]? = some a → ps[j]? = some b → a.1 = b.1 → i = j) (r : Bs) : ∀ n, n ≤ ps.length →
  (∀ v, slook (numTo ps n) r = some v ↔ ∃ i, i < n ∧ ps[i]? = some (r, v))
 | 0, _, v => by simp [numTo, slook]
 | n + 1, hn, v => by
  have ih := slook_numTo ps hd r n (by omega)
  obtain ⟨p, hp⟩ : ∃ p, ps[n]? = some p := ⟨_, List.getElem?_eq_getElem (by omega)⟩
  rw [numTo_snoc hp, slook_put]
  constructor
  ·intro h
   split at h
   ·rename_i e
    simp only [Option.some.injEq] at h
    exact ⟨n, by omega, by rw [hp, e, ← h]⟩
   ·obtain ⟨i, h1, h2⟩ := (ih v).1 h
    exact ⟨i, by omega, h2⟩
  ·rintro ⟨i, h1, h2⟩
   split
   ·rename_i e
    have := hd i n _ _ h2 hp e
    subst this
    rw [hp] at h2
    simp only [Option.some.injEq] at h2
    rw [h2]
   ·rename_i e
    refine (ih v).2 ⟨i, ?_, h2⟩
    rcases Nat.lt_or_ge i n with h | h
    ·exact h
    ·have : i = n := by omega
     subst this
     rw [hp] at h2
     simp only [Option.some.injEq] at h2
     exact absurd (by rw [h2]) e
def dLine (h a : Option Bs) (n : Bs) : List Bs := match h with
 | none => [[43, 32] ++ n ++ [32] ++ a.getD []]
 | some o => match a with
  | none => [[45, 32] ++ n ++ [32] ++ o]
  | some w => if o = w then [] else [[126, 32] ++ n ++ [32] ++ o ++ [32, 45, 62, 32] ++ w]
def dTo (hm am : List (Bs × Bs)) (ns : List Bs) : Nat → List Bs
 | 0 => []
 | n + 1 => match ns[n]? with
  | some x => dTo hm am ns n ++ dLine (slook hm x) (slook am x) x
  | none => dTo hm am ns n
theorem dTo_snoc {hm am : List (Bs × Bs)} {ns : List Bs} {n : Nat} {x : Bs} (h : ns[n]? = some x) : dTo hm am ns (n + 1) = dTo hm am ns n ++ dLine (slook hm x) (slook am x) x := by simp only [dTo, h]
theorem dLine_len (h a : Option Bs) (n : Bs) : (dLine h a n).length ≤ 1 := by
 unfold dLine
 split
 ·simp
 ·split
  ·simp
  ·split <;> simp
theorem dTo_len (hm am : List (Bs × Bs)) (ns : List Bs) : ∀ n, (dTo hm am ns n).length ≤ n
 | 0 => by simp [dTo]
 | n + 1 => by
  have ih := dTo_len hm am ns n
  simp only [dTo]
  split
  ·rename_i x _
   have := dLine_len (slook hm x) (slook am x) x
   simp; omega
  ·omega
theorem slook_put_mem {d v : Bs} {m : List (Bs × Bs)} {r w : Bs} (h : slook (sput d v m) r = some w) : (r = d ∧ w = v) ∨ slook m r = some w := by
 rw [slook_put] at h
 split at h
 ·rename_i e
  simp only [Option.some.injEq] at h
  exact .inl ⟨e, h.symm⟩
 ·exact .inr h
theorem slook_mem {ps : List Prs} {r w : Bs} : ∀ {n : Nat}, slook (numTo ps n) r = some w → (r, w) ∈ ps
 | 0, h => by simp [numTo, slook] at h
 | n + 1, h => by
  simp only [numTo] at h
  split at h
  ·rename_i p hp
   rcases slook_put_mem h with ⟨rfl, rfl⟩ | h
   ·exact List.mem_of_getElem? hp
   ·exact slook_mem h
  ·exact slook_mem h
theorem mem_compact' {α : Type} [Inhabited α] [DecidableEq α] {zs : List α} {x : α} (h : x ∈ Go.Lib.compact zs) : x ∈ zs := by
 unfold Go.Lib.compact Go.Lib.compactUpTo at h
 obtain ⟨i, hi, rfl⟩ := List.mem_map.1 h
 have hi' : i < zs.length := List.mem_range.1 (List.mem_filter.1 hi).1
 simp [getElem!_pos, hi']
end Go.Lk
namespace Go.Proofs.YteekfnhhlcmcgaaGreatDoor
open Go.Eng Go.Wh Go.Ver Go.RowKit Go.Lk
set_option maxRecDepth 20000
attribute [local irreducible] AG CallA CallT AWp PCall ACall AgC
def mS (m : List (Bs × Bs)) : List (Value × D) := m.map fun p => (.string ⟨p.1.toArray⟩, dS p.2)
theorem beq_bs (a b : Bs) : ((⟨a.toArray⟩ : ByteArray).data.toList == (⟨b.toArray⟩ : ByteArray).data.toList) = decide (a = b) := by
 by_cases h : a = b
 ·subst h; simp
 ·simp [h]
@[go_sem] theorem mfind_mS (r : Bs) : ∀ m : List (Bs × Bs), mfind 1 (.string ⟨r.toArray⟩) (mS m) = some ((slook m r).map dS)
 | [] => rfl
 | (k, v) :: m => by
  have ih := mfind_mS r m
  unfold mS at ih ⊢
  simp only [List.map_cons, mfind, keyEq, beq_bs, slook]
  by_cases h : r = k
  ·simp [h]
  ·have hb : (r == k) = false := by simp [h]
   simp [h, ih, hb]
@[go_sem] theorem mput_mS (d v : Bs) : ∀ m : List (Bs × Bs), mput 1 (.string ⟨d.toArray⟩) (.v (.string ⟨v.toArray⟩)) (mS m) = mS (sput d v m)
 | [] => rfl
 | (k, w) :: m => by
  have ih := mput_mS d v m
  unfold mS at ih ⊢
  simp only [List.map_cons, mput, keyEq, beq_bs, sput]
  by_cases h : d = k
  ·simp [h]
  ·have hb : (d == k) = false := by simp [h]
   simp [h, ih, hb]
def gemsTo (l : List Bs) (ps : List Prs) (n : Nat) : List Bs := l ++ (ps.take n).map (·.1)
theorem gemsTo_snoc {l : List Bs} {ps : List Prs} {n : Nat} {p : Prs} (h : ps[n]? = some p) : gemsTo l ps (n + 1) = gemsTo l ps n ++ [p.1] := by
 simp [gemsTo, List.take_add_one, h]
theorem gemsTo_len (l : List Bs) (ps : List Prs) (n : Nat) : (gemsTo l ps n).length ≤ l.length + ps.length := by
 simp [gemsTo]; omega
theorem gemsTo_all (l : List Bs) (ps : List Prs) : gemsTo l ps ps.length = l ++ ps.map (·.1) := by simp [gemsTo]
theorem gemsTo_nil (l : List Bs) (ps : List Prs) : gemsTo l ps 0 = l := by simp [gemsTo]
set_option maxHeartbeats 8000000 in
theorem numbers_spec (nm gb gr : Nat) (L : Lck) (l : List Bs) (h9 : 900002 < nm) (h9' : 900003 < nm) (hl : l.length + L.1.length ≤ 1000000) :
  ACall Tryz.prog 60 [dLk L, .ptr 900002 gb 0] [(900002, (gb, .box [.own 900003 gr])), (900003, (gr, rS l))] [900002, 900003, nm] fun ps r =>
   ∃ gr' gm, ps = [(gb, .box [.own 900003 gr']), (gr', rS (gemsTo l L.1 L.1.length)), (gm, .map (mS (numTo L.1 L.1.length)))] ∧ r = .own nm gm := by 
 refine acall_of Tryz.func60 rfl rfl Tryz.ntmps60 (rs := [.tmp 3]) (tys := [132]) rfl rfl (by simp) ?_ ?_
 ·intro p hp
  simp only [List.mem_cons, List.mem_nil_iff, or_false] at hp
  rcases hp with rfl | rfl <;> exact ⟨by simp, rfl, by simp⟩
 (refine awp_sr fun Y Yh => ?_; simp [go_sem]; ((repeat' (first|(refine ag_x ?_;simp [go_sem])|intro _|apply And.intro|(apply Yh;clear Yh Y)));all_goals first|apply Hold.mk|omega|assumption|skip))
 rename_i g2
 refine awp_frzbox 2 rfl rfl ?_
 simp only [go_sem]
 (refine awp_sr fun Y Yh => ?_; simp [go_sem]; ((repeat' (first|(refine ag_x ?_;simp [go_sem])|intro _|apply And.intro|(apply Yh;clear Yh Y)));all_goals first|apply Hold.mk|omega|assumption|skip))
 rename_i gm
 refine awp_seq_k fun K1 hK1 => ?_
 (refine awp_sr fun Y Yh => ?_; simp [go_sem]; ((repeat' (first|(refine ag_x ?_;simp [go_sem])|intro _|apply And.intro|(apply Yh;clear Yh Y)));all_goals first|apply Hold.mk|omega|assumption|skip))
 refine awp_block ?_
 refine awp_loop (σ := Nat × Nat) (fun x => ⟨[(1, .ptr 900002 gb 0), (4, .own 7 gm), (9, dPs L.1), (10, dI L.1.length), (11, dI x.1)],
  [(900002, (gb, .box [.own 900003 x.2])), (900003, (x.2, rS (gemsTo l L.1 x.1))), (7, (gm, .map (mS (numTo L.1 x.1))))]⟩) (fun x => x.1 ≤ L.1.length) (fun x => L.1.length - x.1) (0, gr) ?_ ?_ ?_
 ·(refine cov_of ?_ ?_ <;> simp [go_sem, mS, numTo, gemsTo_nil])
 ·simp
 rintro ⟨k, gq⟩ hk
 simp only at hk
 (refine awp_sr fun Y Yh => ?_; simp [go_sem]; ((repeat' (first|(refine ag_x ?_;simp [go_sem])|intro _|apply And.intro|(apply Yh;clear Yh Y)));all_goals first|apply Hold.mk|omega|assumption|skip))
 refine awp_seq_k fun K2 hK2 => ?_
 (refine awp_if fun T F hT hF => ?_; simp [go_sem]; refine BR.intro (fun h3 => hT ?_) (fun h3 => hF ?_); all_goals clear hT hF T F; try simp at h3) 
 ·refine awp_skip ?_
  refine hK2 _ ?_; clear hK2
  obtain ⟨p, hp⟩ : ∃ p, L.1[k]? = some p := ⟨_, List.getElem?_eq_getElem (by omega)⟩
  have hgl := gemsTo_len l L.1 k
  refine awp_seq_k fun K4 hK4 => ?_
  refine awp_block ?_
  (refine awp_sr fun Y Yh => ?_; simp [go_sem, hp]; ((repeat' (first|(refine ag_x ?_;simp [go_sem, hp])|intro _|apply And.intro|(apply Yh;clear Yh Y)));all_goals first|apply Hold.mk|omega|assumption|skip))
  rename_i g6
  (refine awp_sr fun Y Yh => ?_; simp [go_sem]; ((repeat' (first|(refine ag_x ?_;simp [go_sem])|intro _|apply And.intro|(apply Yh;clear Yh Y)));all_goals first|apply Hold.mk|omega|assumption|skip))
  (refine awp_r fun Y Yh => ?_; simp [go_sem]; ((repeat' (first|(refine ag_x ?_;simp [go_sem])|intro _|apply And.intro|(apply Yh;clear Yh Y)));all_goals first|apply Hold.mk|omega|assumption|skip))
  rename_i gq'
  refine hK4 _ ?_; clear hK4
  (refine awp_r fun Y Yh => ?_; simp [go_sem]; ((repeat' (first|(refine ag_x ?_;simp [go_sem])|intro _|apply And.intro|(apply Yh;clear Yh Y)));all_goals first|apply Hold.mk|omega|assumption|skip))
  refine ⟨(k + 1, gq'), ?_, ?_, ?_⟩
  ·rw [gemsTo_snoc hp, numTo_snoc hp]
   (refine cov_of ?_ ?_ <;> simp [go_sem])
  ·simp only; omega
  ·simp only; omega
 ·refine awp_exit ?_
  simp only [go_sem]
  refine hK1 _ ?_; clear hK1
  have hkl : k = L.1.length := by omega
  subst hkl
  (refine awp_sr fun Y Yh => ?_; simp [go_sem]; ((repeat' (first|(refine ag_x ?_;simp [go_sem])|intro _|apply And.intro|(apply Yh;clear Yh Y)));all_goals first|apply Hold.mk|omega|assumption|skip))
  refine awp_renmap 3 nm rfl rfl (fun _ => by omega) fun gm' => ?_
  simp only [go_sem]
  (refine awp_ret ?_; simp [go_sem, h3])
  rw [if_neg (by omega), if_neg (by omega)]
  exact ⟨rfl, rfl, gq, ⟨rfl, rfl⟩, rfl, rfl⟩
def nmsV (L M : Lck) : List Bs := Lib.compact (srtS (gemsTo (gemsTo [] L.1 L.1.length) M.1 M.1.length))
def diffV (L M : Lck) : List Bs := dTo (numTo L.1 L.1.length) (numTo M.1 M.1.length) (nmsV L M) (nmsV L M).length
theorem gems_len {L M : Lck} (h1 : L.1.length ≤ 60) (h2 : M.1.length ≤ 60) : (gemsTo (gemsTo [] L.1 L.1.length) M.1 M.1.length).length ≤ 120 := by
 have := gemsTo_len (gemsTo [] L.1 L.1.length) M.1 M.1.length
 have := gemsTo_len [] L.1 L.1.length
 simp only [List.length_nil] at this
 omega
theorem nms_len {L M : Lck} (h1 : L.1.length ≤ 60) (h2 : M.1.length ≤ 60) : (nmsV L M).length ≤ 120 := by
 have := gems_len h1 h2
 have h3 := Lib.compact_length_le (srtS (gemsTo (gemsTo [] L.1 L.1.length) M.1 M.1.length))
 rw [show (srtS (gemsTo (gemsTo [] L.1 L.1.length) M.1 M.1.length)).length = _ from List.length_mergeSort _] at h3
 unfold nmsV
 omega
theorem nms_mem {L M : Lck} {x : Bs} (h : x ∈ nmsV L M) : ∃ p : Prs, (p ∈ L.1 ∨ p ∈ M.1) ∧ p.1 = x := by
 have h1 : x ∈ srtS _ := mem_compact' h
 have h2 : x ∈ gemsTo (gemsTo [] L.1 L.1.length) M.1 M.1.length := (List.mergeSort_perm _ _).subset h1
 rw [gemsTo_all, gemsTo_all] at h2
 simp only [List.nil_append, List.mem_append, List.mem_map] at h2
 rcases h2 with ⟨p, h, e⟩ | ⟨p, h, e⟩
 ·exact ⟨p, .inl h, e⟩
 ·exact ⟨p, .inr h, e⟩
theorem nms_ok {L M : Lck} (hL : LkOk L) (hM : LkOk M) {x : Bs} (h : x ∈ nmsV L M) : x.length ≤ 1000000 := by
 obtain ⟨p, hp, rfl⟩ := nms_mem h
 clear h
 rcases hp with h | h
 ·exact (hL.2.2.2.1 p h).1
 ·exact (hM.2.2.2.1 p h).1
theorem num_ok {L : Lck} (hL : LkOk L) {n : Nat} {x w : Bs} (h : slook (numTo L.1 n) x = some w) : w.length ≤ 1000000 := (hL.2.2.2.1 _ (slook_mem h)).2
set_option maxHeartbeats 8000000 in
theorem lDiff_spec (L M : Lck) (hL : LkOk L) (hM : LkOk M) : PCall Tryz.prog 23 [dLk L, dLk M] fun r => r = .tup [dSs (if lockV L && lockV M then diffV L M else []), dI (if lockV L && lockV M then 0 else 1)] := by 
 refine pcall_of Tryz.func23 rfl rfl Tryz.ntmps23 (rs := [.tmp 4, .tmp 5]) (tys := [64, 35]) rfl rfl (by simp) ?_
 have C1 := lCheck_spec L hL
 have C2 := lCheck_spec M hM
 (refine awp_sr fun Y Yh => ?_; simp [go_sem]; ((repeat' (first|(refine ag_x ?_;simp [go_sem])|intro _|apply And.intro|(apply Yh;clear Yh Y)));all_goals first|apply Hold.mk|omega|assumption|skip))
 refine awp_frzbox 2 rfl rfl ?_
 refine awp_frzbox 3 rfl rfl ?_
 simp only [go_sem]
 refine awp_seq_k fun K1 hK1 => ?_
 by_cases hv : lockV L && lockV M
 ·rw [if_pos hv, if_pos hv]
  simp only [Bool.and_eq_true] at hv
  rw [if_pos hv.1] at C1
  rw [if_pos hv.2] at C2
  have hp1 : L.1.length ≤ 60 := by have := hv.1; simp only [lockV, Bool.and_eq_true, decide_eq_true_eq] at this; exact this.1.1.1
  have hp2 : M.1.length ≤ 60 := by have := hv.2; simp only [lockV, Bool.and_eq_true, decide_eq_true_eq] at this; exact this.1.1.1
  (refine awp_sr fun Y Yh => ?_; simp [go_sem]; ((repeat' (first|(refine ag_x ?_;simp [go_sem])|intro _|apply And.intro|(apply Yh;clear Yh Y)));all_goals first|apply Hold.mk|omega|assumption|skip))
  ((try refine CallT.toA ?_); refine callT_m (.inl ⟨rfl,rfl⟩) (by simp [go_sem]) ?_; intro args ha; simp [go_sem] at ha; subst ha; refine ⟨_, C1, ?_⟩; rintro _ rfl; simp [go_sem]; ((repeat' (first|(refine ag_x ?_;simp [go_sem])|intro _|apply And.intro|(apply Yh;clear Yh Y)));all_goals first|apply Hold.mk|omega|assumption|skip))
  (refine agc_f (dI 0) (.inl ⟨rfl,rfl⟩) ?_ rfl ?_; (intro hc args ha; simp [go_sem] at ha; subst ha; exact C2); simp [go_sem]; ((repeat' (first|(refine ag_x ?_;simp [go_sem])|intro _|apply And.intro|(apply Yh;clear Yh Y)));all_goals first|apply Hold.mk|omega|assumption|skip))
  refine awp_cond ?_
  simp [go_sem]
  refine awp_skip ?_
  refine hK1 _ ?_; clear hK1
  (refine awp_sr fun Y Yh => ?_; simp [go_sem]; ((repeat' (first|(refine ag_x ?_;simp [go_sem])|intro _|apply And.intro|(apply Yh;clear Yh Y)));all_goals first|apply Hold.mk|omega|assumption|skip))
  refine awp_renbox 6 900002 rfl rfl (by decide) fun gb0 => ?_
  simp only [go_sem]
  refine awp_nilbox 900003 9 1 0 (sb := 900002) rfl rfl (by decide) fun gr0 => ?_
  simp only [List.set, go_sem]
  (refine awp_sr fun Y Yh => ?_; simp [go_sem]; ((repeat' (first|(refine ag_x ?_;simp [go_sem])|intro _|apply And.intro|(apply Yh;clear Yh Y)));all_goals first|apply Hold.mk|omega|assumption|skip))
  refine awp_seq_k fun K5 hK5 => ?_
  have tl5 : ∀ S' gr1 gm1 gm2, Cov S' ⟨[(6, .ptr 900002 gb0 0), (8, .own 900004 gm1), (9, .own 900005 gm2)],
    [(900002, (gb0, .box [.own 900003 gr1])), (900003, (gr1, rS (gemsTo (gemsTo [] L.1 L.1.length) M.1 M.1.length))), (900004, (gm1, .map (mS (numTo L.1 L.1.length)))), (900005, (gm2, .map (mS (numTo M.1 M.1.length))))]⟩ → K5 S' := fun S' gr1 gm1 gm2 hS => by
   refine hK5 _ ?_; clear hK5
   refine awp_cov hS ?_; clear hS
   have hgl := gems_len hp1 hp2
   have hnl := nms_len hp1 hp2
   (refine awp_sr fun Y Yh => ?_; simp [go_sem]; ((repeat' (first|(refine ag_x ?_;simp [go_sem])|intro _|apply And.intro|(apply Yh;clear Yh Y)));all_goals first|apply Hold.mk|omega|assumption|skip))
   (refine callA_l [900003] (.inl ⟨rfl,rfl⟩) (by simp [go_sem]) ?_; intro args ha; simp [go_sem] at ha; subst ha; refine ⟨_, _, (sort_spec 900003 gr1 (gemsTo (gemsTo [] L.1 L.1.length) M.1 M.1.length) (by decide) (by omega)), (by simp [go_sem]), ?_⟩; rintro ps r hps ⟨rfl, rfl⟩; simp [go_sem]; ((repeat' (first|(refine ag_x ?_;simp [go_sem])|intro _|apply And.intro|(apply Yh;clear Yh Y)));all_goals first|apply Hold.mk|omega|assumption|skip))
   (refine awp_sr fun Y Yh => ?_; simp [go_sem]; ((repeat' (first|(refine ag_x ?_;simp [go_sem])|intro _|apply And.intro|(apply Yh;clear Yh Y)));all_goals first|apply Hold.mk|omega|assumption|skip))
   refine awp_nilslot 10 10 9 1 rfl fun g10 => ?_
   simp only [go_sem]
   refine awp_seq_k fun K3 hK3 => ?_
   (refine awp_sr fun Y Yh => ?_; simp [go_sem]; ((repeat' (first|(refine ag_x ?_;simp [go_sem])|intro _|apply And.intro|(apply Yh;clear Yh Y)));all_goals first|apply Hold.mk|omega|assumption|skip))
   (refine callA_l [900003] (.inl ⟨rfl,rfl⟩) (by simp [go_sem]) ?_; intro args ha; simp [go_sem] at ha; subst ha; refine ⟨_, _, (compact_spec 900003 gr1 (srtS (gemsTo (gemsTo [] L.1 L.1.length) M.1 M.1.length)) (by decide)), (by simp [go_sem]), ?_⟩; rintro ps r hps ⟨gr3, rfl, rfl⟩; simp [go_sem]; ((repeat' (first|(refine ag_x ?_;simp [go_sem])|intro _|apply And.intro|(apply Yh;clear Yh Y)));all_goals first|apply Hold.mk|omega|assumption|skip))
   rw [show Lib.compact (srtS (gemsTo (gemsTo [] L.1 L.1.length) M.1 M.1.length)) = nmsV L M from rfl]
   refine awp_frzrow 35 rfl rfl ?_
   simp only [go_sem]
   refine awp_block ?_
   refine awp_loop (σ := Nat × Nat) (fun x => ⟨[(8, .own 900004 gm1), (9, .own 900005 gm2), (10, .own 10 x.2), (35, dSs (nmsV L M)), (36, dI (nmsV L M).length), (37, dI x.1)],
    [(900004, (gm1, .map (mS (numTo L.1 L.1.length)))), (900005, (gm2, .map (mS (numTo M.1 M.1.length)))), (10, (x.2, rS (dTo (numTo L.1 L.1.length) (numTo M.1 M.1.length) (nmsV L M) x.1)))]⟩)
    (fun x => x.1 ≤ (nmsV L M).length) (fun x => (nmsV L M).length - x.1) (0, g10) ?_ ?_ ?_
   ·(refine cov_of ?_ ?_ <;> simp [go_sem, dTo])
   ·simp
   rintro ⟨k, gk⟩ hk
   simp only at hk
   have hdl := dTo_len (numTo L.1 L.1.length) (numTo M.1 M.1.length) (nmsV L M) k
   (refine awp_sr fun Y Yh => ?_; simp [go_sem]; ((repeat' (first|(refine ag_x ?_;simp [go_sem])|intro _|apply And.intro|(apply Yh;clear Yh Y)));all_goals first|apply Hold.mk|omega|assumption|skip))
   refine awp_seq_k fun K4 hK4 => ?_
   (refine awp_if fun T F hT hF => ?_; simp [go_sem]; refine BR.intro (fun h5 => hT ?_) (fun h5 => hF ?_); all_goals clear hT hF T F; try simp at h5) 
   ·refine awp_skip ?_
    refine hK4 _ ?_; clear hK4
    obtain ⟨x, hx⟩ : ∃ x, (nmsV L M)[k]? = some x := ⟨_, List.getElem?_eq_getElem (by omega)⟩
    have hxl := nms_ok hL hM (List.mem_of_getElem? hx)
    have hsn := dTo_snoc (hm := numTo L.1 L.1.length) (am := numTo M.1 M.1.length) hx
    refine awp_seq_k fun K6 hK6 => ?_
    have tl6 : ∀ S' gk', Cov S' ⟨[(8, .own 900004 gm1), (9, .own 900005 gm2), (10, .own 10 gk'), (35, dSs (nmsV L M)), (36, dI (nmsV L M).length), (37, dI k)],
      [(900004, (gm1, .map (mS (numTo L.1 L.1.length)))), (900005, (gm2, .map (mS (numTo M.1 M.1.length)))), (10, (gk', rS (dTo (numTo L.1 L.1.length) (numTo M.1 M.1.length) (nmsV L M) (k + 1))))]⟩ → K6 S' := fun S' gk' hS => by
     refine hK6 _ ?_; clear hK6
     refine awp_cov hS ?_; clear hS
     (refine awp_r fun Y Yh => ?_; simp [go_sem]; ((repeat' (first|(refine ag_x ?_;simp [go_sem])|intro _|apply And.intro|(apply Yh;clear Yh Y)));all_goals first|apply Hold.mk|omega|assumption|skip))
     refine ⟨(k + 1, gk'), ?_, ?_, ?_⟩
     ·(refine cov_of ?_ ?_ <;> simp [go_sem])
     ·simp only; omega
     ·simp only; omega
    clear hK6
    refine awp_block ?_
    (refine awp_sr fun Y Yh => ?_; simp [go_sem, hx]; ((repeat' (first|(refine ag_x ?_;simp [go_sem, hx])|intro _|apply And.intro|(apply Yh;clear Yh Y)));all_goals first|apply Hold.mk|omega|assumption|skip))
    rcases hh : slook (numTo L.1 L.1.length) x with _ | o
    ·rw [hh] at hsn
     rcases ha : slook (numTo M.1 M.1.length) x with _ | w
     ·rw [ha] at hsn
      (refine awp_sr fun Y Yh => ?_; simp [go_sem, hh]; ((repeat' (first|(refine ag_x ?_;simp [go_sem, hh])|intro _|apply And.intro|(apply Yh;clear Yh Y)));all_goals first|apply Hold.mk|omega|assumption|skip))
      (refine awp_sr fun Y Yh => ?_; simp [go_sem, ha]; ((repeat' (first|(refine ag_x ?_;simp [go_sem, ha])|intro _|apply And.intro|(apply Yh;clear Yh Y)));all_goals first|apply Hold.mk|omega|assumption|skip))
      refine awp_block ?_
      (refine awp_sr fun Y Yh => ?_; simp [go_sem]; ((repeat' (first|(refine ag_x ?_;simp [go_sem])|intro _|apply And.intro|(apply Yh;clear Yh Y)));all_goals first|apply Hold.mk|omega|assumption|skip))
      refine awp_cond ?_
      simp [go_sem]
      (refine awp_r fun Y Yh => ?_; simp [go_sem]; ((repeat' (first|(refine ag_x ?_;simp [go_sem])|intro _|apply And.intro|(apply Yh;clear Yh Y)));all_goals first|apply Hold.mk|omega|assumption|skip))
      rename_i g'
      refine tl6 _ g' ?_
      rw [hsn]
      (refine cov_of ?_ ?_ <;> simp [go_sem, dLine])
      apply ByteArray.ext
      simp
     ·rw [ha] at hsn
      have hwl := num_ok hM ha
      (refine awp_sr fun Y Yh => ?_; simp [go_sem, hh]; ((repeat' (first|(refine ag_x ?_;simp [go_sem, hh])|intro _|apply And.intro|(apply Yh;clear Yh Y)));all_goals first|apply Hold.mk|omega|assumption|skip))
      (refine awp_sr fun Y Yh => ?_; simp [go_sem, ha]; ((repeat' (first|(refine ag_x ?_;simp [go_sem, ha])|intro _|apply And.intro|(apply Yh;clear Yh Y)));all_goals first|apply Hold.mk|omega|assumption|skip))
      refine awp_block ?_
      (refine awp_sr fun Y Yh => ?_; simp [go_sem]; ((repeat' (first|(refine ag_x ?_;simp [go_sem])|intro _|apply And.intro|(apply Yh;clear Yh Y)));all_goals first|apply Hold.mk|omega|assumption|skip))
      refine awp_cond ?_
      simp [go_sem]
      (refine awp_r fun Y Yh => ?_; simp [go_sem]; ((repeat' (first|(refine ag_x ?_;simp [go_sem])|intro _|apply And.intro|(apply Yh;clear Yh Y)));all_goals first|apply Hold.mk|omega|assumption|skip))
      rename_i g'
      refine tl6 _ g' ?_
      rw [hsn]
      (refine cov_of ?_ ?_ <;> simp [go_sem, dLine])
      apply ByteArray.ext
      simp
    ·rw [hh] at hsn
     have hol := num_ok hL hh
     rcases ha : slook (numTo M.1 M.1.length) x with _ | w
     ·rw [ha] at hsn
      (refine awp_sr fun Y Yh => ?_; simp [go_sem, hh]; ((repeat' (first|(refine ag_x ?_;simp [go_sem, hh])|intro _|apply And.intro|(apply Yh;clear Yh Y)));all_goals first|apply Hold.mk|omega|assumption|skip))
      (refine awp_sr fun Y Yh => ?_; simp [go_sem, ha]; ((repeat' (first|(refine ag_x ?_;simp [go_sem, ha])|intro _|apply And.intro|(apply Yh;clear Yh Y)));all_goals first|apply Hold.mk|omega|assumption|skip))
      refine awp_block ?_
      (refine awp_sr fun Y Yh => ?_; simp [go_sem]; ((repeat' (first|(refine ag_x ?_;simp [go_sem])|intro _|apply And.intro|(apply Yh;clear Yh Y)));all_goals first|apply Hold.mk|omega|assumption|skip))
      refine awp_cond ?_
      simp [go_sem]
      (refine awp_sr fun Y Yh => ?_; simp [go_sem]; ((repeat' (first|(refine ag_x ?_;simp [go_sem])|intro _|apply And.intro|(apply Yh;clear Yh Y)));all_goals first|apply Hold.mk|omega|assumption|skip))
      refine awp_cond ?_
      simp [go_sem]
      (refine awp_r fun Y Yh => ?_; simp [go_sem]; ((repeat' (first|(refine ag_x ?_;simp [go_sem])|intro _|apply And.intro|(apply Yh;clear Yh Y)));all_goals first|apply Hold.mk|omega|assumption|skip))
      rename_i g'
      refine tl6 _ g' ?_
      rw [hsn]
      (refine cov_of ?_ ?_ <;> simp [go_sem, dLine])
      apply ByteArray.ext
      simp
     ·rw [ha] at hsn
      have hwl := num_ok hM ha
      (refine awp_sr fun Y Yh => ?_; simp [go_sem, hh]; ((repeat' (first|(refine ag_x ?_;simp [go_sem, hh])|intro _|apply And.intro|(apply Yh;clear Yh Y)));all_goals first|apply Hold.mk|omega|assumption|skip))
      (refine awp_sr fun Y Yh => ?_; simp [go_sem, ha]; ((repeat' (first|(refine ag_x ?_;simp [go_sem, ha])|intro _|apply And.intro|(apply Yh;clear Yh Y)));all_goals first|apply Hold.mk|omega|assumption|skip))
      refine awp_block ?_
      (refine awp_sr fun Y Yh => ?_; simp [go_sem]; ((repeat' (first|(refine ag_x ?_;simp [go_sem])|intro _|apply And.intro|(apply Yh;clear Yh Y)));all_goals first|apply Hold.mk|omega|assumption|skip))
      refine awp_cond ?_
      simp [go_sem]
      (refine awp_sr fun Y Yh => ?_; simp [go_sem]; ((repeat' (first|(refine ag_x ?_;simp [go_sem])|intro _|apply And.intro|(apply Yh;clear Yh Y)));all_goals first|apply Hold.mk|omega|assumption|skip))
      refine awp_cond ?_
      simp [go_sem]
      (refine awp_sr fun Y Yh => ?_; simp [go_sem]; ((repeat' (first|(refine ag_x ?_;simp [go_sem])|intro _|apply And.intro|(apply Yh;clear Yh Y)));all_goals first|apply Hold.mk|omega|assumption|skip))
      (refine awp_if fun T F hT hF => ?_; simp [go_sem]; refine BR.intro (fun h9 => hT ?_) (fun h9 => hF ?_); all_goals clear hT hF T F; try simp at h9)
      ·(refine awp_r fun Y Yh => ?_; simp [go_sem]; ((repeat' (first|(refine ag_x ?_;simp [go_sem])|intro _|apply And.intro|(apply Yh;clear Yh Y)));all_goals first|apply Hold.mk|omega|assumption|skip))
       rename_i g'
       refine tl6 _ g' ?_
       rw [hsn]
       (refine cov_of ?_ ?_ <;> simp [go_sem, dLine, h9])
       apply ByteArray.ext
       simp
      ·refine awp_skip ?_
       refine tl6 _ gk ?_
       rw [hsn]
       (refine cov_of ?_ ?_ <;> simp [go_sem, dLine, h9])
   ·refine awp_exit ?_
    simp only [go_sem]
    refine hK3 _ ?_; clear hK3
    have hkl : k = (nmsV L M).length := by omega
    subst hkl
    (refine awp_sr fun Y Yh => ?_; simp [go_sem]; ((repeat' (first|(refine ag_x ?_;simp [go_sem])|intro _|apply And.intro|(apply Yh;clear Yh Y)));all_goals first|apply Hold.mk|omega|assumption|skip))
    refine awp_frzrow 4 rfl rfl ?_
    simp only [go_sem]
    (refine awp_ret ?_; simp [go_sem, h5])
    simp [hv, diffV]
  clear hK5
  have hgl := gemsTo_len [] L.1 L.1.length
  simp only [List.length_nil] at hgl
  ((refine awp_d (.qs [0, 3] (.two 1 (.two 2 (.one 4 (.one 5 (.qs [6, 7] (.nil)))) 4 (.one 2 (.one 5 (.qs [6, 7] (.nil))))) 4 (.one 1 (.one 2 (.one 5 (.qs [6, 7] (.nil))))))) (by kernel_rfl) ?_ ?_ ?_ ?_); (kernel_rfl); (exact (by decide +kernel)); (kernel_rfl); intro Y Yh; ((repeat' (first|(refine ag_x ?_;simp [go_sem])|refine adr_nil ?_|refine adr_two ?_ ?_|((first|refine adr_qs fun Y Yh=>?_|refine adr_y fun Y Yh=>?_);simp [go_sem])|intro _|apply And.intro|(apply Yh;clear Yh Y)));all_goals first|apply Hold.mk|omega|assumption|skip))
  ·(refine callA_l [900002, 900003, 900004] (by first|exact .inl ⟨rfl,rfl⟩|exact .inr rfl) (by simp [go_sem]) ?_; intro args ha; simp [go_sem] at ha; subst ha; refine ⟨_, _, (numbers_spec 900004 gb0 gr0 L [] (by decide) (by decide) (by simp; omega)), (by simp [go_sem]), ?_⟩; rintro ps r hps ⟨gr1, gm1, rfl, rfl⟩; simp [go_sem]; ((repeat' (first|(refine ag_x ?_;simp [go_sem])|refine adr_nil ?_|refine adr_two ?_ ?_|((first|refine adr_qs fun Y Yh=>?_|refine adr_y fun Y Yh=>?_);simp [go_sem])|intro _|apply And.intro|(apply Yh;clear Yh Y)));all_goals first|apply Hold.mk|omega|assumption|skip))
   (refine callA_l [900002, 900003, 900005] (by first|exact .inl ⟨rfl,rfl⟩|exact .inr rfl) (by simp [go_sem]) ?_; intro args ha; simp [go_sem] at ha; subst ha; refine ⟨_, _, (numbers_spec 900005 gb0 gr1 M (gemsTo [] L.1 L.1.length) (by decide) (by decide) (by omega)), (by simp [go_sem]), ?_⟩; rintro ps r hps ⟨gr2, gm2, rfl, rfl⟩; simp [go_sem]; ((repeat' (first|(refine ag_x ?_;simp [go_sem])|refine adr_nil ?_|refine adr_two ?_ ?_|((first|refine adr_qs fun Y Yh=>?_|refine adr_y fun Y Yh=>?_);simp [go_sem])|intro _|apply And.intro|(apply Yh;clear Yh Y)));all_goals first|apply Hold.mk|omega|assumption|skip))
   refine tl5 _ gr2 gm1 gm2 ?_
   (refine cov_of ?_ ?_ <;> simp [go_sem])
  ·(refine callA_l [900002, 900003, 900004] (by first|exact .inl ⟨rfl,rfl⟩|exact .inr rfl) (by simp [go_sem]) ?_; intro args ha; simp [go_sem] at ha; subst ha; refine ⟨_, _, (numbers_spec 900004 gb0 gr0 L [] (by decide) (by decide) (by simp; omega)), (by simp [go_sem]), ?_⟩; rintro ps r hps ⟨gr1, gm1, rfl, rfl⟩; simp [go_sem]; ((repeat' (first|(refine ag_x ?_;simp [go_sem])|refine adr_nil ?_|refine adr_two ?_ ?_|((first|refine adr_qs fun Y Yh=>?_|refine adr_y fun Y Yh=>?_);simp [go_sem])|intro _|apply And.intro|(apply Yh;clear Yh Y)));all_goals first|apply Hold.mk|omega|assumption|skip))
   (refine callA_l [900002, 900003, 900005] (by first|exact .inl ⟨rfl,rfl⟩|exact .inr rfl) (by simp [go_sem]) ?_; intro args ha; simp [go_sem] at ha; subst ha; refine ⟨_, _, (numbers_spec 900005 gb0 gr1 M (gemsTo [] L.1 L.1.length) (by decide) (by decide) (by omega)), (by simp [go_sem]), ?_⟩; rintro ps r hps ⟨gr2, gm2, rfl, rfl⟩; simp [go_sem]; ((repeat' (first|(refine ag_x ?_;simp [go_sem])|refine adr_nil ?_|refine adr_two ?_ ?_|((first|refine adr_qs fun Y Yh=>?_|refine adr_y fun Y Yh=>?_);simp [go_sem])|intro _|apply And.intro|(apply Yh;clear Yh Y)));all_goals first|apply Hold.mk|omega|assumption|skip))
   refine tl5 _ gr2 gm1 gm2 ?_
   (refine cov_of ?_ ?_ <;> simp [go_sem])
  ·(refine callA_l [900002, 900003, 900004] (by first|exact .inl ⟨rfl,rfl⟩|exact .inr rfl) (by simp [go_sem]) ?_; intro args ha; simp [go_sem] at ha; subst ha; refine ⟨_, _, (numbers_spec 900004 gb0 gr0 L [] (by decide) (by decide) (by simp; omega)), (by simp [go_sem]), ?_⟩; rintro ps r hps ⟨gr1, gm1, rfl, rfl⟩; simp [go_sem]; ((repeat' (first|(refine ag_x ?_;simp [go_sem])|refine adr_nil ?_|refine adr_two ?_ ?_|((first|refine adr_qs fun Y Yh=>?_|refine adr_y fun Y Yh=>?_);simp [go_sem])|intro _|apply And.intro|(apply Yh;clear Yh Y)));all_goals first|apply Hold.mk|omega|assumption|skip))
   (refine callA_l [900002, 900003, 900005] (by first|exact .inl ⟨rfl,rfl⟩|exact .inr rfl) (by simp [go_sem]) ?_; intro args ha; simp [go_sem] at ha; subst ha; refine ⟨_, _, (numbers_spec 900005 gb0 gr1 M (gemsTo [] L.1 L.1.length) (by decide) (by decide) (by omega)), (by simp [go_sem]), ?_⟩; rintro ps r hps ⟨gr2, gm2, rfl, rfl⟩; simp [go_sem]; ((repeat' (first|(refine ag_x ?_;simp [go_sem])|refine adr_nil ?_|refine adr_two ?_ ?_|((first|refine adr_qs fun Y Yh=>?_|refine adr_y fun Y Yh=>?_);simp [go_sem])|intro _|apply And.intro|(apply Yh;clear Yh Y)));all_goals first|apply Hold.mk|omega|assumption|skip))
   refine tl5 _ gr2 gm1 gm2 ?_
   (refine cov_of ?_ ?_ <;> simp [go_sem])
 ·rw [if_neg hv, if_neg hv]
  by_cases h1 : lockV L = true
  ·rw [if_pos h1] at C1
   have h2 : lockV M = false := by simpa [h1] using hv
   rw [if_neg (by simp [h2])] at C2
   (refine awp_sr fun Y Yh => ?_; simp [go_sem]; ((repeat' (first|(refine ag_x ?_;simp [go_sem])|intro _|apply And.intro|(apply Yh;clear Yh Y)));all_goals first|apply Hold.mk|omega|assumption|skip))
   ((try refine CallT.toA ?_); refine callT_m (.inl ⟨rfl,rfl⟩) (by simp [go_sem]) ?_; intro args ha; simp [go_sem] at ha; subst ha; refine ⟨_, C1, ?_⟩; rintro _ rfl; simp [go_sem]; ((repeat' (first|(refine ag_x ?_;simp [go_sem])|intro _|apply And.intro|(apply Yh;clear Yh Y)));all_goals first|apply Hold.mk|omega|assumption|skip))
   (refine agc_f (dI 1) (.inl ⟨rfl,rfl⟩) ?_ rfl ?_; (intro hc args ha; simp [go_sem] at ha; subst ha; exact C2); simp [go_sem]; ((repeat' (first|(refine ag_x ?_;simp [go_sem])|intro _|apply And.intro|(apply Yh;clear Yh Y)));all_goals first|apply Hold.mk|omega|assumption|skip))
   refine awp_cond ?_
   simp [go_sem]
   (refine awp_sr fun Y Yh => ?_; simp [go_sem]; ((repeat' (first|(refine ag_x ?_;simp [go_sem])|intro _|apply And.intro|(apply Yh;clear Yh Y)));all_goals first|apply Hold.mk|omega|assumption|skip))
   (refine awp_ret ?_; simp [go_sem])
  ·rw [if_neg h1] at C1
   (refine awp_sr fun Y Yh => ?_; simp [go_sem]; ((repeat' (first|(refine ag_x ?_;simp [go_sem])|intro _|apply And.intro|(apply Yh;clear Yh Y)));all_goals first|apply Hold.mk|omega|assumption|skip))
   ((try refine CallT.toA ?_); refine callT_m (.inl ⟨rfl,rfl⟩) (by simp [go_sem]) ?_; intro args ha; simp [go_sem] at ha; subst ha; refine ⟨_, C1, ?_⟩; rintro _ rfl; simp [go_sem]; ((repeat' (first|(refine ag_false (by simp [go_sem, undef]) (by simp [go_sem]) ?_;simp [go_sem])|intro _|apply And.intro|(apply Yh;clear Yh Y)));all_goals first|apply Hold.mk|omega|assumption|skip))
   refine awp_cond ?_
   simp [go_sem]
   (refine awp_sr fun Y Yh => ?_; simp [go_sem]; ((repeat' (first|(refine ag_x ?_;simp [go_sem])|intro _|apply And.intro|(apply Yh;clear Yh Y)));all_goals first|apply Hold.mk|omega|assumption|skip))
   (refine awp_ret ?_; simp [go_sem])
end Go.Proofs.YteekfnhhlcmcgaaGreatDoor
namespace Go.Lk
open Go.Ver
def minusL (x : Prs) : Bs := [45, 32] ++ x.1 ++ [32] ++ x.2
def plusL (x : Prs) : Bs := [43, 32] ++ x.1 ++ [32] ++ x.2
def turnL (x : Prs) (w : Bs) : Bs := [126, 32] ++ x.1 ++ [32] ++ x.2 ++ [32, 45, 62, 32] ++ w
def mergeD : List Prs → List Prs → List Bs
 | [], [] => []
 | x :: a, [] => minusL x :: mergeD a []
 | [], y :: b => plusL y :: mergeD [] b
 | x :: a, y :: b => if Op.bytesLess x.1 y.1 then minusL x :: mergeD a (y :: b) else if Op.bytesLess y.1 x.1 then plusL y :: mergeD (x :: a) b else (if x.2 = y.2 then [] else [turnL x y.2]) ++ mergeD a b
 termination_by a b => a.length + b.length
theorem mD_nil : mergeD [] [] = [] := by rw [mergeD]
theorem mD_l (x : Prs) (a : List Prs) : mergeD (x :: a) [] = minusL x :: mergeD a [] := by rw [mergeD]
theorem mD_r (y : Prs) (b : List Prs) : mergeD [] (y :: b) = plusL y :: mergeD [] b := by rw [mergeD]
theorem mD_lt {x y : Prs} {a b : List Prs} (h : Op.bytesLess x.1 y.1 = true) : mergeD (x :: a) (y :: b) = minusL x :: mergeD a (y :: b) := by rw [mergeD, if_pos h]
theorem mD_gt {x y : Prs} {a b : List Prs} (h : Op.bytesLess x.1 y.1 = false) (h2 : Op.bytesLess y.1 x.1 = true) : mergeD (x :: a) (y :: b) = plusL y :: mergeD (x :: a) b := by rw [mergeD, if_neg (by simp [h]), if_pos h2]
theorem mD_eq {x y : Prs} {a b : List Prs} (h : Op.bytesLess x.1 y.1 = false) (h2 : Op.bytesLess y.1 x.1 = false) : mergeD (x :: a) (y :: b) = (if x.2 = y.2 then [] else [turnL x y.2]) ++ mergeD a b := by rw [mergeD, if_neg (by simp [h]), if_neg (by simp [h2])]
theorem drop_some {α : Type} {l : List α} {i : Nat} {x : α} (h : l[i]? = some x) : l.drop i = x :: l.drop (i + 1) := by
 obtain ⟨hi, e⟩ := List.getElem?_eq_some_iff.1 h
 rw [List.drop_eq_getElem_cons hi, e]
end Go.Lk
namespace Go.Proofs.YteekfnhhlcmcgaaGreatDoor
open Go.Eng Go.Wh Go.Ver Go.RowKit Go.Lk
set_option maxRecDepth 20000
attribute [local irreducible] AG CallA CallT AWp PCall ACall AgC
set_option maxHeartbeats 8000000 in
theorem rDiff_spec (L M : Lck) (hL : LkOk L) (hM : LkOk M) : PCall Tryz.prog 24 [dLk L, dLk M] fun r => r = .tup [dSs (if lockV L && lockV M then mergeD L.1 M.1 else []), dI (if lockV L && lockV M then 0 else 1)] := by 
 refine pcall_of Tryz.func24 rfl rfl Tryz.ntmps24 (rs := [.tmp 4, .tmp 5]) (tys := [64, 35]) rfl rfl (by simp) ?_
 have C1 := rLValid_spec L hL
 have C2 := rLValid_spec M hM
 (refine awp_sr fun Y Yh => ?_; simp [go_sem]; ((repeat' (first|(refine ag_x ?_;simp [go_sem])|intro _|apply And.intro|(apply Yh;clear Yh Y)));all_goals first|apply Hold.mk|omega|assumption|skip))
 refine awp_frzbox 2 rfl rfl ?_
 refine awp_frzbox 3 rfl rfl ?_
 refine awp_seq_k fun K1 hK1 => ?_
 by_cases hv : lockV L && lockV M
 ·rw [if_pos hv, if_pos hv]
  simp only [Bool.and_eq_true] at hv
  rw [hv.1] at C1
  rw [hv.2] at C2
  have hp1 : L.1.length ≤ 60 := by have := hv.1; simp only [lockV, Bool.and_eq_true, decide_eq_true_eq] at this; exact this.1.1.1
  have hp2 : M.1.length ≤ 60 := by have := hv.2; simp only [lockV, Bool.and_eq_true, decide_eq_true_eq] at this; exact this.1.1.1
  (refine awp_sr fun Y Yh => ?_; simp [go_sem]; ((repeat' (first|(refine ag_x ?_;simp [go_sem])|intro _|apply And.intro|(apply Yh;clear Yh Y)));all_goals first|apply Hold.mk|omega|assumption|skip))
  ((try refine CallT.toA ?_); refine callT_m (.inl ⟨rfl,rfl⟩) (by simp [go_sem]) ?_; intro args ha; simp [go_sem] at ha; subst ha; refine ⟨_, C1, ?_⟩; rintro _ rfl; simp [go_sem]; ((repeat' (first|(refine ag_x ?_;simp [go_sem])|intro _|apply And.intro|(apply Yh;clear Yh Y)));all_goals first|apply Hold.mk|omega|assumption|skip))
  (refine agc_f (dB true) (.inl ⟨rfl,rfl⟩) ?_ rfl ?_; (intro hc args ha; simp [go_sem] at ha; subst ha; exact C2); simp [go_sem]; ((repeat' (first|(refine ag_x ?_;simp [go_sem])|intro _|apply And.intro|(apply Yh;clear Yh Y)));all_goals first|apply Hold.mk|omega|assumption|skip))
  refine awp_cond ?_
  simp [go_sem]
  refine awp_skip ?_
  refine hK1 _ ?_; clear hK1
  (refine awp_sr fun Y Yh => ?_; simp [go_sem]; ((repeat' (first|(refine ag_x ?_;simp [go_sem])|intro _|apply And.intro|(apply Yh;clear Yh Y)));all_goals first|apply Hold.mk|omega|assumption|skip))
  refine awp_nilslot 6 6 9 1 rfl fun g6 => ?_
  simp only [go_sem]
  (refine awp_sr fun Y Yh => ?_; simp [go_sem]; ((repeat' (first|(refine ag_x ?_;simp [go_sem])|intro _|apply And.intro|(apply Yh;clear Yh Y)));all_goals first|apply Hold.mk|omega|assumption|skip))
  (refine awp_sr fun Y Yh => ?_; simp [go_sem]; ((repeat' (first|(refine ag_x ?_;simp [go_sem])|intro _|apply And.intro|(apply Yh;clear Yh Y)));all_goals first|apply Hold.mk|omega|assumption|skip))
  refine awp_seq_k fun K3 hK3 => ?_
  refine awp_block ?_
  refine awp_loop (σ := Nat × Nat × List Bs × Nat) (fun x => ⟨[(2, .rd [dPs L.1, dNs L.2.1, dPs L.2.2]), (3, .rd [dPs M.1, dNs M.2.1, dPs M.2.2]), (6, .own 6 x.2.2.2), (7, dI x.1), (8, dI x.2.1)], [(6, (x.2.2.2, rS x.2.2.1))]⟩)
   (fun x => x.1 ≤ L.1.length ∧ x.2.1 ≤ M.1.length ∧ x.2.2.1.length ≤ x.1 + x.2.1 ∧ x.2.2.1 ++ mergeD (L.1.drop x.1) (M.1.drop x.2.1) = mergeD L.1 M.1) (fun x => (L.1.length - x.1) + (M.1.length - x.2.1)) (0, 0, [], g6) ?_ ?_ ?_
  ·(refine cov_of ?_ ?_ <;> simp [go_sem])
  ·simp
  rintro ⟨i, k, out, gk⟩ ⟨hi, hk, hol, hout⟩
  simp only at hi hk hol hout
  refine awp_seq_k fun K4 hK4 => ?_
  (refine awp_sr fun Y Yh => ?_; simp [go_sem]; ((repeat' (first|(refine ag_x ?_;simp [go_sem])|intro _|apply And.intro|(apply Yh;clear Yh Y)));all_goals first|apply Hold.mk|omega|assumption|skip))
  (refine awp_if fun T F hT hF => ?_; simp [go_sem]; refine BR.intro (fun h5 => hT ?_) (fun h5 => hF ?_); all_goals clear hT hF T F; try simp at h5) 
  ·refine awp_skip ?_
   refine hK4 _ ?_; clear hK4
   refine awp_block ?_
   refine awp_block ?_
   by_cases hkM : k = M.1.length
   ·subst hkM
    obtain ⟨x, hx⟩ : ∃ x, L.1[i]? = some x := ⟨_, List.getElem?_eq_getElem (by omega)⟩
    have hxo := hL.2.2.2.1 x (List.mem_of_getElem? hx)
    rw [drop_some hx, List.drop_length] at hout
    ((refine awp_dr (.qs [0, 1, 2, 3, 4, 5] (.sk 6 (.sk 7 (.sk 8 (.sk 9 (.sk 10 (.sk 11 (.sk 12 (.sk 14 (.sk 18 (.sk 20 (.sk 13 (.sk 15 (.sk 16 (.sk 17 (.sk 19 (.sk 21 (.sk 22 (.sk 23 (.sk 24 (.sk 25 (.qs [26, 27] (.nil))))))))))))))))))))))) (by kernel_rfl) ?_ ?_ ?_ ?_); (kernel_rfl); (exact (by decide +kernel)); (kernel_rfl); intro Y Yh; ((repeat' (first|(refine ag_x ?_;simp [go_sem, hx, undef])|refine adr_nil ?_|((first|refine adr_qs fun Y Yh=>?_|refine adr_y fun Y Yh=>?_);simp [go_sem, hx, undef])|intro _|apply And.intro|(apply Yh;clear Yh Y)));all_goals first|apply Hold.mk|omega|assumption|skip))
    refine awp_cond ?_
    simp [go_sem]
    ((refine awp_dr (.qs [0, 1, 3, 9, 11, 2, 4, 5, 6, 7, 8, 10, 12, 13, 14, 15] (.one 16 (.one 17 (.qs [18] (.nil))))) (by kernel_rfl) ?_ ?_ ?_ ?_); (kernel_rfl); (exact (by decide +kernel)); (kernel_rfl); intro Y Yh; ((repeat' (first|(refine ag_x ?_;simp [go_sem, hx])|refine adr_nil ?_|((first|refine adr_qs fun Y Yh=>?_|refine adr_y fun Y Yh=>?_);simp [go_sem, hx])|intro _|apply And.intro|(apply Yh;clear Yh Y)));all_goals first|apply Hold.mk|omega|assumption|skip))
    rename_i g'
    (refine awp_r fun Y Yh => ?_; simp [go_sem]; ((repeat' (first|(refine ag_x ?_;simp [go_sem])|intro _|apply And.intro|(apply Yh;clear Yh Y)));all_goals first|apply Hold.mk|omega|assumption|skip))
    refine ⟨i + 1, M.1.length, out ++ [minusL x], ⟨g', ?_⟩, ?_, ?_⟩
    ·(refine cov_of ?_ ?_ <;> simp [go_sem, minusL])
     apply ByteArray.ext
     simp
    ·refine ⟨by first | omega | (simp only; omega), by first | omega | (simp only; omega), by simp; omega, ?_⟩
     rw [← hout, mD_l]
     simp
    ·first | (simp only; omega) | (show _ < _; omega)
   ·obtain ⟨y, hy⟩ : ∃ y, M.1[k]? = some y := ⟨_, List.getElem?_eq_getElem (by omega)⟩
    have hyo := hM.2.2.2.1 y (List.mem_of_getElem? hy)
    rw [drop_some hy] at hout
    by_cases hiL : i = L.1.length
    ·subst hiL
     rw [List.drop_length] at hout
     ((refine awp_dr (.qs [0, 1, 2, 3, 4, 5, 6, 7, 8, 9, 10, 11] (.sk 12 (.sk 14 (.sk 18 (.sk 20 (.sk 13 (.sk 15 (.sk 16 (.sk 17 (.sk 19 (.sk 21 (.sk 22 (.sk 23 (.sk 24 (.qs [25, 26, 27] (.nil)))))))))))))))) (by kernel_rfl) ?_ ?_ ?_ ?_); (kernel_rfl); (exact (by decide +kernel)); (kernel_rfl); intro Y Yh; ((repeat' (first|(refine ag_x ?_;simp [go_sem, hy, hkM, undef])|refine adr_nil ?_|((first|refine adr_qs fun Y Yh=>?_|refine adr_y fun Y Yh=>?_);simp [go_sem, hy, hkM, undef])|intro _|apply And.intro|(apply Yh;clear Yh Y)));all_goals first|apply Hold.mk|omega|assumption|skip))
     refine awp_cond ?_
     simp [go_sem]
     ((refine awp_dr (.qs [0, 1, 2, 3, 4, 5] (.sk 6 (.sk 8 (.sk 12 (.sk 14 (.sk 7 (.sk 9 (.sk 10 (.sk 11 (.sk 13 (.sk 15 (.sk 16 (.sk 17 (.sk 18 (.qs [19, 20] (.nil)))))))))))))))) (by kernel_rfl) ?_ ?_ ?_ ?_); (kernel_rfl); (exact (by decide +kernel)); (kernel_rfl); intro Y Yh; ((repeat' (first|(refine ag_x ?_;simp [go_sem, hy, hkM, undef])|refine adr_nil ?_|((first|refine adr_qs fun Y Yh=>?_|refine adr_y fun Y Yh=>?_);simp [go_sem, hy, hkM, undef])|intro _|apply And.intro|(apply Yh;clear Yh Y)));all_goals first|apply Hold.mk|omega|assumption|skip))
     refine awp_cond ?_
     simp [go_sem]
     ((refine awp_dr (.qs [0, 1, 3, 9, 11, 2, 4, 5, 6, 7, 8, 10, 12, 13, 14, 15] (.one 16 (.one 17 (.qs [18] (.nil))))) (by kernel_rfl) ?_ ?_ ?_ ?_); (kernel_rfl); (exact (by decide +kernel)); (kernel_rfl); intro Y Yh; ((repeat' (first|(refine ag_x ?_;simp [go_sem, hy])|refine adr_nil ?_|((first|refine adr_qs fun Y Yh=>?_|refine adr_y fun Y Yh=>?_);simp [go_sem, hy])|intro _|apply And.intro|(apply Yh;clear Yh Y)));all_goals first|apply Hold.mk|omega|assumption|skip))
     rename_i g'
     (refine awp_r fun Y Yh => ?_; simp [go_sem]; ((repeat' (first|(refine ag_x ?_;simp [go_sem])|intro _|apply And.intro|(apply Yh;clear Yh Y)));all_goals first|apply Hold.mk|omega|assumption|skip))
     refine ⟨L.1.length, k + 1, out ++ [plusL y], ⟨g', ?_⟩, ?_, ?_⟩
     ·(refine cov_of ?_ ?_ <;> simp [go_sem, plusL])
      apply ByteArray.ext
      simp
     ·refine ⟨by first | omega | (simp only; omega), by first | omega | (simp only; omega), by simp; omega, ?_⟩
      rw [← hout, mD_r]
      simp
     ·first | (simp only; omega) | (show _ < _; omega)
    ·obtain ⟨x, hx⟩ : ∃ x, L.1[i]? = some x := ⟨_, List.getElem?_eq_getElem (by omega)⟩
     have hxo := hL.2.2.2.1 x (List.mem_of_getElem? hx)
     rw [drop_some hx] at hout
     ((refine awp_dr (.qs [0, 1, 2, 3, 4, 5, 6, 7, 8, 9, 10, 11, 12, 14, 18, 20, 13, 15, 16, 17, 19, 21, 22, 23, 24, 25, 26, 27] (.nil)) (by kernel_rfl) ?_ ?_ ?_ ?_); (kernel_rfl); (exact (by decide +kernel)); (kernel_rfl); intro Y Yh; ((repeat' (first|(refine ag_x ?_;simp [go_sem, hx, hy, hkM, hiL])|refine adr_nil ?_|((first|refine adr_qs fun Y Yh=>?_|refine adr_y fun Y Yh=>?_);simp [go_sem, hx, hy, hkM, hiL])|intro _|apply And.intro|(apply Yh;clear Yh Y)));all_goals first|apply Hold.mk|omega|assumption|skip))
     (refine awp_if fun T F hT hF => ?_; simp [go_sem]; refine BR.intro (fun h6 => hT ?_) (fun h6 => hF ?_); all_goals clear hT hF T F; try simp at h6)
     ·((refine awp_dr (.qs [0, 1, 3, 9, 11, 2, 4, 5, 6, 7, 8, 10, 12, 13, 14, 15] (.one 16 (.one 17 (.qs [18] (.nil))))) (by kernel_rfl) ?_ ?_ ?_ ?_); (kernel_rfl); (exact (by decide +kernel)); (kernel_rfl); intro Y Yh; ((repeat' (first|(refine ag_x ?_;simp [go_sem, hx, hy])|refine adr_nil ?_|((first|refine adr_qs fun Y Yh=>?_|refine adr_y fun Y Yh=>?_);simp [go_sem, hx, hy])|intro _|apply And.intro|(apply Yh;clear Yh Y)));all_goals first|apply Hold.mk|omega|assumption|skip))
      rename_i g'
      (refine awp_r fun Y Yh => ?_; simp [go_sem]; ((repeat' (first|(refine ag_x ?_;simp [go_sem])|intro _|apply And.intro|(apply Yh;clear Yh Y)));all_goals first|apply Hold.mk|omega|assumption|skip))
      refine ⟨(i + 1, k, out ++ [minusL x], g'), ?_, ?_, ?_⟩
      ·(refine cov_of ?_ ?_ <;> simp [go_sem, minusL])
       apply ByteArray.ext
       simp
      ·refine ⟨by first | omega | (simp only; omega), by first | omega | (simp only; omega), by simp; omega, ?_⟩
       rw [← hout, mD_lt (by first | exact h6 | exact h6.2)]
       simp [drop_some hy]
      ·first | (simp only; omega) | (show _ < _; omega)
     ·((refine awp_dr (.qs [0, 1, 2, 3, 4, 5, 6, 8, 12, 14, 7, 9, 10, 11, 13, 15, 16, 17, 18, 19, 20] (.nil)) (by kernel_rfl) ?_ ?_ ?_ ?_); (kernel_rfl); (exact (by decide +kernel)); (kernel_rfl); intro Y Yh; ((repeat' (first|(refine ag_x ?_;simp [go_sem, hx, hy, hkM, hiL])|refine adr_nil ?_|((first|refine adr_qs fun Y Yh=>?_|refine adr_y fun Y Yh=>?_);simp [go_sem, hx, hy, hkM, hiL])|intro _|apply And.intro|(apply Yh;clear Yh Y)));all_goals first|apply Hold.mk|omega|assumption|skip))
      (refine awp_if fun T F hT hF => ?_; simp [go_sem]; refine BR.intro (fun h7 => hT ?_) (fun h7 => hF ?_); all_goals clear hT hF T F; try simp at h7)
      ·((refine awp_dr (.qs [0, 1, 3, 9, 11, 2, 4, 5, 6, 7, 8, 10, 12, 13, 14, 15] (.one 16 (.one 17 (.qs [18] (.nil))))) (by kernel_rfl) ?_ ?_ ?_ ?_); (kernel_rfl); (exact (by decide +kernel)); (kernel_rfl); intro Y Yh; ((repeat' (first|(refine ag_x ?_;simp [go_sem, hx, hy])|refine adr_nil ?_|((first|refine adr_qs fun Y Yh=>?_|refine adr_y fun Y Yh=>?_);simp [go_sem, hx, hy])|intro _|apply And.intro|(apply Yh;clear Yh Y)));all_goals first|apply Hold.mk|omega|assumption|skip))
       rename_i g'
       (refine awp_r fun Y Yh => ?_; simp [go_sem]; ((repeat' (first|(refine ag_x ?_;simp [go_sem])|intro _|apply And.intro|(apply Yh;clear Yh Y)));all_goals first|apply Hold.mk|omega|assumption|skip))
       refine ⟨(i, k + 1, out ++ [plusL y], g'), ?_, ?_, ?_⟩
       ·(refine cov_of ?_ ?_ <;> simp [go_sem, plusL])
        apply ByteArray.ext
        simp
       ·refine ⟨by first | omega | (simp only; omega), by first | omega | (simp only; omega), by simp; omega, ?_⟩
        rw [← hout, mD_gt (by first | exact h6 | exact h6 (by omega)) (by first | exact h7 | exact h7.resolve_left (by omega) | exact h7 (by omega))]
        simp [drop_some hx]
       ·first | (simp only; omega) | (show _ < _; omega)
      ·refine awp_seq_k fun K8 hK8 => ?_
       have tl8 : ∀ S' gk (z : List Bs), z = (if x.2 = y.2 then [] else [turnL x y.2]) → Cov S' ⟨[(2, .rd [dPs L.1, dNs L.2.1, dPs L.2.2]), (3, .rd [dPs M.1, dNs M.2.1, dPs M.2.2]), (6, .own 6 gk), (7, dI i), (8, dI k)], [(6, (gk, rS (out ++ z)))]⟩ → K8 S' := fun S' gk z hz hS => by
        refine hK8 _ ?_; clear hK8
        refine awp_cov hS ?_; clear hS
        (refine awp_sr fun Y Yh => ?_; simp [go_sem]; ((repeat' (first|(refine ag_x ?_;simp [go_sem])|intro _|apply And.intro|(apply Yh;clear Yh Y)));all_goals first|apply Hold.mk|omega|assumption|skip))
        (refine awp_r fun Y Yh => ?_; simp [go_sem]; ((repeat' (first|(refine ag_x ?_;simp [go_sem])|intro _|apply And.intro|(apply Yh;clear Yh Y)));all_goals first|apply Hold.mk|omega|assumption|skip))
        refine ⟨(i + 1, k + 1, out ++ z, gk), ?_, ?_, ?_⟩
        ·(refine cov_of ?_ ?_ <;> simp [go_sem])
        ·refine ⟨by simp only; omega, by simp only; omega, ?_, ?_⟩
         ·have : z.length ≤ 1 := by rw [hz]; split <;> simp
          simp; omega
         ·rw [← hout, mD_eq (by first | exact h6 | exact h6 (by omega)) (by first | exact h7 | exact h7 (by omega) | exact h7.2), hz]
          simp
        ·simp only; omega
       clear hK8
       ((refine awp_dr (.qs [0, 2, 6, 8, 1, 3, 4, 5, 7, 9, 10, 11, 12] (.nil)) (by kernel_rfl) ?_ ?_ ?_ ?_); (kernel_rfl); (exact (by decide +kernel)); (kernel_rfl); intro Y Yh; ((repeat' (first|(refine ag_x ?_;simp [go_sem, hx, hy])|refine adr_nil ?_|((first|refine adr_qs fun Y Yh=>?_|refine adr_y fun Y Yh=>?_);simp [go_sem, hx, hy])|intro _|apply And.intro|(apply Yh;clear Yh Y)));all_goals first|apply Hold.mk|omega|assumption|skip))
       (refine awp_if fun T F hT hF => ?_; simp [go_sem]; refine BR.intro (fun h9 => hT ?_) (fun h9 => hF ?_); all_goals clear hT hF T F; try simp at h9)
       ·((refine awp_d (.qs [0, 1, 3, 9, 11, 17, 19, 2, 4, 5, 6, 7, 8, 10, 12, 13, 14, 15, 16, 18, 20, 21, 22, 23] (.one 24 (.one 25 (.qs [26] (.nil))))) (by kernel_rfl) ?_ ?_ ?_ ?_); (kernel_rfl); (exact (by decide +kernel)); (kernel_rfl); intro Y Yh; ((repeat' (first|(refine ag_x ?_;simp [go_sem, hx, hy])|refine adr_nil ?_|((first|refine adr_qs fun Y Yh=>?_|refine adr_y fun Y Yh=>?_);simp [go_sem, hx, hy])|intro _|apply And.intro|(apply Yh;clear Yh Y)));all_goals first|apply Hold.mk|omega|assumption|skip))
        rename_i g'
        refine tl8 _ g' [turnL x y.2] (by simp [h9]) ?_
        (refine cov_of ?_ ?_ <;> simp [go_sem, turnL])
        apply ByteArray.ext
        simp
       ·refine awp_skip ?_
        refine tl8 _ gk [] (by simp [h9]) ?_
        (refine cov_of ?_ ?_ <;> simp [go_sem])
  ·refine awp_exit ?_
   simp only [go_sem]
   refine hK3 _ ?_; clear hK3
   have hi2 : i = L.1.length := by omega
   have hk2 : k = M.1.length := by omega
   subst hi2 hk2
   rw [List.drop_length, List.drop_length, mD_nil, List.append_nil] at hout
   subst hout
   (refine awp_sr fun Y Yh => ?_; simp [go_sem]; ((repeat' (first|(refine ag_x ?_;simp [go_sem])|intro _|apply And.intro|(apply Yh;clear Yh Y)));all_goals first|apply Hold.mk|omega|assumption|skip))
   refine awp_frzrow 4 rfl rfl ?_
   simp only [go_sem]
   (refine awp_ret ?_; simp [go_sem, h5])
   try simp [hv]
 ·rw [if_neg hv, if_neg hv]
  by_cases h1 : lockV L = true
  ·rw [h1] at C1
   have h2 : lockV M = false := by simpa [h1] using hv
   rw [h2] at C2
   (refine awp_sr fun Y Yh => ?_; simp [go_sem]; ((repeat' (first|(refine ag_x ?_;simp [go_sem])|intro _|apply And.intro|(apply Yh;clear Yh Y)));all_goals first|apply Hold.mk|omega|assumption|skip))
   ((try refine CallT.toA ?_); refine callT_m (.inl ⟨rfl,rfl⟩) (by simp [go_sem]) ?_; intro args ha; simp [go_sem] at ha; subst ha; refine ⟨_, C1, ?_⟩; rintro _ rfl; simp [go_sem]; ((repeat' (first|(refine ag_x ?_;simp [go_sem])|intro _|apply And.intro|(apply Yh;clear Yh Y)));all_goals first|apply Hold.mk|omega|assumption|skip))
   (refine agc_f (dB false) (.inl ⟨rfl,rfl⟩) ?_ rfl ?_; (intro hc args ha; simp [go_sem] at ha; subst ha; exact C2); simp [go_sem]; ((repeat' (first|(refine ag_x ?_;simp [go_sem])|intro _|apply And.intro|(apply Yh;clear Yh Y)));all_goals first|apply Hold.mk|omega|assumption|skip))
   refine awp_cond ?_
   simp [go_sem]
   (refine awp_sr fun Y Yh => ?_; simp [go_sem]; ((repeat' (first|(refine ag_x ?_;simp [go_sem])|intro _|apply And.intro|(apply Yh;clear Yh Y)));all_goals first|apply Hold.mk|omega|assumption|skip))
   (refine awp_ret ?_; simp [go_sem])
  ·rw [show lockV L = false by simpa using h1] at C1
   (refine awp_sr fun Y Yh => ?_; simp [go_sem]; ((repeat' (first|(refine ag_x ?_;simp [go_sem])|intro _|apply And.intro|(apply Yh;clear Yh Y)));all_goals first|apply Hold.mk|omega|assumption|skip))
   ((try refine CallT.toA ?_); refine callT_m (.inl ⟨rfl,rfl⟩) (by simp [go_sem]) ?_; intro args ha; simp [go_sem] at ha; subst ha; refine ⟨_, C1, ?_⟩; rintro _ rfl; simp [go_sem]; ((repeat' (first|(refine ag_false (by simp [go_sem, undef]) (by simp [go_sem]) ?_;simp [go_sem])|intro _|apply And.intro|(apply Yh;clear Yh Y)));all_goals first|apply Hold.mk|omega|assumption|skip))
   refine awp_cond ?_
   simp [go_sem]
   (refine awp_sr fun Y Yh => ?_; simp [go_sem]; ((repeat' (first|(refine ag_x ?_;simp [go_sem])|intro _|apply And.intro|(apply Yh;clear Yh Y)));all_goals first|apply Hold.mk|omega|assumption|skip))
   (refine awp_ret ?_; simp [go_sem])
set_option maxHeartbeats 4000000 in
theorem texts_spec (a b : List Bs) (ha : a.length ≤ 1000000) (hb : b.length ≤ 1000000) : PCall Tryz.prog 26 [dSs a, dSs b] fun r => r = dB (decide (a = b)) := by 
 refine pcall_of Tryz.func26 rfl rfl Tryz.ntmps26 (rs := [.tmp 4]) (tys := [4]) rfl rfl (by simp) ?_
 (refine awp_sr fun Y Yh => ?_; simp [go_sem]; ((repeat' (first|(refine ag_x ?_;simp [go_sem])|intro _|apply And.intro|(apply Yh;clear Yh Y)));all_goals first|apply Hold.mk|omega|assumption|skip))
 refine awp_seq_k fun K1 hK1 => ?_
 (refine awp_sr fun Y Yh => ?_; simp [go_sem]; ((repeat' (first|(refine ag_x ?_;simp [go_sem])|intro _|apply And.intro|(apply Yh;clear Yh Y)));all_goals first|apply Hold.mk|omega|assumption|skip))
 (refine awp_if fun T F hT hF => ?_; simp [go_sem]; refine BR.intro (fun h2 => hT ?_) (fun h2 => hF ?_); all_goals clear hT hF T F; try simp at h2) 
 ·(refine awp_sr fun Y Yh => ?_; simp [go_sem]; ((repeat' (first|(refine ag_x ?_;simp [go_sem])|intro _|apply And.intro|(apply Yh;clear Yh Y)));all_goals first|apply Hold.mk|omega|assumption|skip))
  have : ¬ a = b := fun q => h2 (by rw [q])
  (refine awp_ret ?_; simp [go_sem, h2, this])
 ·have hl : a.length = b.length := by omega
  refine awp_skip ?_
  refine hK1 _ ?_; clear hK1
  refine awp_seq_k fun K3 hK3 => ?_
  (refine awp_sr fun Y Yh => ?_; simp [go_sem]; ((repeat' (first|(refine ag_x ?_;simp [go_sem])|intro _|apply And.intro|(apply Yh;clear Yh Y)));all_goals first|apply Hold.mk|omega|assumption|skip))
  refine awp_block ?_
  refine awp_loop (σ := Nat) (fun i => ⟨[(0, dSs a), (1, dSs b), (5, dI i)], []⟩) (fun i => i ≤ a.length ∧ a.take i = b.take i) (fun i => a.length - i) 0 ?_ ?_ ?_
  ·(refine cov_of ?_ ?_ <;> simp [go_sem])
  ·simp
  rintro i ⟨hi, ht⟩
  refine awp_seq_k fun K4 hK4 => ?_
  (refine awp_sr fun Y Yh => ?_; simp [go_sem]; ((repeat' (first|(refine ag_x ?_;simp [go_sem])|intro _|apply And.intro|(apply Yh;clear Yh Y)));all_goals first|apply Hold.mk|omega|assumption|skip))
  (refine awp_if fun T F hT hF => ?_; simp [go_sem]; refine BR.intro (fun h5 => hT ?_) (fun h5 => hF ?_); all_goals clear hT hF T F; try simp at h5) 
  ·refine awp_skip ?_
   refine hK4 _ ?_; clear hK4
   obtain ⟨x, hx⟩ : ∃ x, a[i]? = some x := ⟨_, List.getElem?_eq_getElem (by omega)⟩
   obtain ⟨y, hy⟩ : ∃ y, b[i]? = some y := ⟨_, List.getElem?_eq_getElem (by omega)⟩
   have hs := take_eq_step hx hy ht
   have hn := take_ne hx hy
   refine awp_seq_k fun K6 hK6 => ?_
   refine awp_block ?_
   ((refine awp_dr (.qs [0, 1, 2, 4, 5, 6, 3, 7, 8] (.nil)) (by kernel_rfl) ?_ ?_ ?_ ?_); (kernel_rfl); (exact (by decide +kernel)); (kernel_rfl); intro Y Yh; ((repeat' (first|(refine ag_x ?_;simp [go_sem, hx, hy])|refine adr_nil ?_|((first|refine adr_qs fun Y Yh=>?_|refine adr_y fun Y Yh=>?_);simp [go_sem, hx, hy])|intro _|apply And.intro|(apply Yh;clear Yh Y)));all_goals first|apply Hold.mk|omega|assumption|skip))
   (refine awp_if fun T F hT hF => ?_; simp [go_sem]; refine BR.intro (fun h7 => hT ?_) (fun h7 => hF ?_); all_goals clear hT hF T F; try simp at h7) 
   ·have hne : ¬ a = b := hn (fun q => by subst q; simp at h7)
    (refine awp_sr fun Y Yh => ?_; simp [go_sem]; ((repeat' (first|(refine ag_x ?_;simp [go_sem])|intro _|apply And.intro|(apply Yh;clear Yh Y)));all_goals first|apply Hold.mk|omega|assumption|skip))
    (refine awp_ret ?_; simp [go_sem, hne])
   ·refine awp_skip ?_
    refine hK6 _ ?_; clear hK6
    (refine awp_r fun Y Yh => ?_; simp [go_sem]; ((repeat' (first|(refine ag_x ?_;simp [go_sem])|intro _|apply And.intro|(apply Yh;clear Yh Y)));all_goals first|apply Hold.mk|omega|assumption|skip))
    refine ⟨i + 1, ?_, ⟨by omega, ?_⟩, by omega⟩
    ·(refine cov_of ?_ ?_ <;> simp [go_sem])
    ·exact hs.2 h7
  ·refine awp_exit ?_
   simp only [go_sem]
   refine hK3 _ ?_; clear hK3
   have : i = a.length := by omega
   subst this
   have := take_all hl ht
   (refine awp_sr fun Y Yh => ?_; simp [go_sem]; ((repeat' (first|(refine ag_x ?_;simp [go_sem])|intro _|apply And.intro|(apply Yh;clear Yh Y)));all_goals first|apply Hold.mk|omega|assumption|skip))
   (refine awp_ret ?_; simp [go_sem, h2, h5, this])
end Go.Proofs.YteekfnhhlcmcgaaGreatDoor
