/- Part of a proof: see the last text. -/
import Derived.Test.YteekfnhhlcmcgaaGreatDoorG11
import Derived.Test.YteekfnhhlcmcgaaGreatDoorG05
import Derived.Lib.SlicesDelete
import Derived.Deep.RegionLaw
import Derived.Lib.SliceRun
import Derived.Lib.OwnBridge
import Derived.Shelf.RegionOpenPlain
import Derived.WalkKit
import Derived.Deep.LoopGhost
import Derived.Lib.Walk
import Derived.Sort.WalkB12
set_option linter.unusedVariables false
set_option linter.unusedSimpArgs false
set_option linter.unusedSectionVars false
namespace Go.Eng
variable {P : Program} [HasGlob P]
/-! results that hold an own row inside a struct of one cell, and such structs as arguments -/
def frzDG (ss : List Nat) (S : St) (d : D) (k : St → D → Prop) : Prop :=
 match d with
 | .agg [.own s g] => if ss.contains s then k S (.agg [.own s g]) else frzDA ss S (.agg [.own s g]) k
 | d => frzDA ss S d k
def frzDsG (ss : List Nat) : St → List D → (St → List D → Prop) → Prop
 | S, [], k => k S []
 | S, d :: ds, k => frzDG ss S d fun S' d' => frzDsG ss S' ds fun S'' ds' => k S'' (d' :: ds')
def retG (P : Program) (rs : List ResultVar) (tys : List TypeId) (ss : List Nat) (R : List (Nat × Blk) → D → Prop) : Exit → St → Prop
 | .normal, S | .ret, S => resL P S rs fun ds => frzDsG ss S ds fun S' ds' => postK S' ss fun ps => R ps (pack (nilDs P tys ds'))
 | _, _ => False
section
variable {w0 w : World} {B : Nat → Nat → Prop} {C0 C : Ctx} {n : Nat} {a : Act} {S : St}
end
attribute [go_sem] retG frzDsG frzDG
end Go.Eng
set_option linter.unusedSectionVars false
namespace Go.Eng
variable {P : Program} [HasGlob P]
theorem flat_get {α : Type} {k : Nat} : ∀ {xs : List (List α)}, (∀ x ∈ xs, x.length = k) → ∀ (i j : Nat), j < k → xs.flatten[i * k + j]? = (xs[i]?).bind fun x => x[j]?
 | [], _, i, j, _ => by simp
 | x :: xs, h, 0, j, hj => by
  have hx := h x (by simp)
  rw [List.flatten_cons, Nat.zero_mul, Nat.zero_add, List.getElem?_append_left (by omega)]
  simp
 | x :: xs, h, i + 1, j, hj => by
  have hx := h x (by simp)
  have e : (i + 1) * k + j = k + (i * k + j) := by rw [Nat.succ_mul]; omega
  rw [List.flatten_cons, e, List.getElem?_append_right (by omega), hx, Nat.add_sub_cancel_left, flat_get (fun y hy => h y (by simp [hy])) i j hj]
  simp
theorem flat_len {α : Type} {k : Nat} : ∀ {xs : List (List α)}, (∀ x ∈ xs, x.length = k) → xs.flatten.length = xs.length * k
 | [], _ => by simp
 | x :: xs, h => by
  have hx := h x (by simp)
  rw [List.flatten_cons, List.length_append, flat_len (fun y hy => h y (by simp [hy])), hx, List.length_cons, Nat.succ_mul, Nat.add_comm]
theorem rowk_data {C : Ctx} {w : World} {s g T k : Nat} {xs : List (List Value)} (hk : 0 < k) (hx : ∀ x ∈ xs, x.length = k) (h : HRep C w s g (.row T k (xs.map fun x => x.map .v))) :
  ∃ u, C.val s g = some u ∧ C.live s g = true ∧ w.ownsRow 0 T k u xs.length xs.flatten := by
 obtain ⟨u, zs, h1, h2, h3, h4, h5⟩ := h
 refine ⟨u, h1, h2, ?_⟩
 have hfl := flat_len hx
 have hz : zs = xs.flatten := by
  have hl : zs.length = xs.length * k := by simpa using h3.1
  refine List.ext_getElem (by omega) fun n i1 i2 => ?_
  have hn : n = (n / k) * k + n % k := by rw [Nat.mul_comm]; exact (Nat.div_add_mod n k).symm
  have hj : n % k < k := Nat.mod_lt _ hk
  have hi : n / k < xs.length := by rw [Nat.div_lt_iff_lt_mul hk]; omega
  have hg := flat_get hx (n / k) (n % k) hj
  rw [← hn, List.getElem?_eq_getElem i2, List.getElem?_eq_getElem hi, Option.bind_some] at hg
  have hxi := hx _ (List.getElem_mem hi)
  rw [List.getElem?_eq_getElem (by omega)] at hg
  simp only [Option.some.injEq] at hg
  have := (h5 (n / k) (n % k) (xs[n / k].map .v) (.v (xs[n / k][n % k]'(by omega))) zs[n] (by simp [hi]) (by simp [hxi, hj]) (by rw [← hn]; exact List.getElem?_eq_getElem i1)).1
  rw [hg]
  exact this.v_inv
 rw [← hz]
 have : (xs.map fun x => x.map D.v).length = xs.length := by simp
 rw [this] at h3
 exact h3
theorem datak_row {C : Ctx} {w : World} {s g T k : Nat} {xs : List (List Value)} {u : Value} (hk : 0 < k) (h1 : C.val s g = some u) (h2 : C.live s g = true) (h3 : w.ownsRow 0 T k u xs.length xs.flatten) (ho : ∀ y ∈ xs, y.length = k ∧ ∀ u ∈ y, u.oneCell' = true) :
  HRep C w s g (.row T k (xs.map fun x => x.map .v)) := by
 refine ⟨u, xs.flatten, h1, h2, by simpa using h3, by simpa using fun y hy => (ho y hy).1, fun i j e c x hi hj hx => ?_⟩
 simp only [List.getElem?_map, Option.map_eq_some_iff] at hi
 obtain ⟨y, hy, rfl⟩ := hi
 have hym := ho y (List.mem_of_getElem? hy)
 simp only [List.getElem?_map, Option.map_eq_some_iff] at hj
 obtain ⟨z, hz, rfl⟩ := hj
 have hjk : j < k := by have := (List.getElem?_eq_some_iff.1 hz).1; omega
 rw [flat_get (fun y hy => (ho y hy).1) i j hjk, hy, Option.bind_some, hz] at hx
 simp only [Option.some.injEq] at hx
 subst hx
 exact ⟨.v z, hym.2 z (List.mem_of_getElem? hz)⟩
theorem acall_cutk {f : FuncId} {T kc nr gr : Nat} {xs ys : List (List Value)} {vs : List Value} (hf : FnOk P f) (h2 : 900000 ≤ nr) (hk0 : 0 < kc) (hx : ∀ x ∈ xs, x.length = kc) (hy : ∀ y ∈ ys, y.length = kc ∧ ∀ u ∈ y, u.oneCell' = true)
  (h : ∀ (v : Value) (w : World), HasGlob.ok P w → w.ownsRow 0 T kc v xs.length xs.flatten →
   Calls P f (v :: vs).toArray w fun en w' => ∃ v', en = .returned v' ∧ v'.oneCell' = true ∧ v'.ownBlock = v.ownBlock ∧ w'.ownsRow 0 T kc v' ys.length ys.flatten ∧ RowFrm w w' v) :
  ACall P f (.own nr gr :: vs.map .v) [(nr, (gr, .row T kc (xs.map fun x => x.map .v)))] [nr] fun ps r' => ∃ gr', ps = [(gr', .row T kc (ys.map fun x => x.map .v))] ∧ r' = .own nr gr' := by
 refine ⟨hf, ?_, fun C w us hc hg hr he => ?_⟩
 ·intro p hp
  simp only [List.mem_cons, List.mem_nil_iff, or_false] at hp
  subst hp
  exact ⟨h2, rfl, by simp⟩
 ·obtain ⟨u, u1, u2, u3⟩ := rowk_data hk0 hx (he nr gr (.row T kc (xs.map fun x => x.map .v)) (by simp [look]))
  obtain ⟨k1, k2⟩ := blk_own' u3
  have hus : us = u :: vs := by
   refine List.ext_getElem (by simpa using hr.1) fun j h1 h2 => ?_
   match j with
   | 0 =>
    have := hr.2 0 (.own nr gr) us[0] rfl (List.getElem?_eq_getElem h1)
    cases this with
    | own _ _ _ hv _ =>
     rw [u1] at hv
     simp only [Option.some.injEq] at hv
     simp [hv]
   | j + 1 =>
    have hj : j < vs.length := by simpa using h2
    have := hr.2 (j + 1) (.v vs[j]) us[j + 1] (by simp [hj]) (List.getElem?_eq_getElem h1)
    simpa using this.v_inv
  subst hus
  refine (h u w hg.1 u3).mono fun en w' ⟨v', he', ho', hb', s1, s2⟩ => ?_
  obtain ⟨N, hN⟩ := hc.fresh nr
  obtain ⟨m1, m2⟩ := blk_own' s1
  have hblk : blk v' = blk u := by rw [m1, k1, hb']
  let C' : Ctx := ⟨fun s g => if s = nr ∧ g = N then some v' else C.val s g, fun s g => if s = nr ∧ g = N then true else if s = nr ∧ g = gr then false else C.live s g⟩
  have hgN : gr ≠ N := fun q => by subst q; rw [hN _ (Nat.le_refl _)] at u1; cases u1
  have hval : ∀ s g y, C.val s g = some y → C'.val s g = some y := fun s g y hy => by
   show (if s = nr ∧ g = N then some v' else C.val s g) = some y
   rw [if_neg]
   ·exact hy
   ·rintro ⟨rfl, rfl⟩
    rw [hN _ (Nat.le_refl _)] at hy
    cases hy
  have cases' : ∀ s g x, C'.val s g = some x → C'.live s g = true → (s = nr ∧ g = N ∧ x = v') ∨ (¬ (s = nr ∧ g = gr) ∧ C.val s g = some x ∧ C.live s g = true) := fun s g x q1 q2 => by
   change (if s = nr ∧ g = N then some v' else C.val s g) = some x at q1
   change (if s = nr ∧ g = N then true else if s = nr ∧ g = gr then false else C.live s g) = true at q2
   by_cases q : s = nr ∧ g = N
   ·rw [if_pos q] at q1
    exact .inl ⟨q.1, q.2, by simpa using q1.symm⟩
   ·rw [if_neg q] at q1 q2
    by_cases q' : s = nr ∧ g = gr
    ·rw [if_pos q'] at q2; cases q2
    ·rw [if_neg q'] at q2
     exact .inr ⟨q', q1, q2⟩
  have hvN : C'.val nr N = some v' := by show (if nr = nr ∧ N = N then some v' else C.val nr N) = some v'; simp
  have hlN : C'.live nr N = true := by show (if nr = nr ∧ N = N then true else _) = true; simp
  have hlo : ∀ s g, ¬ (s = nr ∧ g = N) → ¬ (s = nr ∧ g = gr) → C'.live s g = C.live s g := fun s g q1 q2 => by
   show (if s = nr ∧ g = N then true else if s = nr ∧ g = gr then false else C.live s g) = C.live s g
   rw [if_neg q1, if_neg q2]
  have hext : Ext C w C' w' := by
   refine ⟨hval, fun k hk ⟨s, g, x, q1, q2, q3⟩ => ?_, fun k hk hno => ?_, s2.size⟩
   ·rcases cases' s g x q1 q2 with ⟨_, _, e3⟩ | ⟨_, q4, q5⟩
    ·rw [e3, hblk] at q3
     exact ⟨nr, gr, u, u1, u2, q3⟩
    ·exact ⟨s, g, x, q4, q5, q3⟩
   ·exact s2.rest k hk fun q => hno ⟨nr, gr, u, u1, u2, k1.trans q⟩
  refine ⟨v', .own nr N, [(N, .row T kc (ys.map fun x => x.map .v))], C', he', ⟨N, rfl, rfl⟩, .own nr N v' hvN ho', ⟨?_, ?_, ?_⟩, hext, ⟨rfl, ?_⟩, ?_, ?_, ?_, ?_, ⟨s2.os, s2.tape, s2.output, s2.size, ?_⟩⟩
  ·intro s g x s' g' x' k q1 q2 q3 q4 q5 q6
   rcases cases' s g x q1 q2 with ⟨rfl, rfl, rfl⟩ | ⟨p1, p2, p3⟩ <;> rcases cases' s' g' x' q3 q4 with ⟨rfl, rfl, rfl⟩ | ⟨t1, t2, t3⟩
   ·exact ⟨rfl, rfl⟩
   ·rw [hblk] at q5
    exact absurd (hc.apart s' g' x' s gr u k t2 t3 u1 u2 q6 q5) t1
   ·rw [hblk] at q6
    exact absurd (hc.apart s g x s' gr u k p2 p3 u1 u2 q5 q6) p1
   ·exact hc.apart s g x s' g' x' k p2 p3 t2 t3 q5 q6
  ·intro s g x k q1 q2 q3
   rcases cases' s g x q1 q2 with ⟨rfl, rfl, rfl⟩ | ⟨p1, p2, p3⟩
   ·exact m2 k (m1 ▸ q3)
   ·exact Nat.lt_of_lt_of_le (hc.bound s g x k p2 p3 q3) s2.size
  ·intro s
   obtain ⟨M, hM⟩ := hc.fresh s
   refine ⟨max M (N + 1), fun g hg' => ?_⟩
   show (if s = nr ∧ g = N then some v' else C.val s g) = none
   rw [if_neg (by omega)]
   exact hM g (by omega)
  ·intro j s p hj hp
   match j, hj, hp with
   | 0, hj, hp =>
    simp only [List.getElem?_cons_zero, Option.some.injEq] at hj hp
    subst hj hp
    exact ⟨datak_row hk0 hvN hlN s1 hy, rfl⟩
   | j + 1, hj, hp => simp at hj
  ·intro j s p x k hj hp hv hk
   match j, hj, hp with
   | 0, hj, hp =>
    simp only [List.getElem?_cons_zero, Option.some.injEq] at hj hp
    subst hj hp
    have : x = v' := by rw [hvN] at hv; exact (Option.some.inj hv).symm
    subst this
    exact .inr ⟨⟨nr, gr, u, ⟨.row T kc (xs.map fun x => x.map .v), by simp [look]⟩, u1, hblk ▸ hk⟩, h2⟩
   | j + 1, hj, hp => simp at hj
  ·intro j s p y hj hp hy
   match j, hj, hp with
   | 0, hj, hp =>
    simp only [List.getElem?_cons_zero, Option.some.injEq] at hj hp
    subst hj hp
    rw [hN _ (Nat.le_refl _)] at hy
    cases hy
   | j + 1, hj, hp => simp at hj
  ·intro s g y hy hnl
   refine hlo s g (fun q => ?_) (fun q => ?_)
   ·rw [q.1, q.2, hN _ (Nat.le_refl _)] at hy; cases hy
   ·rw [q.1, q.2] at hnl
    exact hnl ⟨.row T kc (xs.map fun x => x.map .v), by simp [look]⟩
  ·intro s g y hy hl
   by_cases q : s = nr ∧ g = N
   ·rw [q.1, q.2, hN _ (Nat.le_refl _)] at hy; cases hy
   ·by_cases q' : s = nr ∧ g = gr
    ·rw [q'.1, q'.2]; exact u2
    ·rw [← hlo s g q q']; exact hl
  ·intro k hk hno
   exact s2.rest k hk fun q => hno ⟨nr, gr, u, ⟨.row T kc (xs.map fun x => x.map .v), by simp [look]⟩, u1, k1.trans q⟩
end Go.Eng
namespace Go.Proofs.YteekfnhhlcmcgaaGreatDoor
open Go.Eng Go.Wh Go.Ver
set_option maxRecDepth 20000
attribute [local irreducible] AG CallA CallT AWp PCall ACall AgC
theorem run_clear2 {P : Program} (w : World) (t e ty : TypeId) (z a c : Value) (ht : P.underlying t = some (.slice e)) (hv : ∀ w, (zeroValue e).run P w = .ok z w) (hz : z.cells = #[a, c]) (h1 : a.oneCell' = true) (h2 : c.oneCell' = true) (b o cap : Nat)
  (hc : ∀ j, j < 2 → (w.cell? ⟨b, o + j, none⟩).isSome = true) (hf : ∀ j, j < 2 → w.frozen? ⟨b, o + j, none⟩ = false) :
  (Builtin.clear_ #[t] ty #[.slice (some ⟨b, o, none⟩) 1 cap]).run P w = .ok (.tuple #[]) (w.setCells b o [a, c]) := by
 have hzc : (Builtin.zeroCells z.cells 1).toList = [a, c] := by
  rw [hz]
  simp [Builtin.zeroCells]
  rfl
 have hst := run_storeCells_cells (P := P) b o [a, c] 0 w (by simpa using hc) (by simpa using hf) (by intro v hv'; simp at hv'; rcases hv' with rfl | rfl <;> assumption)
 simp only [Nat.add_zero] at hst
 simp [Builtin.clear_, run_underlying ht, hv, hzc, hst]
open Go.Shelf Go.RowKit Go.Lib Go.Sort
theorem delete_arr2 (d : Array Value) (n i : Nat) (a c : Value) (hd : d.size = n * 2) (hi : i < n) :
  lay (lay d (i * 2) (d.toList.drop ((i + 1) * 2))) ((n - 1) * 2) [a, c] = (d.toList.take (i * 2) ++ d.toList.drop ((i + 1) * 2) ++ [a, c]).toArray := by
 apply Array.ext_getElem?
 intro t
 have l1 : (d.toList.take (i * 2)).length = i * 2 := by simp; omega
 have l2 : (d.toList.drop ((i + 1) * 2)).length = d.size - (i + 1) * 2 := by simp
 rw [lay_get? _ _ _ _ (by rw [lay_size]; simp; omega), lay_get? _ _ _ _ (by rw [l2]; omega), show (d.toList.take (i * 2) ++ d.toList.drop ((i + 1) * 2) ++ [a, c]).toArray[t]? = (d.toList.take (i * 2) ++ d.toList.drop ((i + 1) * 2) ++ [a, c])[t]? from List.getElem?_toArray]
 simp only [List.length_cons, List.length_nil, l2]
 by_cases c1 : t < i * 2
 ·rw [if_neg (by omega), if_neg (by omega), List.getElem?_append_left (by simp; omega), List.getElem?_append_left (by omega), List.getElem?_take, if_pos c1, Array.getElem?_toList]
 ·by_cases c2 : t < (n - 1) * 2
  ·rw [if_neg (by omega), if_pos (by omega), List.getElem?_append_left (by simp; omega), List.getElem?_append_right (by omega), l1]
  ·rw [List.getElem?_append_right (by simp; omega)]
   by_cases c3 : t < n * 2
   ·rw [if_pos (by omega)]
    congr 1
    simp
    omega
   ·rw [if_neg (by omega), if_neg (by omega)]
    rw [Array.getElem?_eq_none (by omega), List.getElem?_eq_none]
    simp
    omega
set_option maxHeartbeats 4000000 in
set_option maxRecDepth 1000000 in
theorem delete_raw (blk cap n i j : Nat) (d : Array Value) (w : World) (hd : d.size = n * 2) (hH : Holds id w blk 0 d) (hcap : n ≤ cap) (hm : cap ≤ 9223372036854775807) (hone : ∀ u ∈ d.toList, u.oneCell' = true) (hi : i < n) (hj : i < j) (hj2 : j ≤ i + 1) (hj3 : j ≤ n) :
  Calls Tryz.prog 70 #[.slice (some ⟨blk, 0, none⟩) n cap, .int .i64 i, .int .i64 j] w fun e w' => e = .returned (.slice (some ⟨blk, 0, none⟩) (n - 1) cap) ∧ ∃ q, w' = putRow id (Sort.ahead w q) blk 0 (d.toList.take (i * 2) ++ d.toList.drop (j * 2) ++ [encStr [], encStr []]).toArray := by
 
 obtain ⟨news, hnews⟩ : ∃ news, news = d.toList.drop (j * 2) := ⟨_, rfl⟩
 have hlen : news.length = (n - j) * 2 := by rw [hnews]; simp; omega
 have hget : ∀ t, t < (n - j) * 2 → news[t]? = some d[j * 2 + t]! := by
  intro t ht
  rw [hnews, List.getElem?_drop, Array.getElem?_toList, getElem!_pos d (j * 2 + t) (by omega), Array.getElem?_eq_getElem (by omega)]
 obtain ⟨A, hA, hsrc⟩ : ∃ A : Addr, (if cap = j then some (⟨blk, 0, none⟩ : Addr) else some ⟨blk, j * 2, none⟩) = some A ∧ Hid (∀ t u, news[t]? = some u → w.drew.cell? (A.add t) = some u) := by
  by_cases h : cap = j
  ·refine ⟨⟨blk, 0, none⟩, by simp [h], fun t u hu => ?_⟩
   have h0 : news.length = 0 := by rw [hlen]; omega
   rw [List.length_eq_zero_iff.1 h0] at hu
   simp at hu
  ·refine ⟨⟨blk, j * 2, none⟩, by simp [h], fun t u hu => ?_⟩
   have ht : t < (n - j) * 2 := by
    have := (List.getElem?_eq_some_iff.1 hu).1
    rwa [hlen] at this
   rw [hget t ht] at hu
   rw [Addr.add_lit]
   have := (hH (j * 2 + t) (by omega)).1
   rw [Nat.zero_add] at this
   exact this.trans hu
 have s1 : Hid (news.length = (n - j) * 2) := hlen
 have s2 : Hid (∀ u ∈ news, u.oneCell' = true) := by
  intro u hu
  rw [hnews] at hu
  exact hone u (List.mem_of_mem_drop hu)
 have s3 : Hid (∀ t, t < news.length → (w.drew.cell? ⟨blk, 0 + i * 2 + t, none⟩).isSome = true ∧ w.drew.frozen? ⟨blk, 0 + i * 2 + t, none⟩ = false) := by
  intro t ht
  rw [hlen] at ht
  have := hH (i * 2 + t) (by omega)
  rw [Nat.zero_add] at this
  rw [Nat.zero_add]
  exact ⟨by show (w.cell? _).isSome = true; rw [this.1]; rfl, this.2⟩
 obtain ⟨W1, hW1⟩ : ∃ W1, W1 = w.drew.setCells blk (0 + i * 2) news := ⟨_, rfl⟩
 have hW1' : W1 = putRow id (Sort.ahead w 1) blk 0 (lay d (i * 2) (d.toList.drop (j * 2))) := by
  have := putRow_setCells id (Sort.ahead w 1) blk 0 (d.toList.drop (j * 2)) d (i * 2) (by simp; omega)
  rw [putRow_self id (Sort.ahead w 1) blk 0 d (holds_ahead id w 1 blk 0 d hH), List.map_id] at this
  rw [hW1, hnews, ← this]
  rfl
 have hH1 : Holds id W1 blk 0 (lay d (i * 2) (d.toList.drop (j * 2))) := by rw [hW1']; exact holds_putRow id _ blk 0 d _ (holds_ahead id w 1 blk 0 d hH) (lay_size _ _ _)
 have hcl : ∀ ty, (Builtin.clear_ #[38] ty #[.slice (some ⟨blk, (i + (n - j)) * 2, none⟩) (n - (i + (n - j))) (cap - (i + (n - j)))]).run Tryz.prog W1 = .ok (.tuple #[]) (W1.setCells blk ((n - 1) * 2) [encStr [], encStr []]) := fun ty => by
  have e1 : n - (i + (n - j)) = 1 := by omega
  have e2 : i + (n - j) = n - 1 := by omega
  rw [e1, e2]
  exact run_clear2 W1 38 114 ty _ (encStr []) (encStr []) Tryz.underlying38 Tryz.zeroValue114 rfl rfl rfl blk ((n - 1) * 2) (cap - (n - 1)) (fun t ht => by have := (hH1 ((n - 1) * 2 + t) (by rw [lay_size]; omega)).1; rw [Nat.zero_add] at this; rw [this]; rfl) (fun t ht => by have := (hH1 ((n - 1) * 2 + t) (by rw [lay_size]; omega)).2; rw [Nat.zero_add] at this; exact this)
 have X : Aside (W1 = putRow id (Sort.ahead w 1) blk 0 (lay d (i * 2) (d.toList.drop (j * 2)))) := hW1'
 have hW : Hid (W1 = w.drew.setCells blk (0 + i * 2) news) := hW1
 have hic : i ≤ cap := by omega
 have hjc : j ≤ cap := by omega
 clear hW1 hW1' hH1 hH hget hnews hlen
 obtain ⟨i0, hi0, hi1⟩ := Option.map_eq_some_iff.1 (show (Tryz.prog.info? 114).map (·.size) = some 2 by kernel_rfl)
 have mixed : Tryz.prog.follows Departure.mixedOrders = true := by kernel_rfl
 go_enter Tryz.func70, Tryz.ntmps70
 go_wp2_with fail
 go_region_law_o (refine step_append_room rfl (.tmp 22) (.tmp 25) 38 rfl 114 i0 2 Tryz.underlying38 hi0 hi1 blk 0 i cap (by simp [Act.eval, Act.put]) A (n - j) (cap - j) news (by simp [Act.eval, Act.put]) s1.out hsrc.out s2.out (by omega) s3.out ?_; rw [← hW.out])
 go_wp2
 go_ret
 refine ⟨by rw [show n - 1 = i + (n - j) by omega]; rfl, 1, ?_⟩
 have ej : j * 2 = (i + 1) * 2 := by omega
 have e3 := putRow_setCells id (Sort.ahead w 1) blk 0 [encStr [], encStr []] (lay d (i * 2) (d.toList.drop (j * 2))) ((n - 1) * 2) (by rw [lay_size]; simp; omega)
 rw [Nat.zero_add, List.map_id, ← X.out] at e3
 rw [e3, ej, delete_arr2 d n i (encStr []) (encStr []) hd hi]
set_option maxHeartbeats 4000000 in
set_option maxRecDepth 1000000 in
theorem deletep_raw (blk cap n i j : Nat) (d : Array Value) (w : World) (hd : d.size = n * 2) (hH : Holds id w blk 0 d) (hcap : n ≤ cap) (hm : cap ≤ 9223372036854775807) (hone : ∀ u ∈ d.toList, u.oneCell' = true) (hi : i < n) (hj : i < j) (hj2 : j ≤ i + 1) (hj3 : j ≤ n) :
  Calls Tryz.prog 87 #[.slice (some ⟨blk, 0, none⟩) n cap, .int .i64 i, .int .i64 j] w fun e w' => e = .returned (.slice (some ⟨blk, 0, none⟩) (n - 1) cap) ∧ ∃ q, w' = putRow id (Sort.ahead w q) blk 0 (d.toList.take (i * 2) ++ d.toList.drop (j * 2) ++ [encStr [], encStr []]).toArray := by
 
 obtain ⟨news, hnews⟩ : ∃ news, news = d.toList.drop (j * 2) := ⟨_, rfl⟩
 have hlen : news.length = (n - j) * 2 := by rw [hnews]; simp; omega
 have hget : ∀ t, t < (n - j) * 2 → news[t]? = some d[j * 2 + t]! := by
  intro t ht
  rw [hnews, List.getElem?_drop, Array.getElem?_toList, getElem!_pos d (j * 2 + t) (by omega), Array.getElem?_eq_getElem (by omega)]
 obtain ⟨A, hA, hsrc⟩ : ∃ A : Addr, (if cap = j then some (⟨blk, 0, none⟩ : Addr) else some ⟨blk, j * 2, none⟩) = some A ∧ Hid (∀ t u, news[t]? = some u → w.drew.cell? (A.add t) = some u) := by
  by_cases h : cap = j
  ·refine ⟨⟨blk, 0, none⟩, by simp [h], fun t u hu => ?_⟩
   have h0 : news.length = 0 := by rw [hlen]; omega
   rw [List.length_eq_zero_iff.1 h0] at hu
   simp at hu
  ·refine ⟨⟨blk, j * 2, none⟩, by simp [h], fun t u hu => ?_⟩
   have ht : t < (n - j) * 2 := by
    have := (List.getElem?_eq_some_iff.1 hu).1
    rwa [hlen] at this
   rw [hget t ht] at hu
   rw [Addr.add_lit]
   have := (hH (j * 2 + t) (by omega)).1
   rw [Nat.zero_add] at this
   exact this.trans hu
 have s1 : Hid (news.length = (n - j) * 2) := hlen
 have s2 : Hid (∀ u ∈ news, u.oneCell' = true) := by
  intro u hu
  rw [hnews] at hu
  exact hone u (List.mem_of_mem_drop hu)
 have s3 : Hid (∀ t, t < news.length → (w.drew.cell? ⟨blk, 0 + i * 2 + t, none⟩).isSome = true ∧ w.drew.frozen? ⟨blk, 0 + i * 2 + t, none⟩ = false) := by
  intro t ht
  rw [hlen] at ht
  have := hH (i * 2 + t) (by omega)
  rw [Nat.zero_add] at this
  rw [Nat.zero_add]
  exact ⟨by show (w.cell? _).isSome = true; rw [this.1]; rfl, this.2⟩
 obtain ⟨W1, hW1⟩ : ∃ W1, W1 = w.drew.setCells blk (0 + i * 2) news := ⟨_, rfl⟩
 have hW1' : W1 = putRow id (Sort.ahead w 1) blk 0 (lay d (i * 2) (d.toList.drop (j * 2))) := by
  have := putRow_setCells id (Sort.ahead w 1) blk 0 (d.toList.drop (j * 2)) d (i * 2) (by simp; omega)
  rw [putRow_self id (Sort.ahead w 1) blk 0 d (holds_ahead id w 1 blk 0 d hH), List.map_id] at this
  rw [hW1, hnews, ← this]
  rfl
 have hH1 : Holds id W1 blk 0 (lay d (i * 2) (d.toList.drop (j * 2))) := by rw [hW1']; exact holds_putRow id _ blk 0 d _ (holds_ahead id w 1 blk 0 d hH) (lay_size _ _ _)
 have hcl : ∀ ty, (Builtin.clear_ #[34] ty #[.slice (some ⟨blk, (i + (n - j)) * 2, none⟩) (n - (i + (n - j))) (cap - (i + (n - j)))]).run Tryz.prog W1 = .ok (.tuple #[]) (W1.setCells blk ((n - 1) * 2) [encStr [], encStr []]) := fun ty => by
  have e1 : n - (i + (n - j)) = 1 := by omega
  have e2 : i + (n - j) = n - 1 := by omega
  rw [e1, e2]
  exact run_clear2 W1 34 41 ty _ (encStr []) (encStr []) Tryz.underlying34 Tryz.zeroValue41 rfl rfl rfl blk ((n - 1) * 2) (cap - (n - 1)) (fun t ht => by have := (hH1 ((n - 1) * 2 + t) (by rw [lay_size]; omega)).1; rw [Nat.zero_add] at this; rw [this]; rfl) (fun t ht => by have := (hH1 ((n - 1) * 2 + t) (by rw [lay_size]; omega)).2; rw [Nat.zero_add] at this; exact this)
 have X : Aside (W1 = putRow id (Sort.ahead w 1) blk 0 (lay d (i * 2) (d.toList.drop (j * 2)))) := hW1'
 have hW : Hid (W1 = w.drew.setCells blk (0 + i * 2) news) := hW1
 have hic : i ≤ cap := by omega
 have hjc : j ≤ cap := by omega
 clear hW1 hW1' hH1 hH hget hnews hlen
 obtain ⟨i0, hi0, hi1⟩ := Option.map_eq_some_iff.1 (show (Tryz.prog.info? 41).map (·.size) = some 2 by kernel_rfl)
 have mixed : Tryz.prog.follows Departure.mixedOrders = true := by kernel_rfl
 go_enter Tryz.func87, Tryz.ntmps87
 go_wp2_with fail
 go_region_law_o (refine step_append_room rfl (.tmp 22) (.tmp 25) 34 rfl 41 i0 2 Tryz.underlying34 hi0 hi1 blk 0 i cap (by simp [Act.eval, Act.put]) A (n - j) (cap - j) news (by simp [Act.eval, Act.put]) s1.out hsrc.out s2.out (by omega) s3.out ?_; rw [← hW.out])
 go_wp2
 go_ret
 refine ⟨by rw [show n - 1 = i + (n - j) by omega]; rfl, 1, ?_⟩
 have ej : j * 2 = (i + 1) * 2 := by omega
 have e3 := putRow_setCells id (Sort.ahead w 1) blk 0 [encStr [], encStr []] (lay d (i * 2) (d.toList.drop (j * 2))) ((n - 1) * 2) (by rw [lay_size]; simp; omega)
 rw [Nat.zero_add, List.map_id, ← X.out] at e3
 rw [e3, ej, delete_arr2 d n i (encStr []) (encStr []) hd hi]
theorem owns_delete {e : TypeId} {w : World} {v : Value} {xs : List (List Value)} {i : Nat} (hx : ∀ x ∈ xs, x.length = 2 ∧ ∀ u ∈ x, u.oneCell' = true) (ho : w.ownsRow 0 e 2 v xs.length xs.flatten) (hi : i < xs.length) (f : FuncId)
  (raw : ∀ (blk cap n i j : Nat) (d : Array Value) (w : World) (hd : d.size = n * 2) (hH : Holds id w blk 0 d) (hcap : n ≤ cap) (hm : cap ≤ 9223372036854775807) (hone : ∀ u ∈ d.toList, u.oneCell' = true) (hi : i < n) (hj : i < j) (hj2 : j ≤ i + 1) (hj3 : j ≤ n),
   Calls Tryz.prog f #[.slice (some ⟨blk, 0, none⟩) n cap, .int .i64 i, .int .i64 j] w fun e w' => e = .returned (.slice (some ⟨blk, 0, none⟩) (n - 1) cap) ∧ ∃ q, w' = putRow id (Sort.ahead w q) blk 0 (d.toList.take (i * 2) ++ d.toList.drop (j * 2) ++ [encStr [], encStr []]).toArray) :
  Calls Tryz.prog f (v :: [.int .i64 i, .int .i64 ((i + 1 : Nat) : Int)]).toArray w fun en w' => ∃ v', en = .returned v' ∧ v'.oneCell' = true ∧ v'.ownBlock = v.ownBlock ∧ w'.ownsRow 0 e 2 v' (xs.take i ++ xs.drop (i + 1)).length (xs.take i ++ xs.drop (i + 1)).flatten ∧ RowFrm w w' v := by
 have hfl : xs.flatten.length = xs.length * 2 := flat_len fun x h => (hx x h).1
 rcases ho.2 with ⟨_, h0⟩ | ⟨g, cap, cur, rfl, hb, hg, hn, hm, hs, ht⟩
 ·omega
 have hH : Holds id w g 0 xs.flatten.toArray := fun j hj => by
  have hj' : j < xs.length * 2 := by simpa [hfl] using hj
  refine ⟨?_, by simp [World.frozen?, hg]⟩
  have e1 : (cur.toList.take (xs.length * 2))[j]? = xs.flatten[j]? := by rw [ht]
  rw [List.getElem?_take, if_pos hj', Array.getElem?_toList, List.getElem?_eq_getElem (by omega)] at e1
  simp only [World.cell?, hg, Nat.zero_add]
  simp only [Option.isSome_none, Bool.false_eq_true, if_false]
  rw [e1]
  have hjl : j < xs.flatten.length := by omega
  simp [getElem!_pos, hjl, List.getElem?_eq_getElem hjl]
 have hml : maxLen ≤ 9223372036854775807 := by decide
 refine (raw g cap xs.length i (i + 1) xs.flatten.toArray w (by simpa using hfl) hH hn (by omega) (fun u hu => by
  obtain ⟨x, hx1, hx2⟩ := List.mem_flatten.1 (by simpa using hu)
  exact (hx x hx1).2 u hx2) hi (by omega) (by omega) (by omega)).mono ?_
 rintro en w' ⟨rfl, q, rfl⟩
 have hlen : (xs.take i ++ xs.drop (i + 1)).length = xs.length - 1 := by simp; omega
 have hx1 : ∀ x ∈ xs, x.length = 2 := fun x h => (hx x h).1
 have htk : (xs.take i).flatten = xs.flatten.take (i * 2) := by
  have := flat_len (k := 2) (xs := xs.take i) fun x h => hx1 x (List.mem_of_mem_take h)
  have e : xs.flatten = (xs.take i).flatten ++ (xs.drop i).flatten := by rw [← List.flatten_append, List.take_append_drop]
  rw [e, List.take_left' (by rw [this, List.length_take]; omega)]
 have hdr : (xs.drop (i + 1)).flatten = xs.flatten.drop ((i + 1) * 2) := by
  have := flat_len (k := 2) (xs := xs.take (i + 1)) fun x h => hx1 x (List.mem_of_mem_take h)
  have e : xs.flatten = (xs.take (i + 1)).flatten ++ (xs.drop (i + 1)).flatten := by rw [← List.flatten_append, List.take_append_drop]
  rw [e, List.drop_left' (by rw [this, List.length_take]; omega)]
 generalize hnew : (xs.take i ++ xs.drop (i + 1)).flatten = new
 have hnl : new.length = (xs.length - 1) * 2 := by
  rw [← hnew, ← hlen]
  refine flat_len fun x h => hx1 x ?_
  rcases List.mem_append.1 h with h | h
  ·exact List.mem_of_mem_take h
  ·exact List.mem_of_mem_drop h
 have hd : (xs.flatten.toArray.toList.take (i * 2) ++ xs.flatten.toArray.toList.drop ((i + 1) * 2) ++ [encStr [], encStr []]) = new ++ [encStr [], encStr []] := by
  rw [← hnew, List.flatten_append, htk, hdr]
 rw [hd, hlen]
 refine ⟨_, rfl, rfl, rfl, ⟨hnl, .inr ⟨g, cap, putCells id 0 (new ++ [encStr [], encStr []]).toArray cur, rfl, hb, ?_, by omega, hm, by simpa [putCells] using hs, ?_⟩⟩, ⟨rfl, rfl, rfl, by simp [putRow, mapBlock, Sort.ahead], fun k hk hne => ?_⟩⟩
 ·simp [putRow, mapBlock, Sort.ahead, Array.getElem?_modify, hg, onCells]
 ·apply List.ext_getElem?
  intro j
  rw [List.getElem?_take, Array.getElem?_toList]
  by_cases hj : j < (xs.length - 1) * 2
  ·have hjc : j < cur.size := by rw [hs]; omega
   simp only [if_pos hj, putCells, Array.getElem?_mapIdx, Array.getElem?_eq_getElem hjc, Option.map_some]
   rw [if_pos (by simp; omega), List.getElem?_eq_getElem (by omega)]
   simp [getElem!_pos, show j < new.length by omega, show j < new.length + 2 by omega]
  ·rw [if_neg hj, List.getElem?_eq_none (by omega)]
 ·have : g ≠ k := fun q => hne (by simp [Value.ownBlock, q])
  simp [putRow, mapBlock, Sort.ahead, Array.getElem?_modify, this]
end Go.Proofs.YteekfnhhlcmcgaaGreatDoor
namespace Go.Proofs.YteekfnhhlcmcgaaGreatDoor
open Go.Eng Go.Wh Go.Ver Go.Lk
set_option maxRecDepth 20000
attribute [local irreducible] AG CallA CallT AWp PCall ACall AgC
def eP (x : Prs) : List Value := [encStr x.1, encStr x.2]
theorem mapCP (l : List Prs) : l.map cP = (l.map eP).map fun x => x.map .v := by simp [eP, encStr]
theorem eP_ok (l : List Prs) : ∀ y ∈ l.map eP, y.length = 2 ∧ ∀ u ∈ y, u.oneCell' = true := by
 intro y hy
 obtain ⟨x, _, rfl⟩ := List.mem_map.1 hy
 refine ⟨rfl, fun u hu => ?_⟩
 simp only [eP, List.mem_cons, List.mem_nil_iff, or_false] at hu
 rcases hu with rfl | rfl <;> rfl
theorem delete_spec (nr gr : Nat) (l : List Prs) (i : Nat) (hi : i < l.length) (hn : 900000 ≤ nr) :
  ACall Tryz.prog 70 [.own nr gr, dI i, dI ((i : Int) + 1)] [(nr, (gr, .row 114 2 (l.map cP)))] [nr] fun ps r => ∃ g', ps = [(g', .row 114 2 ((lessN l i).map cP))] ∧ r = .own nr g' := by 
 have h := acall_cutk (P := Tryz.prog) (f := 70) (T := 114) (nr := nr) (gr := gr) (xs := l.map eP) (ys := (lessN l i).map eP) (vs := [.int .i64 i, .int .i64 ((i + 1 : Nat) : Int)]) ⟨_, Tryz.func70, by decide +kernel, rfl⟩ hn (by decide) (fun x hx => (eP_ok l x hx).1) (eP_ok _) (fun v w _ ho => by
  have := owns_delete (eP_ok l) ho (by simpa using hi) 70 delete_raw
  simpa [lessN] using this)
 rw [← mapCP, ← mapCP] at h
 have e : ((i + 1 : Nat) : Int) = (i : Int) + 1 := by omega
 rw [e] at h
 exact h
theorem deletep_spec (nr gr : Nat) (l : List Prs) (i : Nat) (hi : i < l.length) (hn : 900000 ≤ nr) :
  ACall Tryz.prog 87 [.own nr gr, dI i, dI ((i : Int) + 1)] [(nr, (gr, .row 41 2 (l.map cP)))] [nr] fun ps r => ∃ g', ps = [(g', .row 41 2 ((lessN l i).map cP))] ∧ r = .own nr g' := by 
 have h := acall_cutk (P := Tryz.prog) (f := 87) (T := 41) (nr := nr) (gr := gr) (xs := l.map eP) (ys := (lessN l i).map eP) (vs := [.int .i64 i, .int .i64 ((i + 1 : Nat) : Int)]) ⟨_, Tryz.func87, by decide +kernel, rfl⟩ hn (by decide) (fun x hx => (eP_ok l x hx).1) (eP_ok _) (fun v w _ ho => by
  have := owns_delete (eP_ok l) ho (by simpa using hi) 87 deletep_raw
  simpa [lessN] using this)
 rw [← mapCP, ← mapCP] at h
 have e : ((i + 1 : Nat) : Int) = (i : Int) + 1 := by omega
 rw [e] at h
 exact h
theorem pclone_own (nm : Nat) (l : List Prs) (hl : l.length ≤ 1000000) (h9 : 900000 ≤ nm) : ACall Tryz.prog 79 [dPs l] [] [nm] fun ps r => ∃ g, ps = [(g, .row 41 2 (l.map cP))] ∧ r = .own nm g := by 
 refine acall_of Tryz.func79 rfl rfl Tryz.ntmps79 (rs := [.tmp 2]) (tys := [34]) rfl rfl (by simp) (by simp) ?_
 cases l with
 | nil =>
  (refine awp_sr fun Y Yh => ?_; simp [go_sem]; ((repeat' (first|(refine ag_x ?_;simp [go_sem])|intro _|apply And.intro|(apply Yh;clear Yh Y)));all_goals first|apply Hold.mk|omega|with_reducible assumption|skip))
  refine awp_seq_k fun K1 hK1 => ?_
  (refine awp_sr fun Y Yh => ?_; simp [go_sem]; ((repeat' (first|(refine ag_x ?_;simp [go_sem])|intro _|apply And.intro|(apply Yh;clear Yh Y)));all_goals first|apply Hold.mk|omega|with_reducible assumption|skip))
  ·(refine awp_if fun T F hT hF => ?_; simp [go_sem]; refine hF ?_; clear hT hF T F)
   refine awp_skip ?_
   refine hK1 _ ?_; clear hK1
   (refine awp_sr fun Y Yh => ?_; simp [go_sem]; ((repeat' (first|(refine ag_x ?_;simp [go_sem])|intro _|apply And.intro|(apply Yh;clear Yh Y)));all_goals first|apply Hold.mk|omega|with_reducible assumption|skip))
   refine awp_renrow 2 nm rfl rfl (fun _ => h9) fun g => ?_
   simp only [go_sem]
   refine awp_ret ?_
   simp [go_sem]
  ·(refine awp_if fun T F hT hF => ?_; simp [go_sem]; refine hT ?_; clear hT hF T F)
   (refine awp_sr fun Y Yh => ?_; simp [go_sem]; ((repeat' (first|(refine ag_x ?_;simp [go_sem])|intro _|apply And.intro|(apply Yh;clear Yh Y)));all_goals first|apply Hold.mk|omega|with_reducible assumption|skip))
   refine awp_nilslot 2 nm 41 2 rfl fun g => ?_
   simp only [go_sem]
   refine awp_ret ?_
   simp [go_sem]
 | cons x r =>
  simp only [List.length_cons] at hl
  (refine awp_sr fun Y Yh => ?_; simp [go_sem]; ((repeat' (first|(refine ag_x ?_;simp [go_sem])|intro _|apply And.intro|(apply Yh;clear Yh Y)));all_goals first|apply Hold.mk|omega|with_reducible assumption|skip))
  refine awp_seq_k fun K1 hK1 => ?_
  (refine awp_sr fun Y Yh => ?_; simp [go_sem]; ((repeat' (first|(refine ag_x ?_;simp [go_sem])|intro _|apply And.intro|(apply Yh;clear Yh Y)));all_goals first|apply Hold.mk|omega|with_reducible assumption|skip))
  refine awp_if fun T F hT hF => ?_
  simp [go_sem]
  refine hF ?_
  refine awp_skip ?_
  refine hK1 _ ?_; clear hK1
  (refine awp_sr fun Y Yh => ?_; simp [go_sem]; ((repeat' (first|(refine ag_x ?_;simp [go_sem])|intro _|apply And.intro|(apply Yh;clear Yh Y)));all_goals first|apply Hold.mk|omega|with_reducible assumption|skip))
  refine awp_renrow 2 nm rfl rfl (fun _ => h9) fun g => ?_
  simp only [go_sem]
  refine awp_ret ?_
  simp [go_sem]
set_option maxHeartbeats 32000000 in
theorem Why_spec (s : Src) (w : List Prs) (b : Int) (hs : SzS s) (hw : SzN w) (hbr : InR b) : PCall Tryz.prog 29 [dSrc s, dPs w, dI b] fun r => r = .tup [dPs (whyV s w b).1, dI (whyV s w b).2] := by 
 refine pcall_of Tryz.func29 rfl rfl Tryz.ntmps29 (rs := [.tmp 6, .tmp 7]) (tys := [38, 35]) rfl rfl (by simp) ?_
 have A := asked_spec s w b hs hw hbr
 by_cases hok : chkV s w = true ∧ 1 ≤ b ∧ b ≤ 100000
 ·have hsu := (chk_parts hok.1).1
  have h15 := (suV_parts hsu).1
  obtain ⟨bud, rfl⟩ : ∃ n : Nat, b = n := ⟨b.toNat, by omega⟩
  have BG := fun w' hc => begin_spec s w' bud hc (by omega)
  have hsv : ∀ w', chkV s w' = true → (solV s w' bud).2.2 = (qV s w' bud).1.2 := fun w' h => by unfold solV; rw [if_pos ⟨h, hok.2⟩, Int.toNat_natCast]
  have T : ∀ w', (qV s w' bud).1.2 = 0 ∨ (qV s w' bud).1.2 = 3 ∨ (qV s w' bud).1.2 = 12 := fun w' => (restV_tlk s w' bud (s.length + 1) [] 0 (by omega)).2.2.2
  have NC := nclone_spec w hw.1
  rw [if_pos hok] at A
  unfold whyV
  rw [hsv w hok.1]
  have B0 := BG w hok.1
  have T0 := T w
  generalize hq : qV s w bud = q0 at *
  obtain ⟨⟨o0, e0⟩, t0⟩ := q0
  simp only at B0 T0 ⊢
  (refine awp_sr fun Y Yh => ?_; simp [go_sem]; ((repeat' (first|(refine ag_x ?_;simp [go_sem])|intro _|apply And.intro|(apply Yh;clear Yh Y)));all_goals first|apply Hold.mk|omega|with_reducible assumption|skip))
  refine awp_frzbox 3 rfl rfl ?_
  simp only [go_sem]
  refine awp_seq_k fun K1 hK1 => ?_
  (refine awp_sr fun Y Yh => ?_; simp [go_sem]; ((repeat' (first|(refine ag_x ?_;simp [go_sem])|intro _|apply And.intro|(apply Yh;clear Yh Y)));all_goals first|apply Hold.mk|omega|with_reducible assumption|skip))
  ((try refine CallT.toA ?_); refine callT_m (.inl ⟨rfl,rfl⟩) (by simp [go_sem]) ?_; intro args ha; simp [go_sem] at ha; subst ha; refine ⟨_, A, ?_⟩; rintro _ rfl; simp [go_sem]; ((repeat' (first|(refine ag_x ?_;simp [go_sem])|intro _|apply And.intro|(apply Yh;clear Yh Y)));all_goals first|apply Hold.mk|omega|with_reducible assumption|skip))
  (refine awp_sr fun Y Yh => ?_; simp [go_sem]; ((repeat' (first|(refine ag_x ?_;simp [go_sem])|intro _|apply And.intro|(apply Yh;clear Yh Y)));all_goals first|apply Hold.mk|omega|with_reducible assumption|skip))
  (refine awp_if fun T F hT hF => ?_; simp [go_sem]; refine hF ?_; clear hT hF T F)
  refine awp_skip ?_
  refine hK1 _ ?_; clear hK1
  refine awp_seq_k fun K3 hK3 => ?_
  (refine awp_sr fun Y Yh => ?_; simp [go_sem]; ((repeat' (first|(refine ag_x ?_;simp [go_sem])|intro _|apply And.intro|(apply Yh;clear Yh Y)));all_goals first|apply Hold.mk|omega|with_reducible assumption|skip))
  (refine callA_l [900002, 900003] (.inl ⟨rfl,rfl⟩) (by simp [go_sem]) ?_; intro args ha; simp [go_sem] at ha; subst ha; refine ⟨_, _, B0, (by simp [go_sem]), ?_⟩; rintro ps r hps ⟨gb, gm, N', l', ⟨rfl, rfl⟩, h0⟩; simp [go_sem]; ((repeat' (first|(refine ag_x ?_;simp [go_sem])|intro _|apply And.intro|(apply Yh;clear Yh Y)));all_goals first|apply Hold.mk|omega|with_reducible assumption|skip))
  (refine awp_sr fun Y Yh => ?_; simp [go_sem]; ((repeat' (first|(refine ag_x ?_;simp [go_sem])|intro _|apply And.intro|(apply Yh;clear Yh Y)));all_goals first|apply Hold.mk|omega|with_reducible assumption|skip))
  refine awp_block ?_
  (refine awp_sr fun Y Yh => ?_; simp [go_sem]; ((repeat' (first|(refine ag_x ?_;simp [go_sem])|intro _|apply And.intro|(apply Yh;clear Yh Y)));all_goals first|apply Hold.mk|omega|with_reducible assumption|skip))
  by_cases h0e : e0 = 0
  ·(refine awp_if fun T F hT hF => ?_; simp [go_sem, h0e]; refine hT ?_; clear hT hF T F)
   (refine awp_sr fun Y Yh => ?_; simp [go_sem]; ((repeat' (first|(refine ag_x ?_;simp [go_sem])|intro _|apply And.intro|(apply Yh;clear Yh Y)));all_goals first|apply Hold.mk|omega|with_reducible assumption|skip))
   (refine awp_ret ?_; simp [go_sem, h0e])
  have h0i : ¬ (e0 : Int) = 0 := by omega
  (refine awp_if fun T F hT hF => ?_; simp [go_sem, h0e, h0i]; refine hF ?_; clear hT hF T F)
  rw [if_neg h0e]
  (refine awp_sr fun Y Yh => ?_; simp [go_sem]; ((repeat' (first|(refine ag_x ?_;simp [go_sem])|intro _|apply And.intro|(apply Yh;clear Yh Y)));all_goals first|apply Hold.mk|omega|with_reducible assumption|skip))
  by_cases h12e : e0 = 12
  ·(refine awp_if fun T F hT hF => ?_; simp [go_sem, h12e]; refine hT ?_; clear hT hF T F)
   (refine awp_sr fun Y Yh => ?_; simp [go_sem]; ((repeat' (first|(refine ag_x ?_;simp [go_sem])|intro _|apply And.intro|(apply Yh;clear Yh Y)));all_goals first|apply Hold.mk|omega|with_reducible assumption|skip))
   (refine awp_ret ?_; simp [go_sem, h12e])
  have h12i : ¬ (e0 : Int) = 12 := by omega
  have h3e : e0 = 3 := by omega
  subst h3e
  (refine awp_if fun T F hT hF => ?_; simp [go_sem, h12e, h12i]; refine hF ?_; clear hT hF T F)
  refine awp_skip ?_
  refine hK3 _ ?_; clear hK3
  rw [if_neg (by simp)]
  (refine awp_sr fun Y Yh => ?_; simp [go_sem]; ((repeat' (first|(refine ag_x ?_;simp [go_sem])|intro _|apply And.intro|(apply Yh;clear Yh Y)));all_goals first|apply Hold.mk|omega|with_reducible assumption|skip))
  ((try refine CallT.toA ?_); refine callT_m (.inl ⟨rfl,rfl⟩) (by simp [go_sem]) ?_; intro args ha; simp [go_sem] at ha; subst ha; refine ⟨_, NC, ?_⟩; rintro _ rfl; simp [go_sem]; ((repeat' (first|(refine ag_x ?_;simp [go_sem])|intro _|apply And.intro|(apply Yh;clear Yh Y)));all_goals first|apply Hold.mk|omega|with_reducible assumption|skip))
  refine awp_seq_k fun K6 hK6 => ?_
  (refine awp_sr fun Y Yh => ?_; simp [go_sem]; ((repeat' (first|(refine ag_x ?_;simp [go_sem])|intro _|apply And.intro|(apply Yh;clear Yh Y)));all_goals first|apply Hold.mk|omega|with_reducible assumption|skip))
  refine awp_block ?_
  generalize hW : whyL s bud w.length w 0 = W at *
  refine awp_loop (σ := List Prs × Nat) (fun z => ⟨[(2, dI bud), (3, .rd [dGms s]), (11, dPs z.1), (12, dI z.2)], []⟩) (fun z => z.2 ≤ z.1.length ∧ chkV s z.1 = true ∧ whyL s bud (z.1.length - z.2) z.1 z.2 = W) (fun z => z.1.length - z.2) (w, 0) ?_ ?_ ?_
  ·(refine cov_of ?_ ?_ <;> simp [go_sem])
  ·exact ⟨by simp, hok.1, by simpa using hW⟩
  rintro ⟨left, i⟩ ⟨hi, hcz, hWi⟩
  simp only at hi hcz hWi
  refine awp_seq_k fun K7 hK7 => ?_
  (refine awp_sr fun Y Yh => ?_; simp [go_sem]; ((repeat' (first|(refine ag_x ?_;simp [go_sem])|intro _|apply And.intro|(apply Yh;clear Yh Y)));all_goals first|apply Hold.mk|omega|with_reducible assumption|skip))
  (refine awp_if fun T F hT hF => ?_; simp [go_sem]; refine BR.intro (fun h8 => hT ?_) (fun h8 => hF ?_); all_goals clear hT hF T F; try simp at h8)
  ·refine awp_skip ?_
   refine hK7 _ ?_; clear hK7
   have hil : i < left.length := by omega
   have hlz := (chk_parts hcz).2.1
   have hlz1 := hlz.1
   rw [whyL_step hil] at hWi
   have hle := lessN_len hil
   have hcl := chkV_sub hcz (lessN_sub left i)
   have B1 := BG (lessN left i) hcl
   have T1 := T (lessN left i)
   rw [hsv _ hcl] at hWi
   generalize hq1 : qV s (lessN left i) bud = q1 at *
   obtain ⟨⟨o1, e1⟩, t1⟩ := q1
   simp only at B1 T1 hWi
   refine awp_block ?_
   (refine awp_sr fun Y Yh => ?_; simp [go_sem]; ((repeat' (first|(refine ag_x ?_;simp [go_sem])|intro _|apply And.intro|(apply Yh;clear Yh Y)));all_goals first|apply Hold.mk|omega|with_reducible assumption|skip))
   (refine callA_l [900010] (.inl ⟨rfl,rfl⟩) (by simp [go_sem]) ?_; intro args ha; simp [go_sem] at ha; subst ha; refine ⟨_, _, (nclone_own 900010 left hlz.1 (by decide)), (by simp [go_sem]), ?_⟩; rintro ps r hps ⟨g1, rfl, rfl⟩; simp [go_sem]; ((repeat' (first|(refine ag_x ?_;simp [go_sem])|intro _|apply And.intro|(apply Yh;clear Yh Y)));all_goals first|apply Hold.mk|omega|with_reducible assumption|skip))
   (refine callA_l [900010] (.inl ⟨rfl,rfl⟩) (by simp [go_sem]) ?_; intro args ha; simp [go_sem] at ha; subst ha; refine ⟨_, _, (delete_spec 900010 g1 left i hil (by decide)), (by simp [go_sem]), ?_⟩; rintro ps r hps ⟨g2, rfl, rfl⟩; simp [go_sem]; ((repeat' (first|(refine ag_x ?_;simp [go_sem])|intro _|apply And.intro|(apply Yh;clear Yh Y)));all_goals first|apply Hold.mk|omega|with_reducible assumption|skip))
   refine awp_frzrow 13 rfl rfl ?_
   simp only [go_sem]
   (refine awp_sr fun Y Yh => ?_; simp [go_sem]; ((repeat' (first|(refine ag_x ?_;simp [go_sem])|intro _|apply And.intro|(apply Yh;clear Yh Y)));all_goals first|apply Hold.mk|omega|with_reducible assumption|skip))
   (refine callA_l [900002, 900003] (.inl ⟨rfl,rfl⟩) (by simp [go_sem]) ?_; intro args ha; simp [go_sem] at ha; subst ha; refine ⟨_, _, B1, (by simp [go_sem]), ?_⟩; rintro ps r hps ⟨gb1, gm1, N1, l1, ⟨rfl, rfl⟩, h01⟩; simp [go_sem]; ((repeat' (first|(refine ag_x ?_;simp [go_sem])|intro _|apply And.intro|(apply Yh;clear Yh Y)));all_goals first|apply Hold.mk|omega|with_reducible assumption|skip))
   (refine awp_sr fun Y Yh => ?_; simp [go_sem]; ((repeat' (first|(refine ag_x ?_;simp [go_sem])|intro _|apply And.intro|(apply Yh;clear Yh Y)));all_goals first|apply Hold.mk|omega|with_reducible assumption|skip))
   refine awp_block ?_
   (refine awp_sr fun Y Yh => ?_; simp [go_sem]; ((repeat' (first|(refine ag_x ?_;simp [go_sem])|intro _|apply And.intro|(apply Yh;clear Yh Y)));all_goals first|apply Hold.mk|omega|with_reducible assumption|skip))
   by_cases h12 : e1 = 12
   ·subst h12
    (refine awp_if fun T F hT hF => ?_; simp [go_sem]; refine hT ?_; clear hT hF T F)
    (refine awp_sr fun Y Yh => ?_; simp [go_sem]; ((repeat' (first|(refine ag_x ?_;simp [go_sem])|intro _|apply And.intro|(apply Yh;clear Yh Y)));all_goals first|apply Hold.mk|omega|with_reducible assumption|skip))
    rw [if_pos rfl] at hWi
    subst hWi
    (refine awp_ret ?_; simp [go_sem])
   have h12i : ¬ (e1 : Int) = 12 := by omega
   (refine awp_if fun T F hT hF => ?_; simp [go_sem, h12, h12i]; refine hF ?_; clear hT hF T F)
   rw [if_neg h12] at hWi
   (refine awp_sr fun Y Yh => ?_; simp [go_sem]; ((repeat' (first|(refine ag_x ?_;simp [go_sem])|intro _|apply And.intro|(apply Yh;clear Yh Y)));all_goals first|apply Hold.mk|omega|with_reducible assumption|skip))
   by_cases h3 : e1 = 3
   ·subst h3
    rw [if_pos rfl] at hWi
    (refine awp_if fun T F hT hF => ?_; simp [go_sem]; refine hT ?_; clear hT hF T F)
    (refine awp_r fun Y Yh => ?_; simp [go_sem]; ((repeat' (first|(refine ag_x ?_;simp [go_sem])|intro _|apply And.intro|(apply Yh;clear Yh Y)));all_goals first|apply Hold.mk|omega|with_reducible assumption|skip))
    refine ⟨(lessN left i, i), ?_, ⟨by simp only; omega, hcl, hWi⟩, by simp only; omega⟩
    (refine cov_of ?_ ?_ <;> simp [go_sem])
   ·have h3i : ¬ (e1 : Int) = 3 := by omega
    rw [if_neg h3] at hWi
    (refine awp_if fun T F hT hF => ?_; simp [go_sem, h3, h3i]; refine hF ?_; clear hT hF T F)
    (refine awp_r fun Y Yh => ?_; simp [go_sem]; ((repeat' (first|(refine ag_x ?_;simp [go_sem])|intro _|apply And.intro|(apply Yh;clear Yh Y)));all_goals first|apply Hold.mk|omega|with_reducible assumption|skip))
    refine ⟨(left, i + 1), ?_, ⟨by simp only; omega, hcz, hWi⟩, by simp only; omega⟩
    (refine cov_of ?_ ?_ <;> simp [go_sem])
  ·refine awp_exit ?_
   simp only [go_sem]
   refine hK6 _ ?_; clear hK6
   have hie : i = left.length := by omega
   rw [whyL_end (by omega)] at hWi
   subst hWi
   (refine awp_sr fun Y Yh => ?_; simp [go_sem]; ((repeat' (first|(refine ag_x ?_;simp [go_sem])|intro _|apply And.intro|(apply Yh;clear Yh Y)));all_goals first|apply Hold.mk|omega|with_reducible assumption|skip))
   (refine awp_ret ?_; simp [go_sem])
 ·rw [if_neg hok] at A
  have hsv : solV s w b = ([], 0, 1) := by unfold solV; rw [if_neg hok]
  unfold whyV
  rw [hsv]
  (refine awp_sr fun Y Yh => ?_; simp [go_sem]; ((repeat' (first|(refine ag_x ?_;simp [go_sem])|intro _|apply And.intro|(apply Yh;clear Yh Y)));all_goals first|apply Hold.mk|omega|with_reducible assumption|skip))
  refine awp_frzbox 3 rfl rfl ?_
  simp only [go_sem]
  refine awp_seq_k fun K1 hK1 => ?_
  (refine awp_sr fun Y Yh => ?_; simp [go_sem]; ((repeat' (first|(refine ag_x ?_;simp [go_sem])|intro _|apply And.intro|(apply Yh;clear Yh Y)));all_goals first|apply Hold.mk|omega|with_reducible assumption|skip))
  ((try refine CallT.toA ?_); refine callT_m (.inl ⟨rfl,rfl⟩) (by simp [go_sem]) ?_; intro args ha; simp [go_sem] at ha; subst ha; refine ⟨_, A, ?_⟩; rintro _ rfl; simp [go_sem]; ((repeat' (first|(refine ag_x ?_;simp [go_sem])|intro _|apply And.intro|(apply Yh;clear Yh Y)));all_goals first|apply Hold.mk|omega|with_reducible assumption|skip))
  (refine awp_sr fun Y Yh => ?_; simp [go_sem]; ((repeat' (first|(refine ag_x ?_;simp [go_sem])|intro _|apply And.intro|(apply Yh;clear Yh Y)));all_goals first|apply Hold.mk|omega|with_reducible assumption|skip))
  (refine awp_if fun T F hT hF => ?_; simp [go_sem]; refine hT ?_; clear hT hF T F)
  (refine awp_sr fun Y Yh => ?_; simp [go_sem]; ((repeat' (first|(refine ag_x ?_;simp [go_sem])|intro _|apply And.intro|(apply Yh;clear Yh Y)));all_goals first|apply Hold.mk|omega|with_reducible assumption|skip))
  (refine awp_ret ?_; simp [go_sem])
set_option maxHeartbeats 4000000 in
theorem rTries_spec (s : Src) (w : List Prs) (b : Int) (hs : SzS s) (hw : SzN w) : PCall Tryz.prog 74 [dSrc s, dPs w, dI b] fun r => r = .tup [dI (triV s w b).1, dI (triV s w b).2] := by 
 refine pcall_of Tryz.func74 rfl rfl Tryz.ntmps74 (rs := [.tmp 6, .tmp 7]) (tys := [3, 35]) rfl rfl (by simp) ?_
 have SO := solved_spec s w b hs hw
 unfold triV
 generalize solV s w b = q at *
 obtain ⟨l, n, e⟩ := q
 simp only at SO ⊢
 (refine awp_sr fun Y Yh => ?_; simp [go_sem]; ((repeat' (first|(refine ag_x ?_;simp [go_sem])|intro _|apply And.intro|(apply Yh;clear Yh Y)));all_goals first|apply Hold.mk|omega|with_reducible assumption|skip))
 refine awp_frzbox 3 rfl rfl ?_
 simp only [go_sem]
 (refine awp_sr fun Y Yh => ?_; simp [go_sem]; ((repeat' (first|(refine ag_x ?_;simp [go_sem])|intro _|apply And.intro|(apply Yh;clear Yh Y)));all_goals first|apply Hold.mk|omega|with_reducible assumption|skip))
 ((try refine CallT.toA ?_); refine callT_m (.inl ⟨rfl,rfl⟩) (by simp [go_sem]) ?_; intro args ha; simp [go_sem] at ha; subst ha; refine ⟨_, SO, ?_⟩; rintro _ rfl; simp [go_sem]; ((repeat' (first|(refine ag_x ?_;simp [go_sem])|intro _|apply And.intro|(apply Yh;clear Yh Y)));all_goals first|apply Hold.mk|omega|with_reducible assumption|skip))
 refine awp_seq_k fun K1 hK1 => ?_
 by_cases h0 : e = 0
 ·subst h0
  (refine awp_sr fun Y Yh => ?_; simp [go_sem]; ((repeat' (first|(refine ag_false ?_ ?_ ?_;(focus (simp [go_sem, undef];done));(focus (simp [go_sem];done));simp [go_sem])|(refine ag_true ?_ ?_;(focus (simp [go_sem, undef];done));simp [go_sem])|(refine ag_x ?_;simp [go_sem, undef])|intro _|apply And.intro|(apply Yh;clear Yh Y)));all_goals first|apply Hold.mk|omega|with_reducible assumption|skip))
  (refine awp_if fun T F hT hF => ?_; simp [go_sem]; refine hT ?_; clear hT hF T F)
  (refine awp_sr fun Y Yh => ?_; simp [go_sem]; ((repeat' (first|(refine ag_x ?_;simp [go_sem])|intro _|apply And.intro|(apply Yh;clear Yh Y)));all_goals first|apply Hold.mk|omega|with_reducible assumption|skip))
  (refine awp_ret ?_; simp [go_sem])
 ·have h0i : ¬ (e : Int) = 0 := by omega
  by_cases h3 : e = 3
  ·subst h3
   (refine awp_sr fun Y Yh => ?_; simp [go_sem]; ((repeat' (first|(refine ag_x ?_;simp [go_sem])|intro _|apply And.intro|(apply Yh;clear Yh Y)));all_goals first|apply Hold.mk|omega|with_reducible assumption|skip))
   (refine awp_if fun T F hT hF => ?_; simp [go_sem]; refine hT ?_; clear hT hF T F)
   (refine awp_sr fun Y Yh => ?_; simp [go_sem]; ((repeat' (first|(refine ag_x ?_;simp [go_sem])|intro _|apply And.intro|(apply Yh;clear Yh Y)));all_goals first|apply Hold.mk|omega|with_reducible assumption|skip))
   (refine awp_ret ?_; simp [go_sem])
  ·have h3i : ¬ (e : Int) = 3 := by omega
   (refine awp_sr fun Y Yh => ?_; simp [go_sem, h0, h0i, h3, h3i]; ((repeat' (first|(refine ag_x ?_;simp [go_sem, h0, h0i, h3, h3i])|intro _|apply And.intro|(apply Yh;clear Yh Y)));all_goals first|apply Hold.mk|omega|with_reducible assumption|skip))
   (refine awp_if fun T F hT hF => ?_; simp [go_sem, h0, h0i, h3, h3i]; refine hF ?_; clear hT hF T F)
   refine awp_skip ?_
   refine hK1 _ ?_; clear hK1
   (refine awp_sr fun Y Yh => ?_; simp [go_sem]; ((repeat' (first|(refine ag_x ?_;simp [go_sem])|intro _|apply And.intro|(apply Yh;clear Yh Y)));all_goals first|apply Hold.mk|omega|with_reducible assumption|skip))
   (refine awp_ret ?_; simp [go_sem, h0, h3])
set_option maxHeartbeats 16000000 in
theorem rWhy_spec (s : Src) (w : List Prs) (b : Int) (hs : SzS s) (hw : SzN w) : PCall Tryz.prog 73 [dSrc s, dPs w, dI b] fun r => r = .tup [dPs (whyV s w b).1, dI (whyV s w b).2] := by 
 refine pcall_of Tryz.func73 rfl rfl Tryz.ntmps73 (rs := [.tmp 6, .tmp 7]) (tys := [26, 35]) rfl rfl (by simp) ?_
 have SO := fun w' hw' => solved_spec s w' b hs hw'
 have S0 := SO w hw
 unfold whyV
 generalize solV s w b = q0 at S0 ⊢
 obtain ⟨l0, n0, e0⟩ := q0
 simp only at S0 ⊢
 (refine awp_sr fun Y Yh => ?_; simp [go_sem]; ((repeat' (first|(refine ag_x ?_;simp [go_sem])|intro _|apply And.intro|(apply Yh;clear Yh Y)));all_goals first|apply Hold.mk|omega|with_reducible assumption|skip))
 refine awp_frzbox 3 rfl rfl ?_
 simp only [go_sem]
 (refine awp_sr fun Y Yh => ?_; simp [go_sem]; ((repeat' (first|(refine ag_x ?_;simp [go_sem])|intro _|apply And.intro|(apply Yh;clear Yh Y)));all_goals first|apply Hold.mk|omega|with_reducible assumption|skip))
 ((try refine CallT.toA ?_); refine callT_m (.inl ⟨rfl,rfl⟩) (by simp [go_sem]) ?_; intro args ha; simp [go_sem] at ha; subst ha; refine ⟨_, S0, ?_⟩; rintro _ rfl; simp [go_sem]; ((repeat' (first|(refine ag_x ?_;simp [go_sem])|intro _|apply And.intro|(apply Yh;clear Yh Y)));all_goals first|apply Hold.mk|omega|with_reducible assumption|skip))
 refine awp_seq_k fun K1 hK1 => ?_
 (refine awp_sr fun Y Yh => ?_; simp [go_sem]; ((repeat' (first|(refine ag_x ?_;simp [go_sem])|intro _|apply And.intro|(apply Yh;clear Yh Y)));all_goals first|apply Hold.mk|omega|with_reducible assumption|skip))
 by_cases h0 : e0 = 0
 ·subst h0
  (refine awp_if fun T F hT hF => ?_; simp [go_sem]; refine hT ?_; clear hT hF T F)
  (refine awp_sr fun Y Yh => ?_; simp [go_sem]; ((repeat' (first|(refine ag_x ?_;simp [go_sem])|intro _|apply And.intro|(apply Yh;clear Yh Y)));all_goals first|apply Hold.mk|omega|with_reducible assumption|skip))
  (refine awp_ret ?_; simp [go_sem])
 have h0i : ¬ (e0 : Int) = 0 := by omega
 (refine awp_if fun T F hT hF => ?_; simp [go_sem, h0, h0i]; refine hF ?_; clear hT hF T F)
 refine awp_skip ?_
 refine hK1 _ ?_; clear hK1
 rw [if_neg h0]
 refine awp_seq_k fun K2 hK2 => ?_
 (refine awp_sr fun Y Yh => ?_; simp [go_sem]; ((repeat' (first|(refine ag_x ?_;simp [go_sem])|intro _|apply And.intro|(apply Yh;clear Yh Y)));all_goals first|apply Hold.mk|omega|with_reducible assumption|skip))
 by_cases h3 : e0 = 3
 rotate_left
 ·have h3i : ¬ (e0 : Int) = 3 := by omega
  (refine awp_if fun T F hT hF => ?_; simp [go_sem, h3, h3i]; refine hT ?_; clear hT hF T F)
  (refine awp_sr fun Y Yh => ?_; simp [go_sem]; ((repeat' (first|(refine ag_x ?_;simp [go_sem])|intro _|apply And.intro|(apply Yh;clear Yh Y)));all_goals first|apply Hold.mk|omega|with_reducible assumption|skip))
  (refine awp_ret ?_; simp [go_sem, h3])
 subst h3
 (refine awp_if fun T F hT hF => ?_; simp [go_sem]; refine hF ?_; clear hT hF T F)
 refine awp_skip ?_
 refine hK2 _ ?_; clear hK2
 rw [if_neg (by simp)]
 obtain ⟨hw0, hw1⟩ := hw
 (refine awp_sr fun Y Yh => ?_; simp [go_sem]; ((repeat' (first|(refine ag_x ?_;simp [go_sem])|intro _|apply And.intro|(apply Yh;clear Yh Y)));all_goals first|apply Hold.mk|omega|with_reducible assumption|skip))
 refine awp_frzrow 11 rfl rfl ?_
 simp only [go_sem]
 refine awp_seq_k fun K3 hK3 => ?_
 (refine awp_sr fun Y Yh => ?_; simp [go_sem]; ((repeat' (first|(refine ag_x ?_;simp [go_sem])|intro _|apply And.intro|(apply Yh;clear Yh Y)));all_goals first|apply Hold.mk|omega|with_reducible assumption|skip))
 refine awp_block ?_
 generalize hW : whyL s b w.length w 0 = W at *
 refine awp_loop (σ := List Prs × Nat) (fun z => ⟨[(2, dI b), (3, .rd [dGms s]), (11, dPs z.1), (12, dI z.2)], []⟩) (fun z => z.2 ≤ z.1.length ∧ SzN z.1 ∧ whyL s b (z.1.length - z.2) z.1 z.2 = W) (fun z => z.1.length - z.2) (w, 0) ?_ ?_ ?_
 ·(refine cov_of ?_ ?_ <;> simp [go_sem])
 ·exact ⟨by simp, ⟨hw0, hw1⟩, by simpa using hW⟩
 rintro ⟨left, i⟩ ⟨hi, ⟨hz0, hz1⟩, hWi⟩
 simp only at hi hz0 hz1 hWi
 refine awp_seq_k fun K4 hK4 => ?_
 (refine awp_sr fun Y Yh => ?_; simp [go_sem]; ((repeat' (first|(refine ag_x ?_;simp [go_sem])|intro _|apply And.intro|(apply Yh;clear Yh Y)));all_goals first|apply Hold.mk|omega|with_reducible assumption|skip))
 (refine awp_if fun T F hT hF => ?_; simp [go_sem]; refine BR.intro (fun h5 => hT ?_) (fun h5 => hF ?_); all_goals clear hT hF T F; try simp at h5)
 ·refine awp_skip ?_
  refine hK4 _ ?_; clear hK4
  have hil : i < left.length := by omega
  rw [whyL_step hil] at hWi
  have hle := lessN_len hil
  have hz' : SzN (lessN left i) := ⟨by omega, fun x hx => hz1 x (by
   rcases List.mem_append.1 hx with q | q
   ·exact List.mem_of_mem_take q
   ·exact List.mem_of_mem_drop q)⟩
  have S1 := SO (lessN left i) hz'
  have hcell : dPs (lessN left i) = D.sl 2 ((left.map cP).take i ++ (left.map cP).drop (i + 1)) := by unfold lessN; show D.sl 2 _ = _; rw [List.map_append, List.map_take, List.map_drop]
  generalize solV s (lessN left i) b = q at S1 hWi
  obtain ⟨l1, n1, e1⟩ := q
  simp only at S1 hWi
  refine awp_block ?_
  ((refine awp_dr (.qs [1, 2, 3, 5, 6, 7, 8] (.one 0 (.one 4 (.one 9 (.qs [10] (.nil)))))) (by kernel_rfl) ?_ ?_ ?_ ?_); (kernel_rfl); (exact (by decide +kernel)); (kernel_rfl); intro Y Yh; ((repeat' (first|(refine ag_x ?_;simp [go_sem])|refine adr_nil ?_|((first|refine adr_qs fun Y Yh=>?_|refine adr_y fun Y Yh=>?_);simp [go_sem])|intro _|apply And.intro|(apply Yh;clear Yh Y)));all_goals first|apply Hold.mk|omega|with_reducible assumption|skip))
  refine awp_frzrow 13 rfl rfl ?_
  simp only [go_sem]
  rw [← hcell]
  (refine awp_sr fun Y Yh => ?_; simp [go_sem]; ((repeat' (first|(refine ag_x ?_;simp [go_sem])|intro _|apply And.intro|(apply Yh;clear Yh Y)));all_goals first|apply Hold.mk|omega|with_reducible assumption|skip))
  ((try refine CallT.toA ?_); refine callT_m (.inl ⟨rfl,rfl⟩) (by simp [go_sem]) ?_; intro args ha; simp [go_sem] at ha; subst ha; refine ⟨_, S1, ?_⟩; rintro _ rfl; simp [go_sem]; ((repeat' (first|(refine ag_x ?_;simp [go_sem])|intro _|apply And.intro|(apply Yh;clear Yh Y)));all_goals first|apply Hold.mk|omega|with_reducible assumption|skip))
  refine awp_seq_k fun K6 hK6 => ?_
  (refine awp_sr fun Y Yh => ?_; simp [go_sem]; ((repeat' (first|(refine ag_x ?_;simp [go_sem])|intro _|apply And.intro|(apply Yh;clear Yh Y)));all_goals first|apply Hold.mk|omega|with_reducible assumption|skip))
  by_cases h12 : e1 = 12
  ·subst h12
   (refine awp_if fun T F hT hF => ?_; simp [go_sem]; refine hT ?_; clear hT hF T F)
   (refine awp_sr fun Y Yh => ?_; simp [go_sem]; ((repeat' (first|(refine ag_x ?_;simp [go_sem])|intro _|apply And.intro|(apply Yh;clear Yh Y)));all_goals first|apply Hold.mk|omega|with_reducible assumption|skip))
   rw [if_pos rfl] at hWi
   subst hWi
   (refine awp_ret ?_; simp [go_sem])
  have h12i : ¬ (e1 : Int) = 12 := by omega
  (refine awp_if fun T F hT hF => ?_; simp [go_sem, h12, h12i]; refine hF ?_; clear hT hF T F)
  refine awp_skip ?_
  refine hK6 _ ?_; clear hK6
  rw [if_neg h12] at hWi
  (refine awp_sr fun Y Yh => ?_; simp [go_sem]; ((repeat' (first|(refine ag_x ?_;simp [go_sem])|intro _|apply And.intro|(apply Yh;clear Yh Y)));all_goals first|apply Hold.mk|omega|with_reducible assumption|skip))
  by_cases h3 : e1 = 3
  ·subst h3
   rw [if_pos rfl] at hWi
   (refine awp_if fun T F hT hF => ?_; simp [go_sem]; refine hT ?_; clear hT hF T F)
   (refine awp_r fun Y Yh => ?_; simp [go_sem]; ((repeat' (first|(refine ag_x ?_;simp [go_sem])|intro _|apply And.intro|(apply Yh;clear Yh Y)));all_goals first|apply Hold.mk|omega|with_reducible assumption|skip))
   refine ⟨(lessN left i, i), ?_, ⟨by simp only; omega, hz', hWi⟩, by simp only; omega⟩
   (refine cov_of ?_ ?_ <;> simp [go_sem])
  ·have h3i : ¬ (e1 : Int) = 3 := by omega
   rw [if_neg h3] at hWi
   (refine awp_if fun T F hT hF => ?_; simp [go_sem, h3, h3i]; refine hF ?_; clear hT hF T F)
   (refine awp_r fun Y Yh => ?_; simp [go_sem]; ((repeat' (first|(refine ag_x ?_;simp [go_sem])|intro _|apply And.intro|(apply Yh;clear Yh Y)));all_goals first|apply Hold.mk|omega|with_reducible assumption|skip))
   refine ⟨(left, i + 1), ?_, ⟨by simp only; omega, ⟨hz0, hz1⟩, hWi⟩, by simp only; omega⟩
   (refine cov_of ?_ ?_ <;> simp [go_sem])
 ·refine awp_exit ?_
  simp only [go_sem]
  refine hK3 _ ?_; clear hK3
  have hie : i = left.length := by omega
  rw [whyL_end (by omega)] at hWi
  subst hWi
  (refine awp_sr fun Y Yh => ?_; simp [go_sem]; ((repeat' (first|(refine ag_x ?_;simp [go_sem])|intro _|apply And.intro|(apply Yh;clear Yh Y)));all_goals first|apply Hold.mk|omega|with_reducible assumption|skip))
  (refine awp_ret ?_; simp [go_sem])
end Go.Proofs.YteekfnhhlcmcgaaGreatDoor
set_option maxRecDepth 20000
namespace Go.Lk
open Go.Lib Go.Wh Go.Ver
/-! orders of picks, found from the end on -/
theorem ordL_end (s : Src) (out : List Bs) : ordL s ([] : List Prs).length [] out = out := rfl
/-! greater versions, gem by gem -/
def nextC (s : Src) (left : List Prs) (p : Prs) : Bool := !((fndP s p).2.any fun n => decide (n.1 ≠ p.1) && left.any fun q => decide (q.1 = n.1))
theorem nextC_eq {s : Src} {left : List Prs} (h : NumOk left) (p : Prs) : nextC s left p = nextO s left p := by
 unfold nextC nextO
 rw [Bool.eq_iff_iff]
 simp only [Bool.not_eq_true', List.any_eq_false, List.all_eq_true, Bool.and_eq_true, not_and, Bool.or_eq_true, decide_eq_true_eq]
 refine forall_congr' fun n => imp_congr_right fun hn => ?_
 rcases pkd_idx h n.1 with ⟨q1, q2⟩ | ⟨x, q1, q2, q3, q4, q5⟩
 ·simp [q1, q2]
 ·rw [q1, q3]
  simp only [q4, or_false, Bool.not_eq_true]
  by_cases e : n.1 = p.1 <;> simp [e]
theorem whyL_len {s : Src} {b : Int} : ∀ (f : Nat) (left : List Prs) (i : Nat) {l : List Prs}, whyL s b f left i = some l → l.length ≤ left.length
 | 0, left, i, l, h => by
  unfold whyL at h
  simp only [Option.some.injEq] at h
  subst h
  exact Nat.le_refl _
 | f + 1, left, i, l, h => by
  unfold whyL at h
  split at h
  ·rename_i hi
   have hle := lessN_len hi
   split at h
   ·cases h
   ·split at h
    ·have := whyL_len f _ _ h
     omega
    ·exact whyL_len f _ _ h
  ·simp only [Option.some.injEq] at h
   subst h
   exact Nat.le_refl _
theorem whyV_len (s : Src) (w : List Prs) (b : Int) : (whyV s w b).1.length ≤ w.length := by
 unfold whyV
 split
 ·simp
 ·split
  ·simp
  ·cases h : whyL s b w.length w 0 with
   | none => simp
   | some l => exact whyL_len _ _ _ h
theorem ordV_len (s : Src) (l : List Prs) : (ordV s l).length = l.length := by
 have := (ordV_perm s l).length_eq
 simpa using this
theorem count_one {x : Bs} : ∀ {l : List Bs}, l.Nodup → x ∈ l → l.count x = 1
 | [], _, h => by cases h
 | y :: l, hn, h => by
  obtain ⟨h1, h2⟩ := List.nodup_cons.1 hn
  rw [List.count_cons]
  rcases List.mem_cons.1 h with rfl | h
  ·rw [List.count_eq_zero.2 h1]; simp
  ·have : ¬ y = x := fun e => h1 (e ▸ h)
   rw [count_one h2 h]
   simp [this]
theorem ordV_once {s : Src} {l : List Prs} (h : (l.map (·.1)).Nodup) {p : Prs} (hp : p ∈ l) : (ordV s l).count p.1 = 1 := by
 rw [(ordV_perm s l).count_eq]
 exact count_one h (List.mem_map.2 ⟨p, hp, rfl⟩)
theorem count_step {l : List Bs} {x y : Bs} {k : Nat} (h : l[k]? = some y) : (l.take (k + 1)).count x = (l.take k).count x + if y = x then 1 else 0 := by
 rw [List.take_add_one, h, List.count_append]
 simp [List.count_cons]
end Go.Lk
namespace Go.Proofs.YteekfnhhlcmcgaaGreatDoor
open Go.Eng Go.Wh Go.Ver Go.Lk
set_option maxRecDepth 20000
attribute [local irreducible] AG CallA CallT AWp PCall ACall AgC
set_option maxHeartbeats 16000000 in
theorem solves_spec (s : Src) (w : List Prs) (b : Int) (hs : SzS s) (hw : SzN w) (hbr : InR b) : PCall Tryz.prog 32 [dSrc s, dPs w, dI b] fun r => r = dB true := by 
 refine pcall_of Tryz.func32 rfl rfl Tryz.ntmps32 (rs := [.tmp 6]) (tys := [4]) rfl rfl (by simp) ?_
 have S1 := Solve_spec s w b hs hw hbr
 have S2 := rSolve_spec s w b hs hw
 have W1 := Why_spec s w b hs hw hbr
 have W2 := rWhy_spec s w b hs hw
 have T1 := Tries_spec s w b hs hw hbr
 have T2 := rTries_spec s w b hs hw
 have C1 := sCheck_spec s w hs hw
 have C2 := rChk_spec s w hs hw
 have SP := samePicks_spec (solV s w b).1 (solV s w b).1 (by have := @solV_len s w b; omega) (by have := @solV_len s w b; omega)
 have SN := sameNeeds_spec (whyV s w b).1 (whyV s w b).1 (by have := whyV_len s w b; have := hw.1; omega) (by have := whyV_len s w b; have := hw.1; omega)
 simp only [decide_true] at SP SN
 generalize solV s w b = q1 at *
 generalize whyV s w b = q2 at *
 generalize triV s w b = q3 at *
 generalize (if chkV s w = true then (0 : Int) else 1) = ck at *
 obtain ⟨l1, n1, e1⟩ := q1
 obtain ⟨l2, e2⟩ := q2
 obtain ⟨n3, e3⟩ := q3
 simp only at S1 S2 W1 W2 T1 T2 SP SN
 (refine awp_sr fun Y Yh => ?_; simp [go_sem]; ((repeat' (first|(refine ag_x ?_;simp [go_sem])|intro _|apply And.intro|(apply Yh;clear Yh Y)));all_goals first|apply Hold.mk|omega|with_reducible assumption|skip))
 refine awp_frzbox 3 rfl rfl ?_
 simp only [go_sem]
 (refine awp_sr fun Y Yh => ?_; simp [go_sem]; ((repeat' (first|(refine ag_x ?_;simp [go_sem])|intro _|apply And.intro|(apply Yh;clear Yh Y)));all_goals first|apply Hold.mk|omega|with_reducible assumption|skip))
 ((try refine CallT.toA ?_); refine callT_m (.inl ⟨rfl,rfl⟩) (by simp [go_sem]) ?_; intro args ha; simp [go_sem] at ha; subst ha; refine ⟨_, (As_spec s hs), ?_⟩; rintro _ rfl; simp [go_sem]; ((repeat' (first|(refine ag_x ?_;simp [go_sem])|intro _|apply And.intro|(apply Yh;clear Yh Y)));all_goals first|apply Hold.mk|omega|with_reducible assumption|skip))
 refine awp_frzbox 7 rfl rfl ?_
 simp only [go_sem]
 (refine awp_sr fun Y Yh => ?_; simp [go_sem]; ((repeat' (first|(refine ag_x ?_;simp [go_sem])|intro _|apply And.intro|(apply Yh;clear Yh Y)));all_goals first|apply Hold.mk|omega|with_reducible assumption|skip))
 ((try refine CallT.toA ?_); refine callT_m (.inl ⟨rfl,rfl⟩) (by simp [go_sem]) ?_; intro args ha; simp [go_sem] at ha; subst ha; refine ⟨_, (needs12_spec w hw.1), ?_⟩; rintro _ rfl; simp [go_sem]; ((repeat' (first|(refine ag_x ?_;simp [go_sem])|intro _|apply And.intro|(apply Yh;clear Yh Y)));all_goals first|apply Hold.mk|omega|with_reducible assumption|skip))
 (refine awp_sr fun Y Yh => ?_; simp [go_sem]; ((repeat' (first|(refine ag_x ?_;simp [go_sem])|intro _|apply And.intro|(apply Yh;clear Yh Y)));all_goals first|apply Hold.mk|omega|with_reducible assumption|skip))
 ((try refine CallT.toA ?_); refine callT_m (.inl ⟨rfl,rfl⟩) (by simp [go_sem]) ?_; intro args ha; simp [go_sem] at ha; subst ha; refine ⟨_, S1, ?_⟩; rintro _ rfl; simp [go_sem]; ((repeat' (first|(refine ag_x ?_;simp [go_sem])|intro _|apply And.intro|(apply Yh;clear Yh Y)));all_goals first|apply Hold.mk|omega|with_reducible assumption|skip))
 (refine awp_sr fun Y Yh => ?_; simp [go_sem]; ((repeat' (first|(refine ag_x ?_;simp [go_sem])|intro _|apply And.intro|(apply Yh;clear Yh Y)));all_goals first|apply Hold.mk|omega|with_reducible assumption|skip))
 ((try refine CallT.toA ?_); refine callT_m (.inl ⟨rfl,rfl⟩) (by simp [go_sem]) ?_; intro args ha; simp [go_sem] at ha; subst ha; refine ⟨_, S2, ?_⟩; rintro _ rfl; simp [go_sem]; ((repeat' (first|(refine ag_x ?_;simp [go_sem])|intro _|apply And.intro|(apply Yh;clear Yh Y)));all_goals first|apply Hold.mk|omega|with_reducible assumption|skip))
 (refine awp_sr fun Y Yh => ?_; simp [go_sem]; ((repeat' (first|(refine ag_x ?_;simp [go_sem])|intro _|apply And.intro|(apply Yh;clear Yh Y)));all_goals first|apply Hold.mk|omega|with_reducible assumption|skip))
 ((try refine CallT.toA ?_); refine callT_m (.inl ⟨rfl,rfl⟩) (by simp [go_sem]) ?_; intro args ha; simp [go_sem] at ha; subst ha; refine ⟨_, W1, ?_⟩; rintro _ rfl; simp [go_sem]; ((repeat' (first|(refine ag_x ?_;simp [go_sem])|intro _|apply And.intro|(apply Yh;clear Yh Y)));all_goals first|apply Hold.mk|omega|with_reducible assumption|skip))
 (refine awp_sr fun Y Yh => ?_; simp [go_sem]; ((repeat' (first|(refine ag_x ?_;simp [go_sem])|intro _|apply And.intro|(apply Yh;clear Yh Y)));all_goals first|apply Hold.mk|omega|with_reducible assumption|skip))
 ((try refine CallT.toA ?_); refine callT_m (.inl ⟨rfl,rfl⟩) (by simp [go_sem]) ?_; intro args ha; simp [go_sem] at ha; subst ha; refine ⟨_, W2, ?_⟩; rintro _ rfl; simp [go_sem]; ((repeat' (first|(refine ag_x ?_;simp [go_sem])|intro _|apply And.intro|(apply Yh;clear Yh Y)));all_goals first|apply Hold.mk|omega|with_reducible assumption|skip))
 (refine awp_sr fun Y Yh => ?_; simp [go_sem]; ((repeat' (first|(refine ag_x ?_;simp [go_sem])|intro _|apply And.intro|(apply Yh;clear Yh Y)));all_goals first|apply Hold.mk|omega|with_reducible assumption|skip))
 ((try refine CallT.toA ?_); refine callT_m (.inl ⟨rfl,rfl⟩) (by simp [go_sem]) ?_; intro args ha; simp [go_sem] at ha; subst ha; refine ⟨_, T1, ?_⟩; rintro _ rfl; simp [go_sem]; ((repeat' (first|(refine ag_x ?_;simp [go_sem])|intro _|apply And.intro|(apply Yh;clear Yh Y)));all_goals first|apply Hold.mk|omega|with_reducible assumption|skip))
 (refine awp_sr fun Y Yh => ?_; simp [go_sem]; ((repeat' (first|(refine ag_x ?_;simp [go_sem])|intro _|apply And.intro|(apply Yh;clear Yh Y)));all_goals first|apply Hold.mk|omega|with_reducible assumption|skip))
 ((try refine CallT.toA ?_); refine callT_m (.inl ⟨rfl,rfl⟩) (by simp [go_sem]) ?_; intro args ha; simp [go_sem] at ha; subst ha; refine ⟨_, T2, ?_⟩; rintro _ rfl; simp [go_sem]; ((repeat' (first|(refine ag_x ?_;simp [go_sem])|intro _|apply And.intro|(apply Yh;clear Yh Y)));all_goals first|apply Hold.mk|omega|with_reducible assumption|skip))
 ((refine awp_dr (.qs [0, 1] (.one 2 (.qs [3, 4, 5, 6, 7, 8, 9, 10] (.one 11 (.qs [12, 13, 14, 15, 16, 17, 18, 19, 20, 21, 22, 23, 24, 25, 26, 27, 28, 30, 33, 29, 32] (.kp 31 (.kp 34 (.qs [35, 36, 37] (.nil))))))))) (by kernel_rfl) ?_ ?_ ?_ ?_); (kernel_rfl); (exact (by decide +kernel)); (kernel_rfl); intro Y Yh; ((repeat' (first|(refine ag_x ?_;simp [go_sem])|refine adr_nil ?_|((first|refine adr_qs fun Y Yh=>?_|refine adr_y fun Y Yh=>?_);simp [go_sem])|intro _|apply And.intro|(apply Yh;clear Yh Y)));all_goals first|apply Hold.mk|omega|with_reducible assumption|skip))
 ((try refine CallT.toA ?_); refine callT_m (.inl ⟨rfl,rfl⟩) (by simp [go_sem]) ?_; intro args ha; simp [go_sem] at ha; subst ha; refine ⟨_, SP, ?_⟩; rintro _ rfl; simp [go_sem]; ((repeat' (first|(refine ag_x ?_;simp [go_sem])|refine adr_nil ?_|((first|refine adr_qs fun Y Yh=>?_|refine adr_y fun Y Yh=>?_);simp [go_sem])|intro _|apply And.intro|(apply Yh;clear Yh Y)));all_goals first|apply Hold.mk|omega|with_reducible assumption|skip))
 (refine agc_f (dB true) (.inl ⟨rfl,rfl⟩) ?_ rfl ?_; (intro hc args ha; simp [go_sem] at ha; subst ha; exact SN); simp [go_sem]; ((repeat' (first|(refine ag_x ?_;simp [go_sem])|refine adr_nil ?_|((first|refine adr_qs fun Y Yh=>?_|refine adr_y fun Y Yh=>?_);simp [go_sem])|intro _|apply And.intro|(apply Yh;clear Yh Y)));all_goals first|apply Hold.mk|omega|with_reducible assumption|skip))
 (refine agc_f (dI ck) (.inl ⟨rfl,rfl⟩) ?_ rfl ?_; (intro hc args ha; simp [go_sem] at ha; subst ha; exact C1); simp [go_sem]; ((repeat' (first|(refine ag_x ?_;simp [go_sem])|refine adr_nil ?_|((first|refine adr_qs fun Y Yh=>?_|refine adr_y fun Y Yh=>?_);simp [go_sem])|intro _|apply And.intro|(apply Yh;clear Yh Y)));all_goals first|apply Hold.mk|omega|with_reducible assumption|skip))
 (refine agc_f (dI ck) (.inl ⟨rfl,rfl⟩) ?_ rfl ?_; (intro hc args ha; simp [go_sem] at ha; subst ha; exact C2); simp [go_sem]; ((repeat' (first|(refine ag_x ?_;simp [go_sem])|refine adr_nil ?_|((first|refine adr_qs fun Y Yh=>?_|refine adr_y fun Y Yh=>?_);simp [go_sem])|intro _|apply And.intro|(apply Yh;clear Yh Y)));all_goals first|apply Hold.mk|omega|with_reducible assumption|skip))
 (refine awp_ret ?_; simp [go_sem])
set_option maxHeartbeats 16000000 in
theorem resolveSolves_spec (s : Src) (w l : List Prs) (b : Int) (ns wh : List Int) (hs : ZS s) (hw : ZQ w) (hb : InR b) (hn : ns.length ≤ 9223372036854775807) : PCall Tryz.prog 6 [.agg [dGms s, dPs w, dPs l, dI b, dIs ns, dIs wh]] fun r => r = dB true := by 
 refine pcall_of Tryz.func6 rfl rfl Tryz.ntmps6 (rs := [.tmp 2]) (tys := [4]) rfl rfl (by simp) ?_
 have G := rGrown_spec ns hn
 (refine awp_sr fun Y Yh => ?_; simp [go_sem]; ((repeat' (first|(refine ag_x ?_;simp [go_sem])|intro _|apply And.intro|(apply Yh;clear Yh Y)));all_goals first|apply Hold.mk|omega|with_reducible assumption|skip))
 refine awp_frzbox 1 rfl rfl ?_
 simp only [go_sem]
 refine awp_seq_k fun K1 hK1 => ?_
 have tl : ∀ S', SzS s → SzN w → Cov S' ⟨[(1, .rd [dGms s, dPs w, dPs l, dI b, dIs ns, dIs wh])], []⟩ → K1 S' := fun S' hs hw hS => by
  refine hK1 _ ?_; clear hK1
  refine awp_cov hS ?_; clear hS
  (refine awp_sr fun Y Yh => ?_; simp [go_sem]; ((repeat' (first|(refine ag_x ?_;simp [go_sem])|intro _|apply And.intro|(apply Yh;clear Yh Y)));all_goals first|apply Hold.mk|omega|with_reducible assumption|skip))
  ((try refine CallT.toA ?_); refine callT_m (.inl ⟨rfl,rfl⟩) (by simp [go_sem]) ?_; intro args ha; simp [go_sem] at ha; subst ha; refine ⟨_, G, ?_⟩; rintro _ ⟨s0, w0, hG, rfl⟩; simp [go_sem]; ((repeat' (first|(refine ag_x ?_;simp [go_sem])|intro _|apply And.intro|(apply Yh;clear Yh Y)));all_goals first|apply Hold.mk|omega|with_reducible assumption|skip))
  have hsu := grOk_su hG
  have hs0 := suV_sz hsu
  have hw0 := grOk_wz hG
  have B1 := Back_spec s0 hs0
  have B2 := back12_spec w0 hw0.1
  refine awp_frzbox 3 rfl rfl ?_
  simp only [go_sem]
  have w1 := unI_wrap b
  have hlt : unI b % 6 < 6 := Nat.mod_lt _ (by omega)
  have m0 : ((unI b : Nat) : Int).tmod 6 = ((unI b % 6 : Nat) : Int) := by
   rw [show (6 : Int) = ((6 : Nat) : Int) by omega]; simp [Int.tmod_eq_emod_of_nonneg]
  ((refine awp_dr (.qs [0, 2, 4, 1, 3, 5, 6] (.one 7 (.qs [8, 11, 13, 9, 14] (.kp 10 (.kp 12 (.kp 15 (.qs [16, 17] (.nb (.qs [20, 18] (.one 19 (.one 21 (.one 22 (.qs [23, 24, 27, 29, 25, 30, 31, 32, 33, 34] (.kp 26 (.kp 28 (.kp 35 (.qs [36, 37] (.kp 38 (.qs [39, 40] (.nil)))))))))))))))))))) (by kernel_rfl) ?_ ?_ ?_ ?_); (kernel_rfl); (exact (by decide +kernel)); (kernel_rfl); intro Y Yh; ((repeat' (first|(refine ag_x ?_;simp [go_sem, w1, m0])|refine adr_nil ?_|((first|refine adr_qs fun Y Yh=>?_|refine adr_y fun Y Yh=>?_);simp [go_sem, w1, m0])|intro _|apply And.intro|(apply Yh;clear Yh Y)));all_goals first|apply Hold.mk|omega|with_reducible assumption|skip))
  have SV := fun b hb => solves_spec s0 w0 b hs0 hw0 hb
  generalize unI b % 6 = k at *
  ((try refine CallT.toA ?_); refine callT_m (.inl ⟨rfl,rfl⟩) (by simp [go_sem]) ?_; intro args ha; simp [go_sem] at ha; subst ha; refine ⟨_, (solves_spec s w (if 100001 < b then 100001 else b) hs hw (by split <;> first | exact hb | (constructor <;> decide))), ?_⟩; rintro _ rfl; simp [go_sem, w1, m0]; ((repeat' (first|(refine ag_x ?_;simp [go_sem, w1, m0])|refine adr_nil ?_|((first|refine adr_qs fun Y Yh=>?_|refine adr_y fun Y Yh=>?_);simp [go_sem, w1, m0])|intro _|apply And.intro|(apply Yh;clear Yh Y)));all_goals first|apply Hold.mk|omega|with_reducible assumption|skip))
  (refine agc_m (dSrc s0) (.inl ⟨rfl,rfl⟩) (by simp [go_sem]) ?_ ?_; (intro hc args ha; simp [go_sem] at ha; subst ha; exact B1); simp [go_sem, w1, m0]; ((repeat' (first|(refine ag_x ?_;simp [go_sem, w1, m0])|refine adr_nil ?_|((first|refine adr_qs fun Y Yh=>?_|refine adr_y fun Y Yh=>?_);simp [go_sem, w1, m0])|intro _|apply And.intro|(apply Yh;clear Yh Y)));all_goals first|apply Hold.mk|omega|with_reducible assumption|skip))
  (refine agc_m (dPs w0) (.inl ⟨rfl,rfl⟩) (by simp [go_sem]) ?_ ?_; (intro hc args ha; simp [go_sem] at ha; subst ha; exact B2); simp [go_sem, w1, m0]; ((repeat' (first|(refine ag_x ?_;simp [go_sem, w1, m0])|refine adr_nil ?_|((first|refine adr_qs fun Y Yh=>?_|refine adr_y fun Y Yh=>?_);simp [go_sem, w1, m0])|intro _|apply And.intro|(apply Yh;clear Yh Y)));all_goals first|apply Hold.mk|omega|with_reducible assumption|skip))
  (refine agc_f (dB true) (.inl ⟨rfl,rfl⟩) ?_ rfl ?_; (intro hc args ha; simp [go_sem] at ha; subst ha; exact (SV b hb)); simp [go_sem, w1, m0]; ((repeat' (first|(refine ag_x ?_;simp [go_sem, w1, m0])|refine adr_nil ?_|((first|refine adr_qs fun Y Yh=>?_|refine adr_y fun Y Yh=>?_);simp [go_sem, w1, m0])|intro _|apply And.intro|(apply Yh;clear Yh Y)));all_goals first|apply Hold.mk|omega|with_reducible assumption|skip))
  (refine agc_m (dSrc s0) (.inl ⟨rfl,rfl⟩) (by simp [go_sem]) ?_ ?_; (intro hc args ha; simp [go_sem] at ha; subst ha; exact B1); simp [go_sem, w1, m0]; ((repeat' (first|(refine ag_x ?_;simp [go_sem, w1, m0])|refine adr_nil ?_|((first|refine adr_qs fun Y Yh=>?_|refine adr_y fun Y Yh=>?_);simp [go_sem, w1, m0])|intro _|apply And.intro|(apply Yh;clear Yh Y)));all_goals first|apply Hold.mk|omega|with_reducible assumption|skip))
  (refine agc_m (dPs w0) (.inl ⟨rfl,rfl⟩) (by simp [go_sem]) ?_ ?_; (intro hc args ha; simp [go_sem] at ha; subst ha; exact B2); simp [go_sem, w1, m0]; ((repeat' (first|(refine ag_x ?_;simp [go_sem, w1, m0])|refine adr_nil ?_|((first|refine adr_qs fun Y Yh=>?_|refine adr_y fun Y Yh=>?_);simp [go_sem, w1, m0])|intro _|apply And.intro|(apply Yh;clear Yh Y)));all_goals first|apply Hold.mk|omega|with_reducible assumption|skip))
  (refine agc_f (dB true) (.inl ⟨rfl,rfl⟩) ?_ rfl ?_; (intro hc args ha; simp [go_sem] at ha; subst ha; exact (SV 2000 (by constructor <;> decide))); simp [go_sem, w1, m0]; ((repeat' (first|(refine ag_x ?_;simp [go_sem, w1, m0])|refine adr_nil ?_|((first|refine adr_qs fun Y Yh=>?_|refine adr_y fun Y Yh=>?_);simp [go_sem, w1, m0])|intro _|apply And.intro|(apply Yh;clear Yh Y)));all_goals first|apply Hold.mk|omega|with_reducible assumption|skip))
  (refine agc_m (dSrc s0) (.inl ⟨rfl,rfl⟩) (by simp [go_sem]) ?_ ?_; (intro hc args ha; simp [go_sem] at ha; subst ha; exact B1); simp [go_sem, w1, m0]; ((repeat' (first|(refine ag_x ?_;simp [go_sem, w1, m0])|refine adr_nil ?_|((first|refine adr_qs fun Y Yh=>?_|refine adr_y fun Y Yh=>?_);simp [go_sem, w1, m0])|intro _|apply And.intro|(apply Yh;clear Yh Y)));all_goals first|apply Hold.mk|omega|with_reducible assumption|skip))
  (refine agc_m (dPs w0) (.inl ⟨rfl,rfl⟩) (by simp [go_sem]) ?_ ?_; (intro hc args ha; simp [go_sem] at ha; subst ha; exact B2); simp [go_sem, w1, m0]; ((repeat' (first|(refine ag_x ?_;simp [go_sem, w1, m0])|refine adr_nil ?_|((first|refine adr_qs fun Y Yh=>?_|refine adr_y fun Y Yh=>?_);simp [go_sem, w1, m0])|intro _|apply And.intro|(apply Yh;clear Yh Y)));all_goals first|apply Hold.mk|omega|with_reducible assumption|skip))
  (refine agc_f (dB true) (.inl ⟨rfl,rfl⟩) ?_ rfl ?_; (intro hc args ha; simp [go_sem] at ha; subst ha; exact (SV (1 + (k : Int)) ⟨by omega, by omega⟩)); simp [go_sem, w1, m0]; ((repeat' (first|(refine ag_x ?_;simp [go_sem, w1, m0])|refine adr_nil ?_|((first|refine adr_qs fun Y Yh=>?_|refine adr_y fun Y Yh=>?_);simp [go_sem, w1, m0])|intro _|apply And.intro|(apply Yh;clear Yh Y)));all_goals first|apply Hold.mk|omega|with_reducible assumption|skip))
  (refine agc_f (dB true) (.inl ⟨rfl,rfl⟩) ?_ rfl ?_; (intro hc args ha; simp [go_sem] at ha; subst ha; exact sane12_spec); simp [go_sem, w1, m0]; ((repeat' (first|(refine ag_x ?_;simp [go_sem, w1, m0])|refine adr_nil ?_|((first|refine adr_qs fun Y Yh=>?_|refine adr_y fun Y Yh=>?_);simp [go_sem, w1, m0])|intro _|apply And.intro|(apply Yh;clear Yh Y)));all_goals first|apply Hold.mk|omega|with_reducible assumption|skip))
  (refine awp_ret ?_; simp [go_sem])
 clear hK1
 (refine awp_sr fun Y Yh => ?_; simp [go_sem]; ((repeat' (first|(refine ag_false ?_ ?_ ?_;(focus (simp [go_sem, undef];done));(focus (simp [go_sem];done));simp [go_sem])|(refine ag_true ?_ ?_;(focus (simp [go_sem, undef];done));simp [go_sem])|(refine ag_x ?_;simp [go_sem, undef])|intro _|apply And.intro|(apply Yh;clear Yh Y)));all_goals first|apply Hold.mk|omega|with_reducible assumption|skip))
 (try refine CallT.toA ?_)
 refine callT_m (by first | exact .inl ⟨rfl, rfl⟩ | exact .inr rfl) (by simp [go_sem]) ?_
 intro args ha
 simp [go_sem] at ha
 subst ha
 refine ⟨_, large12_spec s hs, ?_⟩
 rintro _ ⟨bl, hbl, rfl⟩
 cases bl with
 | true =>
  simp [go_sem]
  ((repeat' (first|(refine ag_false ?_ ?_ ?_;(focus (simp [go_sem, undef];done));(focus (simp [go_sem];done));simp [go_sem])|(refine ag_true ?_ ?_;(focus (simp [go_sem, undef];done));simp [go_sem])|(refine ag_x ?_;simp [go_sem, undef])|intro _|apply And.intro|(apply Yh;clear Yh Y)));all_goals first|apply Hold.mk|omega|with_reducible assumption|skip)
  (refine awp_if fun T F hT hF => ?_; simp [go_sem]; refine hT ?_; clear hT hF T F)
  (refine awp_sr fun Y Yh => ?_; simp [go_sem]; ((repeat' (first|(refine ag_x ?_;simp [go_sem])|intro _|apply And.intro|(apply Yh;clear Yh Y)));all_goals first|apply Hold.mk|omega|with_reducible assumption|skip))
  ((try refine CallT.toA ?_); refine callT_m (.inl ⟨rfl,rfl⟩) (by simp [go_sem]) ?_; intro args ha; simp [go_sem] at ha; subst ha; refine ⟨_, sane12_spec, ?_⟩; rintro _ rfl; simp [go_sem]; ((repeat' (first|(refine ag_x ?_;simp [go_sem])|intro _|apply And.intro|(apply Yh;clear Yh Y)));all_goals first|apply Hold.mk|omega|with_reducible assumption|skip))
  (refine awp_ret ?_; simp [go_sem])
 | false =>
  have hbl := hbl rfl
  simp [go_sem]
  ((repeat' (first|(refine ag_false ?_ ?_ ?_;(focus (simp [go_sem, undef];done));(focus (simp [go_sem];done));simp [go_sem])|(refine ag_true ?_ ?_;(focus (simp [go_sem, undef];done));simp [go_sem])|(refine ag_x ?_;simp [go_sem, undef])|intro _|apply And.intro|(apply Yh;clear Yh Y)));all_goals first|apply Hold.mk|omega|with_reducible assumption|skip)
  (try refine CallT.toA ?_)
  refine callT_m (by first | exact .inl ⟨rfl, rfl⟩ | exact .inr rfl) (by simp [go_sem]) ?_
  intro args ha
  simp [go_sem] at ha
  subst ha
  refine ⟨_, weight_spec w hw, ?_⟩
  rintro _ ⟨n, hn1, hn2, hn3, rfl⟩
  simp [go_sem]
  ((repeat' (first|(refine ag_false ?_ ?_ ?_;(focus (simp [go_sem, undef];done));(focus (simp [go_sem];done));simp [go_sem])|(refine ag_true ?_ ?_;(focus (simp [go_sem, undef];done));simp [go_sem])|(refine ag_x ?_;simp [go_sem, undef])|intro _|apply And.intro|(apply Yh;clear Yh Y)));all_goals first|apply Hold.mk|omega|with_reducible assumption|skip)
  by_cases hlt : 100 < n
  ·have hlti : (100 : Int) < n := by omega
   (refine awp_if fun T F hT hF => ?_; simp [go_sem, hlt, hlti]; refine hT ?_; clear hT hF T F)
   (refine awp_sr fun Y Yh => ?_; simp [go_sem]; ((repeat' (first|(refine ag_x ?_;simp [go_sem])|intro _|apply And.intro|(apply Yh;clear Yh Y)));all_goals first|apply Hold.mk|omega|with_reducible assumption|skip))
   ((try refine CallT.toA ?_); refine callT_m (.inl ⟨rfl,rfl⟩) (by simp [go_sem]) ?_; intro args ha; simp [go_sem] at ha; subst ha; refine ⟨_, sane12_spec, ?_⟩; rintro _ rfl; simp [go_sem]; ((repeat' (first|(refine ag_x ?_;simp [go_sem])|intro _|apply And.intro|(apply Yh;clear Yh Y)));all_goals first|apply Hold.mk|omega|with_reducible assumption|skip))
   (refine awp_ret ?_; simp [go_sem])
  ·have hlti : ¬ (100 : Int) < n := by omega
   (refine awp_if fun T F hT hF => ?_; simp [go_sem, hlt, hlti]; refine hF ?_; clear hT hF T F)
   refine awp_skip ?_
   refine tl _ hbl (hn3 (by omega)) ?_
   (refine cov_of ?_ ?_ <;> simp [go_sem])
set_option maxHeartbeats 8000000 in
theorem order3_spec (p n : Prs) : PCall Tryz.prog 86 [dP p, .rd [dS n.1, dS n.2]] fun r => r = dB (decide (p.1 = n.1)) := by 
 refine pcall_of Tryz.func86 rfl rfl Tryz.ntmps86 (rs := [.tmp 3]) (tys := [4]) rfl rfl (by simp) ?_
 (refine awp_sr fun Y Yh => ?_; simp [go_sem]; ((repeat' (first|(refine ag_x ?_;simp [go_sem])|intro _|apply And.intro|(apply Yh;clear Yh Y)));all_goals first|apply Hold.mk|omega|with_reducible assumption|skip))
 (refine awp_sr fun Y Yh => ?_; simp [go_sem]; ((repeat' (first|(refine ag_x ?_;simp [go_sem])|intro _|apply And.intro|(apply Yh;clear Yh Y)));all_goals first|apply Hold.mk|omega|with_reducible assumption|skip))
 (refine awp_ret ?_; simp [go_sem])
 by_cases h : p.1 = n.1 <;> simp [h]
set_option maxHeartbeats 8000000 in
theorem order2_spec (n p : Prs) (left : List Prs) (hl : left.length ≤ 1000000) : PCall Tryz.prog 84 [dP n, .rd [dS p.1, dS p.2], .rd [dPs left]] fun r => r = dB (decide (n.1 ≠ p.1) && left.any fun q => decide (q.1 = n.1)) := by 
 refine pcall_of Tryz.func84 rfl rfl Tryz.ntmps84 (rs := [.tmp 4]) (tys := [4]) rfl rfl (by simp) ?_
 have AN := anyP_spec left 86 [.rd [dS n.1, dS n.2]] (fun q => decide (q.1 = n.1)) (fun q _ => order3_spec q n) hl
 generalize left.any (fun q => decide (q.1 = n.1)) = b at *
 (refine awp_sr fun Y Yh => ?_; simp [go_sem]; ((repeat' (first|(refine ag_x ?_;simp [go_sem])|intro _|apply And.intro|(apply Yh;clear Yh Y)));all_goals first|apply Hold.mk|omega|with_reducible assumption|skip))
 refine awp_frzbox 3 rfl rfl ?_
 simp only [go_sem]
 by_cases h : n.1 = p.1
 ·(refine awp_sr fun Y Yh => ?_; simp [go_sem, h]; ((repeat' (first|(refine ag_false ?_ ?_ ?_;(focus (simp [go_sem, undef, h];done));(focus (simp [go_sem];done));simp [go_sem, h])|(refine ag_true ?_ ?_;(focus (simp [go_sem, undef, h];done));simp [go_sem, h])|(refine ag_x ?_;simp [go_sem, undef, h])|intro _|apply And.intro|(apply Yh;clear Yh Y)));all_goals first|apply Hold.mk|omega|with_reducible assumption|skip))
  (refine awp_ret ?_; simp [go_sem, h])
 ·(refine awp_sr fun Y Yh => ?_; simp [go_sem, h]; ((repeat' (first|(refine ag_false ?_ ?_ ?_;(focus (simp [go_sem, undef, h];done));(focus (simp [go_sem];done));simp [go_sem, h])|(refine ag_true ?_ ?_;(focus (simp [go_sem, undef, h];done));simp [go_sem, h])|(refine ag_x ?_;simp [go_sem, undef, h])|intro _|apply And.intro|(apply Yh;clear Yh Y)));all_goals first|apply Hold.mk|omega|with_reducible assumption|skip))
  ((try refine CallT.toA ?_); refine callT_m (.inl ⟨rfl,rfl⟩) (by simp [go_sem]) ?_; intro args ha; simp [go_sem] at ha; subst ha; refine ⟨_, AN, ?_⟩; rintro _ rfl; simp [go_sem, h]; ((repeat' (first|(refine ag_false ?_ ?_ ?_;(focus (simp [go_sem, undef, h];done));(focus (simp [go_sem];done));simp [go_sem, h])|(refine ag_true ?_ ?_;(focus (simp [go_sem, undef, h];done));simp [go_sem, h])|(refine ag_x ?_;simp [go_sem, undef, h])|intro _|apply And.intro|(apply Yh;clear Yh Y)));all_goals first|apply Hold.mk|omega|with_reducible assumption|skip))
  (refine awp_ret ?_; simp [go_sem, h])
set_option maxHeartbeats 8000000 in
theorem order1_spec (s : Src) (p : Prs) (left : List Prs) (hsu : suV s = true) (hl : left.length ≤ 1000000) : PCall Tryz.prog 81 [dP p, .rd [dGms s], .rd [dPs left]] fun r => r = dB (nextC s left p) := by 
 refine pcall_of Tryz.func81 rfl rfl Tryz.ntmps81 (rs := [.tmp 4]) (tys := [4]) rfl rfl (by simp) ?_
 have OF := sof_spec s p hsu
 have hvl := fndP_len hsu p
 unfold nextC
 generalize fndP s p = v at *
 generalize (fndV s p).isSome = o at *
 have AN := anyN_spec v.2 84 [.rd [dS p.1, dS p.2], .rd [dPs left]] (fun n => decide (n.1 ≠ p.1) && left.any fun q => decide (q.1 = n.1)) (fun n _ => order2_spec n p left hl) (by omega)
 generalize (v.2.any fun n => decide (n.1 ≠ p.1) && left.any fun q => decide (q.1 = n.1)) = b at *
 (refine awp_sr fun Y Yh => ?_; simp [go_sem]; ((repeat' (first|(refine ag_x ?_;simp [go_sem])|intro _|apply And.intro|(apply Yh;clear Yh Y)));all_goals first|apply Hold.mk|omega|with_reducible assumption|skip))
 (refine awp_sr fun Y Yh => ?_; simp [go_sem]; ((repeat' (first|(refine ag_x ?_;simp [go_sem])|intro _|apply And.intro|(apply Yh;clear Yh Y)));all_goals first|apply Hold.mk|omega|with_reducible assumption|skip))
 ((try refine CallT.toA ?_); refine callT_m (.inl ⟨rfl,rfl⟩) (by simp [go_sem]) ?_; intro args ha; simp [go_sem] at ha; subst ha; refine ⟨_, OF, ?_⟩; rintro _ rfl; simp [go_sem]; ((repeat' (first|(refine ag_x ?_;simp [go_sem])|intro _|apply And.intro|(apply Yh;clear Yh Y)));all_goals first|apply Hold.mk|omega|with_reducible assumption|skip))
 (refine awp_sr fun Y Yh => ?_; simp [go_sem]; ((repeat' (first|(refine ag_x ?_;simp [go_sem])|intro _|apply And.intro|(apply Yh;clear Yh Y)));all_goals first|apply Hold.mk|omega|with_reducible assumption|skip))
 ((try refine CallT.toA ?_); refine callT_f (.inl ⟨rfl,rfl⟩) ?_; intro args ha; simp [go_sem] at ha; subst ha; refine ⟨_, AN, ?_⟩; rintro _ rfl; refine ⟨rfl, ?_⟩; simp [go_sem]; ((repeat' (first|(refine ag_x ?_;simp [go_sem])|intro _|apply And.intro|(apply Yh;clear Yh Y)));all_goals first|apply Hold.mk|omega|with_reducible assumption|skip))
 (refine awp_ret ?_; simp [go_sem])
theorem fIx_max (p : Prs → Bool) (l : List Prs) : max (fIx p l) 0 = (((l.findIdx? p).getD 0 : Nat) : Int) := by
 cases h : l.findIdx? p with
 | none =>
  have h1 : l.any p = false := by
   rw [List.any_eq_false]
   exact fun x hx => by simpa using List.findIdx?_eq_none_iff.1 h x hx
  rw [fIx_none h1]
  rfl
 | some i =>
  obtain ⟨h1, h2, h3⟩ := List.findIdx?_eq_some_iff_getElem.1 h
  have ha : l.any p = true := List.any_eq_true.2 ⟨_, List.getElem_mem h1, h2⟩
  have he : l.findIdx p = i := by
   have := List.findIdx?_eq_some_iff_findIdx_eq.1 h
   exact this.2
  unfold fIx
  rw [if_pos ha, he]
  simp
set_option maxHeartbeats 16000000 in
theorem Order_spec (s : Src) (l : List Prs) (hs : SzS s) (hl : l.length ≤ 1000) : PCall Tryz.prog 34 [dSrc s, dPs l] fun r => r = .tup [dSs (if (suV s && picksQ s l) = true then ordV s l else []), dI (if (suV s && picksQ s l) = true then 0 else 1)] := by 
 refine pcall_of Tryz.func34 rfl rfl Tryz.ntmps34 (rs := [.tmp 4, .tmp 5]) (tys := [64, 35]) rfl rfl (by simp) ?_
 have CK := sCheck_spec s [] hs ⟨by simp, by simp⟩
 have hc0 : chkV s [] = suV s := by
  unfold chkV
  rw [show nuV 8 [] = true by decide, Bool.and_true]
 rw [hc0] at CK
 have PK := fun h => spicked_spec s l h (by omega)
 by_cases hsu : suV s = true
 rotate_left
 ·have hsf : suV s = false := by simpa using hsu
  rw [hsf] at CK ⊢
  (refine awp_sr fun Y Yh => ?_; simp [go_sem]; ((repeat' (first|(refine ag_x ?_;simp [go_sem])|intro _|apply And.intro|(apply Yh;clear Yh Y)));all_goals first|apply Hold.mk|omega|with_reducible assumption|skip))
  refine awp_frzbox 2 rfl rfl ?_
  simp only [go_sem]
  refine awp_seq_k fun K1 hK1 => ?_
  (refine awp_sr fun Y Yh => ?_; simp [go_sem]; ((repeat' (first|(refine ag_false ?_ ?_ ?_;(focus (simp [go_sem, undef];done));(focus (simp [go_sem];done));simp [go_sem])|(refine ag_true ?_ ?_;(focus (simp [go_sem, undef];done));simp [go_sem])|(refine ag_x ?_;simp [go_sem, undef])|intro _|apply And.intro|(apply Yh;clear Yh Y)));all_goals first|apply Hold.mk|omega|with_reducible assumption|skip))
  ((try refine CallT.toA ?_); refine callT_m (.inl ⟨rfl,rfl⟩) (by simp [go_sem]) ?_; intro args ha; simp [go_sem] at ha; subst ha; refine ⟨_, CK, ?_⟩; rintro _ rfl; simp [go_sem]; ((repeat' (first|(refine ag_false ?_ ?_ ?_;(focus (simp [go_sem, undef];done));(focus (simp [go_sem];done));simp [go_sem])|(refine ag_true ?_ ?_;(focus (simp [go_sem, undef];done));simp [go_sem])|(refine ag_x ?_;simp [go_sem, undef])|intro _|apply And.intro|(apply Yh;clear Yh Y)));all_goals first|apply Hold.mk|omega|with_reducible assumption|skip))
  (refine awp_if fun T F hT hF => ?_; simp [go_sem]; refine hT ?_; clear hT hF T F)
  (refine awp_sr fun Y Yh => ?_; simp [go_sem]; ((repeat' (first|(refine ag_x ?_;simp [go_sem])|intro _|apply And.intro|(apply Yh;clear Yh Y)));all_goals first|apply Hold.mk|omega|with_reducible assumption|skip))
  (refine awp_ret ?_; simp [go_sem])
 have PK := PK hsu
 have hno : picksQ s l = true → NumOk l := fun h => pickOk_num hsu (picksQ_ok h)
 rw [hsu] at CK ⊢
 generalize picksQ s l = pk at *
 (refine awp_sr fun Y Yh => ?_; simp [go_sem]; ((repeat' (first|(refine ag_x ?_;simp [go_sem])|intro _|apply And.intro|(apply Yh;clear Yh Y)));all_goals first|apply Hold.mk|omega|with_reducible assumption|skip))
 refine awp_frzbox 2 rfl rfl ?_
 simp only [go_sem]
 refine awp_seq_k fun K1 hK1 => ?_
 (refine awp_sr fun Y Yh => ?_; simp [go_sem]; ((repeat' (first|(refine ag_false ?_ ?_ ?_;(focus (simp [go_sem, undef];done));(focus (simp [go_sem];done));simp [go_sem])|(refine ag_true ?_ ?_;(focus (simp [go_sem, undef];done));simp [go_sem])|(refine ag_x ?_;simp [go_sem, undef])|intro _|apply And.intro|(apply Yh;clear Yh Y)));all_goals first|apply Hold.mk|omega|with_reducible assumption|skip))
 ((try refine CallT.toA ?_); refine callT_m (.inl ⟨rfl,rfl⟩) (by simp [go_sem]) ?_; intro args ha; simp [go_sem] at ha; subst ha; refine ⟨_, CK, ?_⟩; rintro _ rfl; simp [go_sem]; ((repeat' (first|(refine ag_false ?_ ?_ ?_;(focus (simp [go_sem, undef];done));(focus (simp [go_sem];done));simp [go_sem])|(refine ag_true ?_ ?_;(focus (simp [go_sem, undef];done));simp [go_sem])|(refine ag_x ?_;simp [go_sem, undef])|intro _|apply And.intro|(apply Yh;clear Yh Y)));all_goals first|apply Hold.mk|omega|with_reducible assumption|skip))
 ((try refine CallT.toA ?_); refine callT_m (.inl ⟨rfl,rfl⟩) (by simp [go_sem]) ?_; intro args ha; simp [go_sem] at ha; subst ha; refine ⟨_, PK, ?_⟩; rintro _ rfl; simp [go_sem]; ((repeat' (first|(refine ag_false ?_ ?_ ?_;(focus (simp [go_sem, undef];done));(focus (simp [go_sem];done));simp [go_sem])|(refine ag_true ?_ ?_;(focus (simp [go_sem, undef];done));simp [go_sem])|(refine ag_x ?_;simp [go_sem, undef])|intro _|apply And.intro|(apply Yh;clear Yh Y)));all_goals first|apply Hold.mk|omega|with_reducible assumption|skip))
 cases pk with
 | false =>
  (refine awp_if fun T F hT hF => ?_; simp [go_sem]; refine hT ?_; clear hT hF T F)
  (refine awp_sr fun Y Yh => ?_; simp [go_sem]; ((repeat' (first|(refine ag_x ?_;simp [go_sem])|intro _|apply And.intro|(apply Yh;clear Yh Y)));all_goals first|apply Hold.mk|omega|with_reducible assumption|skip))
  (refine awp_ret ?_; simp [go_sem])
 | true =>
 have hno := hno rfl
 (refine awp_if fun T F hT hF => ?_; simp [go_sem]; refine hF ?_; clear hT hF T F)
 refine awp_skip ?_
 refine hK1 _ ?_; clear hK1
 (refine awp_sr fun Y Yh => ?_; simp [go_sem]; ((repeat' (first|(refine ag_x ?_;simp [go_sem])|intro _|apply And.intro|(apply Yh;clear Yh Y)));all_goals first|apply Hold.mk|omega|with_reducible assumption|skip))
 (refine callA_l [900010] (.inl ⟨rfl,rfl⟩) (by simp [go_sem]) ?_; intro args ha; simp [go_sem] at ha; subst ha; refine ⟨_, _, (pclone_own 900010 l (by omega) (by decide)), (by simp [go_sem]), ?_⟩; rintro ps r hps ⟨gl, rfl, rfl⟩; simp [go_sem]; ((repeat' (first|(refine ag_x ?_;simp [go_sem])|intro _|apply And.intro|(apply Yh;clear Yh Y)));all_goals first|apply Hold.mk|omega|with_reducible assumption|skip))
 (refine awp_sr fun Y Yh => ?_; simp [go_sem]; ((repeat' (first|(refine ag_x ?_;simp [go_sem])|intro _|apply And.intro|(apply Yh;clear Yh Y)));all_goals first|apply Hold.mk|omega|with_reducible assumption|skip))
 rename_i gb
 refine awp_nilslot 7 900071 9 1 rfl fun g7 => ?_
 simp only [go_sem]
 refine awp_seq_k fun K3 hK3 => ?_
 refine awp_block ?_
 generalize hW : ordL s l.length l [] = W at *
 have hWo : ordV s l = W := hW
 rw [hWo]
 refine awp_loop (σ := (List Prs × List Bs) × Nat × Nat) (fun z => ⟨[(2, .rd [dGms s]), (6, .ptr 6 gb 0), (7, .own 900071 z.2.1)], [(6, (gb, .box [.own 900010 z.2.2])), (900010, (z.2.2, .row 41 2 (z.1.1.map cP))), (900071, (z.2.1, .row 9 1 (z.1.2.map cS)))]⟩) (fun z => z.1.1.length + z.1.2.length = l.length ∧ ordL s z.1.1.length z.1.1 z.1.2 = W ∧ NumOk z.1.1) (fun z => z.1.1.length) ((l, []), g7, gl) ?_ ?_ ?_
 ·(refine cov_of ?_ ?_ <;> simp [go_sem])
 ·exact ⟨by simp, hW, hno⟩
 rintro ⟨⟨left, out⟩, go, gr⟩ ⟨hlen, hO, hnl⟩
 simp only at hlen hO hnl
 refine awp_seq_k fun K4 hK4 => ?_
 (refine awp_sr fun Y Yh => ?_; simp [go_sem]; ((repeat' (first|(refine ag_x ?_;simp [go_sem])|intro _|apply And.intro|(apply Yh;clear Yh Y)));all_goals first|apply Hold.mk|omega|with_reducible assumption|skip))
 (refine awp_if fun T F hT hF => ?_; simp [go_sem]; refine BR.intro (fun h5 => hT ?_) (fun h5 => hF ?_); all_goals clear hT hF T F; try simp at h5)
 ·refine awp_skip ?_
  refine hK4 _ ?_; clear hK4
  have hl0 : 0 < left.length := by omega
  have hat := atO_lt (s := s) hl0
  obtain ⟨p0, hp0⟩ : ∃ p, left[atO s left]? = some p := ⟨_, List.getElem?_eq_getElem hat⟩
  rw [ordL_step hp0] at hO
  have IX := indexP_spec left 81 [.rd [dGms s], .rd [dPs left]] (nextO s left) (fun x _ => by
   have := order1_spec s x left hsu (by omega)
   rwa [nextC_eq hnl] at this) (by omega)
  have hmx := fIx_max (nextO s left) left
  have hmx : max (fIx (nextO s left) left) 0 = ((atO s left : Nat) : Int) := hmx
  have hle := lessN_len hat
  have hfl : -1 ≤ fIx (nextO s left) left ∧ fIx (nextO s left) left ≤ 1000 := by
   have h1 := Int.le_max_left (fIx (nextO s left) left) 0
   rw [hmx] at h1
   refine ⟨?_, by omega⟩
   unfold fIx
   split <;> omega
  generalize fIx (nextO s left) left = ix at *
  have DL := deletep_spec 900010 gr left (atO s left) hat (by decide)
  generalize hats : atO s left = a at *
  refine awp_block ?_
  (refine awp_sr fun Y Yh => ?_; simp [go_sem]; ((repeat' (first|(refine ag_x ?_;simp [go_sem])|intro _|apply And.intro|(apply Yh;clear Yh Y)));all_goals first|apply Hold.mk|omega|with_reducible assumption|skip))
  ((try refine CallT.toA ?_); refine callT_f (.inl ⟨rfl,rfl⟩) ?_; intro args ha; simp [go_sem] at ha; subst ha; refine ⟨_, IX, ?_⟩; rintro _ rfl; refine ⟨rfl, ?_⟩; simp [go_sem]; ((repeat' (first|(refine ag_x ?_;simp [go_sem])|intro _|apply And.intro|(apply Yh;clear Yh Y)));all_goals first|apply Hold.mk|omega|with_reducible assumption|skip))
  have hmx2 : (if ix < 0 then (0 : Int) else ix) = a := by split <;> omega
  (refine awp_sr fun Y Yh => ?_; simp [go_sem, hmx2]; ((repeat' (first|(refine ag_x ?_;simp [go_sem, hmx2])|intro _|apply And.intro|(apply Yh;clear Yh Y)));all_goals first|apply Hold.mk|omega|with_reducible assumption|skip))
  (refine awp_sr fun Y Yh => ?_; simp [go_sem, hp0, hmx2]; ((repeat' (first|(refine ag_x ?_;simp [go_sem, hp0, hmx2])|intro _|apply And.intro|(apply Yh;clear Yh Y)));all_goals first|apply Hold.mk|omega|with_reducible assumption|skip))
  rename_i gq go2
  (refine awp_r fun Y Yh => ?_; simp [go_sem, hmx2]; ((repeat' (first|(refine ag_x ?_;simp [go_sem, hmx2])|intro _|apply And.intro|(apply Yh;clear Yh Y)));all_goals first|apply Hold.mk|omega|with_reducible assumption|skip))
  (refine callA_l [900010] (.inl ⟨rfl,rfl⟩) (by simp [go_sem]) ?_; intro args ha; simp [go_sem] at ha; subst ha; refine ⟨_, _, DL, (by simp [go_sem]), ?_⟩; rintro ps r hps ⟨g2, rfl, rfl⟩; simp [go_sem]; ((repeat' (first|(refine ag_x ?_;simp [go_sem])|intro _|apply And.intro|(apply Yh;clear Yh Y)));all_goals first|apply Hold.mk|omega|with_reducible assumption|skip))
  refine ⟨((lessN left a, out ++ [p0.1]), go2, g2), ?_, ⟨by simp only [List.length_append, List.length_cons, List.length_nil]; omega, hO, fun x hx => hnl x (lessN_mem hx)⟩, by simp only; omega⟩
  (refine cov_of ?_ ?_ <;> simp [go_sem])
 ·refine awp_exit ?_
  simp only [go_sem]
  refine hK3 _ ?_; clear hK3
  have hl0 : left = [] := by first | exact h5 | exact List.eq_nil_of_length_eq_zero (by omega)
  subst hl0
  rw [ordL_end] at hO
  subst hO
  (refine awp_sr fun Y Yh => ?_; simp [go_sem]; ((repeat' (first|(refine ag_x ?_;simp [go_sem])|intro _|apply And.intro|(apply Yh;clear Yh Y)));all_goals first|apply Hold.mk|omega|with_reducible assumption|skip))
  refine awp_frzrow 4 rfl rfl ?_
  simp only [go_sem]
  (refine awp_ret ?_; simp [go_sem, hWo])
set_option maxHeartbeats 16000000 in
theorem resolveOrders_spec (a b : List Int) (ha : a.length ≤ 9223372036854775807) (hb : b.length ≤ 9223372036854775807) (hb1 : ∀ x ∈ b, InR x) : PCall Tryz.prog 7 [dIs a, dIs b] fun r => r = dB true := by 
 refine pcall_of Tryz.func7 rfl rfl Tryz.ntmps7 (rs := [.tmp 4]) (tys := [4]) rfl rfl (by simp) ?_
 have G := rGrown_spec a ha
 (refine awp_sr fun Y Yh => ?_; simp [go_sem]; ((repeat' (first|(refine ag_x ?_;simp [go_sem])|intro _|apply And.intro|(apply Yh;clear Yh Y)));all_goals first|apply Hold.mk|omega|with_reducible assumption|skip))
 (refine awp_sr fun Y Yh => ?_; simp [go_sem]; ((repeat' (first|(refine ag_x ?_;simp [go_sem])|intro _|apply And.intro|(apply Yh;clear Yh Y)));all_goals first|apply Hold.mk|omega|with_reducible assumption|skip))
 ((try refine CallT.toA ?_); refine callT_m (.inl ⟨rfl,rfl⟩) (by simp [go_sem]) ?_; intro args ha; simp [go_sem] at ha; subst ha; refine ⟨_, G, ?_⟩; rintro _ ⟨s, w, hG, rfl⟩; simp [go_sem]; ((repeat' (first|(refine ag_x ?_;simp [go_sem])|intro _|apply And.intro|(apply Yh;clear Yh Y)));all_goals first|apply Hold.mk|omega|with_reducible assumption|skip))
 have hsu := grOk_su hG
 have hs := suV_sz hsu
 refine awp_frzbox 5 rfl rfl ?_
 simp only [go_sem]
 (refine awp_sr fun Y Yh => ?_; simp [go_sem]; ((repeat' (first|(refine ag_x ?_;simp [go_sem])|intro _|apply And.intro|(apply Yh;clear Yh Y)));all_goals first|apply Hold.mk|omega|with_reducible assumption|skip))
 ((try refine CallT.toA ?_); refine callT_m (.inl ⟨rfl,rfl⟩) (by simp [go_sem]) ?_; intro args ha; simp [go_sem] at ha; subst ha; refine ⟨_, (chosen_spec s b hs hsu hb hb1), ?_⟩; rintro _ ⟨l, hp, hpl, rfl⟩; simp [go_sem]; ((repeat' (first|(refine ag_x ?_;simp [go_sem])|intro _|apply And.intro|(apply Yh;clear Yh Y)));all_goals first|apply Hold.mk|omega|with_reducible assumption|skip))
 have OR := Order_spec s l hs (by omega)
 rw [hsu, hp] at OR
 simp only [Bool.and_self, if_true] at OR
 have hol := ordV_len s l
 have hnd := (picksQ_ok hp).2
 have honce := fun p hp => @ordV_once s l hnd p hp
 generalize ordV s l = o at *
 (refine awp_sr fun Y Yh => ?_; simp [go_sem]; ((repeat' (first|(refine ag_x ?_;simp [go_sem])|intro _|apply And.intro|(apply Yh;clear Yh Y)));all_goals first|apply Hold.mk|omega|with_reducible assumption|skip))
 ((try refine CallT.toA ?_); refine callT_m (.inl ⟨rfl,rfl⟩) (by simp [go_sem]) ?_; intro args ha; simp [go_sem] at ha; subst ha; refine ⟨_, (Back_spec s hs), ?_⟩; rintro _ rfl; simp [go_sem]; ((repeat' (first|(refine ag_x ?_;simp [go_sem])|intro _|apply And.intro|(apply Yh;clear Yh Y)));all_goals first|apply Hold.mk|omega|with_reducible assumption|skip))
 ((try refine CallT.toA ?_); refine callT_m (.inl ⟨rfl,rfl⟩) (by simp [go_sem]) ?_; intro args ha; simp [go_sem] at ha; subst ha; refine ⟨_, OR, ?_⟩; rintro _ rfl; simp [go_sem]; ((repeat' (first|(refine ag_x ?_;simp [go_sem])|intro _|apply And.intro|(apply Yh;clear Yh Y)));all_goals first|apply Hold.mk|omega|with_reducible assumption|skip))
 refine awp_seq_k fun K1 hK1 => ?_
 (refine awp_sr fun Y Yh => ?_; simp [go_sem, hol]; ((repeat' (first|(refine ag_x ?_;simp [go_sem, hol])|intro _|apply And.intro|(apply Yh;clear Yh Y)));all_goals first|apply Hold.mk|omega|with_reducible assumption|skip))
 (refine awp_if fun T F hT hF => ?_; simp [go_sem, hol]; refine hF ?_; clear hT hF T F)
 refine awp_skip ?_
 refine hK1 _ ?_; clear hK1
 refine awp_seq_k fun K3 hK3 => ?_
 (refine awp_sr fun Y Yh => ?_; simp [go_sem]; ((repeat' (first|(refine ag_x ?_;simp [go_sem])|intro _|apply And.intro|(apply Yh;clear Yh Y)));all_goals first|apply Hold.mk|omega|with_reducible assumption|skip))
 refine awp_block ?_
 refine awp_loop (σ := Nat) (fun i => ⟨[(7, dPs l), (8, dSs o), (10, dI i)], []⟩) (fun i => i ≤ l.length) (fun i => l.length - i) 0 ?_ ?_ ?_
 ·(refine cov_of ?_ ?_ <;> simp [go_sem])
 ·simp
 rintro i hi
 refine awp_seq_k fun K4 hK4 => ?_
 (refine awp_sr fun Y Yh => ?_; simp [go_sem]; ((repeat' (first|(refine ag_x ?_;simp [go_sem])|intro _|apply And.intro|(apply Yh;clear Yh Y)));all_goals first|apply Hold.mk|omega|with_reducible assumption|skip))
 (refine awp_if fun T F hT hF => ?_; simp [go_sem]; refine BR.intro (fun h3 => hT ?_) (fun h3 => hF ?_); all_goals clear hT hF T F; try simp at h3)
 ·refine awp_skip ?_
  refine hK4 _ ?_; clear hK4
  obtain ⟨x, hx⟩ : ∃ x, l[i]? = some x := ⟨_, List.getElem?_eq_getElem (by omega)⟩
  have hon := honce x (List.mem_of_getElem? hx)
  refine awp_seq_k fun K6 hK6 => ?_
  refine awp_block ?_
  (refine awp_sr fun Y Yh => ?_; simp [go_sem]; ((repeat' (first|(refine ag_x ?_;simp [go_sem])|intro _|apply And.intro|(apply Yh;clear Yh Y)));all_goals first|apply Hold.mk|omega|with_reducible assumption|skip))
  refine awp_seq_k fun K7 hK7 => ?_
  (refine awp_sr fun Y Yh => ?_; simp [go_sem]; ((repeat' (first|(refine ag_x ?_;simp [go_sem])|intro _|apply And.intro|(apply Yh;clear Yh Y)));all_goals first|apply Hold.mk|omega|with_reducible assumption|skip))
  refine awp_block ?_
  refine awp_loop (σ := Nat) (fun k => ⟨[(7, dPs l), (8, dSs o), (10, dI i), (11, dI ((o.take k).count x.1)), (12, dI k)], []⟩) (fun k => k ≤ o.length) (fun k => o.length - k) 0 ?_ ?_ ?_
  ·(refine cov_of ?_ ?_ <;> simp [go_sem])
  ·simp
  rintro k hk
  refine awp_seq_k fun K8 hK8 => ?_
  (refine awp_sr fun Y Yh => ?_; simp [go_sem]; ((repeat' (first|(refine ag_x ?_;simp [go_sem])|intro _|apply And.intro|(apply Yh;clear Yh Y)));all_goals first|apply Hold.mk|omega|with_reducible assumption|skip))
  (refine awp_if fun T F hT hF => ?_; simp [go_sem]; refine BR.intro (fun h5 => hT ?_) (fun h5 => hF ?_); all_goals clear hT hF T F; try simp at h5)
  ·refine awp_skip ?_
   refine hK8 _ ?_; clear hK8
   obtain ⟨y, hy⟩ : ∃ y, o[k]? = some y := ⟨_, List.getElem?_eq_getElem (by omega)⟩
   have hcs := count_step (x := x.1) hy
   have hcl : (o.take k).count x.1 ≤ (o.take k).length := List.count_le_length
   rw [List.length_take] at hcl
   generalize (o.take k).count x.1 = c at *
   refine awp_seq_k fun K10 hK10 => ?_
   refine awp_block ?_
   by_cases he : y = x.1
   ·rw [if_pos he] at hcs
    ((refine awp_dr (.qs [0, 1, 2, 4, 5, 6, 7, 3, 8, 9] (.nil)) (by kernel_rfl) ?_ ?_ ?_ ?_); (kernel_rfl); (exact (by decide +kernel)); (kernel_rfl); intro Y Yh; ((repeat' (first|(refine ag_x ?_;simp [go_sem, hx, hy, he])|refine adr_nil ?_|((first|refine adr_qs fun Y Yh=>?_|refine adr_y fun Y Yh=>?_);simp [go_sem, hx, hy, he])|intro _|apply And.intro|(apply Yh;clear Yh Y)));all_goals first|apply Hold.mk|omega|with_reducible assumption|skip))
    (refine awp_if fun T F hT hF => ?_; simp [go_sem, he]; refine hT ?_; clear hT hF T F)
    (refine awp_r fun Y Yh => ?_; simp [go_sem]; ((repeat' (first|(refine ag_x ?_;simp [go_sem])|intro _|apply And.intro|(apply Yh;clear Yh Y)));all_goals first|apply Hold.mk|omega|with_reducible assumption|skip))
    refine hK10 _ ?_; clear hK10
    (refine awp_r fun Y Yh => ?_; simp [go_sem]; ((repeat' (first|(refine ag_x ?_;simp [go_sem])|intro _|apply And.intro|(apply Yh;clear Yh Y)));all_goals first|apply Hold.mk|omega|with_reducible assumption|skip))
    refine ⟨k + 1, ?_, by omega, by omega⟩
    rw [hcs]
    (refine cov_of ?_ ?_ <;> simp [go_sem])
   ·rw [if_neg he] at hcs
    ((refine awp_dr (.qs [0, 1, 2, 4, 5, 6, 7, 3, 8, 9] (.nil)) (by kernel_rfl) ?_ ?_ ?_ ?_); (kernel_rfl); (exact (by decide +kernel)); (kernel_rfl); intro Y Yh; ((repeat' (first|(refine ag_x ?_;simp [go_sem, hx, hy, he])|refine adr_nil ?_|((first|refine adr_qs fun Y Yh=>?_|refine adr_y fun Y Yh=>?_);simp [go_sem, hx, hy, he])|intro _|apply And.intro|(apply Yh;clear Yh Y)));all_goals first|apply Hold.mk|omega|with_reducible assumption|skip))
    have heb : (y == x.1) = false := by simp [he]
    (refine awp_if fun T F hT hF => ?_; simp [go_sem, he, heb]; refine hF ?_; clear hT hF T F)
    refine awp_skip ?_
    refine hK10 _ ?_; clear hK10
    (refine awp_r fun Y Yh => ?_; simp [go_sem]; ((repeat' (first|(refine ag_x ?_;simp [go_sem])|intro _|apply And.intro|(apply Yh;clear Yh Y)));all_goals first|apply Hold.mk|omega|with_reducible assumption|skip))
    refine ⟨k + 1, ?_, by omega, by omega⟩
    rw [hcs]
    (refine cov_of ?_ ?_ <;> simp [go_sem])
  ·refine awp_exit ?_
   simp only [go_sem]
   refine hK7 _ ?_; clear hK7
   have hke : k = o.length := by omega
   subst hke
   rw [List.take_length, hon]
   (refine awp_sr fun Y Yh => ?_; simp [go_sem]; ((repeat' (first|(refine ag_x ?_;simp [go_sem])|intro _|apply And.intro|(apply Yh;clear Yh Y)));all_goals first|apply Hold.mk|omega|with_reducible assumption|skip))
   (refine awp_if fun T F hT hF => ?_; simp [go_sem]; refine hF ?_; clear hT hF T F)
   refine awp_skip ?_
   refine hK6 _ ?_; clear hK6
   (refine awp_r fun Y Yh => ?_; simp [go_sem]; ((repeat' (first|(refine ag_x ?_;simp [go_sem])|intro _|apply And.intro|(apply Yh;clear Yh Y)));all_goals first|apply Hold.mk|omega|with_reducible assumption|skip))
   refine ⟨i + 1, ?_, by omega, by omega⟩
   (refine cov_of ?_ ?_ <;> simp [go_sem])
 ·refine awp_exit ?_
  simp only [go_sem]
  refine hK3 _ ?_; clear hK3
  (refine awp_sr fun Y Yh => ?_; simp [go_sem]; ((repeat' (first|(refine ag_x ?_;simp [go_sem])|intro _|apply And.intro|(apply Yh;clear Yh Y)));all_goals first|apply Hold.mk|omega|with_reducible assumption|skip))
  ((try refine CallT.toA ?_); refine callT_m (.inl ⟨rfl,rfl⟩) (by simp [go_sem]) ?_; intro args ha; simp [go_sem] at ha; subst ha; refine ⟨_, sane12_spec, ?_⟩; rintro _ rfl; simp [go_sem]; ((repeat' (first|(refine ag_x ?_;simp [go_sem])|intro _|apply And.intro|(apply Yh;clear Yh Y)));all_goals first|apply Hold.mk|omega|with_reducible assumption|skip))
  (refine awp_ret ?_; simp [go_sem])
end Go.Proofs.YteekfnhhlcmcgaaGreatDoor
set_option maxRecDepth 20000
namespace Go.Lk
open Go.Lib Go.Wh Go.Ver
theorem why_law2 {s : Src} {w : List Prs} {b : Int} (hc : chkV s w = true) (hcap : ∀ w, (solV s w b).2.2 ≠ 12) (h1 : 1 ≤ b) (h2 : b ≤ 100000) :
  (whyV s w b = ([], 1) ∧ (solV s w b).2.2 = 0) ∨ (∃ l, whyV s w b = (l, 0) ∧ l ≠ [] ∧ l.length ≤ w.length ∧ chkV s l = true ∧ (solV s l b).2.2 = 3 ∧ ∀ j, j < l.length → (solV s (lessN l j) b).2.2 = 0) := by
 have hcd := (solV_codes hc h1 h2).1
 have h12 := hcap w
 by_cases h0 : (solV s w b).2.2 = 0
 ·left
  refine ⟨?_, h0⟩
  unfold whyV
  rw [if_pos h0]
 ·right
  have h3 : (solV s w b).2.2 = 3 := by omega
  obtain ⟨l, e1, e2, e3, e4⟩ := whyL_law hcap w.length w 0 (by omega) hc h3 h1 h2 fun j hj => by omega
  have hcl := chkV_sub hc e2
  refine ⟨l, ?_, fun hn => ?_, e2.length_le, hcl, e3, fun j hj => ?_⟩
  ·unfold whyV
   rw [if_neg h0, if_neg (by simpa using h3), e1]
  ·subst hn
   exact solV_no3 (σ := fun _ => none) ⟨(fun n hn => by cases hn), (fun g v hv => by cases hv)⟩ e3
  ·obtain ⟨σ, hσ⟩ := e4 j hj
   have n3 := solV_no3 (b := b) hσ
   have n12 := hcap (lessN l j)
   have := (solV_codes (chkV_sub hcl (lessN_sub l j)) h1 h2).1
   omega
end Go.Lk
