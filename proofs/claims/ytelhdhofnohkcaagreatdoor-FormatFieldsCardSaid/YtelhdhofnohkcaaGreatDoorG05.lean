/- Part of a proof: see the last text. -/
import Derived.Test.YtelhdhofnohkcaaGreatDoorG04
import Derived.Test.YtelhdhofnohkcaaGreatDoorG03
import Derived.Lib.LaidTab
import Derived.Lib.ItoaNum
import Derived.Lib.TrailingZeros
import Derived.Test.YtelhdhofnohkcaaGreatDoorTie
import Derived.Test.YtelhdhofnohkcaaGreatDoorCards
import Derived.Lay
import Derived.LaidMore
import Derived.SevenTiedAt
import Derived.LaidLaws
import Derived.Stop.LaidErr
import Derived.Shelf.Vars
import Derived.Handed
import Derived.Lib.Bytealg
import Derived.Lib.Repeat
import Derived.Lib.SlTrimSet
import Derived.Lib.IndexBytes
import Derived.Lib.Replace
import Derived.Lib.Case
import Derived.Lib.IndexMore
set_option linter.unusedVariables false
set_option linter.unusedSimpArgs false
set_option linter.unusedSectionVars false
namespace Go.Eng
variable {P : Program} [HasGlob P]
def BldStep (w w' : World) (T e b : Nat) (v : Value) (l' : List UInt8) : Prop :=
 ∃ p' v', w'.heap[b]? = some (.cells #[p', v'] T (0, 0)) ∧ (p' = .pointer none ∨ p' = .pointer (some ⟨b, 0, none⟩)) ∧ w'.ownsRowF 0 e 1 v' l'.length (Lib.byteCells l') ∧
  (v'.ownBlock = v.ownBlock ∨ ∀ k, v'.ownBlock = some k → w.heap.size ≤ k) ∧ v'.ownBlock ≠ some b ∧
  w'.os = w.os ∧ w'.tape = w.tape ∧ w'.output = w.output ∧ w.heap.size ≤ w'.heap.size ∧ ∀ k, k < w.heap.size → k ≠ b → v.ownBlock ≠ some k → w'.heap[k]? = w.heap[k]?
theorem blk_ownF {w : World} {base : Nat} {e : TypeId} {size : Nat} {v : Value} {n : Nat} {xs : List Value} (h : w.ownsRowF base e size v n xs) : blk v = v.ownBlock ∧ ∀ k, v.ownBlock = some k → k < w.heap.size := by
 rcases h.2 with ⟨rfl, _⟩ | ⟨g, cap, cur, fz, rfl, _, hg, _⟩
 ·exact ⟨rfl, fun k hk => by cases hk⟩
 ·refine ⟨rfl, fun k hk => ?_⟩
  simp only [Value.ownBlock, Option.some.injEq] at hk
  subst hk
  rcases Nat.lt_or_ge g w.heap.size with h' | h'
  ·exact h'
  ·simp [Array.getElem?_eq_none h'] at hg
theorem zY {f : FuncId} {T e nb gb nr gr : Nat} {l l' : List UInt8} {xs : List Value} {r : D} {x : Value} (hf : FnOk P f) (h1 : 900000 ≤ nb) (h2 : 900000 ≤ nr) (hd : nb ≠ nr)
  (hx : ∀ C w, Rep C w r x)
  (h : ∀ (b : Nat) (p v : Value) (w : World), HasGlob.ok P w → w.heap[b]? = some (.cells #[p, v] T (0, 0)) → (p = .pointer none ∨ p = .pointer (some ⟨b, 0, none⟩)) → w.ownsRowF 0 e 1 v l.length (Lib.byteCells l) → v.ownBlock ≠ some b →
   Calls P f (.pointer (some ⟨b, 0, none⟩) :: xs).toArray w fun en w' => en = .returned x ∧ BldStep w w' T e b v l') :
  ACall P f (.ptr nb gb 0 :: xs.map .v) [(nb, (gb, .bld T nr gr)), (nr, (gr, .brow e l))] [nb, nr] fun ps r' => ∃ gr', ps = [(gb, .bld T nr gr'), (gr', .brow e l')] ∧ r' = r := by
 refine ⟨hf, ?_, fun C w us hc hg hr he => ?_⟩
 ·intro p hp
  simp only [List.mem_cons, List.mem_nil_iff, or_false] at hp
  rcases hp with rfl | rfl
  ·exact ⟨h1, rfl, by simp⟩
  ·exact ⟨h2, rfl, by simp⟩
 ·have hnb := he nb gb (.bld T nr gr) (by simp [look])
  have hnr := he nr gr (.brow e l) (by simp [look, hd])
  obtain ⟨b, p, v, b1, b2, b3, b4, b5⟩ := hnb
  obtain ⟨u, r1, r2, r3⟩ := hnr
  rw [b5] at r1
  simp only [Option.some.injEq] at r1
  subst r1
  obtain ⟨k1, k2⟩ := blk_ownF r3
  have hne : v.ownBlock ≠ some b := fun q => hd (hc.apart nb gb _ nr gr v b b1 b2 b5 r2 rfl (k1.trans q)).1
  have hus : us = .pointer (some ⟨b, 0, none⟩) :: xs := by
   refine List.ext_getElem (by simpa using hr.1) fun j h1 h2 => ?_
   cases j with
   | zero =>
    have := hr.2 0 (.ptr nb gb 0) us[0] rfl (List.getElem?_eq_getElem h1)
    show us[0] = _
    generalize us[0] = u0 at this ⊢
    cases this with
    | ptr _ _ _ b' hv =>
     rw [b1] at hv
     simp only [Option.some.injEq, Value.pointer.injEq, Addr.mk.injEq, and_true] at hv
     simp [hv]
   | succ j =>
    have h2' : j < xs.length := by simpa using h2
    have := hr.2 (j + 1) (.v xs[j]) us[j + 1] (by simp [h2']) (List.getElem?_eq_getElem h1)
    simpa using this.v_inv
  subst hus
  refine (h b p v w hg.1 b3 b4 r3 hne).mono fun en w' ⟨he', hs⟩ => ?_
  obtain ⟨p', v', s1, s2, s3, s4, s5, s6, s7, s8, s9, s10⟩ := hs
  obtain ⟨N, hN⟩ := hc.fresh nr
  obtain ⟨m1, m2⟩ := blk_ownF s3
  have hbl : b < w.heap.size := hc.bound nb gb _ b b1 b2 rfl
  have hown : ∀ k, v'.ownBlock = some k → k < w.heap.size → v.ownBlock = some k := fun k hk hlt => by
   rcases s4 with q | q
   ·rw [← q]; exact hk
   ·have := q k hk; omega
  let C' : Ctx := ⟨fun s g => if s = nr ∧ g = N then some v' else C.val s g, fun s g => if s = nr ∧ g = N then true else if s = nr ∧ g = gr then false else C.live s g⟩
  have hval : ∀ s g y, C.val s g = some y → C'.val s g = some y := fun s g y hy => by
   show (if s = nr ∧ g = N then some v' else C.val s g) = some y
   rw [if_neg]
   ·exact hy
   ·rintro ⟨rfl, rfl⟩
    rw [hN _ (Nat.le_refl _)] at hy
    cases hy
  have hgN : gr ≠ N := fun q => by subst q; rw [hN _ (Nat.le_refl _)] at b5; cases b5
  have cases' : ∀ s g u, C'.val s g = some u → C'.live s g = true → (s = nr ∧ g = N ∧ u = v') ∨ (¬ (s = nr ∧ g = gr) ∧ C.val s g = some u ∧ C.live s g = true) := fun s g u q1 q2 => by
   change (if s = nr ∧ g = N then some v' else C.val s g) = some u at q1
   change (if s = nr ∧ g = N then true else if s = nr ∧ g = gr then false else C.live s g) = true at q2
   by_cases q : s = nr ∧ g = N
   ·rw [if_pos q] at q1
    exact .inl ⟨q.1, q.2, by simpa using q1.symm⟩
   ·rw [if_neg q] at q1 q2
    by_cases q' : s = nr ∧ g = gr
    ·rw [if_pos q'] at q2; cases q2
    ·rw [if_neg q'] at q2
     exact .inr ⟨q', q1, q2⟩
  have hvN : C'.val nr N = some v' := by show (if nr = nr ∧ N = N then some v' else C.val nr N) = some v'; simp
  have hlN : C'.live nr N = true := by show (if nr = nr ∧ N = N then true else _) = true; simp
  have hlo : ∀ s g, ¬ (s = nr ∧ g = N) → ¬ (s = nr ∧ g = gr) → C'.live s g = C.live s g := fun s g q1 q2 => by
   show (if s = nr ∧ g = N then true else if s = nr ∧ g = gr then false else C.live s g) = C.live s g
   rw [if_neg q1, if_neg q2]
  have hext : Ext C w C' w' := by
   refine ⟨hval, fun k hk ⟨s, g, u, q1, q2, q3⟩ => ?_, fun k hk hno => ?_, s9⟩
   ·rcases cases' s g u q1 q2 with ⟨_, _, e3⟩ | ⟨_, q4, q5⟩
    ·rw [e3, m1] at q3
     exact ⟨nr, gr, v, b5, r2, k1.trans (hown k q3 hk)⟩
    ·exact ⟨s, g, u, q4, q5, q3⟩
   ·exact s10 k hk (fun q => hno ⟨nb, gb, _, b1, b2, by subst q; rfl⟩) (fun q => hno ⟨nr, gr, v, b5, r2, k1.trans q⟩)
  have hblive : C'.live nb gb = true := by rw [hlo nb gb (fun q => hd q.1) (fun q => hd q.1)]; exact b2
  have newNot : ∀ s g u k, ¬ (s = nr ∧ g = gr) → C.val s g = some u → C.live s g = true → blk u = some k → v'.ownBlock ≠ some k := fun s g u k q1 q2 q3 q4 q5 => by
   have hk := hc.bound s g u k q2 q3 q4
   have := hown k q5 hk
   exact q1 (hc.apart s g u nr gr v k q2 q3 b5 r2 q4 (k1.trans this))
  refine ⟨x, r, [(gb, .bld T nr N), (N, .brow e l')], C', he', ⟨N, rfl, rfl⟩, hx _ _, ⟨?_, ?_, ?_⟩, hext, ⟨rfl, ?_⟩, ?_, ?_, ?_, ?_, ⟨s6, s7, s8, s9, ?_⟩⟩
  ·intro s g u s' g' u' k q1 q2 q3 q4 q5 q6
   rcases cases' s g u q1 q2 with ⟨rfl, rfl, rfl⟩ | ⟨p1, p2, p3⟩ <;> rcases cases' s' g' u' q3 q4 with ⟨rfl, rfl, rfl⟩ | ⟨t1, t2, t3⟩
   ·exact ⟨rfl, rfl⟩
   ·rw [m1] at q5; exact absurd q5 (newNot s' g' u' k t1 t2 t3 q6)
   ·rw [m1] at q6; exact absurd q6 (newNot s g u k p1 p2 p3 q5)
   ·exact hc.apart s g u s' g' u' k p2 p3 t2 t3 q5 q6
  ·intro s g u k q1 q2 q3
   rcases cases' s g u q1 q2 with ⟨rfl, rfl, rfl⟩ | ⟨p1, p2, p3⟩
   ·exact m2 k (m1 ▸ q3)
   ·exact Nat.lt_of_lt_of_le (hc.bound s g u k p2 p3 q3) s9
  ·intro s
   obtain ⟨M, hM⟩ := hc.fresh s
   refine ⟨max M (N + 1), fun g hg' => ?_⟩
   show (if s = nr ∧ g = N then some v' else C.val s g) = none
   rw [if_neg (by omega)]
   exact hM g (by omega)
  ·intro j s p0 hj hp
   match j, hj, hp with
   | 0, hj, hp =>
    simp only [List.getElem?_cons_zero, Option.some.injEq] at hj hp
    subst hj hp
    exact ⟨⟨b, p', v', hval _ _ _ b1, hblive, s1, s2, hvN⟩, rfl⟩
   | 1, hj, hp =>
    simp only [List.getElem?_cons_succ, List.getElem?_cons_zero, Option.some.injEq] at hj hp
    subst hj hp
    exact ⟨⟨v', hvN, hlN, s3⟩, rfl⟩
   | j + 2, hj, hp => simp at hj
  ·intro j s p0 u k hj hp hv hk
   match j, hj, hp with
   | 0, hj, hp =>
    simp only [List.getElem?_cons_zero, Option.some.injEq] at hj hp
    subst hj hp
    have : u = .pointer (some ⟨b, 0, none⟩) := by have := hval _ _ _ b1; rw [this] at hv; exact (Option.some.inj hv).symm
    subst this
    exact .inr ⟨⟨nb, gb, _, ⟨.bld T nr gr, by simp [look]⟩, b1, hk⟩, h1⟩
   | 1, hj, hp =>
    simp only [List.getElem?_cons_succ, List.getElem?_cons_zero, Option.some.injEq] at hj hp
    subst hj hp
    have : u = v' := by rw [hvN] at hv; exact (Option.some.inj hv).symm
    subst this
    rw [m1] at hk
    rcases s4 with q | q
    ·exact .inr ⟨⟨nr, gr, v, ⟨.brow e l, by simp [look, hd]⟩, b5, k1.trans (q ▸ hk)⟩, h2⟩
    ·exact .inl (q k hk)
   | j + 2, hj, hp => simp at hj
  ·intro j s p0 y hj hp hy
   match j, hj, hp with
   | 0, hj, hp =>
    simp only [List.getElem?_cons_zero, Option.some.injEq] at hj hp
    subst hj hp
    exact ⟨.bld T nr gr, by simp [look]⟩
   | 1, hj, hp =>
    simp only [List.getElem?_cons_succ, List.getElem?_cons_zero, Option.some.injEq] at hj hp
    subst hj hp
    rw [hN _ (Nat.le_refl _)] at hy
    cases hy
   | j + 2, hj, hp => simp at hj
  ·intro s g y hy hnl
   refine hlo s g (fun q => ?_) (fun q => ?_)
   ·rw [q.1, q.2, hN _ (Nat.le_refl _)] at hy; cases hy
   ·rw [q.1, q.2] at hnl
    exact hnl ⟨.brow e l, by simp [look, hd]⟩
  ·intro s g y hy hl
   by_cases q : s = nr ∧ g = N
   ·rw [q.1, q.2, hN _ (Nat.le_refl _)] at hy; cases hy
   ·by_cases q' : s = nr ∧ g = gr
    ·rw [q'.1, q'.2]; exact r2
    ·rw [← hlo s g q q']; exact hl
  ·intro k hk hno
   exact s10 k hk (fun q => hno ⟨nb, gb, _, ⟨.bld T nr gr, by simp [look]⟩, b1, by subst q; rfl⟩) (fun q => hno ⟨nr, gr, v, ⟨.brow e l, by simp [look, hd]⟩, b5, k1.trans q⟩)
end Go.Eng
set_option linter.unusedSectionVars false
namespace Go.Eng
open Go.RowKit
variable {P : Program} [HasGlob P]
theorem qV {f : FuncId} {args : List D} {R : D → Prop} (hf : FnOk P f)
  (h : ∀ (C : Ctx) (w : World) (us : List Value), CtxOk C w → HasGlob.ok P w → RepL C w args us → Calls P f us.toArray w fun e w' => ∃ u r, e = .returned u ∧ R r ∧ Rep C w' r u ∧ Below w.heap.size w w') : PCall P f args R := by
 refine ⟨hf, fun C w vs hc hg hr => ?_⟩
 exact (h C w vs hc hg.1 hr).mono fun e w' ⟨u, r, he, h1, h2, hb⟩ => ⟨u, r, C, he, h1, h2, ⟨hc.apart, fun s g u b h1 h2 h3 => Nat.lt_of_lt_of_le (hc.bound s g u b h1 h2 h3) hb.size, hc.fresh⟩,
  ⟨fun _ _ _ h => h, fun _ _ h => h, fun b hlt _ => hb.block b hlt, hb.size⟩, fun _ _ _ _ => rfl, ⟨hb.os, hb.tape, hb.output, hb.size, fun b hlt _ => hb.block b hlt⟩⟩
theorem repL_v {C : Ctx} {w : World} {us vs : List Value} (h : RepL C w (us.map .v) vs) : vs = us := by
 refine List.ext_getElem (by simpa using h.1) fun j h1 h2 => ?_
 have := h.2 j (.v us[j]) vs[j] (by simp [h2]) (List.getElem?_eq_getElem h1)
 exact this.v_inv
theorem rep_tup2 {C : Ctx} {w : World} {a b : D} {x y : Value} (h1 : Rep C w a x) (h2 : Rep C w b y) : Rep C w (.tup [a, b]) (.tuple #[x, y]) := by
 refine .tup _ _ rfl fun j c u hc hu => ?_
 match j, hc, hu with
 | 0, hc, hu => simp at hc hu; subst hc hu; exact h1
 | 1, hc, hu => simp at hc hu; subst hc hu; exact h2
 | j + 2, hc, hu => simp at hc
end Go.Eng
set_option linter.unusedSectionVars false
namespace Go.Eng
open Go.RowKit
variable {P : Program} [HasGlob P] {n : Nat} {S : St} {Q : Exit → St → Prop}
theorem Inv.nameBytes {w0 : World} {B : Nat → Nat → Prop} {C0 : Ctx} {C : Ctx} {a : Act} {w : World} (I : Inv w0 B C0 n S C a w) (s e : Nat) :
  ∃ g C', Inv w0 B C0 n (S.hput s g (.brow e [])) C' a w ∧ C'.val s g = some (.slice none 0 0) ∧ Ext C w C' w := by
 obtain ⟨g, C', I', hv, hx⟩ := I.nameNil s e 1
 refine ⟨g, C', ?_, hv, hx⟩
 refine ⟨I'.size, I'.defers, I'.slots, fun s' g' b' hb' => ?_, fun s' g' b' x u' hx hl' hv' hb' => ?_, I'.apart, I'.bound, I'.fresh, I'.frame, I'.old, I'.owned, I'.kept, fun s' g' y z hy hz => ?_, I'.dead0, I'.bound0⟩
 ·rw [qA] at hb'
  split at hb'
  ·rename_i es
   subst es
   simp only [Option.some.injEq, Prod.mk.injEq] at hb'
   obtain ⟨rfl, rfl⟩ := hb'
   have := I'.heap s g (.row e 1 []) (by rw [qA, if_pos rfl])
   obtain ⟨u, xs, h1, h2, _⟩ := this
   refine ⟨.slice none 0 0, hv, h2, ⟨by simp [Lib.byteCells], .inl ⟨rfl, rfl⟩⟩⟩
  ·rename_i hne
   exact I'.heap s' g' b' (by rw [qA, if_neg hne]; exact hb')
 ·rw [qA] at hx
  split at hx
  ·rename_i es
   subst es
   simp only [Option.some.injEq, Prod.mk.injEq] at hx
   obtain ⟨rfl, rfl⟩ := hx
   exact I'.mine s g b' (.row e 1 []) u' (by rw [qA, if_pos rfl]) hl' hv' hb'
  ·rename_i hne
   exact I'.mine s' g' b' x u' (by rw [qA, if_neg hne]; exact hx) hl' hv' hb'
 ·rw [qA] at hy
  split at hy
  ·rename_i es
   subst es
   simp only [Option.some.injEq, Prod.mk.injEq] at hy
   obtain ⟨rfl, rfl⟩ := hy
   exact I'.ents s g (.row e 1 []) z (by rw [qA, if_pos rfl]) hz
  ·rename_i hne
   exact I'.ents s' g' y z (by rw [qA, if_neg hne]; exact hy) hz
theorem QH (T e nb nr : Nat) (hd : nb ≠ nr) {id t' ty : Nat} {pos : String} {after : Array Edge} {y : Code} (ht : t' < n) (hz : zeroOf P T = some [.pointer none, .slice none 0 0])
  (h : ∀ gb gr, AWp P n y ⟨(t', .ptr nb gb 0) :: S.slots, (nb, (gb, .bld T nr gr)) :: (nr, (gr, .brow e [])) :: S.heap⟩ Q) :
  AWp P n (.seq (.region id #[⟨some t', .alloc T, ty, pos, after, none⟩] false) y) S Q := by
 refine zk ?_
 intro w0 B C0 C a w E I
 refine wp_region_lit (l := [⟨some t', .alloc T, ty, pos, after, none⟩]) ?_
 refine wpList_step fun K' hK' => ?_
 have hw : Region.wanted (⟨some t', .alloc T, ty, pos, after, none⟩ : Oper) (yielded [⟨some t', .alloc T, ty, pos, after, none⟩].toArray a.tmps) = true := by simp [Region.wanted]
 rw [if_pos hw]
 obtain ⟨i, z, hi, hz1, hzs, _⟩ := zx hz
 have hzc : z.cells = #[.pointer none, .slice none 0 0] := by
  apply Array.ext'
  rw [hzs]
 obtain ⟨gr, C1, I1, hv1, e1⟩ := I.nameBytes nr e
 obtain ⟨gb, C2, I2, hv2, e2⟩ := I1.new nb (.bld T nr gr) (.pointer (some ⟨w.heap.size, 0, none⟩)) rfl (Pushed.alloc w (.cells z.cells T)) (fun C' g e hv hl =>
  ⟨w.heap.size, .pointer none, .slice none 0 0, hv, hl, by rw [heap_alloc_new, hzc], .inl rfl, e.val _ _ _ hv1⟩)
 refine wp_val (u := .pointer (some ⟨w.heap.size, 0, none⟩)) (w' := w.alloc (.cells z.cells T)) ?_ ?_
 ·simp [execOp, Instr.alloc, zeroValue, typeInfo, hi, hz1, newVar, newRow]
 ·refine hK' _ _ ?_
  refine wpList_nil ?_
  exact ⟨_, C2, h gb gr, I2.put ht (.ptr nb gb 0 _ hv2)⟩
theorem wY {c : Code} (t k : Nat) (hl : look S.slots t = some (.v (.slice none 0 0))) (h : AWp P n c (S.put t (.sl k [])) Q) : AWp P n c S Q := by
 intro w0 B C0 C a w E I
 exact h E (Inv.reslot I (d := .v (.slice none 0 0)) hl fun u hu => Weak.nil k _ _ _ hu)
/-! a region whose operations are told one by one -/
def AGs (P : Program) [HasGlob P] (n : Nat) (ops : List Oper) : List Oper → St → (St → Prop) → Prop
 | [], S, K => K S
 | o :: rest, S, K => AG P n ops o S fun S' => AGs P n ops rest S' K
theorem ags_ok {w0 : World} {B : Nat → Nat → Prop} {C0 : Ctx} {ops : List Oper} : ∀ {l : List Oper} {S : St} {C : Ctx} {a : Act} {w : World} {K : St → Prop}, Env P w0 B C0 → Inv w0 B C0 n S C a w → AGs P n ops l S K → ∀ (Q : Exit → Act → World → Prop), (∀ a w, NextOk w0 B C0 n K a w → Q .normal a w) → wpList P ops.toArray Q l a w := by
 intro l
 induction l with
 | nil => intro S C a w K E I h Q hQ; exact hQ _ _ ⟨S, C, h, I⟩
 | cons o rest ih =>
  intro S C a w K E I h Q hQ
  unfold AGs at h
  refine wpList_step fun K' hK' => ?_
  exact h E I K' Q (fun a w ⟨S', C', h', I'⟩ => hK' _ _ (ih E I' h' Q hQ))
theorem zG {id : Nat} {ops : List Oper} (h : AGs P n ops ops S (Q .normal)) : AWp P n (.region id ops.toArray false) S Q := fun _ _ _ _ _ _ E I =>
 wp_region_lit (ags_ok E I h _ fun _ _ ⟨S, C, q, i⟩ => ⟨S, C, q, i⟩)
end Go.Eng
namespace Go.Eng
set_option linter.unusedSectionVars false
variable {P : Program} [HasGlob P] {n : Nat} {S : St} {Q : Exit → St → Prop}
end Go.Eng
set_option linter.unusedSectionVars false
namespace Go.Eng
variable {P : Program} [HasGlob P] {n : Nat} {S : St} {Q : Exit → St → Prop}
theorem jr {df : D} {ds : List D} {tys : List TypeId} {k : St → D → Prop} (s : Nat) {g e kk : Nat} {es : List (List D)} (hx : look S.heap s = some (g, .row e kk es)) (h : CallA P df ds tys (S.hput s g (.froz kk es)) k) : CallA P df ds tys S k := by
 unfold CallA at h ⊢
 intro w0 B C0 n C a w us uf E I hr hu
 have hF := I.freeze hx
 exact h us uf E hF.1 ⟨hr.1, fun j d u hd hu => (hr.2 j d u hd hu).mono hF.2⟩ (hu.mono hF.2)
end Go.Eng
set_option linter.unusedSectionVars false
namespace Go.Eng
open Go.RowKit Go.WideShapes Go.ChangeShapes
variable {P : Program} [HasGlob P]
/-! arguments read with what they weigh: each string and slice is no larger than the machine's addresses -/
theorem mem_weightsAll {H : Type} {P : Program} {e : TypeId} : ∀ {l : List (DataW H)} {d : DataW H} {m : Nat}, d ∈ l → m ∈ d.weights P e → m ∈ DataW.weightsAll P e l
 | [], d, m, h, _ => by simp at h
 | c :: l, d, m, h, hm => by
  simp only [DataW.weightsAll, List.mem_append]
  rcases List.mem_cons.1 h with rfl | h
  ·exact .inl hm
  ·exact .inr (mem_weightsAll h hm)
theorem mem_weightsEach_app {H : Type} {P : Program} : ∀ {ts us : List TypeId} {ds gs : List (DataW H)} {m : Nat}, ts.length = ds.length → m ∈ DataW.weightsEach P ts ds → m ∈ DataW.weightsEach P (ts ++ us) (ds ++ gs)
 | [], us, [], gs, m, _, h => by simp [DataW.weightsEach] at h
 | t :: ts, us, d :: ds, gs, m, hl, h => by
  simp only [List.cons_append, DataW.weightsEach, List.mem_append] at h ⊢
  rcases h with h | h
  ·exact .inl h
  ·exact .inr (mem_weightsEach_app (by simpa using hl) h)
def OpensZD {α : Type} (P : Program) (t : TypeId) (f : α → List D) (Q : α → Prop) : Prop :=
 ∀ {H : Type} (enc : TypeId × Value → H) (w : World) (spare : Nat → Bool) (held : Bool) (fuel : Nat) (cs : List Value) (x : DataW H × List MemPlace),
  DataW.trod enc P w 0 spare held fuel t cs = some x → (∀ m ∈ x.1.weights P t, m ≤ reachBytes) → ∃ a, RepC w (f a) cs ∧ Q a
theorem kG {t : TypeId} (ht : P.underlying t = some (.int .i64)) : OpensZD P t (fun n : Int => [.v (.int .i64 n)]) InR := fun enc w spare held fuel cs x h hw0 => by
 obtain ⟨n, rfl, rfl, hw⟩ := DataW.trod_int ht h
 exact ⟨n, RepC.one (.v _), bounds_i64 hw⟩
theorem kF {t : TypeId} (ht : P.underlying t = some .string) : OpensZD P t (fun s : ByteArray => [.v (.string s)]) (fun s => s.size ≤ reachBytes) := fun enc w spare held fuel cs x h hw0 => by
 obtain ⟨n, rfl, rfl, hw⟩ := DataW.trod_string ht h
 exact ⟨n, RepC.one (.v _), by show n.data.size ≤ reachBytes; rw [← Array.length_toList]; exact hw0 _ (by simp only [DataW.weights]; exact List.mem_singleton.2 rfl)⟩
theorem OpensZD.iso {α β : Type} {t : TypeId} {f : α → List D} {Q : α → Prop} {f' : β → List D} {Q' : β → Prop} (h : OpensZD P t f Q) (g : α → β) (hf : ∀ a, f' (g a) = f a) (hq : ∀ a, Q a → Q' (g a)) : OpensZD P t f' Q' :=
 fun enc w spare held fuel cs x hx hw0 => by
  obtain ⟨a, h1, h2⟩ := h enc w spare held fuel cs x hx hw0
  exact ⟨g a, by rw [hf]; exact h1, hq _ h2⟩
theorem x8 {α : Type} {t e : TypeId} {k : Nat} {f : α → List D} {Q : α → Prop} (ht : P.underlying t = some (.slice e)) (hk : P.cellsOf e = k) (hpos : 0 < k) (hf : ∀ a, (f a).length = k) (h : OpensZD P e f Q) :
  OpensZD P t (fun l : List α => [.sl k (l.map f)]) (fun l => l.length * P.bytesOf e ≤ reachBytes ∧ l.length ≤ maxLen ∧ ∀ a ∈ l, Q a) := fun enc w spare held fuel cs x hx hw0 => by
 rcases DataW.trod_slice ht hx with ⟨rfl, _⟩ | ⟨a, len, cap, elems, rest, n, _, rfl, hxe, _, hlc, hmax, hlen, hel, _, _⟩
 ·exact ⟨[], RepC.one (.slE _ _ _ (Nat.zero_le _)), by simp, by simp, by simp⟩
 rw [hk] at hel
 have hwt : ∀ m ∈ (elems.length + rest.length) * P.bytesOf e :: (DataW.weightsAll P e (elems.map (·.1)) ++ DataW.weightsAll P e (rest.map (·.1))), m ≤ reachBytes := by
  intro m hm
  refine hw0 m ?_
  rw [hxe]
  simp only [DataW.weights, ht, List.length_map]
  exact hm
 have hwe : ∀ y ∈ elems, ∀ m ∈ y.1.weights P e, m ≤ reachBytes := fun y hy m hm => hwt m (by
  simp only [List.mem_cons, List.mem_append]
  exact .inr (.inl (mem_weightsAll (List.mem_map.2 ⟨y, hy, rfl⟩) hm)))
 have hsz : len * P.bytesOf e ≤ reachBytes := by
  have h1 := hwt _ (List.mem_cons_self ..)
  have h2 : len * P.bytesOf e ≤ (elems.length + rest.length) * P.bytesOf e := Nat.mul_le_mul_right _ (by omega)
  omega
 have each : ∀ i, i < len → ∃ cs' a', w.cells? 0 (a.add (i * k)) k = some cs' ∧ RepC w (f a') cs' ∧ Q a' := fun i hi => by
  have h1 := hel i hi
  obtain ⟨y, hy⟩ : ∃ y, elems[i]? = some y := ⟨_, List.getElem?_eq_getElem (by omega)⟩
  rw [hy, Option.bind_eq_some_iff] at h1
  obtain ⟨cs', h2, h3⟩ := h1
  obtain ⟨a', h4, h5⟩ := h enc w spare held n cs' y h3 (hwe y (List.mem_of_getElem? hy))
  exact ⟨cs', a', h2, h4, h5⟩
 have build : ∀ m, m ≤ len → ∃ l : List α, l.length = m ∧ ∀ i, i < m → ∃ cs' a', l[i]? = some a' ∧ w.cells? 0 (a.add (i * k)) k = some cs' ∧ RepC w (f a') cs' ∧ Q a' := fun m => by
  induction m with
  | zero => exact fun _ => ⟨[], rfl, fun i hi => by omega⟩
  | succ m ih =>
   intro hm
   obtain ⟨l, h1, h2⟩ := ih (by omega)
   obtain ⟨cs', a', h3, h4, h5⟩ := each m (by omega)
   refine ⟨l ++ [a'], by simp [h1], fun i hi => ?_⟩
   by_cases hi' : i < m
   ·obtain ⟨c1, a1, g1, g2⟩ := h2 i hi'
    exact ⟨c1, a1, by rw [List.getElem?_append_left (by omega)]; exact g1, g2⟩
   ·have : i = m := by omega
    subst this
    exact ⟨cs', a', by rw [List.getElem?_append_right (by omega), h1]; simp, h3, h4, h5⟩
 obtain ⟨l, hl1, hl2⟩ := build len (Nat.le_refl _)
 refine ⟨l, RepC.one ?_, by rw [hl1]; exact hsz, by omega, fun x hx => ?_⟩
 ·cases hle : len with
  | zero =>
   have : l = [] := List.length_eq_zero_iff.1 (by omega)
   subst this
   exact .slE _ _ _ hmax
  | succ m =>
   have hsp : a.spot = none := by
    obtain ⟨cs', a', _, h3, _⟩ := hl2 0 (by omega)
    obtain ⟨h4, h5⟩ := cells_at h3
    have h6 := h5 0 (cs'[0]'(by omega)) (List.getElem?_eq_getElem _)
    simp only [Nat.zero_mul, Addr.add, if_true] at h6
    unfold World.cell? at h6
    split at h6
    ·split at h6
     ·cases h6
     ·rename_i hs; simpa using hs
    ·cases h6
   have ea : a = ⟨a.block, a.off, none⟩ := by cases a; simp at hsp; subst hsp; rfl
   have lm : (l.map f).length = len := by simp [hl1]
   rw [← hle, ← lm, ea]
   refine .sl k (l.map f) a.block a.off cap (fun i j => ((w.cells? 0 (a.add (i * k)) k).bind (·[j]?)).getD undef) (by omega) hmax (fun e he => ?_) (fun i j e' c hi hj => ?_) (fun i j e' c hi hj => ?_)
   ·obtain ⟨x, _, rfl⟩ := List.mem_map.1 he
    exact hf x
   all_goals
    have hil : i < len := by have := (List.getElem?_eq_some_iff.1 hi).1; omega
    obtain ⟨cs', a', g1, g2, g3, g4⟩ := hl2 i hil
    rw [List.getElem?_map, g1] at hi
    simp only [Option.map_some, Option.some.injEq] at hi
    subst hi
    obtain ⟨g5, g6⟩ := cells_at g2
    have hjl : j < cs'.length := by rw [g3.1]; exact (List.getElem?_eq_some_iff.1 hj).1
    have hcj : cs'[j]? = some cs'[j] := List.getElem?_eq_getElem hjl
    simp only [g2, Option.bind_some, hcj, Option.getD_some]
   ·refine ⟨noCtx_owns _, ?_⟩
    have := g6 j _ hcj
    rw [← this]
    congr 1
    rw [ea]
    simp only [Addr.add]
    by_cases h0 : i * k = 0 <;> by_cases h1 : j = 0 <;> simp [h0, h1, Nat.add_assoc]
   ·exact g3.2 j c _ hj hcj
 ·obtain ⟨i, hi, rfl⟩ := List.getElem_of_mem hx
  obtain ⟨cs', a', g1, _, _, g4⟩ := hl2 i (by omega)
  rw [List.getElem?_eq_getElem hi] at g1
  simp only [Option.some.injEq] at g1
  rw [g1]
  exact g4
/-! structs: field by field -/
def OpensZSD {α : Type} (P : Program) (fs : List Field) (o e : Nat) (f : α → List D) (Q : α → Prop) : Prop :=
 ∀ {H : Type} (enc : TypeId × Value → H) (w : World) (spare : Nat → Bool) (held : Bool) (fuel : Nat) (cs : List Value) (xs : List (DataW H × List MemPlace)), cs.length = e →
  xs.length = fs.length → (∀ (i : Nat) (g : Field), fs[i]? = some g → DataW.trod enc P w 0 spare held fuel g.type ((cs.drop g.offset).take (P.cellsOf g.type)) = xs[i]?) → (∀ m ∈ DataW.weightsEach P (fs.map (·.type)) (xs.map (·.1)), m ≤ reachBytes) → ∃ a, RepC w (f a) (cs.drop o) ∧ Q a
theorem xO {e : Nat} : OpensZSD P [] e e (fun _ : Unit => []) (fun _ => True) := fun enc w spare held fuel cs xs hl hx hh hw0 => by
 refine ⟨(), ?_, trivial⟩
 rw [List.drop_of_length_le (by omega)]
 exact RepC.nil
theorem jY {α β : Type} {g : Field} {fs : List Field} {o n e : Nat} {f : α → List D} {Q : α → Prop} {f' : β → List D} {Q' : β → Prop} (ho : g.offset = o) (hn : P.cellsOf g.type = n) (h : OpensZD P g.type f Q)
  (h' : OpensZSD P fs (o + n) e f' Q') : OpensZSD P (g :: fs) o e (fun x : α × β => f x.1 ++ f' x.2) (fun x => Q x.1 ∧ Q' x.2) := fun enc w spare held fuel cs xs hl hx hh hw0 => by
 obtain ⟨x, xs', rfl⟩ : ∃ x xs', xs = x :: xs' := by cases xs with
  | nil => simp at hx
  | cons x xs' => exact ⟨x, xs', rfl⟩
 have h1 := hh 0 g rfl
 rw [ho, hn] at h1
 simp only [List.map_cons, DataW.weightsEach] at hw0
 obtain ⟨a, h2, h3⟩ := h enc w spare held fuel _ x h1 (fun m hm => hw0 m (List.mem_append_left _ hm))
 obtain ⟨b, h4, h5⟩ := h' enc w spare held fuel cs xs' hl (by simpa using hx) (fun i g' hg => by have := hh (i + 1) g' (by simpa using hg); simpa using this) (fun m hm => hw0 m (List.mem_append_right _ hm))
 refine ⟨(a, b), ?_, h3, h5⟩
 have := h2.app h4
 rw [show (cs.drop o).take n ++ cs.drop (o + n) = cs.drop o by rw [← List.drop_drop]; exact List.take_append_drop _ _] at this
 exact this
theorem jK {α : Type} {t : TypeId} {fs : Array Field} {fl : List Field} {e : Nat} {f : α → List D} {Q : α → Prop} (ht : P.underlying t = some (.struct fs)) (hfl : fs.toList = fl) (he : P.cellsOf t = e) (h : OpensZSD P fl 0 e f Q) : OpensZD P t f Q :=
 fun enc w spare held fuel cs x hx hw0 => by
  obtain ⟨xs, n, _, hxe, h1, h2, h3⟩ := DataW.trod_struct ht hx
  obtain ⟨a, h4, h5⟩ := h enc w spare held n cs xs (by omega) (by rw [← hfl]; simpa using h2) (fun i g hg => h3 i g (by rw [← hfl] at hg; simpa using hg)) (fun m hm => hw0 m (by
   rw [hxe]
   simp only [DataW.weights, ht]
   rw [hfl]
   exact hm))
  exact ⟨a, by simpa using h4, h5⟩
/-! a parameter: one value -/
def OpensZVD {α : Type} (P : Program) (t : TypeId) (f : α → D) (Q : α → Prop) : Prop :=
 ∀ {H : Type} (enc : TypeId × Value → H) (w : World) (spare : Nat → Bool) (held : Bool) (base : Nat) (v : Value) (d : DataW H) (ps : List MemPlace), Value.okWide P w .any base t v →
  DataW.Trod enc P w 0 spare held t v d ps → (∀ m ∈ d.weights P t, m ≤ reachBytes) → ∃ a, Rep noCtx w (f a) v ∧ Q a
theorem jX {α : Type} {t : TypeId} {f : α → D} {Q : α → Prop} (hk : cellKind (P.underlying t) = true) (h : OpensZD P t (fun a => [f a]) Q) : OpensZVD P t f Q := fun enc w spare held base v d ps hok ⟨fuel, hd⟩ hw0 => by
 have hc : v.cells.toList = [v] := by
  unfold Value.okWide at hok
  split at hok
  ·rename_i h1; rw [h1] at hk; cases hk
  ·rename_i h1; rw [h1] at hk; cases hk
  ·unfold Cell.okWide at hok
   split at hok
   all_goals first | (exfalso; rw [‹P.underlying t = _›] at hk; cases hk; done) | skip
   ·unfold Cell.ok at hok
    split at hok
    all_goals first | rfl | exact hok.elim | skip
 rw [hc] at hd
 obtain ⟨a, h1, h2⟩ := h enc w spare held fuel _ _ hd hw0
 exact ⟨a, h1.2 0 _ _ rfl rfl, h2⟩
/-! the parameters of a law -/
def OpensZLD {α : Type} (P : Program) (ts : List TypeId) (f : α → List D) (Q : α → Prop) : Prop :=
 ∀ {H : Type} (enc : TypeId × Value → H) (w : World) (spare : Nat → Bool) (held : Bool) (base : Nat) (vs : List Value) (ds : List (DataW H)) (ps : List MemPlace), (∀ (j : Nat) t v, ts[j]? = some t → vs[j]? = some v → Value.okWide P w .any base t v) →
  DataW.TrodAll enc P w 0 spare held ts vs ds ps → (∀ m ∈ DataW.weightsEach P ts ds, m ≤ reachBytes) → ∃ a, RepL noCtx w (f a) vs ∧ Q a
theorem xP : OpensZLD P [] (fun _ : Unit => []) (fun _ => True) := fun enc w spare held base vs ds ps _ h _ => by
 obtain ⟨rfl, rfl, _⟩ := trodAll_nil h
 exact ⟨(), ⟨rfl, fun j d u hd _ => by simp at hd⟩, trivial⟩
theorem jZ {α β : Type} {t : TypeId} {ts : List TypeId} {f : α → D} {Q : α → Prop} {f' : β → List D} {Q' : β → Prop} (h : OpensZVD P t f Q) (h' : OpensZLD P ts f' Q') :
  OpensZLD P (t :: ts) (fun x : α × β => f x.1 :: f' x.2) (fun x => Q x.1 ∧ Q' x.2) := fun enc w spare held base vs ds ps hok hd hw0 => by
 obtain ⟨v, vs', d, ds', p, q, rfl, rfl, rfl, h1, h2⟩ := trodAll_cons hd
 obtain ⟨a, h3, h4⟩ := h enc w spare held base v d p (hok 0 t v rfl rfl) h1 (fun m hm => hw0 m (by simp only [DataW.weightsEach]; exact List.mem_append_left _ hm))
 obtain ⟨b, h5, h6⟩ := h' enc w spare held base vs' ds' q (fun j t' v' ht hv => hok (j + 1) t' v' (by simpa using ht) (by simpa using hv)) h2 (fun m hm => hw0 m (by simp only [DataW.weightsEach]; exact List.mem_append_right _ hm))
 refine ⟨(a, b), ⟨by simp [h5.1], fun j d' u hd' hu => ?_⟩, h4, h6⟩
 cases j with
 | zero => simp at hd' hu; subst hd'; subst hu; exact h3
 | succ j => exact h5.2 j d' u (by simpa using hd') (by simpa using hu)
/-! the same, folded -/
structure OpensZ {α : Type} (P : Program) (t : TypeId) (f : α → List D) (Q : α → Prop) : Prop where
 run : OpensZD P t f Q
structure OpensZS {α : Type} (P : Program) (fs : List Field) (o e : Nat) (f : α → List D) (Q : α → Prop) : Prop where
 run : OpensZSD P fs o e f Q
structure OpensZV {α : Type} (P : Program) (t : TypeId) (f : α → D) (Q : α → Prop) : Prop where
 run : OpensZVD P t f Q
structure OpensZL {α : Type} (P : Program) (ts : List TypeId) (f : α → List D) (Q : α → Prop) : Prop where
 run : OpensZLD P ts f Q
theorem vC {t : TypeId} (ht : P.underlying t = some (.int .i64)) : OpensZ P t (fun n : Int => [.v (.int .i64 n)]) InR := ⟨kG ht⟩
theorem vz {t : TypeId} (ht : P.underlying t = some .string) : OpensZ P t (fun s : ByteArray => [.v (.string s)]) (fun s => s.size ≤ reachBytes) := ⟨kF ht⟩
theorem OpensZ.iso {α β : Type} {t : TypeId} {f : α → List D} {Q : α → Prop} {f' : β → List D} {Q' : β → Prop} (h : OpensZ P t f Q) (g : α → β) (hf : ∀ a, f' (g a) = f a) (hq : ∀ a, Q a → Q' (g a)) : OpensZ P t f' Q' :=
 ⟨OpensZD.iso (@OpensZ.run _ _ _ _ _ h) g hf hq⟩
theorem xN {α : Type} {t e : TypeId} (k : Nat) {f : α → List D} {Q : α → Prop} (ht : P.underlying t = some (.slice e)) (hk : P.cellsOf e = k) (hpos : 0 < k) (hf : ∀ a, (f a).length = k) (h : OpensZ P e f Q) :
  OpensZ P t (fun l : List α => [.sl k (l.map f)]) (fun l => l.length * P.bytesOf e ≤ reachBytes ∧ l.length ≤ maxLen ∧ ∀ a ∈ l, Q a) := ⟨x8 ht hk hpos hf (@OpensZ.run _ _ _ _ _ h)⟩
theorem kD {e : Nat} : OpensZS P [] e e (fun _ : Unit => []) (fun _ => True) := ⟨xO⟩
theorem zi {α β : Type} {g : Field} {fs : List Field} {o n e : Nat} {f : α → List D} {Q : α → Prop} {f' : β → List D} {Q' : β → Prop} (ho : g.offset = o) (hn : P.cellsOf g.type = n) (h : OpensZ P g.type f Q)
  (h' : OpensZS P fs (o + n) e f' Q') : OpensZS P (g :: fs) o e (fun x : α × β => f x.1 ++ f' x.2) (fun x => Q x.1 ∧ Q' x.2) := ⟨jY ho hn (@OpensZ.run _ _ _ _ _ h) (@OpensZS.run _ _ _ _ _ _ _ h')⟩
theorem jW {α : Type} {t : TypeId} {fs : Array Field} {fl : List Field} {e : Nat} {f : α → List D} {Q : α → Prop} (ht : P.underlying t = some (.struct fs)) (hfl : fs.toList = fl) (he : P.cellsOf t = e) (h : OpensZS P fl 0 e f Q) : OpensZ P t f Q :=
 ⟨jK ht hfl he (@OpensZS.run _ _ _ _ _ _ _ h)⟩
theorem jf {α : Type} {t : TypeId} {f : α → D} {Q : α → Prop} (hk : cellKind (P.underlying t) = true) (h : OpensZ P t (fun a => [f a]) Q) : OpensZV P t f Q := ⟨jX hk (@OpensZ.run _ _ _ _ _ h)⟩
theorem kE : OpensZL P [] (fun _ : Unit => []) (fun _ => True) := ⟨xP⟩
theorem jg {α β : Type} {t : TypeId} {ts : List TypeId} {f : α → D} {Q : α → Prop} {f' : β → List D} {Q' : β → Prop} (h : OpensZV P t f Q) (h' : OpensZL P ts f' Q') :
  OpensZL P (t :: ts) (fun x : α × β => f x.1 :: f' x.2) (fun x => Q x.1 ∧ Q' x.2) := ⟨jZ (@OpensZV.run _ _ _ _ _ h) (@OpensZL.run _ _ _ _ _ h')⟩
theorem law_contractZ {α : Type} {f : FuncId} {fn : Func} {s : ChangeSpec} {again : Bool} {ts : List TypeId} {tb : TypeId} {g : α → List D} {Q : α → Prop} (hl : laidOutB P = true) (hts : fn.params.toList = ts) (htb : fn.resultTypes = #[tb]) (hub : P.underlying tb = some .bool)
  (hr : (ts.all fun t => P.readableRec t && decide (t < P.types.size)) = true) (hvars : s.vars = []) (hs : ∀ (H : Type) (ds : List (DataW H)), ds.length = ts.length → s.fn H ds = { results := [.lit (.bool true)], args := ds })
  (ho : OpensZL P ts g Q) (hc : ∀ a, Q a → PCall P f (g a) fun r => r = .v (.bool true))
  {H : Type} (enc : TypeId × Value → H) (W : World) (base : Nat) (args : Array Value) (ds gs : List (DataW H)) (before : List MemPlace) (hg : GlobOk P noCtx W)
  (hval : ∀ (j : Nat) t v, fn.params[j]? = some t → args[j]? = some v → Value.okWide P W .any base t v)
  (hW : DataW.Whole enc P fn.params.toList s.vars false W args.toList ds gs before) (hz : sizedMet enc P fn (OpenSpec.ofChange s) false W args) :
  Calls P f args W fun e W' => ∃ v, e = .returned v ∧ s.post enc P fn false true false again W args v W' := by
 have hW' := hW
 obtain ⟨p, q, hA, hV, hpq, _⟩ := hW
 rw [hvars] at hV
 obtain ⟨rfl, rfl⟩ := trodVars_none hV
 rw [List.append_nil] at hpq
 subst hpq
 rw [hts] at hA
 obtain ⟨_, ds', gs', before', hWz, hwz⟩ := hz
 obtain ⟨pz, qz, hAz, _⟩ := hWz
 rw [hts] at hAz
 obtain ⟨a, h1, h2⟩ := ho.run enc W _ _ base _ _ _ (fun j t v ht hv => hval j t v (by rw [← hts] at ht; simpa using ht) (by simpa using hv)) hAz (fun m hm => by
  have hall := List.all_eq_true.1 hwz m (by
   rw [hts]
   exact mem_weightsEach_app (trodAll_len hAz).symm hm)
  simpa using hall)
 have hcall := (hc a h2).2 noCtx W args.toList (noCtx_ok W) hg h1
 rw [Array.toArray_toList] at hcall
 refine hcall.mono fun e W' hh => ?_
 obtain ⟨u, r, C', he, hr', hru, _, hext, _, hf⟩ := hh
 subst hr'
 have hu := hru.v_inv
 subst hu
 refine ⟨_, he, ?_⟩
 have hb : Below W.heap.size W W' := ⟨hf.os, hf.tape, hf.output, hf.size, fun k hk => hf.block k hk (fun h => by obtain ⟨_, _, _, h, _⟩ := h)⟩
 have hlen : ds.length = ts.length := trodAll_len hA
 have hfn : s.fn H (ds ++ []) = { results := [.lit (.bool true)], args := ds } := by rw [List.append_nil]; exact hs H ds hlen
 have hlt : ∀ x ∈ before, x.block < W.heap.size := fun x hx => hW'.lt x hx
 refine post_below (pa := before) (pv := []) hW' (fun b sp hd => ?_) (fun sp hsp => ?_) (fun sp _ => ?_) (by simp) hb ?_
 ·rw [hfn, htb]
  exact trodAll_cons_mk (p := []) (p' := []) (shut_bool hub true) trodAll_mk0
 ·rw [hfn, hts]
  exact trodAll_spare hl hb hr hA hlt hsp
 ·rw [hfn, hvars]; rfl
 ·exact ok_one htb rfl (okWide_bool_mk hub true)
end Go.Eng
namespace Go.Proofs.YtelhdhofnohkcaaGreatDoor
open Go.Eng Go.Fm
set_option maxRecDepth 20000
abbrev Bs := List UInt8
theorem gn_pow : Tryz.prog.globalNamed "internal/strconv.uint64pow10" = some 2 := by kernel_rfl
theorem gn_dbj : Tryz.prog.globalNamed "math/bits.deBruijn64tab" = some 7 := by kernel_rfl
def glOk (w : World) : Prop := Lib.TabIs Tryz.prog w "internal/strconv.uint64pow10" .u64 Lib.pow10Tab ∧ (∃ m, w.cell? ⟨3, 0, none⟩ = some (.int .i64 m)) ∧ Lib.TabIs Tryz.prog w "math/bits.deBruijn64tab" .u8 (Lib.deBruijn64tab.map Int.ofNat)
theorem glOk_stab (w w' : World) (h : ∀ b ∈ [2, 3, 7], w'.heap[b]? = w.heap[b]?) (hk : glOk w) : glOk w' := by
 refine ⟨?_, ?_, ?_⟩
 ·have hk1 := hk.1
  unfold Lib.TabIs World.var? at hk1 ⊢
  rw [gn_pow] at hk1 ⊢
  simp only [Option.bind_some] at hk1 ⊢
  rw [h 2 (by simp)]
  exact hk1
 ·have e : w'.cell? ⟨3, 0, none⟩ = w.cell? ⟨3, 0, none⟩ := by unfold World.cell?; rw [h 3 (by simp)]
  rw [e]; exact hk.2.1
 ·have hk1 := hk.2.2
  unfold Lib.TabIs World.var? at hk1 ⊢
  rw [gn_dbj] at hk1 ⊢
  simp only [Option.bind_some] at hk1 ⊢
  rw [h 7 (by simp)]
  exact hk1
instance trydGlob : HasGlob Tryz.prog := ⟨[2, 3, 7], glOk, glOk_stab⟩
@[go_sem] theorem po123 : ptrOf Tryz.prog 123 = true := by kernel_rfl
@[go_sem] abbrev cI (n : Int) : List D := [.v (.int .i64 n)]
@[go_sem] abbrev dI (n : Int) : D := .v (.int .i64 n)
@[go_sem] abbrev dB (n : Bool) : D := .v (.bool n)
@[go_sem] abbrev dU (c : UInt8) : D := .v (.int .u8 c.toNat)
@[go_sem] abbrev dIs (l : List Int) : D := .sl 1 (l.map cI)
@[go_sem] abbrev dS (l : Bs) : D := .v (.string ⟨l.toArray⟩)
@[go_sem] abbrev cS (s : Bs) : List D := [.v (.string ⟨s.toArray⟩)]
@[go_sem] abbrev dSs (l : List Bs) : D := .sl 1 (l.map cS)
@[go_sem] abbrev cF (f : Fld) : List D := [dS f.tx, dS f.nm, dB f.lf, dB f.ze, dB f.pl, dB f.bl, dB f.ha, dI f.wd, dI f.pr, dU f.lt]
@[go_sem] abbrev dF (f : Fld) : D := .agg [dS f.tx, dS f.nm, dB f.lf, dB f.ze, dB f.pl, dB f.bl, dB f.ha, dI f.wd, dI f.pr, dU f.lt]
@[go_sem] abbrev dFs (l : List Fld) : D := .sl 10 (l.map cF)
@[go_sem] abbrev cA (a : Ag) : List D := [dS a.nm, dB a.is, dI a.int, dS a.tx]
@[go_sem] abbrev dA (a : Ag) : D := .agg [dS a.nm, dB a.is, dI a.int, dS a.tx]
@[go_sem] abbrev dAs (l : List Ag) : D := .sl 4 (l.map cA)
end Go.Proofs.YtelhdhofnohkcaaGreatDoor
namespace Go.Proofs.YtelhdhofnohkcaaGreatDoor
open Go.Eng Go.WideShapes Go.Fm
set_option maxRecDepth 100000
theorem own : ownKnob Tryz.prog.godebug = none := by kernel_rfl
theorem laidOut : laidOutB Tryz.prog = true := by kernel_rfl
/-! the types of the laws' parameters -/
/-! what is listed of the package-level variables -/
theorem pow_data : (Rows.laid_internal_strconv_uint64pow10 : DataW Unit) = Lib.tabData .u64 Lib.pow10Tab := by kernel_rfl
theorem dbj_data : (Rows.laid_math_bits_deBruijn64tab : DataW Unit) = Lib.tabData .u8 (Lib.deBruijn64tab.map Int.ofNat) := by kernel_rfl
theorem globOk_of {W : World} {d : DataW Unit} {r : List (String × DataW Unit)} (hL : laidMet Tryz.prog (("math/bits.deBruijn32tab", d) :: ("math/bits.deBruijn64tab", (Rows.laid_math_bits_deBruijn64tab : DataW Unit)) :: ("internal/strconv.uint64pow10", (Rows.laid_internal_strconv_uint64pow10 : DataW Unit)) :: r) W) (hsh : W.ShapedOpen Tryz.prog) : GlobOk Tryz.prog noCtx W := by
 have hlt : ∀ b v, W.cell? ⟨b, 0, none⟩ = some v → b < W.heap.size := fun b v h => cell_lt h
 have hL1 := laidMet.tail hL
 have hL2 := laidMet.tail hL1
 have hp : Lib.TabIs Tryz.prog W "internal/strconv.uint64pow10" .u64 Lib.pow10Tab := by
  rw [pow_data] at hL2
  exact Lib.tabIs_of_head gn_pow (by kernel_rfl) (t := 200) (e := 105) (n := 20) (by kernel_rfl) (by kernel_rfl) (by kernel_rfl) (by kernel_rfl) hL2
 have hd : Lib.TabIs Tryz.prog W "math/bits.deBruijn64tab" .u8 (Lib.deBruijn64tab.map Int.ofNat) := by
  rw [dbj_data] at hL1
  exact Lib.tabIs_of_head gn_dbj (by kernel_rfl) (t := 262) (e := 5) (n := 64) (by kernel_rfl) (by kernel_rfl) (by kernel_rfl) (by kernel_rfl) hL1
 obtain ⟨m, hm⟩ := cell_of_shapedOpen_int (g := 3) (t := 3) (zero := #[.int .i64 0]) hsh (by decide +kernel) (by kernel_rfl) rfl (by kernel_rfl) (by kernel_rfl) Tryz.underlying3
 refine ⟨⟨hp, ⟨m, hm⟩, hd⟩, fun b hb => ⟨(fun ⟨s, g, u, h, _⟩ => by cases h), ?_⟩⟩
 have hb' : b = 2 ∨ b = 3 ∨ b = 7 := by
  have : b ∈ [2, 3, 7] := hb
  simpa using this
 rcases hb' with rfl | rfl | rfl
 ·exact hlt _ _ (hp.cell gn_pow 0 (by decide))
 ·exact hlt _ _ hm
 ·exact hlt _ _ (hd.cell gn_dbj 0 (by decide))
theorem wrap {H : Type} {enc : TypeId × Value → H} {a : Assume} {C : Checked} {os : Os} {f : FuncId} {fn : Func} {s : ChangeSpec} {conds : List PathCond} {apart fresh handsOn again : Bool} {X : World → Array Value → Prop}
  (hX : ∀ (w w' : World) (args : Array Value), w.heap = w'.heap → X w args → X w' args)
  (own : ownKnob C.prog.godebug = none) (started : os.Started) (noInit : C.prog.inits.idxOf? f = none) (hfn : C.prog.funcs[f]? = some fn)
  (witness : ∃ (w : World) (tape : Tape) (i : Input), w.os = os ∧ (w.forCall tape i).Shaped C.prog ∧ i.vars = [] ∧ Input.okWide C.prog (w.forCall tape i) .any w.heap.size f i ∧
   ((s.pre enc C.prog fn conds apart (w.forCall tape i).memory i.args ∧ X (w.forCall tape i).memory i.args) ∧ sizedMet enc C.prog fn (OpenSpec.ofChange s) apart (w.forCall tape i).memory i.args) ∧ a.holds C.prog (lone (Frame.enter C.prog f i.args .normal) [] (w.forCall tape i)))
  (contract : ∀ (W : World) (base : Nat) (args : Array Value) (ds gs : List (DataW H)) (before : List MemPlace),
   (∀ (j : Nat) t v, fn.params[j]? = some t → args[j]? = some v → Value.okWide C.prog W .any base t v) →
   DataW.Whole enc C.prog fn.params.toList s.vars apart W args.toList ds gs before → X W args → W.ShapedOpen C.prog →
   Calls C.prog f args W fun e W' => ∃ v, e = .returned v ∧ s.post enc C.prog fn apart fresh handsOn again W args v W') :
  ReturnsInHanded a C os f .any (fun w args => (s.pre enc C.prog fn conds apart w args ∧ X w args) ∧ sizedMet enc C.prog fn (OpenSpec.ofChange s) apart w args) (s.post enc C.prog fn apart fresh handsOn again) := by
 refine returnsInHanded_of_calls own started noInit witness ?_
 intro w tape i _ hsh _ hok hpre hholds
 obtain ⟨_, _, _, fn', hfn', _, _, _, _, hval⟩ := hok
 have e : fn' = fn := Option.some.inj (hfn'.symm.trans hfn)
 subst e
 obtain ⟨⟨⟨ds, gs, before, hw, hc⟩, hx⟩, hz⟩ := hpre
 have hw' := DataW.Whole.of_heap (w' := w.forCall tape i) (by rfl) hw
 refine (contract (w.forCall tape i) w.heap.size i.args ds gs before hval hw' (hX _ _ _ (by rfl) hx) hsh).mono fun e W' ⟨v, he, hp⟩ => ?_
 subst he
 exact ChangeSpec.post_blind hp
end Go.Proofs.YtelhdhofnohkcaaGreatDoor
/-! Facts of the whole program that every row's closing asks, each checked by itself: together they outgrow the kernel's memory. -/
namespace Go.Proofs.YtelhdhofnohkcaaGreatDoor
open Go.Eng Go.Fm
set_option maxRecDepth 100000
theorem joined_of {P : Program} {f : FuncId} {fn : Func} {s : ChangeSpec} {c : OpenClaim}
  (a1 : c.wf (OpenSpec.ofChange s) = true) (a2 : laidOutB P = true) (a3 : mapsRowed P = true)
  (b1 : (fn.params.all (P.readableRec ·) && namedTie P c.named s.vars && (c.stops == []) && (P.stops == []) && (c.knobs == []) && (P.stopKnobs == [])) = true)
  (c1 : (c.inPlace == P.inPlace f) = true) (c2 : (c.unfollowed == P.unfollowed f) = true) (c3 : (c.recurses == P.recurses f) = true) (c4 : (c.named == P.varsNamed f) = true)
  (d1 : ((c.maps == (fn.params.toList ++ s.plain.varTypes P).any (P.mapsRec ·)) && (c.ifaces == (fn.params.toList ++ s.plain.varTypes P).any (P.ifacesRec ·)) && (c.mapsOut == P.mapsAmong fn.resultTypes.toList) &&
 (c.loops == (fn.params.toList ++ s.plain.varTypes P).any (P.loopsFrom ·)) && (c.wideKeys == (fn.params.toList ++ s.plain.varTypes P ++ fn.resultTypes.toList).any (P.wideKeysFrom ·)) &&
 s.vars.all (P.varReadable ·) && fn.resultTypes.all (fun t => P.readableRec t && decide (t < P.types.size)) && (c.ifacesOut == fn.resultTypes.toList.any (P.ifacesRec ·)) && (c.loopsOut == fn.resultTypes.toList.any (P.loopsFrom ·))) = true)
  (e1 : (c.plainKeys == P.plainKeys) = true) (e2 : c.shortTexts.isNone = true) (e3 : P.stopsHeard = true) (e4 : P.mayEnter = true) (e5 : (c.lifted == P.liftsFinal) = true)
  (g1 : ((P.make == some c.make) && (c.kinds == (if c.domain.isEmpty then [] else fn.params.toList.map fun t => match P.underlying t with | some (.int k) => some k | _ => none)) && (c.pinned == c.pinnedBy) &&
 (c.veiled == (fn.params.toList ++ s.plain.varTypes P ++ fn.resultTypes.toList).any (P.veiledRec ·)) && c.veiledFits P fn.params.toList (fn.params.toList ++ s.plain.varTypes P ++ fn.resultTypes.toList)) = true) :
  joinedFacts P f fn s c = true := by
 unfold joinedFacts
 simp only [Bool.and_eq_true] at b1 d1 g1 ⊢
 simp only [and_assoc] at b1 d1 g1 ⊢
 obtain ⟨b1, b2, b3, b4, b5, b6⟩ := b1
 obtain ⟨d1, d2, d3, d4, d5, d6, d7, d8, d9⟩ := d1
 obtain ⟨g1, g2, g3, g4, g5⟩ := g1
 exact ⟨a1, a2, a3, b1, b2, b3, b4, b5, b6, c1, c2, c3, c4, d1, d2, d3, d4, d5, d6, d7, d8, d9, e1, e2, e3, e4, e5, g1, g2, g3, g4, g5⟩
theorem mapsRowed_is : mapsRowed Tryz.checked.prog = true := by kernel_rfl
theorem plainKeys_is : (Rows.formatEscapesRow.plainKeys == Tryz.checked.prog.plainKeys) = true := by kernel_rfl
theorem stopsHeard_is : Tryz.checked.prog.stopsHeard = true := by kernel_rfl
theorem mayEnter_is : Tryz.checked.prog.mayEnter = true := by kernel_rfl
theorem lifts_is : (Rows.formatEscapesRow.lifted == Tryz.checked.prog.liftsFinal) = true := by kernel_rfl
theorem main_is : Tryz.checked.prog.mainIs = some (true, "aa149a5e4f3612cb8a9c459a00c08e63291d9113686e5f3346190f5d57c03538".toList) := by kernel_rfl
theorem looks_is : true = Tryz.checked.prog.looks [] := by kernel_rfl
end Go.Proofs.YtelhdhofnohkcaaGreatDoor
namespace Go.Proofs.YtelhdhofnohkcaaGreatDoor
open Go.Eng Go.WideShapes Go.Fm
set_option maxRecDepth 100000
/-! the parameters with their sizes -/
theorem oz_int : OpensZ Tryz.prog 3 (fun n : Int => cI n) InR := vC Tryz.underlying3
theorem oz_str : OpensZ Tryz.prog 9 (fun s : List UInt8 => [dS s]) (fun s => s.length ≤ 140737488355328) :=
 (vz Tryz.underlying9).iso (fun s => s.data.toList) (fun s => by cases s; simp) (fun s h => by
  have h : s.data.size ≤ reachBytes := h
  rw [Array.length_toList]
  unfold reachBytes at h
  omega)
theorem ovz_str : OpensZV Tryz.prog 9 (fun s : List UInt8 => dS s) (fun s => s.length ≤ 140737488355328) := jf (by rw [Tryz.underlying9]; rfl) oz_str
theorem wrapZ {H : Type} {enc : TypeId × Value → H} {a : Assume} {C : Checked} {os : Os} {f : FuncId} {fn : Func} {s : ChangeSpec} {conds : List PathCond} {apart fresh handsOn again : Bool} {X : World → Array Value → Prop}
  (hX : ∀ (w w' : World) (args : Array Value), w.heap = w'.heap → X w args → X w' args)
  (own : ownKnob C.prog.godebug = none) (started : os.Started) (noInit : C.prog.inits.idxOf? f = none) (hfn : C.prog.funcs[f]? = some fn)
  (witness : ∃ (w : World) (tape : Tape) (i : Input), w.os = os ∧ (w.forCall tape i).Shaped C.prog ∧ i.vars = [] ∧ Input.okWide C.prog (w.forCall tape i) .any w.heap.size f i ∧
   ((s.pre enc C.prog fn conds apart (w.forCall tape i).memory i.args ∧ X (w.forCall tape i).memory i.args) ∧ sizedMet enc C.prog fn (OpenSpec.ofChange s) apart (w.forCall tape i).memory i.args) ∧ a.holds C.prog (lone (Frame.enter C.prog f i.args .normal) [] (w.forCall tape i)))
  (contract : ∀ (W : World) (base : Nat) (args : Array Value) (ds gs : List (DataW H)) (before : List MemPlace),
   (∀ (j : Nat) t v, fn.params[j]? = some t → args[j]? = some v → Value.okWide C.prog W .any base t v) →
   DataW.Whole enc C.prog fn.params.toList s.vars apart W args.toList ds gs before → sizedMet enc C.prog fn (OpenSpec.ofChange s) apart W args → X W args → W.ShapedOpen C.prog →
   Calls C.prog f args W fun e W' => ∃ v, e = .returned v ∧ s.post enc C.prog fn apart fresh handsOn again W args v W') :
  ReturnsInHanded a C os f .any (fun w args => (s.pre enc C.prog fn conds apart w args ∧ X w args) ∧ sizedMet enc C.prog fn (OpenSpec.ofChange s) apart w args) (s.post enc C.prog fn apart fresh handsOn again) := by
 refine returnsInHanded_of_calls own started noInit witness ?_
 intro w tape i _ hsh _ hok hpre hholds
 obtain ⟨_, _, _, fn', hfn', _, _, _, _, hval⟩ := hok
 have e : fn' = fn := Option.some.inj (hfn'.symm.trans hfn)
 subst e
 obtain ⟨⟨⟨ds, gs, before, hw, hc⟩, hx⟩, hp, dz, gz, bz, hwz, hlz⟩ := hpre
 have hw' := DataW.Whole.of_heap (w' := w.forCall tape i) (by rfl) hw
 have hwz' := DataW.Whole.of_heap (w' := w.forCall tape i) (by rfl) hwz
 refine (contract (w.forCall tape i) w.heap.size i.args ds gs before hval hw' ⟨hp, dz, gz, bz, hwz', hlz⟩ (hX _ _ _ (by rfl) hx) hsh).mono fun e W' ⟨v, he, hp⟩ => ?_
 subst he
 exact ChangeSpec.post_blind hp
end Go.Proofs.YtelhdhofnohkcaaGreatDoor
namespace Go.Proofs.YtelhdhofnohkcaaGreatDoor
open Go.Eng Go.Fm
set_option maxRecDepth 20000
attribute [local irreducible] AG CallA CallT AWp PCall ACall AgC
theorem pk_at {s : Bs} {a : Nat} (h : a < s.length) : s[a]? = some (pk (s.drop a)) := by
 rw [List.getElem?_eq_getElem h, List.drop_eq_getElem_cons h]; rfl
theorem pk_end {s : Bs} {a : Nat} (h : s.length ≤ a) : pk (s.drop a) = 0 := by rw [List.drop_eq_nil_of_le h]; rfl
theorem pk_cons {s : Bs} {a : Nat} (h : a < s.length) : s.drop a = pk (s.drop a) :: s.drop (a + 1) := by
 rw [List.drop_eq_getElem_cons h]; rfl
theorem pk_lt {s : Bs} {a : Nat} (h : pk (s.drop a) ≠ 0) : a < s.length := by
 refine Nat.lt_of_not_le fun q => h (pk_end q)
theorem u8_int (c : UInt8) (n : Nat) (hn : n < 256) : ((c.toNat : Int) = n) ↔ c = UInt8.ofNat n := by
 constructor
 ·intro h
  apply UInt8.toNat_inj.1
  simp
  omega
 ·rintro rfl
  simp
  omega
@[go_sem] abbrev rdB (g : Nat) (s : Bs) (a : Int) : Nat × (Nat × Blk) := (900002, (g, .box [dS s, dI a]))
set_option maxHeartbeats 1000000 in
theorem zH (s : Bs) (a : Nat) (hl : s.length ≤ 100000) : PCall Tryz.prog 100 [.rd [dS s, dI a]] fun r => r = dU (pk (s.drop a)) := by 
 refine qB Tryz.func100 rfl rfl Tryz.ntmps100 (rs := [.tmp 2]) (tys := [5]) rfl rfl (by simp) ?_
 (refine qc fun Y Yh => ?_; simp [go_sem]; ((repeat' (first|(refine qf ?_;simp [go_sem])|intro _|apply And.intro|(apply Yh;clear Yh Y)));all_goals first|apply QS|omega|with_reducible assumption|skip))
 refine qh fun K1 hK1 => ?_
 ((refine qX (.qs [0, 1, 2, 4, 5, 6, 3, 7, 8, 9] (.nil)) (by kernel_rfl) ?_ ?_ ?_ ?_); (kernel_rfl); (exact (by decide +kernel)); (kernel_rfl); intro Y Yh; ((repeat' (first|(refine qf ?_;simp [go_sem, ByteArray.size])|refine qC ?_|((first|refine qJ fun Y Yh=>?_|refine qR fun Y Yh=>?_);simp [go_sem, ByteArray.size])|intro _|apply And.intro|(apply Yh;clear Yh Y)));all_goals first|apply QS|omega|with_reducible assumption|skip))
 (refine qg fun T F hT hF => ?_; simp [go_sem]; refine BR.intro (fun h2 => hT ?_) (fun h2 => hF ?_); all_goals clear hT hF T F; try simp at h2)
 ·((refine qX (.qs [0, 1, 2, 4, 5, 6, 3, 7, 8, 9] (.nil)) (by kernel_rfl) ?_ ?_ ?_ ?_); (kernel_rfl); (exact (by decide +kernel)); (kernel_rfl); intro Y Yh; ((repeat' (first|(refine qf ?_;simp [go_sem, pk_at h2])|refine qC ?_|((first|refine qJ fun Y Yh=>?_|refine qR fun Y Yh=>?_);simp [go_sem, pk_at h2])|intro _|apply And.intro|(apply Yh;clear Yh Y)));all_goals first|apply QS|omega|with_reducible assumption|skip))
  (refine qj ?_; simp [go_sem])
 ·refine qi ?_
  refine hK1 _ ?_; clear hK1
  (refine qc fun Y Yh => ?_; simp [go_sem]; ((repeat' (first|(refine qf ?_;simp [go_sem])|intro _|apply And.intro|(apply Yh;clear Yh Y)));all_goals first|apply QS|omega|with_reducible assumption|skip))
  (refine qj ?_; simp [go_sem, pk_end h2])
theorem digR_step {s : Bs} {a n : Nat} {any : Bool} (h : a < s.length) (hd : isDig (pk (s.drop a)) = true) : digR n any (s.drop a) = digR (min (n * 10 + ((pk (s.drop a)).toNat - 48)) 1001) true (s.drop (a + 1)) := by
 conv => lhs; rw [pk_cons h]
 rw [digR, if_pos hd]
theorem digR_stop {s : Bs} {a n : Nat} {any : Bool} (hd : isDig (pk (s.drop a)) = false) : digR n any (s.drop a) = (n, any, s.drop a) := by
 by_cases h : a < s.length
 ·conv => lhs; rw [pk_cons h]
  rw [digR, if_neg (by simp [hd]), ← pk_cons h]
 ·rw [List.drop_eq_nil_of_le (by omega)]; rfl
theorem isDig_iff (c : UInt8) : isDig c = true ↔ 48 ≤ c.toNat ∧ c.toNat ≤ 57 := by simp [isDig, UInt8.le_iff_toNat_le]
theorem isDig_lt {s : Bs} {a : Nat} (h : isDig (pk (s.drop a)) = true) : a < s.length := by
 refine pk_lt fun q => ?_
 rw [q] at h; exact absurd h (by decide)
theorem isDig_b (c : UInt8) : (decide (48 ≤ (c.toNat : Int)) && decide ((c.toNat : Int) ≤ 57)) = isDig c := by
 rw [Bool.eq_iff_iff, isDig_iff]; simp; omega
abbrev posV (s r : Bs) : Nat := s.length - r.length
set_option maxHeartbeats 4000000 in
theorem jy (s : Bs) (a : Nat) (m : Int) (g : Nat) (ha : a ≤ s.length) (hl : s.length ≤ 100000) (hm : InR m) :
  ACall Tryz.prog 99 [.ptr 900002 g 0, dI m] [rdB g s a] [900002]
   fun ps r => ps = [(g, .box [dS s, dI (posV s (digitsV m (s.drop a)).2.2)])] ∧ r = .tup [dI (digitsV m (s.drop a)).1, dB (digitsV m (s.drop a)).2.1] := by 
 refine qY Tryz.func99 rfl rfl Tryz.ntmps99 (rs := [.tmp 4, .tmp 5]) (tys := [3, 4]) rfl rfl (by simp) (by simp [qO]) ?_
 have hp := zH s a hl
 by_cases h42 : pk (s.drop a) = 42
 ·have h42' : ((pk (s.drop a)).toNat : Int) = 42 := by rw [h42]; rfl
  have hlt := pk_lt (s := s) (a := a) (by rw [h42]; decide)
  have e : digitsV m (s.drop a) = (-2, true, (s.drop a).tail) := by unfold digitsV; rw [if_pos h42]
  have e2 : posV s (s.drop a).tail = a + 1 := by simp [posV]; omega
  rw [e]
  simp only [e2]
  (refine qc fun Y Yh => ?_; simp [go_sem]; ((repeat' (first|(refine qf ?_;simp [go_sem])|intro _|apply And.intro|(apply Yh;clear Yh Y)));all_goals first|apply QS|omega|with_reducible assumption|skip))
  refine qh fun K1 hK1 => ?_
  (refine qc fun Y Yh => ?_; simp [go_sem]; ((repeat' (first|(refine qf ?_;simp [go_sem])|intro _|apply And.intro|(apply Yh;clear Yh Y)));all_goals first|apply QS|omega|with_reducible assumption|skip))
  ((try refine QT ?_); refine qU (.inl ⟨rfl,rfl⟩) ?_; intro args ha; simp [go_sem] at ha; subst ha; refine ⟨_, hp, ?_⟩; rintro _ rfl; refine ⟨rfl, ?_⟩; simp [go_sem]; ((repeat' (first|(refine qf ?_;simp [go_sem])|intro _|apply And.intro|(apply Yh;clear Yh Y)));all_goals first|apply QS|omega|with_reducible assumption|skip))
  (refine qg fun T F hT hF => ?_; simp [go_sem, h42']; refine hT ?_; clear hT hF T F)
  (refine qc fun Y Yh => ?_; simp [go_sem]; ((repeat' (first|(refine qf ?_;simp [go_sem])|intro _|apply And.intro|(apply Yh;clear Yh Y)));all_goals first|apply QS|omega|with_reducible assumption|skip))
  (refine qc fun Y Yh => ?_; simp [go_sem]; ((repeat' (first|(refine qf ?_;simp [go_sem])|intro _|apply And.intro|(apply Yh;clear Yh Y)));all_goals first|apply QS|omega|with_reducible assumption|skip))
  (refine qj ?_; simp [go_sem])
 ·have h42' : ¬ ((pk (s.drop a)).toNat : Int) = 42 := fun q => h42 ((u8_int _ 42 (by decide)).1 (by simpa using q))
  have e : digitsV m (s.drop a) = if (digR 0 false (s.drop a)).2.1 then (((digR 0 false (s.drop a)).1 : Int), decide ((digR 0 false (s.drop a)).1 ≤ 1000), (digR 0 false (s.drop a)).2.2) else (m, true, (digR 0 false (s.drop a)).2.2) := by unfold digitsV; rw [if_neg h42]
  rw [e]
  generalize hq : digR 0 false (s.drop a) = q
  obtain ⟨q1, q2, q3⟩ := q
  simp only
  (refine qc fun Y Yh => ?_; simp [go_sem]; ((repeat' (first|(refine qf ?_;simp [go_sem])|intro _|apply And.intro|(apply Yh;clear Yh Y)));all_goals first|apply QS|omega|with_reducible assumption|skip))
  refine qh fun K1 hK1 => ?_
  (refine qc fun Y Yh => ?_; simp [go_sem]; ((repeat' (first|(refine qf ?_;simp [go_sem])|intro _|apply And.intro|(apply Yh;clear Yh Y)));all_goals first|apply QS|omega|with_reducible assumption|skip))
  ((try refine QT ?_); refine qU (.inl ⟨rfl,rfl⟩) ?_; intro args ha; simp [go_sem] at ha; subst ha; refine ⟨_, hp, ?_⟩; rintro _ rfl; refine ⟨rfl, ?_⟩; simp [go_sem]; ((repeat' (first|(refine qf ?_;simp [go_sem])|intro _|apply And.intro|(apply Yh;clear Yh Y)));all_goals first|apply QS|omega|with_reducible assumption|skip))
  (refine qg fun T F hT hF => ?_; simp [go_sem, h42']; refine hF ?_; clear hT hF T F)
  refine qi ?_
  refine hK1 _ ?_; clear hK1
  (refine qc fun Y Yh => ?_; simp [go_sem]; ((repeat' (first|(refine qf ?_;simp [go_sem])|intro _|apply And.intro|(apply Yh;clear Yh Y)));all_goals first|apply QS|omega|with_reducible assumption|skip))
  refine qh fun K3 hK3 => ?_
  refine qo ?_
  refine qM (σ := Nat × Bool × Nat) (fun x => ⟨[(0, .ptr 900002 g 0), (1, dI m), (6, dI x.1), (7, dB x.2.1)], [rdB g s x.2.2]⟩)
   (fun x => digR x.1 x.2.1 (s.drop x.2.2) = (q1, q2, q3) ∧ x.2.2 ≤ s.length ∧ x.1 ≤ 1001) (fun x => s.length - x.2.2) (0, false, a) ?_ ?_ ?_
  ·(refine ql ?_ ?_ <;> simp [go_sem])
  ·exact ⟨hq, ha, by simp⟩
  rintro ⟨n, any, i⟩ ⟨hx, hi, hn⟩
  have hp := zH s i hl
  simp only at hx hi hn ⊢
  refine qh fun K4 hK4 => ?_
  have hb := isDig_b (pk (s.drop i))
  by_cases hd : isDig (pk (s.drop i)) = true
  ·have hd2 := (isDig_iff _).1 hd
   have hlt := isDig_lt hd
   have hu : (IntKind.u8.wrap (((pk (s.drop i)).toNat : Int) - 48)) = (((pk (s.drop i)).toNat - 48 : Nat) : Int) := by rw [IntKind.wrap_u8]; omega
   (refine qc fun Y Yh => ?_; simp [go_sem]; ((repeat' (first|(refine qf ?_;simp [go_sem])|intro _|apply And.intro|(apply Yh;clear Yh Y)));all_goals first|apply QS|omega|with_reducible assumption|skip))
   ((try refine QT ?_); refine qU (.inl ⟨rfl,rfl⟩) ?_; intro args ha; simp [go_sem] at ha; subst ha; refine ⟨_, hp, ?_⟩; rintro _ rfl; refine ⟨rfl, ?_⟩; simp [go_sem]; ((repeat' (first|(refine qf ?_;simp [go_sem])|intro _|apply And.intro|(apply Yh;clear Yh Y)));all_goals first|apply QS|omega|with_reducible assumption|skip))
   (refine xw (dU (pk (s.drop i))) (.inl ⟨rfl,rfl⟩) ?_ rfl ?_; (intro hc args ha; simp [go_sem] at ha; subst ha; exact hp); simp [go_sem]; ((repeat' (first|(refine qf ?_;simp [go_sem])|intro _|apply And.intro|(apply Yh;clear Yh Y)));all_goals first|apply QS|omega|with_reducible assumption|skip))
   (refine qg fun T F hT hF => ?_; simp [go_sem, hb, hd]; refine hT ?_; clear hT hF T F)
   refine qi ?_
   refine hK4 _ ?_; clear hK4
   refine qo ?_
   (refine qc fun Y Yh => ?_; simp [go_sem]; ((repeat' (first|(refine qf ?_;simp [go_sem])|intro _|apply And.intro|(apply Yh;clear Yh Y)));all_goals first|apply QS|omega|with_reducible assumption|skip))
   ((try refine QT ?_); refine qU (.inl ⟨rfl,rfl⟩) ?_; intro args ha; simp [go_sem] at ha; subst ha; refine ⟨_, hp, ?_⟩; rintro _ rfl; refine ⟨rfl, ?_⟩; simp [go_sem, hu]; ((repeat' (first|(refine qf ?_;simp [go_sem, hu])|intro _|apply And.intro|(apply Yh;clear Yh Y)));all_goals first|apply QS|omega|with_reducible assumption|skip))
   (refine qc fun Y Yh => ?_; simp [go_sem]; ((repeat' (first|(refine qf ?_;simp [go_sem])|intro _|apply And.intro|(apply Yh;clear Yh Y)));all_goals first|apply QS|omega|with_reducible assumption|skip))
   (refine qx fun Y Yh => ?_; simp [go_sem]; ((repeat' (first|(refine qf ?_;simp [go_sem])|intro _|apply And.intro|(apply Yh;clear Yh Y)));all_goals first|apply QS|omega|with_reducible assumption|skip))
   refine ⟨(min (n * 10 + ((pk (s.drop i)).toNat - 48)) 1001, true, i + 1), ?_, ?_, ?_⟩
   ·(refine ql ?_ ?_ <;> simp [go_sem])
    omega
   ·exact ⟨by rw [← hx, digR_step hlt hd], by simp; omega, by simp; omega⟩
   ·simp; omega
  ·rw [Bool.not_eq_true] at hd
   rw [digR_stop hd] at hx
   cases hx
   (refine qc fun Y Yh => ?_; simp [go_sem]; ((repeat' (first|(refine qf ?_;simp [go_sem])|intro _|apply And.intro|(apply Yh;clear Yh Y)));all_goals first|apply QS|omega|with_reducible assumption|skip))
   ((try refine QT ?_); refine qU (.inl ⟨rfl,rfl⟩) ?_; intro args ha; simp [go_sem] at ha; subst ha; refine ⟨_, hp, ?_⟩; rintro _ rfl; refine ⟨rfl, ?_⟩; simp [go_sem]; ((repeat' (first|(refine qf ?_;simp [go_sem])|intro _|apply And.intro|(apply Yh;clear Yh Y)));all_goals first|apply QS|omega|with_reducible assumption|skip))
   (refine xw (dU (pk (s.drop i))) (.inl ⟨rfl,rfl⟩) ?_ rfl ?_; (intro hc args ha; simp [go_sem] at ha; subst ha; exact hp); simp [go_sem]; ((repeat' (first|(refine qf ?_;simp [go_sem])|intro _|apply And.intro|(apply Yh;clear Yh Y)));all_goals first|apply QS|omega|with_reducible assumption|skip))
   (refine qg fun T F hT hF => ?_; simp [go_sem, hb, hd]; refine hF ?_; clear hT hF T F)
   refine qH ?_
   simp only [go_sem]
   refine hK3 _ ?_; clear hK3
   refine qh fun K6 hK6 => ?_
   have e3 : posV s (s.drop i) = i := by simp [posV]; omega
   (refine qc fun Y Yh => ?_; simp [go_sem]; ((repeat' (first|(refine qf ?_;simp [go_sem])|intro _|apply And.intro|(apply Yh;clear Yh Y)));all_goals first|apply QS|omega|with_reducible assumption|skip))
   cases q2 with
   | false =>
    (refine qg fun T F hT hF => ?_; simp [go_sem]; refine hT ?_; clear hT hF T F)
    (refine qc fun Y Yh => ?_; simp [go_sem]; ((repeat' (first|(refine qf ?_;simp [go_sem])|intro _|apply And.intro|(apply Yh;clear Yh Y)));all_goals first|apply QS|omega|with_reducible assumption|skip))
    (refine qj ?_; simp [go_sem, e3])
   | true =>
    (refine qg fun T F hT hF => ?_; simp [go_sem]; refine hF ?_; clear hT hF T F)
    refine qi ?_
    refine hK6 _ ?_; clear hK6
    (refine qc fun Y Yh => ?_; simp [go_sem]; ((repeat' (first|(refine qf ?_;simp [go_sem])|intro _|apply And.intro|(apply Yh;clear Yh Y)));all_goals first|apply QS|omega|with_reducible assumption|skip))
    (refine qj ?_; simp [go_sem, e3])
    omega
end Go.Proofs.YtelhdhofnohkcaaGreatDoor
namespace Go.Fm
/-! the library's plain functions, told by this chapter's -/
theorem indexByte_find (s : List UInt8) (c : UInt8) : Lib.indexByte s c = if s.findIdx (· == c) < s.length then (s.findIdx (· == c) : Int) else -1 := by
 induction s with
 | nil => rfl
 | cons b l ih =>
  unfold Lib.indexByte
  rw [ih, List.findIdx_cons]
  by_cases h : (b == c) = true
  ·simp [h]
  ·rw [Bool.not_eq_true] at h
   simp only [h, Bool.false_eq_true, if_false, cond_false, List.length_cons]
   generalize l.findIdx (· == c) = n
   by_cases h2 : n < l.length
   ·simp only [if_pos h2]
    rw [if_neg (by rw [beq_iff_eq]; omega), if_pos (by omega)]
    simp
   ·simp only [if_neg h2]
    rw [if_pos (by decide), if_neg (by omega)]
theorem dw_nil {α : Type} {p : α → Bool} : ∀ {l : List α}, l.dropWhile p = [] ↔ l.all p = true
 | [] => by simp
 | x :: l => by
  rw [List.dropWhile_cons]
  by_cases h : p x = true
  ·rw [if_pos h, List.all_cons, h, Bool.true_and]; exact dw_nil
  ·rw [if_neg h]; simp [h]
theorem trimS_nil (l cs : List UInt8) : Lib.trimS l cs = [] ↔ l.all (cs.contains ·) = true := by
 unfold Lib.trimS Lib.trimLeftS Lib.trimRightS
 rw [dw_nil]
 have hr : ∀ m : List UInt8, m.reverse.all (cs.contains ·) = m.all (cs.contains ·) := fun m => by rw [List.all_reverse]
 rw [hr]
 constructor
 ·intro h
  have h2 := (dw_nil (p := (cs.contains ·)) (l := l.reverse)).1 (by
   cases hd : l.reverse.dropWhile (cs.contains ·) with
   | nil => rfl
   | cons x m =>
    exfalso
    have hx := List.head_dropWhile_not (cs.contains ·) (l := l.reverse) (by rw [hd]; simp)
    rw [hd] at h
    simp only [hd, List.head_cons] at hx
    rw [List.all_cons] at h
    simp only [Bool.and_eq_true] at h
    rw [h.1] at hx; cases hx)
  rw [hr] at h2; exact h2
 ·intro h
  rw [(dw_nil (p := (cs.contains ·)) (l := l.reverse)).2 (by rw [hr]; exact h)]
  rfl
def tenD : List UInt8 := [48, 49, 50, 51, 52, 53, 54, 55, 56, 57]
def nmL : List UInt8 := [97, 98, 99, 100, 101, 102, 103, 104, 105, 106, 107, 108, 109, 110, 111, 112, 113, 114, 115, 116, 117, 118, 119, 120, 121, 122, 95]
theorem tenD_isDig (c : UInt8) : tenD.contains c = isDig c := by
 have h := UInt8.toNat_lt c
 unfold isDig tenD
 refine Bool.eq_iff_iff.2 ?_
 simp only [List.contains_iff_mem, List.mem_cons, List.mem_nil_iff, or_false, Bool.and_eq_true, decide_eq_true_eq, ← UInt8.toNat_inj, UInt8.le_iff_toNat_le]
 simp
 omega
theorem nmL_isNm (c : UInt8) : nmL.contains c = isNm c := by
 have h := UInt8.toNat_lt c
 unfold isNm nmL
 refine Bool.eq_iff_iff.2 ?_
 simp only [List.contains_iff_mem, List.mem_cons, List.mem_nil_iff, or_false, Bool.and_eq_true, Bool.or_eq_true, beq_iff_eq, decide_eq_true_eq, ← UInt8.toNat_inj, UInt8.le_iff_toNat_le]
 simp
 omega
theorem trim_digits (l : List UInt8) : (Lib.trimS l tenD = []) ↔ l.all isDig = true := by
 rw [trimS_nil]
 simp only [tenD_isDig]
theorem trim_names (l : List UInt8) : (Lib.trimS l nmL = []) ↔ l.all isNm = true := by
 rw [trimS_nil]
 simp only [nmL_isNm]
theorem repeat_rep (c : UInt8) (n : Nat) : Lib.repeatL [c] n = List.replicate n c := by
 induction n with
 | zero => rfl
 | succ n ih => rw [Lib.repeatL, ih]; rfl
theorem dec_txt (n : Nat) : Lib.decDigits n = txtB 10 n := by
 refine digB_ind (b := 10) (by decide) (p := fun n => Lib.decDigits n = txtB 10 n) (fun n h => ?_) (fun n h ih => ?_) n
 ·rw [Lib.decDigits, dif_pos h]
  unfold txtB
  rw [digB_small h]
  simp [chB, h]
 ·rw [Lib.decDigits, dif_neg (by omega), ih]
  unfold txtB
  rw [digB_step (n := n) (by decide) h]
  simp [chB, Nat.mod_lt n (show 0 < 10 by decide)]
theorem itoa_show (n : Int) : Lib.itoa n = showB 10 n := by
 unfold Lib.itoa showB
 split
 ·rw [dec_txt]
 ·rw [dec_txt, show n.toNat = n.natAbs by omega]
theorem trimPre_show (b : Nat) (hb : 2 ≤ b) (hb2 : b ≤ 16) (n : Int) : Lib.trimPrefix (showB b n) [45] = txtB b n.natAbs := by
 unfold Lib.trimPrefix Lib.hasPrefix showB
 have h := (txtB_head hb hb2 n.natAbs).1
 by_cases hn : n < 0
 ·simp [hn]
 ·simp only [hn, if_false]
  rw [if_neg]
  intro q
  cases ht : txtB b n.natAbs with
  | nil => rw [ht] at q; simp at q
  | cons c r =>
   rw [ht] at q h
   simp at q h
   exact h q.symm
theorem upperB_upC (c : UInt8) : Lib.upperB c = upC c := by
 unfold Lib.upperB upC Lib.isLowerB
 have h := UInt8.toNat_lt c
 by_cases h1 : 97 ≤ c ∧ c ≤ 122
 ·rw [if_pos (by simp [h1]), if_pos h1]
 ·rw [if_neg (by simpa using h1), if_neg h1]
theorem upper_map (l : List UInt8) : Lib.toUpperA l = l.map upC := by
 unfold Lib.toUpperA
 exact List.map_congr_left fun c _ => upperB_upC c
theorem index37 (s : List UInt8) : Lib.index s [37] = if s.findIdx (· == 37) < s.length then (s.findIdx (· == 37) : Int) else -1 := by rw [Lib.index_one, indexByte_find]
theorem replaceK_esc : ∀ (f : Nat) (s : List UInt8), s.length ≤ f → Lib.replaceK [37] [37, 37] (Lib.countFrom [37] f s) s = escV s
 | 0, s, h => by
  have : s = [] := List.length_eq_zero_iff.1 (by omega)
  subst this; rfl
 | f + 1, s, h => by
  rw [Lib.countFrom, index37]
  rcases split37 s with h0 | ⟨a, b, e, h0⟩
  ·rw [find_no h0, esc_no h0]
   simp [Lib.replaceK]
  ·subst e
   rw [find_app h0]
   have hl : a.length < (a ++ 37 :: b).length := by simp
   rw [if_pos hl, if_neg (by rw [beq_iff_eq]; omega)]
   have hd : (a ++ 37 :: b).drop (a.length + 1) = b := by rw [List.drop_append]; simp
   have ih := replaceK_esc f b (by simp at h; omega)
   have e1 : (((a.length : Int).toNat) + [(37 : UInt8)].length) = a.length + 1 := by simp
   rw [e1, hd, Nat.add_comm 1]
   have hi : Lib.index (a ++ 37 :: b) [37] = (a.length : Nat) := by rw [index37, find_app h0, if_pos hl]
   rw [Lib.replaceK_hit _ _ _ _ _ hi]
   rw [show a.length + [(37 : UInt8)].length = a.length + 1 by simp, hd, ih, esc_app, esc_no h0, esc_cons37]
   simp
theorem replaceAll_esc (s : List UInt8) : Lib.replaceAll s [37] [37, 37] = escV s := by
 unfold Lib.replaceAll Lib.replace Lib.replaceNum
 rw [if_neg (by decide), if_pos (by left; decide)]
 unfold Lib.count
 exact replaceK_esc _ _ (Nat.le_succ _)
end Go.Fm
