/- Part of a proof: see the last text. -/
import Derived.Test.YteekfnhhlcmcgaaGreatDoorH04
import Derived.Test.YteekfnhhlcmcgaaGreatDoorH03
import Derived.Lib.LaidTab
import Derived.Lib.ItoaNum
import Derived.Test.YteekfnhhlcmcgaaGreatDoorTie
import Derived.Test.YteekfnhhlcmcgaaGreatDoorCards
import Derived.Lay
import Derived.LaidMore
import Derived.SevenTiedAt
import Derived.LaidLaws
import Derived.Stop.LaidErr
import Derived.Shelf.Vars
import Derived.Handed
import Derived.Shelf.Strings.Builder1
import Derived.Shelf.Strings.Trim
import Derived.Shelf.Small.Utf8
import Derived.Shelf.Small.Bits
import Derived.Shelf.Small.Strs
import Derived.Shelf.Small.Wraps
import Derived.Shelf.Strings.BuilderF
import Derived.Shelf.Strings.BuilderK
import Derived.Shelf.Utf8.RuneCount
import Derived.Shelf.Strconv.Atoi
import Derived.Shelf.Strconv.Itoa0
import Derived.Shelf.Strconv.Itoa1
import Derived.Shelf.LaysM
import Derived.Shelf.Strconv.Itoa2
import Derived.Shelf.Strconv.Itoa3
import Derived.Shelf.Strconv.AtoiErrFast
import Derived.Shelf.Strconv.ParseIntEmpty
import Derived.Shelf.Strconv.AtoiFail
import Derived.Shelf.Strconv.Clone
import Derived.Shelf.Strconv.SyntaxError
import Derived.Shelf.LaysC
import Derived.Shelf.Strconv.ToError
import Derived.Shelf.Strconv.AtoiErr
import Derived.Shelf.Strconv.ErrVar
import Derived.Shelf.Strconv.Lower
import Derived.Shelf.Strconv.ParseUint10
import Derived.Shelf.Strconv.ParseUint10Empty
import Derived.Shelf.Strconv.ParseUint10Any
import Derived.Shelf.Strconv.ParseInt10
import Derived.Shelf.Strconv.AtoiLong
import Derived.Shelf.Strconv.AtoiInnerAll
import Derived.Shelf.Strconv.RangeError
import Derived.Shelf.Strconv.ToErrorRange
import Derived.Shelf.Strconv.AtoiAll
import Derived.Shelf.Strconv.ErrVarAll
import Derived.Shelf.Strconv.ParseUintEmpty
import Derived.Shelf.Strconv.ParseUint10b64
import Derived.Shelf.Strconv.ParseUint10b32
import Derived.Shelf.Strconv.ParseUint10b16
import Derived.Shelf.Strconv.ParseUint10b8
import Derived.Shelf.Strconv.ParseUint10At
import Derived.Shelf.Strconv.ParseInt10At64
import Derived.Shelf.Strconv.ParseInt10At32
import Derived.Shelf.Strconv.ParseInt10At16
import Derived.Shelf.Strconv.ParseInt10At8
import Derived.Shelf.Strconv.ParseInt10All
import Derived.Shelf.Strings.Search1
import Derived.Shelf.Strings.Search2
import Derived.Shelf.Strings.Search3
import Derived.Shelf.Strings.Cut
import Derived.Shelf.Strings.Count
import Derived.Shelf.Strings.Shaped
import Derived.Shelf.Sort.Plain
import Derived.Shelf.Strings.LastIndex
import Derived.Shelf.Strings.LastIndexAll
import Derived.Shelf.GgClosure.StringsIndexFunc
import Derived.Ground.GgwProg
import Derived.Shelf.GgClosure.StringsIndexFuncTop
import Derived.Shelf.Strings.Prefix
import Derived.Shelf.Strings.Split
import Derived.Shelf.Strings.SplitShaped
import Derived.Shelf.Unicode.Decode
import Derived.Shelf.Strings.Runes
import Derived.Shelf.Strings.RuneCount
import Derived.Shelf.Strings.AsciiSet
import Derived.Shelf.Strings.Explode
import Derived.Shelf.Unicode.DecodeSlow
import Derived.Shelf.Unicode.DecodeAny
import Derived.Shelf.Unicode.DecodeLast
import Derived.Shelf.Strings.BuilderCap
import Derived.Shelf.Slices.Turned
import Derived.Shelf.Slices.CompactS
import Derived.Ground.Names2Prog
import Derived.Shelf.Slices.SearchI
import Derived.Shelf.Slices.Cells
import Derived.Shelf.Slices.In.SortNone
import Derived.Test.YteekfnhhlcmcgaaGreatDoorProg
import Derived.Sort.Grow
import Derived.Lib.ConvBytes
import Derived.Shelf.Strings.SlTrimAscii
import Derived.Lib.IndexMore
set_option linter.unusedVariables false
set_option linter.unusedSimpArgs false
set_option linter.unusedSectionVars false
namespace Go.Eng
variable {P : Program} [HasGlob P]
def BldStep (w w' : World) (T e b : Nat) (v : Value) (l' : List UInt8) : Prop :=
 ∃ p' v', w'.heap[b]? = some (.cells #[p', v'] T (0, 0)) ∧ (p' = .pointer none ∨ p' = .pointer (some ⟨b, 0, none⟩)) ∧ w'.ownsRowF 0 e 1 v' l'.length (Lib.byteCells l') ∧
  (v'.ownBlock = v.ownBlock ∨ ∀ k, v'.ownBlock = some k → w.heap.size ≤ k) ∧ v'.ownBlock ≠ some b ∧
  w'.os = w.os ∧ w'.tape = w.tape ∧ w'.output = w.output ∧ w.heap.size ≤ w'.heap.size ∧ ∀ k, k < w.heap.size → k ≠ b → v.ownBlock ≠ some k → w'.heap[k]? = w.heap[k]?
theorem blk_ownF {w : World} {base : Nat} {e : TypeId} {size : Nat} {v : Value} {n : Nat} {xs : List Value} (h : w.ownsRowF base e size v n xs) : blk v = v.ownBlock ∧ ∀ k, v.ownBlock = some k → k < w.heap.size := by
 rcases h.2 with ⟨rfl, _⟩ | ⟨g, cap, cur, fz, rfl, _, hg, _⟩
 ·exact ⟨rfl, fun k hk => by cases hk⟩
 ·refine ⟨rfl, fun k hk => ?_⟩
  simp only [Value.ownBlock, Option.some.injEq] at hk
  subst hk
  rcases Nat.lt_or_ge g w.heap.size with h' | h'
  ·exact h'
  ·simp [Array.getElem?_eq_none h'] at hg
theorem wX {f : FuncId} {T e nb gb nr gr : Nat} {l l' : List UInt8} {xs : List Value} {r : D} {x : Value} (hf : FnOk P f) (h1 : 900000 ≤ nb) (h2 : 900000 ≤ nr) (hd : nb ≠ nr)
  (hx : ∀ C w, Rep C w r x)
  (h : ∀ (b : Nat) (p v : Value) (w : World), HasGlob.ok P w → w.heap[b]? = some (.cells #[p, v] T (0, 0)) → (p = .pointer none ∨ p = .pointer (some ⟨b, 0, none⟩)) → w.ownsRowF 0 e 1 v l.length (Lib.byteCells l) → v.ownBlock ≠ some b →
   Calls P f (.pointer (some ⟨b, 0, none⟩) :: xs).toArray w fun en w' => en = .returned x ∧ BldStep w w' T e b v l') :
  ACall P f (.ptr nb gb 0 :: xs.map .v) [(nb, (gb, .bld T nr gr)), (nr, (gr, .brow e l))] [nb, nr] fun ps r' => ∃ gr', ps = [(gb, .bld T nr gr'), (gr', .brow e l')] ∧ r' = r := by
 refine ⟨hf, ?_, fun C w us hc hg hr he => ?_⟩
 ·intro p hp
  simp only [List.mem_cons, List.mem_nil_iff, or_false] at hp
  rcases hp with rfl | rfl
  ·exact ⟨h1, rfl, by simp⟩
  ·exact ⟨h2, rfl, by simp⟩
 ·have hnb := he nb gb (.bld T nr gr) (by simp [look])
  have hnr := he nr gr (.brow e l) (by simp [look, hd])
  obtain ⟨b, p, v, b1, b2, b3, b4, b5⟩ := hnb
  obtain ⟨u, r1, r2, r3⟩ := hnr
  rw [b5] at r1
  simp only [Option.some.injEq] at r1
  subst r1
  obtain ⟨k1, k2⟩ := blk_ownF r3
  have hne : v.ownBlock ≠ some b := fun q => hd (hc.apart nb gb _ nr gr v b b1 b2 b5 r2 rfl (k1.trans q)).1
  have hus : us = .pointer (some ⟨b, 0, none⟩) :: xs := by
   refine List.ext_getElem (by simpa using hr.1) fun j h1 h2 => ?_
   cases j with
   | zero =>
    have := hr.2 0 (.ptr nb gb 0) us[0] rfl (List.getElem?_eq_getElem h1)
    show us[0] = _
    generalize us[0] = u0 at this ⊢
    cases this with
    | ptr _ _ _ b' hv =>
     rw [b1] at hv
     simp only [Option.some.injEq, Value.pointer.injEq, Addr.mk.injEq, and_true] at hv
     simp [hv]
   | succ j =>
    have h2' : j < xs.length := by simpa using h2
    have := hr.2 (j + 1) (.v xs[j]) us[j + 1] (by simp [h2']) (List.getElem?_eq_getElem h1)
    simpa using this.v_inv
  subst hus
  refine (h b p v w hg.1 b3 b4 r3 hne).mono fun en w' ⟨he', hs⟩ => ?_
  obtain ⟨p', v', s1, s2, s3, s4, s5, s6, s7, s8, s9, s10⟩ := hs
  obtain ⟨N, hN⟩ := hc.fresh nr
  obtain ⟨m1, m2⟩ := blk_ownF s3
  have hbl : b < w.heap.size := hc.bound nb gb _ b b1 b2 rfl
  have hown : ∀ k, v'.ownBlock = some k → k < w.heap.size → v.ownBlock = some k := fun k hk hlt => by
   rcases s4 with q | q
   ·rw [← q]; exact hk
   ·have := q k hk; omega
  let C' : Ctx := ⟨fun s g => if s = nr ∧ g = N then some v' else C.val s g, fun s g => if s = nr ∧ g = N then true else if s = nr ∧ g = gr then false else C.live s g⟩
  have hval : ∀ s g y, C.val s g = some y → C'.val s g = some y := fun s g y hy => by
   show (if s = nr ∧ g = N then some v' else C.val s g) = some y
   rw [if_neg]
   ·exact hy
   ·rintro ⟨rfl, rfl⟩
    rw [hN _ (Nat.le_refl _)] at hy
    cases hy
  have hgN : gr ≠ N := fun q => by subst q; rw [hN _ (Nat.le_refl _)] at b5; cases b5
  have cases' : ∀ s g u, C'.val s g = some u → C'.live s g = true → (s = nr ∧ g = N ∧ u = v') ∨ (¬ (s = nr ∧ g = gr) ∧ C.val s g = some u ∧ C.live s g = true) := fun s g u q1 q2 => by
   change (if s = nr ∧ g = N then some v' else C.val s g) = some u at q1
   change (if s = nr ∧ g = N then true else if s = nr ∧ g = gr then false else C.live s g) = true at q2
   by_cases q : s = nr ∧ g = N
   ·rw [if_pos q] at q1
    exact .inl ⟨q.1, q.2, by simpa using q1.symm⟩
   ·rw [if_neg q] at q1 q2
    by_cases q' : s = nr ∧ g = gr
    ·rw [if_pos q'] at q2; cases q2
    ·rw [if_neg q'] at q2
     exact .inr ⟨q', q1, q2⟩
  have hvN : C'.val nr N = some v' := by show (if nr = nr ∧ N = N then some v' else C.val nr N) = some v'; simp
  have hlN : C'.live nr N = true := by show (if nr = nr ∧ N = N then true else _) = true; simp
  have hlo : ∀ s g, ¬ (s = nr ∧ g = N) → ¬ (s = nr ∧ g = gr) → C'.live s g = C.live s g := fun s g q1 q2 => by
   show (if s = nr ∧ g = N then true else if s = nr ∧ g = gr then false else C.live s g) = C.live s g
   rw [if_neg q1, if_neg q2]
  have hext : Ext C w C' w' := by
   refine ⟨hval, fun k hk ⟨s, g, u, q1, q2, q3⟩ => ?_, fun k hk hno => ?_, s9⟩
   ·rcases cases' s g u q1 q2 with ⟨_, _, e3⟩ | ⟨_, q4, q5⟩
    ·rw [e3, m1] at q3
     exact ⟨nr, gr, v, b5, r2, k1.trans (hown k q3 hk)⟩
    ·exact ⟨s, g, u, q4, q5, q3⟩
   ·exact s10 k hk (fun q => hno ⟨nb, gb, _, b1, b2, by subst q; rfl⟩) (fun q => hno ⟨nr, gr, v, b5, r2, k1.trans q⟩)
  have hblive : C'.live nb gb = true := by rw [hlo nb gb (fun q => hd q.1) (fun q => hd q.1)]; exact b2
  have newNot : ∀ s g u k, ¬ (s = nr ∧ g = gr) → C.val s g = some u → C.live s g = true → blk u = some k → v'.ownBlock ≠ some k := fun s g u k q1 q2 q3 q4 q5 => by
   have hk := hc.bound s g u k q2 q3 q4
   have := hown k q5 hk
   exact q1 (hc.apart s g u nr gr v k q2 q3 b5 r2 q4 (k1.trans this))
  refine ⟨x, r, [(gb, .bld T nr N), (N, .brow e l')], C', he', ⟨N, rfl, rfl⟩, hx _ _, ⟨?_, ?_, ?_⟩, hext, ⟨rfl, ?_⟩, ?_, ?_, ?_, ?_, ⟨s6, s7, s8, s9, ?_⟩⟩
  ·intro s g u s' g' u' k q1 q2 q3 q4 q5 q6
   rcases cases' s g u q1 q2 with ⟨rfl, rfl, rfl⟩ | ⟨p1, p2, p3⟩ <;> rcases cases' s' g' u' q3 q4 with ⟨rfl, rfl, rfl⟩ | ⟨t1, t2, t3⟩
   ·exact ⟨rfl, rfl⟩
   ·rw [m1] at q5; exact absurd q5 (newNot s' g' u' k t1 t2 t3 q6)
   ·rw [m1] at q6; exact absurd q6 (newNot s g u k p1 p2 p3 q5)
   ·exact hc.apart s g u s' g' u' k p2 p3 t2 t3 q5 q6
  ·intro s g u k q1 q2 q3
   rcases cases' s g u q1 q2 with ⟨rfl, rfl, rfl⟩ | ⟨p1, p2, p3⟩
   ·exact m2 k (m1 ▸ q3)
   ·exact Nat.lt_of_lt_of_le (hc.bound s g u k p2 p3 q3) s9
  ·intro s
   obtain ⟨M, hM⟩ := hc.fresh s
   refine ⟨max M (N + 1), fun g hg' => ?_⟩
   show (if s = nr ∧ g = N then some v' else C.val s g) = none
   rw [if_neg (by omega)]
   exact hM g (by omega)
  ·intro j s p0 hj hp
   match j, hj, hp with
   | 0, hj, hp =>
    simp only [List.getElem?_cons_zero, Option.some.injEq] at hj hp
    subst hj hp
    exact ⟨⟨b, p', v', hval _ _ _ b1, hblive, s1, s2, hvN⟩, rfl⟩
   | 1, hj, hp =>
    simp only [List.getElem?_cons_succ, List.getElem?_cons_zero, Option.some.injEq] at hj hp
    subst hj hp
    exact ⟨⟨v', hvN, hlN, s3⟩, rfl⟩
   | j + 2, hj, hp => simp at hj
  ·intro j s p0 u k hj hp hv hk
   match j, hj, hp with
   | 0, hj, hp =>
    simp only [List.getElem?_cons_zero, Option.some.injEq] at hj hp
    subst hj hp
    have : u = .pointer (some ⟨b, 0, none⟩) := by have := hval _ _ _ b1; rw [this] at hv; exact (Option.some.inj hv).symm
    subst this
    exact .inr ⟨⟨nb, gb, _, ⟨.bld T nr gr, by simp [look]⟩, b1, hk⟩, h1⟩
   | 1, hj, hp =>
    simp only [List.getElem?_cons_succ, List.getElem?_cons_zero, Option.some.injEq] at hj hp
    subst hj hp
    have : u = v' := by rw [hvN] at hv; exact (Option.some.inj hv).symm
    subst this
    rw [m1] at hk
    rcases s4 with q | q
    ·exact .inr ⟨⟨nr, gr, v, ⟨.brow e l, by simp [look, hd]⟩, b5, k1.trans (q ▸ hk)⟩, h2⟩
    ·exact .inl (q k hk)
   | j + 2, hj, hp => simp at hj
  ·intro j s p0 y hj hp hy
   match j, hj, hp with
   | 0, hj, hp =>
    simp only [List.getElem?_cons_zero, Option.some.injEq] at hj hp
    subst hj hp
    exact ⟨.bld T nr gr, by simp [look]⟩
   | 1, hj, hp =>
    simp only [List.getElem?_cons_succ, List.getElem?_cons_zero, Option.some.injEq] at hj hp
    subst hj hp
    rw [hN _ (Nat.le_refl _)] at hy
    cases hy
   | j + 2, hj, hp => simp at hj
  ·intro s g y hy hnl
   refine hlo s g (fun q => ?_) (fun q => ?_)
   ·rw [q.1, q.2, hN _ (Nat.le_refl _)] at hy; cases hy
   ·rw [q.1, q.2] at hnl
    exact hnl ⟨.brow e l, by simp [look, hd]⟩
  ·intro s g y hy hl
   by_cases q : s = nr ∧ g = N
   ·rw [q.1, q.2, hN _ (Nat.le_refl _)] at hy; cases hy
   ·by_cases q' : s = nr ∧ g = gr
    ·rw [q'.1, q'.2]; exact r2
    ·rw [← hlo s g q q']; exact hl
  ·intro k hk hno
   exact s10 k hk (fun q => hno ⟨nb, gb, _, ⟨.bld T nr gr, by simp [look]⟩, b1, by subst q; rfl⟩) (fun q => hno ⟨nr, gr, v, ⟨.brow e l, by simp [look, hd]⟩, b5, k1.trans q⟩)
end Go.Eng
set_option linter.unusedSectionVars false
namespace Go.Eng
open Go.RowKit
variable {P : Program} [HasGlob P]
theorem zt {f : FuncId} {args : List D} {R : D → Prop} (hf : FnOk P f)
  (h : ∀ (C : Ctx) (w : World) (us : List Value), CtxOk C w → HasGlob.ok P w → RepL C w args us → Calls P f us.toArray w fun e w' => ∃ u r, e = .returned u ∧ R r ∧ Rep C w' r u ∧ Below w.heap.size w w') : PCall P f args R := by
 refine ⟨hf, fun C w vs hc hg hr => ?_⟩
 exact (h C w vs hc hg.1 hr).mono fun e w' ⟨u, r, he, h1, h2, hb⟩ => ⟨u, r, C, he, h1, h2, ⟨hc.apart, fun s g u b h1 h2 h3 => Nat.lt_of_lt_of_le (hc.bound s g u b h1 h2 h3) hb.size, hc.fresh⟩,
  ⟨fun _ _ _ h => h, fun _ _ h => h, fun b hlt _ => hb.block b hlt, hb.size⟩, fun _ _ _ _ => rfl, ⟨hb.os, hb.tape, hb.output, hb.size, fun b hlt _ => hb.block b hlt⟩⟩
theorem repL_v {C : Ctx} {w : World} {us vs : List Value} (h : RepL C w (us.map .v) vs) : vs = us := by
 refine List.ext_getElem (by simpa using h.1) fun j h1 h2 => ?_
 have := h.2 j (.v us[j]) vs[j] (by simp [h2]) (List.getElem?_eq_getElem h1)
 exact this.v_inv
theorem rep_tup2 {C : Ctx} {w : World} {a b : D} {x y : Value} (h1 : Rep C w a x) (h2 : Rep C w b y) : Rep C w (.tup [a, b]) (.tuple #[x, y]) := by
 refine .tup _ _ rfl fun j c u hc hu => ?_
 match j, hc, hu with
 | 0, hc, hu => simp at hc hu; subst hc hu; exact h1
 | 1, hc, hu => simp at hc hu; subst hc hu; exact h2
 | j + 2, hc, hu => simp at hc
theorem rep_newrow {C : Ctx} {w w1 : World} (hc : CtxOk C w) (hs : w.heap.size ≤ w1.heap.size) {xs : List Value} {t : TypeId} {cap : Nat} (hcap : xs.length ≤ cap) (hm : cap ≤ maxLen) :
  Rep C (w1.alloc (.cells xs.toArray t)) (.sl 1 (xs.map fun x => [.v x])) (.slice (some ⟨w1.heap.size, 0, none⟩) xs.length cap) := by
 have hl : (xs.map fun x => [D.v x]).length = xs.length := by simp
 have := Rep.sl (C := C) (w := w1.alloc (.cells xs.toArray t)) 1 (xs.map fun x => [D.v x]) w1.heap.size 0 cap (fun i _ => xs.getD i default) (by simpa using hcap) hm (by simp) (fun i j e c he hc' => ?_) (fun i j e c he hc' => ?_)
 ·rw [hl] at this; exact this
 ·simp only [List.getElem?_map, Option.map_eq_some_iff] at he
  obtain ⟨x, hx, rfl⟩ := he
  refine ⟨fun ⟨s, g, u, q1, q2, q3⟩ => ?_, ?_⟩
  ·have := hc.bound s g u _ q1 q2 q3; omega
  ·match j, hc' with
   | 0, hc' =>
    have hi : i < xs.length := by rcases Nat.lt_or_ge i xs.length with h | h; exact h; simp [h] at hx
    have e1 : (w1.alloc (.cells xs.toArray t)).heap[w1.heap.size]? = some (.cells xs.toArray t) := heap_alloc_new _ _
    unfold World.cell?
    rw [e1]
    simp [hi, List.getD]
   | j + 1, hc' => simp at hc'
 ·simp only [List.getElem?_map, Option.map_eq_some_iff] at he
  obtain ⟨x, hx, rfl⟩ := he
  match j, hc' with
  | 0, hc' =>
   simp at hc'
   subst hc'
   have : xs.getD i default = x := by simp [List.getD, hx]
   rw [this]
   exact .v x
  | j + 1, hc' => simp at hc'
end Go.Eng
set_option linter.unusedSectionVars false
namespace Go.Eng
open Go.RowKit
variable {P : Program} [HasGlob P] {n : Nat} {S : St} {Q : Exit → St → Prop}
theorem Inv.nameBytes {w0 : World} {B : Nat → Nat → Prop} {C0 : Ctx} {C : Ctx} {a : Act} {w : World} (I : Inv w0 B C0 n S C a w) (s e : Nat) :
  ∃ g C', Inv w0 B C0 n (S.hput s g (.brow e [])) C' a w ∧ C'.val s g = some (.slice none 0 0) ∧ Ext C w C' w := by
 obtain ⟨g, C', I', hv, hx⟩ := I.nameNil s e 1
 refine ⟨g, C', ?_, hv, hx⟩
 refine ⟨I'.size, I'.defers, I'.slots, fun s' g' b' hb' => ?_, fun s' g' b' x u' hx hl' hv' hb' => ?_, I'.apart, I'.bound, I'.fresh, I'.frame, I'.old, I'.owned, I'.kept, fun s' g' y z hy hz => ?_, I'.dead0, I'.bound0⟩
 ·rw [qF] at hb'
  split at hb'
  ·rename_i es
   subst es
   simp only [Option.some.injEq, Prod.mk.injEq] at hb'
   obtain ⟨rfl, rfl⟩ := hb'
   have := I'.heap s g (.row e 1 []) (by rw [qF, if_pos rfl])
   obtain ⟨u, xs, h1, h2, _⟩ := this
   refine ⟨.slice none 0 0, hv, h2, ⟨by simp [Lib.byteCells], .inl ⟨rfl, rfl⟩⟩⟩
  ·rename_i hne
   exact I'.heap s' g' b' (by rw [qF, if_neg hne]; exact hb')
 ·rw [qF] at hx
  split at hx
  ·rename_i es
   subst es
   simp only [Option.some.injEq, Prod.mk.injEq] at hx
   obtain ⟨rfl, rfl⟩ := hx
   exact I'.mine s g b' (.row e 1 []) u' (by rw [qF, if_pos rfl]) hl' hv' hb'
  ·rename_i hne
   exact I'.mine s' g' b' x u' (by rw [qF, if_neg hne]; exact hx) hl' hv' hb'
 ·rw [qF] at hy
  split at hy
  ·rename_i es
   subst es
   simp only [Option.some.injEq, Prod.mk.injEq] at hy
   obtain ⟨rfl, rfl⟩ := hy
   exact I'.ents s g (.row e 1 []) z (by rw [qF, if_pos rfl]) hz
  ·rename_i hne
   exact I'.ents s' g' y z (by rw [qF, if_neg hne]; exact hy) hz
theorem X7 (T e nb nr : Nat) (hd : nb ≠ nr) {id t' ty : Nat} {pos : String} {after : Array Edge} {y : Code} (ht : t' < n) (hz : zeroOf P T = some [.pointer none, .slice none 0 0])
  (h : ∀ gb gr, AWp P n y ⟨(t', .ptr nb gb 0) :: S.slots, (nb, (gb, .bld T nr gr)) :: (nr, (gr, .brow e [])) :: S.heap⟩ Q) :
  AWp P n (.seq (.region id #[⟨some t', .alloc T, ty, pos, after, none⟩] false) y) S Q := by
 refine xM ?_
 intro w0 B C0 C a w E I
 refine wp_region_lit (l := [⟨some t', .alloc T, ty, pos, after, none⟩]) ?_
 refine wpList_step fun K' hK' => ?_
 have hw : Region.wanted (⟨some t', .alloc T, ty, pos, after, none⟩ : Oper) (yielded [⟨some t', .alloc T, ty, pos, after, none⟩].toArray a.tmps) = true := by simp [Region.wanted]
 rw [if_pos hw]
 obtain ⟨i, z, hi, hz1, hzs, _⟩ := zI hz
 have hzc : z.cells = #[.pointer none, .slice none 0 0] := by
  apply Array.ext'
  rw [hzs]
 obtain ⟨gr, C1, I1, hv1, e1⟩ := I.nameBytes nr e
 obtain ⟨gb, C2, I2, hv2, e2⟩ := I1.new nb (.bld T nr gr) (.pointer (some ⟨w.heap.size, 0, none⟩)) rfl (Pushed.alloc w (.cells z.cells T)) (fun C' g e hv hl =>
  ⟨w.heap.size, .pointer none, .slice none 0 0, hv, hl, by rw [heap_alloc_new, hzc], .inl rfl, e.val _ _ _ hv1⟩)
 refine wp_val (u := .pointer (some ⟨w.heap.size, 0, none⟩)) (w' := w.alloc (.cells z.cells T)) ?_ ?_
 ·simp [execOp, Instr.alloc, zeroValue, typeInfo, hi, hz1, newVar, newRow]
 ·refine hK' _ _ ?_
  refine wpList_nil ?_
  exact ⟨_, C2, h gb gr, I2.put ht (.ptr nb gb 0 _ hv2)⟩
/-! a region whose operations are told one by one -/
def AGs (P : Program) [HasGlob P] (n : Nat) (ops : List Oper) : List Oper → St → (St → Prop) → Prop
 | [], S, K => K S
 | o :: rest, S, K => AG P n ops o S fun S' => AGs P n ops rest S' K
end Go.Eng
namespace Go.Eng
end Go.Eng
namespace Go.Proofs.YteekfnhhlcmcgaaGreatDoor
open Go.Eng Go.Wh Go.Ver
set_option maxRecDepth 20000
theorem gn_pow : Tryz.prog.globalNamed "internal/strconv.uint64pow10" = some 1 := by kernel_rfl
def glOk (w : World) : Prop := Lib.TabIs Tryz.prog w "internal/strconv.uint64pow10" .u64 Lib.pow10Tab ∧ ∃ m, w.cell? ⟨0, 0, none⟩ = some (.int .i64 m)
theorem glOk_stab (w w' : World) (h : ∀ b ∈ [0, 1], w'.heap[b]? = w.heap[b]?) (hk : glOk w) : glOk w' := by
 refine ⟨?_, ?_⟩
 ·have hk1 := hk.1
  unfold Lib.TabIs World.var? at hk1 ⊢
  rw [gn_pow] at hk1 ⊢
  simp only [Option.bind_some] at hk1 ⊢
  rw [h 1 (by simp)]
  exact hk1
 ·have e : w'.cell? ⟨0, 0, none⟩ = w.cell? ⟨0, 0, none⟩ := by unfold World.cell?; rw [h 0 (by simp)]
  rw [e]; exact hk.2
instance trydGlob : HasGlob Tryz.prog := ⟨[0, 1], glOk, glOk_stab⟩
@[go_sem] abbrev cI (n : Int) : List D := [.v (.int .i64 n)]
@[go_sem] abbrev dI (n : Int) : D := .v (.int .i64 n)
@[go_sem] abbrev dB (n : Bool) : D := .v (.bool n)
@[go_sem] abbrev dIs (l : List Int) : D := .sl 1 (l.map cI)
@[go_sem] abbrev dS (l : List UInt8) : D := .v (.string ⟨l.toArray⟩)
@[go_sem] abbrev cS (s : List UInt8) : List D := [.v (.string ⟨s.toArray⟩)]
@[go_sem] abbrev dSs (l : List (List UInt8)) : D := .sl 1 (l.map cS)
@[go_sem] abbrev cG (x : Seg) : List D := [dS x.1, dI x.2]
@[go_sem] abbrev dG (x : Seg) : D := .agg [dS x.1, dI x.2]
@[go_sem] abbrev dGs (l : List Seg) : D := .sl 2 (l.map cG)
end Go.Proofs.YteekfnhhlcmcgaaGreatDoor
namespace Go.Proofs.YteekfnhhlcmcgaaGreatDoor
open Go.Eng Go.WideShapes Go.Wh Go.Ver
set_option maxRecDepth 100000
theorem own : ownKnob Tryz.prog.godebug = none := by kernel_rfl
theorem laidOut : laidOutB Tryz.prog = true := by kernel_rfl
/-! the types of the laws' parameters -/
/-! what is listed of the package-level variables -/
theorem pow_data : (Rows.laid_internal_strconv_uint64pow10 : DataW Unit) = Lib.tabData .u64 Lib.pow10Tab := by kernel_rfl
theorem globOk_of {W : World} {r : List (String × DataW Unit)} (hL : laidMet Tryz.prog (("internal/strconv.uint64pow10", (Rows.laid_internal_strconv_uint64pow10 : DataW Unit)) :: r) W) (hsh : W.ShapedOpen Tryz.prog) : GlobOk Tryz.prog noCtx W := by
 have hlt : ∀ b v, W.cell? ⟨b, 0, none⟩ = some v → b < W.heap.size := fun b v h => cell_lt h
 have hp : Lib.TabIs Tryz.prog W "internal/strconv.uint64pow10" .u64 Lib.pow10Tab := by
  rw [pow_data] at hL
  exact Lib.tabIs_of_head gn_pow (by kernel_rfl) (t := 339) (e := 254) (n := 20) (by kernel_rfl) (by kernel_rfl) (by kernel_rfl) (by kernel_rfl) hL
 obtain ⟨m, hm⟩ := cell_of_shapedOpen_int (g := 0) (t := 3) (zero := #[.int .i64 0]) hsh (by decide +kernel) (by kernel_rfl) rfl (by kernel_rfl) (by kernel_rfl) Tryz.underlying3
 refine ⟨⟨hp, ⟨m, hm⟩⟩, fun b hb => ⟨(fun ⟨s, g, u, h, _⟩ => by cases h), ?_⟩⟩
 have hb' : b = 0 ∨ b = 1 := by
  have : b ∈ [0, 1] := hb
  simpa using this
 rcases hb' with rfl | rfl
 ·exact hlt _ _ hm
 ·exact hlt _ _ (hp.cell gn_pow 0 (by decide))
theorem wrap {H : Type} {enc : TypeId × Value → H} {a : Assume} {C : Checked} {os : Os} {f : FuncId} {fn : Func} {s : ChangeSpec} {conds : List PathCond} {apart fresh handsOn again : Bool} {X : World → Array Value → Prop}
  (hX : ∀ (w w' : World) (args : Array Value), w.heap = w'.heap → X w args → X w' args)
  (own : ownKnob C.prog.godebug = none) (started : os.Started) (noInit : C.prog.inits.idxOf? f = none) (hfn : C.prog.funcs[f]? = some fn)
  (witness : ∃ (w : World) (tape : Tape) (i : Input), w.os = os ∧ (w.forCall tape i).Shaped C.prog ∧ i.vars = [] ∧ Input.okWide C.prog (w.forCall tape i) .any w.heap.size f i ∧
   ((s.pre enc C.prog fn conds apart (w.forCall tape i).memory i.args ∧ X (w.forCall tape i).memory i.args) ∧ sizedMet enc C.prog fn (OpenSpec.ofChange s) apart (w.forCall tape i).memory i.args) ∧ a.holds C.prog (lone (Frame.enter C.prog f i.args .normal) [] (w.forCall tape i)))
  (contract : ∀ (W : World) (base : Nat) (args : Array Value) (ds gs : List (DataW H)) (before : List MemPlace),
   (∀ (j : Nat) t v, fn.params[j]? = some t → args[j]? = some v → Value.okWide C.prog W .any base t v) →
   DataW.Whole enc C.prog fn.params.toList s.vars apart W args.toList ds gs before → X W args → W.ShapedOpen C.prog →
   Calls C.prog f args W fun e W' => ∃ v, e = .returned v ∧ s.post enc C.prog fn apart fresh handsOn again W args v W') :
  ReturnsInHanded a C os f .any (fun w args => (s.pre enc C.prog fn conds apart w args ∧ X w args) ∧ sizedMet enc C.prog fn (OpenSpec.ofChange s) apart w args) (s.post enc C.prog fn apart fresh handsOn again) := by
 refine returnsInHanded_of_calls own started noInit witness ?_
 intro w tape i _ hsh _ hok hpre hholds
 obtain ⟨_, _, _, fn', hfn', _, _, _, _, hval⟩ := hok
 have e : fn' = fn := Option.some.inj (hfn'.symm.trans hfn)
 subst e
 obtain ⟨⟨⟨ds, gs, before, hw, hc⟩, hx⟩, hz⟩ := hpre
 have hw' := DataW.Whole.of_heap (w' := w.forCall tape i) (by rfl) hw
 refine (contract (w.forCall tape i) w.heap.size i.args ds gs before hval hw' (hX _ _ _ (by rfl) hx) hsh).mono fun e W' ⟨v, he, hp⟩ => ?_
 subst he
 exact ChangeSpec.post_blind hp
end Go.Proofs.YteekfnhhlcmcgaaGreatDoor
/-! Facts of the whole program that every row's closing asks, each checked by itself: together they outgrow the kernel's memory. -/
namespace Go.Proofs.YteekfnhhlcmcgaaGreatDoor
open Go.Eng Go.Wh Go.Ver
set_option maxRecDepth 100000
theorem joined_of {P : Program} {f : FuncId} {fn : Func} {s : ChangeSpec} {c : OpenClaim}
  (a1 : c.wf (OpenSpec.ofChange s) = true) (a2 : laidOutB P = true) (a3 : mapsRowed P = true)
  (b1 : (fn.params.all (P.readableRec ·) && namedTie P c.named s.vars && (c.stops == []) && (P.stops == []) && (c.knobs == []) && (P.stopKnobs == [])) = true)
  (c1 : (c.inPlace == P.inPlace f) = true) (c2 : (c.unfollowed == P.unfollowed f) = true) (c3 : (c.recurses == P.recurses f) = true) (c4 : (c.named == P.varsNamed f) = true)
  (d1 : ((c.maps == (fn.params.toList ++ s.plain.varTypes P).any (P.mapsRec ·)) && (c.ifaces == (fn.params.toList ++ s.plain.varTypes P).any (P.ifacesRec ·)) && (c.mapsOut == P.mapsAmong fn.resultTypes.toList) &&
 (c.loops == (fn.params.toList ++ s.plain.varTypes P).any (P.loopsFrom ·)) && (c.wideKeys == (fn.params.toList ++ s.plain.varTypes P ++ fn.resultTypes.toList).any (P.wideKeysFrom ·)) &&
 s.vars.all (P.varReadable ·) && fn.resultTypes.all (fun t => P.readableRec t && decide (t < P.types.size)) && (c.ifacesOut == fn.resultTypes.toList.any (P.ifacesRec ·)) && (c.loopsOut == fn.resultTypes.toList.any (P.loopsFrom ·))) = true)
  (e1 : (c.plainKeys == P.plainKeys) = true) (e2 : c.shortTexts.isNone = true) (e3 : P.stopsHeard = true) (e4 : P.mayEnter = true) (e5 : (c.lifted == P.liftsFinal) = true)
  (g1 : ((P.make == some c.make) && (c.kinds == (if c.domain.isEmpty then [] else fn.params.toList.map fun t => match P.underlying t with | some (.int k) => some k | _ => none)) && (c.pinned == c.pinnedBy) &&
 (c.veiled == (fn.params.toList ++ s.plain.varTypes P ++ fn.resultTypes.toList).any (P.veiledRec ·)) && c.veiledFits P fn.params.toList (fn.params.toList ++ s.plain.varTypes P ++ fn.resultTypes.toList)) = true) :
  joinedFacts P f fn s c = true := by
 unfold joinedFacts
 simp only [Bool.and_eq_true] at b1 d1 g1 ⊢
 simp only [and_assoc] at b1 d1 g1 ⊢
 obtain ⟨b1, b2, b3, b4, b5, b6⟩ := b1
 obtain ⟨d1, d2, d3, d4, d5, d6, d7, d8, d9⟩ := d1
 obtain ⟨g1, g2, g3, g4, g5⟩ := g1
 exact ⟨a1, a2, a3, b1, b2, b3, b4, b5, b6, c1, c2, c3, c4, d1, d2, d3, d4, d5, d6, d7, d8, d9, e1, e2, e3, e4, e5, g1, g2, g3, g4, g5⟩
theorem mapsRowed_is : mapsRowed Tryz.checked.prog = true := by kernel_rfl
theorem plainKeys_is : (Rows.resolveAllRow.plainKeys == Tryz.checked.prog.plainKeys) = true := by kernel_rfl
theorem stopsHeard_is : Tryz.checked.prog.stopsHeard = true := by kernel_rfl
theorem mayEnter_is : Tryz.checked.prog.mayEnter = true := by kernel_rfl
theorem lifts_is : (Rows.resolveAllRow.lifted == Tryz.checked.prog.liftsFinal) = true := by kernel_rfl
theorem main_is : Tryz.checked.prog.mainIs = some (true, "76850a4d2dff49a26d415191adefbc5b9c05272ba8f1ee206084b76bcb00e786".toList) := by kernel_rfl
theorem looks_is : true = Tryz.checked.prog.looks [] := by kernel_rfl
end Go.Proofs.YteekfnhhlcmcgaaGreatDoor
set_option linter.unusedSectionVars false
namespace Go.Eng
open Go.RowKit Go.WideShapes Go.ChangeShapes
variable {P : Program} [HasGlob P]
/-! arguments read with what they weigh: each string and slice is no larger than the machine's addresses -/
theorem mem_weightsAll {H : Type} {P : Program} {e : TypeId} : ∀ {l : List (DataW H)} {d : DataW H} {m : Nat}, d ∈ l → m ∈ d.weights P e → m ∈ DataW.weightsAll P e l
 | [], d, m, h, _ => by simp at h
 | c :: l, d, m, h, hm => by
  simp only [DataW.weightsAll, List.mem_append]
  rcases List.mem_cons.1 h with rfl | h
  ·exact .inl hm
  ·exact .inr (mem_weightsAll h hm)
theorem mem_weightsEach_app {H : Type} {P : Program} : ∀ {ts us : List TypeId} {ds gs : List (DataW H)} {m : Nat}, ts.length = ds.length → m ∈ DataW.weightsEach P ts ds → m ∈ DataW.weightsEach P (ts ++ us) (ds ++ gs)
 | [], us, [], gs, m, _, h => by simp [DataW.weightsEach] at h
 | t :: ts, us, d :: ds, gs, m, hl, h => by
  simp only [List.cons_append, DataW.weightsEach, List.mem_append] at h ⊢
  rcases h with h | h
  ·exact .inl h
  ·exact .inr (mem_weightsEach_app (by simpa using hl) h)
def OpensZD {α : Type} (P : Program) (t : TypeId) (f : α → List D) (Q : α → Prop) : Prop :=
 ∀ {H : Type} (enc : TypeId × Value → H) (w : World) (spare : Nat → Bool) (held : Bool) (fuel : Nat) (cs : List Value) (x : DataW H × List MemPlace),
  DataW.trod enc P w 0 spare held fuel t cs = some x → (∀ m ∈ x.1.weights P t, m ≤ reachBytes) → ∃ a, RepC w (f a) cs ∧ Q a
theorem QJ {t : TypeId} (ht : P.underlying t = some (.int .i64)) : OpensZD P t (fun n : Int => [.v (.int .i64 n)]) InR := fun enc w spare held fuel cs x h hw0 => by
 obtain ⟨n, rfl, rfl, hw⟩ := DataW.trod_int ht h
 exact ⟨n, RepC.one (.v _), bounds_i64 hw⟩
theorem QI {t : TypeId} (ht : P.underlying t = some .string) : OpensZD P t (fun s : ByteArray => [.v (.string s)]) (fun s => s.size ≤ reachBytes) := fun enc w spare held fuel cs x h hw0 => by
 obtain ⟨n, rfl, rfl, hw⟩ := DataW.trod_string ht h
 exact ⟨n, RepC.one (.v _), by show n.data.size ≤ reachBytes; rw [← Array.length_toList]; exact hw0 _ (by simp only [DataW.weights]; exact List.mem_singleton.2 rfl)⟩
theorem OpensZD.iso {α β : Type} {t : TypeId} {f : α → List D} {Q : α → Prop} {f' : β → List D} {Q' : β → Prop} (h : OpensZD P t f Q) (g : α → β) (hf : ∀ a, f' (g a) = f a) (hq : ∀ a, Q a → Q' (g a)) : OpensZD P t f' Q' :=
 fun enc w spare held fuel cs x hx hw0 => by
  obtain ⟨a, h1, h2⟩ := h enc w spare held fuel cs x hx hw0
  exact ⟨g a, by rw [hf]; exact h1, hq _ h2⟩
theorem wE {α : Type} {t e : TypeId} {k : Nat} {f : α → List D} {Q : α → Prop} (ht : P.underlying t = some (.slice e)) (hk : P.cellsOf e = k) (hpos : 0 < k) (hf : ∀ a, (f a).length = k) (h : OpensZD P e f Q) :
  OpensZD P t (fun l : List α => [.sl k (l.map f)]) (fun l => l.length * P.bytesOf e ≤ reachBytes ∧ l.length ≤ maxLen ∧ ∀ a ∈ l, Q a) := fun enc w spare held fuel cs x hx hw0 => by
 rcases DataW.trod_slice ht hx with ⟨rfl, _⟩ | ⟨a, len, cap, elems, rest, n, _, rfl, hxe, _, hlc, hmax, hlen, hel, _, _⟩
 ·exact ⟨[], RepC.one (.slE _ _ _ (Nat.zero_le _)), by simp, by simp, by simp⟩
 rw [hk] at hel
 have hwt : ∀ m ∈ (elems.length + rest.length) * P.bytesOf e :: (DataW.weightsAll P e (elems.map (·.1)) ++ DataW.weightsAll P e (rest.map (·.1))), m ≤ reachBytes := by
  intro m hm
  refine hw0 m ?_
  rw [hxe]
  simp only [DataW.weights, ht, List.length_map]
  exact hm
 have hwe : ∀ y ∈ elems, ∀ m ∈ y.1.weights P e, m ≤ reachBytes := fun y hy m hm => hwt m (by
  simp only [List.mem_cons, List.mem_append]
  exact .inr (.inl (mem_weightsAll (List.mem_map.2 ⟨y, hy, rfl⟩) hm)))
 have hsz : len * P.bytesOf e ≤ reachBytes := by
  have h1 := hwt _ (List.mem_cons_self ..)
  have h2 : len * P.bytesOf e ≤ (elems.length + rest.length) * P.bytesOf e := Nat.mul_le_mul_right _ (by omega)
  omega
 have each : ∀ i, i < len → ∃ cs' a', w.cells? 0 (a.add (i * k)) k = some cs' ∧ RepC w (f a') cs' ∧ Q a' := fun i hi => by
  have h1 := hel i hi
  obtain ⟨y, hy⟩ : ∃ y, elems[i]? = some y := ⟨_, List.getElem?_eq_getElem (by omega)⟩
  rw [hy, Option.bind_eq_some_iff] at h1
  obtain ⟨cs', h2, h3⟩ := h1
  obtain ⟨a', h4, h5⟩ := h enc w spare held n cs' y h3 (hwe y (List.mem_of_getElem? hy))
  exact ⟨cs', a', h2, h4, h5⟩
 have build : ∀ m, m ≤ len → ∃ l : List α, l.length = m ∧ ∀ i, i < m → ∃ cs' a', l[i]? = some a' ∧ w.cells? 0 (a.add (i * k)) k = some cs' ∧ RepC w (f a') cs' ∧ Q a' := fun m => by
  induction m with
  | zero => exact fun _ => ⟨[], rfl, fun i hi => by omega⟩
  | succ m ih =>
   intro hm
   obtain ⟨l, h1, h2⟩ := ih (by omega)
   obtain ⟨cs', a', h3, h4, h5⟩ := each m (by omega)
   refine ⟨l ++ [a'], by simp [h1], fun i hi => ?_⟩
   by_cases hi' : i < m
   ·obtain ⟨c1, a1, g1, g2⟩ := h2 i hi'
    exact ⟨c1, a1, by rw [List.getElem?_append_left (by omega)]; exact g1, g2⟩
   ·have : i = m := by omega
    subst this
    exact ⟨cs', a', by rw [List.getElem?_append_right (by omega), h1]; simp, h3, h4, h5⟩
 obtain ⟨l, hl1, hl2⟩ := build len (Nat.le_refl _)
 refine ⟨l, RepC.one ?_, by rw [hl1]; exact hsz, by omega, fun x hx => ?_⟩
 ·cases hle : len with
  | zero =>
   have : l = [] := List.length_eq_zero_iff.1 (by omega)
   subst this
   exact .slE _ _ _ hmax
  | succ m =>
   have hsp : a.spot = none := by
    obtain ⟨cs', a', _, h3, _⟩ := hl2 0 (by omega)
    obtain ⟨h4, h5⟩ := cells_at h3
    have h6 := h5 0 (cs'[0]'(by omega)) (List.getElem?_eq_getElem _)
    simp only [Nat.zero_mul, Addr.add, if_true] at h6
    unfold World.cell? at h6
    split at h6
    ·split at h6
     ·cases h6
     ·rename_i hs; simpa using hs
    ·cases h6
   have ea : a = ⟨a.block, a.off, none⟩ := by cases a; simp at hsp; subst hsp; rfl
   have lm : (l.map f).length = len := by simp [hl1]
   rw [← hle, ← lm, ea]
   refine .sl k (l.map f) a.block a.off cap (fun i j => ((w.cells? 0 (a.add (i * k)) k).bind (·[j]?)).getD undef) (by omega) hmax (fun e he => ?_) (fun i j e' c hi hj => ?_) (fun i j e' c hi hj => ?_)
   ·obtain ⟨x, _, rfl⟩ := List.mem_map.1 he
    exact hf x
   all_goals
    have hil : i < len := by have := (List.getElem?_eq_some_iff.1 hi).1; omega
    obtain ⟨cs', a', g1, g2, g3, g4⟩ := hl2 i hil
    rw [List.getElem?_map, g1] at hi
    simp only [Option.map_some, Option.some.injEq] at hi
    subst hi
    obtain ⟨g5, g6⟩ := cells_at g2
    have hjl : j < cs'.length := by rw [g3.1]; exact (List.getElem?_eq_some_iff.1 hj).1
    have hcj : cs'[j]? = some cs'[j] := List.getElem?_eq_getElem hjl
    simp only [g2, Option.bind_some, hcj, Option.getD_some]
   ·refine ⟨noCtx_owns _, ?_⟩
    have := g6 j _ hcj
    rw [← this]
    congr 1
    rw [ea]
    simp only [Addr.add]
    by_cases h0 : i * k = 0 <;> by_cases h1 : j = 0 <;> simp [h0, h1, Nat.add_assoc]
   ·exact g3.2 j c _ hj hcj
 ·obtain ⟨i, hi, rfl⟩ := List.getElem_of_mem hx
  obtain ⟨cs', a', g1, _, _, g4⟩ := hl2 i (by omega)
  rw [List.getElem?_eq_getElem hi] at g1
  simp only [Option.some.injEq] at g1
  rw [g1]
  exact g4
/-! structs: field by field -/
def OpensZSD {α : Type} (P : Program) (fs : List Field) (o e : Nat) (f : α → List D) (Q : α → Prop) : Prop :=
 ∀ {H : Type} (enc : TypeId × Value → H) (w : World) (spare : Nat → Bool) (held : Bool) (fuel : Nat) (cs : List Value) (xs : List (DataW H × List MemPlace)), cs.length = e →
  xs.length = fs.length → (∀ (i : Nat) (g : Field), fs[i]? = some g → DataW.trod enc P w 0 spare held fuel g.type ((cs.drop g.offset).take (P.cellsOf g.type)) = xs[i]?) → (∀ m ∈ DataW.weightsEach P (fs.map (·.type)) (xs.map (·.1)), m ≤ reachBytes) → ∃ a, RepC w (f a) (cs.drop o) ∧ Q a
theorem Q7 {e : Nat} : OpensZSD P [] e e (fun _ : Unit => []) (fun _ => True) := fun enc w spare held fuel cs xs hl hx hh hw0 => by
 refine ⟨(), ?_, trivial⟩
 rw [List.drop_of_length_le (by omega)]
 exact RepC.nil
theorem wB {α β : Type} {g : Field} {fs : List Field} {o n e : Nat} {f : α → List D} {Q : α → Prop} {f' : β → List D} {Q' : β → Prop} (ho : g.offset = o) (hn : P.cellsOf g.type = n) (h : OpensZD P g.type f Q)
  (h' : OpensZSD P fs (o + n) e f' Q') : OpensZSD P (g :: fs) o e (fun x : α × β => f x.1 ++ f' x.2) (fun x => Q x.1 ∧ Q' x.2) := fun enc w spare held fuel cs xs hl hx hh hw0 => by
 obtain ⟨x, xs', rfl⟩ : ∃ x xs', xs = x :: xs' := by cases xs with
  | nil => simp at hx
  | cons x xs' => exact ⟨x, xs', rfl⟩
 have h1 := hh 0 g rfl
 rw [ho, hn] at h1
 simp only [List.map_cons, DataW.weightsEach] at hw0
 obtain ⟨a, h2, h3⟩ := h enc w spare held fuel _ x h1 (fun m hm => hw0 m (List.mem_append_left _ hm))
 obtain ⟨b, h4, h5⟩ := h' enc w spare held fuel cs xs' hl (by simpa using hx) (fun i g' hg => by have := hh (i + 1) g' (by simpa using hg); simpa using this) (fun m hm => hw0 m (List.mem_append_right _ hm))
 refine ⟨(a, b), ?_, h3, h5⟩
 have := h2.app h4
 rw [show (cs.drop o).take n ++ cs.drop (o + n) = cs.drop o by rw [← List.drop_drop]; exact List.take_append_drop _ _] at this
 exact this
theorem vk {α : Type} {t : TypeId} {fs : Array Field} {fl : List Field} {e : Nat} {f : α → List D} {Q : α → Prop} (ht : P.underlying t = some (.struct fs)) (hfl : fs.toList = fl) (he : P.cellsOf t = e) (h : OpensZSD P fl 0 e f Q) : OpensZD P t f Q :=
 fun enc w spare held fuel cs x hx hw0 => by
  obtain ⟨xs, n, _, hxe, h1, h2, h3⟩ := DataW.trod_struct ht hx
  obtain ⟨a, h4, h5⟩ := h enc w spare held n cs xs (by omega) (by rw [← hfl]; simpa using h2) (fun i g hg => h3 i g (by rw [← hfl] at hg; simpa using hg)) (fun m hm => hw0 m (by
   rw [hxe]
   simp only [DataW.weights, ht]
   rw [hfl]
   exact hm))
  exact ⟨a, by simpa using h4, h5⟩
/-! a parameter: one value -/
def OpensZVD {α : Type} (P : Program) (t : TypeId) (f : α → D) (Q : α → Prop) : Prop :=
 ∀ {H : Type} (enc : TypeId × Value → H) (w : World) (spare : Nat → Bool) (held : Bool) (base : Nat) (v : Value) (d : DataW H) (ps : List MemPlace), Value.okWide P w .any base t v →
  DataW.Trod enc P w 0 spare held t v d ps → (∀ m ∈ d.weights P t, m ≤ reachBytes) → ∃ a, Rep noCtx w (f a) v ∧ Q a
theorem Q5 {α : Type} {t : TypeId} {f : α → List D} {Q : α → Prop} {fs : Array Field} (ht : P.underlying t = some (.struct fs)) (h : OpensZD P t f Q) : OpensZVD P t (fun a => .agg (f a)) Q := fun enc w spare held base v d ps hok ⟨fuel, hd⟩ hw0 => by
 unfold Value.okWide at hok
 rw [ht] at hok
 obtain ⟨cs, rfl, _⟩ := hok
 obtain ⟨a, h1, h2⟩ := h enc w spare held fuel _ _ hd hw0
 refine ⟨a, .agg _ _ (by simpa [Value.cells] using h1.1) (fun j c u hc hu => h1.2 j c u hc (by simpa [Value.cells] using hu)), h2⟩
/-! the parameters of a law -/
def OpensZLD {α : Type} (P : Program) (ts : List TypeId) (f : α → List D) (Q : α → Prop) : Prop :=
 ∀ {H : Type} (enc : TypeId × Value → H) (w : World) (spare : Nat → Bool) (held : Bool) (base : Nat) (vs : List Value) (ds : List (DataW H)) (ps : List MemPlace), (∀ (j : Nat) t v, ts[j]? = some t → vs[j]? = some v → Value.okWide P w .any base t v) →
  DataW.TrodAll enc P w 0 spare held ts vs ds ps → (∀ m ∈ DataW.weightsEach P ts ds, m ≤ reachBytes) → ∃ a, RepL noCtx w (f a) vs ∧ Q a
theorem Q9 : OpensZLD P [] (fun _ : Unit => []) (fun _ => True) := fun enc w spare held base vs ds ps _ h _ => by
 obtain ⟨rfl, rfl, _⟩ := trodAll_nil h
 exact ⟨(), ⟨rfl, fun j d u hd _ => by simp at hd⟩, trivial⟩
theorem wC {α β : Type} {t : TypeId} {ts : List TypeId} {f : α → D} {Q : α → Prop} {f' : β → List D} {Q' : β → Prop} (h : OpensZVD P t f Q) (h' : OpensZLD P ts f' Q') :
  OpensZLD P (t :: ts) (fun x : α × β => f x.1 :: f' x.2) (fun x => Q x.1 ∧ Q' x.2) := fun enc w spare held base vs ds ps hok hd hw0 => by
 obtain ⟨v, vs', d, ds', p, q, rfl, rfl, rfl, h1, h2⟩ := trodAll_cons hd
 obtain ⟨a, h3, h4⟩ := h enc w spare held base v d p (hok 0 t v rfl rfl) h1 (fun m hm => hw0 m (by simp only [DataW.weightsEach]; exact List.mem_append_left _ hm))
 obtain ⟨b, h5, h6⟩ := h' enc w spare held base vs' ds' q (fun j t' v' ht hv => hok (j + 1) t' v' (by simpa using ht) (by simpa using hv)) h2 (fun m hm => hw0 m (by simp only [DataW.weightsEach]; exact List.mem_append_right _ hm))
 refine ⟨(a, b), ⟨by simp [h5.1], fun j d' u hd' hu => ?_⟩, h4, h6⟩
 cases j with
 | zero => simp at hd' hu; subst hd'; subst hu; exact h3
 | succ j => exact h5.2 j d' u (by simpa using hd') (by simpa using hu)
/-! the same, folded -/
structure OpensZ {α : Type} (P : Program) (t : TypeId) (f : α → List D) (Q : α → Prop) : Prop where
 run : OpensZD P t f Q
structure OpensZS {α : Type} (P : Program) (fs : List Field) (o e : Nat) (f : α → List D) (Q : α → Prop) : Prop where
 run : OpensZSD P fs o e f Q
structure OpensZV {α : Type} (P : Program) (t : TypeId) (f : α → D) (Q : α → Prop) : Prop where
 run : OpensZVD P t f Q
structure OpensZL {α : Type} (P : Program) (ts : List TypeId) (f : α → List D) (Q : α → Prop) : Prop where
 run : OpensZLD P ts f Q
theorem Zq {t : TypeId} (ht : P.underlying t = some (.int .i64)) : OpensZ P t (fun n : Int => [.v (.int .i64 n)]) InR := ⟨QJ ht⟩
theorem Zp {t : TypeId} (ht : P.underlying t = some .string) : OpensZ P t (fun s : ByteArray => [.v (.string s)]) (fun s => s.size ≤ reachBytes) := ⟨QI ht⟩
theorem OpensZ.iso {α β : Type} {t : TypeId} {f : α → List D} {Q : α → Prop} {f' : β → List D} {Q' : β → Prop} (h : OpensZ P t f Q) (g : α → β) (hf : ∀ a, f' (g a) = f a) (hq : ∀ a, Q a → Q' (g a)) : OpensZ P t f' Q' :=
 ⟨OpensZD.iso (@OpensZ.run _ _ _ _ _ h) g hf hq⟩
theorem zU {α : Type} {t e : TypeId} (k : Nat) {f : α → List D} {Q : α → Prop} (ht : P.underlying t = some (.slice e)) (hk : P.cellsOf e = k) (hpos : 0 < k) (hf : ∀ a, (f a).length = k) (h : OpensZ P e f Q) :
  OpensZ P t (fun l : List α => [.sl k (l.map f)]) (fun l => l.length * P.bytesOf e ≤ reachBytes ∧ l.length ≤ maxLen ∧ ∀ a ∈ l, Q a) := ⟨wE ht hk hpos hf (@OpensZ.run _ _ _ _ _ h)⟩
theorem jf {e : Nat} : OpensZS P [] e e (fun _ : Unit => []) (fun _ => True) := ⟨Q7⟩
theorem zi {α β : Type} {g : Field} {fs : List Field} {o n e : Nat} {f : α → List D} {Q : α → Prop} {f' : β → List D} {Q' : β → Prop} (ho : g.offset = o) (hn : P.cellsOf g.type = n) (h : OpensZ P g.type f Q)
  (h' : OpensZS P fs (o + n) e f' Q') : OpensZS P (g :: fs) o e (fun x : α × β => f x.1 ++ f' x.2) (fun x => Q x.1 ∧ Q' x.2) := ⟨wB ho hn (@OpensZ.run _ _ _ _ _ h) (@OpensZS.run _ _ _ _ _ _ _ h')⟩
theorem zQ {α : Type} {t : TypeId} {fs : Array Field} {fl : List Field} {e : Nat} {f : α → List D} {Q : α → Prop} (ht : P.underlying t = some (.struct fs)) (hfl : fs.toList = fl) (he : P.cellsOf t = e) (h : OpensZS P fl 0 e f Q) : OpensZ P t f Q :=
 ⟨vk ht hfl he (@OpensZS.run _ _ _ _ _ _ _ h)⟩
theorem QG {α : Type} {t : TypeId} {f : α → List D} {Q : α → Prop} {fs : Array Field} (ht : P.underlying t = some (.struct fs)) (h : OpensZ P t f Q) : OpensZV P t (fun a => .agg (f a)) Q := ⟨Q5 ht (@OpensZ.run _ _ _ _ _ h)⟩
theorem QH : OpensZL P [] (fun _ : Unit => []) (fun _ => True) := ⟨Q9⟩
theorem Q8 {α β : Type} {t : TypeId} {ts : List TypeId} {f : α → D} {Q : α → Prop} {f' : β → List D} {Q' : β → Prop} (h : OpensZV P t f Q) (h' : OpensZL P ts f' Q') :
  OpensZL P (t :: ts) (fun x : α × β => f x.1 :: f' x.2) (fun x => Q x.1 ∧ Q' x.2) := ⟨wC (@OpensZV.run _ _ _ _ _ h) (@OpensZL.run _ _ _ _ _ h')⟩
theorem law_contractZ {α : Type} {f : FuncId} {fn : Func} {s : ChangeSpec} {again : Bool} {ts : List TypeId} {tb : TypeId} {g : α → List D} {Q : α → Prop} (hl : laidOutB P = true) (hts : fn.params.toList = ts) (htb : fn.resultTypes = #[tb]) (hub : P.underlying tb = some .bool)
  (hr : (ts.all fun t => P.readableRec t && decide (t < P.types.size)) = true) (hvars : s.vars = []) (hs : ∀ (H : Type) (ds : List (DataW H)), ds.length = ts.length → s.fn H ds = { results := [.lit (.bool true)], args := ds })
  (ho : OpensZL P ts g Q) (hc : ∀ a, Q a → PCall P f (g a) fun r => r = .v (.bool true))
  {H : Type} (enc : TypeId × Value → H) (W : World) (base : Nat) (args : Array Value) (ds gs : List (DataW H)) (before : List MemPlace) (hg : GlobOk P noCtx W)
  (hval : ∀ (j : Nat) t v, fn.params[j]? = some t → args[j]? = some v → Value.okWide P W .any base t v)
  (hW : DataW.Whole enc P fn.params.toList s.vars false W args.toList ds gs before) (hz : sizedMet enc P fn (OpenSpec.ofChange s) false W args) :
  Calls P f args W fun e W' => ∃ v, e = .returned v ∧ s.post enc P fn false true false again W args v W' := by
 have hW' := hW
 obtain ⟨p, q, hA, hV, hpq, _⟩ := hW
 rw [hvars] at hV
 obtain ⟨rfl, rfl⟩ := trodVars_none hV
 rw [List.append_nil] at hpq
 subst hpq
 rw [hts] at hA
 obtain ⟨_, ds', gs', before', hWz, hwz⟩ := hz
 obtain ⟨pz, qz, hAz, _⟩ := hWz
 rw [hts] at hAz
 obtain ⟨a, h1, h2⟩ := ho.run enc W _ _ base _ _ _ (fun j t v ht hv => hval j t v (by rw [← hts] at ht; simpa using ht) (by simpa using hv)) hAz (fun m hm => by
  have hall := List.all_eq_true.1 hwz m (by
   rw [hts]
   exact mem_weightsEach_app (trodAll_len hAz).symm hm)
  simpa using hall)
 have hcall := (hc a h2).2 noCtx W args.toList (noCtx_ok W) hg h1
 rw [Array.toArray_toList] at hcall
 refine hcall.mono fun e W' hh => ?_
 obtain ⟨u, r, C', he, hr', hru, _, hext, _, hf⟩ := hh
 subst hr'
 have hu := hru.v_inv
 subst hu
 refine ⟨_, he, ?_⟩
 have hb : Below W.heap.size W W' := ⟨hf.os, hf.tape, hf.output, hf.size, fun k hk => hf.block k hk (fun h => by obtain ⟨_, _, _, h, _⟩ := h)⟩
 have hlen : ds.length = ts.length := trodAll_len hA
 have hfn : s.fn H (ds ++ []) = { results := [.lit (.bool true)], args := ds } := by rw [List.append_nil]; exact hs H ds hlen
 have hlt : ∀ x ∈ before, x.block < W.heap.size := fun x hx => hW'.lt x hx
 refine post_below (pa := before) (pv := []) hW' (fun b sp hd => ?_) (fun sp hsp => ?_) (fun sp _ => ?_) (by simp) hb ?_
 ·rw [hfn, htb]
  exact trodAll_cons_mk (p := []) (p' := []) (shut_bool hub true) trodAll_mk0
 ·rw [hfn, hts]
  exact trodAll_spare hl hb hr hA hlt hsp
 ·rw [hfn, hvars]; rfl
 ·exact ok_one htb rfl (okWide_bool_mk hub true)
end Go.Eng
namespace Go.Proofs
open Go.Shelf
def Tryz.lays169_ren : Go.Shelf.Ren := ⟨fun | 169 => 114 | n => n, fun | 70 => 187 | 9 => 9 | 0 => 0 | 72 => 190 | 37 => 188 | 127 => 233 | 3 => 3 | 5 => 5 | n => n, fun | n => n⟩
theorem Tryz.lays169 : Go.Proofs.Lays.n169 Tryz.prog Tryz.lays169_ren := {
 mixed := by kernel_rfl
 f169 := Tryz.func114.trans (congrArg some (by kernel_rfl))
 t0 := Tryz.underlying0
 a0 := Tryz.isAgg0
 z0 := Tryz.sizeOf0
 v0 := Tryz.zeroValue0
 t3 := Tryz.underlying3
 a3 := Tryz.isAgg3
 z3 := Tryz.sizeOf3
 v3 := Tryz.zeroValue3
 t9 := Tryz.underlying9
 a9 := Tryz.isAgg9
 z9 := Tryz.sizeOf9
 v9 := Tryz.zeroValue9
 t37 := Tryz.underlying188
 a37 := Tryz.isAgg188
 z37 := Tryz.sizeOf188
 v37 := Tryz.zeroValue188
 t70 := Tryz.underlying187
 a70 := Tryz.isAgg187
 z70 := Tryz.sizeOf187
 v70 := Tryz.zeroValue187
 t72 := Tryz.underlying190
 a72 := Tryz.isAgg190
 z72 := Tryz.sizeOf190
 v72 := Tryz.zeroValue190
 t127 := Tryz.underlying233
 a127 := Tryz.isAgg233
 z127 := Tryz.sizeOf233
 v127 := Tryz.zeroValue233 }
theorem Tryz.Builder_Extra_169 : Builder.Extra Tryz.prog Tryz.lays169_ren := {
 sizeBuilder := by kernel_rfl
 liesBuilder := by kernel_rfl
 t5 := Tryz.underlying5
 a5 := Tryz.isAgg5
 z5 := Tryz.sizeOf5
 v5 := Tryz.zeroValue5
 infoByte := by kernel_rfl
 cellsByte := by kernel_rfl
 sizeByte := by kernel_rfl
 neB5 := by decide }
def Tryz.lays160_ren : Go.Shelf.Ren := ⟨fun | 160 => 163 | 232 => 201 | 231 => 200 | 227 => 202 | 234 => 204 | 233 => 203 | 236 => 206 | 235 => 205 | 228 => 242 | 271 => 244 | 151 => 243 | 197 => 235 | 120 => 277 | 152 => 276 | 260 => 271 | 137 => 296 | 119 => 297 | 224 => 274 | 225 => 273 | 217 => 272 | 266 => 294 | n => n, fun | 9 => 9 | 4 => 4 | 3 => 3 | 5 => 5 | 117 => 280 | 116 => 279 | 0 => 0 | 124 => 283 | 21 => 21 | 105 => 314 | 46 => 80 | 119 => 353 | 139 => 356 | 138 => 355 | n => n, fun | 3 => 2 | 4 => 3 | n => n⟩
theorem Tryz.lays160 : Go.Proofs.Lays.n160 Tryz.prog Tryz.lays160_ren := {
 mixed := by kernel_rfl
 f119 := Tryz.func297.trans (congrArg some (by kernel_rfl))
 f120 := Tryz.func277.trans (congrArg some (by kernel_rfl))
 f137 := Tryz.func296.trans (congrArg some (by kernel_rfl))
 f151 := Tryz.func243.trans (congrArg some (by kernel_rfl))
 f152 := Tryz.func276.trans (congrArg some (by kernel_rfl))
 f160 := Tryz.func163.trans (congrArg some (by kernel_rfl))
 f197 := Tryz.func235.trans (congrArg some (by kernel_rfl))
 f217 := Tryz.func272.trans (congrArg some (by kernel_rfl))
 f224 := Tryz.func274.trans (congrArg some (by kernel_rfl))
 f225 := Tryz.func273.trans (congrArg some (by kernel_rfl))
 f227 := Tryz.func202.trans (congrArg some (by kernel_rfl))
 f228 := Tryz.func242.trans (congrArg some (by kernel_rfl))
 f231 := Tryz.func200.trans (congrArg some (by kernel_rfl))
 f232 := Tryz.func201.trans (congrArg some (by kernel_rfl))
 f233 := Tryz.func203.trans (congrArg some (by kernel_rfl))
 f234 := Tryz.func204.trans (congrArg some (by kernel_rfl))
 f235 := Tryz.func205.trans (congrArg some (by kernel_rfl))
 f236 := Tryz.func206.trans (congrArg some (by kernel_rfl))
 f260 := Tryz.func271.trans (congrArg some (by kernel_rfl))
 f266 := Tryz.func294.trans (congrArg some (by kernel_rfl))
 f271 := Tryz.func244.trans (congrArg some (by kernel_rfl))
 t0 := Tryz.underlying0
 a0 := Tryz.isAgg0
 z0 := Tryz.sizeOf0
 v0 := Tryz.zeroValue0
 t3 := Tryz.underlying3
 a3 := Tryz.isAgg3
 z3 := Tryz.sizeOf3
 v3 := Tryz.zeroValue3
 t4 := Tryz.underlying4
 a4 := Tryz.isAgg4
 z4 := Tryz.sizeOf4
 v4 := Tryz.zeroValue4
 t5 := Tryz.underlying5
 a5 := Tryz.isAgg5
 z5 := Tryz.sizeOf5
 v5 := Tryz.zeroValue5
 t9 := Tryz.underlying9
 a9 := Tryz.isAgg9
 z9 := Tryz.sizeOf9
 v9 := Tryz.zeroValue9
 t21 := Tryz.underlying21
 a21 := Tryz.isAgg21
 z21 := Tryz.sizeOf21
 v21 := Tryz.zeroValue21
 t46 := Tryz.underlying80
 a46 := Tryz.isAgg80
 z46 := Tryz.sizeOf80
 v46 := Tryz.zeroValue80
 t105 := Tryz.underlying314
 a105 := Tryz.isAgg314
 z105 := Tryz.sizeOf314
 v105 := Tryz.zeroValue314
 t116 := Tryz.underlying279
 a116 := Tryz.isAgg279
 z116 := Tryz.sizeOf279
 t117 := Tryz.underlying280
 a117 := Tryz.isAgg280
 z117 := Tryz.sizeOf280
 v117 := Tryz.zeroValue280
 t119 := Tryz.underlying353
 a119 := Tryz.isAgg353
 z119 := Tryz.sizeOf353
 t124 := Tryz.underlying283
 a124 := Tryz.isAgg283
 z124 := Tryz.sizeOf283
 v124 := Tryz.zeroValue283
 t138 := Tryz.underlying355
 a138 := Tryz.isAgg355
 z138 := Tryz.sizeOf355
 v138 := Tryz.zeroValue355
 t139 := Tryz.underlying356
 a139 := Tryz.isAgg356
 z139 := Tryz.sizeOf356
 v139 := Tryz.zeroValue356
 g3 := by kernel_rfl
 g4 := by kernel_rfl }
def Tryz.lays125_ren : Go.Shelf.Ren := ⟨fun | 125 => 126 | 128 => 176 | 129 => 177 | n => n, fun | 46 => 80 | 3 => 3 | 51 => 252 | 53 => 254 | 4 => 4 | 5 => 5 | 9 => 9 | n => n, fun | n => n⟩
theorem Tryz.lays125 : Go.Proofs.Lays.n125 Tryz.prog Tryz.lays125_ren := {
 mixed := by kernel_rfl
 f125 := Tryz.func126.trans (congrArg some (by kernel_rfl))
 f128 := Tryz.func176.trans (congrArg some (by kernel_rfl))
 f129 := Tryz.func177.trans (congrArg some (by kernel_rfl))
 t3 := Tryz.underlying3
 a3 := Tryz.isAgg3
 z3 := Tryz.sizeOf3
 v3 := Tryz.zeroValue3
 t4 := Tryz.underlying4
 a4 := Tryz.isAgg4
 z4 := Tryz.sizeOf4
 v4 := Tryz.zeroValue4
 t5 := Tryz.underlying5
 a5 := Tryz.isAgg5
 z5 := Tryz.sizeOf5
 v5 := Tryz.zeroValue5
 t9 := Tryz.underlying9
 a9 := Tryz.isAgg9
 z9 := Tryz.sizeOf9
 v9 := Tryz.zeroValue9
 t46 := Tryz.underlying80
 a46 := Tryz.isAgg80
 z46 := Tryz.sizeOf80
 v46 := Tryz.zeroValue80
 t51 := Tryz.underlying252
 a51 := Tryz.isAgg252
 z51 := Tryz.sizeOf252
 v51 := Tryz.zeroValue252
 t53 := Tryz.underlying254
 a53 := Tryz.isAgg254
 z53 := Tryz.sizeOf254
 v53 := Tryz.zeroValue254 }
theorem Tryz.bits_Len (x : Int) (w : World) (h0 : 0 ≤ x) (h1 : x ≤ 18446744073709551615) :
  Calls Tryz.prog 126 #[.int .u64 x] w fun e w' => e = .returned (.int .i64 (Lib.bitLen x.toNat)) ∧ w' = w := Any.bits_Len Tryz.lays125 x w h0 h1
def Tryz.lays106_ren : Go.Shelf.Ren := ⟨fun | 106 => 218 | 213 => 253 | 265 => 287 | n => n, fun | 9 => 9 | 3 => 3 | n => n, fun | n => n⟩
theorem Tryz.lays106 : Go.Proofs.Lays.n106 Tryz.prog Tryz.lays106_ren := {
 mixed := by kernel_rfl
 f106 := Tryz.func218.trans (congrArg some (by kernel_rfl))
 f213 := Tryz.func253.trans (congrArg some (by kernel_rfl))
 f265 := Tryz.func287.trans (congrArg some (by kernel_rfl))
 t3 := Tryz.underlying3
 a3 := Tryz.isAgg3
 z3 := Tryz.sizeOf3
 v3 := Tryz.zeroValue3
 t9 := Tryz.underlying9
 a9 := Tryz.isAgg9
 z9 := Tryz.sizeOf9
 v9 := Tryz.zeroValue9 }
open Go.RowKit in
theorem Tryz.strings_Compare (a b : ByteArray) (w : World) :
  Calls Tryz.prog 218 #[.string a, .string b] w fun e w' => e = .returned (.int .i64 (Lib.compareBytes a.data.toList b.data.toList)) ∧ w' = w := Any.strings_Compare Tryz.lays106 a b w
def Tryz.lays122_ren : Go.Shelf.Ren := ⟨fun | 122 => 219 | 215 => 254 | n => n, fun | 3 => 3 | 4 => 4 | n => n, fun | n => n⟩
theorem Tryz.lays122 : Go.Proofs.Lays.n122 Tryz.prog Tryz.lays122_ren := {
 mixed := by kernel_rfl
 f122 := Tryz.func219.trans (congrArg some (by kernel_rfl))
 f215 := Tryz.func254.trans (congrArg some (by kernel_rfl))
 t3 := Tryz.underlying3
 a3 := Tryz.isAgg3
 z3 := Tryz.sizeOf3
 v3 := Tryz.zeroValue3
 t4 := Tryz.underlying4
 a4 := Tryz.isAgg4
 z4 := Tryz.sizeOf4
 v4 := Tryz.zeroValue4 }
open Go.RowKit in
theorem Tryz.cmp_Compare_int (x y : Int) (w : World) :
  Calls Tryz.prog 219 #[.int .i64 x, .int .i64 y] w fun e w' => e = .returned (.int .i64 (Lib.compareInt x y)) ∧ w' = w := Any.cmp_Compare_int Tryz.lays122 x y w
def Tryz.laysM171_ren : Go.Shelf.Ren := ⟨fun | 171 => 115 | 243 => 155 | 246 => 192 | 283 => 230 | 284 => 231 | 285 => 232 | 286 => 233 | 129 => 177 | 317 => 267 | 318 => 268 | 319 => 269 | 320 => 270 | 337 => 292 | 338 => 293 | n => n, fun | 3 => 3 | 9 => 9 | 2 => 2 | 4 => 4 | 171 => 310 | 0 => 0 | 53 => 254 | 37 => 188 | 5 => 5 | 173 => 312 | 212 => 339 | 51 => 252 | 20 => 20 | 213 => 340 | 46 => 80 | 232 => 365 | 233 => 366 | n => n, fun | 17 => 1 | 18 => 4 | 19 => 5 | n => n⟩
theorem Tryz.laysM171 : Go.Proofs.LaysM.n171 Tryz.prog Tryz.laysM171_ren := {
 mixed := by kernel_rfl
 f129 := Tryz.func177.trans (congrArg some (by kernel_rfl))
 f171 := Tryz.func115.trans (congrArg some (by kernel_rfl))
 f243 := Tryz.func155.trans (congrArg some (by kernel_rfl))
 f246 := Tryz.func192.trans (congrArg some (by kernel_rfl))
 f283 := Tryz.func230.trans (congrArg some (by kernel_rfl))
 f284 := Tryz.func231.trans (congrArg some (by kernel_rfl))
 f285 := Tryz.func232.trans (congrArg some (by kernel_rfl))
 f286 := Tryz.func233.trans (congrArg some (by kernel_rfl))
 f317 := Tryz.func267.trans (congrArg some (by kernel_rfl))
 f318 := Tryz.func268.trans (congrArg some (by kernel_rfl))
 f319 := Tryz.func269.trans (congrArg some (by kernel_rfl))
 f320 := Tryz.func270.trans (congrArg some (by kernel_rfl))
 f337 := Tryz.func292.trans (congrArg some (by kernel_rfl))
 f338 := Tryz.func293.trans (congrArg some (by kernel_rfl))
 t0 := Tryz.underlying0
 a0 := Tryz.isAgg0
 z0 := Tryz.sizeOf0
 v0 := Tryz.zeroValue0
 t2 := Tryz.underlying2
 a2 := Tryz.isAgg2
 z2 := Tryz.sizeOf2
 v2 := Tryz.zeroValue2
 t3 := Tryz.underlying3
 a3 := Tryz.isAgg3
 z3 := Tryz.sizeOf3
 v3 := Tryz.zeroValue3
 t4 := Tryz.underlying4
 a4 := Tryz.isAgg4
 z4 := Tryz.sizeOf4
 v4 := Tryz.zeroValue4
 t5 := Tryz.underlying5
 a5 := Tryz.isAgg5
 z5 := Tryz.sizeOf5
 v5 := Tryz.zeroValue5
 t9 := Tryz.underlying9
 a9 := Tryz.isAgg9
 z9 := Tryz.sizeOf9
 v9 := Tryz.zeroValue9
 t20 := Tryz.underlying20
 a20 := Tryz.isAgg20
 z20 := Tryz.sizeOf20
 v20 := Tryz.zeroValue20
 t37 := Tryz.underlying188
 a37 := Tryz.isAgg188
 z37 := Tryz.sizeOf188
 v37 := Tryz.zeroValue188
 t46 := Tryz.underlying80
 a46 := Tryz.isAgg80
 z46 := Tryz.sizeOf80
 v46 := Tryz.zeroValue80
 t51 := Tryz.underlying252
 a51 := Tryz.isAgg252
 z51 := Tryz.sizeOf252
 v51 := Tryz.zeroValue252
 t53 := Tryz.underlying254
 a53 := Tryz.isAgg254
 z53 := Tryz.sizeOf254
 v53 := Tryz.zeroValue254
 t171 := Tryz.underlying310
 a171 := Tryz.isAgg310
 z171 := Tryz.sizeOf310
 v171 := Tryz.zeroValue310
 t173 := Tryz.underlying312
 a173 := Tryz.isAgg312
 z173 := Tryz.sizeOf312
 v173 := Tryz.zeroValue312
 t212 := Tryz.underlying339
 a212 := Tryz.isAgg339
 z212 := Tryz.sizeOf339
 v212 := Tryz.zeroValue339
 t213 := Tryz.underlying340
 a213 := Tryz.isAgg340
 z213 := Tryz.sizeOf340
 t232 := Tryz.underlying365
 a232 := Tryz.isAgg365
 z232 := Tryz.sizeOf365
 v232 := Tryz.zeroValue365
 t233 := Tryz.underlying366
 a233 := Tryz.isAgg366
 z233 := Tryz.sizeOf366
 v233 := Tryz.zeroValue366
 g17 := by kernel_rfl
 g18 := by kernel_rfl
 g19 := by kernel_rfl
 i0 := by kernel_rfl
 i2 := by kernel_rfl
 i3 := by kernel_rfl
 i4 := by kernel_rfl
 i5 := by kernel_rfl
 i9 := by kernel_rfl
 i20 := by kernel_rfl
 i37 := by kernel_rfl
 i46 := by kernel_rfl
 i51 := by kernel_rfl
 i53 := by kernel_rfl
 i171 := by kernel_rfl
 i173 := by kernel_rfl
 i212 := by kernel_rfl
 i232 := by kernel_rfl
 i233 := by kernel_rfl
 m17 := by kernel_rfl
 m18 := by kernel_rfl
 m19 := by kernel_rfl }
open Go.RowKit Go.Sort Go.Lib in
theorem Tryz.strconv_Itoa (n : Int) (h0 : -9223372036854775808 ≤ n) (h1 : n ≤ 9223372036854775807) (w : World) (htab : Lib.TabIs Tryz.prog w "internal/strconv.uint64pow10" .u64 Lib.pow10Tab) :
  Calls Tryz.prog 115 #[.int .i64 n] w fun e w' => e = .returned (.string ⟨(Lib.itoa n).toArray⟩) ∧ ∃ k os, w' = grow (w.drewN k) os := Any.strconv_Itoa Tryz.laysM171 n h0 h1 w htab
def Tryz.laysC172_ren : Go.Shelf.Ren := ⟨fun | 172 => 246 | 244 => 279 | 245 => 280 | 247 => 298 | 279 => 299 | 280 => 300 | 281 => 301 | 282 => 302 | 287 => 306 | 316 => 307 | 171 => 115 | 205 => 308 | 321 => 309 | 322 => 310 | 243 => 155 | 246 => 192 | 283 => 230 | 284 => 231 | 285 => 232 | 286 => 233 | 129 => 177 | 317 => 267 | 318 => 268 | 319 => 269 | 320 => 270 | 337 => 292 | 338 => 293 | n => n, fun | 9 => 9 | 3 => 3 | 75 => 192 | 76 => 193 | 4 => 4 | 5 => 5 | 167 => 357 | 37 => 188 | 0 => 0 | 85 => 358 | 2 => 2 | 168 => 360 | 53 => 254 | 175 => 367 | 46 => 80 | 210 => 371 | 127 => 233 | 145 => 376 | 143 => 374 | 21 => 21 | 171 => 310 | 173 => 312 | 212 => 339 | 51 => 252 | 20 => 20 | 213 => 340 | 232 => 365 | 233 => 366 | 80 => 196 | n => n, fun | 15 => 6 | 16 => 7 | 17 => 1 | 18 => 4 | 19 => 5 | n => n⟩
theorem Tryz.laysC172 : Go.Proofs.LaysC.n172 Tryz.prog Tryz.laysC172_ren := {
 mixed := by kernel_rfl
 f129 := Tryz.func177.trans (congrArg some (by kernel_rfl))
 f171 := Tryz.func115.trans (congrArg some (by kernel_rfl))
 f172 := Tryz.func246.trans (congrArg some (by kernel_rfl))
 f205 := Tryz.func308.trans (congrArg some (by kernel_rfl))
 f243 := Tryz.func155.trans (congrArg some (by kernel_rfl))
 f244 := Tryz.func279.trans (congrArg some (by kernel_rfl))
 f245 := Tryz.func280.trans (congrArg some (by kernel_rfl))
 f246 := Tryz.func192.trans (congrArg some (by kernel_rfl))
 f247 := Tryz.func298.trans (congrArg some (by kernel_rfl))
 f279 := Tryz.func299.trans (congrArg some (by kernel_rfl))
 f280 := Tryz.func300.trans (congrArg some (by kernel_rfl))
 f281 := Tryz.func301.trans (congrArg some (by kernel_rfl))
 f282 := Tryz.func302.trans (congrArg some (by kernel_rfl))
 f283 := Tryz.func230.trans (congrArg some (by kernel_rfl))
 f284 := Tryz.func231.trans (congrArg some (by kernel_rfl))
 f285 := Tryz.func232.trans (congrArg some (by kernel_rfl))
 f286 := Tryz.func233.trans (congrArg some (by kernel_rfl))
 f287 := Tryz.func306.trans (congrArg some (by kernel_rfl))
 f316 := Tryz.func307.trans (congrArg some (by kernel_rfl))
 f317 := Tryz.func267.trans (congrArg some (by kernel_rfl))
 f318 := Tryz.func268.trans (congrArg some (by kernel_rfl))
 f319 := Tryz.func269.trans (congrArg some (by kernel_rfl))
 f320 := Tryz.func270.trans (congrArg some (by kernel_rfl))
 f321 := Tryz.func309.trans (congrArg some (by kernel_rfl))
 f322 := Tryz.func310.trans (congrArg some (by kernel_rfl))
 f337 := Tryz.func292.trans (congrArg some (by kernel_rfl))
 f338 := Tryz.func293.trans (congrArg some (by kernel_rfl))
 t0 := Tryz.underlying0
 a0 := Tryz.isAgg0
 z0 := Tryz.sizeOf0
 v0 := Tryz.zeroValue0
 t2 := Tryz.underlying2
 a2 := Tryz.isAgg2
 z2 := Tryz.sizeOf2
 v2 := Tryz.zeroValue2
 t3 := Tryz.underlying3
 a3 := Tryz.isAgg3
 z3 := Tryz.sizeOf3
 v3 := Tryz.zeroValue3
 t4 := Tryz.underlying4
 a4 := Tryz.isAgg4
 z4 := Tryz.sizeOf4
 v4 := Tryz.zeroValue4
 t5 := Tryz.underlying5
 a5 := Tryz.isAgg5
 z5 := Tryz.sizeOf5
 v5 := Tryz.zeroValue5
 t9 := Tryz.underlying9
 a9 := Tryz.isAgg9
 z9 := Tryz.sizeOf9
 v9 := Tryz.zeroValue9
 t20 := Tryz.underlying20
 a20 := Tryz.isAgg20
 z20 := Tryz.sizeOf20
 v20 := Tryz.zeroValue20
 t21 := Tryz.underlying21
 a21 := Tryz.isAgg21
 z21 := Tryz.sizeOf21
 v21 := Tryz.zeroValue21
 t37 := Tryz.underlying188
 a37 := Tryz.isAgg188
 z37 := Tryz.sizeOf188
 v37 := Tryz.zeroValue188
 t46 := Tryz.underlying80
 a46 := Tryz.isAgg80
 z46 := Tryz.sizeOf80
 v46 := Tryz.zeroValue80
 t51 := Tryz.underlying252
 a51 := Tryz.isAgg252
 z51 := Tryz.sizeOf252
 v51 := Tryz.zeroValue252
 t53 := Tryz.underlying254
 a53 := Tryz.isAgg254
 z53 := Tryz.sizeOf254
 v53 := Tryz.zeroValue254
 t75 := Tryz.underlying192
 a75 := Tryz.isAgg192
 z75 := Tryz.sizeOf192
 v75 := Tryz.zeroValue192
 t76 := Tryz.underlying193
 a76 := Tryz.isAgg193
 z76 := Tryz.sizeOf193
 v76 := Tryz.zeroValue193
 t85 := Tryz.underlying358
 a85 := Tryz.isAgg358
 z85 := Tryz.sizeOf358
 v85 := Tryz.zeroValue358
 t127 := Tryz.underlying233
 a127 := Tryz.isAgg233
 z127 := Tryz.sizeOf233
 v127 := Tryz.zeroValue233
 t143 := Tryz.underlying374
 a143 := Tryz.isAgg374
 z143 := Tryz.sizeOf374
 v143 := Tryz.zeroValue374
 t145 := Tryz.underlying376
 a145 := Tryz.isAgg376
 z145 := Tryz.sizeOf376
 v145 := Tryz.zeroValue376
 t167 := Tryz.underlying357
 a167 := Tryz.isAgg357
 z167 := Tryz.sizeOf357
 v167 := Tryz.zeroValue357
 t168 := Tryz.underlying360
 a168 := Tryz.isAgg360
 z168 := Tryz.sizeOf360
 v168 := Tryz.zeroValue360
 t171 := Tryz.underlying310
 a171 := Tryz.isAgg310
 z171 := Tryz.sizeOf310
 v171 := Tryz.zeroValue310
 t173 := Tryz.underlying312
 a173 := Tryz.isAgg312
 z173 := Tryz.sizeOf312
 v173 := Tryz.zeroValue312
 t175 := Tryz.underlying367
 a175 := Tryz.isAgg367
 z175 := Tryz.sizeOf367
 v175 := Tryz.zeroValue367
 t210 := Tryz.underlying371
 a210 := Tryz.isAgg371
 z210 := Tryz.sizeOf371
 v210 := Tryz.zeroValue371
 t212 := Tryz.underlying339
 a212 := Tryz.isAgg339
 z212 := Tryz.sizeOf339
 v212 := Tryz.zeroValue339
 t213 := Tryz.underlying340
 a213 := Tryz.isAgg340
 z213 := Tryz.sizeOf340
 t232 := Tryz.underlying365
 a232 := Tryz.isAgg365
 z232 := Tryz.sizeOf365
 v232 := Tryz.zeroValue365
 t233 := Tryz.underlying366
 a233 := Tryz.isAgg366
 z233 := Tryz.sizeOf366
 v233 := Tryz.zeroValue366
 g15 := by kernel_rfl
 g16 := by kernel_rfl
 g17 := by kernel_rfl
 g18 := by kernel_rfl
 g19 := by kernel_rfl
 t80 := Tryz.underlying196
 a80 := Tryz.isAgg196
 z80 := Tryz.sizeOf196
 v80 := Tryz.zeroValue196
 i0 := by kernel_rfl
 i2 := by kernel_rfl
 i3 := by kernel_rfl
 i4 := by kernel_rfl
 i5 := by kernel_rfl
 i9 := by kernel_rfl
 i20 := by kernel_rfl
 i21 := by kernel_rfl
 i37 := by kernel_rfl
 i46 := by kernel_rfl
 i51 := by kernel_rfl
 i53 := by kernel_rfl
 i75 := by kernel_rfl
 i76 := by kernel_rfl
 i80 := by kernel_rfl
 i85 := by kernel_rfl
 i127 := by kernel_rfl
 i143 := by kernel_rfl
 i145 := by kernel_rfl
 i167 := by kernel_rfl
 i168 := by kernel_rfl
 i171 := by kernel_rfl
 i173 := by kernel_rfl
 i175 := by kernel_rfl
 i210 := by kernel_rfl
 i212 := by kernel_rfl
 i232 := by kernel_rfl
 i233 := by kernel_rfl
 m15 := by kernel_rfl
 m16 := by kernel_rfl
 m17 := by kernel_rfl
 m18 := by kernel_rfl
 m19 := by kernel_rfl
 c0 := by kernel_rfl
 c2 := by kernel_rfl
 c3 := by kernel_rfl
 c4 := by kernel_rfl
 c5 := by kernel_rfl
 c9 := by kernel_rfl
 c20 := by kernel_rfl
 c21 := by kernel_rfl
 c37 := by kernel_rfl
 c46 := by kernel_rfl
 c51 := by kernel_rfl
 c53 := by kernel_rfl
 c75 := by kernel_rfl
 c76 := by kernel_rfl
 c80 := by kernel_rfl
 c85 := by kernel_rfl
 c127 := by kernel_rfl
 c143 := by kernel_rfl
 c145 := by kernel_rfl
 c167 := by kernel_rfl
 c168 := by kernel_rfl
 c171 := by kernel_rfl
 c173 := by kernel_rfl
 c175 := by kernel_rfl
 c210 := by kernel_rfl
 c212 := by kernel_rfl
 c213 := by kernel_rfl
 c232 := by kernel_rfl
 c233 := by kernel_rfl }
open Go.RowKit in
theorem Tryz.strconv_Atoi_ok (s : ByteArray) (hmax : s.size ≤ 9223372036854775806) (v : Int) (h : Lib.atoiAll s.data.toList = .ok v) (w : World) :
  Calls Tryz.prog 246 #[.string s] w fun e w' => e = .returned (.tuple #[.int .i64 v, .nilIface]) ∧ (w' = w ∨ ∃ t, w' = Lib.bytesWorld w 5 t) := Any.strconv_Atoi_ok Tryz.laysC172 s hmax v h w
def Tryz.lays144_ren : Go.Shelf.Ren := ⟨fun | 144 => 164 | 143 => 195 | 219 => 237 | 217 => 272 | 225 => 273 | 224 => 274 | 267 => 275 | 266 => 294 | 314 => 295 | n => n, fun | 9 => 9 | 4 => 4 | 3 => 3 | 5 => 5 | 46 => 80 | 146 => 275 | 51 => 252 | n => n, fun | 1 => 0 | n => n⟩
theorem Tryz.lays144 : Go.Proofs.Lays.n144 Tryz.prog Tryz.lays144_ren := {
 mixed := by kernel_rfl
 f143 := Tryz.func195.trans (congrArg some (by kernel_rfl))
 f144 := Tryz.func164.trans (congrArg some (by kernel_rfl))
 f217 := Tryz.func272.trans (congrArg some (by kernel_rfl))
 f219 := Tryz.func237.trans (congrArg some (by kernel_rfl))
 f224 := Tryz.func274.trans (congrArg some (by kernel_rfl))
 f225 := Tryz.func273.trans (congrArg some (by kernel_rfl))
 f266 := Tryz.func294.trans (congrArg some (by kernel_rfl))
 f267 := Tryz.func275.trans (congrArg some (by kernel_rfl))
 f314 := Tryz.func295.trans (congrArg some (by kernel_rfl))
 t3 := Tryz.underlying3
 a3 := Tryz.isAgg3
 z3 := Tryz.sizeOf3
 v3 := Tryz.zeroValue3
 t4 := Tryz.underlying4
 a4 := Tryz.isAgg4
 z4 := Tryz.sizeOf4
 v4 := Tryz.zeroValue4
 t5 := Tryz.underlying5
 a5 := Tryz.isAgg5
 z5 := Tryz.sizeOf5
 v5 := Tryz.zeroValue5
 t9 := Tryz.underlying9
 a9 := Tryz.isAgg9
 z9 := Tryz.sizeOf9
 v9 := Tryz.zeroValue9
 t46 := Tryz.underlying80
 a46 := Tryz.isAgg80
 z46 := Tryz.sizeOf80
 v46 := Tryz.zeroValue80
 t51 := Tryz.underlying252
 a51 := Tryz.isAgg252
 z51 := Tryz.sizeOf252
 v51 := Tryz.zeroValue252
 t146 := Tryz.underlying275
 a146 := Tryz.isAgg275
 z146 := Tryz.sizeOf275
 v146 := Tryz.zeroValue275
 g1 := by kernel_rfl }
open Go.RowKit Go.Lib in
theorem Tryz.strings_Contains (s sub : ByteArray) (m : Int) (w : World) (hs : s.size < 4294967281) (hm : w.cell? ⟨0, 0, none⟩ = some (.int .i64 m)) :
  Calls Tryz.prog 164 #[.string s, .string sub] w fun e w' => e = .returned (.bool (Lib.contains s.data.toList sub.data.toList)) ∧ w' = w := Any.strings_Contains Tryz.lays144 s sub m w hs hm
def Tryz.lays145_ren : Go.Shelf.Ren := ⟨fun | 145 => 221 | 220 => 263 | 219 => 237 | 217 => 272 | 225 => 273 | 224 => 274 | 267 => 275 | 266 => 294 | 314 => 295 | n => n, fun | 9 => 9 | 4 => 4 | 59 => 301 | 3 => 3 | 5 => 5 | 46 => 80 | 146 => 275 | 51 => 252 | n => n, fun | 1 => 0 | n => n⟩
theorem Tryz.lays145 : Go.Proofs.Lays.n145 Tryz.prog Tryz.lays145_ren := {
 mixed := by kernel_rfl
 f145 := Tryz.func221.trans (congrArg some (by kernel_rfl))
 f217 := Tryz.func272.trans (congrArg some (by kernel_rfl))
 f219 := Tryz.func237.trans (congrArg some (by kernel_rfl))
 f220 := Tryz.func263.trans (congrArg some (by kernel_rfl))
 f224 := Tryz.func274.trans (congrArg some (by kernel_rfl))
 f225 := Tryz.func273.trans (congrArg some (by kernel_rfl))
 f266 := Tryz.func294.trans (congrArg some (by kernel_rfl))
 f267 := Tryz.func275.trans (congrArg some (by kernel_rfl))
 f314 := Tryz.func295.trans (congrArg some (by kernel_rfl))
 t3 := Tryz.underlying3
 a3 := Tryz.isAgg3
 z3 := Tryz.sizeOf3
 v3 := Tryz.zeroValue3
 t4 := Tryz.underlying4
 a4 := Tryz.isAgg4
 z4 := Tryz.sizeOf4
 v4 := Tryz.zeroValue4
 t5 := Tryz.underlying5
 a5 := Tryz.isAgg5
 z5 := Tryz.sizeOf5
 v5 := Tryz.zeroValue5
 t9 := Tryz.underlying9
 a9 := Tryz.isAgg9
 z9 := Tryz.sizeOf9
 v9 := Tryz.zeroValue9
 t46 := Tryz.underlying80
 a46 := Tryz.isAgg80
 z46 := Tryz.sizeOf80
 v46 := Tryz.zeroValue80
 t51 := Tryz.underlying252
 a51 := Tryz.isAgg252
 z51 := Tryz.sizeOf252
 v51 := Tryz.zeroValue252
 t59 := Tryz.underlying301
 a59 := Tryz.isAgg301
 z59 := Tryz.sizeOf301
 v59 := Tryz.zeroValue301
 t146 := Tryz.underlying275
 a146 := Tryz.isAgg275
 z146 := Tryz.sizeOf275
 v146 := Tryz.zeroValue275
 g1 := by kernel_rfl }
open Go.RowKit Go.Lib in
theorem Tryz.strings_Cut (s sep : ByteArray) (m : Int) (w : World) (hs : s.size < 4294967281) (hm : w.cell? ⟨0, 0, none⟩ = some (.int .i64 m)) :
  Calls Tryz.prog 221 #[.string s, .string sep] w fun e w' => e = .returned (.tuple #[.string ⟨(Lib.cut s.data.toList sep.data.toList).1.toArray⟩, .string ⟨(Lib.cut s.data.toList sep.data.toList).2.1.toArray⟩, .bool (Lib.cut s.data.toList sep.data.toList).2.2]) ∧ ∃ n, w' = w.drewN n := Any.strings_Cut Tryz.lays145 s sep m w hs hm
def Tryz.lays148_ren : Go.Shelf.Ren := ⟨fun | 148 => 119 | 222 => 161 | 223 => 162 | 269 => 199 | n => n, fun | 9 => 9 | 3 => 3 | 4 => 4 | 5 => 5 | 146 => 275 | 51 => 252 | 46 => 80 | n => n, fun | n => n⟩
theorem Tryz.lays148 : Go.Proofs.Lays.n148 Tryz.prog Tryz.lays148_ren := {
 mixed := by kernel_rfl
 f148 := Tryz.func119.trans (congrArg some (by kernel_rfl))
 f222 := Tryz.func161.trans (congrArg some (by kernel_rfl))
 f223 := Tryz.func162.trans (congrArg some (by kernel_rfl))
 f269 := Tryz.func199.trans (congrArg some (by kernel_rfl))
 t3 := Tryz.underlying3
 a3 := Tryz.isAgg3
 z3 := Tryz.sizeOf3
 v3 := Tryz.zeroValue3
 t4 := Tryz.underlying4
 a4 := Tryz.isAgg4
 z4 := Tryz.sizeOf4
 v4 := Tryz.zeroValue4
 t5 := Tryz.underlying5
 a5 := Tryz.isAgg5
 z5 := Tryz.sizeOf5
 v5 := Tryz.zeroValue5
 t9 := Tryz.underlying9
 a9 := Tryz.isAgg9
 z9 := Tryz.sizeOf9
 v9 := Tryz.zeroValue9
 t46 := Tryz.underlying80
 a46 := Tryz.isAgg80
 z46 := Tryz.sizeOf80
 v46 := Tryz.zeroValue80
 t51 := Tryz.underlying252
 a51 := Tryz.isAgg252
 z51 := Tryz.sizeOf252
 v51 := Tryz.zeroValue252
 t146 := Tryz.underlying275
 a146 := Tryz.isAgg275
 z146 := Tryz.sizeOf275
 v146 := Tryz.zeroValue275 }
open Go.RowKit Go.Lib in
theorem Tryz.strings_LastIndex (s sub : ByteArray) (hs : s.size < 4611686018427387904) (w : World) :
  Calls Tryz.prog 119 #[.string s, .string sub] w fun e w' => e = .returned (.int .i64 (Lib.lastIndex s.data.toList sub.data.toList)) ∧ w' = w := Any.strings_LastIndex Tryz.lays148 s sub hs w
def Tryz.laysGw17_ren : Go.Shelf.Ren := ⟨fun | 17 => 159 | 15 => 198 | 20 => 241 | n => n, fun | 9 => 9 | 23 => 237 | 4 => 4 | 3 => 3 | 0 => 0 | 21 => 21 | n => n, fun | n => n⟩
theorem Tryz.laysGw17 : Go.Proofs.LaysGw.n17 Tryz.prog Tryz.laysGw17_ren := {
 mixed := by kernel_rfl
 f15 := Tryz.func198.trans (congrArg some (by kernel_rfl))
 f17 := Tryz.func159.trans (congrArg some (by kernel_rfl))
 f20 := Tryz.func241.trans (congrArg some (by kernel_rfl))
 t0 := Tryz.underlying0
 a0 := Tryz.isAgg0
 z0 := Tryz.sizeOf0
 v0 := Tryz.zeroValue0
 i0 := by kernel_rfl
 t3 := Tryz.underlying3
 a3 := Tryz.isAgg3
 z3 := Tryz.sizeOf3
 v3 := Tryz.zeroValue3
 i3 := by kernel_rfl
 t4 := Tryz.underlying4
 a4 := Tryz.isAgg4
 z4 := Tryz.sizeOf4
 v4 := Tryz.zeroValue4
 i4 := by kernel_rfl
 t9 := Tryz.underlying9
 a9 := Tryz.isAgg9
 z9 := Tryz.sizeOf9
 v9 := Tryz.zeroValue9
 i9 := by kernel_rfl
 t21 := Tryz.underlying21
 a21 := Tryz.isAgg21
 z21 := Tryz.sizeOf21
 v21 := Tryz.zeroValue21
 i21 := by kernel_rfl
 t23 := Tryz.underlying237
 a23 := Tryz.isAgg237
 z23 := Tryz.sizeOf237
 v23 := Tryz.zeroValue237
 i23 := by kernel_rfl }
open Go.RowKit Go.Lib in
theorem Tryz.strings_ContainsFunc (g : Nat) (lb : Array Value) (eg : ∀ args w, (callFunc g args).run Tryz.prog w = .ok (.enter g args) w) (p : Nat → Bool) (s : ByteArray) (w : World) (hp : PredAt Tryz.prog g lb encR p w) :
  Calls Tryz.prog 159 #[.string s, .func (.func g) #[] lb] w fun e w' => e = .returned (.bool (decide (0 ≤ Lib.idxFunc p true s))) ∧ Below w.heap.size w w' := Any.strings_ContainsFunc Tryz.laysGw17 g lb eg p s w hp
def Tryz.lays146_ren : Go.Shelf.Ren := ⟨fun | 146 => 117 | 221 => 156 | 268 => 193 | 138 => 194 | 143 => 195 | 195 => 234 | 197 => 235 | 218 => 236 | 219 => 237 | 260 => 271 | 217 => 272 | 225 => 273 | 224 => 274 | 267 => 275 | 266 => 294 | 314 => 295 | n => n, fun | 9 => 9 | 31 => 64 | 3 => 3 | 4 => 4 | 0 => 0 | 105 => 314 | 21 => 21 | 5 => 5 | 46 => 80 | 119 => 353 | 139 => 356 | 138 => 355 | 146 => 275 | 51 => 252 | n => n, fun | 1 => 0 | 3 => 2 | 4 => 3 | n => n⟩
theorem Tryz.lays146 : Go.Proofs.Lays.n146 Tryz.prog Tryz.lays146_ren := {
 mixed := by kernel_rfl
 f138 := Tryz.func194.trans (congrArg some (by kernel_rfl))
 f143 := Tryz.func195.trans (congrArg some (by kernel_rfl))
 f146 := Tryz.func117.trans (congrArg some (by kernel_rfl))
 f195 := Tryz.func234.trans (congrArg some (by kernel_rfl))
 f197 := Tryz.func235.trans (congrArg some (by kernel_rfl))
 f217 := Tryz.func272.trans (congrArg some (by kernel_rfl))
 f218 := Tryz.func236.trans (congrArg some (by kernel_rfl))
 f219 := Tryz.func237.trans (congrArg some (by kernel_rfl))
 f221 := Tryz.func156.trans (congrArg some (by kernel_rfl))
 f224 := Tryz.func274.trans (congrArg some (by kernel_rfl))
 f225 := Tryz.func273.trans (congrArg some (by kernel_rfl))
 f260 := Tryz.func271.trans (congrArg some (by kernel_rfl))
 f266 := Tryz.func294.trans (congrArg some (by kernel_rfl))
 f267 := Tryz.func275.trans (congrArg some (by kernel_rfl))
 f268 := Tryz.func193.trans (congrArg some (by kernel_rfl))
 f314 := Tryz.func295.trans (congrArg some (by kernel_rfl))
 t0 := Tryz.underlying0
 a0 := Tryz.isAgg0
 z0 := Tryz.sizeOf0
 v0 := Tryz.zeroValue0
 t3 := Tryz.underlying3
 a3 := Tryz.isAgg3
 z3 := Tryz.sizeOf3
 v3 := Tryz.zeroValue3
 t4 := Tryz.underlying4
 a4 := Tryz.isAgg4
 z4 := Tryz.sizeOf4
 v4 := Tryz.zeroValue4
 t5 := Tryz.underlying5
 a5 := Tryz.isAgg5
 z5 := Tryz.sizeOf5
 v5 := Tryz.zeroValue5
 t9 := Tryz.underlying9
 a9 := Tryz.isAgg9
 z9 := Tryz.sizeOf9
 v9 := Tryz.zeroValue9
 t21 := Tryz.underlying21
 a21 := Tryz.isAgg21
 z21 := Tryz.sizeOf21
 v21 := Tryz.zeroValue21
 t31 := Tryz.underlying64
 a31 := Tryz.isAgg64
 z31 := Tryz.sizeOf64
 v31 := Tryz.zeroValue64
 t46 := Tryz.underlying80
 a46 := Tryz.isAgg80
 z46 := Tryz.sizeOf80
 v46 := Tryz.zeroValue80
 t51 := Tryz.underlying252
 a51 := Tryz.isAgg252
 z51 := Tryz.sizeOf252
 v51 := Tryz.zeroValue252
 t105 := Tryz.underlying314
 a105 := Tryz.isAgg314
 z105 := Tryz.sizeOf314
 v105 := Tryz.zeroValue314
 t119 := Tryz.underlying353
 a119 := Tryz.isAgg353
 z119 := Tryz.sizeOf353
 t138 := Tryz.underlying355
 a138 := Tryz.isAgg355
 z138 := Tryz.sizeOf355
 v138 := Tryz.zeroValue355
 t139 := Tryz.underlying356
 a139 := Tryz.isAgg356
 z139 := Tryz.sizeOf356
 v139 := Tryz.zeroValue356
 t146 := Tryz.underlying275
 a146 := Tryz.isAgg275
 z146 := Tryz.sizeOf275
 v146 := Tryz.zeroValue275
 g1 := by kernel_rfl
 g3 := by kernel_rfl
 g4 := by kernel_rfl }
open Go.RowKit Go.Lib in
theorem Tryz.strings_Split (s sep : ByteArray) (m : Int) (w : World) (hs : s.size < 4294967281) (hm : w.cell? ⟨0, 0, none⟩ = some (.int .i64 m)) (h1 : 1 ≤ sep.size) :
  Calls Tryz.prog 117 #[.string s, .string sep] w fun e w' =>
   e = .returned (.slice (some ⟨w.heap.size, 0, none⟩) (Lib.countB s sep + 1) (Lib.countB s sep + 1)) ∧ w' = w.alloc (.cells ((Lib.splitB sep 0 (Lib.countB s sep) s).map Value.string).toArray 9) := Any.strings_Split Tryz.lays146 (by kernel_rfl) s sep m w hs hm h1
def Tryz.lays110_ren : Go.Shelf.Ren := ⟨fun | 110 => 245 | 109 => 278 | n => n, fun | 31 => 64 | 9 => 9 | 4 => 4 | 3 => 3 | 0 => 0 | n => n, fun | n => n⟩
theorem Tryz.lays110 : Go.Proofs.Lays.n110 Tryz.prog Tryz.lays110_ren := {
 mixed := by kernel_rfl
 f109 := Tryz.func278.trans (congrArg some (by kernel_rfl))
 f110 := Tryz.func245.trans (congrArg some (by kernel_rfl))
 t0 := Tryz.underlying0
 a0 := Tryz.isAgg0
 z0 := Tryz.sizeOf0
 v0 := Tryz.zeroValue0
 t3 := Tryz.underlying3
 a3 := Tryz.isAgg3
 z3 := Tryz.sizeOf3
 v3 := Tryz.zeroValue3
 t4 := Tryz.underlying4
 a4 := Tryz.isAgg4
 z4 := Tryz.sizeOf4
 v4 := Tryz.zeroValue4
 t9 := Tryz.underlying9
 a9 := Tryz.isAgg9
 z9 := Tryz.sizeOf9
 v9 := Tryz.zeroValue9
 t31 := Tryz.underlying64
 a31 := Tryz.isAgg64
 z31 := Tryz.sizeOf64
 v31 := Tryz.zeroValue64 }
open Go.Lib in
theorem Tryz.slices_Contains_string (b off n c : Nat) (zs : List ByteArray) (x : ByteArray) (w : World) (hz : n ≤ zs.length) (hbig : n ≤ 9223372036854775807) (hc : ∀ j, j < zs.length → w.cell? ⟨b, off + j, none⟩ = some (.string (zs.getD j ByteArray.empty))) :
  Calls Tryz.prog 245 #[.slice (some ⟨b, off, none⟩) n c, .string x] w fun e w' => e = .returned (.bool (Lib.containsS (zs.take n) x)) ∧ w' = w := Any.slices_Contains_string Tryz.lays110 b off n c zs x w hz hbig hc
open Go.Lib in
theorem Tryz.slices_Contains_string_empty (a : Option Addr) (c : Nat) (x : ByteArray) (w : World) :
  Calls Tryz.prog 245 #[.slice a 0 c, .string x] w fun e w' => e = .returned (.bool false) ∧ w' = w := Any.slices_Contains_string_empty Tryz.lays110 a c x w
end Go.Proofs
namespace Go.Proofs.YteekfnhhlcmcgaaGreatDoor
open Go.Eng Go.RowKit Go.Sort Go.Wh Go.Ver
set_option maxRecDepth 20000
attribute [local irreducible] AG CallA CallT AWp PCall ACall AgC
theorem below_gd (w : World) (k : Nat) (os : Array Obj) : Below w.heap.size w (grow (w.drewN k) os) := by
 have e : (w.drewN k).heap = w.heap := rfl
 refine ⟨rfl, rfl, rfl, by simp [grow, e], fun j hj => ?_⟩
 simp only [grow, e]
 rw [Array.getElem?_append_left hj]
theorem xX (n : Int) (h0 : -9223372036854775808 ≤ n) (h1 : n ≤ 9223372036854775807) : PCall Tryz.prog 115 [dI n] fun r => r = dS (Lib.itoa n) := by
 refine zt ⟨_, Tryz.func115, rfl, rfl⟩ fun C w us hc hg hr => ?_
 have hg : glOk w := hg
 obtain rfl := repL_v (us := [.int .i64 n]) hr
 refine (Tryz.strconv_Itoa n h0 h1 w hg.1).mono ?_
 rintro e w' ⟨rfl, k, os, rfl⟩
 exact ⟨_, _, rfl, rfl, .v _, below_gd w k os⟩
theorem rep_tup3 {C : Ctx} {w : World} {a b c : D} {x y z : Value} (h1 : Rep C w a x) (h2 : Rep C w b y) (h3 : Rep C w c z) : Rep C w (.tup [a, b, c]) (.tuple #[x, y, z]) := by
 refine .tup _ _ rfl fun j c u hc hu => ?_
 match j, hc, hu with
 | 0, hc, hu => simp at hc hu; subst hc hu; exact h1
 | 1, hc, hu => simp at hc hu; subst hc hu; exact h2
 | 2, hc, hu => simp at hc hu; subst hc hu; exact h3
 | j + 3, hc, hu => simp at hc
theorem Z7 (s p : List UInt8) (hl : s.length < 4294967281) : PCall Tryz.prog 221 [dS s, dS p] fun r => r = .tup [dS (Lib.cut s p).1, dS (Lib.cut s p).2.1, dB (Lib.cut s p).2.2] := by
 refine zt ⟨_, Tryz.func221, rfl, rfl⟩ fun C w us hc hg hr => ?_
 have hg : glOk w := hg
 obtain rfl := repL_v (us := [.string ⟨s.toArray⟩, .string ⟨p.toArray⟩]) hr
 obtain ⟨m, hm⟩ := hg.2
 refine (Tryz.strings_Cut ⟨s.toArray⟩ ⟨p.toArray⟩ m w (by simpa [ByteArray.size] using hl) hm).mono ?_
 rintro e w' ⟨rfl, n, rfl⟩
 exact ⟨_, _, rfl, rfl, rep_tup3 (.v _) (.v _) (.v _), ⟨rfl, rfl, rfl, Nat.le_refl _, fun _ _ => rfl⟩⟩
theorem ZW (a b : List UInt8) : PCall Tryz.prog 218 [dS a, dS b] fun r => r = dI (Lib.compareBytes a b) := by
 refine zt ⟨_, Tryz.func218, rfl, rfl⟩ fun C w us hc hg hr => ?_
 obtain rfl := repL_v (us := [.string ⟨a.toArray⟩, .string ⟨b.toArray⟩]) hr
 refine (Tryz.strings_Compare ⟨a.toArray⟩ ⟨b.toArray⟩ w).mono ?_
 rintro e w' ⟨rfl, rfl⟩
 exact ⟨_, _, rfl, by simp, .v _, Below.refl _ _⟩
theorem Jc (x y : Int) : PCall Tryz.prog 219 [dI x, dI y] fun r => r = dI (Lib.compareInt x y) := by
 refine zt ⟨_, Tryz.func219, rfl, rfl⟩ fun C w us hc hg hr => ?_
 obtain rfl := repL_v (us := [.int .i64 x, .int .i64 y]) hr
 refine (Tryz.cmp_Compare_int x y w).mono ?_
 rintro e w' ⟨rfl, rfl⟩
 exact ⟨_, _, rfl, rfl, .v _, Below.refl _ _⟩
theorem jF (s p : List UInt8) (hs : s.length ≤ 9223372036854775807) (hpl : p.length < 4294967281) (hp : p.all (fun b => decide (b.toNat < 128)) = true) : PCall Tryz.prog 163 [dS s, dS p] fun r => r = dS (Lib.trimS s p) := by
 refine zt ⟨_, Tryz.func163, rfl, rfl⟩ fun C w us hc' hg hr => ?_
 obtain rfl := repL_v (us := [.string ⟨s.toArray⟩, .string ⟨p.toArray⟩]) hr
 refine (Any.strings_Trim_laid Tryz.lays160 (by kernel_rfl) ⟨s.toArray⟩ ⟨p.toArray⟩ w (by simpa [ByteArray.size] using hs) (by simpa [ByteArray.size] using hpl) (ascii_of_all (by simpa using hp))).mono ?_
 rintro e w' ⟨rfl, hb⟩
 exact ⟨_, _, rfl, rfl, .v _, hb⟩
theorem splitB_eq (s p : List UInt8) : (Lib.splitB ⟨p.toArray⟩ 0 (Lib.countB ⟨s.toArray⟩ ⟨p.toArray⟩) ⟨s.toArray⟩).map (·.data.toList) = Lib.split s p := by
 rw [Lib.splitB_data]; rfl
theorem zZ (s p : List UInt8) (hl : s.length < 4294967281) (hp : 1 ≤ p.length) : PCall Tryz.prog 117 [dS s, dS p] fun r => r = dSs (Lib.split s p) := by
 refine zt ⟨_, Tryz.func117, rfl, rfl⟩ fun C w us hc hg hr => ?_
 have hg : glOk w := hg
 obtain rfl := repL_v (us := [.string ⟨s.toArray⟩, .string ⟨p.toArray⟩]) hr
 obtain ⟨m, hm⟩ := hg.2
 refine (Tryz.strings_Split ⟨s.toArray⟩ ⟨p.toArray⟩ m w (by simpa [ByteArray.size] using hl) hm (by simpa [ByteArray.size] using hp)).mono ?_
 rintro e w' ⟨rfl, rfl⟩
 have e1 := splitB_eq s p
 have hall := Lib.splitB_all ⟨p.toArray⟩ (by simpa [ByteArray.size] using hp) 0 _ ⟨s.toArray⟩ rfl
 have hle := Lib.countB_le ⟨p.toArray⟩ (by simpa [ByteArray.size] using hp) _ ⟨s.toArray⟩ (Nat.le_refl _)
 have hsz : (⟨s.toArray⟩ : ByteArray).size = s.length := by simp [ByteArray.size]
 generalize hL : Lib.splitB ⟨p.toArray⟩ 0 (Lib.countB ⟨s.toArray⟩ ⟨p.toArray⟩) ⟨s.toArray⟩ = L at *
 refine ⟨_, _, rfl, rfl, ?_, ⟨rfl, rfl, rfl, by simp, fun k hk => Below.heap_alloc w _ k hk⟩⟩
 have := rep_newrow (w := w) (w1 := w) (t := 9) (cap := Lib.countB ⟨s.toArray⟩ ⟨p.toArray⟩ + 1) (xs := L.map Value.string) hc (Nat.le_refl _) (by simp; omega) (by simp only [maxLen]; omega)
 have e3 : (L.map Value.string).length = Lib.countB ⟨s.toArray⟩ ⟨p.toArray⟩ + 1 := by simpa using hall
 rw [e3] at this
 have e4 : ((L.map Value.string).map fun x => [D.v x]) = (Lib.split s p).map cS := by
  rw [← e1]; simp
 rw [e4] at this
 exact this
theorem sl_cells {C : Ctx} {w : World} {xs : List (List UInt8)} {u : Value} (h : Rep C w (dSs xs) u) : (xs = [] ∧ ∃ ao cap, u = .slice ao 0 cap) ∨
  ∃ b o cap, u = .slice (some ⟨b, o, none⟩) xs.length cap ∧ xs.length ≤ cap ∧ cap ≤ maxLen ∧ ∀ (j : Nat) x, xs[j]? = some x → w.cell? ⟨b, o + j, none⟩ = some (.string ⟨x.toArray⟩) := by
 unfold dSs at h
 generalize hes : xs.map cS = es at h
 cases h with
 | slE _ ao cap hm =>
  left
  exact ⟨by simpa using hes, ao, cap, rfl⟩
 | sl _ _ b o cap vs hl hm hk hc hh =>
  right
  have hlen : es.length = xs.length := by rw [← hes]; simp
  refine ⟨b, o, cap, by rw [hlen], by omega, hm, fun j x hx => ?_⟩
  have he : es[j]? = some (cS x) := by rw [← hes]; simp [hx]
  have h1 := (hc j 0 (cS x) _ he rfl).2
  have h2 := (hh j 0 (cS x) _ he rfl).v_inv
  rw [← h2]
  simpa using h1
theorem repL2 {C : Ctx} {w : World} {a b : D} {us : List Value} (h : RepL C w [a, b] us) : ∃ x y, us = [x, y] ∧ Rep C w a x ∧ Rep C w b y := by
 obtain ⟨h1, h2⟩ := h
 match us, h1 with
 | [x, y], _ => exact ⟨x, y, rfl, h2 0 a x rfl rfl, h2 1 b y rfl rfl⟩
end Go.Proofs.YteekfnhhlcmcgaaGreatDoor
namespace Go.Proofs.YteekfnhhlcmcgaaGreatDoor
open Go.Eng Go.Wh Go.Ver Go.RowKit
set_option maxRecDepth 20000
attribute [local irreducible] AG CallA CallT AWp PCall ACall AgC
theorem isD_iff (c : UInt8) : isD c = true ↔ 48 ≤ c.toNat ∧ c.toNat ≤ 57 := by simp [isD]
theorem decVal_cons (c : UInt8) (s : List UInt8) : decVal (c :: s) = dgt c * 10 ^ s.length + decVal s := by
 have := decVal_app [c] s
 rw [show decVal [c] = dgt c by simp [decVal]] at this
 exact this
theorem parseD : ∀ (s : List UInt8), (∀ c ∈ s, isD c = true) → ∀ acc, acc < 18446744073709551616 →
  Lib.parseUint10 acc s = if acc * 10 ^ s.length + decVal s < 18446744073709551616 then .ok (acc * 10 ^ s.length + decVal s) else .range
 | [], _, acc, ha => by simp [Lib.parseUint10, decVal, ha]
 | c :: s, h, acc, ha => by
  have hc := h c (by simp)
  have hc' := (isD_iff c).1 hc
  have ih := parseD s (fun x hx => h x (by simp [hx]))
  have hd : c.toNat - 48 = dgt c := rfl
  have hd10 := dgt_lt hc
  have e : acc * 10 ^ (c :: s).length + decVal (c :: s) = (acc * 10 + dgt c) * 10 ^ s.length + decVal s := by
   rw [decVal_cons, List.length_cons, Nat.pow_succ, Nat.add_mul, Nat.mul_assoc, Nat.mul_comm 10, ← Nat.add_assoc]
  have hp : 0 < 10 ^ s.length := Nat.pow_pos (by decide)
  have hge : acc * 10 + dgt c ≤ (acc * 10 + dgt c) * 10 ^ s.length := Nat.le_mul_of_pos_right _ hp
  rw [e]
  unfold Lib.parseUint10
  rw [if_pos (by omega), hd]
  by_cases h1 : 1844674407370955162 ≤ acc
  ·rw [if_pos h1, if_neg (by omega)]
  ·rw [if_neg h1]
   by_cases h2 : 18446744073709551616 ≤ acc * 10 + dgt c
   ·rw [if_pos h2, if_neg (by omega)]
   ·rw [if_neg h2]; exact ih _ (by omega)
theorem parseB {s : List UInt8} (h : ∀ c ∈ s, isD c = true) (hne : s ≠ []) : Lib.parseMag s = if decVal s < 18446744073709551616 then .ok (decVal s) else .range := by
 unfold Lib.parseMag
 rw [if_neg hne, parseD s h 0 (by decide)]
 simp
theorem atoi_dig {s : List UInt8} (h : ∀ c ∈ s, isD c = true) (hne : s ≠ []) (hv : decVal s < 9223372036854775808) : Lib.atoiAll s = .ok (decVal s : Int) := by
 have hp := parseB h hne
 cases s with
 | nil => exact absurd rfl hne
 | cons c r =>
  have hcd := (isD_iff c).1 (h c (by simp))
  have e43 : ¬ c.toNat = 43 := by omega
  have e45 : ¬ c.toNat = 45 := by omega
  unfold Lib.atoiAll
  simp only [e43, e45, or_self, if_false, hp]
  rw [if_pos (by omega)]
  simp only [not_false_eq_true, true_and, false_and, if_false]
  rw [if_neg (by omega)]
theorem atoi_ok (s : List UInt8) (hl : s.length ≤ 281474976710656) (v : Int) (h : Lib.atoiAll s = .ok v) : PCall Tryz.prog 246 [dS s] fun r => r = .tup [dI v, .v .nilIface] := by
 refine zt ⟨_, Tryz.func246, rfl, rfl⟩ fun C w us hc hg hr => ?_
 obtain rfl := repL_v (us := [.string ⟨s.toArray⟩]) hr
 refine (Tryz.strconv_Atoi_ok ⟨s.toArray⟩ (by simp [ByteArray.size]; omega) v (by simpa using h) w).mono ?_
 rintro e w' ⟨rfl, hw⟩
 refine ⟨_, _, rfl, rfl, rep_tup2 (.v _) (.v _), ?_⟩
 rcases hw with rfl | ⟨t, rfl⟩
 ·exact Below.refl _ _
 ·exact ⟨rfl, rfl, rfl, by rw [Lib.bytesWorld_size]; omega, fun k hk => Lib.bytesWorld_at_old w _ _ k (by omega)⟩
theorem dw_nil {α : Type} {p : α → Bool} : ∀ {l : List α}, l.dropWhile p = [] ↔ l.all p = true
 | [] => by simp
 | x :: l => by
  rw [List.dropWhile_cons]
  by_cases h : p x = true
  ·rw [if_pos h, List.all_cons, h, Bool.true_and]; exact dw_nil
  ·rw [if_neg h]; simp [h]
theorem trimS_nil (l cs : List UInt8) : Lib.trimS l cs = [] ↔ l.all (cs.contains ·) = true := by
 unfold Lib.trimS Lib.trimLeftS Lib.trimRightS
 rw [dw_nil]
 have hr : ∀ m : List UInt8, m.reverse.all (cs.contains ·) = m.all (cs.contains ·) := fun m => by rw [List.all_reverse]
 rw [hr]
 constructor
 ·intro h
  have h2 := (dw_nil (p := (cs.contains ·)) (l := l.reverse)).1 (by
   cases hd : l.reverse.dropWhile (cs.contains ·) with
   | nil => rfl
   | cons x m =>
    exfalso
    have hx := List.head_dropWhile_not (cs.contains ·) (l := l.reverse) (by rw [hd]; simp)
    rw [hd] at h
    simp only [hd, List.head_cons] at hx
    rw [List.all_cons] at h
    simp only [Bool.and_eq_true] at h
    rw [h.1] at hx; cases hx)
  rw [hr] at h2; exact h2
 ·intro h
  rw [(dw_nil (p := (cs.contains ·)) (l := l.reverse)).2 (by rw [hr]; exact h)]
  rfl
def tenD : List UInt8 := [48, 49, 50, 51, 52, 53, 54, 55, 56, 57]
theorem tenD_isD (c : UInt8) : tenD.contains c = isD c := by
 have h := UInt8.toNat_lt c
 unfold isD tenD
 refine Bool.eq_iff_iff.2 ?_
 simp only [List.contains_iff_mem, List.mem_cons, List.mem_nil_iff, or_false, Bool.and_eq_true, decide_eq_true_eq, ← UInt8.toNat_inj]
 simp
 omega
theorem trim_digits (l : List UInt8) : (Lib.trimS l tenD = []) ↔ l.all isD = true := by
 rw [trimS_nil]
 simp only [tenD_isD]
def abcL : List UInt8 := [97, 98, 99, 100, 101, 102, 103, 104, 105, 106, 107, 108, 109, 110, 111, 112, 113, 114, 115, 116, 117, 118, 119, 120, 121, 122]
theorem abcL_isL (c : UInt8) : abcL.contains c = isL c := by
 have h := UInt8.toNat_lt c
 unfold isL abcL
 refine Bool.eq_iff_iff.2 ?_
 simp only [List.contains_iff_mem, List.mem_cons, List.mem_nil_iff, or_false, Bool.and_eq_true, decide_eq_true_eq, ← UInt8.toNat_inj]
 simp
 omega
theorem trim_letters (l : List UInt8) : (Lib.trimS l abcL = []) ↔ l.all isL = true := by
 rw [trimS_nil]
 simp only [abcL_isL]
theorem wH (zs : List (List UInt8)) (x : List UInt8) (hN : zs.length ≤ 140737488355328) : PCall Tryz.prog 245 [dSs zs, dS x] fun r => r = dB (decide (x ∈ zs)) := by
 refine zt ⟨_, Tryz.func245, rfl, rfl⟩ fun C w us hc hg hr => ?_
 obtain ⟨u, v, rfl, h1, h2⟩ := repL2 hr
 obtain rfl := h2.v_inv
 rcases sl_cells h1 with ⟨rfl, ao, cap, rfl⟩ | ⟨b, o, cap, rfl, hcap, hm, hcells⟩
 ·refine (Tryz.slices_Contains_string_empty ao cap ⟨x.toArray⟩ w).mono ?_
  rintro e w' ⟨rfl, rfl⟩
  exact ⟨_, _, rfl, by simp, .v _, Below.refl _ _⟩
 ·have := Tryz.slices_Contains_string b o zs.length cap (zs.map fun y => (⟨y.toArray⟩ : ByteArray)) ⟨x.toArray⟩ w (by simp) (by omega) (fun j hj => by
   simp at hj
   have := hcells j zs[j] (List.getElem?_eq_getElem hj)
   simp [List.getD, hj, this])
  refine this.mono ?_
  rintro e w' ⟨rfl, rfl⟩
  refine ⟨_, _, rfl, ?_, .v _, Below.refl _ _⟩
  have ht : (zs.map fun y => (⟨y.toArray⟩ : ByteArray)).take zs.length = zs.map fun y => (⟨y.toArray⟩ : ByteArray) := by
   rw [List.take_of_length_le (by simp)]
  rw [ht]
  have he : Lib.containsS (zs.map fun y => (⟨y.toArray⟩ : ByteArray)) ⟨x.toArray⟩ = decide (x ∈ zs) := by
   rw [Bool.eq_iff_iff, Lib.containsS_iff, decide_eq_true_eq, List.mem_map]
   constructor
   ·rintro ⟨y, hy, e⟩
    have := congrArg (fun b : ByteArray => b.data.toList) e
    simp at this; exact this ▸ hy
   ·exact fun h => ⟨x, h, rfl⟩
  rw [he]
end Go.Proofs.YteekfnhhlcmcgaaGreatDoor
namespace Go.Proofs.YteekfnhhlcmcgaaGreatDoor
open Go.Eng Go.Wh Go.Ver
set_option maxRecDepth 20000
attribute [local irreducible] AG CallA CallT AWp PCall ACall AgC
def segP (s : List UInt8) : Seg :=
 if s = [] then z0s else if s.all isL = true then (s, 0)
 else if s.all isD = true ∧ (s.head? ≠ some 48 ∨ s = [48]) ∧ s.length ≤ 10 then ([], (decVal s : Int)) else z0s
theorem JV {s : List UInt8} {x : Seg} (h : segV s = some x) : segP s = x := by
 unfold segV at h
 unfold segP
 split at h
 ·simp at h
 ·rename_i h0
  rw [if_neg (fun e => h0 (.inl e))]
  split at h
  ·rename_i h1; rw [if_pos h1]; simpa using h
  ·rename_i h1
   rw [if_neg h1]
   split at h
   ·rename_i h2
    simp only [Bool.and_eq_true, Bool.or_eq_true, decide_eq_true_eq] at h2
    rw [if_pos ⟨h2.1.1, h2.1.2, by omega⟩]; simpa using h
   ·simp at h
theorem segR_nil : segP [] = z0s ∧ (segV []).isSome = false := by simp [segP, segV]
theorem segR_L {s : List UInt8} (h : s ≠ []) (hL : s.all isL = true) : segP s = (s, 0) ∧ (segV s).isSome = decide (s.length ≤ 10) := by
 unfold segP segV
 rw [if_neg h, if_pos hL]
 refine ⟨rfl, ?_⟩
 by_cases h1 : s.length ≤ 10
 ·rw [if_neg (by simp [h]; exact h1), if_pos hL]; simp [h1]
 ·rw [if_pos (.inr (by omega))]; simp [h1]
theorem segR_bad {s : List UInt8} (hL : s.all isL = false) (hb : ¬ (s.all isD = true ∧ (s.head? ≠ some 48 ∨ s = [48]) ∧ s.length ≤ 10)) : segP s = z0s ∧ (segV s).isSome = false := by
 by_cases h : s = []
 ·subst h; exact segR_nil
 ·unfold segP segV
  rw [if_neg h, if_neg (by simp [hL]), if_neg hb]
  refine ⟨rfl, ?_⟩
  split
  ·rfl
  ·rename_i h1
   rw [if_neg (by simp [hL]), if_neg]
   ·rfl
   ·intro q
    simp only [Bool.and_eq_true, Bool.or_eq_true, decide_eq_true_eq] at q
    exact hb ⟨q.1.1, q.1.2, by omega⟩
theorem segR_num {s : List UInt8} (h : s ≠ []) (hL : s.all isL = false) (h1 : s.all isD = true) (h2 : s.head? ≠ some 48 ∨ s = [48]) (h3 : s.length ≤ 10) : segP s = ([], (decVal s : Int)) ∧ (segV s).isSome = decide (decVal s ≤ 1000000000) := by
 unfold segP segV
 rw [if_neg h, if_neg (by simp [hL]), if_pos ⟨h1, h2, h3⟩]
 refine ⟨rfl, ?_⟩
 rw [if_neg (by simp [h]; exact h3), if_neg (by simp [hL])]
 by_cases h4 : decVal s ≤ 1000000000
 ·rw [if_pos (by simp only [Bool.and_eq_true, Bool.or_eq_true, decide_eq_true_eq]; exact ⟨⟨h1, h2⟩, h4⟩)]; simp [h4]
 ·rw [if_neg (by simp [h4])]; simp [h4]
theorem xQ (s : List UInt8) (hl : s.length ≤ 1000000000) : PCall Tryz.prog 208 [dS s] fun r => r = .tup [dG (segP s), dB (segV s).isSome] := by 
 refine qw Tryz.func208 rfl rfl Tryz.ntmps208 (rs := [.cell 2 288, .tmp 3]) (tys := [288, 4]) rfl rfl (by simp) ?_
 have T1 := jF s abcL (by omega) (by decide) (by decide)
 have T2 := jF s tenD (by omega) (by decide) (by decide)
 have e1 := trim_letters s
 have e2 := trim_digits s
 generalize Lib.trimS s abcL = a at *
 generalize Lib.trimS s tenD = d at *
 have hn := @segR_nil
 have hL := @segR_L s
 have hB := @segR_bad s
 have hN := @segR_num s
 have hA := fun (h : s.all isD = true) (hne : s ≠ []) (hv : decVal s < 9223372036854775808) => atoi_ok s (by omega) _ (atoi_dig (s := s) (by simpa using h) hne hv)
 have hd := fun (h : s.all isD = true) => decVal_lt (s := s) (by simpa using h)
 generalize hP : segP s = p at *
 generalize hV : (segV s).isSome = v at *
 generalize hdv : decVal s = dv at *
 generalize hiL : s.all isL = iL at *
 generalize hiD : s.all isD = iD at *
 (refine qc fun Y Yh=>?_;simp[go_sem];intro _;apply Yh;clear Yh Y;apply Xi)
 refine qf fun K1 hK1 => ?_
 refine qj ?_
 (refine qc fun Y Yh=>?_;simp[go_sem];apply Yh;clear Yh Y;apply Xi)
 (refine qg fun T F hT hF=>?_;simp[go_sem];refine BR.intro (fun h2=>hT ?_) (fun h2=>hF ?_);all_goals clear hT hF T F;try simp at h2) 
 ·subst h2
  obtain ⟨q1, q2⟩ := hn
  rw [hP] at q1; rw [hV] at q2
  subst q1 q2
  (refine qc fun Y Yh=>?_;simp[go_sem];apply Yh;clear Yh Y;apply Xi)
  (refine qi ?_;simp[go_sem])
 ·(refine qc fun Y Yh=>?_;simp[go_sem])
  ((try refine Xj ?_);refine qm (.inl ⟨rfl,rfl⟩) (by simp[go_sem]) ?_;intro args ha;simp[go_sem] at ha;subst ha;refine ⟨_, T1, ?_⟩;rintro _ rfl;simp[go_sem];apply Yh;clear Yh Y;apply Xi)
  (refine qg fun T F hT hF=>?_;simp[go_sem];refine BR.intro (fun h3=>hT ?_) (fun h3=>hF ?_);all_goals clear hT hF T F;try simp at h3) 
  ·obtain ⟨q1, q2⟩ := hL h2 (e1.1 h3)
   subst q1 q2
   (refine qc fun Y Yh=>?_;simp[go_sem];apply Yh;clear Yh Y;apply Xi)
   (refine qi ?_;simp[go_sem])
   omega
  ·have hiL' : iL = false := by
    cases iL with
    | false => rfl
    | true => exact absurd (e1.2 rfl) h3
   cases s with
   | nil => exact absurd rfl h2
   | cons c r =>
    have hc48 : decide (c.toNat = 48) = decide (c = 48) := decide_eq_decide.2 ⟨fun h => UInt8.toNat_inj.1 h, fun h => by rw [h]; rfl⟩
    (refine qc fun Y Yh=>?_;simp[go_sem])
    ((try refine Xj ?_);refine qm (.inl ⟨rfl,rfl⟩) (by simp[go_sem]) ?_;intro args ha;simp[go_sem] at ha;subst ha;refine ⟨_, T2, ?_⟩;rintro _ rfl;simp[go_sem];((repeat' (first|(refine qH ?_;simp[go_sem])|intro _|apply And.intro|(apply Yh;clear Yh Y)));all_goals first|apply Xi|omega|skip))
    ·rename_i q
     by_cases hq : (c.toNat : Int) = 48
     ·exact .inr (q hq)
     ·exact .inl hq
    (refine qg fun T F hT hF=>?_;simp[go_sem];refine BR.intro (fun h4=>hT ?_) (fun h4=>hF ?_);all_goals clear hT hF T F;try simp at h4) 
    ·have := hB hiL' (by
      rintro ⟨r1, r2, r3⟩
      simp only [List.length_cons] at r3
      rcases h4 with (h4 | ⟨h4, h5⟩) | h4
      ·exact h4 (e2.2 r1)
      ·have hc : c = 48 := UInt8.toNat_inj.1 (by show c.toNat = 48; omega)
       subst hc
       rcases r2 with r2 | r2
       ·simp at r2
       ·simp at r2; rcases h5 with h5 | h5
        ·exact h5 rfl
        ·exact h5 r2
      ·omega)
     obtain ⟨q1, q2⟩ := this
     subst q1 q2
     (refine qc fun Y Yh=>?_;simp[go_sem];apply Yh;clear Yh Y;apply Xi)
     (refine qi ?_;simp[go_sem])
    ·refine qh ?_
     refine hK1 _ ?_; clear hK1
     have h4' : iD = true ∧ ((c :: r).head? ≠ some 48 ∨ c :: r = [48]) ∧ (c :: r).length ≤ 10 := by
      obtain ⟨⟨g1, g2⟩, g3⟩ := h4
      refine ⟨e2.1 g1, ?_, by simp only [List.length_cons]; omega⟩
      by_cases hc : c = 48
      ·obtain ⟨_, g4⟩ := g2 (by rw [hc]; rfl)
       exact .inr (by rw [hc, g4])
      ·exact .inl (by simpa using hc)
     have hb1 := hd h4'.1
     have hb2 : 10 ^ (c :: r).length ≤ 10 ^ 10 := Nat.pow_le_pow_right (by decide) h4'.2.2
     have hA' := hA h4'.1 h2 (by omega)
     obtain ⟨q1, q2⟩ := hN h2 hiL' h4'.1 h4'.2.1 h4'.2.2
     subst q1 q2
     (refine qc fun Y Yh=>?_;simp[go_sem])
     ((try refine Xj ?_);refine qm (.inl ⟨rfl,rfl⟩) (by simp[go_sem]) ?_;intro args ha;simp[go_sem] at ha;subst ha;refine ⟨_, hA', ?_⟩;rintro _ rfl;simp[go_sem];apply Yh;clear Yh Y;apply Xi)
     (refine qc fun Y Yh=>?_;simp[go_sem];apply Yh;clear Yh Y;apply Xi)
     (refine qi ?_;simp[go_sem])
     omega
end Go.Proofs.YteekfnhhlcmcgaaGreatDoor
namespace Go.Ver
open Go.Lib
/-! cut at a blank, parts of a requirement -/
theorem cut_cutS : ∀ p : List UInt8, cut p [32] = match cutS p with | some (o, v) => (o, v, true) | none => (p, [], false)
 | [] => by unfold cut; simp [index, cutS]
 | b :: l => by
  have ih := cut_cutS l
  have hge := index_ge l [32]
  by_cases h : b = 32
  ·subst h
   have e : index (32 :: l) [32] = 0 := by unfold index; simp
   unfold cut
   rw [e]
   simp [cutS]
  ·have hp : ([32] : List UInt8).isPrefixOf (b :: l) = false := by
    rw [Bool.eq_false_iff]; intro q; simp at q; exact h q.symm
   have e : index (b :: l) [32] = if index l [32] == -1 then -1 else index l [32] + 1 := by
    conv => lhs; unfold index
    simp [hp]
   have ec : cutS (b :: l) = (cutS l).map fun p => (b :: p.1, p.2) := by
    conv => lhs; unfold cutS
    rw [if_neg h]
   rw [ec]
   by_cases h1 : index l [32] = -1
   ·have e2 : index (b :: l) [32] = -1 := by rw [e, h1]; rfl
    unfold cut at ih ⊢
    rw [e2]
    rw [h1] at ih
    cases hc : cutS l with
    | none => simp
    | some q => rw [hc] at ih; simp at ih
   ·obtain ⟨i, hi⟩ : ∃ i : Nat, index l [32] = i := ⟨(index l [32]).toNat, by omega⟩
    have e2 : index (b :: l) [32] = ((i + 1 : Nat) : Int) := by rw [e, hi, if_neg (by simp)]; rfl
    unfold cut at ih ⊢
    rw [e2]
    rw [hi] at ih
    rw [if_pos (by omega)] at ih ⊢
    cases hc : cutS l with
    | none => rw [hc] at ih; simp at ih
    | some q =>
     obtain ⟨o, v⟩ := q
     rw [hc] at ih
     simp at ih
     simp [ih.1, ← ih.2]
theorem cut_cnd {p o v : List UInt8} {is : Bool} (h : cut p [32] = (o, v, is)) : cndV p = if is = true ∧ o ∈ opsV then (readV v).map fun l => (o, l) else none := by
 have e := cut_cutS p
 rw [h] at e
 unfold cndV
 cases hc : cutS p with
 | none =>
  rw [hc] at e
  simp only [Prod.mk.injEq] at e
  obtain ⟨_, _, e3⟩ := e
  subst e3
  simp
 | some q =>
  obtain ⟨o', v'⟩ := q
  rw [hc] at e
  simp only [Prod.mk.injEq] at e
  obtain ⟨e1, e2, e3⟩ := e
  subst e1 e2 e3
  simp
theorem cut_len {p o v : List UInt8} {is : Bool} (h : cut p [32] = (o, v, is)) : v.length ≤ p.length := by
 unfold cut at h
 split at h
 ·simp at h; rw [← h.2.1]; simp
 ·simp at h; rw [h.2.1]; simp
theorem csv_len (c d : UInt8) (s : List UInt8) : (csv c d s).length ≤ s.length + 1 := by
 match s with
 | [] => simp [csv]
 | b :: l =>
  unfold csv
  split
  ·have := csv_len c d l.tail
   simp at this ⊢; omega
  ·have := csv_len c d l
   cases hd : csv c d l with
   | nil => simp [consH]
   | cons h t => rw [hd] at this; simp [consH] at this ⊢; omega
termination_by s.length
decreasing_by all_goals simp; try omega
theorem csv_part (c d : UInt8) (s : List UInt8) : ∀ p ∈ csv c d s, p.length ≤ s.length := by
 match s with
 | [] => intro p hp; simp [csv] at hp; subst hp; simp
 | b :: l =>
  intro p hp
  unfold csv at hp
  split at hp
  ·have ih := csv_part c d l.tail
   rcases List.mem_cons.1 hp with rfl | hp
   ·simp
   ·have := ih p hp; simp at this ⊢; omega
  ·have ih := csv_part c d l
   cases hd : csv c d l with
   | nil => exact absurd hd (csv_ne c d l)
   | cons h t =>
    rw [hd] at hp ih
    simp only [consH, List.mem_cons] at hp
    rcases hp with rfl | hp
    ·have := ih h (by simp); simp; omega
    ·have := ih p (by simp [hp]); simp; omega
termination_by s.length
decreasing_by all_goals simp; try omega
theorem vO {a : List (List UInt8)} {l : List Cnd} {p : List UInt8} {x : Cnd} (h : cndsV a = some l) (hx : cndV p = some x) : cndsV (a ++ [p]) = some (l ++ [x]) := by
 induction a generalizing l with
 | nil => simp [cndsV] at h ⊢; subst h; simp [hx]
 | cons q r ih =>
  unfold cndsV at h
  split at h
  ·rename_i y m hy hm
   simp at h; subst h
   simp only [List.cons_append, cndsV, hy, ih hm]
  ·simp at h
theorem wV {ps : List (List UInt8)} {p : List UInt8} (hp : p ∈ ps) (h : cndV p = none) : cndsV ps = none := by
 induction ps with
 | nil => simp at hp
 | cons q r ih =>
  unfold cndsV
  rcases List.mem_cons.1 hp with rfl | hp
  ·rw [h]
  ·rw [ih hp]; cases cndV q <;> rfl
def condsP (r : List UInt8) : List Cnd := if r = [] then [] else (cndsV (csv 44 32 r)).getD []
theorem Je {r : List UInt8} {l : List Cnd} (h : condsV r = some l) : condsP r = l := by
 unfold condsV at h
 unfold condsP
 split at h
 ·rename_i h0; rw [if_pos h0]; simpa using h
 ·rename_i h0
  rw [if_neg h0]
  split at h
  ·rename_i m hm
   rw [hm]
   split at h <;> simp at h
   exact h
  ·simp at h
/-! what the exported functions tell -/
def readP (v : List UInt8) : List Seg := if 60 < v.length then [] else (segsV (dots 46 v)).getD []
theorem kZ {v : List UInt8} {l : List Seg} (h : readV v = some l) : readP v = l := by
 unfold readV at h
 unfold readP
 split at h
 ·simp at h
 ·rename_i h0
  rw [if_neg h0]
  split at h
  ·rename_i m hm
   rw [hm]
   split at h <;> simp at h
   exact h
  ·simp at h
theorem read_ok {v : List UInt8} (h : (readV v).isSome = true) : readV v = some (readP v) ∧ VOk (readP v) ∧ textV (readP v) = v ∧ v.length ≤ 60 := by
 obtain ⟨l, hl⟩ := Option.isSome_iff_exists.1 h
 have := kZ hl
 rw [this]
 exact ⟨hl, jQ hl⟩
theorem conds_ok {r : List UInt8} (h : (condsV r).isSome = true) : condsV r = some (condsP r) ∧ (∀ c ∈ condsP r, COk c) ∧ (condsP r).length ≤ 20 := by
 obtain ⟨l, hl⟩ := Option.isSome_iff_exists.1 h
 have := Je hl
 rw [this]
 exact ⟨hl, (wU hl).2⟩
def codeP (b : Bool) : Int := if b = true then 0 else 4
def compareP (v w : List UInt8) : Int := if ((readV v).isSome && (readV w).isSome) = true then cmpV (readP v) (readP w) else 0
def meetsP (v r : List UInt8) : Bool := if ((readV v).isSome && (condsV r).isSome) = true then meetsV (readP v) (condsP r) else false
theorem joinTail_len {k j : Nat} {sep : List UInt8} (hs : sep.length ≤ j) : ∀ {l : List (List UInt8)}, (∀ p ∈ l, p.length ≤ k) → (joinTail sep l).length ≤ (k + j) * l.length
 | [], _ => by simp [joinTail]
 | p :: l, h => by
  have h1 := h p (by simp)
  have h2 := joinTail_len hs (l := l) (fun q hq => h q (by simp [hq]))
  have e : joinTail sep (p :: l) = sep ++ p ++ joinTail sep l := by simp [joinTail]
  rw [e]
  simp only [List.length_append, List.length_cons]
  rw [Nat.mul_add, Nat.mul_one]
  omega
theorem textR_small {l : List Cnd} {k : Nat} (hl : l.length ≤ k) (h : ∀ c ∈ l, COk c) : (textR l).length ≤ 65 * k := by
 have hc : ∀ p ∈ l.map textC, p.length ≤ 63 := by
  intro p hp
  obtain ⟨c, hc, rfl⟩ := List.mem_map.1 hp
  obtain ⟨h1, _, h3⟩ := h c hc
  have : c.1.length ≤ 2 := by
   simp only [opsV, List.mem_cons, List.not_mem_nil, or_false] at h1
   rcases h1 with h | h | h | h | h | h | h <;> rw [h] <;> simp
  simp [textC]; omega
 unfold textR
 cases l with
 | nil => simp [join_nil]
 | cons x r =>
  rw [List.map_cons, join_cons, List.length_append]
  rw [List.map_cons] at hc
  have h1 := hc _ (List.mem_cons_self ..)
  have h2 := joinTail_len (k := 63) (j := 2) (sep := [44, 32]) (by simp) (fun p hp => hc p (List.mem_cons_of_mem _ hp))
  simp only [List.length_map] at h2
  simp only [List.length_cons] at hl
  have h3 : (63 + 2) * r.length + 65 ≤ 65 * k := by omega
  omega
end Go.Ver
namespace Go.Proofs.YteekfnhhlcmcgaaGreatDoor
open Go.Eng Go.Wh Go.Ver
set_option maxRecDepth 20000
attribute [local irreducible] AG CallA CallT AWp PCall ACall AgC
theorem kX {a : List (List UInt8)} {l : List Seg} {p : List UInt8} {x : Seg} (h : segsV a = some l) (hx : segV p = some x) : segsV (a ++ [p]) = some (l ++ [x]) := by
 induction a generalizing l with
 | nil => simp [segsV] at h ⊢; subst h; simp [hx]
 | cons q r ih =>
  unfold segsV at h
  split at h
  ·rename_i y m hy hm
   simp at h; subst h
   simp only [List.cons_append, segsV, hy, ih hm]
  ·simp at h
theorem wK {ps : List (List UInt8)} {p : List UInt8} (hp : p ∈ ps) (h : segV p = none) : segsV ps = none := by
 induction ps with
 | nil => simp at hp
 | cons q r ih =>
  unfold segsV
  rcases List.mem_cons.1 hp with rfl | hp
  ·rw [h]
  ·rw [ih hp]; cases segV q <;> rfl
theorem dots_len (c : UInt8) : ∀ s : List UInt8, (dots c s).length ≤ s.length + 1
 | [] => by simp [dots]
 | b :: l => by
  have := dots_len c l
  unfold dots
  split
  ·simp; omega
  ·cases hd : dots c l with
   | nil => simp [consH]
   | cons h t => rw [hd] at this; simp [consH] at this ⊢; omega
theorem dots_part (c : UInt8) : ∀ (s : List UInt8), ∀ p ∈ dots c s, p.length ≤ s.length
 | [], p, hp => by simp [dots] at hp; subst hp; simp
 | b :: l, p, hp => by
  have ih := dots_part c l
  unfold dots at hp
  split at hp
  ·rcases List.mem_cons.1 hp with rfl | hp
   ·simp
   ·have := ih p hp; simp; omega
  ·cases hd : dots c l with
   | nil => exact absurd hd (dots_ne c l)
   | cons h t =>
    rw [hd] at hp ih
    simp only [consH, List.mem_cons] at hp
    rcases hp with rfl | hp
    ·have := ih h (by simp); simp; omega
    ·have := ih p (by simp [hp]); simp; omega
theorem jv (v : List UInt8) (hl : v.length ≤ 1000000000) : PCall Tryz.prog 166 [dS v] fun r => r = .tup [dGs (readP v), dB (readV v).isSome] := by 
 refine qw Tryz.func166 rfl rfl Tryz.ntmps166 (rs := [.tmp 2, .tmp 3]) (tys := [240, 4]) rfl rfl (by simp) ?_
 have S1 := zZ v [46] (by omega) (by simp)
 rw [split_dots] at S1
 have hdl := dots_len 46 v
 have hdp := dots_part 46 v
 have hdn := dots_ne 46 v
 unfold readP readV
 (refine qc fun Y Yh=>?_;simp[go_sem];apply Yh;clear Yh Y;apply Xi)
 refine qf fun K1 hK1 => ?_
 (refine qc fun Y Yh=>?_;simp[go_sem];apply Yh;clear Yh Y;apply Xi)
 (refine qg fun T F hT hF=>?_;simp[go_sem];refine BR.intro (fun h2=>hT ?_) (fun h2=>hF ?_);all_goals clear hT hF T F;try simp at h2) 
 ·(refine qc fun Y Yh=>?_;simp[go_sem];apply Yh;clear Yh Y;apply Xi)
  have : 60 < v.length := by omega
  (refine qi ?_;simp[go_sem, this])
 ·have h60 : ¬ 60 < v.length := by omega
  refine qh ?_
  refine hK1 _ ?_; clear hK1
  simp only [h60, if_false]
  generalize hps : dots 46 v = ps at *
  (refine qc fun Y Yh=>?_;simp[go_sem];apply Yh;clear Yh Y;apply Xi)
  refine qU 4 4 288 2 rfl fun g4 => ?_
  simp only [go_sem]
  refine qf fun K3 hK3 => ?_
  (refine qc fun Y Yh=>?_;simp[go_sem])
  ((try refine Xj ?_);refine qm (.inl ⟨rfl,rfl⟩) (by simp[go_sem]) ?_;intro args ha;simp[go_sem] at ha;subst ha;refine ⟨_, S1, ?_⟩;rintro _ rfl;simp[go_sem];apply Yh;clear Yh Y;apply Xi)
  refine qj ?_
  refine qx (σ := Nat × List Seg × Nat) (fun x => ⟨[(4, .own 4 x.2.2), (13, dSs ps), (14, dI ps.length), (15, dI x.1)], [(4, x.2.2, .row 288 2 (x.2.1.map cG))]⟩) (fun x => x.1 ≤ ps.length ∧ x.2.1.length = x.1 ∧ segsV (ps.take x.1) = some x.2.1) (fun x => ps.length - x.1) (0, [], g4) ?_ ?_ ?_
  ·(refine ql ?_ ?_ <;> simp[go_sem])
  ·exact ⟨by omega, rfl, rfl⟩
  rintro ⟨i, out, g⟩ ⟨hi, ho, hs⟩
  simp only at hi ho hs
  (refine qc fun Y Yh=>?_;simp[go_sem];apply Yh;clear Yh Y;apply Xi)
  refine qf fun K4 hK4 => ?_
  (refine qg fun T F hT hF=>?_;simp[go_sem];refine BR.intro (fun h5=>hT ?_) (fun h5=>hF ?_);all_goals clear hT hF T F;try simp at h5) 
  ·refine qh ?_
   refine hK4 _ ?_; clear hK4
   have hi' : i < ps.length := by omega
   obtain ⟨p, hp⟩ : ∃ p, ps[i]? = some p := ⟨_, List.getElem?_eq_getElem hi'⟩
   have hpm : p ∈ ps := List.mem_of_getElem? hp
   have R1 := xQ p (by have := hdp p hpm; omega)
   refine qf fun K6 hK6 => ?_
   refine qj ?_
   (refine qc fun Y Yh=>?_;simp[go_sem, hp];apply Yh;clear Yh Y;apply Xi)
   (refine qc fun Y Yh=>?_;simp[go_sem])
   have hsp := @JV p
   have hbad := wK hpm
   have hsn := fun (x : Seg) (h : segV p = some x) => kX hs h
   generalize segP p = q at *
   generalize hsv : segV p = sv at *
   ((try refine Xj ?_);refine qm (.inl ⟨rfl,rfl⟩) (by simp[go_sem]) ?_;intro args ha;simp[go_sem] at ha;subst ha;refine ⟨_, R1, ?_⟩;rintro _ rfl;simp[go_sem];intro _;apply Yh;clear Yh Y;apply Xi)
   refine qf fun K7 hK7 => ?_
   (refine qc fun Y Yh=>?_;simp[go_sem];apply Yh;clear Yh Y;apply Xi)
   cases sv with
   | none =>
    (refine qg fun T F hT hF=>?_;simp[go_sem];refine hT ?_;clear hT hF T F)
    (refine qc fun Y Yh=>?_;simp[go_sem];apply Yh;clear Yh Y;apply Xi)
    (refine qi ?_;simp[go_sem, hbad rfl])
   | some x =>
    obtain rfl := hsp rfl
    (refine qg fun T F hT hF=>?_;simp[go_sem];refine hF ?_;clear hT hF T F)
    refine qh ?_
    refine hK7 _ ?_; clear hK7
    (refine qB fun Y Yh=>?_;simp[go_sem];((repeat' (first|intro _|apply And.intro|(apply Yh;clear Yh Y)));all_goals first|apply Xi|omega))
    refine hK6 _ ?_; clear hK6
    (refine qB fun Y Yh=>?_;simp[go_sem];((repeat' (first|apply And.intro|(apply Yh;clear Yh Y)));all_goals first|apply Xi|omega))
    rename_i g28 g'
    have e : ps.take (i + 1) = ps.take i ++ [p] := by rw [List.take_add_one, hp]; rfl
    refine ⟨(i + 1, out ++ [q], g'), ?_, ⟨by simp only; omega, by simp [ho], ?_⟩, by simp only; omega⟩
    ·(refine ql ?_ ?_ <;> simp[go_sem])
    ·simp only [e]
     exact hsn q rfl
  ·refine qp ?_
   simp only [go_sem]
   refine hK3 _ ?_; clear hK3
   have hie : i = ps.length := by omega
   subst hie
   rw [List.take_length] at hs
   cases out with
   | nil => simp at ho; exact absurd ho.symm (by simpa using hdn)
   | cons x r =>
    ((refine qE (.qs [0, 1, 2, 3, 4, 5, 6, 7, 11, 8, 9, 10, 12] (.nil)) (by kernel_rfl) ?_ ?_ ?_ ?_);kernel_rfl;exact (by decide +kernel);kernel_rfl;intro Y Yh;((repeat' (first|refine qy ?_|(refine qo fun Y Yh=>?_;simp[go_sem])|(apply Yh;clear Yh Y)));all_goals apply Xi))
    (refine qi ?_;simp[go_sem, hs])
    by_cases hq : r.length ≤ 7 ∧ x.fst = []
    ·rw [if_pos hq]
     have : (r.length : Int) + 1 ≤ 8 := by omega
     simp [this, hq.2]
    ·rw [if_neg hq]
     simp
     intro q1 q2
     exact hq ⟨by omega, q2⟩
end Go.Proofs.YteekfnhhlcmcgaaGreatDoor
