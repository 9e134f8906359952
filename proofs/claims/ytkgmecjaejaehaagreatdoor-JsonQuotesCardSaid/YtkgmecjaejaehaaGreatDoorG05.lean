/- Part of a proof: see the last text. -/
import Derived.Test.YtkgmecjaejaehaaGreatDoorG04
import Derived.Lib.OwnBridge
import Derived.Sort.OwnSorted
import Derived.Sort.Grow
import Derived.Test.YtkgmecjaejaehaaGreatDoorG02
import Derived.Lib.SlicesCompact
import Derived.Lib.AppendStr
import Derived.Test.YtkgmecjaejaehaaGreatDoorG03
import Derived.Lib.LaidTab
import Derived.Shelf.Unicode.DecodeSlow
import Derived.Shelf.Strings.Builder1
import Derived.Shelf.Strings.Builder2
import Derived.Shelf.Strings.Trim
import Derived.Shelf.Small.Utf8
import Derived.Shelf.Small.Bits
import Derived.Shelf.Small.Strs
import Derived.Shelf.Strings.BuilderF
import Derived.Shelf.Strings.BuilderK
import Derived.Shelf.Strings.BuilderRune
import Derived.Shelf.Utf8.AppendRune
import Derived.Shelf.Utf8.AppendRunePlain
import Derived.Shelf.Utf8.RuneCount
import Derived.Shelf.Strings.Builder2Cap
import Derived.Shelf.Strconv.Itoa0
import Derived.Shelf.Strings.Search1
import Derived.Shelf.Strings.Search2
import Derived.Shelf.Strings.Search3
import Derived.Shelf.Strings.Count
import Derived.Shelf.LaysM
import Derived.Shelf.Strings.Shaped
import Derived.Shelf.Sort.Plain
import Derived.Shelf.Strings.Prefix
import Derived.Shelf.Strings.Split
import Derived.Shelf.Strings.Replace
import Derived.Shelf.Strings.SplitShaped
import Derived.Shelf.Unicode.Decode
import Derived.Shelf.Strings.Runes
import Derived.Shelf.Strings.RuneCount
import Derived.Shelf.Strings.AsciiSet
import Derived.Shelf.Strings.Explode
import Derived.Shelf.Bits.Mul64
import Derived.Shelf.Strings.Repeat
import Derived.Shelf.Unicode.DecodeAny
import Derived.Shelf.Unicode.DecodeLast
import Derived.Shelf.Strings.BuilderCap
import Derived.Shelf.Slices.Turned
import Derived.Shelf.Slices.Equal
import Derived.Ground.Names2Prog
import Derived.Shelf.Slices.Clone
import Derived.Shelf.Slices.CompactS
import Derived.Shelf.Slices.Delete
import Derived.Shelf.Slices.Cells
import Derived.Shelf.Slices.In.SortNone
import Derived.Shelf.Slices.Empties
import Derived.Shelf.Slices.Empties2
import Derived.Ground.SlgnProg
import Derived.Shelf.SlicesE.Clone
import Derived.Test.YtkgmecjaejaehaaGreatDoorProg
import Derived.Test.YtkgmecjaejaehaaGreatDoorTie
import Derived.Test.YtkgmecjaejaehaaGreatDoorCards
import Derived.Lay
import Derived.LaidMore
import Derived.SevenTiedAt
import Derived.LaidLaws
import Derived.Stop.LaidErr
import Derived.Shelf.Vars
import Derived.Handed
import Derived.Lib.LaidU8
import Derived.Lib.Bytealg
import Derived.Lib.IndexBytes
import Derived.Lib.SlTrimSet
import Derived.Shelf.Strings.SlTrimAscii
set_option linter.unusedVariables false
set_option linter.unusedSimpArgs false
set_option linter.unusedSectionVars false
namespace Go.Eng
variable {P : Program} [HasGlob P] [HasPan P]
def BldStep (w w' : World) (T e b : Nat) (v : Value) (l' : List UInt8) : Prop :=
 ∃ p' v', w'.heap[b]? = some (.cells #[p', v'] T (0, 0)) ∧ (p' = .pointer none ∨ p' = .pointer (some ⟨b, 0, none⟩)) ∧ w'.ownsRowF 0 e 1 v' l'.length (Lib.byteCells l') ∧
  (v'.ownBlock = v.ownBlock ∨ ∀ k, v'.ownBlock = some k → w.heap.size ≤ k) ∧ v'.ownBlock ≠ some b ∧
  w'.os = w.os ∧ w'.tape = w.tape ∧ w'.output = w.output ∧ w.heap.size ≤ w'.heap.size ∧ ∀ k, k < w.heap.size → k ≠ b → v.ownBlock ≠ some k → w'.heap[k]? = w.heap[k]?
theorem blk_ownF {w : World} {base : Nat} {e : TypeId} {size : Nat} {v : Value} {n : Nat} {xs : List Value} (h : w.ownsRowF base e size v n xs) : blk v = v.ownBlock ∧ ∀ k, v.ownBlock = some k → k < w.heap.size := by
 rcases h.2 with ⟨rfl, _⟩ | ⟨g, cap, cur, fz, rfl, _, hg, _⟩
 ·exact ⟨rfl, fun k hk => by cases hk⟩
 ·refine ⟨rfl, fun k hk => ?_⟩
  simp only [Value.ownBlock, Option.some.injEq] at hk
  subst hk
  rcases Nat.lt_or_ge g w.heap.size with h' | h'
  ·exact h'
  ·simp [Array.getElem?_eq_none h'] at hg
theorem acall_bld {f : FuncId} {T e nb gb nr gr : Nat} {l l' : List UInt8} {xs : List Value} {r : D} {x : Value} (hf : FnOk P f) (h1 : 900000 ≤ nb) (h2 : 900000 ≤ nr) (hd : nb ≠ nr)
  (hx : ∀ C w, Rep C w r x)
  (h : ∀ (b : Nat) (p v : Value) (w : World), HasGlob.ok P w → w.heap[b]? = some (.cells #[p, v] T (0, 0)) → (p = .pointer none ∨ p = .pointer (some ⟨b, 0, none⟩)) → w.ownsRowF 0 e 1 v l.length (Lib.byteCells l) → v.ownBlock ≠ some b →
   Calls P f (.pointer (some ⟨b, 0, none⟩) :: xs).toArray w fun en w' => en = .returned x ∧ BldStep w w' T e b v l') :
  ACall P f (.ptr nb gb 0 :: xs.map .v) [(nb, (gb, .bld T nr gr)), (nr, (gr, .brow e l))] [nb, nr] fun ps r' => ∃ gr', ps = [(gb, .bld T nr gr'), (gr', .brow e l')] ∧ r' = r := by
 refine ⟨hf, ?_, fun C w us hc hg hr he => ?_⟩
 ·intro p hp
  simp only [List.mem_cons, List.mem_nil_iff, or_false] at hp
  rcases hp with rfl | rfl
  ·exact ⟨h1, rfl, by simp⟩
  ·exact ⟨h2, rfl, by simp⟩
 ·have hnb := he nb gb (.bld T nr gr) (by simp [look])
  have hnr := he nr gr (.brow e l) (by simp [look, hd])
  obtain ⟨b, p, v, b1, b2, b3, b4, b5⟩ := hnb
  obtain ⟨u, r1, r2, r3⟩ := hnr
  rw [b5] at r1
  simp only [Option.some.injEq] at r1
  subst r1
  obtain ⟨k1, k2⟩ := blk_ownF r3
  have hne : v.ownBlock ≠ some b := fun q => hd (hc.apart nb gb _ nr gr v b b1 b2 b5 r2 rfl (k1.trans q)).1
  have hus : us = .pointer (some ⟨b, 0, none⟩) :: xs := by
   refine List.ext_getElem (by simpa using hr.1) fun j h1 h2 => ?_
   cases j with
   | zero =>
    have := hr.2 0 (.ptr nb gb 0) us[0] rfl (List.getElem?_eq_getElem h1)
    show us[0] = _
    generalize us[0] = u0 at this ⊢
    cases this with
    | ptr _ _ _ b' hv =>
     rw [b1] at hv
     simp only [Option.some.injEq, Value.pointer.injEq, Addr.mk.injEq, and_true] at hv
     simp [hv]
   | succ j =>
    have h2' : j < xs.length := by simpa using h2
    have := hr.2 (j + 1) (.v xs[j]) us[j + 1] (by simp [h2']) (List.getElem?_eq_getElem h1)
    simpa using this.v_inv
  subst hus
  refine (h b p v w hg.1 b3 b4 r3 hne).mono fun en w' ⟨he', hs⟩ => ?_
  obtain ⟨p', v', s1, s2, s3, s4, s5, s6, s7, s8, s9, s10⟩ := hs
  obtain ⟨N, hN⟩ := hc.fresh nr
  obtain ⟨m1, m2⟩ := blk_ownF s3
  have hbl : b < w.heap.size := hc.bound nb gb _ b b1 b2 rfl
  have hown : ∀ k, v'.ownBlock = some k → k < w.heap.size → v.ownBlock = some k := fun k hk hlt => by
   rcases s4 with q | q
   ·rw [← q]; exact hk
   ·have := q k hk; omega
  let C' : Ctx := ⟨fun s g => if s = nr ∧ g = N then some v' else C.val s g, fun s g => if s = nr ∧ g = N then true else if s = nr ∧ g = gr then false else C.live s g⟩
  have hval : ∀ s g y, C.val s g = some y → C'.val s g = some y := fun s g y hy => by
   show (if s = nr ∧ g = N then some v' else C.val s g) = some y
   rw [if_neg]
   ·exact hy
   ·rintro ⟨rfl, rfl⟩
    rw [hN _ (Nat.le_refl _)] at hy
    cases hy
  have hgN : gr ≠ N := fun q => by subst q; rw [hN _ (Nat.le_refl _)] at b5; cases b5
  have cases' : ∀ s g u, C'.val s g = some u → C'.live s g = true → (s = nr ∧ g = N ∧ u = v') ∨ (¬ (s = nr ∧ g = gr) ∧ C.val s g = some u ∧ C.live s g = true) := fun s g u q1 q2 => by
   change (if s = nr ∧ g = N then some v' else C.val s g) = some u at q1
   change (if s = nr ∧ g = N then true else if s = nr ∧ g = gr then false else C.live s g) = true at q2
   by_cases q : s = nr ∧ g = N
   ·rw [if_pos q] at q1
    exact .inl ⟨q.1, q.2, by simpa using q1.symm⟩
   ·rw [if_neg q] at q1 q2
    by_cases q' : s = nr ∧ g = gr
    ·rw [if_pos q'] at q2; cases q2
    ·rw [if_neg q'] at q2
     exact .inr ⟨q', q1, q2⟩
  have hvN : C'.val nr N = some v' := by show (if nr = nr ∧ N = N then some v' else C.val nr N) = some v'; simp
  have hlN : C'.live nr N = true := by show (if nr = nr ∧ N = N then true else _) = true; simp
  have hlo : ∀ s g, ¬ (s = nr ∧ g = N) → ¬ (s = nr ∧ g = gr) → C'.live s g = C.live s g := fun s g q1 q2 => by
   show (if s = nr ∧ g = N then true else if s = nr ∧ g = gr then false else C.live s g) = C.live s g
   rw [if_neg q1, if_neg q2]
  have hext : Ext C w C' w' := by
   refine ⟨hval, fun k hk ⟨s, g, u, q1, q2, q3⟩ => ?_, fun k hk hno => ?_, s9⟩
   ·rcases cases' s g u q1 q2 with ⟨_, _, e3⟩ | ⟨_, q4, q5⟩
    ·rw [e3, m1] at q3
     exact ⟨nr, gr, v, b5, r2, k1.trans (hown k q3 hk)⟩
    ·exact ⟨s, g, u, q4, q5, q3⟩
   ·exact s10 k hk (fun q => hno ⟨nb, gb, _, b1, b2, by subst q; rfl⟩) (fun q => hno ⟨nr, gr, v, b5, r2, k1.trans q⟩)
  have hblive : C'.live nb gb = true := by rw [hlo nb gb (fun q => hd q.1) (fun q => hd q.1)]; exact b2
  have newNot : ∀ s g u k, ¬ (s = nr ∧ g = gr) → C.val s g = some u → C.live s g = true → blk u = some k → v'.ownBlock ≠ some k := fun s g u k q1 q2 q3 q4 q5 => by
   have hk := hc.bound s g u k q2 q3 q4
   have := hown k q5 hk
   exact q1 (hc.apart s g u nr gr v k q2 q3 b5 r2 q4 (k1.trans this))
  refine ⟨x, r, [(gb, .bld T nr N), (N, .brow e l')], C', he', ⟨N, rfl, rfl⟩, hx _ _, ⟨?_, ?_, ?_⟩, hext, ⟨rfl, ?_⟩, ?_, ?_, ?_, ?_, ⟨s6, s7, s8, s9, ?_⟩⟩
  ·intro s g u s' g' u' k q1 q2 q3 q4 q5 q6
   rcases cases' s g u q1 q2 with ⟨rfl, rfl, rfl⟩ | ⟨p1, p2, p3⟩ <;> rcases cases' s' g' u' q3 q4 with ⟨rfl, rfl, rfl⟩ | ⟨t1, t2, t3⟩
   ·exact ⟨rfl, rfl⟩
   ·rw [m1] at q5; exact absurd q5 (newNot s' g' u' k t1 t2 t3 q6)
   ·rw [m1] at q6; exact absurd q6 (newNot s g u k p1 p2 p3 q5)
   ·exact hc.apart s g u s' g' u' k p2 p3 t2 t3 q5 q6
  ·intro s g u k q1 q2 q3
   rcases cases' s g u q1 q2 with ⟨rfl, rfl, rfl⟩ | ⟨p1, p2, p3⟩
   ·exact m2 k (m1 ▸ q3)
   ·exact Nat.lt_of_lt_of_le (hc.bound s g u k p2 p3 q3) s9
  ·intro s
   obtain ⟨M, hM⟩ := hc.fresh s
   refine ⟨max M (N + 1), fun g hg' => ?_⟩
   show (if s = nr ∧ g = N then some v' else C.val s g) = none
   rw [if_neg (by omega)]
   exact hM g (by omega)
  ·intro j s p0 hj hp
   match j, hj, hp with
   | 0, hj, hp =>
    simp only [List.getElem?_cons_zero, Option.some.injEq] at hj hp
    subst hj hp
    exact ⟨⟨b, p', v', hval _ _ _ b1, hblive, s1, s2, hvN⟩, rfl⟩
   | 1, hj, hp =>
    simp only [List.getElem?_cons_succ, List.getElem?_cons_zero, Option.some.injEq] at hj hp
    subst hj hp
    exact ⟨⟨v', hvN, hlN, s3⟩, rfl⟩
   | j + 2, hj, hp => simp at hj
  ·intro j s p0 u k hj hp hv hk
   match j, hj, hp with
   | 0, hj, hp =>
    simp only [List.getElem?_cons_zero, Option.some.injEq] at hj hp
    subst hj hp
    have : u = .pointer (some ⟨b, 0, none⟩) := by have := hval _ _ _ b1; rw [this] at hv; exact (Option.some.inj hv).symm
    subst this
    exact .inr ⟨⟨nb, gb, _, ⟨.bld T nr gr, by simp [look]⟩, b1, hk⟩, h1⟩
   | 1, hj, hp =>
    simp only [List.getElem?_cons_succ, List.getElem?_cons_zero, Option.some.injEq] at hj hp
    subst hj hp
    have : u = v' := by rw [hvN] at hv; exact (Option.some.inj hv).symm
    subst this
    rw [m1] at hk
    rcases s4 with q | q
    ·exact .inr ⟨⟨nr, gr, v, ⟨.brow e l, by simp [look, hd]⟩, b5, k1.trans (q ▸ hk)⟩, h2⟩
    ·exact .inl (q k hk)
   | j + 2, hj, hp => simp at hj
  ·intro j s p0 y hj hp hy
   match j, hj, hp with
   | 0, hj, hp =>
    simp only [List.getElem?_cons_zero, Option.some.injEq] at hj hp
    subst hj hp
    exact ⟨.bld T nr gr, by simp [look]⟩
   | 1, hj, hp =>
    simp only [List.getElem?_cons_succ, List.getElem?_cons_zero, Option.some.injEq] at hj hp
    subst hj hp
    rw [hN _ (Nat.le_refl _)] at hy
    cases hy
   | j + 2, hj, hp => simp at hj
  ·intro s g y hy hnl
   refine hlo s g (fun q => ?_) (fun q => ?_)
   ·rw [q.1, q.2, hN _ (Nat.le_refl _)] at hy; cases hy
   ·rw [q.1, q.2] at hnl
    exact hnl ⟨.brow e l, by simp [look, hd]⟩
  ·intro s g y hy hl
   by_cases q : s = nr ∧ g = N
   ·rw [q.1, q.2, hN _ (Nat.le_refl _)] at hy; cases hy
   ·by_cases q' : s = nr ∧ g = gr
    ·rw [q'.1, q'.2]; exact r2
    ·rw [← hlo s g q q']; exact hl
  ·intro k hk hno
   exact s10 k hk (fun q => hno ⟨nb, gb, _, ⟨.bld T nr gr, by simp [look]⟩, b1, by subst q; rfl⟩) (fun q => hno ⟨nr, gr, v, ⟨.brow e l, by simp [look, hd]⟩, b5, k1.trans q⟩)
end Go.Eng
set_option linter.unusedSectionVars false
namespace Go.Eng
open Go.RowKit
variable {P : Program} [HasGlob P] [HasPan P]
theorem pcall_below {f : FuncId} {args : List D} {R : D → Prop} (hf : FnOk P f)
  (h : ∀ (C : Ctx) (w : World) (us : List Value), CtxOk C w → HasGlob.ok P w → RepL C w args us → Calls P f us.toArray w fun e w' => ∃ u r, e = .returned u ∧ R r ∧ Rep C w' r u ∧ Below w.heap.size w w') : PCall P f args R := by
 refine ⟨hf, fun C w vs hc hg hr => ?_⟩
 exact (h C w vs hc hg.1 hr).mono fun e w' ⟨u, r, he, h1, h2, hb⟩ => ⟨u, r, C, he, h1, h2, ⟨hc.apart, fun s g u b h1 h2 h3 => Nat.lt_of_lt_of_le (hc.bound s g u b h1 h2 h3) hb.size, hc.fresh⟩,
  ⟨fun _ _ _ h => h, fun _ _ h => h, fun b hlt _ => hb.block b hlt, hb.size⟩, fun _ _ _ _ => rfl, ⟨hb.os, hb.tape, hb.output, hb.size, fun b hlt _ => hb.block b hlt⟩⟩
theorem repL_v {C : Ctx} {w : World} {us vs : List Value} (h : RepL C w (us.map .v) vs) : vs = us := by
 refine List.ext_getElem (by simpa using h.1) fun j h1 h2 => ?_
 have := h.2 j (.v us[j]) vs[j] (by simp [h2]) (List.getElem?_eq_getElem h1)
 exact this.v_inv
theorem rep_tup2 {C : Ctx} {w : World} {a b : D} {x y : Value} (h1 : Rep C w a x) (h2 : Rep C w b y) : Rep C w (.tup [a, b]) (.tuple #[x, y]) := by
 refine .tup _ _ rfl fun j c u hc hu => ?_
 match j, hc, hu with
 | 0, hc, hu => simp at hc hu; subst hc hu; exact h1
 | 1, hc, hu => simp at hc hu; subst hc hu; exact h2
 | j + 2, hc, hu => simp at hc
end Go.Eng
set_option linter.unusedSectionVars false
namespace Go.Eng
open Go.RowKit
variable {P : Program} [HasGlob P] [HasPan P] {n : Nat} {S : St} {Q : Exit → St → Prop}
theorem Inv.nameBytes {w0 : World} {B : Nat → Nat → Prop} {C0 : Ctx} {C : Ctx} {a : Act} {w : World} (I : Inv w0 B C0 n S C a w) (s e : Nat) :
  ∃ g C', Inv w0 B C0 n (S.hput s g (.brow e [])) C' a w ∧ C'.val s g = some (.slice none 0 0) ∧ Ext C w C' w := by
 obtain ⟨g, C', I', hv, hx⟩ := I.nameNil s e 1
 refine ⟨g, C', ?_, hv, hx⟩
 refine ⟨I'.size, I'.defers, I'.slots, fun s' g' b' hb' => ?_, fun s' g' b' x u' hx hl' hv' hb' => ?_, I'.apart, I'.bound, I'.fresh, I'.frame, I'.old, I'.owned, I'.kept, fun s' g' y z hy hz => ?_, I'.dead0, I'.bound0⟩
 ·rw [look_hput] at hb'
  split at hb'
  ·rename_i es
   subst es
   simp only [Option.some.injEq, Prod.mk.injEq] at hb'
   obtain ⟨rfl, rfl⟩ := hb'
   have := I'.heap s g (.row e 1 []) (by rw [look_hput, if_pos rfl])
   obtain ⟨u, xs, h1, h2, _⟩ := this
   refine ⟨.slice none 0 0, hv, h2, ⟨by simp [Lib.byteCells], .inl ⟨rfl, rfl⟩⟩⟩
  ·rename_i hne
   exact I'.heap s' g' b' (by rw [look_hput, if_neg hne]; exact hb')
 ·rw [look_hput] at hx
  split at hx
  ·rename_i es
   subst es
   simp only [Option.some.injEq, Prod.mk.injEq] at hx
   obtain ⟨rfl, rfl⟩ := hx
   exact I'.mine s g b' (.row e 1 []) u' (by rw [look_hput, if_pos rfl]) hl' hv' hb'
  ·rename_i hne
   exact I'.mine s' g' b' x u' (by rw [look_hput, if_neg hne]; exact hx) hl' hv' hb'
 ·rw [look_hput] at hy
  split at hy
  ·rename_i es
   subst es
   simp only [Option.some.injEq, Prod.mk.injEq] at hy
   obtain ⟨rfl, rfl⟩ := hy
   exact I'.ents s g (.row e 1 []) z (by rw [look_hput, if_pos rfl]) hz
  ·rename_i hne
   exact I'.ents s' g' y z (by rw [look_hput, if_neg hne]; exact hy) hz
theorem awp_bld (T e nb nr : Nat) (hd : nb ≠ nr) {id t' ty : Nat} {pos : String} {after : Array Edge} {y : Code} (ht : t' < n) (hz : zeroOf P T = some [.pointer none, .slice none 0 0])
  (h : ∀ gb gr, AWp P n y ⟨(t', .ptr nb gb 0) :: S.slots, (nb, (gb, .bld T nr gr)) :: (nr, (gr, .brow e [])) :: S.heap⟩ Q) :
  AWp P n (.seq (.region id #[⟨some t', .alloc T, ty, pos, after, none⟩] false) y) S Q := by
 refine awp_seq ?_
 intro w0 B C0 C a w E I
 refine wp_region_lit (l := [⟨some t', .alloc T, ty, pos, after, none⟩]) ?_
 refine wpList_step fun K' hK' => ?_
 have hw : Region.wanted (⟨some t', .alloc T, ty, pos, after, none⟩ : Oper) (yielded [⟨some t', .alloc T, ty, pos, after, none⟩].toArray a.tmps) = true := by simp [Region.wanted]
 rw [if_pos hw]
 obtain ⟨i, z, hi, hz1, hzs, _⟩ := zeroOf_spec hz
 have hzc : z.cells = #[.pointer none, .slice none 0 0] := by
  apply Array.ext'
  rw [hzs]
 obtain ⟨gr, C1, I1, hv1, e1⟩ := I.nameBytes nr e
 obtain ⟨gb, C2, I2, hv2, e2⟩ := I1.new nb (.bld T nr gr) (.pointer (some ⟨w.heap.size, 0, none⟩)) rfl (Pushed.alloc w (.cells z.cells T)) (fun C' g e hv hl =>
  ⟨w.heap.size, .pointer none, .slice none 0 0, hv, hl, by rw [heap_alloc_new, hzc], .inl rfl, e.val _ _ _ hv1⟩)
 refine wp_val (u := .pointer (some ⟨w.heap.size, 0, none⟩)) (w' := w.alloc (.cells z.cells T)) ?_ ?_
 ·simp [execOp, Instr.alloc, zeroValue, typeInfo, hi, hz1, newVar, newRow]
 ·refine hK' _ _ ?_
  refine wpList_nil ?_
  exact .inl ⟨_, C2, h gb gr, I2.put ht (.ptr nb gb 0 _ hv2)⟩
theorem awp_nilsl {c : Code} (t k : Nat) (hl : look S.slots t = some (.v (.slice none 0 0))) (h : AWp P n c (S.put t (.sl k [])) Q) : AWp P n c S Q := by
 intro w0 B C0 C a w E I
 exact h E (Inv.reslot I (d := .v (.slice none 0 0)) hl fun u hu => Weak.nil k _ _ _ hu)
/-! a region whose operations are told one by one -/
def AGs (P : Program) [HasGlob P] [HasPan P] (n : Nat) (ops : List Oper) : List Oper → St → (St → Prop) → Prop
 | [], S, K => K S
 | o :: rest, S, K => AG P n ops o S fun S' => AGs P n ops rest S' K
theorem ags_ok {w0 : World} {B : Nat → Nat → Prop} {C0 : Ctx} {ops : List Oper} : ∀ {l : List Oper} {S : St} {C : Ctx} {a : Act} {w : World} {K : St → Prop}, Env P w0 B C0 → Inv w0 B C0 n S C a w → AGs P n ops l S K → ∀ (Q : Exit → Act → World → Prop), (∀ a w, NextOk w0 B C0 n K a w → Q .normal a w) → PanQ P w0 B C0 n Q → wpList P ops.toArray Q l a w := by
 intro l
 induction l with
 | nil => intro S C a w K E I h Q hQ _; exact hQ _ _ ⟨S, C, h, I⟩
 | cons o rest ih =>
  intro S C a w K E I h Q hQ hX
  unfold AGs at h
  refine wpList_step fun K' hK' => ?_
  exact h E I K' Q (fun a w ⟨S', C', h', I'⟩ => hK' _ _ (ih E I' h' Q hQ hX)) hX
theorem awp_ags {id : Nat} {ops : List Oper} (h : AGs P n ops ops S (Q .normal)) : AWp P n (.region id ops.toArray false) S Q := fun _ _ _ _ _ _ E I =>
 wp_region_lit (ags_ok E I h _ (fun _ _ ⟨S, C, q, i⟩ => .inl ⟨S, C, q, i⟩) fun ch C _ _ hp i => .inr ⟨ch, C, rfl, hp, i⟩)
end Go.Eng
namespace Go.Eng
set_option linter.unusedSectionVars false
variable {P : Program} [HasGlob P] [HasPan P] {n : Nat} {S : St} {Q : Exit → St → Prop}
end Go.Eng
set_option linter.unusedSectionVars false
namespace Go.Eng
variable {P : Program} [HasGlob P] [HasPan P] {n : Nat} {S : St} {Q : Exit → St → Prop}
theorem callA_frz {df : D} {ds : List D} {tys : List TypeId} {k : St → D → Prop} (s : Nat) {g e kk : Nat} {es : List (List D)} (hx : look S.heap s = some (g, .row e kk es)) (h : CallA P df ds tys (S.hput s g (.froz kk es)) k) : CallA P df ds tys S k := by
 unfold CallA at h ⊢
 intro w0 B C0 n C a w us uf E I hr hu
 have hF := I.freeze hx
 exact h us uf E hF.1 ⟨hr.1, fun j d u hd hu => (hr.2 j d u hd hu).mono hF.2⟩ (hu.mono hF.2)
end Go.Eng
set_option linter.unusedSectionVars false
namespace Go.Eng
open Go.RowKit Go.WideShapes Go.ChangeShapes
variable {P : Program} [HasGlob P] [HasPan P]
/-! arguments read with what they weigh: each string and slice is no larger than the machine's addresses -/
theorem mem_weightsEach_app {H : Type} {P : Program} : ∀ {ts us : List TypeId} {ds gs : List (DataW H)} {m : Nat}, ts.length = ds.length → m ∈ DataW.weightsEach P ts ds → m ∈ DataW.weightsEach P (ts ++ us) (ds ++ gs)
 | [], us, [], gs, m, _, h => by simp [DataW.weightsEach] at h
 | t :: ts, us, d :: ds, gs, m, hl, h => by
  simp only [List.cons_append, DataW.weightsEach, List.mem_append] at h ⊢
  rcases h with h | h
  ·exact .inl h
  ·exact .inr (mem_weightsEach_app (by simpa using hl) h)
def OpensZD {α : Type} (P : Program) (t : TypeId) (f : α → List D) (Q : α → Prop) : Prop :=
 ∀ {H : Type} (enc : TypeId × Value → H) (w : World) (spare : Nat → Bool) (held : Bool) (fuel : Nat) (cs : List Value) (x : DataW H × List MemPlace),
  DataW.trod enc P w 0 spare held fuel t cs = some x → (∀ m ∈ x.1.weights P t, m ≤ reachBytes) → ∃ a, RepC w (f a) cs ∧ Q a
theorem opensZD_str {t : TypeId} (ht : P.underlying t = some .string) : OpensZD P t (fun s : ByteArray => [.v (.string s)]) (fun s => s.size ≤ reachBytes) := fun enc w spare held fuel cs x h hw0 => by
 obtain ⟨n, rfl, rfl, hw⟩ := DataW.trod_string ht h
 exact ⟨n, RepC.one (.v _), by show n.data.size ≤ reachBytes; rw [← Array.length_toList]; exact hw0 _ (by simp only [DataW.weights]; exact List.mem_singleton.2 rfl)⟩
theorem OpensZD.iso {α β : Type} {t : TypeId} {f : α → List D} {Q : α → Prop} {f' : β → List D} {Q' : β → Prop} (h : OpensZD P t f Q) (g : α → β) (hf : ∀ a, f' (g a) = f a) (hq : ∀ a, Q a → Q' (g a)) : OpensZD P t f' Q' :=
 fun enc w spare held fuel cs x hx hw0 => by
  obtain ⟨a, h1, h2⟩ := h enc w spare held fuel cs x hx hw0
  exact ⟨g a, by rw [hf]; exact h1, hq _ h2⟩
/-! structs: field by field -/
def OpensZSD {α : Type} (P : Program) (fs : List Field) (o e : Nat) (f : α → List D) (Q : α → Prop) : Prop :=
 ∀ {H : Type} (enc : TypeId × Value → H) (w : World) (spare : Nat → Bool) (held : Bool) (fuel : Nat) (cs : List Value) (xs : List (DataW H × List MemPlace)), cs.length = e →
  xs.length = fs.length → (∀ (i : Nat) (g : Field), fs[i]? = some g → DataW.trod enc P w 0 spare held fuel g.type ((cs.drop g.offset).take (P.cellsOf g.type)) = xs[i]?) → (∀ m ∈ DataW.weightsEach P (fs.map (·.type)) (xs.map (·.1)), m ≤ reachBytes) → ∃ a, RepC w (f a) (cs.drop o) ∧ Q a
/-! a parameter: one value -/
def OpensZVD {α : Type} (P : Program) (t : TypeId) (f : α → D) (Q : α → Prop) : Prop :=
 ∀ {H : Type} (enc : TypeId × Value → H) (w : World) (spare : Nat → Bool) (held : Bool) (base : Nat) (v : Value) (d : DataW H) (ps : List MemPlace), Value.okWide P w .any base t v →
  DataW.Trod enc P w 0 spare held t v d ps → (∀ m ∈ d.weights P t, m ≤ reachBytes) → ∃ a, Rep noCtx w (f a) v ∧ Q a
theorem opensZVD_cell {α : Type} {t : TypeId} {f : α → D} {Q : α → Prop} (hk : cellKind (P.underlying t) = true) (h : OpensZD P t (fun a => [f a]) Q) : OpensZVD P t f Q := fun enc w spare held base v d ps hok ⟨fuel, hd⟩ hw0 => by
 have hc : v.cells.toList = [v] := by
  unfold Value.okWide at hok
  split at hok
  ·rename_i h1; rw [h1] at hk; cases hk
  ·rename_i h1; rw [h1] at hk; cases hk
  ·unfold Cell.okWide at hok
   split at hok
   all_goals first | (exfalso; rw [‹P.underlying t = _›] at hk; cases hk; done) | skip
   ·unfold Cell.ok at hok
    split at hok
    all_goals first | rfl | exact hok.elim | skip
 rw [hc] at hd
 obtain ⟨a, h1, h2⟩ := h enc w spare held fuel _ _ hd hw0
 exact ⟨a, h1.2 0 _ _ rfl rfl, h2⟩
/-! the parameters of a law -/
def OpensZLD {α : Type} (P : Program) (ts : List TypeId) (f : α → List D) (Q : α → Prop) : Prop :=
 ∀ {H : Type} (enc : TypeId × Value → H) (w : World) (spare : Nat → Bool) (held : Bool) (base : Nat) (vs : List Value) (ds : List (DataW H)) (ps : List MemPlace), (∀ (j : Nat) t v, ts[j]? = some t → vs[j]? = some v → Value.okWide P w .any base t v) →
  DataW.TrodAll enc P w 0 spare held ts vs ds ps → (∀ m ∈ DataW.weightsEach P ts ds, m ≤ reachBytes) → ∃ a, RepL noCtx w (f a) vs ∧ Q a
theorem opensZLD_nil : OpensZLD P [] (fun _ : Unit => []) (fun _ => True) := fun enc w spare held base vs ds ps _ h _ => by
 obtain ⟨rfl, rfl, _⟩ := trodAll_nil h
 exact ⟨(), ⟨rfl, fun j d u hd _ => by simp at hd⟩, trivial⟩
theorem opensZLD_cons {α β : Type} {t : TypeId} {ts : List TypeId} {f : α → D} {Q : α → Prop} {f' : β → List D} {Q' : β → Prop} (h : OpensZVD P t f Q) (h' : OpensZLD P ts f' Q') :
  OpensZLD P (t :: ts) (fun x : α × β => f x.1 :: f' x.2) (fun x => Q x.1 ∧ Q' x.2) := fun enc w spare held base vs ds ps hok hd hw0 => by
 obtain ⟨v, vs', d, ds', p, q, rfl, rfl, rfl, h1, h2⟩ := trodAll_cons hd
 obtain ⟨a, h3, h4⟩ := h enc w spare held base v d p (hok 0 t v rfl rfl) h1 (fun m hm => hw0 m (by simp only [DataW.weightsEach]; exact List.mem_append_left _ hm))
 obtain ⟨b, h5, h6⟩ := h' enc w spare held base vs' ds' q (fun j t' v' ht hv => hok (j + 1) t' v' (by simpa using ht) (by simpa using hv)) h2 (fun m hm => hw0 m (by simp only [DataW.weightsEach]; exact List.mem_append_right _ hm))
 refine ⟨(a, b), ⟨by simp [h5.1], fun j d' u hd' hu => ?_⟩, h4, h6⟩
 cases j with
 | zero => simp at hd' hu; subst hd'; subst hu; exact h3
 | succ j => exact h5.2 j d' u (by simpa using hd') (by simpa using hu)
/-! the same, folded -/
structure OpensZ {α : Type} (P : Program) (t : TypeId) (f : α → List D) (Q : α → Prop) : Prop where
 run : OpensZD P t f Q
structure OpensZS {α : Type} (P : Program) (fs : List Field) (o e : Nat) (f : α → List D) (Q : α → Prop) : Prop where
 run : OpensZSD P fs o e f Q
structure OpensZV {α : Type} (P : Program) (t : TypeId) (f : α → D) (Q : α → Prop) : Prop where
 run : OpensZVD P t f Q
structure OpensZL {α : Type} (P : Program) (ts : List TypeId) (f : α → List D) (Q : α → Prop) : Prop where
 run : OpensZLD P ts f Q
theorem opensZ_str {t : TypeId} (ht : P.underlying t = some .string) : OpensZ P t (fun s : ByteArray => [.v (.string s)]) (fun s => s.size ≤ reachBytes) := ⟨opensZD_str ht⟩
theorem OpensZ.iso {α β : Type} {t : TypeId} {f : α → List D} {Q : α → Prop} {f' : β → List D} {Q' : β → Prop} (h : OpensZ P t f Q) (g : α → β) (hf : ∀ a, f' (g a) = f a) (hq : ∀ a, Q a → Q' (g a)) : OpensZ P t f' Q' :=
 ⟨OpensZD.iso (@OpensZ.run _ _ _ _ _ h) g hf hq⟩
theorem opensZV_cell {α : Type} {t : TypeId} {f : α → D} {Q : α → Prop} (hk : cellKind (P.underlying t) = true) (h : OpensZ P t (fun a => [f a]) Q) : OpensZV P t f Q := ⟨opensZVD_cell hk (@OpensZ.run _ _ _ _ _ h)⟩
theorem opensZL_nil : OpensZL P [] (fun _ : Unit => []) (fun _ => True) := ⟨opensZLD_nil⟩
theorem opensZL_cons {α β : Type} {t : TypeId} {ts : List TypeId} {f : α → D} {Q : α → Prop} {f' : β → List D} {Q' : β → Prop} (h : OpensZV P t f Q) (h' : OpensZL P ts f' Q') :
  OpensZL P (t :: ts) (fun x : α × β => f x.1 :: f' x.2) (fun x => Q x.1 ∧ Q' x.2) := ⟨opensZLD_cons (@OpensZV.run _ _ _ _ _ h) (@OpensZL.run _ _ _ _ _ h')⟩
theorem law_contractZ {α : Type} {f : FuncId} {fn : Func} {s : ChangeSpec} {again : Bool} {ts : List TypeId} {tb : TypeId} {g : α → List D} {Q : α → Prop} (hl : laidOutB P = true) (hts : fn.params.toList = ts) (htb : fn.resultTypes = #[tb]) (hub : P.underlying tb = some .bool)
  (hr : (ts.all fun t => P.readableRec t && decide (t < P.types.size)) = true) (hvars : s.vars = []) (hs : ∀ (H : Type) (ds : List (DataW H)), ds.length = ts.length → s.fn H ds = { results := [.lit (.bool true)], args := ds })
  (ho : OpensZL P ts g Q) (hc : ∀ a, Q a → PCall P f (g a) fun r => r = .v (.bool true))
  {H : Type} (enc : TypeId × Value → H) (W : World) (base : Nat) (args : Array Value) (ds gs : List (DataW H)) (before : List MemPlace) (hg : GlobOk P noCtx W)
  (hval : ∀ (j : Nat) t v, fn.params[j]? = some t → args[j]? = some v → Value.okWide P W .any base t v)
  (hW : DataW.Whole enc P fn.params.toList s.vars false W args.toList ds gs before) (hz : sizedMet enc P fn (OpenSpec.ofChange s) false W args) :
  Calls P f args W fun e W' => ∃ v, e = .returned v ∧ s.post enc P fn false true false again W args v W' := by
 have hW' := hW
 obtain ⟨p, q, hA, hV, hpq, _⟩ := hW
 rw [hvars] at hV
 obtain ⟨rfl, rfl⟩ := trodVars_none hV
 rw [List.append_nil] at hpq
 subst hpq
 rw [hts] at hA
 obtain ⟨_, ds', gs', before', hWz, hwz⟩ := hz
 obtain ⟨pz, qz, hAz, _⟩ := hWz
 rw [hts] at hAz
 obtain ⟨a, h1, h2⟩ := ho.run enc W _ _ base _ _ _ (fun j t v ht hv => hval j t v (by rw [← hts] at ht; simpa using ht) (by simpa using hv)) hAz (fun m hm => by
  have hall := List.all_eq_true.1 hwz m (by
   rw [hts]
   exact mem_weightsEach_app (trodAll_len hAz).symm hm)
  simpa using hall)
 have hcall := (hc a h2).2 noCtx W args.toList (noCtx_ok W) hg h1
 rw [Array.toArray_toList] at hcall
 refine hcall.mono fun e W' hh => ?_
 obtain ⟨u, r, C', he, hr', hru, _, hext, _, hf⟩ := hh
 subst hr'
 have hu := hru.v_inv
 subst hu
 refine ⟨_, he, ?_⟩
 have hb : Below W.heap.size W W' := ⟨hf.os, hf.tape, hf.output, hf.size, fun k hk => hf.block k hk (fun h => by obtain ⟨_, _, _, h, _⟩ := h)⟩
 have hlen : ds.length = ts.length := trodAll_len hA
 have hfn : s.fn H (ds ++ []) = { results := [.lit (.bool true)], args := ds } := by rw [List.append_nil]; exact hs H ds hlen
 have hlt : ∀ x ∈ before, x.block < W.heap.size := fun x hx => hW'.lt x hx
 refine post_below (pa := before) (pv := []) hW' (fun b sp hd => ?_) (fun sp hsp => ?_) (fun sp _ => ?_) (by simp) hb ?_
 ·rw [hfn, htb]
  exact trodAll_cons_mk (p := []) (p' := []) (shut_bool hub true) trodAll_mk0
 ·rw [hfn, hts]
  exact trodAll_spare hl hb hr hA hlt hsp
 ·rw [hfn, hvars]; rfl
 ·exact ok_one htb rfl (okWide_bool_mk hub true)
end Go.Eng
set_option linter.unusedSectionVars false
namespace Go.Eng
variable {P : Program} [HasGlob P] [HasPan P]
structure RowFrm (w w' : World) (v : Value) : Prop where
 os : w'.os = w.os
 tape : w'.tape = w.tape
 output : w'.output = w.output
 size : w.heap.size ≤ w'.heap.size
 rest : ∀ k, k < w.heap.size → v.ownBlock ≠ some k → w'.heap[k]? = w.heap[k]?
theorem blk_own' {w : World} {base : Nat} {e : TypeId} {size : Nat} {v : Value} {n : Nat} {xs : List Value} (h : w.ownsRow base e size v n xs) : blk v = v.ownBlock ∧ ∀ k, v.ownBlock = some k → k < w.heap.size :=
 blk_ownF (World.ownsRowF_of h)
theorem row_data {C : Ctx} {w : World} {s g T : Nat} {xs : List Value} (h : HRep C w s g (.row T 1 (xs.map fun x => [.v x]))) :
  ∃ u, C.val s g = some u ∧ C.live s g = true ∧ w.ownsRow 0 T 1 u xs.length xs := by
 obtain ⟨u, zs, h1, h2, h3, _, h5⟩ := h
 refine ⟨u, h1, h2, ?_⟩
 have hz : zs = xs := by
  have hl : zs.length = xs.length := by simpa using h3.1
  refine List.ext_getElem hl fun i i1 i2 => ?_
  have := (h5 i 0 [.v xs[i]] (.v xs[i]) zs[i] (by simp [i2]) rfl (by simp [i1])).1
  exact this.v_inv
 rw [← hz]
 have : (xs.map fun x => [D.v x]).length = zs.length := by simp [hz]
 rw [this] at h3
 exact h3
theorem data_row {C : Ctx} {w : World} {s g T : Nat} {xs : List Value} {u : Value} (h1 : C.val s g = some u) (h2 : C.live s g = true) (h3 : w.ownsRow 0 T 1 u xs.length xs) (ho : ∀ x ∈ xs, x.oneCell' = true) :
  HRep C w s g (.row T 1 (xs.map fun x => [.v x])) := by
 refine ⟨u, xs, h1, h2, by simpa using h3, by simp, fun i j e c x hi hj hx => ?_⟩
 simp only [List.getElem?_map, Option.map_eq_some_iff] at hi
 obtain ⟨y, hy, rfl⟩ := hi
 match j, hj with
 | 0, hj =>
  simp at hj
  subst hj
  simp only [Nat.mul_one, Nat.add_zero] at hx
  rw [hy] at hx
  simp only [Option.some.injEq] at hx
  subst hx
  exact ⟨.v y, ho y (List.mem_of_getElem? hy)⟩
 | j + 1, hj => simp at hj
theorem acall_cut {f : FuncId} {T nr gr : Nat} {xs ys : List Value} (hf : FnOk P f) (h2 : 900000 ≤ nr) (ho : ∀ y ∈ ys, y.oneCell' = true)
  (h : ∀ (v : Value) (w : World), HasGlob.ok P w → w.ownsRow 0 T 1 v xs.length xs →
   Calls P f #[v] w fun en w' => ∃ v', en = .returned v' ∧ v'.oneCell' = true ∧ v'.ownBlock = v.ownBlock ∧ w'.ownsRow 0 T 1 v' ys.length ys ∧ RowFrm w w' v) :
  ACall P f [.own nr gr] [(nr, (gr, .row T 1 (xs.map fun x => [.v x])))] [nr] fun ps r' => ∃ gr', ps = [(gr', .row T 1 (ys.map fun x => [.v x]))] ∧ r' = .own nr gr' := by
 refine ⟨hf, ?_, fun C w us hc hg hr he => ?_⟩
 ·intro p hp
  simp only [List.mem_cons, List.mem_nil_iff, or_false] at hp
  subst hp
  exact ⟨h2, rfl, by simp⟩
 ·obtain ⟨u, u1, u2, u3⟩ := row_data (he nr gr (.row T 1 (xs.map fun x => [.v x])) (by simp [look]))
  obtain ⟨k1, k2⟩ := blk_own' u3
  have hus : us = [u] := by
   refine List.ext_getElem (by simpa using hr.1) fun j h1 h2 => ?_
   have hj : j = 0 := by simp at h2; omega
   subst hj
   have := hr.2 0 (.own nr gr) us[0] rfl (List.getElem?_eq_getElem h1)
   cases this with
   | own _ _ _ hv _ =>
    rw [u1] at hv
    simp only [Option.some.injEq] at hv
    simp [hv]
  subst hus
  refine (h u w hg.1 u3).mono fun en w' ⟨v', he', ho', hb', s1, s2⟩ => ?_
  obtain ⟨N, hN⟩ := hc.fresh nr
  obtain ⟨m1, m2⟩ := blk_own' s1
  have hblk : blk v' = blk u := by rw [m1, k1, hb']
  let C' : Ctx := ⟨fun s g => if s = nr ∧ g = N then some v' else C.val s g, fun s g => if s = nr ∧ g = N then true else if s = nr ∧ g = gr then false else C.live s g⟩
  have hgN : gr ≠ N := fun q => by subst q; rw [hN _ (Nat.le_refl _)] at u1; cases u1
  have hval : ∀ s g y, C.val s g = some y → C'.val s g = some y := fun s g y hy => by
   show (if s = nr ∧ g = N then some v' else C.val s g) = some y
   rw [if_neg]
   ·exact hy
   ·rintro ⟨rfl, rfl⟩
    rw [hN _ (Nat.le_refl _)] at hy
    cases hy
  have cases' : ∀ s g x, C'.val s g = some x → C'.live s g = true → (s = nr ∧ g = N ∧ x = v') ∨ (¬ (s = nr ∧ g = gr) ∧ C.val s g = some x ∧ C.live s g = true) := fun s g x q1 q2 => by
   change (if s = nr ∧ g = N then some v' else C.val s g) = some x at q1
   change (if s = nr ∧ g = N then true else if s = nr ∧ g = gr then false else C.live s g) = true at q2
   by_cases q : s = nr ∧ g = N
   ·rw [if_pos q] at q1
    exact .inl ⟨q.1, q.2, by simpa using q1.symm⟩
   ·rw [if_neg q] at q1 q2
    by_cases q' : s = nr ∧ g = gr
    ·rw [if_pos q'] at q2; cases q2
    ·rw [if_neg q'] at q2
     exact .inr ⟨q', q1, q2⟩
  have hvN : C'.val nr N = some v' := by show (if nr = nr ∧ N = N then some v' else C.val nr N) = some v'; simp
  have hlN : C'.live nr N = true := by show (if nr = nr ∧ N = N then true else _) = true; simp
  have hlo : ∀ s g, ¬ (s = nr ∧ g = N) → ¬ (s = nr ∧ g = gr) → C'.live s g = C.live s g := fun s g q1 q2 => by
   show (if s = nr ∧ g = N then true else if s = nr ∧ g = gr then false else C.live s g) = C.live s g
   rw [if_neg q1, if_neg q2]
  have hext : Ext C w C' w' := by
   refine ⟨hval, fun k hk ⟨s, g, x, q1, q2, q3⟩ => ?_, fun k hk hno => ?_, s2.size⟩
   ·rcases cases' s g x q1 q2 with ⟨_, _, e3⟩ | ⟨_, q4, q5⟩
    ·rw [e3, hblk] at q3
     exact ⟨nr, gr, u, u1, u2, q3⟩
    ·exact ⟨s, g, x, q4, q5, q3⟩
   ·exact s2.rest k hk fun q => hno ⟨nr, gr, u, u1, u2, k1.trans q⟩
  refine ⟨v', .own nr N, [(N, .row T 1 (ys.map fun x => [.v x]))], C', he', ⟨N, rfl, rfl⟩, .own nr N v' hvN ho', ⟨?_, ?_, ?_⟩, hext, ⟨rfl, ?_⟩, ?_, ?_, ?_, ?_, ⟨s2.os, s2.tape, s2.output, s2.size, ?_⟩⟩
  ·intro s g x s' g' x' k q1 q2 q3 q4 q5 q6
   rcases cases' s g x q1 q2 with ⟨rfl, rfl, rfl⟩ | ⟨p1, p2, p3⟩ <;> rcases cases' s' g' x' q3 q4 with ⟨rfl, rfl, rfl⟩ | ⟨t1, t2, t3⟩
   ·exact ⟨rfl, rfl⟩
   ·rw [hblk] at q5
    exact absurd (hc.apart s' g' x' s gr u k t2 t3 u1 u2 q6 q5) t1
   ·rw [hblk] at q6
    exact absurd (hc.apart s g x s' gr u k p2 p3 u1 u2 q5 q6) p1
   ·exact hc.apart s g x s' g' x' k p2 p3 t2 t3 q5 q6
  ·intro s g x k q1 q2 q3
   rcases cases' s g x q1 q2 with ⟨rfl, rfl, rfl⟩ | ⟨p1, p2, p3⟩
   ·exact m2 k (m1 ▸ q3)
   ·exact Nat.lt_of_lt_of_le (hc.bound s g x k p2 p3 q3) s2.size
  ·intro s
   obtain ⟨M, hM⟩ := hc.fresh s
   refine ⟨max M (N + 1), fun g hg' => ?_⟩
   show (if s = nr ∧ g = N then some v' else C.val s g) = none
   rw [if_neg (by omega)]
   exact hM g (by omega)
  ·intro j s p hj hp
   match j, hj, hp with
   | 0, hj, hp =>
    simp only [List.getElem?_cons_zero, Option.some.injEq] at hj hp
    subst hj hp
    exact ⟨data_row hvN hlN s1 ho, rfl⟩
   | j + 1, hj, hp => simp at hj
  ·intro j s p x k hj hp hv hk
   match j, hj, hp with
   | 0, hj, hp =>
    simp only [List.getElem?_cons_zero, Option.some.injEq] at hj hp
    subst hj hp
    have : x = v' := by rw [hvN] at hv; exact (Option.some.inj hv).symm
    subst this
    exact .inr ⟨⟨nr, gr, u, ⟨.row T 1 (xs.map fun x => [.v x]), by simp [look]⟩, u1, hblk ▸ hk⟩, h2⟩
   | j + 1, hj, hp => simp at hj
  ·intro j s p y hj hp hy
   match j, hj, hp with
   | 0, hj, hp =>
    simp only [List.getElem?_cons_zero, Option.some.injEq] at hj hp
    subst hj hp
    rw [hN _ (Nat.le_refl _)] at hy
    cases hy
   | j + 1, hj, hp => simp at hj
  ·intro s g y hy hnl
   refine hlo s g (fun q => ?_) (fun q => ?_)
   ·rw [q.1, q.2, hN _ (Nat.le_refl _)] at hy; cases hy
   ·rw [q.1, q.2] at hnl
    exact hnl ⟨.row T 1 (xs.map fun x => [.v x]), by simp [look]⟩
  ·intro s g y hy hl
   by_cases q : s = nr ∧ g = N
   ·rw [q.1, q.2, hN _ (Nat.le_refl _)] at hy; cases hy
   ·by_cases q' : s = nr ∧ g = gr
    ·rw [q'.1, q'.2]; exact u2
    ·rw [← hlo s g q q']; exact hl
  ·intro k hk hno
   exact s2.rest k hk fun q => hno ⟨nr, gr, u, ⟨.row T 1 (xs.map fun x => [.v x]), by simp [look]⟩, u1, k1.trans q⟩
variable {P : Program} [HasGlob P] [HasPan P] {n : Nat} {S : St} {Q : Exit → St → Prop}
end Go.Eng
set_option linter.unusedSectionVars false
namespace Go.Eng
variable {P : Program} [HasGlob P] [HasPan P] {n : Nat} {S : St} {Q : Exit → St → Prop}
end Go.Eng
set_option linter.unusedSectionVars false
namespace Go.Eng
variable {P : Program} [HasGlob P] [HasPan P]
end Go.Eng
set_option linter.unusedSectionVars false
namespace Go.Eng
variable {P : Program} [HasGlob P] [HasPan P]
/-! results that hold an own row inside a struct of one cell, and such structs as arguments -/
def frzDG (ss : List Nat) (S : St) (d : D) (k : St → D → Prop) : Prop :=
 match d with
 | .agg [.own s g] => if ss.contains s then k S (.agg [.own s g]) else frzDA ss S (.agg [.own s g]) k
 | d => frzDA ss S d k
def frzDsG (ss : List Nat) : St → List D → (St → List D → Prop) → Prop
 | S, [], k => k S []
 | S, d :: ds, k => frzDG ss S d fun S' d' => frzDsG ss S' ds fun S'' ds' => k S'' (d' :: ds')
def retG (P : Program) (rs : List ResultVar) (tys : List TypeId) (ss : List Nat) (R : List (Nat × Blk) → D → Prop) : Exit → St → Prop
 | .normal, S | .ret, S => resL P S rs fun ds => frzDsG ss S ds fun S' ds' => postK S' ss fun ps => R ps (pack (nilDs P tys ds'))
 | _, _ => False
section
variable {w0 w : World} {B : Nat → Nat → Prop} {C0 C : Ctx} {n : Nat} {a : Act} {S : St}
end
attribute [go_sem] retG frzDsG frzDG
end Go.Eng
set_option linter.unusedSectionVars false
namespace Go.Eng
variable {P : Program} [HasGlob P] [HasPan P]
end Go.Eng
set_option linter.unusedSectionVars false
namespace Go.Eng
variable {P : Program} [HasGlob P] [HasPan P] {n : Nat} {S : St} {Q : Exit → St → Prop}
section
variable {w0 : World} {B : Nat → Nat → Prop} {C0 : Ctx} {C : Ctx} {a : Act} {w : World}
end
end Go.Eng
set_option linter.unusedSectionVars false
namespace Go.Eng
variable {P : Program} [HasGlob P] [HasPan P]
section
variable {n : Nat} {S : St}
theorem ag_mkifc {ops : List Oper} {dst : Option Nat} {t ty : TypeId} {x : Operand} {pos : String} {after : Array Edge} {K : St → Prop} (hd : dstOk n dst) (hc : P.concrete t = true)
  (h : evK true S x fun d => K (S.set dst (.ifc t d))) : AG P n ops ⟨dst, .makeInterface t x, ty, pos, after, none⟩ S K := by
 intro w0 B C0 C a w E I N Q hN _
 by_cases hw : Region.wanted (⟨dst, .makeInterface t x, ty, pos, after, none⟩ : Oper) (yielded ops.toArray a.tmps) = true
 ·rw [if_pos hw]
  obtain ⟨d, hk, hr⟩ := evK_ok I h
  refine wp_val (u := .iface t (a.eval x)) (w' := w) ?_ (hN _ _ ⟨_, C, hk, I.set (dstOk_spec hd) (.ifc _ _ _ (hr rfl))⟩)
  simp [execOp, run_makeInterface w t (a.eval x) hc]
 ·exact absurd (by simp [Region.wanted]) hw
theorem ag_invoke {ops : List Oper} {dst : Option Nat} {x : Operand} {name : String} {args : Array Operand} {tys : Array TypeId} {ty : TypeId} {pos : String} {after : Array Edge} {K : St → Prop} (f : FuncId) (t : TypeId) (hd : dstOk n dst)
  (hm : ∀ (v : Value) (w : World), (method (P.types.size + Made.depth) t v name).run P w = .ok (f, v) w)
  (h : evK true S x fun dx => ∃ d, dx = .ifc t d ∧ evsK true S args.toList fun ds => CallA P (.v (.func (.func f) #[] #[])) (d :: ds) tys.toList S fun S' r => K (S'.set dst r)) :
  AG P n ops ⟨dst, .call { callee := .invoke x name, args := args, argTypes := tys }, ty, pos, after, none⟩ S K := by
 intro w0 B C0 C a w E I N Q hN hX
 have hw : Region.wanted (⟨dst, .call { callee := .invoke x name, args := args, argTypes := tys }, ty, pos, after, none⟩ : Oper) (yielded ops.toArray a.tmps) = true := by simp [Region.wanted]
 rw [if_pos hw]
 obtain ⟨dx, ⟨d, rfl, hds⟩, hx⟩ := evK_ok I h
 obtain ⟨ds, hK, hlen, hr⟩ := evsK_ok I hds
 have hx := hx rfl
 generalize hux : a.eval x = ux at hx
 cases hx with
 | ifc _ _ u hu =>
 let us := args.toList.map a.eval
 have hrep : RepL C w (d :: ds) (u :: us) := by
  refine ⟨by simp [us, hlen], fun j d' u' hd' hu' => ?_⟩
  cases j with
  | zero => simp at hd' hu'; subst hd'; subst hu'; exact hu
  | succ j =>
   simp only [List.getElem?_cons_succ] at hd' hu'
   simp only [us, List.getElem?_map] at hu'
   cases hx' : args.toList[j]? with
   | none => rw [hx'] at hu'; cases hu'
   | some x' =>
    rw [hx'] at hu'
    simp only [Option.map_some, Option.some.injEq] at hu'
    subst hu'
    exact hr rfl j x' d' hx' hd'
 obtain ⟨f', cs, hfe, hok, hcall⟩ := hK (u :: us) _ E I hrep (.v _)
 obtain ⟨rfl, rfl⟩ : f = f' ∧ cs = #[] := by
  simp only [Value.func.injEq, Fn.func.injEq] at hfe
  exact ⟨hfe.1, hfe.2.2.symm⟩
 obtain ⟨fn, h1, h2, h3⟩ := hok
 have hrun : (execOp a.eval ⟨dst, .call { callee := .invoke x name, args := args, argTypes := tys }, ty, pos, after, none⟩).run P w = .ok (.enter f ((u :: us) ++ (#[] : Array Value).toList).toArray) w := by
  have hp : (program : Sem Program).run P w = .ok P w := run_program ..
  have e0 : (#[Value.iface t u] ++ Array.map a.eval args)[0]? = some (.iface t u) := by rw [Array.getElem?_append_left (by simp)]; rfl
  have e1 : (#[u] ++ (#[Value.iface t u] ++ Array.map a.eval args).extract 1 (#[Value.iface t u] ++ Array.map a.eval args).size) = ((u :: us) ++ (#[] : Array Value).toList).toArray := by
   apply Array.ext'
   simp [us, List.take_of_length_le]
  simp only [execOp, resolve, Sem.run_bind, Sem.run_pure, Result.andThen_ok, invoke, hux]
  rw [e0]
  simp only [callMethod, Sem.run_bind, hp, Result.andThen_ok, hm, callFunc, e1, h1]
  simp [h2, h3]
 unfold Oper.wp
 rw [hrun]
 refine hcall.mono ?_
 rintro e w' (⟨u', r, S', C', rfl, hk, hru, I'⟩ | ⟨ch, C', rfl, hp, I'⟩)
 ·exact hN _ _ ⟨_, C', hk, I'.set (dstOk_spec hd) hru⟩
 ·exact hX _ _ _ _ hp I'
end
variable {P : Program} [HasGlob P] [HasPan P]
section
variable {n : Nat} {S : St}
end
end Go.Eng
set_option linter.unusedSectionVars false
namespace Go.Eng
variable {P : Program} [HasGlob P] [HasPan P]
/-! contracts with lent memory that are proved by hand -/
def act0 : Act := { tmps := #[], defers := [] }
theorem Inv.start {C : Ctx} {w : World} {es : List (Nat × (Nat × Blk))} (hc : CtxOk C w) (hent : ∀ s g b, look es s = some (g, b) → HRep C w s g b) (h9 : ∀ p ∈ es, 900000 ≤ p.1) : Inv w (LentB es) C 0 ⟨[], es⟩ C act0 w := by
 refine ⟨rfl, rfl, fun k d hk => by simp [look] at hk, fun s g b hb => hent s g b hb, fun s g b x u hx _ hv hbk => .inr ⟨⟨s, g, u, ⟨x, hx⟩, hv, hbk⟩, h9 _ (look_mem hx)⟩, hc.apart, hc.bound, hc.fresh, Frm.refl _ _, fun _ _ _ h => h, fun _ _ h => h, fun _ _ _ _ h _ => h,
   fun s g x y hx _ => ⟨x, hx⟩, fun _ _ _ _ h => h, fun s g u b h1 h2 h3 => hc.bound s g u b h1 h2 h3⟩
theorem Env.start {C : Ctx} {w : World} {es : List (Nat × (Nat × Blk))} (hg : GlobOk P C w) (hent : ∀ s g b, look es s = some (g, b) → HRep C w s g b) (hn : ∀ p ∈ es, notFroz p.2.2 = true) : Env P w (LentB es) C :=
 ⟨hg, fun s g ⟨x, hx⟩ => ((hent s g x hx).liveOf (hn _ (look_mem hx))).1⟩
section
variable {w0 : World} {B : Nat → Nat → Prop} {C0 : Ctx} {n : Nat} {S : St} {C : Ctx} {a : Act} {w : World}
theorem Inv.cellSet (I : Inv w0 B C0 n S C a w) {s g b j : Nat} {cs : List D} {v : Value} (hx : look S.heap s = some (g, .box cs)) (hv : C.val s g = some (.pointer (some ⟨b, 0, none⟩))) (h1 : v.oneCell' = true) :
  Inv w0 B C0 n (S.hput s g (.box (cs.set j (.v v)))) C a (w.setCell ⟨b, j, none⟩ v) := by
 obtain ⟨b', arr, ty, q1, q2, q3, q4, q5⟩ := I.heap s g _ hx
 rw [hv] at q1
 simp only [Option.some.injEq, Value.pointer.injEq, Addr.mk.injEq, and_true] at q1
 subst q1
 have hb : (w.setCell ⟨b, j, none⟩ v).heap[b]? = some (.cells (arr.setIfInBounds j v) ty (0, 0)) := by
  simp only [World.setCell, Array.getElem?_modify, q3]
  simp
 refine (I.write (w' := w.setCell ⟨b, j, none⟩ v) (x' := .box (cs.set j (.v v))) hx hv q2 rfl (fun k hk => ?_) (by simp [World.setCell]) rfl rfl rfl (fun e => ⟨b, _, ty, hv, q2, hb, by simp [q4], fun i c u hi hu => ?_⟩)).1
 ·simp only [World.setCell, Array.getElem?_modify]
  rw [if_neg (Ne.symm hk)]
 ·rw [List.getElem?_set] at hi
  rw [Array.getElem?_setIfInBounds] at hu
  by_cases hij : j = i
  ·subst hij
   rw [if_pos rfl] at hi hu
   split at hi
   ·simp only [Option.some.injEq] at hi
    split at hu
    ·simp only [Option.some.injEq] at hu
     subst hi hu
     exact ⟨.v _, h1⟩
    ·cases hu
   ·cases hi
  ·rw [if_neg hij] at hi hu
   obtain ⟨r1, r2⟩ := q5 i c u hi hu
   exact ⟨r1.mono e, r2⟩
theorem Inv.drew (I : Inv w0 B C0 n S C a w) : Inv w0 B C0 n S C a w.drew := I.quiet rfl rfl rfl rfl
theorem Inv.boxCell (I : Inv w0 B C0 n S C a w) {s g j : Nat} {cs : List D} {x : Value} (hx : look S.heap s = some (g, .box cs)) (hj : cs[j]? = some (.v x)) {b : Nat} (hv : C.val s g = some (.pointer (some ⟨b, 0, none⟩))) :
  w.cell? ⟨b, j, none⟩ = some x ∧ w.frozen? ⟨b, j, none⟩ = false := by
 obtain ⟨b', arr, ty, q1, q2, q3, q4, q5⟩ := I.heap s g _ hx
 rw [hv] at q1
 simp only [Option.some.injEq, Value.pointer.injEq, Addr.mk.injEq, and_true] at q1
 subst q1
 have hlt : j < arr.size := by rw [q4]; exact (List.getElem?_eq_some_iff.1 hj).1
 obtain ⟨r1, r2⟩ := q5 j _ arr[j] hj (Array.getElem?_eq_getElem hlt)
 have e := r1.v_inv
 refine ⟨?_, ?_⟩
 ·simp [World.cell?, q3, e, hlt]
 ·simp [World.frozen?, q3]
end
theorem Inv.finish {C : Ctx} {w w' : World} {es : List (Nat × (Nat × Blk))} {ss : List Nat} {ps : List (Nat × Blk)} {C' : Ctx} {S' : St} {a : Act} {n : Nat} (hc : CtxOk C w) (hent : ∀ s g b, look es s = some (g, b) → HRep C w s g b)
  (hn : ∀ p ∈ es, notFroz p.2.2 = true) (I2 : Inv w (LentB es) C n S' C' a w') (hpl : ps.length = ss.length) (hpost : ∀ (j : Nat) s p, ss[j]? = some s → ps[j]? = some p → look S'.heap s = some p ∧ notFroz p.2 = true) :
  CtxOk C' w' ∧ Ext C w C' w' ∧ Posts C' w' ss ps ∧
   (∀ (j : Nat) s p u b, ss[j]? = some s → ps[j]? = some p → C'.val s p.1 = some u → blk u = some b → w.heap.size ≤ b ∨ (bB C (LentB es) b ∧ 900000 ≤ s)) ∧
   (∀ (j : Nat) s p y, ss[j]? = some s → ps[j]? = some p → C.val s p.1 = some y → LentB es s p.1) ∧
   (∀ s g x, C.val s g = some x → ¬ LentB es s g → C'.live s g = C.live s g) ∧ (∀ s g x, C.val s g = some x → C'.live s g = true → C.live s g = true) ∧
   Frm w (bB C (LentB es)) w' := by
 have hlive : ∀ s g, LentB es s g → C.live s g = true := fun s g ⟨x, hx⟩ => ((hent s g x hx).liveOf (hn _ (look_mem hx))).1
 refine ⟨⟨I2.apart, I2.bound, I2.fresh⟩, ⟨I2.old, I2.owned, fun b hb hno => I2.frame.block b hb (fun ⟨s, g, v, q1, q2, q3⟩ => hno ⟨s, g, v, q2, hlive s g q1, q3⟩), I2.frame.size⟩,
   ⟨hpl, fun j s p h1 h2 => ⟨I2.heap s p.1 p.2 (hpost j s p h1 h2).1, (hpost j s p h1 h2).2⟩⟩, fun j s p v b h1 h2 h3 h4 => ?_, fun j s p y h1 h2 h3 => I2.ents s p.1 p.2 y (hpost j s p h1 h2).1 h3, fun s g x hx hnl => ?_, fun s g x h1 h2 => I2.dead0 s g x h1 h2, I2.frame⟩
 ·obtain ⟨q1, q2⟩ := hpost j s p h1 h2
  exact I2.mine s p.1 b p.2 v q1 ((I2.heap _ _ _ q1).liveOf q2).1 h3 h4
 ·by_cases hl : C.live s g = true
  ·rw [hl]; exact I2.kept s g x hx hl hnl
  ·rw [Bool.not_eq_true] at hl
   rw [hl, Bool.eq_false_iff]
   intro q
   rw [I2.dead0 s g x hx q] at hl
   cases hl
variable {P : Program} [HasGlob P] [HasPan P]
section
variable {n : Nat} {S : St}
theorem ag_mkmethod {ops : List Oper} {dst : Option Nat} {f : FuncId} {ty : TypeId} {x : Operand} {pos : String} {after : Array Edge} {K : St → Prop} (hd : dstOk n dst)
  (h : evK true S x fun d => K (S.set dst (.mfn f d))) : AG P n ops ⟨dst, .makeFunc (.func f) #[x] #[], ty, pos, after, none⟩ S K := by
 intro w0 B C0 C a w E I N Q hN _
 by_cases hw : Region.wanted (⟨dst, .makeFunc (.func f) #[x] #[], ty, pos, after, none⟩ : Oper) (yielded ops.toArray a.tmps) = true
 ·rw [if_pos hw]
  obtain ⟨d, hk, hr⟩ := evK_ok I h
  refine wp_val (u := .func (.func f) #[a.eval x] #[]) (w' := w) ?_ (hN _ _ ⟨_, C, hk, I.set (dstOk_spec hd) (.mfn _ _ _ (hr rfl))⟩)
  simp [execOp, Instr.makeFunc]
 ·exact absurd (by simp [Region.wanted]) hw
end
end Go.Eng
set_option linter.unusedSectionVars false
namespace Go.Eng
open Go.RowKit
variable {P : Program} [HasGlob P] [HasPan P]
end Go.Eng
set_option linter.unusedSectionVars false
namespace Go.Eng
open Go.RowKit
variable {P : Program} [HasGlob P] [HasPan P]
section
variable {w0 : World} {B : Nat → Nat → Prop} {C0 : Ctx} {n : Nat} {S : St} {C : Ctx} {a : Act} {w : World}
def bytesR (bs : List UInt8) : List (List D) := bs.map fun c => [D.v (.int .u8 (c.toNat : Int))]
theorem appstr_own (I : Inv w0 B C0 n S C a w) {t u ty e : TypeId} (hs : slOf P t = some (e, 1, 1)) (hz : (P.info? e).bind (·.zero) = some (.int .u8 0)) (hu : P.underlying u = some .string) {s g : Nat} {es : List (List D)} {bs : List UInt8} {v : Value}
  (hlk : look S.heap s = some (g, .row e 1 es)) (hv : C.val s g = some v) (hb : es.length + bs.length ≤ 140737488355328) :
  ∃ v' w' g' C', (Builtin.append_ #[t, u] ty #[v, .string ⟨bs.toArray⟩]).run P w = .ok v' w' ∧ C'.val s g' = some v' ∧ v'.oneCell' = true ∧ Inv w0 B C0 n (S.hput s g' (.row e 1 (es ++ bytesR bs))) C' a w' := by
 obtain ⟨inf, q1, q2, q3, q4⟩ := slOf_spec hs
 rw [q2] at hz
 simp only [Option.bind_some] at hz
 obtain ⟨u', xs, hv', hl, hown, hk, hall⟩ := I.heap s g _ hlk
 rw [hv] at hv'
 simp only [Option.some.injEq] at hv'
 subst hv'
 have hsz : (⟨bs.toArray⟩ : ByteArray).size = bs.length := by simp [ByteArray.size]
 obtain ⟨v', w', hrun, hown', hg, hnil⟩ := Lib.run_append_own_string (P := P) w 0 t u ty e inf q1 hu q2 hz q3 q4 v es.length xs hown ⟨bs.toArray⟩ (by rw [hsz]; simp only [maxLen]; omega) (by rw [hsz]; omega) (Nat.zero_le _)
 obtain ⟨ao, cap, hus, _⟩ := ownsRow_slice hown
 obtain ⟨ao2, cap2, hvs, _⟩ := ownsRow_slice hown'
 have hat : v'.ownBlock = v.ownBlock ∨ v'.ownBlock = some w.heap.size := by
  rcases hown.2 with ⟨h1, h2⟩ | ⟨gb, cp, cur, h1, h2, h3, h4, h5, h6, h7⟩
  ·by_cases hm : bs.length = 0
   ·left
    rw [hnil.2 ⟨h1, by rw [hsz]; exact hm⟩, h1]
   ·right
    rw [h1] at hrun
    rw [run_append_nil_string (P := P) w t u ty e inf (.int .u8 0) q1 hu q2 hz ⟨bs.toArray⟩ (by rw [hsz]; omega) (by rw [hsz]; omega) (by rw [hsz, q4]; omega)] at hrun
    simp only [Result.ok.injEq] at hrun
    rw [← hrun.1]; rfl
  ·by_cases hroom : es.length + bs.length ≤ cp
   ·left
    rw [h1] at hrun
    rw [Lib.run_append_room_string (P := P) w t u ty e inf q1 hu q2 q3 gb es.length cp cur h3 ⟨bs.toArray⟩ (by rw [hsz]; exact hroom) (by rw [hsz]; omega)] at hrun
    simp only [Result.ok.injEq] at hrun
    rw [← hrun.1, h1]; rfl
   ·right
    have holds : ∀ j u, xs[j]? = some u → w.cell? ((⟨gb, 0, none⟩ : Addr).add j) = some u := hown.cells (g := gb) (by rw [h1]; rfl)
    rw [h1] at hrun
    rw [Lib.run_append_grow_string (P := P) w t u ty e inf (.int .u8 0) q1 hu q2 hz ⟨gb, 0, none⟩ es.length cp xs (by rw [q3]; exact hown.1) holds ⟨bs.toArray⟩ (by rw [hsz]; omega) (by rw [hsz]; omega) (by rw [hsz, q4]; exact growslice_fits (by omega) (by omega))] at hrun
    simp only [Result.ok.injEq] at hrun
    rw [← hrun.1]; rfl
 have hcells : Lib.strCells ⟨bs.toArray⟩ = bs.map fun b => Value.int .u8 (b.toNat : Int) := by simp [Lib.strCells]
 rw [hcells, hsz] at hown'
 obtain ⟨g', C', I', hv', e'⟩ := I.regrow (v' := v') (x' := .row e 1 (es ++ bytesR bs)) hlk hv hl (blk_own hus) (blk_own hvs) hg hat (fun k hk' => (hown'.lt k hk').2) (fun C' g' ex hv hl =>
   ⟨v', xs ++ bs.map fun b => Value.int .u8 (b.toNat : Int), hv, hl, by rw [List.length_append]; simpa [bytesR] using hown', fun x hx => by
    rcases List.mem_append.1 hx with h | h
    ·exact hk x h
    ·obtain ⟨c, _, rfl⟩ := List.mem_map.1 h; rfl, append_cells ex hown.1 hk (fun x hx => by obtain ⟨c, _, rfl⟩ := List.mem_map.1 hx; rfl) hall (fun i j e' c x h1 h2 h3 => by
     simp only [bytesR, List.getElem?_map, Option.map_eq_some_iff] at h1
     obtain ⟨b, hb1, rfl⟩ := h1
     match j, h2 with
     | 0, h2 =>
      simp at h2
      subst h2
      simp only [Nat.mul_one, Nat.add_zero, List.getElem?_map, hb1, Option.map_some, Option.some.injEq] at h3
      subst h3
      exact .v _
     | j + 1, h2 => simp at h2) (fun x hx => by obtain ⟨c, _, rfl⟩ := List.mem_map.1 hx; rfl)⟩)
 exact ⟨v', w', g', C', hrun, hv', by subst hvs; rfl, I'⟩
end
section
variable {n : Nat} {S : St}
theorem ag_appstr {ops : List Oper} {t' : Nat} {t u e ty : TypeId} {x y : Operand} {pos : String} {after : Array Edge} {K : St → Prop} {s g : Nat} {es : List (List D)} {bs : List UInt8} (hd : t' < n) (hs : slOf P t = some (e, 1, 1)) (hz : (P.info? e).bind (·.zero) = some (.int .u8 0)) (hu : P.underlying u = some .string)
  (hx : evK true S x fun d => d = .own s g) (hy : evK true S y fun d => d = .v (.string ⟨bs.toArray⟩)) (hrow : look S.heap s = some (g, .row e 1 es)) (hb : es.length + bs.length ≤ 140737488355328)
  (hk : ∀ g', K ((S.hput s g' (.row e 1 (es ++ bytesR bs))).put t' (.own s g'))) :
  AG P n ops ⟨some t', .call { callee := .builtin .append, args := #[x, y], argTypes := #[t, u] }, ty, pos, after, none⟩ S K := by
 intro w0 B C0 C a w E I N Q hN _
 have hw : Region.wanted (⟨some t', .call { callee := .builtin .append, args := #[x, y], argTypes := #[t, u] }, ty, pos, after, none⟩ : Oper) (yielded ops.toArray a.tmps) = true := by simp [Region.wanted]
 rw [if_pos hw]
 obtain ⟨d, rfl, hrx⟩ := evK_ok I hx
 obtain ⟨dy, rfl, hry⟩ := evK_ok I hy
 have hyv := (hry rfl).v_inv
 have hrx := hrx rfl
 generalize hX : a.eval x = ux at hrx
 cases hrx with
 | own _ _ _ hv _ =>
  obtain ⟨v', w', g', C', hrun, hv', ho1, I'⟩ := appstr_own (ty := ty) I hs hz hu hrow hv hb
  refine wp_val (u := v') (w' := w') ?_ (hN _ _ ⟨_, C', hk g', I'.put hd (.own s g' _ hv' ho1)⟩)
  simp [execOp, resolve, invoke, builtin, hX, hyv, hrun]
end
end Go.Eng
set_option linter.unusedSectionVars false
namespace Go.Eng
variable {P : Program} [HasGlob P]
def XCall (P : Program) [HasGlob P] (f : FuncId) (args : List D) (es : List (Nat × (Nat × Blk))) (ss : List Nat) (R : List (Nat × Blk) → D → Prop) (X : List PanicEntry → Prop) : Prop :=
 FnOk P f ∧ (∀ p ∈ es, 900000 ≤ p.1 ∧ notFroz p.2.2 = true ∧ p.1 ∈ ss) ∧
 ∀ (C : Ctx) (w : World) (us : List Value), CtxOk C w → GlobOk P C w → RepL C w args us → (∀ s g b, look es s = some (g, b) → HRep C w s g b) →
  Calls P f us.toArray w fun e w' => (∃ u r ps C', e = .returned u ∧ R ps r ∧ Rep C' w' r u ∧ CtxOk C' w' ∧ Ext C w C' w' ∧ Posts C' w' ss ps ∧
   (∀ (j : Nat) s p u b, ss[j]? = some s → ps[j]? = some p → C'.val s p.1 = some u → blk u = some b → w.heap.size ≤ b ∨ (bB C (LentB es) b ∧ 900000 ≤ s)) ∧
   (∀ (j : Nat) s p y, ss[j]? = some s → ps[j]? = some p → C.val s p.1 = some y → LentB es s p.1) ∧
   (∀ s g x, C.val s g = some x → ¬ LentB es s g → C'.live s g = C.live s g) ∧ (∀ s g x, C.val s g = some x → C'.live s g = true → C.live s g = true) ∧
   Frm w (bB C (LentB es)) w') ∨
   ∃ ch C', e = .panicked ch ∧ X ch ∧ CtxOk C' w' ∧ Ext C w C' w' ∧
   (∀ s g x, C.val s g = some x → ¬ LentB es s g → C'.live s g = C.live s g) ∧ (∀ s g x, C.val s g = some x → C'.live s g = true → C.live s g = true) ∧
   Frm w (bB C (LentB es)) w'
theorem XCall.mono {f : FuncId} {args : List D} {es : List (Nat × (Nat × Blk))} {ss : List Nat} {R R' : List (Nat × Blk) → D → Prop} {X X' : List PanicEntry → Prop} (h : XCall P f args es ss R X) (hR : ∀ ps r, R ps r → R' ps r) (hX : ∀ ch, X ch → X' ch) : XCall P f args es ss R' X' :=
 ⟨h.1, h.2.1, fun C w us h1 h2 h3 h4 => (h.2.2 C w us h1 h2 h3 h4).mono fun _ _ h => h.imp (fun ⟨u, r, ps, C', q1, q2, q3⟩ => ⟨u, r, ps, C', q1, hR _ _ q2, q3⟩) fun ⟨ch, C', q1, q2, q3⟩ => ⟨ch, C', q1, hX _ q2, q3⟩⟩
theorem XCall.toA {f : FuncId} {args : List D} {es : List (Nat × (Nat × Blk))} {ss : List Nat} {R : List (Nat × Blk) → D → Prop} (h : XCall P f args es ss R fun _ => False) : ACall P f args es ss R :=
 ⟨h.1, h.2.1, fun C w us h1 h2 h3 h4 => (h.2.2 C w us h1 h2 h3 h4).mono fun _ _ h => h.elim id fun ⟨_, _, _, h, _⟩ => h.elim⟩
section
variable {w0 : World} {B : Nat → Nat → Prop} {C0 : Ctx} {n : Nat} {S : St} {C : Ctx} {a : Act} {w : World}
theorem HRep.valOf {s g : Nat} {x : Blk} (hH : HRep C w s g x) : ∃ y, C.val s g = some y := by
 cases x with
 | box cs => obtain ⟨_, _, _, h, _⟩ := hH; exact ⟨_, h⟩
 | row e k es => obtain ⟨_, _, h, _⟩ := hH; exact ⟨_, h⟩
 | froz k es => obtain ⟨_, h, _⟩ := hH; exact ⟨_, h⟩
 | map es => obtain ⟨_, _, _, h, _⟩ := hH; exact ⟨_, h⟩
 | bld t nr gr => obtain ⟨_, _, _, h, _⟩ := hH; exact ⟨_, h⟩
 | brow e l => obtain ⟨_, h, _⟩ := hH; exact ⟨_, h⟩
theorem Inv.afterX (I : Inv w0 B C0 n S C a w) {C' : Ctx} {w' : World} {es : List (Nat × (Nat × Blk))} {S' : St}
  (hes : ∀ s g x, look es s = some (g, x) → look S.heap s = some (g, x) ∧ notFroz x = true)
  (hs1 : ∀ k d, look S'.slots k = some d → look S.slots k = some d) (hs2 : ∀ s x, look S'.heap s = some x → look S.heap s = some x ∧ ∀ y, look es s ≠ some y)
  (e : Ext C w C' w') (hk : CtxOk C' w')
  (hl : ∀ s g x, C.val s g = some x → ¬ LentB es s g → C'.live s g = C.live s g) (hd : ∀ s g x, C.val s g = some x → C'.live s g = true → C.live s g = true)
  (hf : Frm w (bB C (LentB es)) w') : Inv w0 B C0 n S' C' a w' := by
 have lentMine : ∀ b, bB C (LentB es) b → w0.heap.size ≤ b ∨ bB C0 B b := fun b ⟨s, g, u, ⟨x, hx⟩, h2, h3⟩ => by
  obtain ⟨q1, q2⟩ := hes s g x hx
  rcases I.mine s g b x u q1 ((I.heap s g x q1).liveOf q2).1 h2 h3 with h | h
  ·exact .inl h
  ·exact .inr h.1
 have lentNot : ∀ s g u b, (∀ y, look es s ≠ some y) → C.val s g = some u → C.live s g = true → blk u = some b → ¬ bB C (LentB es) b := fun s g u b hs h1 h2 h3 ⟨s', g', u', ⟨x, hx⟩, h4, h5⟩ => by
  obtain ⟨q1, q2⟩ := hes s' g' x hx
  obtain ⟨rfl, rfl⟩ := I.apart s g u s' g' u' b h1 h2 h4 ((I.heap s' g' x q1).liveOf q2).1 h3 h5
  exact hs _ hx
 refine ⟨I.size, I.defers, fun k d hk' => ?_, fun s g b hb' => ?_, fun s g b x u hx h1 h2 h3 => ?_, hk.apart, hk.bound, hk.fresh,
  ⟨hf.os.trans I.frame.os, hf.tape.trans I.frame.tape, hf.output.trans I.frame.output, Nat.le_trans I.frame.size hf.size, fun b hb' hn => (hf.block b (Nat.lt_of_lt_of_le hb' I.frame.size) (fun hh => ?_)).trans (I.frame.block b hb' hn)⟩,
  fun s g x hx => e.val _ _ _ (I.old _ _ _ hx), fun b hb' ho => I.owned b hb' (e.owns b (Nat.lt_of_lt_of_le hb' I.frame.size) ho), fun s g u h1 h2 h4 => ?_, fun s g x y hx hy => ?_, fun s g x h1 h2 => I.dead0 _ _ _ h1 (hd _ _ _ (I.old _ _ _ h1) h2), I.bound0⟩
 ·obtain ⟨u, hu, hr⟩ := I.slots k d (hs1 k d hk')
  exact ⟨u, hu, hr.mono e⟩
 ·obtain ⟨hb', hn⟩ := hs2 s _ hb'
  have hH := I.heap s g b hb'
  obtain ⟨x, hx⟩ := hH.valOf
  refine hH.keep e (fun h => ?_) (fun u k h1 h2 h3 => hf.block k (I.bound _ _ _ _ h1 h2 h3) (lentNot s g u k hn h1 h2 h3))
  rw [hl s g x hx (fun ⟨y, hy⟩ => hn _ hy)]; exact h
 ·obtain ⟨hx, hn⟩ := hs2 s _ hx
  have hH := I.heap s g x hx
  obtain ⟨y, hy⟩ := hH.valOf
  have : y = u := by have := e.val _ _ _ hy; rw [h2] at this; exact (Option.some.inj this).symm
  subst this
  exact I.mine s g b x y hx (hd _ _ _ hy h1) hy h3
 ·rcases lentMine b hh with h | h
  ·omega
  ·exact hn h
 ·rw [hl s g u (I.old _ _ _ h1) (fun ⟨x, hx⟩ => h4 (I.ents s g x u (hes _ _ _ hx).1 h1))]
  exact I.kept s g u h1 h2 h4
 ·exact I.ents s g x y (hs2 s _ hx).1 hy
end
theorem xcall_of {f : FuncId} {fn : Func} {c : Code} {args : List D} {es : List (Nat × (Nat × Blk))} {ss : List Nat} {R : List (Nat × Blk) → D → Prop} {X : List PanicEntry → Prop} (hf : P.funcs[f]? = some fn) (hb : fn.body = some c) (hn : (fn.name == "runtime.NumGoroutine") = false) {n : Nat} {rs : List ResultVar} {tys : List TypeId} (hnt : fn.ntmps = n) (hrs : fn.results.toList = rs) (hty : fn.resultTypes.toList = tys) (hlen : args.length ≤ n)
  (hes : ∀ p ∈ es, 900000 ≤ p.1 ∧ notFroz p.2.2 = true ∧ p.1 ∈ ss) (h : ∀ hp : HasPan P, (∀ ch, X ch → HasPan.pan P ch) → AWp P n c ⟨argS 0 args, es⟩ (retA P rs tys ss R)) : XCall P f args es ss R X := by
 subst hnt hrs hty
 refine ⟨⟨fn, hf, hn, by rw [hb]; rfl⟩, hes, fun C w us hc hg hr hent => ?_⟩
 refine calls_of_wp hf hb ?_
 have hsz : us.length = args.length := hr.1
 have hlive : ∀ s g, LentB es s g → C.live s g = true := fun s g ⟨x, hx⟩ => ((hent s g x hx).liveOf (hes _ (look_mem hx)).2.1).1
 let a : Act := { tmps := us.toArray ++ Array.replicate (fn.ntmps - us.toArray.size) undef, defers := [] }
 have I : Inv w (LentB es) C fn.ntmps ⟨argS 0 args, es⟩ C a w := by
  refine ⟨by simp [a]; omega, rfl, fun k d hk => ?_, fun s g b hb => hent s g b hb, fun s g b x u hx _ hv hbk => .inr ⟨⟨s, g, u, ⟨x, hx⟩, hv, hbk⟩, (hes _ (look_mem hx)).1⟩, hc.apart, hc.bound, hc.fresh, Frm.refl _ _, fun _ _ _ h => h, fun _ _ h => h, fun _ _ _ _ h _ => h,
   fun s g x y hx _ => ⟨x, hx⟩, fun _ _ _ _ h => h, fun s g u b h1 h2 h3 => hc.bound s g u b h1 h2 h3⟩
  obtain ⟨_, h2⟩ := argS_look hk
  rw [Nat.sub_zero] at h2
  have hlt : k < us.length := by rw [hsz]; exact (List.getElem?_eq_some_iff.1 h2).1
  have hu : us[k]? = some us[k] := List.getElem?_eq_getElem hlt
  refine ⟨us[k], ?_, hr.2 k d _ h2 hu⟩
  simp only [a]
  rw [Array.getElem?_append_left (by simpa using hlt)]
  simp [hu]
 refine wp_mono (h ⟨X⟩ (fun _ h => h) ⟨hg, hlive⟩ I) ?_
 have ext : ∀ {S2 : St} {C2 : Ctx} {a2 : Act} {w2 : World}, Inv w (LentB es) C fn.ntmps S2 C2 a2 w2 → Ext C w C2 w2 := fun {S2 C2 a2 w2} I2 =>
  ⟨I2.old, I2.owned, fun b hb hno => I2.frame.block b hb (fun ⟨s, g, v, q1, q2, q3⟩ => hno ⟨s, g, v, q2, hlive s g q1, q3⟩), I2.frame.size⟩
 have lv : ∀ {S2 : St} {C2 : Ctx} {a2 : Act} {w2 : World}, Inv w (LentB es) C fn.ntmps S2 C2 a2 w2 → ∀ s g x, C.val s g = some x → ¬ LentB es s g → C2.live s g = C.live s g := fun {S2 C2 a2 w2} I2 s g x hx hnl => by
  cases h0 : C.live s g with
  | true => exact I2.kept s g x hx h0 hnl
  | false =>
   cases h1 : C2.live s g with
   | false => rfl
   | true => rw [I2.dead0 s g x hx h1] at h0; cases h0
 rintro e a' w' (⟨S', C', hq, I'⟩ | ⟨ch, C', rfl, hp, I'⟩)
 case inr => exact ⟨I'.defers, .inr ⟨ch, C', rfl, hp, ⟨I'.apart, I'.bound, I'.fresh⟩, ext I', lv I', fun s g x h1 h2 => I'.dead0 s g x h1 h2, I'.frame⟩⟩
 have fin : (resL P S' fn.results.toList fun ds => frzDsA ss S' ds fun S'' ds' => postK S'' ss fun ps => R ps (pack (nilDs P fn.resultTypes.toList ds'))) →
   a'.defers = [] ∧ ∃ v, (results fn a'.tmps).run P w' = .ok v w' ∧ ∃ u r ps C'', Ending.returned v = .returned u ∧ R ps r ∧ Rep C'' w' r u ∧ CtxOk C'' w' ∧ Ext C w C'' w' ∧ Posts C'' w' ss ps ∧
   (∀ (j : Nat) s p u b, ss[j]? = some s → ps[j]? = some p → C''.val s p.1 = some u → blk u = some b → w.heap.size ≤ b ∨ (bB C (LentB es) b ∧ 900000 ≤ s)) ∧
   (∀ (j : Nat) s p y, ss[j]? = some s → ps[j]? = some p → C.val s p.1 = some y → LentB es s p.1) ∧
   (∀ s g x, C.val s g = some x → ¬ LentB es s g → C''.live s g = C.live s g) ∧ (∀ s g x, C.val s g = some x → C''.live s g = true → C.live s g = true) ∧
   Frm w (bB C (LentB es)) w' := fun hq => by
  refine ⟨I'.defers, ?_⟩
  obtain ⟨ds, us, hk, hrs, hlen, hrun⟩ := resL_ok I' hq
  obtain ⟨S2, ds', C2, hk2, I2, e2, hr'⟩ := frzDsA_ok I' hk
  obtain ⟨ps, hR, hpl, hpost⟩ := postK_ok hk2
  obtain ⟨u, hu, hpk⟩ := pack_ok (nilDs_ok (P := P) (tys := fn.resultTypes.toList) (hr' us hrs))
  refine ⟨u, ?_, u, _, ps, C2, rfl, hR, hu, ⟨I2.apart, I2.bound, I2.fresh⟩, ext I2,
   ⟨hpl, fun j s p h1 h2 => ⟨I2.heap s p.1 p.2 (hpost j s p h1 h2).1, (hpost j s p h1 h2).2⟩⟩, fun j s p v b h1 h2 h3 h4 => ?_, fun j s p y h1 h2 h3 => I2.ents s p.1 p.2 y (hpost j s p h1 h2).1 h3, lv I2, fun s g x h1 h2 => I2.dead0 s g x h1 h2, I2.frame⟩
  ·have hfun : (fun r : ResultVar => match r with | .tmp t => (pure (a'.tmps.getD t undef) : Sem Value) | .cell p ty => do loadVar ty (← asAddr (a'.tmps.getD p undef))) = rvSem a'.tmps := by
    funext r; cases r <;> rfl
   have hres : results fn a'.tmps = (do let vs ← fn.results.mapM (rvSem a'.tmps); pure (if h : vs.size = 1 then vs[0] else .tuple vs)) := by
    rw [← hfun]; rfl
   rw [hres, Array.mapM_eq_mapM_toList]
   simp only [Sem.run_bind, Sem.run_map, hrun, Result.andThen_ok, Sem.run_pure]
   rw [← hpk]
  ·obtain ⟨q1, q2⟩ := hpost j s p h1 h2
   exact I2.mine s p.1 b p.2 v q1 ((I2.heap _ _ _ q1).liveOf q2).1 h3 h4
 cases e with
 | normal => obtain ⟨q1, v, q2, q3⟩ := fin hq; exact ⟨q1, v, q2, .inl q3⟩
 | ret => obtain ⟨q1, v, q2, q3⟩ := fin hq; exact ⟨q1, v, q2, .inl q3⟩
 | exit id => exact hq.elim
 | goto l => exact hq.elim
 | panic ch => exact hq.elim
 | outgrown => exact hq.elim
variable [HasPan P] {S : St}
theorem callA_x {df : D} {f : FuncId} {caps ds : List D} {tys : List TypeId} {k : St → D → Prop} (ss : List Nat) (hf : FunD df f caps) (hh : ds.flatMap (lentHs S ss) = [])
  (h : ∀ args, lentL P S ss tys ds ++ caps = args → ∃ es R X, XCall P f args es ss R X ∧ covL S.heap es ∧ (∀ ch, X ch → HasPan.pan P ch) ∧ ∀ ps r, ps.length = ss.length → R ps r → k (putPs S ss ps) r) : CallA P df ds tys S k := by
 obtain ⟨es, R, X, h, hes, hX, hR⟩ := h _ rfl
 intro w0 B C0 n C a w us uf E I hr hu
 obtain ⟨cs, rfl, hcs⟩ := hf.rep hu
 refine ⟨f, cs, rfl, h.1, ?_⟩
 have hes' : ∀ s g x, look es s = some (g, x) → look S.heap s = some (g, x) ∧ 900000 ≤ s ∧ notFroz x = true ∧ s ∈ ss := fun s g x hx => by
  have hm := h.2.1 _ (look_mem hx)
  exact ⟨covL_ok hes s _ hx, hm⟩
 refine (h.2.2 C w (us ++ cs.toList) I.ctxOk (E.now I) ((lentL_ok I hh hr).append hcs) (fun s g b hb => I.heap s g b (hes' s g b hb).1)).mono ?_
 rintro e w' (⟨u, r, ps, C', rfl, hRr, hru, hok, ext, hp, hm, he, hl, hd, hfrm⟩ | ⟨ch, C', rfl, hx, hok, ext, hl, hd, hfrm⟩)
 ·exact .inl ⟨u, r, _, C', rfl, hR ps r hp.1 hRr, hru, I.afterL hes' ext hok hp hm he hl hd hfrm⟩
 ·exact .inr ⟨ch, C', rfl, hX ch hx, I.afterX (fun s g x hx => ⟨(hes' s g x hx).1, (hes' s g x hx).2.2.1⟩) (fun _ _ h => by simp [look] at h) (fun _ _ h => by simp [look] at h) ext hok hl hd hfrm⟩
/-! panics -/
def panE (t : TypeId) (u : Value) : List PanicEntry := [{ v := .iface t u, recovered := false }]
theorem ag_panic {n : Nat} {ops : List Oper} {dst : Option Nat} {x : Operand} {ty : TypeId} {pos : String} {after : Array Edge} {K : St → Prop}
  (h : evK true S x fun d => ∃ t d', d = .ifc t d' ∧ ∀ C w u, Rep C w d' u → HasPan.pan P (panE t u)) : AG P n ops ⟨dst, .panic x, ty, pos, after, none⟩ S K := by
 intro w0 B C0 C a w E I N Q hN hX
 have hw : Region.wanted (⟨dst, .panic x, ty, pos, after, none⟩ : Oper) (yielded ops.toArray a.tmps) = true := by simp [Region.wanted]
 rw [if_pos hw]
 obtain ⟨dx, ⟨t, d, rfl, hp⟩, hx⟩ := evK_ok I h
 have hx := hx rfl
 generalize hux : a.eval x = ux at hx
 cases hx with
 | ifc _ _ u hu =>
  have hI : Inv w0 B C0 n ⟨[], []⟩ C a w := I.cov ⟨fun k d h => by simp [look] at h, fun k d h => by simp [look] at h⟩
  have := hX _ C a w (hp _ _ _ hu) hI
  have hr : (execOp a.eval ⟨dst, .panic x, ty, pos, after, none⟩).run P w = .halt (.panic (.iface t u)) w := by
   simp only [execOp, hux]
   rfl
  unfold Oper.wp
  rw [hr]
  exact this
end Go.Eng
namespace Go.Proofs.YtkgmecjaejaehaaGreatDoor
open Go.Eng Go.Js
set_option maxRecDepth 20000
abbrev Bs := List UInt8
def glOk (w : World) : Prop := Lib.Utf8Tabs 0 1 w ∧ ∃ m, w.cell? ⟨2, 0, none⟩ = some (.int .i64 m)
theorem glOk_stab (w w' : World) (h : ∀ b ∈ [0, 1, 2], w'.heap[b]? = w.heap[b]?) (hk : glOk w) : glOk w' := by
 have e : ∀ b ∈ [0, 1, 2], ∀ o, w'.cell? ⟨b, o, none⟩ = w.cell? ⟨b, o, none⟩ := fun b hb o => by unfold World.cell?; rw [h b hb]
 obtain ⟨⟨h1, h2⟩, h3⟩ := hk
 refine ⟨⟨fun c hc => ?_, fun i hi => ?_⟩, ?_⟩
 ·rw [e 0 (by simp)]; exact h1 c hc
 ·rw [e 1 (by simp), e 1 (by simp)]; exact h2 i hi
 ·rw [e 2 (by simp)]; exact h3
instance trydGlob : HasGlob Tryz.prog := ⟨[0, 1, 2], glOk, glOk_stab⟩
@[go_sem] abbrev cI (n : Int) : List D := [.v (.int .i64 n)]
@[go_sem] abbrev dI (n : Int) : D := .v (.int .i64 n)
@[go_sem] abbrev dB (n : Bool) : D := .v (.bool n)
@[go_sem] abbrev dU (c : UInt8) : D := .v (.int .u8 c.toNat)
@[go_sem] abbrev dIs (l : List Int) : D := .sl 1 (l.map cI)
@[go_sem] abbrev dS (l : Bs) : D := .v (.string ⟨l.toArray⟩)
@[go_sem] abbrev cS (s : Bs) : List D := [.v (.string ⟨s.toArray⟩)]
@[go_sem] abbrev dSs (l : List Bs) : D := .sl 1 (l.map cS)
/-! values -/
mutual
def cJ : JV → List D
 | .mk k t ns xs => [dI k, dS t, dSs ns, .sl 4 (cJs xs)]
def cJs : List JV → List (List D)
 | [] => []
 | x :: xs => cJ x :: cJs xs
end
theorem cJs_map : ∀ xs : List JV, cJs xs = xs.map cJ
 | [] => by simp [cJs]
 | x :: xs => by simp [cJs, cJs_map xs]
def dJ (v : JV) : D := .agg (cJ v)
theorem dJ_mk (k : Int) (t : Bs) (ns : List Bs) (xs : List JV) : dJ (.mk k t ns xs) = .agg [dI k, dS t, dSs ns, .sl 4 (xs.map cJ)] := by
 simp [dJ, cJ, cJs_map]
theorem ba_cut (s : Bs) (a b : Nat) : (ByteArray.mk s.toArray).extract a b = ⟨((s.drop a).take (b - a)).toArray⟩ := by
 apply ByteArray.ext
 simp [ByteArray.data_extract]
@[go_sem] theorem ba_end (s : Bs) (a : Nat) : (ByteArray.mk s.toArray).extract a s.length = ⟨(s.drop a).toArray⟩ := by
 rw [ba_cut, List.take_of_length_le (by simp)]
theorem or_u8 (c d : UInt8) : orI .u8 c.toNat d.toNat = ((c ||| d).toNat : Int) := by
 have e : (BitVec.ofInt 8 (c.toNat : Int) ||| BitVec.ofInt 8 (d.toNat : Int)) = (c ||| d).toBitVec := by
  rw [UInt8.toBitVec_or]
  congr 1 <;> (apply BitVec.eq_of_toNat_eq; simp)
 have h : (c ||| d).toNat < 256 := UInt8.toNat_lt _
 show IntKind.u8.wrap (BitVec.ofInt 8 (c.toNat : Int) ||| BitVec.ofInt 8 (d.toNat : Int)).toNat = _
 rw [e, IntKind.wrap_u8]
 show (((c ||| d).toNat : Int)) % 256 = _
 omega
theorem cJ_mk (k : Int) (t : Bs) (ns : List Bs) (xs : List JV) : cJ (.mk k t ns xs) = [dI k, dS t, dSs ns, .sl 4 (xs.map cJ)] := by
 simp [cJ, cJs_map]
def fP (p e : Nat) : List PanicEntry := panE 74 (.agg #[.int .i64 p, .int .i64 e])
@[go_sem] abbrev rdE (g : Nat) (s : Bs) (a n : Nat) : List (Nat × (Nat × Blk)) := [(900002, (g, .box [dS s, dI a, dI n]))]
@[go_sem] abbrev pR (g : Nat) : D := .ptr 900002 g 0
end Go.Proofs.YtkgmecjaejaehaaGreatDoor
namespace Go.Proofs
open Go.Shelf
def Tryz.lays169_ren : Go.Shelf.Ren := ⟨fun | 169 => 91 | n => n, fun | 70 => 129 | 9 => 9 | 0 => 0 | 72 => 132 | 37 => 130 | 127 => 197 | 3 => 3 | 5 => 5 | n => n, fun | n => n⟩
theorem Tryz.lays169 : Go.Proofs.Lays.n169 Tryz.prog Tryz.lays169_ren := {
 mixed := by kernel_rfl
 f169 := Tryz.func91.trans (congrArg some (by kernel_rfl))
 t0 := Tryz.underlying0
 a0 := Tryz.isAgg0
 z0 := Tryz.sizeOf0
 v0 := Tryz.zeroValue0
 t3 := Tryz.underlying3
 a3 := Tryz.isAgg3
 z3 := Tryz.sizeOf3
 v3 := Tryz.zeroValue3
 t9 := Tryz.underlying9
 a9 := Tryz.isAgg9
 z9 := Tryz.sizeOf9
 v9 := Tryz.zeroValue9
 t37 := Tryz.underlying130
 a37 := Tryz.isAgg130
 z37 := Tryz.sizeOf130
 v37 := Tryz.zeroValue130
 t70 := Tryz.underlying129
 a70 := Tryz.isAgg129
 z70 := Tryz.sizeOf129
 v70 := Tryz.zeroValue129
 t72 := Tryz.underlying132
 a72 := Tryz.isAgg132
 z72 := Tryz.sizeOf132
 v72 := Tryz.zeroValue132
 t127 := Tryz.underlying197
 a127 := Tryz.isAgg197
 z127 := Tryz.sizeOf197
 v127 := Tryz.zeroValue197 }
theorem Tryz.Builder_Extra_169 : Builder.Extra Tryz.prog Tryz.lays169_ren := {
 sizeBuilder := by kernel_rfl
 liesBuilder := by kernel_rfl
 t5 := Tryz.underlying5
 a5 := Tryz.isAgg5
 z5 := Tryz.sizeOf5
 v5 := Tryz.zeroValue5
 infoByte := by kernel_rfl
 cellsByte := by kernel_rfl
 sizeByte := by kernel_rfl
 neB5 := by decide }
def Tryz.lays160_ren : Go.Shelf.Ren := ⟨fun | 160 => 109 | 232 => 155 | 231 => 154 | 227 => 156 | 234 => 158 | 233 => 157 | 236 => 160 | 235 => 159 | 228 => 191 | 271 => 193 | 151 => 192 | 197 => 130 | 120 => 225 | 152 => 224 | 260 => 172 | 137 => 82 | 119 => 248 | 224 => 246 | 225 => 245 | 217 => 133 | 266 => 174 | n => n, fun | 9 => 9 | 4 => 4 | 3 => 3 | 5 => 5 | 117 => 207 | 116 => 206 | 0 => 0 | 124 => 210 | 21 => 21 | 105 => 186 | 46 => 38 | 119 => 125 | 139 => 128 | 138 => 127 | n => n, fun | 3 => 0 | 4 => 1 | n => n⟩
theorem Tryz.lays160 : Go.Proofs.Lays.n160 Tryz.prog Tryz.lays160_ren := {
 mixed := by kernel_rfl
 f119 := Tryz.func248.trans (congrArg some (by kernel_rfl))
 f120 := Tryz.func225.trans (congrArg some (by kernel_rfl))
 f137 := Tryz.func82.trans (congrArg some (by kernel_rfl))
 f151 := Tryz.func192.trans (congrArg some (by kernel_rfl))
 f152 := Tryz.func224.trans (congrArg some (by kernel_rfl))
 f160 := Tryz.func109.trans (congrArg some (by kernel_rfl))
 f197 := Tryz.func130.trans (congrArg some (by kernel_rfl))
 f217 := Tryz.func133.trans (congrArg some (by kernel_rfl))
 f224 := Tryz.func246.trans (congrArg some (by kernel_rfl))
 f225 := Tryz.func245.trans (congrArg some (by kernel_rfl))
 f227 := Tryz.func156.trans (congrArg some (by kernel_rfl))
 f228 := Tryz.func191.trans (congrArg some (by kernel_rfl))
 f231 := Tryz.func154.trans (congrArg some (by kernel_rfl))
 f232 := Tryz.func155.trans (congrArg some (by kernel_rfl))
 f233 := Tryz.func157.trans (congrArg some (by kernel_rfl))
 f234 := Tryz.func158.trans (congrArg some (by kernel_rfl))
 f235 := Tryz.func159.trans (congrArg some (by kernel_rfl))
 f236 := Tryz.func160.trans (congrArg some (by kernel_rfl))
 f260 := Tryz.func172.trans (congrArg some (by kernel_rfl))
 f266 := Tryz.func174.trans (congrArg some (by kernel_rfl))
 f271 := Tryz.func193.trans (congrArg some (by kernel_rfl))
 t0 := Tryz.underlying0
 a0 := Tryz.isAgg0
 z0 := Tryz.sizeOf0
 v0 := Tryz.zeroValue0
 t3 := Tryz.underlying3
 a3 := Tryz.isAgg3
 z3 := Tryz.sizeOf3
 v3 := Tryz.zeroValue3
 t4 := Tryz.underlying4
 a4 := Tryz.isAgg4
 z4 := Tryz.sizeOf4
 v4 := Tryz.zeroValue4
 t5 := Tryz.underlying5
 a5 := Tryz.isAgg5
 z5 := Tryz.sizeOf5
 v5 := Tryz.zeroValue5
 t9 := Tryz.underlying9
 a9 := Tryz.isAgg9
 z9 := Tryz.sizeOf9
 v9 := Tryz.zeroValue9
 t21 := Tryz.underlying21
 a21 := Tryz.isAgg21
 z21 := Tryz.sizeOf21
 v21 := Tryz.zeroValue21
 t46 := Tryz.underlying38
 a46 := Tryz.isAgg38
 z46 := Tryz.sizeOf38
 v46 := Tryz.zeroValue38
 t105 := Tryz.underlying186
 a105 := Tryz.isAgg186
 z105 := Tryz.sizeOf186
 v105 := Tryz.zeroValue186
 t116 := Tryz.underlying206
 a116 := Tryz.isAgg206
 z116 := Tryz.sizeOf206
 t117 := Tryz.underlying207
 a117 := Tryz.isAgg207
 z117 := Tryz.sizeOf207
 v117 := Tryz.zeroValue207
 t119 := Tryz.underlying125
 a119 := Tryz.isAgg125
 z119 := Tryz.sizeOf125
 t124 := Tryz.underlying210
 a124 := Tryz.isAgg210
 z124 := Tryz.sizeOf210
 v124 := Tryz.zeroValue210
 t138 := Tryz.underlying127
 a138 := Tryz.isAgg127
 z138 := Tryz.sizeOf127
 v138 := Tryz.zeroValue127
 t139 := Tryz.underlying128
 a139 := Tryz.isAgg128
 z139 := Tryz.sizeOf128
 v139 := Tryz.zeroValue128
 g3 := by kernel_rfl
 g4 := by kernel_rfl }
def Tryz.lays137_ren : Go.Shelf.Ren := ⟨fun | 137 => 82 | 217 => 133 | 266 => 174 | n => n, fun | 9 => 9 | 5 => 5 | 3 => 3 | n => n, fun | n => n⟩
theorem Tryz.lays137 : Go.Proofs.Lays.n137 Tryz.prog Tryz.lays137_ren := {
 mixed := by kernel_rfl
 f137 := Tryz.func82.trans (congrArg some (by kernel_rfl))
 f217 := Tryz.func133.trans (congrArg some (by kernel_rfl))
 f266 := Tryz.func174.trans (congrArg some (by kernel_rfl))
 t3 := Tryz.underlying3
 a3 := Tryz.isAgg3
 z3 := Tryz.sizeOf3
 v3 := Tryz.zeroValue3
 t5 := Tryz.underlying5
 a5 := Tryz.isAgg5
 z5 := Tryz.sizeOf5
 v5 := Tryz.zeroValue5
 t9 := Tryz.underlying9
 a9 := Tryz.isAgg9
 z9 := Tryz.sizeOf9
 v9 := Tryz.zeroValue9 }
open Go.RowKit in
theorem Tryz.strings_IndexByte (s : ByteArray) (c : Int) (w : World) :
  Calls Tryz.prog 82 #[.string s, .int .u8 c] w fun e w' => e = .returned (.int .i64 (Lib.indexByte s.data.toList c.toNat.toUInt8)) ∧ w' = w := Any.strings_IndexByte Tryz.lays137 s c w
def Tryz.lays144_ren : Go.Shelf.Ren := ⟨fun | 144 => 152 | 143 => 190 | 219 => 223 | 217 => 133 | 225 => 245 | 224 => 246 | 267 => 247 | 266 => 174 | 314 => 257 | n => n, fun | 9 => 9 | 4 => 4 | 3 => 3 | 5 => 5 | 46 => 38 | 146 => 246 | 51 => 153 | n => n, fun | 1 => 2 | n => n⟩
theorem Tryz.lays144 : Go.Proofs.Lays.n144 Tryz.prog Tryz.lays144_ren := {
 mixed := by kernel_rfl
 f143 := Tryz.func190.trans (congrArg some (by kernel_rfl))
 f144 := Tryz.func152.trans (congrArg some (by kernel_rfl))
 f217 := Tryz.func133.trans (congrArg some (by kernel_rfl))
 f219 := Tryz.func223.trans (congrArg some (by kernel_rfl))
 f224 := Tryz.func246.trans (congrArg some (by kernel_rfl))
 f225 := Tryz.func245.trans (congrArg some (by kernel_rfl))
 f266 := Tryz.func174.trans (congrArg some (by kernel_rfl))
 f267 := Tryz.func247.trans (congrArg some (by kernel_rfl))
 f314 := Tryz.func257.trans (congrArg some (by kernel_rfl))
 t3 := Tryz.underlying3
 a3 := Tryz.isAgg3
 z3 := Tryz.sizeOf3
 v3 := Tryz.zeroValue3
 t4 := Tryz.underlying4
 a4 := Tryz.isAgg4
 z4 := Tryz.sizeOf4
 v4 := Tryz.zeroValue4
 t5 := Tryz.underlying5
 a5 := Tryz.isAgg5
 z5 := Tryz.sizeOf5
 v5 := Tryz.zeroValue5
 t9 := Tryz.underlying9
 a9 := Tryz.isAgg9
 z9 := Tryz.sizeOf9
 v9 := Tryz.zeroValue9
 t46 := Tryz.underlying38
 a46 := Tryz.isAgg38
 z46 := Tryz.sizeOf38
 v46 := Tryz.zeroValue38
 t51 := Tryz.underlying153
 a51 := Tryz.isAgg153
 z51 := Tryz.sizeOf153
 v51 := Tryz.zeroValue153
 t146 := Tryz.underlying246
 a146 := Tryz.isAgg246
 z146 := Tryz.sizeOf246
 v146 := Tryz.zeroValue246
 g1 := by kernel_rfl }
open Go.RowKit Go.Lib in
theorem Tryz.strings_Contains_one (s : ByteArray) (c : UInt8) (w : World) :
  Calls Tryz.prog 152 #[.string s, .string ⟨#[c]⟩] w fun e w' => e = .returned (.bool (decide (0 ≤ Lib.indexByte s.data.toList c))) ∧ w' = w := Any.strings_Contains_one Tryz.lays144 s c w
def Tryz.lays190_ren : Go.Shelf.Ren := ⟨fun | 190 => 146 | 125 => 182 | 258 => 181 | 128 => 214 | 129 => 215 | 302 => 205 | 303 => 206 | 304 => 207 | 305 => 208 | 306 => 209 | 307 => 210 | 308 => 211 | 309 => 212 | 310 => 213 | 333 => 230 | 329 => 231 | 330 => 232 | 334 => 233 | 335 => 234 | 336 => 235 | 344 => 249 | n => n, fun | 31 => 23 | 9 => 9 | 3 => 3 | 46 => 38 | 0 => 0 | 51 => 153 | 53 => 196 | 4 => 4 | 183 => 256 | 182 => 255 | 131 => 194 | 5 => 5 | 218 => 281 | 222 => 100 | 228 => 296 | 229 => 189 | n => n, fun | n => n⟩
theorem Tryz.lays190 : Go.Proofs.Lays.n190 Tryz.prog Tryz.lays190_ren := {
 mixed := by kernel_rfl
 f125 := Tryz.func182.trans (congrArg some (by kernel_rfl))
 f128 := Tryz.func214.trans (congrArg some (by kernel_rfl))
 f129 := Tryz.func215.trans (congrArg some (by kernel_rfl))
 f190 := Tryz.func146.trans (congrArg some (by kernel_rfl))
 f258 := Tryz.func181.trans (congrArg some (by kernel_rfl))
 f302 := Tryz.func205.trans (congrArg some (by kernel_rfl))
 f303 := Tryz.func206.trans (congrArg some (by kernel_rfl))
 f304 := Tryz.func207.trans (congrArg some (by kernel_rfl))
 f305 := Tryz.func208.trans (congrArg some (by kernel_rfl))
 f306 := Tryz.func209.trans (congrArg some (by kernel_rfl))
 f307 := Tryz.func210.trans (congrArg some (by kernel_rfl))
 f308 := Tryz.func211.trans (congrArg some (by kernel_rfl))
 f309 := Tryz.func212.trans (congrArg some (by kernel_rfl))
 f310 := Tryz.func213.trans (congrArg some (by kernel_rfl))
 f329 := Tryz.func231.trans (congrArg some (by kernel_rfl))
 f330 := Tryz.func232.trans (congrArg some (by kernel_rfl))
 f333 := Tryz.func230.trans (congrArg some (by kernel_rfl))
 f334 := Tryz.func233.trans (congrArg some (by kernel_rfl))
 f335 := Tryz.func234.trans (congrArg some (by kernel_rfl))
 f336 := Tryz.func235.trans (congrArg some (by kernel_rfl))
 f344 := Tryz.func249.trans (congrArg some (by kernel_rfl))
 t0 := Tryz.underlying0
 a0 := Tryz.isAgg0
 z0 := Tryz.sizeOf0
 v0 := Tryz.zeroValue0
 t3 := Tryz.underlying3
 a3 := Tryz.isAgg3
 z3 := Tryz.sizeOf3
 v3 := Tryz.zeroValue3
 t4 := Tryz.underlying4
 a4 := Tryz.isAgg4
 z4 := Tryz.sizeOf4
 v4 := Tryz.zeroValue4
 t5 := Tryz.underlying5
 a5 := Tryz.isAgg5
 z5 := Tryz.sizeOf5
 v5 := Tryz.zeroValue5
 t9 := Tryz.underlying9
 a9 := Tryz.isAgg9
 z9 := Tryz.sizeOf9
 v9 := Tryz.zeroValue9
 t31 := Tryz.underlying23
 a31 := Tryz.isAgg23
 z31 := Tryz.sizeOf23
 v31 := Tryz.zeroValue23
 t46 := Tryz.underlying38
 a46 := Tryz.isAgg38
 z46 := Tryz.sizeOf38
 v46 := Tryz.zeroValue38
 t51 := Tryz.underlying153
 a51 := Tryz.isAgg153
 z51 := Tryz.sizeOf153
 v51 := Tryz.zeroValue153
 t53 := Tryz.underlying196
 a53 := Tryz.isAgg196
 z53 := Tryz.sizeOf196
 v53 := Tryz.zeroValue196
 t131 := Tryz.underlying194
 a131 := Tryz.isAgg194
 z131 := Tryz.sizeOf194
 v131 := Tryz.zeroValue194
 t182 := Tryz.underlying255
 a182 := Tryz.isAgg255
 z182 := Tryz.sizeOf255
 v182 := Tryz.zeroValue255
 t183 := Tryz.underlying256
 a183 := Tryz.isAgg256
 z183 := Tryz.sizeOf256
 v183 := Tryz.zeroValue256
 t218 := Tryz.underlying281
 a218 := Tryz.isAgg281
 z218 := Tryz.sizeOf281
 v218 := Tryz.zeroValue281
 t222 := Tryz.underlying100
 a222 := Tryz.isAgg100
 z222 := Tryz.sizeOf100
 v222 := Tryz.zeroValue100
 t228 := Tryz.underlying296
 a228 := Tryz.isAgg296
 z228 := Tryz.sizeOf296
 v228 := Tryz.zeroValue296
 t229 := Tryz.underlying189
 a229 := Tryz.isAgg189
 z229 := Tryz.sizeOf189
 v229 := Tryz.zeroValue189 }
open Go.Sort Go.RowKit in
theorem Tryz.slices_Sort_string (blk off cap : Nat) (ss : List (List UInt8)) (w : World) (hH : Holds encStr w blk off ss.toArray) (hblk : blk < w.heap.size) (hsz : ss.length < 4611686018427387904) :
  Calls Tryz.prog 146 #[.slice (some ⟨blk, off, none⟩) ss.length cap] w fun e w' =>
   e = .returned (.tuple #[]) ∧ ∃ n os, w' = grow (putRow encStr (Sort.ahead w n) blk off (ss.mergeSort fun x y => decide (x ≤ y)).toArray) os := Any.slices_Sort_string Tryz.lays190 blk off cap ss w hH hblk hsz
def Tryz.lays99_ren : Go.Shelf.Ren := ⟨fun | 99 => 163 | 206 => 196 | n => n, fun | 9 => 9 | 4 => 4 | 3 => 3 | n => n, fun | n => n⟩
theorem Tryz.lays99 : Go.Proofs.Lays.n99 Tryz.prog Tryz.lays99_ren := {
 mixed := by kernel_rfl
 f99 := Tryz.func163.trans (congrArg some (by kernel_rfl))
 f206 := Tryz.func196.trans (congrArg some (by kernel_rfl))
 t3 := Tryz.underlying3
 a3 := Tryz.isAgg3
 z3 := Tryz.sizeOf3
 v3 := Tryz.zeroValue3
 t4 := Tryz.underlying4
 a4 := Tryz.isAgg4
 z4 := Tryz.sizeOf4
 v4 := Tryz.zeroValue4
 t9 := Tryz.underlying9
 a9 := Tryz.isAgg9
 z9 := Tryz.sizeOf9
 v9 := Tryz.zeroValue9 }
open Go.RowKit Go.Lib in
theorem Tryz.strings_HasPrefix (s p : ByteArray) (w : World) :
  Calls Tryz.prog 163 #[.string s, .string p] w fun e w' => e = .returned (.bool (Lib.hasPrefix s.data.toList p.data.toList)) ∧ w' = w := Any.strings_HasPrefix Tryz.lays99 s p w
def Tryz.lays146_ren : Go.Shelf.Ren := ⟨fun | 146 => 151 | 221 => 189 | 268 => 222 | 138 => 198 | 143 => 190 | 195 => 227 | 197 => 130 | 218 => 228 | 219 => 223 | 260 => 172 | 217 => 133 | 225 => 245 | 224 => 246 | 267 => 247 | 266 => 174 | 314 => 257 | n => n, fun | 9 => 9 | 31 => 23 | 3 => 3 | 4 => 4 | 0 => 0 | 105 => 186 | 21 => 21 | 5 => 5 | 46 => 38 | 119 => 125 | 139 => 128 | 138 => 127 | 146 => 246 | 51 => 153 | n => n, fun | 1 => 2 | 3 => 0 | 4 => 1 | n => n⟩
theorem Tryz.lays146 : Go.Proofs.Lays.n146 Tryz.prog Tryz.lays146_ren := {
 mixed := by kernel_rfl
 f138 := Tryz.func198.trans (congrArg some (by kernel_rfl))
 f143 := Tryz.func190.trans (congrArg some (by kernel_rfl))
 f146 := Tryz.func151.trans (congrArg some (by kernel_rfl))
 f195 := Tryz.func227.trans (congrArg some (by kernel_rfl))
 f197 := Tryz.func130.trans (congrArg some (by kernel_rfl))
 f217 := Tryz.func133.trans (congrArg some (by kernel_rfl))
 f218 := Tryz.func228.trans (congrArg some (by kernel_rfl))
 f219 := Tryz.func223.trans (congrArg some (by kernel_rfl))
 f221 := Tryz.func189.trans (congrArg some (by kernel_rfl))
 f224 := Tryz.func246.trans (congrArg some (by kernel_rfl))
 f225 := Tryz.func245.trans (congrArg some (by kernel_rfl))
 f260 := Tryz.func172.trans (congrArg some (by kernel_rfl))
 f266 := Tryz.func174.trans (congrArg some (by kernel_rfl))
 f267 := Tryz.func247.trans (congrArg some (by kernel_rfl))
 f268 := Tryz.func222.trans (congrArg some (by kernel_rfl))
 f314 := Tryz.func257.trans (congrArg some (by kernel_rfl))
 t0 := Tryz.underlying0
 a0 := Tryz.isAgg0
 z0 := Tryz.sizeOf0
 v0 := Tryz.zeroValue0
 t3 := Tryz.underlying3
 a3 := Tryz.isAgg3
 z3 := Tryz.sizeOf3
 v3 := Tryz.zeroValue3
 t4 := Tryz.underlying4
 a4 := Tryz.isAgg4
 z4 := Tryz.sizeOf4
 v4 := Tryz.zeroValue4
 t5 := Tryz.underlying5
 a5 := Tryz.isAgg5
 z5 := Tryz.sizeOf5
 v5 := Tryz.zeroValue5
 t9 := Tryz.underlying9
 a9 := Tryz.isAgg9
 z9 := Tryz.sizeOf9
 v9 := Tryz.zeroValue9
 t21 := Tryz.underlying21
 a21 := Tryz.isAgg21
 z21 := Tryz.sizeOf21
 v21 := Tryz.zeroValue21
 t31 := Tryz.underlying23
 a31 := Tryz.isAgg23
 z31 := Tryz.sizeOf23
 v31 := Tryz.zeroValue23
 t46 := Tryz.underlying38
 a46 := Tryz.isAgg38
 z46 := Tryz.sizeOf38
 v46 := Tryz.zeroValue38
 t51 := Tryz.underlying153
 a51 := Tryz.isAgg153
 z51 := Tryz.sizeOf153
 v51 := Tryz.zeroValue153
 t105 := Tryz.underlying186
 a105 := Tryz.isAgg186
 z105 := Tryz.sizeOf186
 v105 := Tryz.zeroValue186
 t119 := Tryz.underlying125
 a119 := Tryz.isAgg125
 z119 := Tryz.sizeOf125
 t138 := Tryz.underlying127
 a138 := Tryz.isAgg127
 z138 := Tryz.sizeOf127
 v138 := Tryz.zeroValue127
 t139 := Tryz.underlying128
 a139 := Tryz.isAgg128
 z139 := Tryz.sizeOf128
 v139 := Tryz.zeroValue128
 t146 := Tryz.underlying246
 a146 := Tryz.isAgg246
 z146 := Tryz.sizeOf246
 v146 := Tryz.zeroValue246
 g1 := by kernel_rfl
 g3 := by kernel_rfl
 g4 := by kernel_rfl }
open Go.RowKit Go.Lib in
theorem Tryz.strings_Split (s sep : ByteArray) (m : Int) (w : World) (hs : s.size < 4294967281) (hm : w.cell? ⟨2, 0, none⟩ = some (.int .i64 m)) (h1 : 1 ≤ sep.size) :
  Calls Tryz.prog 151 #[.string s, .string sep] w fun e w' =>
   e = .returned (.slice (some ⟨w.heap.size, 0, none⟩) (Lib.countB s sep + 1) (Lib.countB s sep + 1)) ∧ w' = w.alloc (.cells ((Lib.splitB sep 0 (Lib.countB s sep) s).map Value.string).toArray 9) := Any.strings_Split Tryz.lays146 (by kernel_rfl) s sep m w hs hm h1
def Tryz.lays197_ren : Go.Shelf.Ren := ⟨fun | 197 => 130 | 260 => 172 | n => n, fun | 9 => 9 | 21 => 21 | 3 => 3 | 4 => 4 | 5 => 5 | 105 => 186 | 119 => 125 | 0 => 0 | 46 => 38 | 139 => 128 | 138 => 127 | n => n, fun | 3 => 0 | 4 => 1 | n => n⟩
theorem Tryz.lays197 : Go.Proofs.Lays.n197 Tryz.prog Tryz.lays197_ren := {
 mixed := by kernel_rfl
 f197 := Tryz.func130.trans (congrArg some (by kernel_rfl))
 f260 := Tryz.func172.trans (congrArg some (by kernel_rfl))
 t0 := Tryz.underlying0
 a0 := Tryz.isAgg0
 z0 := Tryz.sizeOf0
 v0 := Tryz.zeroValue0
 t3 := Tryz.underlying3
 a3 := Tryz.isAgg3
 z3 := Tryz.sizeOf3
 v3 := Tryz.zeroValue3
 t4 := Tryz.underlying4
 a4 := Tryz.isAgg4
 z4 := Tryz.sizeOf4
 v4 := Tryz.zeroValue4
 t5 := Tryz.underlying5
 a5 := Tryz.isAgg5
 z5 := Tryz.sizeOf5
 v5 := Tryz.zeroValue5
 t9 := Tryz.underlying9
 a9 := Tryz.isAgg9
 z9 := Tryz.sizeOf9
 v9 := Tryz.zeroValue9
 t21 := Tryz.underlying21
 a21 := Tryz.isAgg21
 z21 := Tryz.sizeOf21
 v21 := Tryz.zeroValue21
 t46 := Tryz.underlying38
 a46 := Tryz.isAgg38
 z46 := Tryz.sizeOf38
 v46 := Tryz.zeroValue38
 t105 := Tryz.underlying186
 a105 := Tryz.isAgg186
 z105 := Tryz.sizeOf186
 v105 := Tryz.zeroValue186
 t119 := Tryz.underlying125
 a119 := Tryz.isAgg125
 z119 := Tryz.sizeOf125
 t138 := Tryz.underlying127
 a138 := Tryz.isAgg127
 z138 := Tryz.sizeOf127
 v138 := Tryz.zeroValue127
 t139 := Tryz.underlying128
 a139 := Tryz.isAgg128
 z139 := Tryz.sizeOf128
 v139 := Tryz.zeroValue128
 g3 := by kernel_rfl
 g4 := by kernel_rfl }
def Tryz.lays260_ren : Go.Shelf.Ren := ⟨fun | 260 => 172 | n => n, fun | 9 => 9 | 21 => 21 | 3 => 3 | 4 => 4 | 5 => 5 | 119 => 125 | 0 => 0 | 46 => 38 | 139 => 128 | 138 => 127 | n => n, fun | 3 => 0 | 4 => 1 | n => n⟩
theorem Tryz.lays260 : Go.Proofs.Lays.n260 Tryz.prog Tryz.lays260_ren := {
 mixed := by kernel_rfl
 f260 := Tryz.func172.trans (congrArg some (by kernel_rfl))
 t0 := Tryz.underlying0
 a0 := Tryz.isAgg0
 z0 := Tryz.sizeOf0
 v0 := Tryz.zeroValue0
 t3 := Tryz.underlying3
 a3 := Tryz.isAgg3
 z3 := Tryz.sizeOf3
 v3 := Tryz.zeroValue3
 t4 := Tryz.underlying4
 a4 := Tryz.isAgg4
 z4 := Tryz.sizeOf4
 v4 := Tryz.zeroValue4
 t5 := Tryz.underlying5
 a5 := Tryz.isAgg5
 z5 := Tryz.sizeOf5
 v5 := Tryz.zeroValue5
 t9 := Tryz.underlying9
 a9 := Tryz.isAgg9
 z9 := Tryz.sizeOf9
 v9 := Tryz.zeroValue9
 t21 := Tryz.underlying21
 a21 := Tryz.isAgg21
 z21 := Tryz.sizeOf21
 v21 := Tryz.zeroValue21
 t46 := Tryz.underlying38
 a46 := Tryz.isAgg38
 z46 := Tryz.sizeOf38
 v46 := Tryz.zeroValue38
 t119 := Tryz.underlying125
 a119 := Tryz.isAgg125
 z119 := Tryz.sizeOf125
 t138 := Tryz.underlying127
 a138 := Tryz.isAgg127
 z138 := Tryz.sizeOf127
 v138 := Tryz.zeroValue127
 t139 := Tryz.underlying128
 a139 := Tryz.isAgg128
 z139 := Tryz.sizeOf128
 v139 := Tryz.zeroValue128
 g3 := by kernel_rfl
 g4 := by kernel_rfl }
open Go.RowKit Go.Lib in
theorem Tryz.utf8_DecodeRuneInString (s : ByteArray) (w : World) (hT : Lib.Utf8Tabs 0 1 w) :
  Calls Tryz.prog 130 #[.string s] w fun e w' => e = .returned (.tuple #[.int .i32 (Lib.decodeGo s).1, .int .i64 (Lib.decodeGo s).2]) ∧ Below w.heap.size w w' := Any.utf8_DecodeRuneInString Tryz.lays197 s w hT
def Tryz.lays194_ren : Go.Shelf.Ren := ⟨fun | 194 => 141 | n => n, fun | 31 => 23 | 9 => 9 | 3 => 3 | 4 => 4 | 0 => 0 | n => n, fun | n => n⟩
theorem Tryz.lays194 : Go.Proofs.Lays.n194 Tryz.prog Tryz.lays194_ren := {
 mixed := by kernel_rfl
 f194 := Tryz.func141.trans (congrArg some (by kernel_rfl))
 t0 := Tryz.underlying0
 a0 := Tryz.isAgg0
 z0 := Tryz.sizeOf0
 v0 := Tryz.zeroValue0
 t3 := Tryz.underlying3
 a3 := Tryz.isAgg3
 z3 := Tryz.sizeOf3
 v3 := Tryz.zeroValue3
 t4 := Tryz.underlying4
 a4 := Tryz.isAgg4
 z4 := Tryz.sizeOf4
 v4 := Tryz.zeroValue4
 t9 := Tryz.underlying9
 a9 := Tryz.isAgg9
 z9 := Tryz.sizeOf9
 v9 := Tryz.zeroValue9
 t31 := Tryz.underlying23
 a31 := Tryz.isAgg23
 z31 := Tryz.sizeOf23
 v31 := Tryz.zeroValue23 }
open Go.RowKit Go.Lib Go.Sort in
theorem Tryz.slices_Compact_string (blk off cap : Nat) (zs : List (List UInt8)) (w : World) (hH : Holds encStr w blk off zs.toArray) (hsz : zs.length ≤ 9223372036854775807) (hcap : zs.length ≤ cap) :
  Calls Tryz.prog 141 #[.slice (some ⟨blk, off, none⟩) zs.length cap] w fun e w' => e = .returned (.slice (some ⟨blk, off, none⟩) (Lib.compact zs).length cap) ∧ ∃ q, w' = putRow encStr (Sort.ahead w q) blk off (Lib.compact zs ++ List.replicate (zs.length - (Lib.compact zs).length) []).toArray := Any.slices_Compact_string Tryz.lays194 blk off cap zs w hH hsz hcap
open Go.RowKit Go.Lib Go.Sort in
theorem Tryz.slices_Compact_string_empty (a : Option Addr) (cap : Nat) (w : World) :
  Calls Tryz.prog 141 #[.slice a 0 cap] w fun e w' => e = .returned (.slice a 0 cap) ∧ w' = w := Any.slices_Compact_string_empty Tryz.lays194 a cap w
open Go.RowKit Go.Sort in
theorem Tryz.slices_Sort_string_none (p : Option Addr) (cap : Nat) (w : World) :
  Calls Tryz.prog 146 #[.slice p 0 cap] w fun e w' => e = .returned (.tuple #[]) ∧ w' = w := Any.slices_Sort_string_none Tryz.lays190 p cap w
end Go.Proofs
namespace Go.Proofs.YtkgmecjaejaehaaGreatDoor
open Go.Eng Go.WideShapes Go.Js
set_option maxRecDepth 100000
theorem own : ownKnob Tryz.prog.godebug = none := by kernel_rfl
theorem laidOut : laidOutB Tryz.prog = true := by kernel_rfl
/-! the types of the laws' parameters -/
/-! what is listed of the package-level variables -/
theorem first_data : (Rows.laid_unicode_utf8_first : DataW Unit) = Lib.firstData := by kernel_rfl
theorem accept_data : (Rows.laid_unicode_utf8_acceptRanges : DataW Unit) = Lib.acceptData := by kernel_rfl
theorem u8x : Go.Proofs.U8Extra Tryz.prog Tryz.lays260_ren := ⟨by kernel_rfl, by kernel_rfl, by kernel_rfl, by kernel_rfl, by kernel_rfl, by kernel_rfl, by kernel_rfl⟩
theorem globOk_of {W : World} (hL : laidMet Tryz.prog [("unicode/utf8.acceptRanges", (Rows.laid_unicode_utf8_acceptRanges : DataW Unit)), ("unicode/utf8.first", (Rows.laid_unicode_utf8_first : DataW Unit))] W) (hsh : W.ShapedOpen Tryz.prog) : GlobOk Tryz.prog noCtx W := by
 have hlt : ∀ b o v, W.cell? ⟨b, o, none⟩ = some v → b < W.heap.size := fun b o v h => cell_lt h
 rw [first_data, accept_data] at hL
 have hT : Lib.Utf8Tabs 0 1 W := Go.Proofs.utf8Tabs_of_reads Tryz.lays260 u8x (Lib.laidMet.reads hL (by simp)) (Lib.laidMet.reads hL (by simp))
 obtain ⟨m, hm⟩ := cell_of_shapedOpen_int (g := 2) (t := 3) (zero := #[.int .i64 0]) hsh (by decide +kernel) (by kernel_rfl) rfl (by kernel_rfl) (by kernel_rfl) Tryz.underlying3
 refine ⟨⟨hT, ⟨m, hm⟩⟩, fun b hb => ⟨(fun ⟨s, g, u, h, _⟩ => by cases h), ?_⟩⟩
 have hb' : b = 0 ∨ b = 1 ∨ b = 2 := by
  have : b ∈ [0, 1, 2] := hb
  simpa using this
 rcases hb' with rfl | rfl | rfl
 ·exact hlt _ _ _ (hT.1 0 (by decide))
 ·exact hlt _ _ _ (hT.2 0 (by decide)).1
 ·exact hlt _ _ _ hm
theorem wrap {H : Type} {enc : TypeId × Value → H} {a : Assume} {C : Checked} {os : Os} {f : FuncId} {fn : Func} {s : ChangeSpec} {conds : List PathCond} {apart fresh handsOn again : Bool} {X : World → Array Value → Prop}
  (hX : ∀ (w w' : World) (args : Array Value), w.heap = w'.heap → X w args → X w' args)
  (own : ownKnob C.prog.godebug = none) (started : os.Started) (noInit : C.prog.inits.idxOf? f = none) (hfn : C.prog.funcs[f]? = some fn)
  (witness : ∃ (w : World) (tape : Tape) (i : Input), w.os = os ∧ (w.forCall tape i).Shaped C.prog ∧ i.vars = [] ∧ Input.okWide C.prog (w.forCall tape i) .any w.heap.size f i ∧
   ((s.pre enc C.prog fn conds apart (w.forCall tape i).memory i.args ∧ X (w.forCall tape i).memory i.args) ∧ sizedMet enc C.prog fn (OpenSpec.ofChange s) apart (w.forCall tape i).memory i.args) ∧ a.holds C.prog (lone (Frame.enter C.prog f i.args .normal) [] (w.forCall tape i)))
  (contract : ∀ (W : World) (base : Nat) (args : Array Value) (ds gs : List (DataW H)) (before : List MemPlace),
   (∀ (j : Nat) t v, fn.params[j]? = some t → args[j]? = some v → Value.okWide C.prog W .any base t v) →
   DataW.Whole enc C.prog fn.params.toList s.vars apart W args.toList ds gs before → X W args → W.ShapedOpen C.prog →
   Calls C.prog f args W fun e W' => ∃ v, e = .returned v ∧ s.post enc C.prog fn apart fresh handsOn again W args v W') :
  ReturnsInHanded a C os f .any (fun w args => (s.pre enc C.prog fn conds apart w args ∧ X w args) ∧ sizedMet enc C.prog fn (OpenSpec.ofChange s) apart w args) (s.post enc C.prog fn apart fresh handsOn again) := by
 refine returnsInHanded_of_calls own started noInit witness ?_
 intro w tape i _ hsh _ hok hpre hholds
 obtain ⟨_, _, _, fn', hfn', _, _, _, _, hval⟩ := hok
 have e : fn' = fn := Option.some.inj (hfn'.symm.trans hfn)
 subst e
 obtain ⟨⟨⟨ds, gs, before, hw, hc⟩, hx⟩, hz⟩ := hpre
 have hw' := DataW.Whole.of_heap (w' := w.forCall tape i) (by rfl) hw
 refine (contract (w.forCall tape i) w.heap.size i.args ds gs before hval hw' (hX _ _ _ (by rfl) hx) hsh).mono fun e W' ⟨v, he, hp⟩ => ?_
 subst he
 exact ChangeSpec.post_blind hp
end Go.Proofs.YtkgmecjaejaehaaGreatDoor
/-! Facts of the whole program that every row's closing asks, each checked by itself: together they outgrow the kernel's memory. -/
namespace Go.Proofs.YtkgmecjaejaehaaGreatDoor
open Go.Eng Go.Js
set_option maxRecDepth 100000
theorem joined_of {P : Program} {f : FuncId} {fn : Func} {s : ChangeSpec} {c : OpenClaim}
  (a1 : c.wf (OpenSpec.ofChange s) = true) (a2 : laidOutB P = true) (a3 : mapsRowed P = true)
  (b1 : (fn.params.all (P.readableRec ·) && namedTie P c.named s.vars && (c.stops == []) && (P.stops == []) && (c.knobs == []) && (P.stopKnobs == [])) = true)
  (c1 : (c.inPlace == P.inPlace f) = true) (c2 : (c.unfollowed == P.unfollowed f) = true) (c3 : (c.recurses == P.recurses f) = true) (c4 : (c.named == P.varsNamed f) = true)
  (d1 : ((c.maps == (fn.params.toList ++ s.plain.varTypes P).any (P.mapsRec ·)) && (c.ifaces == (fn.params.toList ++ s.plain.varTypes P).any (P.ifacesRec ·)) && (c.mapsOut == P.mapsAmong fn.resultTypes.toList) &&
 (c.loops == (fn.params.toList ++ s.plain.varTypes P).any (P.loopsFrom ·)) && (c.wideKeys == (fn.params.toList ++ s.plain.varTypes P ++ fn.resultTypes.toList).any (P.wideKeysFrom ·)) &&
 s.vars.all (P.varReadable ·) && fn.resultTypes.all (fun t => P.readableRec t && decide (t < P.types.size)) && (c.ifacesOut == fn.resultTypes.toList.any (P.ifacesRec ·)) && (c.loopsOut == fn.resultTypes.toList.any (P.loopsFrom ·))) = true)
  (e1 : (c.plainKeys == P.plainKeys) = true) (e2 : c.shortTexts.isNone = true) (e3 : P.stopsHeard = true) (e4 : P.mayEnter = true) (e5 : (c.lifted == P.liftsFinal) = true)
  (g1 : ((P.make == some c.make) && (c.kinds == (if c.domain.isEmpty then [] else fn.params.toList.map fun t => match P.underlying t with | some (.int k) => some k | _ => none)) && (c.pinned == c.pinnedBy) &&
 (c.veiled == (fn.params.toList ++ s.plain.varTypes P ++ fn.resultTypes.toList).any (P.veiledRec ·)) && c.veiledFits P fn.params.toList (fn.params.toList ++ s.plain.varTypes P ++ fn.resultTypes.toList)) = true) :
  joinedFacts P f fn s c = true := by
 unfold joinedFacts
 simp only [Bool.and_eq_true] at b1 d1 g1 ⊢
 simp only [and_assoc] at b1 d1 g1 ⊢
 obtain ⟨b1, b2, b3, b4, b5, b6⟩ := b1
 obtain ⟨d1, d2, d3, d4, d5, d6, d7, d8, d9⟩ := d1
 obtain ⟨g1, g2, g3, g4, g5⟩ := g1
 exact ⟨a1, a2, a3, b1, b2, b3, b4, b5, b6, c1, c2, c3, c4, d1, d2, d3, d4, d5, d6, d7, d8, d9, e1, e2, e3, e4, e5, g1, g2, g3, g4, g5⟩
theorem mapsRowed_is : mapsRowed Tryz.checked.prog = true := by kernel_rfl
theorem plainKeys_is : (Rows.jsonDeepRow.plainKeys == Tryz.checked.prog.plainKeys) = true := by kernel_rfl
theorem stopsHeard_is : Tryz.checked.prog.stopsHeard = true := by kernel_rfl
theorem mayEnter_is : Tryz.checked.prog.mayEnter = true := by kernel_rfl
theorem lifts_is : (Rows.jsonDeepRow.lifted == Tryz.checked.prog.liftsFinal) = true := by kernel_rfl
theorem main_is : Tryz.checked.prog.mainIs = some (true, "88a05fc15f1b15c45cc4cbec613185d29113c5f3fe561b5366dd47c1511f24d6".toList) := by kernel_rfl
theorem looks_is : true = Tryz.checked.prog.looks [] := by kernel_rfl
end Go.Proofs.YtkgmecjaejaehaaGreatDoor
namespace Go.Proofs.YtkgmecjaejaehaaGreatDoor
open Go.Eng Go.WideShapes Go.Js
set_option maxRecDepth 100000
/-! the parameters with their sizes -/
theorem oz_str : OpensZ Tryz.prog 9 (fun s : List UInt8 => [dS s]) (fun s => s.length ≤ 140737488355328) :=
 (opensZ_str Tryz.underlying9).iso (fun s => s.data.toList) (fun s => by cases s; simp) (fun s h => by
  have h : s.data.size ≤ reachBytes := h
  rw [Array.length_toList]
  unfold reachBytes at h
  omega)
theorem ovz_str : OpensZV Tryz.prog 9 (fun s : List UInt8 => dS s) (fun s => s.length ≤ 140737488355328) := opensZV_cell (by rw [Tryz.underlying9]; rfl) oz_str
theorem wrapZ {H : Type} {enc : TypeId × Value → H} {a : Assume} {C : Checked} {os : Os} {f : FuncId} {fn : Func} {s : ChangeSpec} {conds : List PathCond} {apart fresh handsOn again : Bool} {X : World → Array Value → Prop}
  (hX : ∀ (w w' : World) (args : Array Value), w.heap = w'.heap → X w args → X w' args)
  (own : ownKnob C.prog.godebug = none) (started : os.Started) (noInit : C.prog.inits.idxOf? f = none) (hfn : C.prog.funcs[f]? = some fn)
  (witness : ∃ (w : World) (tape : Tape) (i : Input), w.os = os ∧ (w.forCall tape i).Shaped C.prog ∧ i.vars = [] ∧ Input.okWide C.prog (w.forCall tape i) .any w.heap.size f i ∧
   ((s.pre enc C.prog fn conds apart (w.forCall tape i).memory i.args ∧ X (w.forCall tape i).memory i.args) ∧ sizedMet enc C.prog fn (OpenSpec.ofChange s) apart (w.forCall tape i).memory i.args) ∧ a.holds C.prog (lone (Frame.enter C.prog f i.args .normal) [] (w.forCall tape i)))
  (contract : ∀ (W : World) (base : Nat) (args : Array Value) (ds gs : List (DataW H)) (before : List MemPlace),
   (∀ (j : Nat) t v, fn.params[j]? = some t → args[j]? = some v → Value.okWide C.prog W .any base t v) →
   DataW.Whole enc C.prog fn.params.toList s.vars apart W args.toList ds gs before → sizedMet enc C.prog fn (OpenSpec.ofChange s) apart W args → X W args → W.ShapedOpen C.prog →
   Calls C.prog f args W fun e W' => ∃ v, e = .returned v ∧ s.post enc C.prog fn apart fresh handsOn again W args v W') :
  ReturnsInHanded a C os f .any (fun w args => (s.pre enc C.prog fn conds apart w args ∧ X w args) ∧ sizedMet enc C.prog fn (OpenSpec.ofChange s) apart w args) (s.post enc C.prog fn apart fresh handsOn again) := by
 refine returnsInHanded_of_calls own started noInit witness ?_
 intro w tape i _ hsh _ hok hpre hholds
 obtain ⟨_, _, _, fn', hfn', _, _, _, _, hval⟩ := hok
 have e : fn' = fn := Option.some.inj (hfn'.symm.trans hfn)
 subst e
 obtain ⟨⟨⟨ds, gs, before, hw, hc⟩, hx⟩, hp, dz, gz, bz, hwz, hlz⟩ := hpre
 have hw' := DataW.Whole.of_heap (w' := w.forCall tape i) (by rfl) hw
 have hwz' := DataW.Whole.of_heap (w' := w.forCall tape i) (by rfl) hwz
 refine (contract (w.forCall tape i) w.heap.size i.args ds gs before hval hw' ⟨hp, dz, gz, bz, hwz', hlz⟩ (hX _ _ _ (by rfl) hx) hsh).mono fun e W' ⟨v, he, hp⟩ => ?_
 subst he
 exact ChangeSpec.post_blind hp
end Go.Proofs.YtkgmecjaejaehaaGreatDoor
namespace Go.Js
/-! the library's plain functions, told by this chapter's -/
theorem indexByte_find (s : List UInt8) (c : UInt8) : Lib.indexByte s c = if s.findIdx (· == c) < s.length then (s.findIdx (· == c) : Int) else -1 := by
 induction s with
 | nil => rfl
 | cons b l ih =>
  unfold Lib.indexByte
  rw [ih, List.findIdx_cons]
  by_cases h : (b == c) = true
  ·simp [h]
  ·rw [Bool.not_eq_true] at h
   simp only [h, Bool.false_eq_true, if_false, cond_false, List.length_cons]
   generalize l.findIdx (· == c) = n
   by_cases h2 : n < l.length
   ·simp only [if_pos h2]
    rw [if_neg (by rw [beq_iff_eq]; omega), if_pos (by omega)]
    simp
   ·simp only [if_neg h2]
    rw [if_pos (by decide), if_neg (by omega)]
def idxV (s : List UInt8) (c : UInt8) : Int := if s.findIdx (· == c) < s.length then (s.findIdx (· == c) : Int) else -1
theorem u8_all {p : UInt8 → Bool} (h : ∀ n < 256, p (UInt8.ofNat n) = true) (c : UInt8) : p c = true := by
 have := h c.toNat (UInt8.toNat_lt c)
 simpa using this
theorem idx_blank (c : UInt8) : (0 ≤ idxV [32, 9, 10, 13] c) ↔ isBl c = true := by
 have h : ∀ c : UInt8, (decide (0 ≤ idxV [32, 9, 10, 13] c) == isBl c) = true := u8_all (by decide +kernel)
 have := h c
 rw [beq_iff_eq] at this
 rw [← this]; simp
def stkI : Option Nat → Int
 | some k => k
 | none => -1
def numG (t : List UInt8) (f : Nat) : Nat × Option Nat :=
 let n := digE t f
 if n = f then (n, some n)
 else if t[f]? = some 48 ∧ f + 1 < n then (f + 1, some (f + 1))
 else numF t n
theorem numV_eq (t : List UInt8) : numV t = numG t (if t[0]? = some 45 then 1 else 0) := rfl
theorem pre1 (t : List UInt8) (c : UInt8) : [c].isPrefixOf t = true ↔ t[0]? = some c := by
 cases t with
 | nil => simp
 | cons b t => simp; exact eq_comm
theorem u8i (c d : UInt8) : ((c.toNat : Int) = (d.toNat : Int)) ↔ c = d := by
 constructor
 ·intro h; exact UInt8.toNat_inj.1 (by omega)
 ·rintro rfl; rfl
def hexS : List UInt8 := [48, 49, 50, 51, 52, 53, 54, 55, 56, 57, 97, 98, 99, 100, 101, 102]
def hexP (c : UInt8) : Bool := decide (hexD c = (if idxV hexS (c ||| 32) < 0 ∨ c.toNat < 48 then none else some (idxV hexS (c ||| 32)).toNat)) && decide (-1 ≤ idxV hexS (c ||| 32)) && decide (idxV hexS (c ||| 32) < 16)
theorem hexP_all : ∀ c : UInt8, hexP c = true := u8_all (by decide +kernel)
theorem hexD_idx (c : UInt8) : hexD c = (if idxV hexS (c ||| 32) < 0 ∨ c.toNat < 48 then none else some (idxV hexS (c ||| 32)).toNat) ∧ -1 ≤ idxV hexS (c ||| 32) ∧ idxV hexS (c ||| 32) < 16 := by
 have := hexP_all c
 unfold hexP at this
 simpa [and_assoc] using this
def escS : List UInt8 := [34, 92, 47, 98, 102, 110, 114, 116]
def escT : List UInt8 := [34, 92, 47, 8, 12, 10, 13, 9]
def escP (c : UInt8) : Bool := decide (escC c = (if idxV escS c < 0 then none else escT[(idxV escS c).toNat]?)) && decide (-1 ≤ idxV escS c) && decide (idxV escS c < 8)
theorem escP_all : ∀ c : UInt8, escP c = true := u8_all (by decide +kernel)
theorem escC_idx (c : UInt8) : escC c = (if idxV escS c < 0 then none else escT[(idxV escS c).toNat]?) ∧ -1 ≤ idxV escS c ∧ idxV escS c < 8 := by
 have := escP_all c
 unfold escP at this
 simpa [and_assoc] using this
theorem dw_nil {α : Type} {p : α → Bool} : ∀ {l : List α}, l.dropWhile p = [] ↔ l.all p = true
 | [] => by simp
 | x :: l => by
  rw [List.dropWhile_cons]
  by_cases h : p x = true
  ·rw [if_pos h, List.all_cons, h, Bool.true_and]; exact dw_nil
  ·rw [if_neg h]; simp [h]
theorem trimS_nil (l cs : List UInt8) : Lib.trimS l cs = [] ↔ l.all (cs.contains ·) = true := by
 unfold Lib.trimS Lib.trimLeftS Lib.trimRightS
 rw [dw_nil]
 have hr : ∀ m : List UInt8, m.reverse.all (cs.contains ·) = m.all (cs.contains ·) := fun m => by rw [List.all_reverse]
 rw [hr]
 constructor
 ·intro h
  have h2 := (dw_nil (p := (cs.contains ·)) (l := l.reverse)).1 (by
   cases hd : l.reverse.dropWhile (cs.contains ·) with
   | nil => rfl
   | cons x m =>
    exfalso
    have hx := List.head_dropWhile_not (cs.contains ·) (l := l.reverse) (by rw [hd]; simp)
    rw [hd] at h
    simp only [hd, List.head_cons] at hx
    rw [List.all_cons] at h
    simp only [Bool.and_eq_true] at h
    rw [h.1] at hx; cases hx)
  rw [hr] at h2; exact h2
 ·intro h
  rw [(dw_nil (p := (cs.contains ·)) (l := l.reverse)).2 (by rw [hr]; exact h)]
  rfl
theorem tenD_dg (t : List UInt8) : t.all (([48, 49, 50, 51, 52, 53, 54, 55, 56, 57] : List UInt8).contains ·) = t.all isDg := by
 have h : ∀ c : UInt8, (([48, 49, 50, 51, 52, 53, 54, 55, 56, 57] : List UInt8).contains c == isDg c) = true := u8_all (by decide +kernel)
 congr 1
 funext c
 exact beq_iff_eq.1 (h c)
end Go.Js
namespace Go.Proofs.YtkgmecjaejaehaaGreatDoor
open Go.Eng Go.RowKit Go.Sort Go.Js
set_option maxRecDepth 20000
attribute [local irreducible] AG CallA CallT AWp PCall ACall AgC
theorem rep_tup2 {C : Ctx} {w : World} {a b : D} {x y : Value} (h1 : Rep C w a x) (h2 : Rep C w b y) : Rep C w (.tup [a, b]) (.tuple #[x, y]) := by
 refine .tup _ _ rfl fun j c u hc hu => ?_
 match j, hc, hu with
 | 0, hc, hu => simp at hc hu; subst hc hu; exact h1
 | 1, hc, hu => simp at hc hu; subst hc hu; exact h2
 | j + 2, hc, hu => simp at hc
theorem idxB_spec (s : Bs) (c : UInt8) : PCall Tryz.prog 82 [dS s, dU c] fun r => r = dI (idxV s c) := by
 refine pcall_below ⟨_, Tryz.func82, rfl, rfl⟩ fun C w us hc hg hr => ?_
 obtain rfl := repL_v (us := [.string ⟨s.toArray⟩, .int .u8 c.toNat]) hr
 refine (Tryz.strings_IndexByte ⟨s.toArray⟩ c.toNat w).mono ?_
 rintro e w' ⟨rfl, rfl⟩
 have e1 : ((c.toNat : Int).toNat.toUInt8) = c := by simp
 have e2 : (⟨s.toArray⟩ : ByteArray).data.toList = s := by simp
 exact ⟨_, _, rfl, by rw [e1, e2, indexByte_find]; rfl, .v _, Below.refl _ _⟩
theorem hasPre_spec (s p : Bs) : PCall Tryz.prog 163 [dS s, dS p] fun r => r = dB (p.isPrefixOf s) := by
 refine pcall_below ⟨_, Tryz.func163, rfl, rfl⟩ fun C w us hc hg hr => ?_
 obtain rfl := repL_v (us := [.string ⟨s.toArray⟩, .string ⟨p.toArray⟩]) hr
 refine (Tryz.strings_HasPrefix ⟨s.toArray⟩ ⟨p.toArray⟩ w).mono ?_
 rintro e w' ⟨rfl, rfl⟩
 exact ⟨_, _, rfl, by simp [Lib.hasPrefix], .v _, Below.refl _ _⟩
theorem decode_spec (s : Bs) (h : s ≠ []) : PCall Tryz.prog 130 [dS s] fun r => r = .tup [.v (.int .i32 (Lib.decodeL s).1), dI (Lib.decodeL s).2] := by
 refine pcall_below ⟨_, Tryz.func130, rfl, rfl⟩ fun C w us hc hg hr => ?_
 have hg : glOk w := hg
 obtain rfl := repL_v (us := [.string ⟨s.toArray⟩]) hr
 have e : Lib.decodeGo ⟨s.toArray⟩ = Lib.decodeL s := by
  unfold Lib.decodeGo Lib.decodeL
  rw [if_neg]
  simpa [ByteArray.size] using h
 refine (Tryz.utf8_DecodeRuneInString ⟨s.toArray⟩ w hg.1).mono ?_
 rintro e' w' ⟨rfl, hb⟩
 rw [e]
 exact ⟨_, _, rfl, rfl, rep_tup2 (.v _) (.v _), hb⟩
theorem ascii_of_all {p : List UInt8} (h : p.all (fun b => decide (b.toNat < 128)) = true) : ∀ (j : Nat) (b : UInt8), p[j]? = some b → b.toNat < 128 := fun j b hb => by
 have := List.all_eq_true.1 h b (List.mem_of_getElem? hb)
 simpa using this
theorem trimS_spec (s p : Bs) (hs : s.length ≤ 9223372036854775807) (hpl : p.length < 4294967281) (hp : p.all (fun b => decide (b.toNat < 128)) = true) : PCall Tryz.prog 109 [dS s, dS p] fun r => r = dS (Lib.trimS s p) := by
 refine pcall_below ⟨_, Tryz.func109, rfl, rfl⟩ fun C w us hc' hg hr => ?_
 obtain rfl := repL_v (us := [.string ⟨s.toArray⟩, .string ⟨p.toArray⟩]) hr
 refine (Any.strings_Trim_laid Tryz.lays160 (by kernel_rfl) ⟨s.toArray⟩ ⟨p.toArray⟩ w (by simpa [ByteArray.size] using hs) (by simpa [ByteArray.size] using hpl) (ascii_of_all (by simpa using hp))).mono ?_
 rintro e w' ⟨rfl, hb⟩
 exact ⟨_, _, rfl, rfl, .v _, hb⟩
end Go.Proofs.YtkgmecjaejaehaaGreatDoor
